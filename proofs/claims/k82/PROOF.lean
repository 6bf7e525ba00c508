import PyProof.Rows.All
import Wide.All
import OpenK.AllK
import Wide.FinOn
import KE.KStateDown
import HandS.ForMost
import HandS.Evl
import HandS.Style
import HandS.Flow
import HandS.Conv
import HandS.Deep
import HandS.Zip
import HandS.IsInst
import HandS.IterVal
import HandS.More
import HandS.Defaults
import HandS.Exc
import HandS.RaiseMore
import HandS.HeadHook2
import HandS.Head0
import HandS.Head1
import HandS.Head2
import HandS.HeadEnd
import KE.KEqDeep
import HandS.Small
import PySem.Challenge.RW_turnpowers_k82_whole_near_ones_by_all_wo
set_option Elab.async false
set_option linter.all false
set_option maxRecDepth 100000
/-! part TPa -/
/-! the text, its facts -/
namespace TP
open PySem PySem.Spec PyProof.Rows L2
/-! ### the text by places -/
def top (i : Nat) : Stmt := PySem.Challenge.pw_turnpowers_k82_whole_near_ones_by_all_wo.main.body.getD i (.Pass ⟨0, 0, 0, 0⟩)
abbrev s_is_integer : Stmt := top 13
abbrev s_is_count : Stmt := top 14
abbrev s_is_list : Stmt := top 15
abbrev s_want_many : Stmt := top 16
abbrev s_want_at_most : Stmt := top 17
abbrev s_without_end : Stmt := top 22
abbrev s_poly_rest : Stmt := top 23
abbrev s_undone_by : Stmt := top 24
abbrev s_poly_times : Stmt := top 25
abbrev s_poly_less : Stmt := top 26
abbrev s_are_apart : Stmt := top 27
abbrev s_letter_turns : Stmt := top 28
abbrev s_is_single : Stmt := top 29
abbrev s_is_prime : Stmt := top 30
abbrev s_want_prime : Stmt := top 31
abbrev s_is_figures : Stmt := top 32
abbrev s_is_right : Stmt := top 33
abbrev s_told_number : Stmt := top 34
abbrev s_poly_of : Stmt := top 35
abbrev s_powers_by : Stmt := top 36
abbrev s_all_powers : Stmt := top 37
abbrev s_logs_by : Stmt := top 38
abbrev s_sized : Stmt := top 39
abbrev s_Field_init : Stmt := inClass (top 40) 0
abbrev s_want_field : Stmt := top 41
abbrev s_figures_of : Stmt := top 43
abbrev s_by_figures_of : Stmt := top 44
abbrev s_plus_of : Stmt := top 45
abbrev s_minus_of : Stmt := top 46
abbrev s_times_of : Stmt := top 47
abbrev s_over_of : Stmt := top 48
abbrev s_power_of : Stmt := top 49
abbrev s_turned_of : Stmt := top 50
abbrev s_less_row : Stmt := top 51
abbrev s_figure_steps : Stmt := top 52
abbrev s_rows_rank : Stmt := top 53
abbrev s_rank_of : Stmt := top 54
abbrev s_is_in : Stmt := top 55
abbrev s_told_of : Stmt := top 58
abbrev s_is_sum : Stmt := top 59
abbrev s_want_turner : Stmt := top 60
abbrev s_sum_turners : Stmt := top 61
abbrev s_less_turners : Stmt := top 62
abbrev s_worth_of : Stmt := top 63
abbrev s_are_some : Stmt := top 65
abbrev s_want_points : Stmt := top 66
abbrev s_Book_init : Stmt := inClass (top 68) 0
abbrev s_want_book : Stmt := top 69
abbrev s_word_in : Stmt := top 70
abbrev s_want_word : Stmt := top 71
abbrev s_let_of : Stmt := top 72
abbrev s_word_by : Stmt := top 73
abbrev s_differences : Stmt := top 74
abbrev s_outer_parts : Stmt := top 76
abbrev s_cleared : Stmt := top 78
abbrev s_lone_solution : Stmt := top 79
abbrev s_reach_of : Stmt := top 81
abbrev s_many_rows : Stmt := top 82
abbrev s_pair_row : Stmt := top 83
abbrev s_pair_of : Stmt := top 84
abbrev s_is_within_reach : Stmt := top 85
abbrev s_told_by_pair : Stmt := top 86
abbrev s_mended_by : Stmt := top 87
abbrev s_mended : Stmt := top 88
abbrev s_is_near : Stmt := top 89
abbrev s__law_pot : Stmt := top 91
abbrev s__law_draw : Stmt := top 92
abbrev s__law_pick : Stmt := top 93
abbrev s__law_figures : Stmt := top 94
abbrev s__law_number : Stmt := top 95
abbrev s__law_slow : Stmt := top 96
abbrev s__law_powers : Stmt := top 97
abbrev s__law_world : Stmt := top 98
abbrev s__law_times : Stmt := top 99
abbrev s__law_plus : Stmt := top 100
abbrev s__law_turned : Stmt := top 101
abbrev s__law_worth : Stmt := top 102
abbrev s__law_span : Stmt := top 103
abbrev s__law_rank : Stmt := top 104
abbrev s__law_trimmed : Stmt := top 105
abbrev s__law_kind : Stmt := top 106
abbrev s__law_free : Stmt := top 107
abbrev s__law_some : Stmt := top 108
abbrev s__law_word : Stmt := top 109
abbrev s__law_differences : Stmt := top 110
abbrev s__law_within : Stmt := top 111
abbrev s__law_spoilt : Stmt := top 112
abbrev s__law_book : Stmt := top 113
abbrev s__law_made : Stmt := top 114
abbrev s__law_all : Stmt := top 115
abbrev s__law_rank_off : Stmt := top 116
abbrev s__law_word_right : Stmt := top 117
abbrev s__law_right : Stmt := top 118
abbrev s_law : Stmt := top 119
def d_is_integer : He.DefD := ⟨("is_integer", none), "is_integer", "is_integer", defArgs s_is_integer, defBody s_is_integer, defScope s_is_integer, [], []⟩
def d_is_count : He.DefD := ⟨("is_count", none), "is_count", "is_count", defArgs s_is_count, defBody s_is_count, defScope s_is_count, [], []⟩
def d_is_list : He.DefD := ⟨("is_list", none), "is_list", "is_list", defArgs s_is_list, defBody s_is_list, defScope s_is_list, [], []⟩
def d_want_many : He.DefD := ⟨("want_many", none), "want_many", "want_many", defArgs s_want_many, defBody s_want_many, defScope s_want_many, [.non, .int 0], []⟩
def d_want_at_most : He.DefD := ⟨("want_at_most", none), "want_at_most", "want_at_most", defArgs s_want_at_most, defBody s_want_at_most, defScope s_want_at_most, [], []⟩
def d_without_end : He.DefD := ⟨("without_end", none), "without_end", "without_end", defArgs s_without_end, defBody s_without_end, defScope s_without_end, [], []⟩
def d_poly_rest : He.DefD := ⟨("poly_rest", none), "poly_rest", "poly_rest", defArgs s_poly_rest, defBody s_poly_rest, defScope s_poly_rest, [], []⟩
def d_undone_by : He.DefD := ⟨("undone_by", none), "undone_by", "undone_by", defArgs s_undone_by, defBody s_undone_by, defScope s_undone_by, [], []⟩
def d_poly_times : He.DefD := ⟨("poly_times", none), "poly_times", "poly_times", defArgs s_poly_times, defBody s_poly_times, defScope s_poly_times, [], []⟩
def d_poly_less : He.DefD := ⟨("poly_less", none), "poly_less", "poly_less", defArgs s_poly_less, defBody s_poly_less, defScope s_poly_less, [], []⟩
def d_are_apart : He.DefD := ⟨("are_apart", none), "are_apart", "are_apart", defArgs s_are_apart, defBody s_are_apart, defScope s_are_apart, [], []⟩
def d_letter_turns : He.DefD := ⟨("letter_turns", none), "letter_turns", "letter_turns", defArgs s_letter_turns, defBody s_letter_turns, defScope s_letter_turns, [], []⟩
def d_is_single : He.DefD := ⟨("is_single", none), "is_single", "is_single", defArgs s_is_single, defBody s_is_single, defScope s_is_single, [], []⟩
def d_is_prime : He.DefD := ⟨("is_prime", none), "is_prime", "is_prime", defArgs s_is_prime, defBody s_is_prime, defScope s_is_prime, [], []⟩
def d_want_prime : He.DefD := ⟨("want_prime", none), "want_prime", "want_prime", defArgs s_want_prime, defBody s_want_prime, defScope s_want_prime, [], []⟩
def d_is_figures : He.DefD := ⟨("is_figures", none), "is_figures", "is_figures", defArgs s_is_figures, defBody s_is_figures, defScope s_is_figures, [], []⟩
def d_is_right : He.DefD := ⟨("is_right", none), "is_right", "is_right", defArgs s_is_right, defBody s_is_right, defScope s_is_right, [], []⟩
def d_told_number : He.DefD := ⟨("told_number", none), "told_number", "told_number", defArgs s_told_number, defBody s_told_number, defScope s_told_number, [], []⟩
def d_poly_of : He.DefD := ⟨("poly_of", none), "poly_of", "poly_of", defArgs s_poly_of, defBody s_poly_of, defScope s_poly_of, [], []⟩
def d_powers_by : He.DefD := ⟨("powers_by", none), "powers_by", "powers_by", defArgs s_powers_by, defBody s_powers_by, defScope s_powers_by, [], []⟩
def d_all_powers : He.DefD := ⟨("all_powers", none), "all_powers", "all_powers", defArgs s_all_powers, defBody s_all_powers, defScope s_all_powers, [], []⟩
def d_logs_by : He.DefD := ⟨("logs_by", none), "logs_by", "logs_by", defArgs s_logs_by, defBody s_logs_by, defScope s_logs_by, [], []⟩
def d_sized : He.DefD := ⟨("sized", none), "sized", "sized", defArgs s_sized, defBody s_sized, defScope s_sized, [], []⟩
def d_Field_init : He.DefD := ⟨("Field", some "__init__"), "__init__", "Field.__init__", defArgs s_Field_init, defBody s_Field_init, defScope s_Field_init, [], []⟩
def d_want_field : He.DefD := ⟨("want_field", none), "want_field", "want_field", defArgs s_want_field, defBody s_want_field, defScope s_want_field, [], []⟩
def d_figures_of : He.DefD := ⟨("figures_of", none), "figures_of", "figures_of", defArgs s_figures_of, defBody s_figures_of, defScope s_figures_of, [], []⟩
def d_by_figures_of : He.DefD := ⟨("by_figures_of", none), "by_figures_of", "by_figures_of", defArgs s_by_figures_of, defBody s_by_figures_of, defScope s_by_figures_of, [], []⟩
def d_plus_of : He.DefD := ⟨("plus_of", none), "plus_of", "plus_of", defArgs s_plus_of, defBody s_plus_of, defScope s_plus_of, [], []⟩
def d_minus_of : He.DefD := ⟨("minus_of", none), "minus_of", "minus_of", defArgs s_minus_of, defBody s_minus_of, defScope s_minus_of, [], []⟩
def d_times_of : He.DefD := ⟨("times_of", none), "times_of", "times_of", defArgs s_times_of, defBody s_times_of, defScope s_times_of, [], []⟩
def d_over_of : He.DefD := ⟨("over_of", none), "over_of", "over_of", defArgs s_over_of, defBody s_over_of, defScope s_over_of, [], []⟩
def d_power_of : He.DefD := ⟨("power_of", none), "power_of", "power_of", defArgs s_power_of, defBody s_power_of, defScope s_power_of, [], []⟩
def d_turned_of : He.DefD := ⟨("turned_of", none), "turned_of", "turned_of", defArgs s_turned_of, defBody s_turned_of, defScope s_turned_of, [], []⟩
def d_less_row : He.DefD := ⟨("less_row", none), "less_row", "less_row", defArgs s_less_row, defBody s_less_row, defScope s_less_row, [], []⟩
def d_figure_steps : He.DefD := ⟨("figure_steps", none), "figure_steps", "figure_steps", defArgs s_figure_steps, defBody s_figure_steps, defScope s_figure_steps, [], []⟩
def d_rows_rank : He.DefD := ⟨("rows_rank", none), "rows_rank", "rows_rank", defArgs s_rows_rank, defBody s_rows_rank, defScope s_rows_rank, [], []⟩
def d_rank_of : He.DefD := ⟨("rank_of", none), "rank_of", "rank_of", defArgs s_rank_of, defBody s_rank_of, defScope s_rank_of, [], []⟩
def d_is_in : He.DefD := ⟨("is_in", none), "is_in", "is_in", defArgs s_is_in, defBody s_is_in, defScope s_is_in, [], []⟩
def d_told_of : He.DefD := ⟨("told_of", none), "told_of", "told_of", defArgs s_told_of, defBody s_told_of, defScope s_told_of, [], []⟩
def d_is_sum : He.DefD := ⟨("is_sum", none), "is_sum", "is_sum", defArgs s_is_sum, defBody s_is_sum, defScope s_is_sum, [], []⟩
def d_want_turner : He.DefD := ⟨("want_turner", none), "want_turner", "want_turner", defArgs s_want_turner, defBody s_want_turner, defScope s_want_turner, [], []⟩
def d_sum_turners : He.DefD := ⟨("sum_turners", none), "sum_turners", "sum_turners", defArgs s_sum_turners, defBody s_sum_turners, defScope s_sum_turners, [], []⟩
def d_less_turners : He.DefD := ⟨("less_turners", none), "less_turners", "less_turners", defArgs s_less_turners, defBody s_less_turners, defScope s_less_turners, [], []⟩
def d_worth_of : He.DefD := ⟨("worth_of", none), "worth_of", "worth_of", defArgs s_worth_of, defBody s_worth_of, defScope s_worth_of, [], []⟩
def d_are_some : He.DefD := ⟨("are_some", none), "are_some", "are_some", defArgs s_are_some, defBody s_are_some, defScope s_are_some, [], []⟩
def d_want_points : He.DefD := ⟨("want_points", none), "want_points", "want_points", defArgs s_want_points, defBody s_want_points, defScope s_want_points, [], []⟩
def d_Book_init : He.DefD := ⟨("Book", some "__init__"), "__init__", "Book.__init__", defArgs s_Book_init, defBody s_Book_init, defScope s_Book_init, [], []⟩
def d_want_book : He.DefD := ⟨("want_book", none), "want_book", "want_book", defArgs s_want_book, defBody s_want_book, defScope s_want_book, [], []⟩
def d_word_in : He.DefD := ⟨("word_in", none), "word_in", "word_in", defArgs s_word_in, defBody s_word_in, defScope s_word_in, [], []⟩
def d_want_word : He.DefD := ⟨("want_word", none), "want_word", "want_word", defArgs s_want_word, defBody s_want_word, defScope s_want_word, [], []⟩
def d_let_of : He.DefD := ⟨("let_of", none), "let_of", "let_of", defArgs s_let_of, defBody s_let_of, defScope s_let_of, [], []⟩
def d_word_by : He.DefD := ⟨("word_by", none), "word_by", "word_by", defArgs s_word_by, defBody s_word_by, defScope s_word_by, [], []⟩
def d_differences : He.DefD := ⟨("differences", none), "differences", "differences", defArgs s_differences, defBody s_differences, defScope s_differences, [], []⟩
def d_outer_parts : He.DefD := ⟨("outer_parts", none), "outer_parts", "outer_parts", defArgs s_outer_parts, defBody s_outer_parts, defScope s_outer_parts, [], []⟩
def d_cleared : He.DefD := ⟨("cleared", none), "cleared", "cleared", defArgs s_cleared, defBody s_cleared, defScope s_cleared, [], []⟩
def d_lone_solution : He.DefD := ⟨("lone_solution", none), "lone_solution", "lone_solution", defArgs s_lone_solution, defBody s_lone_solution, defScope s_lone_solution, [], []⟩
def d_reach_of : He.DefD := ⟨("reach_of", none), "reach_of", "reach_of", defArgs s_reach_of, defBody s_reach_of, defScope s_reach_of, [], []⟩
def d_many_rows : He.DefD := ⟨("many_rows", none), "many_rows", "many_rows", defArgs s_many_rows, defBody s_many_rows, defScope s_many_rows, [], []⟩
def d_pair_row : He.DefD := ⟨("pair_row", none), "pair_row", "pair_row", defArgs s_pair_row, defBody s_pair_row, defScope s_pair_row, [], []⟩
def d_pair_of : He.DefD := ⟨("pair_of", none), "pair_of", "pair_of", defArgs s_pair_of, defBody s_pair_of, defScope s_pair_of, [], []⟩
def d_is_within_reach : He.DefD := ⟨("is_within_reach", none), "is_within_reach", "is_within_reach", defArgs s_is_within_reach, defBody s_is_within_reach, defScope s_is_within_reach, [], []⟩
def d_told_by_pair : He.DefD := ⟨("told_by_pair", none), "told_by_pair", "told_by_pair", defArgs s_told_by_pair, defBody s_told_by_pair, defScope s_told_by_pair, [], []⟩
def d_mended_by : He.DefD := ⟨("mended_by", none), "mended_by", "mended_by", defArgs s_mended_by, defBody s_mended_by, defScope s_mended_by, [], []⟩
def d_mended : He.DefD := ⟨("mended", none), "mended", "mended", defArgs s_mended, defBody s_mended, defScope s_mended, [], []⟩
def d_is_near : He.DefD := ⟨("is_near", none), "is_near", "is_near", defArgs s_is_near, defBody s_is_near, defScope s_is_near, [], []⟩
def d__law_pot : He.DefD := ⟨("_law_pot", none), "_law_pot", "_law_pot", defArgs s__law_pot, defBody s__law_pot, defScope s__law_pot, [], []⟩
def d__law_draw : He.DefD := ⟨("_law_draw", none), "_law_draw", "_law_draw", defArgs s__law_draw, defBody s__law_draw, defScope s__law_draw, [], []⟩
def d__law_pick : He.DefD := ⟨("_law_pick", none), "_law_pick", "_law_pick", defArgs s__law_pick, defBody s__law_pick, defScope s__law_pick, [], []⟩
def d__law_figures : He.DefD := ⟨("_law_figures", none), "_law_figures", "_law_figures", defArgs s__law_figures, defBody s__law_figures, defScope s__law_figures, [], []⟩
def d__law_number : He.DefD := ⟨("_law_number", none), "_law_number", "_law_number", defArgs s__law_number, defBody s__law_number, defScope s__law_number, [], []⟩
def d__law_slow : He.DefD := ⟨("_law_slow", none), "_law_slow", "_law_slow", defArgs s__law_slow, defBody s__law_slow, defScope s__law_slow, [], []⟩
def d__law_powers : He.DefD := ⟨("_law_powers", none), "_law_powers", "_law_powers", defArgs s__law_powers, defBody s__law_powers, defScope s__law_powers, [], []⟩
def d__law_world : He.DefD := ⟨("_law_world", none), "_law_world", "_law_world", defArgs s__law_world, defBody s__law_world, defScope s__law_world, [], []⟩
def d__law_times : He.DefD := ⟨("_law_times", none), "_law_times", "_law_times", defArgs s__law_times, defBody s__law_times, defScope s__law_times, [], []⟩
def d__law_plus : He.DefD := ⟨("_law_plus", none), "_law_plus", "_law_plus", defArgs s__law_plus, defBody s__law_plus, defScope s__law_plus, [], []⟩
def d__law_turned : He.DefD := ⟨("_law_turned", none), "_law_turned", "_law_turned", defArgs s__law_turned, defBody s__law_turned, defScope s__law_turned, [], []⟩
def d__law_worth : He.DefD := ⟨("_law_worth", none), "_law_worth", "_law_worth", defArgs s__law_worth, defBody s__law_worth, defScope s__law_worth, [], []⟩
def d__law_span : He.DefD := ⟨("_law_span", none), "_law_span", "_law_span", defArgs s__law_span, defBody s__law_span, defScope s__law_span, [], []⟩
def d__law_rank : He.DefD := ⟨("_law_rank", none), "_law_rank", "_law_rank", defArgs s__law_rank, defBody s__law_rank, defScope s__law_rank, [], []⟩
def d__law_trimmed : He.DefD := ⟨("_law_trimmed", none), "_law_trimmed", "_law_trimmed", defArgs s__law_trimmed, defBody s__law_trimmed, defScope s__law_trimmed, [], []⟩
def d__law_kind : He.DefD := ⟨("_law_kind", none), "_law_kind", "_law_kind", defArgs s__law_kind, defBody s__law_kind, defScope s__law_kind, [], []⟩
def d__law_free : He.DefD := ⟨("_law_free", none), "_law_free", "_law_free", defArgs s__law_free, defBody s__law_free, defScope s__law_free, [], []⟩
def d__law_some : He.DefD := ⟨("_law_some", none), "_law_some", "_law_some", defArgs s__law_some, defBody s__law_some, defScope s__law_some, [], []⟩
def d__law_word : He.DefD := ⟨("_law_word", none), "_law_word", "_law_word", defArgs s__law_word, defBody s__law_word, defScope s__law_word, [], []⟩
def d__law_differences : He.DefD := ⟨("_law_differences", none), "_law_differences", "_law_differences", defArgs s__law_differences, defBody s__law_differences, defScope s__law_differences, [], []⟩
def d__law_within : He.DefD := ⟨("_law_within", none), "_law_within", "_law_within", defArgs s__law_within, defBody s__law_within, defScope s__law_within, [], []⟩
def d__law_spoilt : He.DefD := ⟨("_law_spoilt", none), "_law_spoilt", "_law_spoilt", defArgs s__law_spoilt, defBody s__law_spoilt, defScope s__law_spoilt, [], []⟩
def d__law_book : He.DefD := ⟨("_law_book", none), "_law_book", "_law_book", defArgs s__law_book, defBody s__law_book, defScope s__law_book, [], []⟩
def d__law_made : He.DefD := ⟨("_law_made", none), "_law_made", "_law_made", defArgs s__law_made, defBody s__law_made, defScope s__law_made, [], []⟩
def d__law_all : He.DefD := ⟨("_law_all", none), "_law_all", "_law_all", defArgs s__law_all, defBody s__law_all, defScope s__law_all, [], []⟩
def d__law_rank_off : He.DefD := ⟨("_law_rank_off", none), "_law_rank_off", "_law_rank_off", defArgs s__law_rank_off, defBody s__law_rank_off, defScope s__law_rank_off, [], []⟩
def d__law_word_right : He.DefD := ⟨("_law_word_right", none), "_law_word_right", "_law_word_right", defArgs s__law_word_right, defBody s__law_word_right, defScope s__law_word_right, [], []⟩
def d__law_right : He.DefD := ⟨("_law_right", none), "_law_right", "_law_right", defArgs s__law_right, defBody s__law_right, defScope s__law_right, [], []⟩
def d_law : He.DefD := ⟨("law", none), "law", "law", defArgs s_law, defBody s_law, defScope s_law, [], []⟩
def fn : List He.DefD := [d_is_integer, d_is_count, d_is_list, d_want_many, d_want_at_most, d_without_end, d_poly_rest, d_undone_by, d_poly_times, d_poly_less, d_are_apart, d_letter_turns, d_is_single, d_is_prime, d_want_prime, d_is_figures, d_is_right, d_told_number, d_poly_of, d_powers_by, d_all_powers, d_logs_by, d_sized, d_Field_init, d_want_field, d_figures_of, d_by_figures_of, d_plus_of, d_minus_of, d_times_of, d_over_of, d_power_of, d_turned_of, d_less_row, d_figure_steps, d_rows_rank, d_rank_of, d_is_in, d_told_of, d_is_sum, d_want_turner, d_sum_turners, d_less_turners, d_worth_of, d_are_some, d_want_points, d_Book_init, d_want_book, d_word_in, d_want_word, d_let_of, d_word_by, d_differences, d_outer_parts, d_cleared, d_lone_solution, d_reach_of, d_many_rows, d_pair_row, d_pair_of, d_is_within_reach, d_told_by_pair, d_mended_by, d_mended, d_is_near, d__law_pot, d__law_draw, d__law_pick, d__law_figures, d__law_number, d__law_slow, d__law_powers, d__law_world, d__law_times, d__law_plus, d__law_turned, d__law_worth, d__law_span, d__law_rank, d__law_trimmed, d__law_kind, d__law_free, d__law_some, d__law_word, d__law_differences, d__law_within, d__law_spoilt, d__law_book, d__law_made, d__law_all, d__law_rank_off, d__law_word_right, d__law_right, d_law]
def fa : List He.Fa := [.glo "is_integer", .glo "is_count", .glo "is_list", .glo "want_many", .glo "want_at_most", .glo "without_end", .glo "poly_rest", .glo "undone_by", .glo "poly_times", .glo "poly_less", .glo "are_apart", .glo "letter_turns", .glo "is_single", .glo "is_prime", .glo "want_prime", .glo "is_figures", .glo "is_right", .glo "told_number", .glo "poly_of", .glo "powers_by", .glo "all_powers", .glo "logs_by", .glo "sized", .glo "want_field", .glo "figures_of", .glo "by_figures_of", .glo "plus_of", .glo "minus_of", .glo "times_of", .glo "over_of", .glo "power_of", .glo "turned_of", .glo "less_row", .glo "figure_steps", .glo "rows_rank", .glo "rank_of", .glo "is_in", .glo "told_of", .glo "is_sum", .glo "want_turner", .glo "sum_turners", .glo "less_turners", .glo "worth_of", .glo "are_some", .glo "want_points", .glo "want_book", .glo "word_in", .glo "want_word", .glo "let_of", .glo "word_by", .glo "differences", .glo "outer_parts", .glo "cleared", .glo "lone_solution", .glo "reach_of", .glo "many_rows", .glo "pair_row", .glo "pair_of", .glo "is_within_reach", .glo "told_by_pair", .glo "mended_by", .glo "mended", .glo "is_near", .glo "_law_pot", .glo "_law_draw", .glo "_law_pick", .glo "_law_figures", .glo "_law_number", .glo "_law_slow", .glo "_law_powers", .glo "_law_world", .glo "_law_times", .glo "_law_plus", .glo "_law_turned", .glo "_law_worth", .glo "_law_span", .glo "_law_rank", .glo "_law_trimmed", .glo "_law_kind", .glo "_law_free", .glo "_law_some", .glo "_law_word", .glo "_law_differences", .glo "_law_within", .glo "_law_spoilt", .glo "_law_book", .glo "_law_made", .glo "_law_all", .glo "_law_rank_off", .glo "_law_word_right", .glo "_law_right", .glo "law", .glo "Field", .glo "Book", .glo "PRIMES", .free "abs", .free "all", .free "bool", .free "divmod", .free "enumerate", .free "int", .free "isinstance", .free "len", .free "list", .free "max", .free "min", .free "range", .free "repr", .free "tuple", .free "zip", .int "MOST_SIZE" 128, .int "MOST_TURNS" 12, .int "MOST_ELEMENTS" 13, .cls "Field", .mkr "Field", .noat "Field" "own_prime", .noat "Field" "own_turns", .noat "Field" "own_size", .noat "Field" "own_modulus", .noat "Field" "own_powers", .noat "Field" "own_logs", .cls "Book", .mkr "Book", .noat "Book" "own_field", .noat "Book" "own_points", .noat "Book" "own_many"]
/-- instances of the class x are of it -/
def insB (K : PySem.W.Frag) (x : Str) : Bool := decide (PySem.W.findIn K (.ref (He.ga K x)) "__class__" = some (some (.builtin "object.__class__"))) && (decide (PySem.W.specialIn K (.builtin "object.__class__") "__get__" = some (some (.builtin "getset_descriptor.__get__"))) &&
  (decide (PySem.W.takesIn K (.builtin "object.__class__") = some true) && decide (PySem.W.mroIn K (He.ga K x) (.type "object") = some true)))
def exB (K : PySem.W.Frag) : Bool := He.tupB K "PRIMES" [.int 2, .int 3, .int 5, .int 7] && (insB K "Field" && insB K "Book")
/-- what the top has left -/
structure Txt (K : PySem.W.Frag) (mg : Str → Option Value) : Prop where
  h : ∃ h : Heap, K.In h ∧ h.Ns mainGlobals mg
  c : He.SaysD fa fn K
  b : exB K = true
section
variable {K : PySem.W.Frag} {mg : Str → Option Value}
theorem Txt.g_Field (T : Txt K mg) : mg "Field" = some (.ref (He.ga K "Field")) := by
  obtain ⟨h, X, G⟩ := T.h
  exact He.glo_ok X G (T.c.fact 92 (f := .glo "Field") rfl)
theorem Txt.g_Book (T : Txt K mg) : mg "Book" = some (.ref (He.ga K "Book")) := by
  obtain ⟨h, X, G⟩ := T.h
  exact He.glo_ok X G (T.c.fact 93 (f := .glo "Book") rfl)
theorem Txt.g_PRIMES (T : Txt K mg) : mg "PRIMES" = some (.ref (He.ga K "PRIMES")) := by
  obtain ⟨h, X, G⟩ := T.h
  exact He.glo_ok X G (T.c.fact 94 (f := .glo "PRIMES") rfl)
theorem Txt.n_abs (T : Txt K mg) : mg "abs" = none := by
  obtain ⟨h, X, G⟩ := T.h
  exact He.free_ok X G (T.c.fact 95 (f := .free "abs") rfl)
theorem Txt.n_all (T : Txt K mg) : mg "all" = none := by
  obtain ⟨h, X, G⟩ := T.h
  exact He.free_ok X G (T.c.fact 96 (f := .free "all") rfl)
theorem Txt.n_bool (T : Txt K mg) : mg "bool" = none := by
  obtain ⟨h, X, G⟩ := T.h
  exact He.free_ok X G (T.c.fact 97 (f := .free "bool") rfl)
theorem Txt.n_divmod (T : Txt K mg) : mg "divmod" = none := by
  obtain ⟨h, X, G⟩ := T.h
  exact He.free_ok X G (T.c.fact 98 (f := .free "divmod") rfl)
theorem Txt.n_enumerate (T : Txt K mg) : mg "enumerate" = none := by
  obtain ⟨h, X, G⟩ := T.h
  exact He.free_ok X G (T.c.fact 99 (f := .free "enumerate") rfl)
theorem Txt.n_int (T : Txt K mg) : mg "int" = none := by
  obtain ⟨h, X, G⟩ := T.h
  exact He.free_ok X G (T.c.fact 100 (f := .free "int") rfl)
theorem Txt.n_isinstance (T : Txt K mg) : mg "isinstance" = none := by
  obtain ⟨h, X, G⟩ := T.h
  exact He.free_ok X G (T.c.fact 101 (f := .free "isinstance") rfl)
theorem Txt.n_len (T : Txt K mg) : mg "len" = none := by
  obtain ⟨h, X, G⟩ := T.h
  exact He.free_ok X G (T.c.fact 102 (f := .free "len") rfl)
theorem Txt.n_list (T : Txt K mg) : mg "list" = none := by
  obtain ⟨h, X, G⟩ := T.h
  exact He.free_ok X G (T.c.fact 103 (f := .free "list") rfl)
theorem Txt.n_max (T : Txt K mg) : mg "max" = none := by
  obtain ⟨h, X, G⟩ := T.h
  exact He.free_ok X G (T.c.fact 104 (f := .free "max") rfl)
theorem Txt.n_min (T : Txt K mg) : mg "min" = none := by
  obtain ⟨h, X, G⟩ := T.h
  exact He.free_ok X G (T.c.fact 105 (f := .free "min") rfl)
theorem Txt.n_range (T : Txt K mg) : mg "range" = none := by
  obtain ⟨h, X, G⟩ := T.h
  exact He.free_ok X G (T.c.fact 106 (f := .free "range") rfl)
theorem Txt.n_repr (T : Txt K mg) : mg "repr" = none := by
  obtain ⟨h, X, G⟩ := T.h
  exact He.free_ok X G (T.c.fact 107 (f := .free "repr") rfl)
theorem Txt.n_tuple (T : Txt K mg) : mg "tuple" = none := by
  obtain ⟨h, X, G⟩ := T.h
  exact He.free_ok X G (T.c.fact 108 (f := .free "tuple") rfl)
theorem Txt.n_zip (T : Txt K mg) : mg "zip" = none := by
  obtain ⟨h, X, G⟩ := T.h
  exact He.free_ok X G (T.c.fact 109 (f := .free "zip") rfl)
theorem Txt.i_MOST_SIZE (T : Txt K mg) : ∃ t, mg "MOST_SIZE" = some (.int 128 t) := by
  obtain ⟨h, X, G⟩ := T.h
  exact He.int_ok X G (T.c.fact 110 (f := .int "MOST_SIZE" 128) rfl)
theorem Txt.i_MOST_TURNS (T : Txt K mg) : ∃ t, mg "MOST_TURNS" = some (.int 12 t) := by
  obtain ⟨h, X, G⟩ := T.h
  exact He.int_ok X G (T.c.fact 111 (f := .int "MOST_TURNS" 12) rfl)
theorem Txt.i_MOST_ELEMENTS (T : Txt K mg) : ∃ t, mg "MOST_ELEMENTS" = some (.int 13 t) := by
  obtain ⟨h, X, G⟩ := T.h
  exact He.int_ok X G (T.c.fact 112 (f := .int "MOST_ELEMENTS" 13) rfl)
theorem Txt.c_Field (T : Txt K mg) : Cls K (He.ga K "Field") := He.cls_ok (T.c.fact 113 (f := .cls "Field") rfl)
theorem Txt.m_Field (T : Txt K mg) : Mk K (He.ga K "Field") (He.ma K (He.ga K "Field") "__init__") := He.mkr_ok (T.c.fact 114 (f := .mkr "Field") rfl)
theorem Txt.a_Field_own_prime (T : Txt K mg) : NoAttr K (He.ga K "Field") "own_prime" := He.noat_ok (T.c.fact 115 (f := .noat "Field" "own_prime") rfl)
theorem Txt.a_Field_own_turns (T : Txt K mg) : NoAttr K (He.ga K "Field") "own_turns" := He.noat_ok (T.c.fact 116 (f := .noat "Field" "own_turns") rfl)
theorem Txt.a_Field_own_size (T : Txt K mg) : NoAttr K (He.ga K "Field") "own_size" := He.noat_ok (T.c.fact 117 (f := .noat "Field" "own_size") rfl)
theorem Txt.a_Field_own_modulus (T : Txt K mg) : NoAttr K (He.ga K "Field") "own_modulus" := He.noat_ok (T.c.fact 118 (f := .noat "Field" "own_modulus") rfl)
theorem Txt.a_Field_own_powers (T : Txt K mg) : NoAttr K (He.ga K "Field") "own_powers" := He.noat_ok (T.c.fact 119 (f := .noat "Field" "own_powers") rfl)
theorem Txt.a_Field_own_logs (T : Txt K mg) : NoAttr K (He.ga K "Field") "own_logs" := He.noat_ok (T.c.fact 120 (f := .noat "Field" "own_logs") rfl)
theorem Txt.c_Book (T : Txt K mg) : Cls K (He.ga K "Book") := He.cls_ok (T.c.fact 121 (f := .cls "Book") rfl)
theorem Txt.m_Book (T : Txt K mg) : Mk K (He.ga K "Book") (He.ma K (He.ga K "Book") "__init__") := He.mkr_ok (T.c.fact 122 (f := .mkr "Book") rfl)
theorem Txt.a_Book_own_field (T : Txt K mg) : NoAttr K (He.ga K "Book") "own_field" := He.noat_ok (T.c.fact 123 (f := .noat "Book" "own_field") rfl)
theorem Txt.a_Book_own_points (T : Txt K mg) : NoAttr K (He.ga K "Book") "own_points" := He.noat_ok (T.c.fact 124 (f := .noat "Book" "own_points") rfl)
theorem Txt.a_Book_own_many (T : Txt K mg) : NoAttr K (He.ga K "Book") "own_many" := He.noat_ok (T.c.fact 125 (f := .noat "Book" "own_many") rfl)
theorem Txt.primes (T : Txt K mg) (H : Hp) : SqT K H (He.ga K "PRIMES") [.int 2, .int 3, .int 5, .int 7] := He.tupB_ok (He.ba T.b).1 H
theorem ty_ins {x : Str} {H : Hp} {a dx : Addr} {fs : List (Str × V)} (c : Cls K (He.ga K x)) (b : insB K x = true) (e : H a = some (.ins (He.ga K x) dx fs)) : TyX K H (.ref a) (.ref (He.ga K x)) := by
  obtain ⟨b1, b2⟩ := He.ba b
  obtain ⟨b3, b4⟩ := He.ba b2
  obtain ⟨b5, b6⟩ := He.ba b4
  exact .base (.ins e c (of_decide_eq_true b1) (of_decide_eq_true b3) (of_decide_eq_true b5) (of_decide_eq_true b6))
theorem Txt.t_Field (T : Txt K mg) {H : Hp} {a dx : Addr} {fs : List (Str × V)} (e : H a = some (.ins (He.ga K "Field") dx fs)) : TyX K H (.ref a) (.ref (He.ga K "Field")) := ty_ins T.c_Field (He.ba (He.ba T.b).2).1 e
theorem Txt.t_Book (T : Txt K mg) {H : Hp} {a dx : Addr} {fs : List (Str × V)} (e : H a = some (.ins (He.ga K "Book") dx fs)) : TyX K H (.ref a) (.ref (He.ga K "Book")) := ty_ins T.c_Book (He.ba (He.ba T.b).2).2 e
theorem kit_self (C : Addr) : PySem.W.kitOne K (.ref C) (.ref C) = some true := by
  unfold PySem.W.kitOne
  rw [if_pos (by simp)]
end
end TP
/-! part TPb -/
/-! the layer of this proof: forgetting, loops over pairs, steps -/
namespace TP
open PySem PySem.Spec PyProof.Rows L2

/-! ### forgetting what is not needed any more -/
def okO (H : Hp) (a : Addr) : HO → Prop
  | .ins _ dx _ => H dx = some (.own a)
  | .dT _ => False
  | .frz _ u => okO H a u
  | _ => True
/-- no dict with tuple keys; instances have their own dicts -/
def Wl (H : Hp) : Prop := ∀ a o, H a = some o → okO H a o
def isT : HO → Prop
  | .tup _ => True
  | .frz _ _ => True
  | .tbl _ => True
  | _ => False
/-- what may never be forgotten is kept -/
def Prs (A B : Hp) : Prop := ∀ a o, A a = some o → isT o → B a = some o
theorem Prs.refl (A : Hp) : Prs A A := fun _ _ e _ => e
theorem Prs.same {A B : Hp} (e : Same A B) : Prs A B := fun a o q _ => e a o q
theorem obj_forget {P : Program} {w : World} {A B : Hp} {h : Heap} {a : Addr} : ∀ {o : HO}, ObjOk P w B h a o → okO A a o → ObjOk P w A h a o
  | .lst _, x, _ => x
  | .tup _, x, _ => x
  | .dK _, x, _ => x
  | .dT _, _, z => z.elim
  | .set _ _, x, _ => x
  | .ins _ _ _, x, z => ⟨z, x.2⟩
  | .own _, x, _ => x
  | .xd _, x, _ => x
  | .met _ _, x, _ => x
  | .rng _ _, x, _ => x
  | .frz _ u, x, z => ⟨x.1, obj_forget (o := u) x.2 z⟩
  | .tbl _, x, _ => x
  | .ext _, x, _ => x
theorem hok_forget {P : Program} {w : World} {A B : Hp} {h : Heap} (x : HOk P w B h) (e : Same A B) (wl : Wl A) : HOk P w A h :=
  fun a o q => obj_forget (x a o (e a o q)) (wl a o q)
theorem none_of_same {A B : Hp} (e : Same A B) {b : Addr} (h : B b = none) : A b = none := e.free h
section
variable {X : Cx} {pins : List (Addr × Obj)} {st st' : L2.St} {A B C : Hp} {s s' : Shared}
/-- from a state that holds C to one that holds A, a part of it, where A has what A0 (held before) may not lose -/
theorem inv_forget {A0 : Hp} (I0 : Inv X pins st' A0 s') (I : Inv X pins st C s) (e : Same A C) (wl : Wl A) (p : Prs A0 A) : Inv X pins st A s where
  ok := I.ok
  os := I.os
  bare := I.bare
  base :=
    { keep := I.base.keep
      slot := I.base.slot
      free := fun b o q n hx => none_of_same e (I.base.free b o q n hx)
      there := I.base.there
      tups := fun b xs q => p b _ (I0.base.tups b xs q) trivial
      frzs := fun b o u q => p b _ (I0.base.frzs b o u q) trivial
      tbls := fun b ps q => by
        obtain ⟨more, z⟩ := I0.base.tbls b ps q
        exact ⟨more, p b _ z trivial⟩ }
  loc := I.loc
  cell := I.cell
  free := none_of_same e I.free
  freeC := fun y c q => none_of_same e (I.freeC y c q)
  pin := fun q hq => ⟨(I.pin q hq).1, none_of_same e (I.pin q hq).2.1, (I.pin q hq).2.2⟩
  hok := hok_forget I.hok e wl
  len := I.len
end
/-- some part of B that keeps what A may not lose, and of which R is true -/
def Fg (A B : Hp) (R : Hp → Prop) : Prop := ∃ C, Same C B ∧ Wl C ∧ Prs A C ∧ R C
def tF (t : TE) : TE := fun st H Q => t st H fun v H' => Fg H H' (Q v)
def tTF (t : TT) : TT := fun st H Q => t st H fun v H' => Fg H H' (Q v)
def endsF (H : Hp) (D : Ends) : Ends := { nx := fun st' H' => Fg H H' (D.nx st'), rt := fun v H' => Fg H H' (D.rt v), bk := fun st' H' => Fg H H' (D.bk st'), ct := fun st' H' => Fg H H' (D.ct st') }
def tSF (t : TS) : TS := fun D st H => t (endsF H D) st H
section
variable {X : Cx}
theorem pe_f {e : Expr} {t : TE} (h : PE X e t) : PE X e (tF t) := by
  refine ⟨fun pins s st H Q I hw => thn (h.run pins s st H _ I hw) fun u s' hq => ?_⟩
  obtain ⟨v, H', I', r, C, e1, wl, pr, q⟩ := hq
  exact ⟨v, C, inv_forget I I' e1 wl pr, r, q⟩
theorem pt_f {e : Expr} {t : TT} (h : PT X e t) : PT X e (tTF t) := by
  refine ⟨fun pins s st H Q I hw => thn (h.run pins s st H _ I hw) fun u s' hq => ?_⟩
  obtain ⟨H', I', C, e1, wl, pr, q⟩ := hq
  exact ⟨C, inv_forget I I' e1 wl pr, q⟩
theorem sp_f {pins : List (Addr × Obj)} {D : Ends} {st : L2.St} {H : Hp} {s s' : Shared} {f : Flow} (I : Inv X pins st H s) (h : SP X pins (endsF H D) f s') : SP X pins D f s' := by
  cases f with
  | next =>
    obtain ⟨st', H', I', C, e1, wl, pr, q⟩ := h
    exact ⟨st', C, inv_forget I I' e1 wl pr, q⟩
  | brk =>
    obtain ⟨st', H', I', C, e1, wl, pr, q⟩ := h
    exact ⟨st', C, inv_forget I I' e1 wl pr, q⟩
  | cont =>
    obtain ⟨st', H', I', C, e1, wl, pr, q⟩ := h
    exact ⟨st', C, inv_forget I I' e1 wl pr, q⟩
  | ret u =>
    obtain ⟨v, st', H', I', r, C, e1, wl, pr, q⟩ := h
    exact ⟨v, st', C, inv_forget I I' e1 wl pr, r, q⟩
theorem ps_f {b : Stmt} {t : TS} (h : PS X b t) : PS X b (tSF t) :=
  ⟨fun pins s st H D I hw => thn (h.run pins s st H (endsF H D) I hw) fun f s' hq => sp_f I hq⟩
theorem pss_f {b : List Stmt} {t : TS} (h : PSs X b t) : PSs X b (tSF t) :=
  ⟨fun pins s st H D I hw => thn (h.run pins s st H (endsF H D) I hw) fun f s' hq => sp_f I hq⟩
end

/-! ### pairs that a zip or an enumerate hands out: tracked until they are unpacked -/
def TupO (T : Addr) (xs : List V) (h : Heap) : Prop := xs.length ≤ sizeLine ∧ ∃ its : List Value, Vals xs its ∧ IsTup h T its.toArray
/-- an iterator that yields new tuples, told by the droppable kind -/
def TupJ (J : It) : Prop := ∀ i H v H', J.yld i H v H' → ∃ T xs, v = .ref T ∧ H T = none ∧ H' = upd H T (.tup xs)
def ItD (J : It) : It where
  go := fun i H => J.go i H ∧ Wl H
  yld := fun i H v H' => ∃ T xs, v = .ref T ∧ H T = none ∧ J.yld i H v (upd H T (.tup xs)) ∧ H' = upd H T (.ext (TupO T xs))
  stop := J.stop
section
variable {X : Cx} {pins : List (Addr × Obj)} {st st' : L2.St} {A : Hp} {s s' : Shared}
theorem inv_retag {T : Addr} {xs : List V} (I0 : Inv X pins st A s) (I : Inv X pins st (upd A T (.tup xs)) s') (n : A T = none) (wl : Wl A) : Inv X pins st (upd A T (.ext (TupO T xs))) s' := by
  have q0 : TupO T xs s'.heap := I.hok T _ upd_same
  have there : ∃ o, s'.heap.get? T = some o := by
    obtain ⟨_, _, _, o, z, _⟩ := q0
    exact ⟨o, z⟩
  refine { ok := I.ok, os := I.os, bare := I.bare, base := ⟨I.base.keep, I.base.slot, fun b o q nb hx => ?_, I.base.there, fun b ys q => ?_, fun b o u q => ?_, fun b ps q => ?_⟩, loc := I.loc, cell := I.cell, free := ?_, freeC := fun y c q => ?_, pin := fun q hq => ?_, hok := fun b u q => ?_, len := I.len }
  · have z := I.base.free b o q nb hx
    by_cases hb : b = T
    · rw [hb, upd_same] at z
      cases z
    · rw [upd_ne hb] at z ⊢
      exact z
  · have z := I0.base.tups b ys q
    rw [upd_ne (ne_of_none z n)]
    exact z
  · have z := I0.base.frzs b o u q
    rw [upd_ne (ne_of_none z n)]
    exact z
  · obtain ⟨more, z⟩ := I0.base.tbls b ps q
    exact ⟨more, by rw [upd_ne (ne_of_none z n)]; exact z⟩
  · have z := I.free
    by_cases hb : X.env.locals = T
    · rw [hb, upd_same] at z
      cases z
    · rw [upd_ne hb] at z ⊢
      exact z
  · have z := I.freeC y c q
    by_cases hb : c = T
    · rw [hb, upd_same] at z
      cases z
    · rw [upd_ne hb] at z ⊢
      exact z
  · obtain ⟨p1, p2, p3⟩ := I.pin q hq
    refine ⟨p1, ?_, p3⟩
    by_cases hb : q.1 = T
    · rw [hb, upd_same] at p2
      cases p2
    · rw [upd_ne hb] at p2 ⊢
      exact p2
  · by_cases hb : b = T
    · subst hb
      rw [upd_same] at q
      cases q
      refine ⟨q0, there, fun h1 h2 k kk => ?_⟩
      obtain ⟨z1, its, z2, o, z3, z4⟩ := k
      exact ⟨z1, its, z2, o, kk o z3, z4⟩
    · rw [upd_ne hb] at q
      have x := I.hok b u (by rw [upd_ne hb]; exact q)
      have wu := wl b u q
      have own : ∀ c, A c = some (.own b) → (upd A T (.ext (TupO T xs))) c = some (.own b) := fun c z => by
        rw [upd_ne (ne_of_none z n)]
        exact z
      have lift : ∀ {v : HO}, okO A b v → okO (upd A T (.ext (TupO T xs))) b v := by
        intro v
        induction v with
        | ins C dx fs => exact fun z => own dx z
        | dT kvs => exact fun z => z
        | frz o v ih => exact fun z => ih z
        | _ => exact fun _ => trivial
      exact obj_forget x (lift wu)
theorem turn_D {P : Program} {w : World} {K : PySem.W.Frag} {tg : Expr} {J : It} {fp : List Addr} {it : Addr} {tn : Nat → Heap → Prop} (hJ : TupJ J) (T : Turn P w K tg J fp it tn) : Turn P w K tg (ItD J) fp it tn where
  mem := T.mem
  obj := T.obj
  keep := T.keep
  item := by
    intro X hP hw hK hc i pins s st H E I hf ht hg
    refine thn (T.item X hP hw hK hc i pins s st H E I hf ht hg.1) fun r s1 hr => ?_
    obtain ⟨u, er, h1⟩ := hr
    refine ⟨u, er, thn h1 fun _ s2 h2 => ?_⟩
    obtain ⟨x, H', I', rx, y, t2, f2⟩ := h2
    obtain ⟨Q, xs, ev, hn, eH⟩ := hJ _ _ _ _ y
    subst eH
    refine ⟨x, _, inv_retag I I' hn hg.2, rx, ⟨Q, xs, ev, hn, y, rfl⟩, t2, fun b hb => ?_⟩
    have z := f2 b hb
    by_cases hQ : b = Q
    · rw [hQ, upd_same] at z
      cases z
    · rw [upd_ne hQ] at z ⊢
      exact z
  done := T.done
  self := T.self
end
/-- the walked thing, its pairs droppable -/
def wD (wi : TI) : TI := fun st H R => wi st H fun J H1 => TupJ J ∧ R (ItD J) H1
section
variable {X : Cx}
theorem pi_D {tg it : Expr} {wi : TI} (h : PI X tg it wi) : PI X tg it (wD wi) := by
  refine ⟨fun pins s st H R I hw => thn (h.run pins s st H _ I hw) fun v s1 hv => thn hv fun itv s2 hq => ?_⟩
  obtain ⟨a, fp, tn, J, H', e, I', T, t0, f0, hJ, q⟩ := hq
  exact ⟨a, fp, tn, ItD J, H', e, I', turn_D hJ T, t0, f0, q⟩
/-- unpacked and dropped -/
def gTupD (n : Nat) (t : TGs) : TG := fun v st H Q => ∃ T xs A, v = .ref T ∧ A T = none ∧ H = upd A T (.ext (TupO T xs)) ∧ xs.length = n ∧ t xs st A Q
theorem pg_tupD {es : List Expr} {k n : Nat} {t : TGs} {pos : Pos} (hc : X.calm = true) (h : PGs X es t) (hn : (assignEach es X.env).length = n := by rfl) (hst : (assignEach es X.env).findIdx? (·.1) = none := by rfl) : PG X (.Tuple es k pos) (gTupD n t) := by
  refine ⟨fun pins s st H v u Q I r hw => ?_⟩
  obtain ⟨T, xs, A, e1, nA, e2, hl, q⟩ := hw
  subst e1 e2
  cases r
  obtain ⟨z0, its, rv, ht⟩ := (I.hok T _ upd_same).1
  have I2 := ItX.inv_drop I upd_same
  rw [ItX.dropH_upd nA] at I2
  refine assign_Tuple_tuple (I.ok.hd hc) ht (by simp [hn, ← hl, rv.length]) hst fun h' hx => ?_
  have I3 : Inv X pins st A { s with heap := h' } := I2.kept (t' := s.toks) fun b o e => hx b o (Nat.ne_of_lt (Heap.lt_size e)) e
  exact h.run pins _ st A xs _ Q I3 (by simpa using rv) q
end
end TP
/-! part TPj -/
/-! a def over each heap: for the head's end -/
namespace TP
open PySem PySem.Spec PyProof.Rows L2
section
variable {P : Program} {w : World} {K : PySem.W.Frag} {mg : Str → Option Value}
/-- a def, over each heap -/
structure FnAll (P : Program) (w : World) (K : PySem.W.Frag) (mg : Str → Option Value) (k : Nat) (x : Str) (ps : List Str) (sp : Sp) : Prop where
  ex : ∃ (f : Addr) (fd : FuncData), mg x = some (.ref f) ∧ (∀ (s : Shared) (us : List Value), us.length = ps.length → BindsTo s fd ⟨us, []⟩ (ps.zip us)) ∧ ∀ base : Heap, FnOk P w K mg base CX0 k f fd ps sp
theorem FnAll.of (T : Txt K mg) (i j : Nat) {d : He.DefD} {x : Str} {N ps : List Str} {sp : Sp} {k : Nat} (hd : fn[i]? = some d) (hx : d.at_ = (x, none)) (hg : fa[j]? = some (.glo x)) (hdf : d.dfl = []) (hkw : d.kwd = []) (S : FnScope N ps d.scope)
    (hb : ∀ (kV doc pm : Value) (an : Option Addr) (cdv ct : Value) (us : List Value), us.length = ps.length → bindArgs (PySem.W.fnOf d.name d.qual d.params d.body d.scope .none kV doc pm an cdv ct) ⟨us, []⟩ = pure (ps.zip us))
    (len : ∀ vs H Q E, sp vs H Q E → vs.length = ps.length)
    (body : ∀ (base : Heap) (f : Addr) (cdv : Value) (A : Around) (outer : List Env) (s : Shared) (H : Hp) (vs : List V) (Q : VK) (E : XK), Room k (A.deeper (envOfC d.qual d.scope s.heap.objs.size f cdv)) → sp vs H Q E →
      ∃ t, PSs (cxOf CX0 P w K mg base N d.qual d.scope f cdv A outer s H E).nox d.body t ∧ tSF t { nx := fun _ H' => Q .non H', rt := Q } (start N vs) H) : FnAll P w K mg (k + 1) x ps sp := by
  obtain ⟨fd, F⟩ := T.c.def_ i hd
  obtain ⟨h, KX, G⟩ := T.h
  have gm := He.glo_ok KX G (T.c.fact j (f := .glo x) hg)
  have ea : He.fAd K d.at_ = He.ga K x := by
    rw [hx]
    rfl
  have e1 : d.dvs K = [] := by
    unfold He.DefD.dvs
    rw [hdf]
    rfl
  have e2 : d.kws K = [] := by
    unfold He.DefD.kws
    rw [hkw]
    rfl
  rw [ea, e1, e2] at F
  refine ⟨_, fd, gm, fun s us hl => FunD.bindsA F hb s us hl, fun base => F.ok S len fun cdv A outer s H vs Q E hr hs => ?_⟩
  obtain ⟨t, ht, q⟩ := body base (He.ga K x) cdv A outer s H vs Q E hr hs
  exact ⟨tSF t, PSs.nox (pss_f ht), q⟩
end
end TP
/-! part TPh -/
set_option maxHeartbeats 0
/-! the head -/
noncomputable section
namespace TP
open PySem PySem.Spec PyProof.Rows L2
def hdNames0 : List PySem.Str := ["TurnError", "LimitError", "InvalidBook", "InvalidField", "InvalidMany", "InvalidTurner", "InvalidWord", "InvalidModulus", "InvalidPoints", "InvalidPrime", "TooMany", "is_integer", "is_count", "is_list", "want_many", "want_at_most", "without_end", "poly_rest", "undone_by", "poly_times", "poly_less", "are_apart", "letter_turns", "is_single", "is_prime", "want_prime", "is_figures", "is_right", "told_number", "poly_of"]
def hdNames1 : List PySem.Str := ["powers_by", "all_powers", "logs_by", "sized", "Field", "want_field", "figures_of", "by_figures_of", "plus_of", "minus_of", "times_of", "over_of", "power_of", "turned_of", "less_row", "figure_steps", "rows_rank", "rank_of", "is_in", "told_of", "is_sum", "want_turner", "sum_turners", "less_turners", "worth_of", "are_some", "want_points", "Book", "want_book", "word_in"]
def hdNames2 : List PySem.Str := ["want_word", "let_of", "word_by", "differences", "outer_parts", "cleared", "lone_solution", "reach_of", "many_rows", "pair_row", "pair_of", "is_within_reach", "told_by_pair", "mended_by", "mended", "is_near", "_law_pot", "_law_draw", "_law_pick", "_law_figures", "_law_number", "_law_slow", "_law_powers", "_law_world", "_law_times", "_law_plus", "_law_turned", "_law_worth", "_law_span", "_law_rank"]
def hdNames3 : List PySem.Str := ["_law_trimmed", "_law_kind", "_law_free", "_law_some", "_law_word", "_law_differences", "_law_within", "_law_spoilt", "_law_book", "_law_made", "_law_all", "_law_rank_off", "_law_word_right", "_law_right", "PRIMES", "MOST_SIZE", "MOST_TURNS", "MOST_ELEMENTS"]
def hdNames : List PySem.Str := hdNames0 ++ hdNames1 ++ hdNames2 ++ hdNames3
abbrev hdR : PySem.W.OpenRow := PySem.W.OpenLaw.row PySem.Challenge.rw_turnpowers_k82_whole_near_ones_by_all_wo
/-! a smaller look: the module's hdNames, the code of its defs, its classes' namespaces, their methods -/
def lkF (g : Addr → Option Obj) (a : Addr) : List Addr := match g a with
  | some ⟨_, _, .func fd, _⟩ => He.refV fd.code ++ He.refV fd.defaults
  | some ⟨_, _, .cls cd, _⟩ => cd.ns :: cd.mro.flatMap He.refV
  | _ => []
def lkC (g : Addr → Option Obj) (a : Addr) : List Addr := match g a with
  | some ⟨_, _, .cls cd, _⟩ => (match g cd.ns with
    | some ⟨_, _, .dict es _, _⟩ => es.toList.flatMap fun e => He.refV e.val
    | _ => [])
  | _ => []
def lkN (g : Addr → Option Obj) : List Addr := match g mainGlobals with
  | some ⟨_, _, .dict es _, _⟩ => es.toList.flatMap fun e => He.refV e.val
  | _ => []
def asM (g : Addr → Option Obj) : List Addr := mainGlobals :: ((lkN g) ++ ((lkN g).flatMap (lkF g) ++ ((lkN g).flatMap (lkC g) ++ ((lkN g).flatMap (lkC g)).flatMap (lkF g))))
abbrev AlM : Type := He.AlD × Bool
def obsM (g : Addr → Option Obj) : AlM := (He.obsD fa fn (He.frG g (asM g)), exB (He.frG g (asM g)))
abbrev hdK : PySem.W.Hook where
  α := AlM
  obs := fun s => obsM s.heap.get?
  val := fun _ => (He.valD fn, true)
  says := fun _ h => ∃ K : PySem.W.Frag, K.In h ∧ He.SaysD fa fn K ∧ exB K = true
  of := fun _ _ e => ⟨_, He.frG_in, congrArg Prod.fst e, congrArg Prod.snd e⟩
  keeps := fun _ _ _ ⟨K, hK, c⟩ k => ⟨K, PySem.W.Frag.In.keeps hK k, c⟩
def hdO (s : PySem.W.SharedT) : AlM := obsM (HandSHeadRun.getT s)
theorem hdO_eq (s : PySem.W.SharedT) : hdO s = hdK.obs s.abs := by
  have e : HandSHeadRun.getT s = s.abs.heap.get? := funext (HandSHeadRun.getT_eq s)
  show obsM _ = obsM _
  rw [e]

theorem hdRun (w : World) : HandSHeadRun.RunEq hdR (PySem.W.view hdR.prog [119]) hdK hdO 20000 hdNames w := by
  intro os
  kernel_rfl
end TP
/-! part Z0 -/
set_option maxHeartbeats 0
/-! the head's end -/
namespace TP
open PySem PySem.Spec PyProof.Rows L2
theorem head_end (spl : PySem.W.Frag → Sp) (hsp : ∀ (K : PySem.W.Frag) (H : Hp) (a : Addr) (ns : List Int), Only H → SqL K H a (ns.map V.int) → spl K [.ref a] H (fun v _ => v = .bl true) fun _ _ _ => False)
    (hF : ∀ (P : Program) (w : World) (K : PySem.W.Frag) (mg : Str → Option Value), Txt K mg → FnAll P w K mg 11 "law" ["_law_script"] (spl K)) : PySem.Challenge.rw_turnpowers_k82_whole_near_ones_by_all_wo.Holds := by
  open PySem PySem.W PySem.Calls PyProof.Rows in
  w_on; o_law
  refine HandSHeadRun.head_any (r := PySem.W.OpenLaw.row PySem.Challenge.rw_turnpowers_k82_whole_near_ones_by_all_wo) (q := PySem.W.view (PySem.W.OpenLaw.row PySem.Challenge.rw_turnpowers_k82_whole_near_ones_by_all_wo).prog [119]) (H := TP.hdK) (ob := TP.hdO) (M := 20000) (loose := TP.hdNames) (d := HandSHeadRun.topDef (PySem.W.OpenLaw.row PySem.Challenge.rw_turnpowers_k82_whole_near_ones_by_all_wo).prog 119) (kwd := []) TP.hdO_eq
    (by kernel_rfl) (fun s => by kernel_rfl) TP.hdRun (by kernel_rfl) (by kernel_rfl) (by kernel_rfl) (by rfl) (by first | assumption | decide +kernel) (by decide +kernel) ⟨rfl, rfl, rfl, rfl, rfl, by decide +kernel⟩ ?hw ?hc
  case hw => w_witness2
  case hc =>
    refine L2.walk_ofE (l := PySem.Challenge.rw_turnpowers_k82_whole_near_ones_by_all_wo) (n := 63) (k := 11) (x := "_law_script") (CX := L2.CX0) rfl (by decide) (by kernel_rfl) ⟨rfl, by decide, by decide⟩ ?F (fun _ _ _ _ z => z)
    intro w mg fa h Y G hmg0
    obtain ⟨K, KX, c, eb⟩ := Y
    have hmg : mg ("law" : PySem.Str) = some (.ref fa) := by
      have e : (HandSHeadRun.topDef (PySem.W.OpenLaw.row PySem.Challenge.rw_turnpowers_k82_whole_near_ones_by_all_wo).prog 119).name = ("law" : PySem.Str) := by kernel_rfl
      rw [← e]
      exact hmg0
    have T : TP.Txt K mg := ⟨⟨h, KX, G⟩, c, eb⟩
    obtain ⟨f, fd, gm, hb, hF⟩ := (hF (PySem.Challenge.rw_turnpowers_k82_whole_near_ones_by_all_wo).prog w K mg T).ex
    have ef := hmg.symm.trans gm
    cases ef
    exact ⟨K, fd, spl K, KX, fun s v => hb s [v] rfl, fun H a ns hl hO hS => hsp K H a ns hO hS, fun base _ _ => hF base⟩
end TP
/-! part TPc -/
/-! defs by their promises; what is walked; steps -/
namespace TP
open PySem PySem.Spec PyProof.Rows L2

/-! ### defs -/
structure FnAt (P : Program) (w : World) (K : PySem.W.Frag) (mg : Str → Option Value) (base : Heap) (k : Nat) (x : Str) (ps : List Str) (sp : Sp) : Prop where
  ex : ∃ (f : Addr) (fd : FuncData), mg x = some (.ref f) ∧ PySem.W.keepIn K (.ref f) = true ∧ Binds K fd ps [] ∧ FnOk P w K mg base CX0 k f fd ps sp
/-- a class with its __init__ -/
structure InAt (P : Program) (w : World) (K : PySem.W.Frag) (mg : Str → Option Value) (base : Heap) (k : Nat) (x : Str) (C : Addr) (ps : List Str) (sp : Sp) : Prop where
  ex : ∃ (f : Addr) (fd : FuncData), mg x = some (.ref C) ∧ Mk K C f ∧ Binds K fd ps [] ∧ FnOk P w K mg base CX0 k f fd ps sp
def tC0 (sp : Sp) (t : TA) : TE := fun st H Q => t st H fun vs H1 => sp vs H1 Q E0
/-- C(..): the new instance at y, its dict at dy -/
def tM0 (C : Addr) (sp : Sp) (t : TA) : TE := fun st H Q => t st H fun vs H1 => ∀ y dy, H1 y = none → H1 dy = none → dy ≠ y → sp (.ref y :: vs) (upd (upd H1 dy (.own y)) y (.ins C dy [])) (fun v H2 => v = .non ∧ Q (.ref y) H2) E0
section
variable {X : Cx} {j k : Nat} {x : Str} {ps : List Str} {sp : Sp} {e : Expr} {es : List Expr} {t : TA} {p pos : Pos} {C : Addr}
theorem pe_callF (G : FnAt X.prog X.w X.K X.mg X.base j x ps sp) (hjk : j ≤ k) (hr : Room k X.A) (hg : Gl X x) (ha : PA X (e :: es) t) (hdb : (x == ("__debug__" : Str)) = false := by decide)
    (he : starEach (e :: es) X.env = (false, eval e X.env) :: starEach es X.env := by rfl) (hpl : (backTo pos (starEach es X.env)).any (·.1) = false := by rfl) : PE X (.Call (.Name x p) (e :: es) [] pos) (tC0 sp t) := by
  obtain ⟨f, fd, gm, kp, bi, F⟩ := G.ex
  have z := pe_call (dvs := []) (E := E0) (p := p) (F.mono hjk) hr hg gm kp bi .nil pass0 ha hdb he hpl
  refine ⟨fun pins s st H Q I hw => z.run pins s st H Q I ?_⟩
  have e0 : tCall sp [] E0 t st H Q = tC0 sp t st H Q := by
    unfold tCall tC0
    simp only [List.append_nil]
  rw [e0]
  exact hw
theorem pe_makeF (G : InAt X.prog X.w X.K X.mg X.base j x C ps sp) (hjk : j + 1 ≤ k) (hr : Room k X.A) (hg : Gl X x) (ha : PA X (e :: es) t) (hdb : (x == ("__debug__" : Str)) = false := by decide)
    (he : starEach (e :: es) X.env = (false, eval e X.env) :: starEach es X.env := by rfl) (hpl : (backTo pos (starEach es X.env)).any (·.1) = false := by rfl) : PE X (.Call (.Name x p) (e :: es) [] pos) (tM0 C sp t) := by
  obtain ⟨f, fd, gm, M, bi, F⟩ := G.ex
  have z := pe_make (dvs := []) (E := E0) (p := p) M F (hr.mono hjk) hg gm bi .nil pass0 ha hdb he hpl
  refine ⟨fun pins s st H Q I hw => z.run pins s st H Q I ?_⟩
  have e0 : tMake C sp [] E0 t st H Q = tM0 C sp t st H Q := by
    unfold tMake tM0
    simp only [List.append_nil]
  rw [e0]
  exact hw
end
section
variable {P : Program} {w : World} {K : PySem.W.Frag} {mg : Str → Option Value} {base : Heap}
theorem FnAt.of (T : Txt K mg) (i j : Nat) {d : He.DefD} {x : Str} {N ps : List Str} {sp : Sp} {k : Nat} (hd : fn[i]? = some d) (hx : d.at_ = (x, none)) (hg : fa[j]? = some (.glo x)) (hdf : d.dfl = []) (hkw : d.kwd = []) (S : FnScope N ps d.scope)
    (hb : ∀ (kV doc pm : Value) (an : Option Addr) (cdv ct : Value) (us : List Value), us.length = ps.length → bindArgs (PySem.W.fnOf d.name d.qual d.params d.body d.scope .none kV doc pm an cdv ct) ⟨us, []⟩ = pure (ps.zip us))
    (len : ∀ vs H Q E, sp vs H Q E → vs.length = ps.length)
    (body : ∀ (f : Addr) (cdv : Value) (A : Around) (outer : List Env) (s : Shared) (H : Hp) (vs : List V) (Q : VK) (E : XK), Room k (A.deeper (envOfC d.qual d.scope s.heap.objs.size f cdv)) → sp vs H Q E →
      ∃ t, PSs (cxOf CX0 P w K mg base N d.qual d.scope f cdv A outer s H E).nox d.body t ∧ tSF t { nx := fun _ H' => Q .non H', rt := Q } (start N vs) H) : FnAt P w K mg base (k + 1) x ps sp := by
  obtain ⟨fd, F⟩ := T.c.def_ i hd
  obtain ⟨h, KX, G⟩ := T.h
  have gm := He.glo_ok KX G (T.c.fact j (f := .glo x) hg)
  have ea : He.fAd K d.at_ = He.ga K x := by
    rw [hx]
    rfl
  have e1 : d.dvs K = [] := by
    unfold He.DefD.dvs
    rw [hdf]
    rfl
  have e2 : d.kws K = [] := by
    unfold He.DefD.kws
    rw [hkw]
    rfl
  rw [ea, e1, e2] at F
  refine ⟨_, fd, gm, F.kp, F.bindsN hb, F.ok S len fun cdv A outer s H vs Q E hr hs => ?_⟩
  obtain ⟨t, ht, q⟩ := body (He.ga K x) cdv A outer s H vs Q E hr hs
  exact ⟨tSF t, PSs.nox (pss_f ht), q⟩
/-- a def with defaults, all of whose parameters are given -/
theorem FnAt.ofD (T : Txt K mg) (i j : Nat) {d : He.DefD} {x : Str} {N ps : List Str} {sp : Sp} {k n m : Nat} (hd : fn[i]? = some d) (hx : d.at_ = (x, none)) (hg : fa[j]? = some (.glo x)) (hdf : d.dfl ≠ []) (hkw : d.kwd = []) (hn : ps.length = n) (hm : d.dfl.length = m) (S : FnScope N ps d.scope)
    (hb : ∀ (T : Addr) (kV doc pm : Value) (an : Option Addr) (cdv ct : Value) (us its : List Value), us.length = n → its.length = m → ∃ q, bindArgs (PySem.W.fnOf d.name d.qual d.params d.body d.scope (.ref T) kV doc pm an cdv ct) ⟨us, []⟩ = seqItems? (.ref T) >>= q ∧ q (some its.toArray) = pure (ps.zip us))
    (len : ∀ vs H Q E, sp vs H Q E → vs.length = ps.length)
    (body : ∀ (f : Addr) (cdv : Value) (A : Around) (outer : List Env) (s : Shared) (H : Hp) (vs : List V) (Q : VK) (E : XK), Room k (A.deeper (envOfC d.qual d.scope s.heap.objs.size f cdv)) → sp vs H Q E →
      ∃ t, PSs (cxOf CX0 P w K mg base N d.qual d.scope f cdv A outer s H E).nox d.body t ∧ tSF t { nx := fun _ H' => Q .non H', rt := Q } (start N vs) H) : FnAt P w K mg base (k + 1) x ps sp := by
  obtain ⟨fd, F⟩ := T.c.def_ i hd
  obtain ⟨h, KX, G⟩ := T.h
  have gm := He.glo_ok KX G (T.c.fact j (f := .glo x) hg)
  have ea : He.fAd K d.at_ = He.ga K x := by
    rw [hx]
    rfl
  have e2 : d.kws K = [] := by
    unfold He.DefD.kws
    rw [hkw]
    rfl
  have e1 : d.dvs K ≠ [] := by
    unfold He.DefD.dvs
    intro z
    exact hdf (List.map_eq_nil_iff.mp z)
  have e3 : (d.dvs K).length = m := by
    unfold He.DefD.dvs
    rw [List.length_map, hm]
  rw [ea, e2] at F
  obtain ⟨ds, rd, bi⟩ := F.binds1 n m e1 (by rw [e3, hn]; omega) fun T kV doc pm an cdv ct us its l1 l2 => by
    obtain ⟨q, q1, q2⟩ := hb T kV doc pm an cdv ct us its l1 (l2.trans e3)
    have l3 : its.drop m = [] := List.drop_eq_nil_of_le (by omega)
    exact ⟨q, q1, by rw [q2, l3, List.append_nil]⟩
  have l4 : (d.dvs K).drop m = [] := List.drop_eq_nil_of_le (by omega)
  rw [l4] at rd
  cases rd
  refine ⟨_, fd, gm, F.kp, bi, F.ok S len fun cdv A outer s H vs Q E hr hs => ?_⟩
  obtain ⟨t, ht, q⟩ := body (He.ga K x) cdv A outer s H vs Q E hr hs
  exact ⟨tSF t, PSs.nox (pss_f ht), q⟩
/-- a class and its __init__ (the def i) -/
theorem InAt.of (T : Txt K mg) (i : Nat) {d : He.DefD} {x : Str} {C f0 : Addr} {N ps : List Str} {sp : Sp} {k : Nat} (hd : fn[i]? = some d) (hC : mg x = some (.ref C)) (hM : Mk K C f0) (hf : He.fAd K d.at_ = f0) (hdf : d.dfl = []) (hkw : d.kwd = []) (S : FnScope N ps d.scope)
    (hb : ∀ (kV doc pm : Value) (an : Option Addr) (cdv ct : Value) (us : List Value), us.length = ps.length → bindArgs (PySem.W.fnOf d.name d.qual d.params d.body d.scope .none kV doc pm an cdv ct) ⟨us, []⟩ = pure (ps.zip us))
    (len : ∀ vs H Q E, sp vs H Q E → vs.length = ps.length)
    (body : ∀ (f : Addr) (cdv : Value) (A : Around) (outer : List Env) (s : Shared) (H : Hp) (vs : List V) (Q : VK) (E : XK), Room k (A.deeper (envOfC d.qual d.scope s.heap.objs.size f cdv)) → sp vs H Q E →
      ∃ t, PSs (cxOf CX0 P w K mg base N d.qual d.scope f cdv A outer s H E).nox d.body t ∧ tSF t { nx := fun _ H' => Q .non H', rt := Q } (start N vs) H) : InAt P w K mg base (k + 1) x C ps sp := by
  obtain ⟨fd, F⟩ := T.c.def_ i hd
  have e1 : d.dvs K = [] := by
    unfold He.DefD.dvs
    rw [hdf]
    rfl
  have e2 : d.kws K = [] := by
    unfold He.DefD.kws
    rw [hkw]
    rfl
  rw [hf, e1, e2] at F
  refine ⟨_, fd, hC, hM, F.bindsN hb, F.ok S len fun cdv A outer s H vs Q E hr hs => ?_⟩
  obtain ⟨t, ht, q⟩ := body f0 cdv A outer s H vs Q E hr hs
  exact ⟨tSF t, PSs.nox (pss_f ht), q⟩
end

/-! ### heaps -/
theorem Same.new {A B : Hp} {p : Addr} {o : HO} (e : Same A B) (n : A p = none) : Same A (upd B p o) := fun a u h => by
  rw [upd_ne (ne_of_none h n)]
  exact e a u h
theorem Same.both {A B : Hp} {p : Addr} {o : HO} (e : Same A B) : Same (upd A p o) (upd B p o) := fun a u h => by
  by_cases ha : a = p
  · rw [ha, upd_same] at h ⊢
    exact h
  · rw [upd_ne ha] at h ⊢
    exact e a u h
theorem Same.put {A B : Hp} {p : Addr} {o : HO} (e : Same A B) (h : B p = some o) : Same (upd A p o) B := fun a u q => by
  by_cases ha : a = p
  · rw [ha, upd_same] at q
    rw [ha, h, q]
  · rw [upd_ne ha] at q
    exact e a u q
theorem upd_none {A : Hp} {p q : Addr} {o : HO} (h : (upd A p o) q = none) : q ≠ p ∧ A q = none := by
  by_cases e : q = p
  · rw [e, upd_same] at h
    cases h
  · rw [upd_ne e] at h
    exact ⟨e, h⟩
theorem none_upd {A : Hp} {p q : Addr} {o : HO} (e : q ≠ p) (h : A q = none) : (upd A p o) q = none := by
  rw [upd_ne e]
  exact h
theorem upd_swap {A : Hp} {p q : Addr} {o u : HO} (e : p ≠ q) : upd (upd A p o) q u = upd (upd A q u) p o := by
  funext a
  unfold upd
  by_cases h1 : a = p
  · subst h1
    rw [if_neg e, if_pos rfl, if_pos rfl]
  · by_cases h2 : a = q
    · subst h2
      rw [if_pos rfl, if_neg h1, if_pos rfl]
    · rw [if_neg h2, if_neg h1, if_neg h1, if_neg h2]
theorem upd_put {A : Hp} {p : Addr} {o u : HO} : upd (upd A p o) p u = upd A p u := upd_upd
theorem upd_at {A : Hp} {p q : Addr} {o u : HO} (e : q ≠ p) (h : A q = some u) : (upd A p o) q = some u := by
  rw [upd_ne e]
  exact h
/-- kinds that may be laid anywhere -/
def flatO : HO → Prop
  | .lst _ => True
  | .tup _ => True
  | .dK _ => True
  | _ => False
theorem okO_flat {A : Hp} {a : Addr} {o : HO} (h : flatO o) : okO A a o := by
  cases o with
  | lst xs => exact True.intro
  | tup xs => exact True.intro
  | dK kvs => exact True.intro
  | _ => exact (show False from h).elim
theorem okO_upd {A : Hp} {p a : Addr} {o : HO} (ho : ∀ b, A p ≠ some (.own b)) : ∀ {u : HO}, okO A a u → okO (upd A p o) a u := by
  intro u
  induction u with
  | ins C dx fs =>
    intro z
    have e : dx ≠ p := fun e => ho a (by rw [← e]; exact z)
    show (upd A p o) dx = some (.own a)
    rw [upd_ne e]
    exact z
  | dT kvs => exact fun z => z
  | frz o v ih => exact fun z => ih z
  | _ => exact fun _ => trivial
theorem Wl.new {A : Hp} {p : Addr} {o : HO} (w : Wl A) (n : A p = none) (f : flatO o) : Wl (upd A p o) := fun a u h => by
  by_cases ha : a = p
  · rw [ha, upd_same] at h
    cases h
    exact okO_flat f
  · rw [upd_ne ha] at h
    exact okO_upd (fun b q => by rw [n] at q; cases q) (w a u h)
theorem Wl.mut {A : Hp} {p : Addr} {o u : HO} (w : Wl A) (n : A p = some u) (f : flatO u) (g : flatO o) : Wl (upd A p o) := fun a v h => by
  by_cases ha : a = p
  · rw [ha, upd_same] at h
    cases h
    exact okO_flat g
  · rw [upd_ne ha] at h
    exact okO_upd (fun b q => by rw [n] at q; cases q; exact f) (w a v h)
theorem Prs.mut {A : Hp} {p : Addr} {o u : HO} (n : A p = some u) (f : ¬ isT u) : Prs A (upd A p o) := fun a v h t => by
  by_cases ha : a = p
  · rw [ha, n] at h
    cases h
    exact (f t).elim
  · rw [upd_ne ha]
    exact h
theorem Prs.trans {A B C : Hp} (h : Prs A B) (k : Prs B C) : Prs A C := fun a o e t => k a o (h a o e t) t
theorem Same.sqT {K : PySem.W.Frag} {A B : Hp} {a : Addr} {xs : List V} (e : Same A B) (h : SqT K A a xs) : SqT K B a xs := by
  rcases h with (h | ⟨o, h⟩) | h
  · exact .inl (.inl (e _ _ h))
  · exact .inl (.inr ⟨o, e _ _ h⟩)
  · exact .inr h

/-! ### what is walked: n items, the slots' change at each, the heap as it is -/
def Wk (wi : TI) (g : TG) (n : Nat) (f : Nat → L2.St → L2.St) (Ok : Hp → Prop) (st : L2.St) (H B : Hp) : Prop :=
  ∀ R : It → Hp → Prop, (∀ J : It, (∀ i A, i < n → Ok A → J.go i A ∧ ∀ v A', J.yld i A v A' → ∀ (st' : L2.St) (Q : L2.St → Hp → Prop), Q (f i st') A → g v st' A' Q) → (∀ A, Ok A → J.stop n A) → R J B) → wi st H R
section
variable {wi : TI} {g : TG} {n : Nat} {f : Nat → L2.St → L2.St} {Ok : Hp → Prop} {st : L2.St} {H B : Hp}
/-- a for over it -/
theorem for_wk {tb : TS} {D : Ends} (w : Wk wi g n f Ok st H B) (Pv : Nat → L2.St → Hp → Prop) (h0 : Pv 0 st B) (ok : ∀ i st' A, i ≤ n → Pv i st' A → Ok A)
    (hs : ∀ i st' A, i < n → Pv i st' A → tb { D with nx := Pv (i + 1), ct := Pv (i + 1), bk := D.nx } (f i st') A) (hd : ∀ st' A, Pv n st' A → D.nx st' A) : tFor wi g tb D st H := by
  refine w _ fun J hg hstop => ?_
  refine ⟨fun i m st' A => m = n - i ∧ i ≤ n ∧ Pv i st' A, ⟨n, by simp, Nat.zero_le _, h0⟩, ?_⟩
  rintro i m st' A ⟨rfl, hi, p⟩
  have q := ok i st' A hi p
  by_cases hlt : i < n
  · obtain ⟨h1, h2⟩ := hg i A hlt q
    refine .inr ⟨h1, Pv (i + 1), fun st2 A2 p' => ⟨n - (i + 1), by omega, rfl, hlt, p'⟩, fun v A' y => ?_⟩
    exact h2 v A' y st' _ (hs i st' A hlt p)
  · have e : i = n := by omega
    subst e
    exact .inl ⟨hstop A q, hd st' A p⟩
/-- a comprehension over it: Lv says how the list made so far stands -/
theorem lc_wk {tt : TT} {te : TE} {vs : List Nat} {Q : VK} (w : Wk wi g n f Ok st H B) (Pv : Addr → Nat → Hp → Prop) (h0 : ∀ D, B D = none → Pv D 0 (upd B D (.lst []))) (ok : ∀ D i A, B D = none → i ≤ n → Pv D i A → Ok A)
    (hw : ∀ i, i < n → wipe (f i (wipe st vs)) vs = wipe st vs)
    (hs : ∀ D i A, B D = none → i < n → Pv D i A → tt (f i (wipe st vs)) A fun b A1 => if b = true then te (f i (wipe st vs)) A1 fun y A2 => ∃ acc, A2 D = some (.lst acc) ∧ acc.length < sizeLine ∧ Pv D (i + 1) (upd A2 D (.lst (acc ++ [y]))) else Pv D (i + 1) A1)
    (hd : ∀ D A, B D = none → Pv D n A → Q (.ref D) A) : tLc wi g tt te vs st H Q := by
  refine w _ fun J hg hstop D nD => ?_
  refine ⟨fun i m A => m = n - i ∧ i ≤ n ∧ Pv D i A, ⟨n, by simp, Nat.zero_le _, h0 D nD⟩, ?_⟩
  rintro i m A ⟨rfl, hi, p⟩
  have q := ok D i A nD hi p
  by_cases hlt : i < n
  · obtain ⟨h1, h2⟩ := hg i A hlt q
    refine .inr ⟨h1, Pv D (i + 1), fun A2 p' => ⟨n - (i + 1), by omega, rfl, hlt, p'⟩, fun v A' y => ?_⟩
    exact h2 v A' y (wipe st vs) _ ⟨hw i hlt, hs D i A nD hlt p⟩
  · have e : i = n := by omega
    subst e
    exact .inl ⟨hstop A q, hd D A nD p⟩
/-- .. whose items are values: exact -/
def upto (n : Nat) (p : Nat → Bool) (v : Nat → V) : List V := ((List.range n).filter p).map v
theorem upto_yes {n : Nat} {p : Nat → Bool} {v : Nat → V} (h : p n = true) : upto (n + 1) p v = upto n p v ++ [v n] := by
  unfold upto
  rw [List.range_succ, List.filter_append, List.map_append, List.filter_cons, if_pos h, List.filter_nil, List.map_cons, List.map_nil]
theorem upto_no {n : Nat} {p : Nat → Bool} {v : Nat → V} (h : p n = false) : upto (n + 1) p v = upto n p v := by
  unfold upto
  rw [List.range_succ, List.filter_append, List.map_append, List.filter_cons, if_neg (by rw [h]; decide), List.filter_nil, List.map_nil, List.append_nil]
theorem upto_len (n : Nat) (p : Nat → Bool) (v : Nat → V) : (upto n p v).length ≤ n := by
  unfold upto
  rw [List.length_map]
  exact Nat.le_trans (List.length_filter_le _ _) (by rw [List.length_range]; exact Nat.le_refl _)
theorem lc_val {tt : TT} {te : TE} {vs : List Nat} {Q : VK} (w : Wk wi g n f Ok st H B) (p : Nat → Bool) (v : Nat → V) (hn : n ≤ 100000) (ok : ∀ D acc, B D = none → Ok (upd B D (.lst acc))) (hw : ∀ i, i < n → wipe (f i (wipe st vs)) vs = wipe st vs)
    (ht : ∀ D acc i, B D = none → i < n → ∀ R : Bool → Hp → Prop, R (p i) (upd B D (.lst acc)) → tt (f i (wipe st vs)) (upd B D (.lst acc)) R)
    (he : ∀ D acc i, B D = none → i < n → p i = true → ∀ R : VK, R (v i) (upd B D (.lst acc)) → te (f i (wipe st vs)) (upd B D (.lst acc)) R)
    (hd : ∀ D, B D = none → Q (.ref D) (upd B D (.lst (upto n p v)))) : tLc wi g tt te vs st H Q := by
  refine lc_wk w (fun D i A => A = upd B D (.lst (upto i p v))) (fun D nD => rfl) (fun D i A nD _ e => by rw [e]; exact ok D _ nD) hw (fun D i A nD hi e => ?_) (fun D A nD e => by rw [e]; exact hd D nD)
  subst e
  refine ht D _ i nD hi _ ?_
  cases hp : p i with
  | true =>
    show te _ _ _
    refine he D _ i nD hi hp _ ⟨upto i p v, upd_same, Nat.lt_of_le_of_lt (upto_len i p v) (Nat.lt_of_lt_of_le (show i < 100000 by omega) (by decide)), ?_⟩
    rw [upd_put, upto_yes hp]
  | false =>
    show upd B D _ = _
    rw [upto_no hp]
end
/-- every item gives one -/
theorem upto_all {n : Nat} (v : Nat → V) : upto n (fun _ => true) v = (List.range n).map v := by
  unfold upto
  rw [List.filter_eq_self.mpr fun _ _ => rfl]
end TP
/-! part TPm -/
/-! the plain functions: fields, figures -/
namespace TP
/-- a field's data: prime, turns, size, modulus, powers, logarithms (0 for 0) -/
structure Fd where
  p : Nat
  n : Nat
  q : Nat
  md : List Nat
  pw : List Nat
  lg : List Nat
def F8 : Fd := ⟨2, 3, 8, [1, 1, 0, 1], [1, 2, 4, 3, 6, 7, 5], [0, 0, 1, 3, 2, 6, 4, 5]⟩
def F16 : Fd := ⟨2, 4, 16, [1, 1, 0, 0, 1], [1, 2, 4, 8, 3, 6, 12, 11, 5, 10, 7, 14, 15, 13, 9], [0, 0, 1, 4, 2, 8, 5, 10, 3, 14, 9, 7, 6, 13, 11, 12]⟩
def F27 : Fd := ⟨3, 3, 27, [1, 2, 0, 1], [1, 3, 9, 5, 15, 23, 13, 17, 20, 4, 12, 14, 11, 2, 6, 18, 7, 21, 16, 26, 22, 10, 8, 24, 25, 19], [0, 0, 13, 1, 9, 3, 14, 16, 22, 2, 21, 12, 10, 6, 11, 4, 18, 7, 15, 25, 8, 17, 20, 5, 23, 24, 19]⟩
def F32 : Fd := ⟨2, 5, 32, [1, 0, 1, 0, 0, 1], [1, 2, 4, 8, 16, 5, 10, 20, 13, 26, 17, 7, 14, 28, 29, 31, 27, 19, 3, 6, 12, 24, 21, 15, 30, 25, 23, 11, 22, 9, 18], [0, 0, 1, 18, 2, 5, 19, 11, 3, 29, 6, 27, 20, 8, 12, 23, 4, 10, 30, 17, 7, 22, 28, 26, 21, 25, 9, 16, 13, 14, 24, 15]⟩
def FOK (F : Fd) : Prop := F = F8 ∨ F = F16 ∨ F = F27 ∨ F = F32
theorem FOK.all {C : Fd → Prop} (h8 : C F8) (h16 : C F16) (h27 : C F27) (h32 : C F32) {F : Fd} (h : FOK F) : C F := by
  rcases h with h | h | h | h
  · rw [h]; exact h8
  · rw [h]; exact h16
  · rw [h]; exact h27
  · rw [h]; exact h32
theorem FOK.p {F : Fd} (h : FOK F) : 2 ≤ F.p ∧ F.p ≤ 3 := h.all (C := fun F => 2 ≤ F.p ∧ F.p ≤ 3) (by decide) (by decide) (by decide) (by decide)
theorem FOK.n {F : Fd} (h : FOK F) : 3 ≤ F.n ∧ F.n ≤ 5 := h.all (C := fun F => 3 ≤ F.n ∧ F.n ≤ 5) (by decide) (by decide) (by decide) (by decide)
theorem FOK.q {F : Fd} (h : FOK F) : 8 ≤ F.q ∧ F.q ≤ 32 := h.all (C := fun F => 8 ≤ F.q ∧ F.q ≤ 32) (by decide) (by decide) (by decide) (by decide)
theorem FOK.qpn {F : Fd} (h : FOK F) : F.q = F.p ^ F.n := h.all (C := fun F => F.q = F.p ^ F.n) (by decide) (by decide) (by decide) (by decide)
theorem FOK.pwl {F : Fd} (h : FOK F) : F.pw.length = F.q - 1 := h.all (C := fun F => F.pw.length = F.q - 1) (by decide) (by decide) (by decide) (by decide)
theorem FOK.lgl {F : Fd} (h : FOK F) : F.lg.length = F.q := h.all (C := fun F => F.lg.length = F.q) (by decide) (by decide) (by decide) (by decide)
def Fd.P (F : Fd) (i : Nat) : Nat := F.pw.getD i 0
def Fd.L (F : Fd) (x : Nat) : Nat := F.lg.getD x 0
theorem FOK.P {F : Fd} (h : FOK F) : ∀ i, i < F.q - 1 → 0 < F.P i ∧ F.P i < F.q := h.all (C := fun F => ∀ i, i < F.q - 1 → 0 < F.P i ∧ F.P i < F.q) (by decide) (by decide) (by decide) (by decide)
theorem FOK.L {F : Fd} (h : FOK F) : ∀ x, x < F.q → F.L x < F.q - 1 := h.all (C := fun F => ∀ x, x < F.q → F.L x < F.q - 1) (by decide) (by decide) (by decide) (by decide)
theorem FOK.PL {F : Fd} (h : FOK F) : ∀ x, x < F.q → 0 < x → F.P (F.L x) = x := h.all (C := fun F => ∀ x, x < F.q → 0 < x → F.P (F.L x) = x) (by decide) (by decide) (by decide) (by decide)
theorem FOK.LP {F : Fd} (h : FOK F) : ∀ i, i < F.q - 1 → F.L (F.P i) = i := h.all (C := fun F => ∀ i, i < F.q - 1 → F.L (F.P i) = i) (by decide) (by decide) (by decide) (by decide)

/-! ### figures -/
def digs (p : Nat) : Nat → Nat → List Nat
  | 0, _ => []
  | n + 1, x => x % p :: digs p n (x / p)
theorem digs_len (p : Nat) : ∀ n x, (digs p n x).length = n
  | 0, _ => rfl
  | n + 1, x => by
    show (digs p n (x / p)).length + 1 = n + 1
    rw [digs_len p n]
theorem digs_snoc (p : Nat) : ∀ n x, digs p (n + 1) x = digs p n x ++ [x / p ^ n % p]
  | 0, x => by simp [digs]
  | n + 1, x => by
    show x % p :: digs p (n + 1) (x / p) = (x % p :: digs p n (x / p)) ++ [x / p ^ (n + 1) % p]
    rw [digs_snoc p n (x / p), Nat.div_div_eq_div_mul, List.cons_append, Nat.pow_succ, Nat.mul_comm]
theorem digs_lt {p : Nat} (hp : 0 < p) : ∀ n x d, d ∈ digs p n x → d < p
  | 0, _, _, h => by cases h
  | n + 1, x, d, h => by
    rcases List.mem_cons.mp h with e | h
    · rw [e]
      exact Nat.mod_lt _ hp
    · exact digs_lt hp n _ d h
def num (p : Nat) : List Nat → Nat
  | [] => 0
  | d :: ds => num p ds * p + d
theorem num_lt {p : Nat} (hp : 0 < p) : ∀ {ds : List Nat}, (∀ d, d ∈ ds → d < p) → num p ds < p ^ ds.length
  | [], _ => by simp [num]
  | d :: ds, h => by
    have h1 := num_lt hp (ds := ds) fun e he => h e (List.mem_cons_of_mem _ he)
    have h2 := h d List.mem_cons_self
    show num p ds * p + d < p ^ (ds.length + 1)
    rw [Nat.pow_succ]
    have h3 : (num p ds + 1) * p ≤ p ^ ds.length * p := Nat.mul_le_mul_right p h1
    rw [Nat.add_mul, Nat.one_mul] at h3
    omega
theorem num_digs {p : Nat} (hp : 0 < p) : ∀ n x, x < p ^ n → num p (digs p n x) = x
  | 0, x, h => by
    have : x = 0 := by simpa using h
    rw [this]
    rfl
  | n + 1, x, h => by
    show num p (digs p n (x / p)) * p + x % p = x
    rw [num_digs hp n (x / p) (by rw [Nat.div_lt_iff_lt_mul hp, ← Nat.pow_succ]; exact h)]
    exact Nat.div_add_mod' x p
theorem digs_num {p : Nat} (hp : 0 < p) : ∀ {ds : List Nat}, (∀ d, d ∈ ds → d < p) → digs p ds.length (num p ds) = ds
  | [], _ => rfl
  | d :: ds, h => by
    have h2 := h d List.mem_cons_self
    have ih := digs_num hp (ds := ds) fun e he => h e (List.mem_cons_of_mem _ he)
    show (num p ds * p + d) % p :: digs p ds.length ((num p ds * p + d) / p) = d :: ds
    rw [Nat.mul_add_mod_self_right, Nat.mod_eq_of_lt h2, Nat.add_comm, Nat.add_mul_div_right _ _ hp, Nat.div_eq_of_lt h2, Nat.zero_add, ih]
/-- folded from the far end, as the loops do -/
theorem num_append (p : Nat) : ∀ (ds : List Nat) (d : Nat), num p (ds ++ [d]) = num p ds + d * p ^ ds.length
  | [], d => by simp [num]
  | e :: ds, d => by
    show num p (ds ++ [d]) * p + e = (num p ds * p + e) + d * p ^ (ds.length + 1)
    rw [num_append p ds d, Nat.pow_succ, Nat.add_mul, Nat.mul_assoc]
    omega
/-- the fold over the figures, the last one first -/
theorem num_rev (p : Nat) (ds : List Nat) : num p ds = ds.reverse.foldl (fun a d => a * p + d) 0 := by
  rw [List.foldl_reverse]
  induction ds with
  | nil => rfl
  | cons d ds ih =>
    show num p ds * p + d = _
    rw [ih]
    rfl
/-- a less b, by a prime -/
def sm (p a b : Nat) : Nat := (((a : Int) - (b : Int)) % (p : Int)).toNat
theorem sm_cast {p : Nat} (hp : 0 < p) (a b : Nat) : ((sm p a b : Nat) : Int) = ((a : Int) - (b : Int)) % (p : Int) := by
  unfold sm
  exact Int.toNat_of_nonneg (Int.emod_nonneg _ (by omega))
theorem sm_lt {p : Nat} (hp : 0 < p) (a b : Nat) : sm p a b < p := by
  have h := sm_cast hp a b
  have h2 := Int.emod_lt_of_pos ((a : Int) - (b : Int)) (show (0 : Int) < (p : Int) by omega)
  omega
theorem sm_eq {p a b : Nat} (ha : a < p) (hb : b < p) : sm p a b = (a + (p - b)) % p := by
  have hp : 0 < p := by omega
  have h := sm_cast hp a b
  have e : ((a : Int) - (b : Int)) % (p : Int) = ((a + (p - b) : Nat) : Int) % (p : Int) := by
    have : ((a + (p - b) : Nat) : Int) = ((a : Int) - (b : Int)) + (p : Int) := by omega
    rw [this, Int.add_emod_right]
  rw [e] at h
  exact Int.ofNat.inj h

/-! ### elements -/
def zipDigs (F : Fd) (f : Nat → Nat → Nat) (a b : Nat) : Nat := num F.p (List.zipWith f (digs F.p F.n a) (digs F.p F.n b))
def addF (F : Fd) (a b : Nat) : Nat := if a = 0 ∨ b = 0 then a + b else zipDigs F (fun x y => (x + y) % F.p) a b
def subF (F : Fd) (a b : Nat) : Nat := if b = 0 then a else zipDigs F (fun x y => sm F.p x y) a b
def mulF (F : Fd) (a b : Nat) : Nat := if a = 0 ∨ b = 0 then 0 else F.P ((F.L a + F.L b) % (F.q - 1))
def divF (F : Fd) (a b : Nat) : Nat := if a = 0 then 0 else F.P ((F.L a + (F.q - 1 - F.L b)) % (F.q - 1))
def powF (F : Fd) (a k : Nat) : Nat := if k = 0 then 1 else if a = 0 then 0 else F.P (F.L a * k % (F.q - 1))
def turF (F : Fd) : Nat → Nat → Nat
  | 0, a => a
  | k + 1, a => powF F (turF F k a) F.p
theorem zipW_lt {p : Nat} {f : Nat → Nat → Nat} (hf : ∀ x y, f x y < p) : ∀ (xs ys : List Nat) (d : Nat), d ∈ List.zipWith f xs ys → d < p
  | [], _, _, h => by simp at h
  | _ :: _, [], _, h => by simp at h
  | x :: xs, y :: ys, d, h => by
    rw [List.zipWith_cons_cons] at h
    rcases List.mem_cons.mp h with e | h
    · rw [e]
      exact hf x y
    · exact zipW_lt hf xs ys d h
theorem zipDigs_lt {F : Fd} (h : FOK F) {f : Nat → Nat → Nat} (hf : ∀ x y, f x y < F.p) (a b : Nat) : zipDigs F f a b < F.q := by
  have hp := h.p
  have e := num_lt (p := F.p) (by omega) (zipW_lt hf (digs F.p F.n a) (digs F.p F.n b))
  rw [List.length_zipWith, digs_len, digs_len, Nat.min_self, ← h.qpn] at e
  exact e
theorem addF_lt {F : Fd} (h : FOK F) {a b : Nat} (ha : a < F.q) (hb : b < F.q) : addF F a b < F.q := by
  have hp := h.p
  unfold addF
  split
  · omega
  · exact zipDigs_lt h (fun x y => Nat.mod_lt _ (by omega)) a b
theorem subF_lt {F : Fd} (h : FOK F) {a b : Nat} (ha : a < F.q) : subF F a b < F.q := by
  have hp := h.p
  unfold subF
  split
  · exact ha
  · exact zipDigs_lt h (fun x y => sm_lt (by omega) x y) a b
theorem mulF_lt {F : Fd} (h : FOK F) (a b : Nat) : mulF F a b < F.q := by
  have hq := h.q
  unfold mulF
  split
  · omega
  · exact (h.P _ (Nat.mod_lt _ (by omega))).2
theorem divF_lt {F : Fd} (h : FOK F) (a b : Nat) : divF F a b < F.q := by
  have hq := h.q
  unfold divF
  split
  · omega
  · exact (h.P _ (Nat.mod_lt _ (by omega))).2
theorem powF_lt {F : Fd} (h : FOK F) (a k : Nat) : powF F a k < F.q := by
  have hq := h.q
  unfold powF
  split
  · omega
  · split
    · omega
    · exact (h.P _ (Nat.mod_lt _ (by omega))).2
theorem turF_lt {F : Fd} (h : FOK F) {a : Nat} (ha : a < F.q) : ∀ k, turF F k a < F.q
  | 0 => ha
  | k + 1 => powF_lt h _ _
end TP
/-! part TPd -/
/-! steps of a reading -/
namespace TP
open PySem PySem.Spec PyProof.Rows L2

/-- what one iterator does: n items, the slots' change at each, the heap as it is -/
def JW (J : It) (g : TG) (n : Nat) (f : Nat → L2.St → L2.St) (Ok : Hp → Prop) : Prop :=
  (∀ i A, i < n → Ok A → J.go i A ∧ ∀ v A', J.yld i A v A' → ∀ (st' : L2.St) (Q : L2.St → Hp → Prop), Q (f i st') A → g v st' A' Q) ∧ ∀ A, Ok A → J.stop n A
def Lp (J : It) (g : TG) (tb : TS) (D : Ends) (st : L2.St) (B : Hp) : Prop := ∃ W : Nat → Nat → L2.St → Hp → Prop, (∃ m, W 0 m st B) ∧ ∀ i m st H, W i m st H →
  (J.stop i H ∧ D.nx st H) ∨ (J.go i H ∧ ∃ N : L2.St → Hp → Prop, (∀ st' H', N st' H' → ∃ m', m' < m ∧ W (i + 1) m' st' H') ∧ ∀ x H', J.yld i H x H' → g x st H' fun st2 H2 => tb { D with nx := N, ct := N, bk := D.nx } st2 H2)
def Lcl (J : It) (g : TG) (tt : TT) (te : TE) (vs : List Nat) (st : L2.St) (Q : VK) (B : Hp) : Prop := ∀ D, B D = none → ∃ W : Nat → Nat → Hp → Prop, (∃ m, W 0 m (upd B D (.lst []))) ∧ ∀ i m H, W i m H →
  (J.stop i H ∧ Q (.ref D) H) ∨ (J.go i H ∧ ∃ Nx : Hp → Prop, (∀ H', Nx H' → ∃ m', m' < m ∧ W (i + 1) m' H') ∧ ∀ x H', J.yld i H x H' → g x (wipe st vs) H' fun st2 H2 => wipe st2 vs = wipe st vs ∧ tt st2 H2 fun b H3 =>
    if b = true then te st2 H3 fun y H4 => ∃ acc, H4 D = some (.lst acc) ∧ acc.length < sizeLine ∧ Nx (upd H4 D (.lst (acc ++ [y]))) else Nx H3)
section
variable {wi : TI} {g : TG} {tb : TS} {D : Ends} {st : L2.St} {H B : Hp} {J : It} {tt : TT} {te : TE} {vs : List Nat} {Q : VK} {n : Nat} {f : Nat → L2.St → L2.St} {Ok : Hp → Prop}
theorem z_for {nx rt bk ct} (q : wi st H fun J B => Lp J g tb ⟨nx, rt, bk, ct⟩ st B) : tFor wi g tb ⟨nx, rt, bk, ct⟩ st H := q
theorem z_lc (q : wi st H fun J B => Lcl J g tt te vs st Q B) : tLc wi g tt te vs st H Q := q
theorem lp_of {nx : L2.St → Hp → Prop} {rt bk ct} (w : JW J g n f Ok) (Pv : Nat → L2.St → Hp → Prop) (h0 : Pv 0 st B) (ok : ∀ i st' A, i ≤ n → Pv i st' A → Ok A)
    (hs : ∀ i st' A, i < n → Pv i st' A → tb ⟨Pv (i + 1), rt, nx, Pv (i + 1)⟩ (f i st') A) (hd : ∀ st' A, Pv n st' A → nx st' A) : Lp J g tb ⟨nx, rt, bk, ct⟩ st B :=
  for_wk (wi := fun _ _ R => R J B) (H := B) (fun R hR => hR J w.1 w.2) Pv h0 ok hs hd
/-- a while: a state's data, what it says, what falls -/
theorem z_while {nx : L2.St → Hp → Prop} {rt bk ct} {c : TT} {X : Type} (Pv : X → L2.St → Hp → Prop) (mu : X → Nat) (x0 : X) (h0 : Pv x0 st H)
    (hs : ∀ x st' A, Pv x st' A → c st' A fun b A1 => if b = true then tb ⟨fun st2 A2 => ∃ y, mu y < mu x ∧ Pv y st2 A2, rt, nx, fun st2 A2 => ∃ y, mu y < mu x ∧ Pv y st2 A2⟩ st' A1 else nx st' A1)
    (mono : ∀ st' A (R R' : Bool → Hp → Prop), (∀ b A1, R b A1 → R' b A1) → c st' A R → c st' A R') : tWhile c tb ⟨nx, rt, bk, ct⟩ st H := by
  refine ⟨fun m st' A => ∃ x, mu x = m ∧ Pv x st' A, ⟨_, x0, rfl, h0⟩, ?_⟩
  rintro m st' A ⟨x, rfl, p⟩
  refine mono st' A _ _ (fun b A1 q => ?_) (hs x st' A p)
  cases b with
  | true => exact ⟨_, fun st2 A2 h => by
      obtain ⟨y, l, p2⟩ := h
      exact ⟨mu y, l, y, rfl, p2⟩, q⟩
  | false => exact q
theorem lcl_of (w : JW J g n f Ok) (Pv : Addr → Nat → Hp → Prop) (h0 : ∀ D, B D = none → Pv D 0 (upd B D (.lst []))) (ok : ∀ D i A, B D = none → i ≤ n → Pv D i A → Ok A)
    (hw : ∀ i, i < n → wipe (f i (wipe st vs)) vs = wipe st vs)
    (hs : ∀ D i A, B D = none → i < n → Pv D i A → tt (f i (wipe st vs)) A fun b A1 => if b = true then te (f i (wipe st vs)) A1 fun y A2 => ∃ acc, A2 D = some (.lst acc) ∧ acc.length < sizeLine ∧ Pv D (i + 1) (upd A2 D (.lst (acc ++ [y]))) else Pv D (i + 1) A1)
    (hd : ∀ D A, B D = none → Pv D n A → Q (.ref D) A) : Lcl J g tt te vs st Q B :=
  lc_wk (wi := fun _ _ R => R J B) (H := B) (fun R hR => hR J w.1 w.2) Pv h0 ok hw hs hd
/-- values for items -/
theorem lcl_val (w : JW J g n f Ok) (p : Nat → Bool) (v : Nat → V) (hn : n ≤ 100000) (ok : ∀ D acc, B D = none → Ok (upd B D (.lst acc))) (hw : ∀ i, i < n → wipe (f i (wipe st vs)) vs = wipe st vs)
    (ht : ∀ D acc i, B D = none → i < n → ∀ R : Bool → Hp → Prop, R (p i) (upd B D (.lst acc)) → tt (f i (wipe st vs)) (upd B D (.lst acc)) R)
    (he : ∀ D acc i, B D = none → i < n → p i = true → ∀ R : VK, R (v i) (upd B D (.lst acc)) → te (f i (wipe st vs)) (upd B D (.lst acc)) R)
    (hd : ∀ D, B D = none → Q (.ref D) (upd B D (.lst (upto n p v)))) : Lcl J g tt te vs st Q B :=
  lc_val (wi := fun _ _ R => R J B) (H := B) (fun R hR => hR J w.1 w.2) p v hn ok hw ht he hd
/-- .. one of every item -/
theorem lcl_all (w : JW J g n f Ok) (v : Nat → V) (hn : n ≤ 100000) (ok : ∀ D acc, B D = none → Ok (upd B D (.lst acc))) (hw : ∀ i, i < n → wipe (f i (wipe st vs)) vs = wipe st vs)
    (he : ∀ D acc i, B D = none → i < n → ∀ R : VK, R (v i) (upd B D (.lst acc)) → te (f i (wipe st vs)) (upd B D (.lst acc)) R)
    (hd : ∀ D, B D = none → Q (.ref D) (upd B D (.lst ((List.range n).map v)))) : Lcl J g tYes te vs st Q B :=
  lcl_val w (fun _ => true) v hn ok hw (fun _ _ _ _ _ _ r => r) (fun D acc i nD hi _ R r => he D acc i nD hi R r) (fun D nD => by rw [upto_all]; exact hd D nD)
end

/-! ### the iterators -/
section
variable {K : PySem.W.Frag} {a b : Addr} {xs ys : List V} {n j j1 j2 : Nat}
theorem jw_list (hn : xs.length = n) : JW (Itl K a) (gName j) n (fun i st => st.set j (some (xs.getD i .non))) (fun A => SqL K A a xs) := by
  refine ⟨fun i A hi hA => ⟨⟨xs, xs.getD i .non, hA, ?_⟩, fun v A' y st' Q q => ?_⟩, fun A hA => ⟨xs, hA, Nat.le_of_eq hn⟩⟩
  · rw [List.getD_eq_getElem?_getD, List.getElem?_eq_getElem (by omega)]
    rfl
  · obtain ⟨e, y⟩ := y
    have z := y xs hA
    have ev : xs.getD i .non = v := by rw [List.getD_eq_getElem?_getD, z]; rfl
    replace q : Q (st'.set j (some (xs.getD i .non))) A := q
    rw [e]
    rw [ev] at q
    exact q
theorem jw_range {lo : Int} : JW (Itr lo n) (gName j) n (fun i st => st.set j (some (.int (lo + (i : Nat))))) (fun _ => True) := by
  refine ⟨fun i A hi _ => ⟨hi, fun v A' y st' Q q => ?_⟩, fun A _ => Nat.le_refl n⟩
  obtain ⟨e, y⟩ := y
  rw [e, y]
  exact q
theorem jw_rangeC {lo c : Int} : JW (Itc lo c n) (gName j) n (fun i st => st.set j (some (.int (lo + (i : Nat) * c)))) (fun _ => True) := by
  refine ⟨fun i A hi _ => ⟨hi, fun v A' y st' Q q => ?_⟩, fun A _ => Nat.le_refl n⟩
  obtain ⟨e, y⟩ := y
  rw [e, y]
  exact q
theorem tupJ_zip : TupJ (Itz K a b) := fun i H v H' y => by
  obtain ⟨T, x, z, e1, e2, e3, _⟩ := y
  exact ⟨T, [x, z], e1, e2, e3⟩
theorem tupJ_enum : TupJ (Ite K a) := fun i H v H' y => by
  obtain ⟨T, x, e1, e2, e3, _⟩ := y
  exact ⟨T, [.int (i : Nat), x], e1, e2, e3⟩
theorem upd_inj {A : Hp} {p : Addr} {o u : HO} (h : upd A p o = upd A p u) : o = u := by
  have e := congrFun h p
  rw [upd_same, upd_same] at e
  exact Option.some.inj e
theorem jw_zip (hn : n ≤ xs.length ∧ n ≤ ys.length ∧ (n = xs.length ∨ n = ys.length)) :
    JW (ItD (Itz K a b)) (gTupD 2 (gCons (gName j1) (gCons (gName j2) gNil))) n (fun i st => (st.set j1 (some (xs.getD i .non))).set j2 (some (ys.getD i .non))) (fun A => SqL K A a xs ∧ SqL K A b ys ∧ Wl A) := by
  refine ⟨fun i A hi hA => ⟨⟨⟨xs, ys, xs.getD i .non, ys.getD i .non, hA.1, hA.2.1, ?_, ?_⟩, hA.2.2⟩, fun v A' y st' Q q => ?_⟩, fun A hA => ⟨xs, ys, hA.1, hA.2.1, by omega⟩⟩
  · rw [List.getD_eq_getElem?_getD, List.getElem?_eq_getElem (by omega)]
    rfl
  · rw [List.getD_eq_getElem?_getD, List.getElem?_eq_getElem (by omega)]
    rfl
  · obtain ⟨T, zs, ev, nT, yl, eA⟩ := y
    obtain ⟨T', x, y', ev', _, eu, h1, h2⟩ := yl
    have eT : T = T' := V.ref.inj (ev.symm.trans ev')
    subst eT
    have ez := HO.tup.inj (upd_inj eu)
    have e1 : xs.getD i .non = x := by rw [List.getD_eq_getElem?_getD, h1 xs hA.1]; rfl
    have e2 : ys.getD i .non = y' := by rw [List.getD_eq_getElem?_getD, h2 ys hA.2.1]; rfl
    replace q : Q ((st'.set j1 (some (xs.getD i .non))).set j2 (some (ys.getD i .non))) A := q
    rw [e1, e2] at q
    refine ⟨T, zs, A, ev, nT, eA, by rw [ez]; rfl, ?_⟩
    rw [ez]
    exact ⟨x, [y'], rfl, y', [], rfl, rfl, q⟩
theorem jw_enum (hn : xs.length = n) :
    JW (ItD (Ite K a)) (gTupD 2 (gCons (gName j1) (gCons (gName j2) gNil))) n (fun i st => (st.set j1 (some (.int (i : Nat)))).set j2 (some (xs.getD i .non))) (fun A => SqL K A a xs ∧ Wl A) := by
  refine ⟨fun i A hi hA => ⟨⟨⟨xs, xs.getD i .non, hA.1, ?_⟩, hA.2⟩, fun v A' y st' Q q => ?_⟩, fun A hA => ⟨xs, hA.1, Nat.le_of_eq hn⟩⟩
  · rw [List.getD_eq_getElem?_getD, List.getElem?_eq_getElem (by omega)]
    rfl
  · obtain ⟨T, zs, ev, nT, yl, eA⟩ := y
    obtain ⟨T', x, ev', _, eu, h1⟩ := yl
    have eT : T = T' := V.ref.inj (ev.symm.trans ev')
    subst eT
    have ez := HO.tup.inj (upd_inj eu)
    have e1 : xs.getD i .non = x := by rw [List.getD_eq_getElem?_getD, h1 xs hA.1]; rfl
    replace q : Q ((st'.set j1 (some (.int (i : Nat)))).set j2 (some (xs.getD i .non))) A := q
    rw [e1] at q
    refine ⟨T, zs, A, ev, nT, eA, by rw [ez]; rfl, ?_⟩
    rw [ez]
    exact ⟨.int (i : Nat), [x], rfl, x, [], rfl, rfl, q⟩
end

/-! ### small steps -/
section
variable {st : L2.St} {H : Hp} {Q : VK} {ta tb te td ty tv tl : TE} {tA : TA} {tT tU : TT} {r : R2} {i j : Nat} {v x y : V} {K : PySem.W.Frag} {D : Ends} {t u : TS} {g : TG} {ro : TO}
theorem z_var (h : st[i]? = some (some v)) (q : Q v H) : tVar i st H Q := ⟨v, h, q⟩
theorem z_c (q : Q v H) : tC v st H Q := q
theorem z_op (q : ta st H fun x H1 => tb st H1 fun y H2 => r x y H2 Q) : tOp r ta tb st H Q := q
theorem z_un {ru : V → Hp → VK → Prop} (q : ta st H fun x H1 => ru x H1 Q) : tUn ru ta st H Q := q
theorem z_ifE (q : tT st H fun c H1 => if c = true then ta st H1 Q else tb st H1 Q) : tIf tT ta tb st H Q := q
theorem z_cons {Q : List V → Hp → Prop} (q : ta st H fun x H1 => tA st H1 fun xs H2 => Q (x :: xs) H2) : tCons ta tA st H Q := q
theorem z_nil {Q : List V → Hp → Prop} (q : Q [] H) : tNil st H Q := q
theorem z_call {sp : Sp} (q : tA st H fun vs H1 => sp vs H1 Q E0) : tC0 sp tA st H Q := q
theorem z_cb {rc : List V → Hp → VK → Prop} (q : tA st H fun vs H1 => rc vs H1 Q) : tCB rc tA st H Q := q
theorem z_lst (q : tA st H fun xs H1 => xs.length ≤ sizeLine ∧ ∀ p, H1 p = none → Q (.ref p) (upd H1 p (.lst xs))) : tLst tA st H Q := q
theorem z_tup (q : tA st H fun xs H1 => xs.length ≤ sizeLine ∧ ∀ p, H1 p = none → Q (.ref p) (upd H1 p (.tup xs))) : tTup tA st H Q := q
theorem z_f (q : te st H fun v H' => Fg H H' (Q v)) : tF te st H Q := q
theorem z_fld {f : Str} {a C dx : Addr} {fs : List (Str × V)} (h : H a = some (.ins C dx fs)) (c : Cls K C) (n : NoAttr K C f) (l : fs.lookup f = some v) (q : Q v H) (ha : Q v H → ta st H fun x H1 => ∃ a C dx fs v, x = .ref a ∧ H1 a = some (.ins C dx fs) ∧ Cls K C ∧ NoAttr K C f ∧ fs.lookup f = some v ∧ Q v H1) : tFld K ta f st H Q := ha q
theorem z_bm {T : String} {rm : V → List V → Hp → VK → Prop} (q : ta st H fun x H1 => tyV K T x H1 ∧ tA st H1 fun xs H2 => rm x xs H2 Q) : tBM K T rm ta tA st H Q := q
theorem z_bm0 {T : String} {rm : V → List V → Hp → VK → Prop} (q : ta st H fun x H1 => tyV K T x H1 ∧ rm x [] H1 Q) : tBM0 K T rm ta st H Q := q
theorem z_sl {rs : V → Option Int → Option Int → Hp → VK → Prop} {to1 to2 : TO} (q : te st H fun x H1 => to1 st H1 fun l H2 => to2 st H2 fun u H3 => rs x l u H3 Q) : tSl rs te to1 to2 st H Q := q
theorem z_noP {Q : Option Int → Hp → Prop} (q : Q none H) : tNoPart st H Q := q
theorem z_part {Q : Option Int → Hp → Prop} (q : te st H fun x H1 => ∃ i, x = .int i ∧ Q (some i) H1) : tPart te st H Q := q
theorem z_revL (q : te st H fun x H1 => ∃ a xs, x = .ref a ∧ SqL K H1 a xs ∧ ∀ p, H1 p = none → Q (.ref p) (upd H1 p (.lst xs.reverse))) : tRevL K te st H Q := q
-- tests
theorem z_test {Q : Bool → Hp → Prop} (q : te st H fun x H1 => ∃ k, x = .bl k ∧ Q k H1) : tTest te st H Q := q
theorem z_tB {Q : Bool → Hp → Prop} (q : te st H fun x H1 => ∃ k, x = .bl k ∧ Q k H1) : tB te st H Q := q
theorem z_and {Q : Bool → Hp → Prop} (q : tT st H fun c H1 => if c = true then tU st H1 Q else Q false H1) : tAnd tT tU st H Q := q
theorem z_or {Q : Bool → Hp → Prop} (q : tT st H fun c H1 => if c = true then Q true H1 else tU st H1 Q) : tOr tT tU st H Q := q
theorem z_not {Q : Bool → Hp → Prop} (q : tT st H fun c H1 => Q (!c) H1) : tNot tT st H Q := q
theorem z_yes {Q : Bool → Hp → Prop} (q : Q true H) : tYes st H Q := q
theorem z_andV (q : ta st H fun x H1 => ∃ c, x = .bl c ∧ if c = true then tb st H1 Q else Q (.bl false) H1) : tAndV ta tb st H Q := q
theorem z_orV (q : ta st H fun x H1 => ∃ c, x = .bl c ∧ if c = true then Q (.bl true) H1 else tb st H1 Q) : tOrV ta tb st H Q := q
theorem z_notV (q : ta st H fun x H1 => ∃ c, x = .bl c ∧ Q (.bl (!c)) H1) : tNotV ta st H Q := q
theorem z_bl {R : Bool → Prop} {k : Bool} (q : R k) : ∃ c, V.bl k = .bl c ∧ R c := ⟨k, rfl, q⟩
theorem z_int {R : Int → Prop} {k : Int} (q : R k) : ∃ c, V.int k = .int c ∧ R c := ⟨k, rfl, q⟩
-- statements
theorem z_seq {nx rt bk ct} (q : t ⟨u ⟨nx, rt, bk, ct⟩, rt, bk, ct⟩ st H) : tSeq t u ⟨nx, rt, bk, ct⟩ st H := q
theorem z_next {nx : L2.St → Hp → Prop} {rt bk ct} (q : nx st H) : tNext ⟨nx, rt, bk, ct⟩ st H := q
theorem z_asg {nx rt bk ct} (q : te st H fun x H1 => g x st H1 nx) : tAsg te g ⟨nx, rt, bk, ct⟩ st H := q
theorem z_name {Q : L2.St → Hp → Prop} (q : Q (st.set i (some v)) H) : gName i v st H Q := q
theorem z_par {nx : L2.St → Hp → Prop} {rt bk ct} (q : tA st H fun vs H1 => ∃ v w, vs = [v, w] ∧ nx ((st.set i (some v)).set j (some w)) H1) : tPar i j tA ⟨nx, rt, bk, ct⟩ st H := q
theorem z_two {R : V → V → Prop} (q : R x y) : ∃ v w, [x, y] = [v, w] ∧ R v w := ⟨x, y, rfl, q⟩
theorem z_par3 {l : Nat} {nx : L2.St → Hp → Prop} {rt bk ct} (q : tA st H fun vs H1 => ∃ a b c, vs = [a, b, c] ∧ nx (((st.set i (some a)).set j (some b)).set l (some c)) H1) : tPar3 i j l tA ⟨nx, rt, bk, ct⟩ st H := q
theorem z_three {R : V → V → V → Prop} (q : R v x y) : ∃ a b c, [v, x, y] = [a, b, c] ∧ R a b c := ⟨v, x, y, rfl, q⟩
theorem z_drop {nx : L2.St → Hp → Prop} {rt bk ct} (q : te st H fun _ H1 => nx st H1) : tDrop te ⟨nx, rt, bk, ct⟩ st H := q
theorem z_ret {nx rt bk ct} (q : te st H rt) : tRet te ⟨nx, rt, bk, ct⟩ st H := q
theorem z_ifS {nx rt bk ct} (q : tT st H fun b H1 => if b = true then t ⟨nx, rt, bk, ct⟩ st H1 else u ⟨nx, rt, bk, ct⟩ st H1) : tIfS tT t u ⟨nx, rt, bk, ct⟩ st H := q
theorem z_sf {nx rt bk ct} (q : t ⟨fun st' H' => Fg H H' (nx st'), fun v H' => Fg H H' (rt v), fun st' H' => Fg H H' (bk st'), fun st' H' => Fg H H' (ct st')⟩ st H) : tSF t ⟨nx, rt, bk, ct⟩ st H := q
theorem z_sub {to ti : TE} {ts : TSet} {Q : L2.St → Hp → Prop} (q : to st H fun o H1 => ti st H1 fun k H2 => ts o k v H2 fun H3 => Q st H3) : gSub to ti ts v st H Q := q
-- choices
theorem z_dec {c A B : Prop} [Decidable c] (h1 : c → A) (h2 : ¬ c → B) : if decide c = true then A else B := by
  by_cases h : c
  · rw [decide_eq_true h, if_pos rfl]
    exact h1 h
  · rw [decide_eq_false h, if_neg Bool.false_ne_true]
    exact h2 h
theorem z_ndec {c A B : Prop} [Decidable c] (h1 : ¬ c → A) (h2 : c → B) : if (!decide c) = true then A else B := by
  by_cases h : c
  · rw [decide_eq_true h]
    exact h2 h
  · rw [decide_eq_false h]
    exact h1 h
theorem z_bool {b : Bool} {A B : Prop} (h1 : b = true → A) (h2 : b = false → B) : if b = true then A else B := by
  cases b with
  | true => exact h1 rfl
  | false => exact h2 rfl
theorem z_nbool {b : Bool} {A B : Prop} (h1 : b = false → A) (h2 : b = true → B) : if (!b) = true then A else B := by
  cases b with
  | true => exact h2 rfl
  | false => exact h1 rfl
theorem z_tt {A B : Prop} (h : A) : if true = true then A else B := h
theorem z_ff {A B : Prop} (h : B) : if false = true then A else B := h
-- operators on values
theorem r_I0 {f : Int → Int → V} {a b : Int} (q : Q (f a b) H) : rI0 f (.int a) (.int b) H Q := ⟨a, b, rfl, rfl, q⟩
theorem r_I {C : Int → Int → Prop} {f : Int → Int → V} {a b : Int} (c : C a b) (q : Q (f a b) H) : rI C f (.int a) (.int b) H Q := ⟨a, b, rfl, rfl, c, q⟩
theorem r_U {f : Int → V} {a : Int} (q : Q (f a) H) : rU f (.int a) H Q := ⟨a, rfl, q⟩
theorem r_eq {a b : Int} (q : Q (.bl (decide (a = b))) H) : rEq (.int a) (.int b) H Q := ⟨rfl, by
  have e : decide (V.int a = V.int b) = decide (a = b) := by simp
  rw [e]
  exact q⟩
theorem r_ne {a b : Int} (q : Q (.bl (!decide (a = b))) H) : rNe (.int a) (.int b) H Q := ⟨rfl, by
  have e : decide (V.int a = V.int b) = decide (a = b) := by simp
  rw [e]
  exact q⟩
theorem r_ixL {p : Addr} {xs : List V} {k : Int} (h : SqL K H p xs) (e : atI xs k = some v) (q : Q v H) : rIxL K (.ref p) (.int k) H Q := ⟨p, xs, k, v, rfl, rfl, h, e, q⟩
theorem r_slL {p : Addr} {xs : List V} {lo hi : Option Int} (h : SqL K H p xs) (q : ∀ p, H p = none → Q (.ref p) (upd H p (.lst (cutV xs lo hi)))) : rSlL K (.ref p) lo hi H Q := ⟨p, xs, rfl, h, q⟩
theorem r_app {l : Addr} {xs : List V} (h : H l = some (.lst xs)) (z : xs.length < 1000000) (q : Q .non (upd H l (.lst (xs ++ [v])))) : rAppend (.ref l) [v] H Q := ⟨l, xs, v, rfl, rfl, h, Nat.lt_of_lt_of_le z (by decide), q⟩
theorem r_set {l : Addr} {xs : List V} {k : Int} {m : Nat} {R : Hp → Prop} (h : H l = some (.lst xs)) (e : ixN xs.length k = some m) (q : R (upd H l (.lst (xs.set m v)))) : rSetL (.ref l) (.int k) v H R := ⟨l, xs, k, m, rfl, rfl, h, e, q⟩
theorem r_cat {l b : Addr} {xs ys : List V} (h : H l = some (.lst xs)) (k : H b = some (.lst ys)) (z : xs.length + ys.length ≤ 1000000) (q : ∀ p, H p = none → Q (.ref p) (upd H p (.lst (xs ++ ys)))) : rCat (.ref l) (.ref b) H Q := ⟨l, b, xs, ys, rfl, rfl, h, k, Nat.le_trans z (by decide), q⟩
theorem flat_rep (m : Nat) (v : V) : (List.replicate m [v]).flatten = List.replicate m v := by
  induction m with
  | zero => rfl
  | succ m ih => rw [List.replicate_succ, List.flatten_cons, ih, List.replicate_succ, List.singleton_append]
theorem r_rep {l : Addr} {m : Nat} (h : H l = some (.lst [v])) (z : m ≤ 1000000) (q : ∀ p, H p = none → Q (.ref p) (upd H p (.lst (List.replicate m v)))) : rRep (.ref l) (.int (m : Nat)) H Q := by
  refine ⟨l, (m : Nat), [v], rfl, rfl, h, by omega, by omega, ?_, fun p hp => ?_⟩
  · rw [Int.toNat_natCast, List.length_singleton, Nat.one_mul]
    exact Nat.le_trans z (by decide)
  · rw [Int.toNat_natCast, flat_rep]
    exact q p hp
end
end TP
/-! part TPe -/
/-! how the program's data stand -/
namespace TP
open PySem PySem.Spec PyProof.Rows L2

/-- a list of counts -/
def vN (ns : List Nat) : List V := ns.map fun n => V.int (n : Nat)
theorem vN_len (ns : List Nat) : (vN ns).length = ns.length := List.length_map ..
theorem vN_app (ns ms : List Nat) : vN (ns ++ ms) = vN ns ++ vN ms := List.map_append
theorem vN_snoc (ns : List Nat) (m : Nat) : vN ns ++ [V.int (m : Nat)] = vN (ns ++ [m]) := by rw [vN_app]; rfl
theorem vN_set (ns : List Nat) (i m : Nat) : (vN ns).set i (V.int (m : Nat)) = vN (ns.set i m) := by
  unfold vN
  rw [List.map_set]
theorem vN_rep (k m : Nat) : List.replicate k (V.int (m : Nat)) = vN (List.replicate k m) := by
  unfold vN
  rw [List.map_replicate]
theorem vN_get? (ns : List Nat) (i : Nat) : (vN ns)[i]? = ns[i]?.map fun n => V.int (n : Nat) := List.getElem?_map ..
theorem vN_getD {ns : List Nat} {i : Nat} (h : i < ns.length) : (vN ns).getD i .non = .int ((ns.getD i 0 : Nat)) := by
  rw [List.getD_eq_getElem?_getD, vN_get?, List.getD_eq_getElem?_getD, List.getElem?_eq_getElem h]
  rfl
theorem vN_at {ns : List Nat} {i : Nat} (h : i < ns.length) : (vN ns)[i]? = some (.int ((ns.getD i 0 : Nat))) := by
  rw [vN_get?, List.getD_eq_getElem?_getD, List.getElem?_eq_getElem h]
  rfl
theorem vN_drop (ns : List Nat) (k : Nat) : (vN ns).drop k = vN (ns.drop k) := by
  unfold vN
  rw [List.map_drop]
theorem vN_take (ns : List Nat) (k : Nat) : (vN ns).take k = vN (ns.take k) := by
  unfold vN
  rw [List.map_take]
theorem vN_rev (ns : List Nat) : (vN ns).reverse = vN ns.reverse := by
  unfold vN
  rw [List.map_reverse]
theorem vN_range {n : Nat} (f : Nat → Nat) : ((List.range n).map fun i => V.int ((f i : Nat))) = vN ((List.range n).map f) := by
  unfold vN
  rw [List.map_map]
  rfl
theorem atN {ns : List Nat} {i : Nat} (h : i < ns.length) : atI (vN ns) (i : Nat) = some (.int ((ns.getD i 0 : Nat))) := atI_nat (vN_at h)
/-- the last one -/
theorem at_end {xs : List V} {v : V} (h : xs.getLast? = some v) : atI xs (-1) = some v := by
  obtain ⟨ys, rfl⟩ := List.getLast?_eq_some_iff.mp h
  exact atI_last ys v
theorem getLast_vN {ns : List Nat} (h : 0 < ns.length) : (vN ns).getLast? = some (.int ((ns.getD (ns.length - 1) 0 : Nat))) := by
  rw [List.getLast?_eq_getElem?, vN_len]
  exact vN_at (by omega)
theorem ixN_in {n j : Nat} (h : j < n) : ixN n (j : Nat) = some j := by
  unfold ixN
  rw [if_pos (by omega), if_pos (by omega)]
  simp

/-- the logarithms as they are kept: -1 for 0 -/
def vL (F : Fd) : List V := .int (-1) :: vN F.lg.tail
def fF (F : Fd) (m a b : Addr) : List (Str × V) := [("own_prime", .int F.p), ("own_turns", .int F.n), ("own_size", .int F.q), ("own_modulus", .ref m), ("own_powers", .ref a), ("own_logs", .ref b)]
structure FieldAt (K : PySem.W.Frag) (H : Hp) (f : Addr) (F : Fd) : Prop where
  ex : ∃ dx m a b, H f = some (.ins (He.ga K "Field") dx (fF F m a b)) ∧ H m = some (.lst (vN F.md)) ∧ H a = some (.lst (vN F.pw)) ∧ H b = some (.lst (vL F))
theorem FieldAt.mono {K : PySem.W.Frag} {A B : Hp} {f : Addr} {F : Fd} (e : Same A B) (h : FieldAt K A f F) : FieldAt K B f F := by
  obtain ⟨dx, m, a, b, h1, h2, h3, h4⟩ := h.ex
  exact ⟨dx, m, a, b, e _ _ h1, e _ _ h2, e _ _ h3, e _ _ h4⟩
def bF (f l : Addr) (k : Nat) : List (Str × V) := [("own_field", .ref f), ("own_points", .ref l), ("own_many", .int k)]
structure BookAt (K : PySem.W.Frag) (H : Hp) (b : Addr) (F : Fd) (ps : List Nat) (k : Nat) : Prop where
  ex : ∃ dx f l, H b = some (.ins (He.ga K "Book") dx (bF f l k)) ∧ FieldAt K H f F ∧ H l = some (.lst (vN ps))
theorem BookAt.mono {K : PySem.W.Frag} {A B : Hp} {b : Addr} {F : Fd} {ps : List Nat} {k : Nat} (e : Same A B) (h : BookAt K A b F ps k) : BookAt K B b F ps k := by
  obtain ⟨dx, f, l, h1, h2, h3⟩ := h.ex
  exact ⟨dx, f, l, e _ _ h1, h2.mono e, e _ _ h3⟩
section
variable {K : PySem.W.Frag} {mg : Str → Option Value} {F : Fd} {m a b f l C dx : Addr} {k : Nat}
theorem fF_p : (fF F m a b).lookup ("own_prime" : Str) = some (.int F.p) := rfl
theorem fF_n : (fF F m a b).lookup ("own_turns" : Str) = some (.int F.n) := rfl
theorem fF_q : (fF F m a b).lookup ("own_size" : Str) = some (.int F.q) := rfl
theorem fF_a : (fF F m a b).lookup ("own_powers" : Str) = some (.ref a) := rfl
theorem fF_b : (fF F m a b).lookup ("own_logs" : Str) = some (.ref b) := rfl
theorem bF_f : (bF f l k).lookup ("own_field" : Str) = some (.ref f) := rfl
theorem bF_l : (bF f l k).lookup ("own_points" : Str) = some (.ref l) := rfl
theorem bF_k : (bF f l k).lookup ("own_many" : Str) = some (.int k) := rfl
variable {st : L2.St} {H : Hp} {Q : VK} {i : Nat}
theorem z_own_prime (T : Txt K mg) (hv : st[i]? = some (some (.ref f))) (h : H f = some (.ins (He.ga K "Field") dx (fF F m a b))) (q : Q (.int F.p) H) : tFld K (tVar i) "own_prime" st H Q := ⟨_, hv, f, _, dx, _, _, rfl, h, T.c_Field, T.a_Field_own_prime, fF_p, q⟩
theorem z_own_turns (T : Txt K mg) (hv : st[i]? = some (some (.ref f))) (h : H f = some (.ins (He.ga K "Field") dx (fF F m a b))) (q : Q (.int F.n) H) : tFld K (tVar i) "own_turns" st H Q := ⟨_, hv, f, _, dx, _, _, rfl, h, T.c_Field, T.a_Field_own_turns, fF_n, q⟩
theorem z_own_size (T : Txt K mg) (hv : st[i]? = some (some (.ref f))) (h : H f = some (.ins (He.ga K "Field") dx (fF F m a b))) (q : Q (.int F.q) H) : tFld K (tVar i) "own_size" st H Q := ⟨_, hv, f, _, dx, _, _, rfl, h, T.c_Field, T.a_Field_own_size, fF_q, q⟩
theorem z_own_powers (T : Txt K mg) (hv : st[i]? = some (some (.ref f))) (h : H f = some (.ins (He.ga K "Field") dx (fF F m a b))) (q : Q (.ref a) H) : tFld K (tVar i) "own_powers" st H Q := ⟨_, hv, f, _, dx, _, _, rfl, h, T.c_Field, T.a_Field_own_powers, fF_a, q⟩
theorem z_own_logs (T : Txt K mg) (hv : st[i]? = some (some (.ref f))) (h : H f = some (.ins (He.ga K "Field") dx (fF F m a b))) (q : Q (.ref b) H) : tFld K (tVar i) "own_logs" st H Q := ⟨_, hv, f, _, dx, _, _, rfl, h, T.c_Field, T.a_Field_own_logs, fF_b, q⟩
theorem z_own_field (T : Txt K mg) (hv : st[i]? = some (some (.ref b))) (h : H b = some (.ins (He.ga K "Book") dx (bF f l k))) (q : Q (.ref f) H) : tFld K (tVar i) "own_field" st H Q := ⟨_, hv, b, _, dx, _, _, rfl, h, T.c_Book, T.a_Book_own_field, bF_f, q⟩
theorem z_own_points (T : Txt K mg) (hv : st[i]? = some (some (.ref b))) (h : H b = some (.ins (He.ga K "Book") dx (bF f l k))) (q : Q (.ref l) H) : tFld K (tVar i) "own_points" st H Q := ⟨_, hv, b, _, dx, _, _, rfl, h, T.c_Book, T.a_Book_own_points, bF_l, q⟩
theorem z_own_many (T : Txt K mg) (hv : st[i]? = some (some (.ref b))) (h : H b = some (.ins (He.ga K "Book") dx (bF f l k))) (q : Q (.int k) H) : tFld K (tVar i) "own_many" st H Q := ⟨_, hv, b, _, dx, _, _, rfl, h, T.c_Book, T.a_Book_own_many, bF_k, q⟩
end
/-! ### rules with the written part told -/
section
variable {X : Cx} {K : PySem.W.Frag}
theorem pe_fldK {e : Expr} {f : Str} {pos : Pos} {ta : TE} (hK : X.K = K) (he : PE X e ta) (hb : attributeBase e f X.env (eval e X.env) = eval e X.env) : PE X (.Attribute e f pos) (tFld K ta f) := by
  subst hK
  exact pe_fld he hb
theorem ix_listK (hK : X.K = K) : IxR X (rIxL K) := by
  subst hK
  exact ix_list
theorem sl_listK (hK : X.K = K) : SlR X (rSlL K) := by
  subst hK
  exact sl_list
theorem op_inK (hK : X.K = K) : OpR X (compareOp .In) (rIn K false) := by
  subst hK
  exact op_in_seq
theorem op_notInK (hK : X.K = K) : OpR X (compareOp .NotIn) (rIn K true) := by
  subst hK
  exact op_notIn_seq
theorem op_eqDK (hK : X.K = K) (hu : X.A.units + 64 < cLine) : OpR X (compareOp .Eq) (rEqD K) := by
  subst hK
  exact op_eqD hu
theorem op_neDK (hK : X.K = K) (hu : X.A.units + 64 < cLine) : OpR X (compareOp .NotEq) (rNeD K) := by
  subst hK
  exact op_neD hu
theorem op_inDK (hK : X.K = K) (hu : X.A.units + 65 < cLine) : OpR X (compareOp .In) (rInD K) := by
  subst hK
  exact op_inD hu
def rLenK (K : PySem.W.Frag) : List V → Hp → VK → Prop := fun xs H Q => ∃ p ys, xs = [.ref p] ∧ (SqL K H p ys ∨ SqT K H p ys) ∧ Q (.int ys.length) H
theorem call_lenK (hK : X.K = K) : CallR X (.builtin "len") (rLenK K) := by
  subst hK
  exact call_len_seq
def rListK (K : PySem.W.Frag) : List V → Hp → VK → Prop := fun xs H Q => ∃ p ys, xs = [.ref p] ∧ (SqL K H p ys ∨ SqT K H p ys) ∧ ∀ l, H l = none → Q (.ref l) (upd H l (.lst ys))
theorem call_listK (hK : X.K = K) : CallR X (.type "list") (rListK K) := by
  subst hK
  exact call_list_of
theorem cr_allK (hK : X.K = K) (hc : X.calm = true) : CallR X (.builtin "all") (rAll K) := by
  subst hK
  exact cr_all hc
theorem call_reprB : CallR X (.builtin "repr") (fun xs H Q => ∃ b : Bool, xs = [.bl b] ∧ Q (.str (if b then "True" else "False")) H) := by
  intro pins s st H xs us Q I r h
  obtain ⟨b, rfl, q⟩ := h
  obtain ⟨u, rfl, ru⟩ := vals1 r
  cases ru
  exact PySem.P.repr_of_bool ⟨.str _, H, I.tok _, ⟨_, rfl⟩, q⟩
end
section
variable {K : PySem.W.Frag} {H : Hp} {Q : VK} {p : Addr} {xs : List V}
theorem r_len (h : SqL K H p xs) (q : Q (.int xs.length) H) : rLenK K [.ref p] H Q := ⟨p, xs, rfl, .inl h, q⟩
theorem r_list (h : SqL K H p xs) (q : ∀ l, H l = none → Q (.ref l) (upd H l (.lst xs))) : rListK K [.ref p] H Q := ⟨p, xs, rfl, .inl h, q⟩
theorem r_all {bs : List Bool} (h : SqL K H p (bs.map V.bl)) (q : Q (.bl (bs.all id)) H) : rAll K [.ref p] H Q := ⟨p, bs, rfl, h, q⟩
end
theorem z_tyl {K : PySem.W.Frag} {H : Hp} {p : Addr} {xs : List V} {R : Prop} (h : H p = some (.lst xs)) (q : R) : tyV K "list" (.ref p) H ∧ R := ⟨.inl ⟨rfl, xs, SqL.of h⟩, q⟩
/-! ### what is walked -/
section
variable {st : L2.St} {H B : Hp} {R : It → Hp → Prop} {tA : TA} {te : TE} {K : PySem.W.Frag}
theorem i_rng1 (q : tA st H fun vs H1 => ∃ j : Int, vs = [.int j] ∧ -(2 ^ 62) ≤ j ∧ j < 2 ^ 62 ∧ R (Itr 0 j.toNat) H1) : iRng1 tA st H R := q
theorem e_rng1 {R : Int → Prop} {k : Int} (m : Nat) (e : k = (m : Nat)) (h : m ≤ 1000000) (q : R (m : Nat)) : ∃ j : Int, [V.int k] = [.int j] ∧ -(2 ^ 62) ≤ j ∧ j < 2 ^ 62 ∧ R j :=
  ⟨k, rfl, by omega, by omega, by rw [e]; exact q⟩
theorem i_rng2 (q : tA st H fun vs H1 => ∃ i j : Int, vs = [.int i, .int j] ∧ (-(2 ^ 62) ≤ i ∧ i < 2 ^ 62 ∧ -(2 ^ 62) ≤ j ∧ j < 2 ^ 62) ∧ R (Itr i (j - i).toNat) H1) : iRng2 tA st H R := q
theorem e_rng2 {R : Int → Int → Prop} {l k : Int} (h : -1000000 ≤ l ∧ l ≤ 1000000 ∧ -1000000 ≤ k ∧ k ≤ 1000000) (q : R l k) : ∃ i j : Int, [V.int l, V.int k] = [.int i, .int j] ∧ (-(2 ^ 62) ≤ i ∧ i < 2 ^ 62 ∧ -(2 ^ 62) ≤ j ∧ j < 2 ^ 62) ∧ R i j :=
  ⟨l, k, rfl, by omega, q⟩
theorem i_list (q : te st H fun x H1 => ∃ a, x = .ref a ∧ (∃ xs, SqL K H1 a xs) ∧ R (Itl K a) H1) : iList K te st H R := q
theorem e_list {R : Addr → Prop} {p : Addr} {xs : List V} (h : SqL K B p xs) (q : R p) : ∃ a, V.ref p = .ref a ∧ (∃ xs, SqL K B a xs) ∧ R a := ⟨p, rfl, ⟨xs, h⟩, q⟩
theorem i_zip (q : tA st H fun vs H1 => ∃ a b xs ys, vs = [.ref a, .ref b] ∧ SqL K H1 a xs ∧ SqL K H1 b ys ∧ TupJ (Itz K a b) ∧ R (ItD (Itz K a b)) H1) : wD (iZip K tA) st H R := q
theorem e_zip {R : Addr → Addr → Prop} {a b : Addr} {xs ys : List V} (h1 : SqL K B a xs) (h2 : SqL K B b ys) (q : R a b) : ∃ c d zs ws, [V.ref a, V.ref b] = [.ref c, .ref d] ∧ SqL K B c zs ∧ SqL K B d ws ∧ TupJ (Itz K c d) ∧ R c d :=
  ⟨a, b, xs, ys, rfl, h1, h2, tupJ_zip, q⟩
theorem i_enum (q : tA st H fun vs H1 => ∃ a xs, vs = [.ref a] ∧ SqL K H1 a xs ∧ TupJ (Ite K a) ∧ R (ItD (Ite K a)) H1) : wD (iEnum K tA) st H R := q
theorem e_enum {R : Addr → Prop} {a : Addr} {xs : List V} (h1 : SqL K B a xs) (q : R a) : ∃ c zs, [V.ref a] = [.ref c] ∧ SqL K B c zs ∧ TupJ (Ite K c) ∧ R c := ⟨a, xs, rfl, h1, tupJ_enum, q⟩
end
/-! ### kinds of heaps -/
def NoOwn (A : Hp) (p : Addr) : Prop := ∀ b, A p ≠ some (.own b)
theorem NoOwn.none {A : Hp} {p : Addr} (h : A p = none) : NoOwn A p := fun b e => by
  rw [h] at e
  cases e
theorem NoOwn.flat {A : Hp} {p : Addr} {o : HO} (h : A p = some o) (f : flatO o) : NoOwn A p := fun b e => by
  rw [h] at e
  cases e
  exact f
theorem NoOwn.upd {A : Hp} {p q : Addr} {o : HO} (h : NoOwn A q) (f : flatO o) : NoOwn (upd A p o) q := fun b e => by
  by_cases hq : q = p
  · rw [hq, upd_same] at e
    cases e
    exact f
  · rw [upd_ne hq] at e
    exact h b e
theorem Wl.put {A : Hp} {p : Addr} {o : HO} (w : Wl A) (n : NoOwn A p) (g : flatO o) : Wl (L2.upd A p o) := fun a v h => by
  by_cases ha : a = p
  · rw [ha, upd_same] at h
    cases h
    exact okO_flat g
  · rw [upd_ne ha] at h
    exact okO_upd n (w a v h)
end TP
/-! part TPz -/
set_option maxHeartbeats 2000000
/-! a zip held by a name -/
namespace TP
open PySem PySem.Spec PyProof.Rows L2

section
variable {X : Cx} {pins : List (Addr × Obj)} {st : L2.St} {A : Hp} {s : Shared} {a : Addr} {φ : Heap → Prop}
/-- an object of one's own comes to be tracked -/
theorem inv_track (I : Inv X pins st A s) (f : FpOk X pins A a) (h0 : φ s.heap) (h1 : ∃ o, s.heap.get? a = some o) (h2 : ∀ g k : Heap, φ g → (∀ o, g.get? a = some o → k.get? a = some o) → φ k) : Inv X pins st (upd A a (.ext φ)) s := by
  obtain ⟨f0, f1, f2, f3, f4, f5⟩ := f
  have old : ∀ b o, X.s_0.heap.get? b = some o → b ∉ X.ex → b ≠ a := fun b o q hx e => by
    rcases f3 with z | z
    · exact hx (by rw [e]; exact z)
    · exact absurd (Nat.lt_of_lt_of_le (Heap.lt_size q) (by rw [e]; exact z)) (Nat.lt_irrefl _)
  refine { ok := I.ok, os := I.os, bare := I.bare, base := ⟨I.base.keep, I.base.slot, fun b o q n hx => ?_, I.base.there, fun b xs q => ?_, fun b o u q => ?_, fun b ps q => ?_⟩, loc := I.loc, cell := I.cell, free := ?_, freeC := fun y c q => ?_, pin := fun q hq => ?_, hok := fun b u q => ?_, len := I.len }
  · rw [upd_ne (old b o q hx)]
    exact I.base.free b o q n hx
  · have z := I.base.tups b xs q
    rw [upd_ne (ne_of_none z f0)]
    exact z
  · have z := I.base.frzs b o u q
    rw [upd_ne (ne_of_none z f0)]
    exact z
  · obtain ⟨more, z⟩ := I.base.tbls b ps q
    exact ⟨more, by rw [upd_ne (ne_of_none z f0)]; exact z⟩
  · rw [upd_ne (Ne.symm f1)]
    exact I.free
  · rw [upd_ne (f4 y c q)]
    exact I.freeC y c q
  · obtain ⟨p1, p2, p3⟩ := I.pin q hq
    exact ⟨p1, by rw [upd_ne (f5 q hq)]; exact p2, p3⟩
  · by_cases hb : b = a
    · subst hb
      rw [upd_same] at q
      cases q
      exact ⟨h0, h1, h2⟩
    · rw [upd_ne hb] at q
      refine (I.hok b u q).stay (fun _ _ _ z => z) (fun c z => ?_) fun c xs z => ?_
      · rw [upd_ne (ne_of_none z f0)]
        exact z
      · rw [upd_ne (ne_of_none z f0)]
        exact z
theorem fp_upd {b : Addr} {o : HO} (f : FpOk X pins A b) (n : b ≠ a) : FpOk X pins (upd A a o) b := ⟨by rw [upd_ne n]; exact f.1, f.2⟩
end
/-- the five objects of a zip -/
def zipH (H : Hp) (i1 i2 TI TO z a b : Addr) : Hp :=
  upd (upd (upd (upd (upd H i1 (.ext fun h => h.IsListIter i1 a 0)) i2 (.ext fun h => h.IsListIter i2 b 0)) TI (.ext fun h => IsPair h TI (.ref i1) (.ref i2))) TO (.ext fun h => ∃ x y, IsPair h TO x y)) z (.ext fun h => IsZip h z TI TO .none)
structure ZF (H : Hp) (n : Nat) (i1 i2 TI TO z a b : Addr) : Prop where
  ap : ZipApart z TI TO i1 i2 a b
  n1 : H i1 = none ∧ n ≤ i1
  n2 : H i2 = none ∧ n ≤ i2
  n3 : H TI = none ∧ n ≤ TI
  n4 : H TO = none ∧ n ≤ TO
  n5 : H z = none ∧ n ≤ z
def rZipV (K : PySem.W.Frag) (n : Nat) : List V → Hp → VK → Prop := fun vs H Q => ∃ a b xs ys, vs = [.ref a, .ref b] ∧ SqL K H a xs ∧ SqL K H b ys ∧ ∀ i1 i2 TI TO z, ZF H n i1 i2 TI TO z a b → Q (.ref z) (zipH H i1 i2 TI TO z a b)
section
variable {X : Cx}
theorem call_zipV : CallR X (.type "zip") (rZipV X.K X.s_0.heap.objs.size) := by
  intro pins s st H vs us Q I r h
  obtain ⟨a, b, xs, ys, rfl, ha, hb, q⟩ := h
  obtain ⟨u1, u2, rfl, r1, r2⟩ := vals2 r
  cases r1
  cases r2
  obtain ⟨its, rv, p1, _⟩ := I.list ha
  obtain ⟨its2, rv2, p2, _⟩ := I.list hb
  refine call_zip_2 p1.isList p2.isList fun h' hz hTI hTO h1 h2 hsz hk => ?_
  have I0 : Inv X pins st H { s with heap := h' } := I.kept (t' := s.toks) hk
  have fr : ∀ k : Nat, FpOk X pins H (s.heap.objs.size + k) := fun k => I.fpOk (Nat.le_add_right _ _) (I.hok.fresh (Nat.le_add_right _ _))
  have young : ∀ k : Nat, X.s_0.heap.objs.size ≤ s.heap.objs.size + k := fun k => Nat.le_trans I.sz (Nat.le_add_right _ _)
  have D := PySem.W.ktu_apart s.heap.objs.size a b p1.lt p2.lt
  have f0 : FpOk X pins H s.heap.objs.size := fr 0
  have I1 := inv_track I0 (a := s.heap.objs.size) (φ := fun h => h.IsListIter s.heap.objs.size a 0) f0 h1 (by obtain ⟨o, z, _⟩ := h1; exact ⟨o, z⟩) (fun g k z kk => z.at fun o q => kk o q)
  have I2 := inv_track I1 (a := s.heap.objs.size + 1) (φ := fun h => h.IsListIter (s.heap.objs.size + 1) b 0) (fp_upd (fr 1) (Ne.symm D.i12)) h2 (by obtain ⟨o, z, _⟩ := h2; exact ⟨o, z⟩) (fun g k z kk => z.at fun o q => kk o q)
  have I3 := inv_track I2 (a := s.heap.objs.size + 2) (φ := fun h => IsPair h (s.heap.objs.size + 2) (.ref s.heap.objs.size) (.ref (s.heap.objs.size + 1))) (fp_upd (fp_upd (fr 2) D.TIi1) D.TIi2) hTI ⟨_, hTI⟩ (fun g k z kk => kk _ z)
  have I4 := inv_track I3 (a := s.heap.objs.size + 3) (φ := fun h => ∃ x y, IsPair h (s.heap.objs.size + 3) x y) (fp_upd (fp_upd (fp_upd (fr 3) D.TOi1) D.TOi2) (Ne.symm D.TITO)) ⟨_, _, hTO⟩ ⟨_, hTO⟩ (fun g k z kk => by obtain ⟨x, y, z⟩ := z; exact ⟨x, y, kk _ z⟩)
  have I5 := inv_track I4 (a := s.heap.objs.size + 4) (φ := fun h => IsZip h (s.heap.objs.size + 4) (s.heap.objs.size + 2) (s.heap.objs.size + 3) .none) (fp_upd (fp_upd (fp_upd (fp_upd (fr 4) (Ne.symm D.i1z)) (Ne.symm D.i2z)) (Ne.symm D.TIz)) (Ne.symm D.TOz)) hz ⟨_, hz⟩ (fun g k z kk => kk _ z)
  exact ⟨.ref (s.heap.objs.size + 4), _, I5, rfl, q _ _ _ _ _ ⟨D, ⟨f0.1, young 0⟩, ⟨(fr 1).1, young 1⟩, ⟨(fr 2).1, young 2⟩, ⟨(fr 3).1, young 3⟩, ⟨(fr 4).1, young 4⟩⟩⟩
/-- walked: it is forgotten behind that -/
def iZipV (K : PySem.W.Frag) (n : Nat) (k : Nat) : TI := fun st H R => ∃ i1 i2 TI TO z a b B, st[k]? = some (some (.ref z)) ∧ H = zipH B i1 i2 TI TO z a b ∧ ZF B n i1 i2 TI TO z a b ∧ R (ItD (Itz K a b)) B
theorem pi_zipV {k : Nat} {x : Str} {p tpos : Pos} {elts : List Expr} {kk : Nat} (hN : X.N[k]? = some x) (hv : Vis X.env.scope x) (hd : (x == ("__debug__" : Str)) = false := by decide) (hcd : (x == ("__classdict__" : Str)) = false := by decide) :
    PI X (.Tuple elts kk tpos) (.Name x p) (iZipV X.K X.s_0.heap.objs.size k) := by
  refine ⟨fun pins s st H R I h => ?_⟩
  obtain ⟨i1, i2, TI, TO, z, a, b, B, hs, rfl, Z, q⟩ := h
  refine thn ((pe_var (pos := p) (i := k) hN hv hd hcd).run pins s st _ (fun v H1 => v = .ref z ∧ H1 = zipH B i1 i2 TI TO z a b) I ⟨.ref z, hs, rfl, rfl⟩) fun u s1 hu => ?_
  obtain ⟨v, H1, I1, r1, ev, eH⟩ := hu
  subst ev eH
  cases r1
  have D := Z.ap
  have o5 : zipH B i1 i2 TI TO z a b z = some (.ext fun h => IsZip h z TI TO .none) := upd_same
  have hz : IsZip s1.heap z TI TO .none := (I1.hok z _ o5).1
  have J5 := ItX.inv_drop I1 o5
  have n5 : (upd (upd (upd (upd B i1 (.ext fun h => h.IsListIter i1 a 0)) i2 (.ext fun h => h.IsListIter i2 b 0)) TI (.ext fun h => IsPair h TI (.ref i1) (.ref i2))) TO (.ext fun h => ∃ x y, IsPair h TO x y)) z = none := by
    rw [upd_ne (Ne.symm D.TOz), upd_ne (Ne.symm D.TIz), upd_ne (Ne.symm D.i2z), upd_ne (Ne.symm D.i1z)]
    exact Z.n5.1
  have g5 := ItX.inv_fp I1 o5 Z.n5.2
  unfold zipH at J5 g5
  rw [ItX.dropH_upd n5] at J5 g5
  have hTO := (J5.hok TO _ upd_same).1
  have J4 := ItX.inv_drop J5 upd_same
  have n4 : (upd (upd (upd B i1 (.ext fun h => h.IsListIter i1 a 0)) i2 (.ext fun h => h.IsListIter i2 b 0)) TI (.ext fun h => IsPair h TI (.ref i1) (.ref i2))) TO = none := by
    rw [upd_ne (Ne.symm D.TITO), upd_ne D.TOi2, upd_ne D.TOi1]
    exact Z.n4.1
  have g4 := ItX.inv_fp J5 upd_same Z.n4.2
  rw [ItX.dropH_upd n4] at J4 g4
  have hTI : IsPair s1.heap TI (.ref i1) (.ref i2) := (J4.hok TI _ upd_same).1
  have J3 := ItX.inv_drop J4 upd_same
  have n3 : (upd (upd B i1 (.ext fun h => h.IsListIter i1 a 0)) i2 (.ext fun h => h.IsListIter i2 b 0)) TI = none := by
    rw [upd_ne D.TIi2, upd_ne D.TIi1]
    exact Z.n3.1
  have g3 := ItX.inv_fp J4 upd_same Z.n3.2
  rw [ItX.dropH_upd n3] at J3 g3
  have h2 : s1.heap.IsListIter i2 b 0 := (J3.hok i2 _ upd_same).1
  have J2 := ItX.inv_drop J3 upd_same
  have n2 : (upd B i1 (.ext fun h => h.IsListIter i1 a 0)) i2 = none := by
    rw [upd_ne (Ne.symm D.i12)]
    exact Z.n2.1
  have g2 := ItX.inv_fp J3 upd_same Z.n2.2
  rw [ItX.dropH_upd n2] at J2 g2
  have h1 : s1.heap.IsListIter i1 a 0 := (J2.hok i1 _ upd_same).1
  have J1 := ItX.inv_drop J2 upd_same
  have g1 := ItX.inv_fp J2 upd_same Z.n1.2
  rw [ItX.dropH_upd Z.n1.1] at J1 g1
  refine wpAny_pyIter_zip hz ?_
  refine ⟨z, [z, TI, TO, i1, i2], _, _, B, rfl, J1, turn_D tupJ_zip (turn_zip D), ⟨hz, hTI, hTO, h1, h2⟩, fun c hc => ?_, q⟩
  have e' : c = z ∨ c = TI ∨ c = TO ∨ c = i1 ∨ c = i2 := by simpa using hc
  rcases e' with e | e | e | e | e
  · rw [e]; exact ⟨Z.n5.1, g5.2⟩
  · rw [e]; exact ⟨Z.n3.1, g3.2⟩
  · rw [e]; exact ⟨Z.n4.1, g4.2⟩
  · rw [e]; exact ⟨Z.n1.1, g1.2⟩
  · rw [e]; exact ⟨Z.n2.1, g2.2⟩
theorem pe_zipV {e e2 : Expr} {ta : TA} {p pos : Pos} (hg : Gl X "zip") (hm : X.mg "zip" = none) (ha : PA X [e, e2] ta) (he : starEach [e, e2] X.env = (false, eval e X.env) :: starEach [e2] X.env := by rfl) (hpl : (backTo pos (starEach [e2] X.env)).any (·.1) = false := by rfl) :
    PE X (.Call (.Name "zip" p) [e, e2] [] pos) (tCB (rZipV X.K X.s_0.heap.objs.size) ta) := pe_callTy call_zipV hg hm PyProof.Rows.boot_zip ha (by decide) (by decide) he hpl
end
end TP
/-! part Q2 -/
set_option maxHeartbeats 1000000
namespace TP
open PySem PySem.Spec PyProof.Rows L2
set_option hygiene false in
local macro_rules | `(tactic| walk_at "ne") => `(tactic| first | assumption | exact Ne.symm (by assumption) | exact ne_of_none (H := H) (by assumption) (by assumption) | exact (ne_of_none (H := H) (by assumption) (by assumption)).symm | exact ne_of_none (H := A) (by assumption) (by assumption) | exact (ne_of_none (H := A) (by assumption) (by assumption)).symm)
local macro_rules | `(tactic| walk_at "get") => `(tactic| first | assumption | exact upd_same | (refine upd_at ?_ ?_; (focus walk_at "ne"); (walk_at "get")))
local macro_rules | `(tactic| walk_at "nn") => `(tactic| first | assumption | (refine none_upd ?_ ?_; (focus walk_at "ne"); (walk_at "nn")))
local macro_rules | `(tactic| walk_at "same") => `(tactic| first | exact Same.refl _ | assumption | (refine Same.both ?_; walk_at "same") | (refine TP.Same.new ?_ ?_; (focus walk_at "same"); (walk_at "nn")) | (refine Same.put ?_ ?_; (focus walk_at "same"); (walk_at "get")))
local macro_rules | `(tactic| walk_at "noown") => `(tactic| first | exact NoOwn.none (by assumption) | (refine NoOwn.upd ?_ True.intro; walk_at "noown"))
local macro_rules | `(tactic| walk_at "wl") => `(tactic| first | assumption | (refine Wl.put ?_ ?_ True.intro; (focus walk_at "wl"); (walk_at "noown")))
local macro_rules | `(tactic| walk_at "sq") => `(tactic| first | assumption | exact SqL.of (by walk_at "get"))
set_option hygiene false in
local macro_rules | `(tactic| walk_at "f1") => `(tactic| obtain ⟨_, hp⟩ := upd_none hp)
set_option hygiene false in
local macro_rules | `(tactic| walk_at "f2") => `(tactic| (obtain ⟨_, hp⟩ := upd_none hp; obtain ⟨_, hp⟩ := upd_none hp))
set_option hygiene false in
local macro_rules | `(tactic| walk_at "f3") => `(tactic| (obtain ⟨_, hp⟩ := upd_none hp; obtain ⟨_, hp⟩ := upd_none hp; obtain ⟨_, hp⟩ := upd_none hp))
set_option hygiene false in
local macro_rules | `(tactic| walk_at "f4") => `(tactic| (obtain ⟨_, hp⟩ := upd_none hp; obtain ⟨_, hp⟩ := upd_none hp; obtain ⟨_, hp⟩ := upd_none hp; obtain ⟨_, hp⟩ := upd_none hp))
set_option hygiene false in
local macro_rules | `(tactic| walk_at "fa") => `(tactic| first
  | ((with_reducible refine' z_own_prime T ?hv ?hh ?_); (case hv => exact rfl); (case hh => walk_at "get"))
  | ((with_reducible refine' z_own_turns T ?hv ?hh ?_); (case hv => exact rfl); (case hh => walk_at "get"))
  | ((with_reducible refine' z_own_size T ?hv ?hh ?_); (case hv => exact rfl); (case hh => walk_at "get"))
  | ((with_reducible refine' z_own_powers T ?hv ?hh ?_); (case hv => exact rfl); (case hh => walk_at "get"))
  | ((with_reducible refine' z_own_logs T ?hv ?hh ?_); (case hv => exact rfl); (case hh => walk_at "get"))
  | ((with_reducible refine' z_own_field T ?hv ?hh ?_); (case hv => exact rfl); (case hh => walk_at "get"))
  | ((with_reducible refine' z_own_points T ?hv ?hh ?_); (case hv => exact rfl); (case hh => walk_at "get"))
  | ((with_reducible refine' z_own_many T ?hv ?hh ?_); (case hv => exact rfl); (case hh => walk_at "get")))
local macro_rules | `(tactic| walk_at "z") => `(tactic| first
  | with_reducible refine z_seq ?_
  | with_reducible refine z_asg ?_
  | with_reducible refine z_name ?_
  | ((with_reducible refine' z_var ?hv ?_); (case hv => exact rfl))
  | with_reducible refine z_c ?_
  | with_reducible refine z_op ?_
  | with_reducible refine r_I0 ?_
  | ((with_reducible refine r_I ?hc ?_); (case hc => walk_at "ar"))
  | ((with_reducible refine' r_app ?ha ?hz ?_); (case ha => walk_at "get"); (case hz => walk_at "sz"))
  | ((with_reducible refine' z_tyl ?ha ?_); (case ha => walk_at "get"))
  | with_reducible refine z_cons ?_
  | ((with_reducible refine' r_len ?ha ?_); (case ha => walk_at "sq"))
  | with_reducible refine z_nil ?_
  | walk_at "fa"
  | walk_at "fd"
  | with_reducible refine z_test ?_
  | with_reducible refine z_bl ?_
  | with_reducible refine z_tB ?_
  | with_reducible refine r_eq ?_
  | with_reducible refine r_ne ?_
  | with_reducible refine z_ifS ?_
  | with_reducible refine z_ret ?_
  | with_reducible refine z_drop ?_
  | with_reducible refine z_cb ?_
  | with_reducible refine z_call ?_
  | with_reducible refine z_bm ?_
  | with_reducible refine z_bm0 ?_
  | with_reducible refine z_lst ?_
  | with_reducible refine z_tup ?_
  | with_reducible refine z_un ?_
  | with_reducible refine r_U ?_
  | with_reducible refine z_par ?_
  | with_reducible refine z_par3 ?_
  | with_reducible refine z_two ?_
  | with_reducible refine z_three ?_
  | with_reducible refine z_sub ?_
  | with_reducible refine z_for ?_
  | with_reducible refine z_lc ?_
  | with_reducible refine z_ifE ?_
  | with_reducible refine z_and ?_
  | with_reducible refine z_or ?_
  | with_reducible refine z_not ?_
  | with_reducible refine z_yes ?_
  | with_reducible refine z_andV ?_
  | with_reducible refine z_orV ?_
  | with_reducible refine z_notV ?_
  | with_reducible refine z_sl ?_
  | with_reducible refine z_noP ?_
  | with_reducible refine z_part ?_
  | with_reducible refine z_int ?_
  | with_reducible refine z_revL ?_
  | with_reducible refine z_next ?_
  | with_reducible refine z_sf ?_
  | with_reducible refine z_f ?_
  | with_reducible refine z_tf ?_
  | with_reducible refine z_disp ?_
  | with_reducible refine z_pc ?_
  | with_reducible refine z_pn ?_
  | with_reducible refine z_i1 ?_
  | with_reducible refine i_rng3 ?_
  | with_reducible refine z_chain ?_
  | with_reducible refine z_nT ?_
  | with_reducible refine z_nF ?_
  | with_reducible refine z_sfld ?_
  | with_reducible refine i_rng1 ?_
  | with_reducible refine i_rng2 ?_
  | with_reducible refine i_list ?_
  | with_reducible refine i_zip ?_
  | with_reducible refine i_enum ?_
  | with_reducible refine z_tt ?_
  | with_reducible refine z_ff ?_)
local macro_rules | `(tactic| walk_at "zz") => `(tactic| repeat walk_at "z")
set_option hygiene false in
local macro_rules | `(tactic| walk_at "len") => `(tactic| first | (obtain ⟨rfl, _⟩ := h; rfl) | (obtain ⟨_, rfl, _⟩ := h; rfl) | (obtain ⟨_, _, rfl, _⟩ := h; rfl) | (obtain ⟨_, _, _, rfl, _⟩ := h; rfl) | (obtain ⟨_, _, _, _, rfl, _⟩ := h; rfl) | (obtain ⟨_, _, _, _, _, rfl, _⟩ := h; rfl) | (obtain ⟨_, _, _, _, _, _, rfl, _⟩ := h; rfl) | (obtain ⟨_, _, _, _, _, _, _, rfl, _⟩ := h; rfl) | (obtain ⟨_, _, _, _, _, _, _, _, rfl, _⟩ := h; rfl) | (obtain ⟨_, _, _, _, _, _, _, _, _, rfl, _⟩ := h; rfl) | (obtain ⟨_, _, _, _, _, _, _, _, _, _, rfl, _⟩ := h; rfl) | (obtain ⟨_, _, _, _, _, _, _, _, _, _, _, rfl, _⟩ := h; rfl) | (obtain ⟨_, _, _, _, _, _, _, _, _, _, _, _, rfl, _⟩ := h; rfl) | (obtain ⟨_, _, _, _, _, _, _, _, _, _, _, _, _, rfl, _⟩ := h; rfl) | (obtain ⟨_, _, _, _, _, _, _, _, _, _, _, _, _, _, rfl, _⟩ := h; rfl) | (obtain ⟨_, _, _, _, _, _, _, _, _, _, _, _, _, _, _, rfl, _⟩ := h; rfl) | (obtain ⟨_, _, _, _, _, _, _, _, _, _, _, _, _, _, _, _, rfl, _⟩ := h; rfl))
local macro_rules | `(tactic| walk_at "small") => `(tactic| first | exact Nat.zero_le _ | exact (by decide : 1 ≤ sizeLine) | exact (by decide : 2 ≤ sizeLine) | exact (by decide : 3 ≤ sizeLine) | exact (by decide : 4 ≤ sizeLine) | exact (by decide : 5 ≤ sizeLine) | exact (by decide : 6 ≤ sizeLine))
local macro_rules | `(tactic| walk_at "dn") => `(tactic| dsimp only [cxOf, L2.start, List.map, List.length, List.replicate, List.cons_append, List.nil_append, Nat.reduceAdd, Nat.reduceSub, Nat.zero_add])
local macro_rules | `(tactic| walk_at "ar") => `(tactic| first | assumption | (show _ < _; omega) | (show _ < _ ∧ _ < _; omega) | (left; show _ < _ ∧ _ < _; constructor <;> omega) | (right; show _ < _ ∧ _ < _; constructor <;> omega))
local macro_rules | `(tactic| walk_at "sz") => `(tactic| first | omega | (simp only [vN_len, List.length_append, List.length_cons, List.length_nil, List.length_map, List.length_range, List.length_replicate, List.length_set, List.length_take, List.length_drop, List.length_reverse]; omega))
local macro_rules | `(tactic| walk_at "ds") => `(tactic| try dsimp only [List.set])
set_option hygiene false in
local macro_rules | `(tactic| walk_at "endL") => `(tactic| (refine' ⟨_, ?e1, ?e2, ?e3, k p hp⟩; (case e1 => walk_at "same"); (case e2 => walk_at "wl"); (case e3 => exact Prs.same (by walk_at "same"))))
set_option hygiene false in
local macro_rules | `(tactic| walk_at "endS") => `(tactic| exact ⟨H, by walk_at "same", wl, Prs.refl _, k⟩)
set_option hygiene false in
local macro_rules | `(tactic| walk_at "endQ") => `(tactic| (refine' ⟨_, ?e1, ?e2, ?e3, k q hp⟩; (case e1 => walk_at "same"); (case e2 => walk_at "wl"); (case e3 => exact Prs.same (by walk_at "same"))))
local macro_rules | `(tactic| walk_at "f5") => `(tactic| (walk_at "f1"; walk_at "f4"))
local macro_rules | `(tactic| walk_at "f6") => `(tactic| (walk_at "f2"; walk_at "f4"))
local macro_rules | `(tactic| walk_at "f7") => `(tactic| (walk_at "f3"; walk_at "f4"))
set_option hygiene false in
local macro_rules | `(tactic| walk_at "fd") => `(tactic| first
  | ((with_reducible refine' z_w_prime ?hv ?hh ?_); (case hv => exact rfl); (case hh => assumption))
  | ((with_reducible refine' z_w_turns ?hv ?hh ?_); (case hv => exact rfl); (case hh => assumption))
  | ((with_reducible refine' z_w_size ?hv ?hh ?_); (case hv => exact rfl); (case hh => assumption))
  | ((with_reducible refine' z_w_powers ?hv ?hh ?_); (case hv => exact rfl); (case hh => assumption))
  | ((with_reducible refine' z_w_places ?hv ?hh ?_); (case hv => exact rfl); (case hh => assumption))
  | ((with_reducible refine' z_t_prime ?hv ?hh ?_); (case hv => exact rfl); (case hh => assumption))
  | ((with_reducible refine' z_t_modulus ?hv ?hh ?_); (case hv => exact rfl); (case hh => assumption))
  | ((with_reducible refine' z_t_world ?hv ?hh ?_); (case hv => exact rfl); (case hh => assumption))
  | ((with_reducible refine' z_t_points ?hv ?hh ?_); (case hv => exact rfl); (case hh => assumption))
  | ((with_reducible refine' z_t_many ?hv ?hh ?_); (case hv => exact rfl); (case hh => assumption))
  | ((with_reducible refine' z_t_reach ?hv ?hh ?_); (case hv => exact rfl); (case hh => assumption)))
section
variable {P : Program} {w : World} {K : PySem.W.Frag} {mg : Str → Option Value} {base : Heap}
theorem r_isiI {i : Int} {T : String} {b : Bool} {H : Hp} {Q : VK} (h : kitB "int" T = some b) (q : Q (.bl b) H) : rIsi K [.int i, .ty T] H Q := ⟨.int i, .ty T, _, _, b, rfl, .ty T, .base (.int i), kit_ty h, q⟩
theorem r_isiF (T : Txt K mg) {a dx : Addr} {fs : List (Str × V)} {H : Hp} {Q : VK} (h : H a = some (.ins (He.ga K "Field") dx fs)) (q : Q (.bl true) H) : rIsi K [.ref a, .ref (He.ga K "Field")] H Q := ⟨.ref a, .ref (He.ga K "Field"), _, _, true, rfl, .own _, T.t_Field h, kit_self _, q⟩
theorem r_isiB (T : Txt K mg) {a dx : Addr} {fs : List (Str × V)} {H : Hp} {Q : VK} (h : H a = some (.ins (He.ga K "Book") dx fs)) (q : Q (.bl true) H) : rIsi K [.ref a, .ref (He.ga K "Book")] H Q := ⟨.ref a, .ref (He.ga K "Book"), _, _, true, rfl, .own _, T.t_Book h, kit_self _, q⟩
theorem r_isiL {a tp : Addr} {xs : List V} {H : Hp} {Q : VK} (h : H a = some (.lst xs)) (k : H tp = some (.tup [.ty "list", .ty "tuple"])) (q : Q (.bl true) H) : rIsiT K [.ref a, .ref tp] H Q :=
  ⟨.ref a, tp, [.ty "list", .ty "tuple"], _, [.type "list", .type "tuple"], true, rfl, k, .cons (.ty _) (.cons (.ty _) .nil), .base (.lst h), kitAny_cons (b := true) (kit_ty (by decide +kernel)) (fun z => by cases z) (fun _ => rfl), q⟩
theorem sc_is_integer : FnScope ["value"] ["value"] (defScope s_is_integer) := ⟨rfl, rfl, rfl, by decide +kernel, rfl, by decide +kernel, by decide +kernel⟩
def sp_is_integer (K : PySem.W.Frag) : Sp := fun vs H Q _ => ∃ (i : Int), vs = [.int i] ∧ Wl H ∧ Q (.bl true) H
theorem ok_is_integer (T : Txt K mg) : FnAt P w K mg base 1 "is_integer" ["value"] (sp_is_integer K) := by
  refine FnAt.of T 0 0 (d := d_is_integer) (k := 0) rfl rfl rfl rfl rfl sc_is_integer (fun _ _ _ _ _ _ us hl => match us, hl with | [_], _ => rfl) (fun vs H Q E h => by walk_at "len") (fun f_ cdv A outer s H vs Q E hr h => ?_)
  obtain ⟨i, rfl, wl, k⟩ := h
  refine ⟨_, (pss_one (ps_ret (pe_and (pe_callB call_isi (by rfl) T.n_isinstance (by decide +kernel) (pa_cons (pv 0) (pa_cons (pe_bltn (v := .ty "int") (by rfl) T.n_int (by decide +kernel) rfl) pa_nil))) (pe_one (pe_not (pe_callB call_isi (by rfl) T.n_isinstance (by decide +kernel) (pa_cons (pv 0) (pa_cons (pe_bltn (v := .ty "bool") (by rfl) T.n_bool (by decide +kernel) rfl) pa_nil)))))))), ?_⟩
  walk_at "dn"
  walk_at "zz"
  refine r_isiI (b := true) (by decide +kernel) ?_
  walk_at "zz"
  refine r_isiI (b := false) (by decide +kernel) ?_
  walk_at "zz"
  exact ⟨H, Same.refl _, wl, Prs.refl _, k⟩
theorem sc_is_count : FnScope ["value"] ["value"] (defScope s_is_count) := ⟨rfl, rfl, rfl, by decide +kernel, rfl, by decide +kernel, by decide +kernel⟩
def sp_is_count (K : PySem.W.Frag) : Sp := fun vs H Q _ => ∃ (i : Int), vs = [.int i] ∧ Wl H ∧ Q (.bl (decide (0 ≤ i))) H
theorem ok_is_count (T : Txt K mg) : FnAt P w K mg base 2 "is_count" ["value"] (sp_is_count K) := by
  refine FnAt.of T 1 1 (d := d_is_count) (k := 1) rfl rfl rfl rfl rfl sc_is_count (fun _ _ _ _ _ _ us hl => match us, hl with | [_], _ => rfl) (fun vs H Q E h => by walk_at "len") (fun f_ cdv A outer s H vs Q E hr h => ?_)
  obtain ⟨i, rfl, wl, k⟩ := h
  refine ⟨_, (pss_one (ps_ret (pe_and (pe_callF (ok_is_integer T) (by decide) hr (by rfl) (pa_cons (pv 0) pa_nil)) (pe_one (pe_cmpR op_ge (pv 0) pe_int (nomark _)))))), ?_⟩
  walk_at "dn"
  walk_at "zz"
  refine ⟨i, rfl, wl, ?_⟩
  walk_at "zz"
  exact ⟨H, Same.refl _, wl, Prs.refl _, k⟩
theorem sc_is_list : FnScope ["value"] ["value"] (defScope s_is_list) := ⟨rfl, rfl, rfl, by decide +kernel, rfl, by decide +kernel, by decide +kernel⟩
def sp_is_list (K : PySem.W.Frag) : Sp := fun vs H Q _ => ∃ (a : Addr) (xs : List V), vs = [.ref a] ∧ Wl H ∧ H a = some (.lst xs) ∧ Q (.bl true) H
theorem ok_is_list (T : Txt K mg) : FnAt P w K mg base 1 "is_list" ["value"] (sp_is_list K) := by
  refine FnAt.of T 2 2 (d := d_is_list) (k := 0) rfl rfl rfl rfl rfl sc_is_list (fun _ _ _ _ _ _ us hl => match us, hl with | [_], _ => rfl) (fun vs H Q E h => by walk_at "len") (fun f_ cdv A outer s H vs Q E hr h => ?_)
  obtain ⟨a, xs, rfl, wl, ha, k⟩ := h
  refine ⟨_, (pss_one (ps_ret (pe_callB call_isiT (by rfl) T.n_isinstance (by decide +kernel) (pa_cons (pv 0) (pa_cons (pe_tup (pa_cons (pe_bltn (v := .ty "list") (by rfl) T.n_list (by decide +kernel) rfl) (pa_cons (pe_bltn (v := .ty "tuple") (by rfl) T.n_tuple (by decide +kernel) rfl) pa_nil))) pa_nil))))), ?_⟩
  walk_at "dn"
  walk_at "zz"
  refine ⟨by walk_at "small", fun p hp => ?_⟩
  walk_at "zz"
  refine r_isiL (by walk_at "get") (by walk_at "get") ?_
  exact ⟨H, by walk_at "same", wl, Prs.refl _, k⟩
theorem sc_want_at_most : FnScope ["what", "limit", "number"] ["what", "limit", "number"] (defScope s_want_at_most) := ⟨rfl, rfl, rfl, by decide +kernel, rfl, by decide +kernel, by decide +kernel⟩
def sp_want_at_most (K : PySem.W.Frag) : Sp := fun vs H Q _ => ∃ (x : V) (l n : Int), vs = [x, .int l, .int n] ∧ Wl H ∧ n ≤ l ∧ Q .non H
theorem ok_want_at_most (T : Txt K mg) : FnAt P w K mg base 1 "want_at_most" ["what", "limit", "number"] (sp_want_at_most K) := by
  refine FnAt.of T 4 4 (d := d_want_at_most) (k := 0) rfl rfl rfl rfl rfl sc_want_at_most (fun _ _ _ _ _ _ us hl => match us, hl with | [_, _, _], _ => rfl) (fun vs H Q E h => by walk_at "len") (fun f_ cdv A outer s H vs Q E hr h => ?_)
  obtain ⟨x, l, n, rfl, wl, hn, k⟩ := h
  refine ⟨_, (pss_one (ps_if (pt_cmpR op_gt (pv 2) (pv 1) (nomark _)) (pss_one ps_never) pss_nil)), ?_⟩
  walk_at "dn"
  walk_at "zz"
  refine z_dec (fun h => by omega) (fun _ => ?_)
  walk_at "zz"
  exact ⟨H, Same.refl _, wl, Prs.refl _, k⟩
theorem sc_want_many : FnScope ["value", "most", "least"] ["value", "most", "least"] (defScope s_want_many) := ⟨rfl, rfl, rfl, by decide +kernel, rfl, by decide +kernel, by decide +kernel⟩
def sp_want_many (K : PySem.W.Frag) : Sp := fun vs H Q _ => ∃ (v m l : Int), vs = [.int v, .int m, .int l] ∧ Wl H ∧ 0 ≤ v ∧ l ≤ v ∧ v ≤ m ∧ Q .non H
theorem ok_want_many (T : Txt K mg) : FnAt P w K mg base 3 "want_many" ["value", "most", "least"] (sp_want_many K) := by
  refine FnAt.ofD T 3 3 (d := d_want_many) (k := 2) (n := 3) (m := 2) rfl rfl rfl (by intro z; cases z) rfl rfl rfl sc_want_many (fun _ _ _ _ _ _ _ us its hl hm => match us, hl, its, hm with | [_, _, _], _, [_, _], _ => ⟨_, rfl, rfl⟩) (fun vs H Q E h => by walk_at "len") (fun f_ cdv A outer s H vs Q E hr h => ?_)
  obtain ⟨v, m, l, rfl, wl, h0, h1, h2, k⟩ := h
  refine ⟨_, (pss_one (ps_if (PW.pt (pw_or (pt_not (pt_val (pe_callF (ok_is_count T) (by decide) hr (by rfl) (pa_cons (pv 0) pa_nil)))) (pw_or (pt_cmpR op_lt (pv 0) (pv 2) (nomark _)) (pw_or1 (PW.pt (pw_and (pt_cmpR op_notN (pv 1) pe_non (nomark _)) (pw_and1 (pt_cmpR op_gt (pv 0) (pv 1) (nomark _))))))))) (pss_one ps_never) pss_nil)), ?_⟩
  walk_at "dn"
  walk_at "zz"
  refine ⟨v, rfl, wl, ?_⟩
  walk_at "zz"
  refine z_ndec (fun h => absurd h0 h) (fun _ => ?_)
  walk_at "zz"
  refine z_dec (fun h => by omega) (fun _ => ?_)
  walk_at "zz"
  refine ⟨rfl, ?_⟩
  walk_at "zz"
  refine z_ndec (fun _ => ?_) (fun h => by cases h)
  walk_at "zz"
  refine z_dec (fun h => by omega) (fun _ => ?_)
  walk_at "zz"
  exact ⟨H, Same.refl _, wl, Prs.refl _, k⟩
theorem sc_want_field : FnScope ["value"] ["value"] (defScope s_want_field) := ⟨rfl, rfl, rfl, by decide +kernel, rfl, by decide +kernel, by decide +kernel⟩
def sp_want_field (K : PySem.W.Frag) : Sp := fun vs H Q _ => ∃ (f : Addr) (F : Fd), vs = [.ref f] ∧ Wl H ∧ FieldAt K H f F ∧ Q (.ref f) H
theorem ok_want_field (T : Txt K mg) : FnAt P w K mg base 1 "want_field" ["value"] (sp_want_field K) := by
  refine FnAt.of T 24 23 (d := d_want_field) (k := 0) rfl rfl rfl rfl rfl sc_want_field (fun _ _ _ _ _ _ us hl => match us, hl with | [_], _ => rfl) (fun vs H Q E h => by walk_at "len") (fun f_ cdv A outer s H vs Q E hr h => ?_)
  obtain ⟨f, F, rfl, wl, hF, k⟩ := h
  obtain ⟨dx, m, a, b, h1, h2, h3, h4⟩ := hF.ex
  refine ⟨_, (pss_cons (ps_if (pt_not (pt_val (pe_callB call_isi (by rfl) T.n_isinstance (by decide +kernel) (pa_cons (pv 0) (pa_cons (pe_glob (v := .ref (He.ga K "Field")) (by rfl) T.g_Field rfl) pa_nil))))) (pss_one ps_never) pss_nil)
    (pss_one (ps_ret (pv 0)))), ?_⟩
  walk_at "dn"
  walk_at "zz"
  refine r_isiF T h1 ?_
  walk_at "zz"
  refine z_nbool (fun h => by cases h) (fun _ => ?_)
  walk_at "zz"
  exact ⟨H, Same.refl _, wl, Prs.refl _, k⟩
end
end TP
/-! part Q3 -/
set_option maxHeartbeats 1000000
namespace TP
open PySem PySem.Spec PyProof.Rows L2
set_option hygiene false in
local macro_rules | `(tactic| walk_at "ne") => `(tactic| first | assumption | exact Ne.symm (by assumption) | exact ne_of_none (H := H) (by assumption) (by assumption) | exact (ne_of_none (H := H) (by assumption) (by assumption)).symm | exact ne_of_none (H := A) (by assumption) (by assumption) | exact (ne_of_none (H := A) (by assumption) (by assumption)).symm)
local macro_rules | `(tactic| walk_at "get") => `(tactic| first | assumption | exact upd_same | (refine upd_at ?_ ?_; (focus walk_at "ne"); (walk_at "get")))
local macro_rules | `(tactic| walk_at "nn") => `(tactic| first | assumption | (refine none_upd ?_ ?_; (focus walk_at "ne"); (walk_at "nn")))
local macro_rules | `(tactic| walk_at "same") => `(tactic| first | exact Same.refl _ | assumption | (refine Same.both ?_; walk_at "same") | (refine TP.Same.new ?_ ?_; (focus walk_at "same"); (walk_at "nn")) | (refine Same.put ?_ ?_; (focus walk_at "same"); (walk_at "get")))
local macro_rules | `(tactic| walk_at "noown") => `(tactic| first | exact NoOwn.none (by assumption) | (refine NoOwn.upd ?_ True.intro; walk_at "noown"))
local macro_rules | `(tactic| walk_at "wl") => `(tactic| first | assumption | (refine Wl.put ?_ ?_ True.intro; (focus walk_at "wl"); (walk_at "noown")))
local macro_rules | `(tactic| walk_at "sq") => `(tactic| first | assumption | exact SqL.of (by walk_at "get"))
set_option hygiene false in
local macro_rules | `(tactic| walk_at "f1") => `(tactic| obtain ⟨_, hp⟩ := upd_none hp)
set_option hygiene false in
local macro_rules | `(tactic| walk_at "f2") => `(tactic| (obtain ⟨_, hp⟩ := upd_none hp; obtain ⟨_, hp⟩ := upd_none hp))
set_option hygiene false in
local macro_rules | `(tactic| walk_at "f3") => `(tactic| (obtain ⟨_, hp⟩ := upd_none hp; obtain ⟨_, hp⟩ := upd_none hp; obtain ⟨_, hp⟩ := upd_none hp))
set_option hygiene false in
local macro_rules | `(tactic| walk_at "f4") => `(tactic| (obtain ⟨_, hp⟩ := upd_none hp; obtain ⟨_, hp⟩ := upd_none hp; obtain ⟨_, hp⟩ := upd_none hp; obtain ⟨_, hp⟩ := upd_none hp))
set_option hygiene false in
local macro_rules | `(tactic| walk_at "fa") => `(tactic| first
  | ((with_reducible refine' z_own_prime T ?hv ?hh ?_); (case hv => exact rfl); (case hh => walk_at "get"))
  | ((with_reducible refine' z_own_turns T ?hv ?hh ?_); (case hv => exact rfl); (case hh => walk_at "get"))
  | ((with_reducible refine' z_own_size T ?hv ?hh ?_); (case hv => exact rfl); (case hh => walk_at "get"))
  | ((with_reducible refine' z_own_powers T ?hv ?hh ?_); (case hv => exact rfl); (case hh => walk_at "get"))
  | ((with_reducible refine' z_own_logs T ?hv ?hh ?_); (case hv => exact rfl); (case hh => walk_at "get"))
  | ((with_reducible refine' z_own_field T ?hv ?hh ?_); (case hv => exact rfl); (case hh => walk_at "get"))
  | ((with_reducible refine' z_own_points T ?hv ?hh ?_); (case hv => exact rfl); (case hh => walk_at "get"))
  | ((with_reducible refine' z_own_many T ?hv ?hh ?_); (case hv => exact rfl); (case hh => walk_at "get")))
local macro_rules | `(tactic| walk_at "z") => `(tactic| first
  | with_reducible refine z_seq ?_
  | with_reducible refine z_asg ?_
  | with_reducible refine z_name ?_
  | ((with_reducible refine' z_var ?hv ?_); (case hv => exact rfl))
  | with_reducible refine z_c ?_
  | with_reducible refine z_op ?_
  | with_reducible refine r_I0 ?_
  | ((with_reducible refine r_I ?hc ?_); (case hc => walk_at "ar"))
  | ((with_reducible refine' r_app ?ha ?hz ?_); (case ha => walk_at "get"); (case hz => walk_at "sz"))
  | ((with_reducible refine' z_tyl ?ha ?_); (case ha => walk_at "get"))
  | with_reducible refine z_cons ?_
  | ((with_reducible refine' r_len ?ha ?_); (case ha => walk_at "sq"))
  | with_reducible refine z_nil ?_
  | walk_at "fa"
  | walk_at "fd"
  | with_reducible refine z_test ?_
  | with_reducible refine z_bl ?_
  | with_reducible refine z_tB ?_
  | with_reducible refine r_eq ?_
  | with_reducible refine r_ne ?_
  | with_reducible refine z_ifS ?_
  | with_reducible refine z_ret ?_
  | with_reducible refine z_drop ?_
  | with_reducible refine z_cb ?_
  | with_reducible refine z_call ?_
  | with_reducible refine z_bm ?_
  | with_reducible refine z_bm0 ?_
  | with_reducible refine z_lst ?_
  | with_reducible refine z_tup ?_
  | with_reducible refine z_un ?_
  | with_reducible refine r_U ?_
  | with_reducible refine z_par ?_
  | with_reducible refine z_par3 ?_
  | with_reducible refine z_two ?_
  | with_reducible refine z_three ?_
  | with_reducible refine z_sub ?_
  | with_reducible refine z_for ?_
  | with_reducible refine z_lc ?_
  | with_reducible refine z_ifE ?_
  | with_reducible refine z_and ?_
  | with_reducible refine z_or ?_
  | with_reducible refine z_not ?_
  | with_reducible refine z_yes ?_
  | with_reducible refine z_andV ?_
  | with_reducible refine z_orV ?_
  | with_reducible refine z_notV ?_
  | with_reducible refine z_sl ?_
  | with_reducible refine z_noP ?_
  | with_reducible refine z_part ?_
  | with_reducible refine z_int ?_
  | with_reducible refine z_revL ?_
  | with_reducible refine z_next ?_
  | with_reducible refine z_sf ?_
  | with_reducible refine z_f ?_
  | with_reducible refine z_tf ?_
  | with_reducible refine z_disp ?_
  | with_reducible refine z_pc ?_
  | with_reducible refine z_pn ?_
  | with_reducible refine z_i1 ?_
  | with_reducible refine i_rng3 ?_
  | with_reducible refine z_chain ?_
  | with_reducible refine z_nT ?_
  | with_reducible refine z_nF ?_
  | with_reducible refine z_sfld ?_
  | with_reducible refine i_rng1 ?_
  | with_reducible refine i_rng2 ?_
  | with_reducible refine i_list ?_
  | with_reducible refine i_zip ?_
  | with_reducible refine i_enum ?_
  | with_reducible refine z_tt ?_
  | with_reducible refine z_ff ?_)
local macro_rules | `(tactic| walk_at "zz") => `(tactic| repeat walk_at "z")
set_option hygiene false in
local macro_rules | `(tactic| walk_at "len") => `(tactic| first | (obtain ⟨rfl, _⟩ := h; rfl) | (obtain ⟨_, rfl, _⟩ := h; rfl) | (obtain ⟨_, _, rfl, _⟩ := h; rfl) | (obtain ⟨_, _, _, rfl, _⟩ := h; rfl) | (obtain ⟨_, _, _, _, rfl, _⟩ := h; rfl) | (obtain ⟨_, _, _, _, _, rfl, _⟩ := h; rfl) | (obtain ⟨_, _, _, _, _, _, rfl, _⟩ := h; rfl) | (obtain ⟨_, _, _, _, _, _, _, rfl, _⟩ := h; rfl) | (obtain ⟨_, _, _, _, _, _, _, _, rfl, _⟩ := h; rfl) | (obtain ⟨_, _, _, _, _, _, _, _, _, rfl, _⟩ := h; rfl) | (obtain ⟨_, _, _, _, _, _, _, _, _, _, rfl, _⟩ := h; rfl) | (obtain ⟨_, _, _, _, _, _, _, _, _, _, _, rfl, _⟩ := h; rfl) | (obtain ⟨_, _, _, _, _, _, _, _, _, _, _, _, rfl, _⟩ := h; rfl) | (obtain ⟨_, _, _, _, _, _, _, _, _, _, _, _, _, rfl, _⟩ := h; rfl) | (obtain ⟨_, _, _, _, _, _, _, _, _, _, _, _, _, _, rfl, _⟩ := h; rfl) | (obtain ⟨_, _, _, _, _, _, _, _, _, _, _, _, _, _, _, rfl, _⟩ := h; rfl) | (obtain ⟨_, _, _, _, _, _, _, _, _, _, _, _, _, _, _, _, rfl, _⟩ := h; rfl))
local macro_rules | `(tactic| walk_at "small") => `(tactic| first | exact Nat.zero_le _ | exact (by decide : 1 ≤ sizeLine) | exact (by decide : 2 ≤ sizeLine) | exact (by decide : 3 ≤ sizeLine) | exact (by decide : 4 ≤ sizeLine) | exact (by decide : 5 ≤ sizeLine) | exact (by decide : 6 ≤ sizeLine))
local macro_rules | `(tactic| walk_at "dn") => `(tactic| dsimp only [cxOf, L2.start, List.map, List.length, List.replicate, List.cons_append, List.nil_append, Nat.reduceAdd, Nat.reduceSub, Nat.zero_add])
local macro_rules | `(tactic| walk_at "ar") => `(tactic| first | assumption | (show _ < _; omega) | (show _ < _ ∧ _ < _; omega) | (left; show _ < _ ∧ _ < _; constructor <;> omega) | (right; show _ < _ ∧ _ < _; constructor <;> omega))
local macro_rules | `(tactic| walk_at "sz") => `(tactic| first | omega | (simp only [vN_len, List.length_append, List.length_cons, List.length_nil, List.length_map, List.length_range, List.length_replicate, List.length_set, List.length_take, List.length_drop, List.length_reverse]; omega))
local macro_rules | `(tactic| walk_at "ds") => `(tactic| try dsimp only [List.set])
set_option hygiene false in
local macro_rules | `(tactic| walk_at "endL") => `(tactic| (refine' ⟨_, ?e1, ?e2, ?e3, k p hp⟩; (case e1 => walk_at "same"); (case e2 => walk_at "wl"); (case e3 => exact Prs.same (by walk_at "same"))))
set_option hygiene false in
local macro_rules | `(tactic| walk_at "endS") => `(tactic| exact ⟨H, by walk_at "same", wl, Prs.refl _, k⟩)
set_option hygiene false in
local macro_rules | `(tactic| walk_at "endQ") => `(tactic| (refine' ⟨_, ?e1, ?e2, ?e3, k q hp⟩; (case e1 => walk_at "same"); (case e2 => walk_at "wl"); (case e3 => exact Prs.same (by walk_at "same"))))
local macro_rules | `(tactic| walk_at "f5") => `(tactic| (walk_at "f1"; walk_at "f4"))
local macro_rules | `(tactic| walk_at "f6") => `(tactic| (walk_at "f2"; walk_at "f4"))
local macro_rules | `(tactic| walk_at "f7") => `(tactic| (walk_at "f3"; walk_at "f4"))
set_option hygiene false in
local macro_rules | `(tactic| walk_at "fd") => `(tactic| first
  | ((with_reducible refine' z_w_prime ?hv ?hh ?_); (case hv => exact rfl); (case hh => assumption))
  | ((with_reducible refine' z_w_turns ?hv ?hh ?_); (case hv => exact rfl); (case hh => assumption))
  | ((with_reducible refine' z_w_size ?hv ?hh ?_); (case hv => exact rfl); (case hh => assumption))
  | ((with_reducible refine' z_w_powers ?hv ?hh ?_); (case hv => exact rfl); (case hh => assumption))
  | ((with_reducible refine' z_w_places ?hv ?hh ?_); (case hv => exact rfl); (case hh => assumption))
  | ((with_reducible refine' z_t_prime ?hv ?hh ?_); (case hv => exact rfl); (case hh => assumption))
  | ((with_reducible refine' z_t_modulus ?hv ?hh ?_); (case hv => exact rfl); (case hh => assumption))
  | ((with_reducible refine' z_t_world ?hv ?hh ?_); (case hv => exact rfl); (case hh => assumption))
  | ((with_reducible refine' z_t_points ?hv ?hh ?_); (case hv => exact rfl); (case hh => assumption))
  | ((with_reducible refine' z_t_many ?hv ?hh ?_); (case hv => exact rfl); (case hh => assumption))
  | ((with_reducible refine' z_t_reach ?hv ?hh ?_); (case hv => exact rfl); (case hh => assumption)))
local macro_rules | `(tactic| walk_at "sz") => `(tactic| (simp only [vN_len, digs_len, List.length_reverse]; omega))
section
variable {P : Program} {w : World} {K : PySem.W.Frag} {mg : Str → Option Value} {base : Heap}
theorem sc_figures_of : FnScope ["field", "one", "found", "left", "place"] ["field", "one"] (defScope s_figures_of) := ⟨rfl, rfl, rfl, by decide +kernel, rfl, by decide +kernel, by decide +kernel⟩
def sp_figures_of (K : PySem.W.Frag) : Sp := fun vs H Q _ => ∃ (f : Addr) (F : Fd) (x : Nat), vs = [.ref f, .int x] ∧ Wl H ∧ FieldAt K H f F ∧ FOK F ∧ ∀ p, H p = none → Q (.ref p) (upd H p (.lst (vN (digs F.p F.n x))))
theorem ok_figures_of (T : Txt K mg) : FnAt P w K mg base 1 "figures_of" ["field", "one"] (sp_figures_of K) := by
  refine FnAt.of T 25 24 (d := d_figures_of) (k := 0) rfl rfl rfl rfl rfl sc_figures_of (fun _ _ _ _ _ _ us hl => match us, hl with | [_, _], _ => rfl) (fun vs H Q E h => by walk_at "len") (fun f_ cdv A outer s H vs Q E hr h => ?_)
  obtain ⟨fa, F, x, rfl, wl, hF, ok, k⟩ := h
  have hp0 := ok.p
  have hn0 := ok.n
  refine ⟨_, (pss_cons (ps_par (i := 2) (j := 3) rfl sc_figures_of.nd rfl rfl (by decide) rfl rfl (pa_cons (pe_lst pa_nil) (pa_cons (pv 1) pa_nil)) (by rfl))
    (pss_cons (ps_for PassesOwn.never rfl (pi_range1 (by rfl) T.n_range (pa_cons (pe_fldK (K := K) rfl (pv 0) rfl) pa_nil)) (pg_name (i := 4) sc_figures_of.nd rfl (Or.inl rfl))
      (pss_cons (ps_expr (pe_bm PySem.F.plainAttrs_list PySem.F.slot_list_append PySem.F.type_list_append mt_append (pv 2) (pa_cons (pe_op op_mod (pv 3) (pe_fldK (K := K) rfl (pv 0) rfl)) pa_nil)))
    (pss_one (ps_set (i := 3) sc_figures_of.nd rfl (Or.inl rfl) (pe_op op_fdiv (pv 3) (pe_fldK (K := K) rfl (pv 0) rfl))))))
    (pss_one (ps_ret (pv 2))))), ?_⟩
  obtain ⟨dx, m, a, b, h1, h2, h3, h4⟩ := hF.ex
  walk_at "dn"
  walk_at "zz"
  refine ⟨by walk_at "small", fun p hp => ?_⟩
  walk_at "zz"
  refine e_rng1 F.n rfl (by omega) ?_
  walk_at "ds"
  refine lp_of jw_range (fun i st A => ∃ y, st = [some (.ref fa), some (.int x), some (.ref p), some (.int ((x / F.p ^ i : Nat))), y] ∧ A = upd H p (.lst (vN (digs F.p i x)))) ⟨none, by simp, rfl⟩ (fun _ _ _ _ _ => trivial) ?_ ?_
  · rintro i _ _ hi ⟨y, rfl, rfl⟩
    walk_at "ds"
    walk_at "zz"
    refine' ⟨_, ?e1, ?e2⟩
    case e1 =>
      rw [Nat.pow_succ, ← Nat.div_div_eq_div_mul]
      rfl
    case e2 =>
      rw [upd_put, digs_snoc, vN_app]
      rfl
  · rintro _ _ ⟨y, rfl, rfl⟩
    walk_at "zz"
    exact ⟨_, Same.refl _, by walk_at "wl", Prs.same (by walk_at "same"), k p hp⟩
theorem sc_by_figures_of : FnScope ["field", "row", "found", "one"] ["field", "row"] (defScope s_by_figures_of) := ⟨rfl, rfl, rfl, by decide +kernel, rfl, by decide +kernel, by decide +kernel⟩
def sp_by_figures_of (K : PySem.W.Frag) : Sp := fun vs H Q _ => ∃ (f r : Addr) (F : Fd) (ds : List Nat), vs = [.ref f, .ref r] ∧ Wl H ∧ FieldAt K H f F ∧ FOK F ∧ H r = some (.lst (vN ds)) ∧ Q (.int (num F.p ds)) H
theorem ok_by_figures_of (T : Txt K mg) : FnAt P w K mg base 1 "by_figures_of" ["field", "row"] (sp_by_figures_of K) := by
  refine FnAt.of T 26 25 (d := d_by_figures_of) (k := 0) rfl rfl rfl rfl rfl sc_by_figures_of (fun _ _ _ _ _ _ us hl => match us, hl with | [_, _], _ => rfl) (fun vs H Q E h => by walk_at "len") (fun f_ cdv A outer s H vs Q E hr h => ?_)
  obtain ⟨fa, r, F, ds, rfl, wl, hF, ok, hr0, k⟩ := h
  have hp0 := ok.p
  refine ⟨_, (pss_cons (ps_set (i := 2) sc_by_figures_of.nd rfl (Or.inl rfl) pe_int)
    (pss_cons (ps_for PassesOwn.never rfl (pi_list (pe_revL (pv 1))) (pg_name (i := 3) sc_by_figures_of.nd rfl (Or.inl rfl))
      (pss_one (ps_set (i := 2) sc_by_figures_of.nd rfl (Or.inl rfl) (pe_op op_add (pe_op op_mul (pv 2) (pe_fldK (K := K) rfl (pv 0) rfl)) (pv 3)))))
    (pss_one (ps_ret (pv 2))))), ?_⟩
  obtain ⟨dx, m, a, b, h1, h2, h3, h4⟩ := hF.ex
  walk_at "dn"
  walk_at "zz"
  refine ⟨r, _, rfl, SqL.of hr0, fun p hp => ?_⟩
  walk_at "zz"
  refine e_list (xs := vN ds.reverse) (by rw [← vN_rev]; walk_at "sq") ?_
  walk_at "ds"
  refine lp_of (jw_list (xs := vN ds.reverse) (n := ds.length) (by rw [vN_len, List.length_reverse])) (fun i st A => ∃ y, st = [some (.ref fa), some (.ref r), some (.int (((ds.reverse.take i).foldl (fun a d => a * F.p + d) 0 : Nat))), y] ∧ A = upd H p (.lst (vN ds.reverse))) ⟨none, by simp, by rw [vN_rev]⟩
    (fun i st A _ h => by obtain ⟨_, _, rfl⟩ := h; exact SqL.of upd_same) ?_ ?_
  · rintro i _ _ hi ⟨y, rfl, rfl⟩
    have hi2 : i < ds.reverse.length := by rw [List.length_reverse]; exact hi
    rw [vN_getD hi2]
    walk_at "ds"
    walk_at "zz"
    refine' ⟨_, ?e1, rfl⟩
    case e1 =>
      rw [List.take_add_one, List.getElem?_eq_getElem hi2, Option.toList_some, List.foldl_append, List.getD_eq_getElem?_getD, List.getElem?_eq_getElem hi2]
      rfl
  · rintro _ _ ⟨y, rfl, rfl⟩
    walk_at "zz"
    rw [List.take_of_length_le (by rw [List.length_reverse]; exact Nat.le_refl _), ← num_rev]
    exact ⟨H, by walk_at "same", wl, Prs.refl _, k⟩
theorem sc_times_of : FnScope ["field", "one", "other"] ["field", "one", "other"] (defScope s_times_of) := ⟨rfl, rfl, rfl, by decide +kernel, rfl, by decide +kernel, by decide +kernel⟩
/-- the logarithm of an element that is not 0 -/
theorem atL {F : Fd} (ok : FOK F) {x : Nat} (h0 : 0 < x) (h1 : x < F.q) : atI (vL F) (x : Nat) = some (.int (F.L x)) := by
  refine atI_nat ?_
  obtain ⟨y, rfl⟩ : ∃ y, x = y + 1 := ⟨x - 1, by omega⟩
  have hl := ok.lgl
  show (vN F.lg.tail)[y]? = _
  rw [vN_at (by rw [List.length_tail]; omega)]
  congr 3
  unfold Fd.L
  cases F.lg with
  | nil => rfl
  | cons z zs => rfl
theorem atP {F : Fd} (ok : FOK F) {x : Nat} (h : x < F.q - 1) : atI (vN F.pw) (x : Nat) = some (.int (F.P x)) := atN (by rw [ok.pwl]; exact h)
def sp_times_of (K : PySem.W.Frag) : Sp := fun vs H Q _ => ∃ (f : Addr) (F : Fd) (x y : Nat), vs = [.ref f, .int x, .int y] ∧ Wl H ∧ FieldAt K H f F ∧ FOK F ∧ x < F.q ∧ y < F.q ∧ Q (.int (mulF F x y)) H
theorem ok_times_of (T : Txt K mg) : FnAt P w K mg base 1 "times_of" ["field", "one", "other"] (sp_times_of K) := by
  refine FnAt.of T 29 28 (d := d_times_of) (k := 0) rfl rfl rfl rfl rfl sc_times_of (fun _ _ _ _ _ _ us hl => match us, hl with | [_, _, _], _ => rfl) (fun vs H Q E h => by walk_at "len") (fun f_ cdv A outer s H vs Q E hr h => ?_)
  obtain ⟨fa, F, x, y, rfl, wl, hF, ok, hx, hy, k⟩ := h
  have hq := ok.q
  refine ⟨_, (pss_cons (ps_if (PW.pt (pw_or (pt_cmpR op_eq (pv 1) pe_int (nomark _)) (pw_or1 (pt_cmpR op_eq (pv 2) pe_int (nomark _))))) (pss_one (ps_ret pe_int)) pss_nil)
    (pss_one (ps_ret (pe_ix (ix_listK (K := K) rfl) (pe_fldK (K := K) rfl (pv 0) rfl) (pe_op op_mod (pe_op op_add (pe_ix (ix_listK (K := K) rfl) (pe_fldK (K := K) rfl (pv 0) rfl) (pv 1) (fun _ _ => rfl)) (pe_ix (ix_listK (K := K) rfl) (pe_fldK (K := K) rfl (pv 0) rfl) (pv 2) (fun _ _ => rfl))) (pe_op op_sub (pe_fldK (K := K) rfl (pv 0) rfl) pe_int)) (fun _ _ => rfl))))), ?_⟩
  obtain ⟨dx, m, a, b, h1, h2, h3, h4⟩ := hF.ex
  walk_at "dn"
  walk_at "zz"
  refine z_dec (fun hx0 => ?_) (fun hx0 => ?_)
  · walk_at "zz"
    refine ⟨H, Same.refl _, wl, Prs.refl _, ?_⟩
    have e : mulF F x y = 0 := if_pos (.inl (by omega))
    rw [e] at k
    exact k
  walk_at "zz"
  refine z_dec (fun hy0 => ?_) (fun hy0 => ?_)
  · walk_at "zz"
    refine ⟨H, Same.refl _, wl, Prs.refl _, ?_⟩
    have e : mulF F x y = 0 := if_pos (.inr (by omega))
    rw [e] at k
    exact k
  walk_at "zz"
  refine r_ixL (SqL.of h4) (atL ok (by omega) hx) ?_
  walk_at "zz"
  refine r_ixL (SqL.of h4) (atL ok (by omega) hy) ?_
  walk_at "zz"
  have e0 : ((F.q : Int) - 1) = ((F.q - 1 : Nat) : Int) := by omega
  rw [e0]
  refine r_ixL (SqL.of h3) (atP ok (x := (F.L x + F.L y) % (F.q - 1)) (Nat.mod_lt _ (by omega))) ?_
  refine ⟨H, Same.refl _, wl, Prs.refl _, ?_⟩
  have e : mulF F x y = F.P ((F.L x + F.L y) % (F.q - 1)) := if_neg (by omega)
  rw [e] at k
  exact k
theorem sc_over_of : FnScope ["field", "one", "other"] ["field", "one", "other"] (defScope s_over_of) := ⟨rfl, rfl, rfl, by decide +kernel, rfl, by decide +kernel, by decide +kernel⟩
def sp_over_of (K : PySem.W.Frag) : Sp := fun vs H Q _ => ∃ (f : Addr) (F : Fd) (x y : Nat), vs = [.ref f, .int x, .int y] ∧ Wl H ∧ FieldAt K H f F ∧ FOK F ∧ x < F.q ∧ y < F.q ∧ 0 < y ∧ Q (.int (divF F x y)) H
theorem ok_over_of (T : Txt K mg) : FnAt P w K mg base 1 "over_of" ["field", "one", "other"] (sp_over_of K) := by
  refine FnAt.of T 30 29 (d := d_over_of) (k := 0) rfl rfl rfl rfl rfl sc_over_of (fun _ _ _ _ _ _ us hl => match us, hl with | [_, _, _], _ => rfl) (fun vs H Q E h => by walk_at "len") (fun f_ cdv A outer s H vs Q E hr h => ?_)
  obtain ⟨fa, F, x, y, rfl, wl, hF, ok, hx, hy, hy0, k⟩ := h
  have hq := ok.q
  refine ⟨_, (pss_cons (ps_if (pt_cmpR op_eq (pv 1) pe_int (nomark _)) (pss_one (ps_ret pe_int)) pss_nil)
    (pss_one (ps_ret (pe_ix (ix_listK (K := K) rfl) (pe_fldK (K := K) rfl (pv 0) rfl) (pe_op op_mod (pe_op op_sub (pe_ix (ix_listK (K := K) rfl) (pe_fldK (K := K) rfl (pv 0) rfl) (pv 1) (fun _ _ => rfl)) (pe_ix (ix_listK (K := K) rfl) (pe_fldK (K := K) rfl (pv 0) rfl) (pv 2) (fun _ _ => rfl))) (pe_op op_sub (pe_fldK (K := K) rfl (pv 0) rfl) pe_int)) (fun _ _ => rfl))))), ?_⟩
  obtain ⟨dx, m, a, b, h1, h2, h3, h4⟩ := hF.ex
  walk_at "dn"
  walk_at "zz"
  refine z_dec (fun hx0 => ?_) (fun hx0 => ?_)
  · walk_at "zz"
    refine ⟨H, Same.refl _, wl, Prs.refl _, ?_⟩
    have e : divF F x y = 0 := if_pos (by omega)
    rw [e] at k
    exact k
  walk_at "zz"
  refine r_ixL (SqL.of h4) (atL ok (by omega) hx) ?_
  walk_at "zz"
  refine r_ixL (SqL.of h4) (atL ok (by omega) hy) ?_
  walk_at "zz"
  have hL := ok.L y hy
  have e0 : ((F.q : Int) - 1) = ((F.q - 1 : Nat) : Int) := by omega
  have e1 : (((F.L x : Nat) : Int) - (F.L y : Nat)) % ((F.q - 1 : Nat) : Int) = (((F.L x + (F.q - 1 - F.L y)) % (F.q - 1) : Nat) : Int) := by
    rw [Int.natCast_emod, ← Int.add_emod_right]
    congr 1
    omega
  rw [e0, e1]
  refine r_ixL (SqL.of h3) (atP ok (Nat.mod_lt _ (by omega))) ?_
  refine ⟨H, Same.refl _, wl, Prs.refl _, ?_⟩
  have e : divF F x y = F.P ((F.L x + (F.q - 1 - F.L y)) % (F.q - 1)) := if_neg (by omega)
  rw [e] at k
  exact k
theorem sc_power_of : FnScope ["field", "one", "many"] ["field", "one", "many"] (defScope s_power_of) := ⟨rfl, rfl, rfl, by decide +kernel, rfl, by decide +kernel, by decide +kernel⟩
def sp_power_of (K : PySem.W.Frag) : Sp := fun vs H Q _ => ∃ (f : Addr) (F : Fd) (x n : Nat), vs = [.ref f, .int x, .int n] ∧ Wl H ∧ FieldAt K H f F ∧ FOK F ∧ x < F.q ∧ Q (.int (powF F x n)) H
theorem ok_power_of (T : Txt K mg) : FnAt P w K mg base 1 "power_of" ["field", "one", "many"] (sp_power_of K) := by
  refine FnAt.of T 31 30 (d := d_power_of) (k := 0) rfl rfl rfl rfl rfl sc_power_of (fun _ _ _ _ _ _ us hl => match us, hl with | [_, _, _], _ => rfl) (fun vs H Q E h => by walk_at "len") (fun f_ cdv A outer s H vs Q E hr h => ?_)
  obtain ⟨fa, F, x, n, rfl, wl, hF, ok, hx, k⟩ := h
  have hq := ok.q
  have hL := ok.L x hx
  refine ⟨_, (pss_cons (ps_if (pt_cmpR op_eq (pv 2) pe_int (nomark _)) (pss_one (ps_ret pe_int)) pss_nil)
    (pss_one (ps_ret (pe_ifExp (pt_cmpR op_ne (pv 1) pe_int (nomark _)) (pe_ix (ix_listK (K := K) rfl) (pe_fldK (K := K) rfl (pv 0) rfl) (pe_op op_mod (pe_op op_mul (pe_ix (ix_listK (K := K) rfl) (pe_fldK (K := K) rfl (pv 0) rfl) (pv 1) (fun _ _ => rfl)) (pv 2)) (pe_op op_sub (pe_fldK (K := K) rfl (pv 0) rfl) pe_int)) (fun _ _ => rfl)) pe_int)))), ?_⟩
  obtain ⟨dx, m, a, b, h1, h2, h3, h4⟩ := hF.ex
  walk_at "dn"
  walk_at "zz"
  refine z_dec (fun hn0 => ?_) (fun hn0 => ?_)
  · walk_at "zz"
    refine ⟨H, Same.refl _, wl, Prs.refl _, ?_⟩
    have e : powF F x n = 1 := if_pos (by omega)
    rw [e] at k
    exact k
  walk_at "zz"
  refine z_ndec (fun hx0 => ?_) (fun hx0 => ?_)
  · walk_at "zz"
    refine r_ixL (SqL.of h4) (atL ok (by omega) hx) ?_
    walk_at "zz"
    have e0 : ((F.q : Int) - 1) = ((F.q - 1 : Nat) : Int) := by omega
    rw [e0]
    refine r_ixL (SqL.of h3) (atP ok (x := (F.L x * n) % (F.q - 1)) (Nat.mod_lt _ (by omega))) ?_
    refine ⟨H, Same.refl _, wl, Prs.refl _, ?_⟩
    have e : powF F x n = F.P (F.L x * n % (F.q - 1)) := by
      unfold powF
      rw [if_neg (by omega), if_neg (by omega)]
    rw [e] at k
    exact k
  · walk_at "zz"
    refine ⟨H, Same.refl _, wl, Prs.refl _, ?_⟩
    have e : powF F x n = 0 := by
      unfold powF
      rw [if_neg (by omega), if_pos (by omega)]
    rw [e] at k
    exact k
theorem sc_turned_of : FnScope ["field", "one", "many", "found", "turn"] ["field", "one", "many"] (defScope s_turned_of) := ⟨rfl, rfl, rfl, by decide +kernel, rfl, by decide +kernel, by decide +kernel⟩
def sp_turned_of (K : PySem.W.Frag) : Sp := fun vs H Q _ => ∃ (f : Addr) (F : Fd) (x : Nat) (n : Int), vs = [.ref f, .int x, .int n] ∧ Wl H ∧ FieldAt K H f F ∧ FOK F ∧ x < F.q ∧ Q (.int (turF F (n % (F.n : Int)).toNat x)) H
theorem ok_turned_of (T : Txt K mg) : FnAt P w K mg base 2 "turned_of" ["field", "one", "many"] (sp_turned_of K) := by
  refine FnAt.of T 32 31 (d := d_turned_of) (k := 1) rfl rfl rfl rfl rfl sc_turned_of (fun _ _ _ _ _ _ us hl => match us, hl with | [_, _, _], _ => rfl) (fun vs H Q E h => by walk_at "len") (fun f_ cdv A outer s H vs Q E hr h => ?_)
  obtain ⟨fa, F, x, n, rfl, wl, hF, ok, hx, k⟩ := h
  have hn0 := ok.n
  refine ⟨_, (pss_cons (ps_set (i := 3) sc_turned_of.nd rfl (Or.inl rfl) (pv 1))
    (pss_cons (ps_for PassesOwn.never rfl (pi_range1 (by rfl) T.n_range (pa_cons (pe_op op_mod (pv 2) (pe_fldK (K := K) rfl (pv 0) rfl)) pa_nil)) (pg_name (i := 4) sc_turned_of.nd rfl (Or.inl rfl))
      (pss_one (ps_set (i := 3) sc_turned_of.nd rfl (Or.inl rfl) (pe_callF (ok_power_of T) (by decide) hr (by rfl) (pa_cons (pv 0) (pa_cons (pv 3) (pa_cons (pe_fldK (K := K) rfl (pv 0) rfl) pa_nil)))))))
    (pss_one (ps_ret (pv 3))))), ?_⟩
  obtain ⟨dx, m, a, b, h1, h2, h3, h4⟩ := hF.ex
  walk_at "dn"
  walk_at "zz"
  have e0 : 0 ≤ n % (F.n : Int) := Int.emod_nonneg _ (by omega)
  have e1 : n % (F.n : Int) < (F.n : Int) := Int.emod_lt_of_pos _ (by omega)
  refine e_rng1 (n % (F.n : Int)).toNat (by omega) (by omega) ?_
  walk_at "ds"
  refine lp_of jw_range (fun i st A => ∃ y, st = [some (.ref fa), some (.int x), some (.int n), some (.int (turF F i x)), y] ∧ A = H) ⟨none, rfl, rfl⟩ (fun _ _ _ _ _ => trivial) ?_ ?_
  · rintro i _ _ hi ⟨y, rfl, rfl⟩
    walk_at "ds"
    walk_at "zz"
    refine ⟨fa, F, turF F i x, F.p, rfl, wl, hF, ok, turF_lt ok hx i, ?_⟩
    walk_at "zz"
    exact ⟨_, rfl, rfl⟩
  · rintro _ _ ⟨y, rfl, rfl⟩
    walk_at "zz"
    exact ⟨_, Same.refl _, wl, Prs.refl _, k⟩
end
end TP
/-! part TPq -/
/-! what the making of a field computes, in plain words -/
namespace TP
def endOf (xs : List Nat) : Nat → Nat
  | 0 => 0
  | m + 1 => if xs.getD m 0 = 0 then endOf xs m else m + 1
theorem endOf_le (xs : List Nat) : ∀ m, endOf xs m ≤ m
  | 0 => Nat.le_refl 0
  | m + 1 => by
    show (if xs.getD m 0 = 0 then endOf xs m else m + 1) ≤ m + 1
    have h := endOf_le xs m
    split <;> omega
def trim (xs : List Nat) : List Nat := xs.take (endOf xs xs.length)
theorem trim_len (xs : List Nat) : (trim xs).length = endOf xs xs.length := by
  unfold trim
  rw [List.length_take]
  exact Nat.min_eq_left (endOf_le xs xs.length)
theorem trim_le (xs : List Nat) : (trim xs).length ≤ xs.length := by
  rw [trim_len]
  exact endOf_le xs xs.length
/-- figures below p -/
def Bel (p : Nat) (xs : List Nat) : Prop := ∀ i, i < xs.length → xs.getD i 0 < p
def subAt (p f s : Nat) (other left : List Nat) : Nat → List Nat
  | 0 => left
  | i + 1 => (subAt p f s other left i).set (s + i) (sm p ((subAt p f s other left i).getD (s + i) 0) (f * other.getD i 0))
theorem subAt_len (p f s : Nat) (other left : List Nat) : ∀ i, (subAt p f s other left i).length = left.length
  | 0 => rfl
  | i + 1 => by
    show ((subAt p f s other left i).set _ _).length = _
    rw [List.length_set]
    exact subAt_len p f s other left i
def restGo (p t : Nat) (other : List Nat) : Nat → List Nat → Option (List Nat)
  | 0, _ => none
  | n + 1, left => if other.length ≤ left.length then restGo p t other n (trim (subAt p (left.getD (left.length - 1) 0 * t % p) (left.length - other.length) other left other.length)) else some left
def pRest (p : Nat) (poly other : List Nat) : Option (List Nat) := if poly.length ≤ 100 ∧ 0 < other.length ∧ other.length ≤ 100 ∧ 0 < other.getD (other.length - 1) 0 ∧ other.getD (other.length - 1) 0 < p then restGo p (other.getD (other.length - 1) 0) other 20 (trim poly) else none
theorem pRest_some {p : Nat} {poly other r : List Nat} (h : pRest p poly other = some r) : poly.length ≤ 100 ∧ 0 < other.length ∧ other.length ≤ 100 ∧ 0 < other.getD (other.length - 1) 0 ∧ other.getD (other.length - 1) 0 < p ∧ restGo p (other.getD (other.length - 1) 0) other 20 (trim poly) = some r := by
  unfold pRest at h
  split at h
  · rename_i c
    exact ⟨c.1, c.2.1, c.2.2.1, c.2.2.2.1, c.2.2.2.2, h⟩
  · cases h
def mulIn (p a i : Nat) (other l : List Nat) : Nat → List Nat
  | 0 => l
  | j + 1 => (mulIn p a i other l j).set (i + j) (((mulIn p a i other l j).getD (i + j) 0 + a * other.getD j 0) % p)
def mulOut (p : Nat) (one other l : List Nat) : Nat → List Nat
  | 0 => l
  | i + 1 => mulIn p (one.getD i 0) i other (mulOut p one other l i) other.length
theorem mulIn_len (p a i : Nat) (other l : List Nat) : ∀ j, (mulIn p a i other l j).length = l.length
  | 0 => rfl
  | j + 1 => by
    show ((mulIn p a i other l j).set _ _).length = _
    rw [List.length_set]
    exact mulIn_len p a i other l j
theorem mulOut_len (p : Nat) (one other l : List Nat) : ∀ i, (mulOut p one other l i).length = l.length
  | 0 => rfl
  | i + 1 => by
    show (mulIn p _ i other (mulOut p one other l i) _).length = _
    rw [mulIn_len]
    exact mulOut_len p one other l i
def pTimes (p : Nat) (one other md : List Nat) : Option (List Nat) := if 0 < one.length ∧ one.length ≤ 40 ∧ 0 < other.length ∧ other.length ≤ 40 ∧ one.all (fun x => decide (x < p)) = true then pRest p (mulOut p one other (List.replicate (one.length + other.length - 1) 0) one.length) md else none
theorem pTimes_some {p : Nat} {one other md r : List Nat} (h : pTimes p one other md = some r) : 0 < one.length ∧ one.length ≤ 40 ∧ 0 < other.length ∧ other.length ≤ 40 ∧ Bel p one ∧ pRest p (mulOut p one other (List.replicate (one.length + other.length - 1) 0) one.length) md = some r := by
  unfold pTimes at h
  split at h
  · rename_i c
    refine ⟨c.1, c.2.1, c.2.2.1, c.2.2.2.1, fun i hi => ?_, h⟩
    have z := List.all_eq_true.mp c.2.2.2.2 one[i] (List.getElem_mem hi)
    rw [List.getD_eq_getElem?_getD, List.getElem?_eq_getElem hi]
    exact of_decide_eq_true z
  · cases h
def pLess (p : Nat) (one other : List Nat) : List Nat :=
  trim (List.zipWith (fun x y => sm p x y) (one ++ List.replicate (max one.length other.length - one.length) 0) (other ++ List.replicate (max one.length other.length - other.length) 0))
def apartGo (p : Nat) : Nat → List Nat → List Nat → Option Bool
  | 0, _, _ => none
  | n + 1, near, far => if 0 < far.length then (pRest p near far).bind fun r => apartGo p n far r else some (decide (near.length = 1))
/-- the letter turned again -/
def powGo (p : Nat) (md l : List Nat) : Nat → List Nat → Option (List Nat)
  | 0, here => some here
  | n + 1, here => (pTimes p here l md).bind fun h => powGo p md l n h
def letGo (p : Nat) (md : List Nat) : Nat → List (List Nat) → Option (List (List Nat))
  | 0, found => some found
  | n + 1, found => (powGo p md (found.getD (found.length - 1) []) p [1]).bind fun h => letGo p md n (found ++ [h])
def pLetter (p : Nat) (md : List Nat) : Option (List (List Nat)) := (pRest p [0, 1] md).bind fun l => letGo p md (md.length - 1) [l]
def isPr (n : Nat) : Bool := (List.range (n - 2)).all fun i => decide (n % (2 + i) ≠ 0)
def figs (p : Nat) : Nat → Nat → List Nat → Option (List Nat)
  | 0, _, _ => none
  | n + 1, left, found => if 0 < left then figs p n (left / p) (found ++ [left % p]) else some found
def pwGo (p : Nat) (base md : List Nat) : Nat → List Nat → List Nat → Option (List Nat)
  | 0, _, _ => none
  | n + 1, here, found => if here = [1] then some found else (pTimes p here base md).bind fun h => pwGo p base md n h (found ++ [num p here])
def pPowers (p : Nat) (md : List Nat) (x : Nat) : Option (List Nat) := (figs p 20 x []).bind fun b => pwGo p b md 40 b [1]
def allGo (p : Nat) (md : List Nat) (q : Nat) : Nat → Nat → List Nat → Option (List Nat)
  | 0, _, _ => none
  | n + 1, x, found => if found.length < q - 1 then (pPowers p md (x + 1)).bind fun f => allGo p md q n (x + 1) f else some found
def pAll (p : Nat) (md : List Nat) (q : Nat) : Option (List Nat) := (pPowers p md p).bind fun f => allGo p md q 40 p f
def logsN (pw : List Nat) (l : List Int) : Nat → List Int
  | 0 => l
  | i + 1 => (logsN pw l i).set (pw.getD i 0) (i : Nat)
def pApart (p : Nat) (md : List Nat) (fs : List (List Nat)) (d : Nat) : Option Bool := apartGo p 20 md (pLess p (fs.getD ((md.length - 1) / d) []) (fs.getD 0 []))
def goodL (k : Nat) (fs : List (List Nat)) : Bool := decide (fs.length = k + 1) && fs.all (fun f => decide (f.length ≤ 40))
def pSingle (p : Nat) (md : List Nat) : Bool := match pLetter p md with
  | none => false
  | some fs => goodL (md.length - 1) fs && decide (fs.getD (md.length - 1) [] = fs.getD 0 []) && (List.range (md.length - 2)).all fun i => (!(decide ((md.length - 1) % (2 + i) = 0) && isPr (2 + i))) || decide (pApart p md fs (2 + i) = some true)
section
theorem F8_single : pSingle 2 [1, 1, 0, 1] = true := by decide +kernel
theorem F16_single : pSingle 2 [1, 1, 0, 0, 1] = true := by decide +kernel
theorem F27_single : pSingle 3 [1, 2, 0, 1] = true := by decide +kernel
theorem F32_single : pSingle 2 [1, 0, 1, 0, 0, 1] = true := by decide +kernel
theorem F8_all : pAll 2 [1, 1, 0, 1] 8 = some F8.pw := by decide +kernel
theorem F16_all : pAll 2 [1, 1, 0, 0, 1] 16 = some F16.pw := by decide +kernel
theorem F27_all : pAll 3 [1, 2, 0, 1] 27 = some F27.pw := by decide +kernel
theorem F32_all : pAll 2 [1, 0, 1, 0, 0, 1] 32 = some F32.pw := by decide +kernel
end
theorem FOK.mdl {F : Fd} (h : FOK F) : F.md.length = F.n + 1 := h.all (C := fun F => F.md.length = F.n + 1) (by decide) (by decide) (by decide) (by decide)
theorem FOK.mdb {F : Fd} (h : FOK F) : Bel F.p F.md := h.all (C := fun F => Bel F.p F.md) (by unfold Bel; decide +kernel) (by unfold Bel; decide +kernel) (by unfold Bel; decide +kernel) (by unfold Bel; decide +kernel)
theorem FOK.mdt {F : Fd} (h : FOK F) : F.md.getD F.n 0 = 1 := h.all (C := fun F => F.md.getD F.n 0 = 1) (by decide) (by decide) (by decide) (by decide)
theorem FOK.single {F : Fd} (h : FOK F) : pSingle F.p F.md = true := h.all (C := fun F => pSingle F.p F.md = true) F8_single F16_single F27_single F32_single
theorem FOK.allp {F : Fd} (h : FOK F) : pAll F.p F.md F.q = some F.pw := h.all (C := fun F => pAll F.p F.md F.q = some F.pw) F8_all F16_all F27_all F32_all
end TP
/-! part TPs -/
/-! steps of rows of base figures, in plain words -/
namespace TP
def lessRow (p : Nat) (row head : List Nat) (c : Nat) : List Nat := List.zipWith (fun x y => sm p x (row.getD c 0 * y)) row head
theorem lessRow_len {p c n : Nat} {row head : List Nat} (h1 : row.length = n) (h2 : head.length = n) : (lessRow p row head c).length = n := by
  unfold lessRow
  rw [List.length_zipWith, h1, h2, Nat.min_self]
theorem lessRow_at {p c n : Nat} {row head : List Nat} (h1 : row.length = n) (h2 : head.length = n) {i : Nat} (hi : i < n) : (lessRow p row head c).getD i 0 = sm p (row.getD i 0) (row.getD c 0 * head.getD i 0) := by
  unfold lessRow
  rw [List.getD_eq_getElem?_getD, List.getElem?_zipWith, List.getD_eq_getElem?_getD, List.getD_eq_getElem?_getD, List.getD_eq_getElem?_getD, List.getElem?_eq_getElem (by omega : i < row.length), List.getElem?_eq_getElem (by omega : i < head.length)]
  rfl
def scaleRow (p t : Nat) (row : List Nat) : List Nat := row.map fun x => x * t % p
theorem scaleRow_len {p t n : Nat} {row : List Nat} (h : row.length = n) : (scaleRow p t row).length = n := by
  unfold scaleRow
  rw [List.length_map, h]
theorem scaleRow_at (p t : Nat) (row : List Nat) (i : Nat) : (scaleRow p t row).getD i 0 = row.getD i 0 * t % p := by
  unfold scaleRow
  rw [List.getD_eq_getElem?_getD, List.getD_eq_getElem?_getD, List.getElem?_map]
  cases row[i]? with
  | none => simp
  | some x => rfl
/-- a row of figures -/
structure Row (p n : Nat) (r : List Nat) : Prop where
  len : r.length = n
  lt : ∀ i, r.getD i 0 < p
def Good (p n : Nat) (rs : List (List Nat)) : Prop := ∀ r ∈ rs, Row p n r
theorem getD_lt {p : Nat} (hp : 0 < p) {xs : List Nat} (h : ∀ x ∈ xs, x < p) (i : Nat) : xs.getD i 0 < p := by
  rw [List.getD_eq_getElem?_getD]
  cases e : xs[i]? with
  | none => exact hp
  | some x => exact h x (List.mem_of_getElem? e)
theorem Row.less {p n c : Nat} (hp : 0 < p) {r h : List Nat} (a : Row p n r) (b : Row p n h) : Row p n (lessRow p r h c) := by
  refine ⟨lessRow_len a.len b.len, fun i => ?_⟩
  by_cases hi : i < n
  · rw [lessRow_at a.len b.len hi]
    exact sm_lt hp _ _
  · rw [List.getD_eq_getElem?_getD, List.getElem?_eq_none (by rw [lessRow_len a.len b.len]; omega)]
    exact hp
theorem Row.scale {p n t : Nat} (hp : 0 < p) {r : List Nat} (a : Row p n r) : Row p n (scaleRow p t r) :=
  ⟨scaleRow_len a.len, fun i => by
    rw [scaleRow_at]
    exact Nat.mod_lt _ hp⟩
theorem Good.at {p n : Nat} {rs : List (List Nat)} (g : Good p n rs) {i : Nat} (h : i < rs.length) : Row p n (rs.getD i []) := by
  rw [List.getD_eq_getElem?_getD, List.getElem?_eq_getElem h]
  exact g _ (List.getElem_mem h)
theorem Good.map {p n : Nat} {rs : List (List Nat)} {f : List Nat → List Nat} (g : Good p n rs) (h : ∀ r, Row p n r → Row p n (f r)) : Good p n (rs.map f) := fun r m => by
  obtain ⟨s, hs, rfl⟩ := List.mem_map.mp m
  exact h s (g s hs)
theorem Good.erase {p n i : Nat} {rs : List (List Nat)} (g : Good p n rs) : Good p n (rs.eraseIdx i) := fun r m => g r (List.mem_of_mem_eraseIdx m)
theorem Good.snoc {p n : Nat} {rs : List (List Nat)} {r : List Nat} (g : Good p n rs) (h : Row p n r) : Good p n (rs ++ [r]) := fun s m => by
  rcases List.mem_append.mp m with m | m
  · exact g s m
  · rw [List.mem_singleton.mp m]
    exact h
/-- which rows have no 0 at a place -/
def spots (c : Nat) (L : List (List Nat)) : List Nat := (List.range L.length).filter fun i => decide ((L.getD i []).getD c 0 ≠ 0)
def headOf (p c i : Nat) (L : List (List Nat)) : List Nat := scaleRow p ((L.getD i []).getD c 0) (L.getD i [])
def stepAt (p c : Nat) (s : List (List Nat) × List (List Nat)) : List (List Nat) × List (List Nat) :=
  match spots c s.1 with
  | [] => s
  | i :: _ => ((s.1.eraseIdx i).map fun r => lessRow p r (headOf p c i s.1) c, (s.2.map fun r => lessRow p r (headOf p c i s.1) c) ++ [headOf p c i s.1])
def stepsTo (p : Nat) (rows : List (List Nat)) : Nat → List (List Nat) × List (List Nat)
  | 0 => (rows, [])
  | c + 1 => stepAt p c (stepsTo p rows c)
def steps (p : Nat) (rows : List (List Nat)) : List (List Nat) := (stepsTo p rows (rows.getD 0 []).length).2
def rkRows (p : Nat) (rows : List (List Nat)) : Nat := (steps p rows).length
def rkF (F : Fd) (xs : List Nat) : Nat := rkRows F.p (xs.map fun x => digs F.p F.n x)
theorem spots_mem {c i : Nat} {L : List (List Nat)} (h : i ∈ spots c L) : i < L.length ∧ (L.getD i []).getD c 0 ≠ 0 := by
  obtain ⟨h1, h2⟩ := List.mem_filter.mp h
  exact ⟨List.mem_range.mp h1, of_decide_eq_true h2⟩
theorem stepAt_good {p n c : Nat} (hp : 0 < p) {s : List (List Nat) × List (List Nat)} (h1 : Good p n s.1) (h2 : Good p n s.2) : Good p n (stepAt p c s).1 ∧ Good p n (stepAt p c s).2 := by
  unfold stepAt
  cases e : spots c s.1 with
  | nil => exact ⟨h1, h2⟩
  | cons i is =>
    have hi := spots_mem (show i ∈ spots c s.1 by rw [e]; exact List.mem_cons_self ..)
    have hh : Row p n (headOf p c i s.1) := (h1.at hi.1).scale hp
    exact ⟨h1.erase.map fun r hr => hr.less hp hh, (h2.map fun r hr => hr.less hp hh).snoc hh⟩
theorem stepsTo_good {p n : Nat} (hp : 0 < p) {rows : List (List Nat)} (h : Good p n rows) : ∀ c, Good p n (stepsTo p rows c).1 ∧ Good p n (stepsTo p rows c).2
  | 0 => ⟨h, fun r m => by cases m⟩
  | c + 1 => stepAt_good hp (stepsTo_good hp h c).1 (stepsTo_good hp h c).2
theorem stepAt_len (p c : Nat) (s : List (List Nat) × List (List Nat)) : (stepAt p c s).1.length + (stepAt p c s).2.length ≤ s.1.length + s.2.length := by
  unfold stepAt
  cases e : spots c s.1 with
  | nil => exact Nat.le_refl _
  | cons i is =>
    have hi := spots_mem (show i ∈ spots c s.1 by rw [e]; exact List.mem_cons_self ..)
    dsimp only
    rw [List.length_map, List.length_append, List.length_map, List.length_singleton, List.length_eraseIdx_of_lt hi.1]
    omega
theorem stepsTo_len (p : Nat) (rows : List (List Nat)) : ∀ c, (stepsTo p rows c).1.length + (stepsTo p rows c).2.length ≤ rows.length
  | 0 => Nat.le_refl _
  | c + 1 => Nat.le_trans (stepAt_len p c _) (stepsTo_len p rows c)
theorem digs_at_lt {p : Nat} (hp : 0 < p) : ∀ n x, ∀ y ∈ digs p n x, y < p
  | 0, _, _, m => by cases m
  | n + 1, x, y, m => by
    rcases List.mem_cons.mp m with e | m
    · rw [e]
      exact Nat.mod_lt _ hp
    · exact digs_at_lt hp n (x / p) y m
theorem digs_row {p : Nat} (hp : 0 < p) (n x : Nat) : Row p n (digs p n x) := ⟨digs_len p n x, getD_lt hp (digs_at_lt hp n x)⟩
end TP
/-! part Q4 -/
set_option maxHeartbeats 1000000
namespace TP
open PySem PySem.Spec PyProof.Rows L2
set_option hygiene false in
local macro_rules | `(tactic| walk_at "ne") => `(tactic| first | assumption | exact Ne.symm (by assumption) | exact ne_of_none (H := H) (by assumption) (by assumption) | exact (ne_of_none (H := H) (by assumption) (by assumption)).symm | exact ne_of_none (H := A) (by assumption) (by assumption) | exact (ne_of_none (H := A) (by assumption) (by assumption)).symm)
local macro_rules | `(tactic| walk_at "get") => `(tactic| first | assumption | exact upd_same | (refine upd_at ?_ ?_; (focus walk_at "ne"); (walk_at "get")))
local macro_rules | `(tactic| walk_at "nn") => `(tactic| first | assumption | (refine none_upd ?_ ?_; (focus walk_at "ne"); (walk_at "nn")))
local macro_rules | `(tactic| walk_at "same") => `(tactic| first | exact Same.refl _ | assumption | (refine Same.both ?_; walk_at "same") | (refine TP.Same.new ?_ ?_; (focus walk_at "same"); (walk_at "nn")) | (refine Same.put ?_ ?_; (focus walk_at "same"); (walk_at "get")))
local macro_rules | `(tactic| walk_at "noown") => `(tactic| first | exact NoOwn.none (by assumption) | (refine NoOwn.upd ?_ True.intro; walk_at "noown"))
local macro_rules | `(tactic| walk_at "wl") => `(tactic| first | assumption | (refine Wl.put ?_ ?_ True.intro; (focus walk_at "wl"); (walk_at "noown")))
local macro_rules | `(tactic| walk_at "sq") => `(tactic| first | assumption | exact SqL.of (by walk_at "get"))
set_option hygiene false in
local macro_rules | `(tactic| walk_at "f1") => `(tactic| obtain ⟨_, hp⟩ := upd_none hp)
set_option hygiene false in
local macro_rules | `(tactic| walk_at "f2") => `(tactic| (obtain ⟨_, hp⟩ := upd_none hp; obtain ⟨_, hp⟩ := upd_none hp))
set_option hygiene false in
local macro_rules | `(tactic| walk_at "f3") => `(tactic| (obtain ⟨_, hp⟩ := upd_none hp; obtain ⟨_, hp⟩ := upd_none hp; obtain ⟨_, hp⟩ := upd_none hp))
set_option hygiene false in
local macro_rules | `(tactic| walk_at "f4") => `(tactic| (obtain ⟨_, hp⟩ := upd_none hp; obtain ⟨_, hp⟩ := upd_none hp; obtain ⟨_, hp⟩ := upd_none hp; obtain ⟨_, hp⟩ := upd_none hp))
set_option hygiene false in
local macro_rules | `(tactic| walk_at "fa") => `(tactic| first
  | ((with_reducible refine' z_own_prime T ?hv ?hh ?_); (case hv => exact rfl); (case hh => walk_at "get"))
  | ((with_reducible refine' z_own_turns T ?hv ?hh ?_); (case hv => exact rfl); (case hh => walk_at "get"))
  | ((with_reducible refine' z_own_size T ?hv ?hh ?_); (case hv => exact rfl); (case hh => walk_at "get"))
  | ((with_reducible refine' z_own_powers T ?hv ?hh ?_); (case hv => exact rfl); (case hh => walk_at "get"))
  | ((with_reducible refine' z_own_logs T ?hv ?hh ?_); (case hv => exact rfl); (case hh => walk_at "get"))
  | ((with_reducible refine' z_own_field T ?hv ?hh ?_); (case hv => exact rfl); (case hh => walk_at "get"))
  | ((with_reducible refine' z_own_points T ?hv ?hh ?_); (case hv => exact rfl); (case hh => walk_at "get"))
  | ((with_reducible refine' z_own_many T ?hv ?hh ?_); (case hv => exact rfl); (case hh => walk_at "get")))
local macro_rules | `(tactic| walk_at "z") => `(tactic| first
  | with_reducible refine z_seq ?_
  | with_reducible refine z_asg ?_
  | with_reducible refine z_name ?_
  | ((with_reducible refine' z_var ?hv ?_); (case hv => exact rfl))
  | with_reducible refine z_c ?_
  | with_reducible refine z_op ?_
  | with_reducible refine r_I0 ?_
  | ((with_reducible refine r_I ?hc ?_); (case hc => walk_at "ar"))
  | ((with_reducible refine' r_app ?ha ?hz ?_); (case ha => walk_at "get"); (case hz => walk_at "sz"))
  | ((with_reducible refine' z_tyl ?ha ?_); (case ha => walk_at "get"))
  | with_reducible refine z_cons ?_
  | ((with_reducible refine' r_len ?ha ?_); (case ha => walk_at "sq"))
  | with_reducible refine z_nil ?_
  | walk_at "fa"
  | walk_at "fd"
  | with_reducible refine z_test ?_
  | with_reducible refine z_bl ?_
  | with_reducible refine z_tB ?_
  | with_reducible refine r_eq ?_
  | with_reducible refine r_ne ?_
  | with_reducible refine z_ifS ?_
  | with_reducible refine z_ret ?_
  | with_reducible refine z_drop ?_
  | with_reducible refine z_cb ?_
  | with_reducible refine z_call ?_
  | with_reducible refine z_bm ?_
  | with_reducible refine z_bm0 ?_
  | with_reducible refine z_lst ?_
  | with_reducible refine z_tup ?_
  | with_reducible refine z_un ?_
  | with_reducible refine r_U ?_
  | with_reducible refine z_par ?_
  | with_reducible refine z_par3 ?_
  | with_reducible refine z_two ?_
  | with_reducible refine z_three ?_
  | with_reducible refine z_sub ?_
  | with_reducible refine z_for ?_
  | with_reducible refine z_lc ?_
  | with_reducible refine z_ifE ?_
  | with_reducible refine z_and ?_
  | with_reducible refine z_or ?_
  | with_reducible refine z_not ?_
  | with_reducible refine z_yes ?_
  | with_reducible refine z_andV ?_
  | with_reducible refine z_orV ?_
  | with_reducible refine z_notV ?_
  | with_reducible refine z_sl ?_
  | with_reducible refine z_noP ?_
  | with_reducible refine z_part ?_
  | with_reducible refine z_int ?_
  | with_reducible refine z_revL ?_
  | with_reducible refine z_next ?_
  | with_reducible refine z_sf ?_
  | with_reducible refine z_f ?_
  | with_reducible refine z_tf ?_
  | with_reducible refine z_disp ?_
  | with_reducible refine z_pc ?_
  | with_reducible refine z_pn ?_
  | with_reducible refine z_i1 ?_
  | with_reducible refine i_rng3 ?_
  | with_reducible refine z_chain ?_
  | with_reducible refine z_nT ?_
  | with_reducible refine z_nF ?_
  | with_reducible refine z_sfld ?_
  | with_reducible refine i_rng1 ?_
  | with_reducible refine i_rng2 ?_
  | with_reducible refine i_list ?_
  | with_reducible refine i_zip ?_
  | with_reducible refine i_enum ?_
  | with_reducible refine z_tt ?_
  | with_reducible refine z_ff ?_)
local macro_rules | `(tactic| walk_at "zz") => `(tactic| repeat walk_at "z")
set_option hygiene false in
local macro_rules | `(tactic| walk_at "len") => `(tactic| first | (obtain ⟨rfl, _⟩ := h; rfl) | (obtain ⟨_, rfl, _⟩ := h; rfl) | (obtain ⟨_, _, rfl, _⟩ := h; rfl) | (obtain ⟨_, _, _, rfl, _⟩ := h; rfl) | (obtain ⟨_, _, _, _, rfl, _⟩ := h; rfl) | (obtain ⟨_, _, _, _, _, rfl, _⟩ := h; rfl) | (obtain ⟨_, _, _, _, _, _, rfl, _⟩ := h; rfl) | (obtain ⟨_, _, _, _, _, _, _, rfl, _⟩ := h; rfl) | (obtain ⟨_, _, _, _, _, _, _, _, rfl, _⟩ := h; rfl) | (obtain ⟨_, _, _, _, _, _, _, _, _, rfl, _⟩ := h; rfl) | (obtain ⟨_, _, _, _, _, _, _, _, _, _, rfl, _⟩ := h; rfl) | (obtain ⟨_, _, _, _, _, _, _, _, _, _, _, rfl, _⟩ := h; rfl) | (obtain ⟨_, _, _, _, _, _, _, _, _, _, _, _, rfl, _⟩ := h; rfl) | (obtain ⟨_, _, _, _, _, _, _, _, _, _, _, _, _, rfl, _⟩ := h; rfl) | (obtain ⟨_, _, _, _, _, _, _, _, _, _, _, _, _, _, rfl, _⟩ := h; rfl) | (obtain ⟨_, _, _, _, _, _, _, _, _, _, _, _, _, _, _, rfl, _⟩ := h; rfl) | (obtain ⟨_, _, _, _, _, _, _, _, _, _, _, _, _, _, _, _, rfl, _⟩ := h; rfl))
local macro_rules | `(tactic| walk_at "small") => `(tactic| first | exact Nat.zero_le _ | exact (by decide : 1 ≤ sizeLine) | exact (by decide : 2 ≤ sizeLine) | exact (by decide : 3 ≤ sizeLine) | exact (by decide : 4 ≤ sizeLine) | exact (by decide : 5 ≤ sizeLine) | exact (by decide : 6 ≤ sizeLine))
local macro_rules | `(tactic| walk_at "dn") => `(tactic| dsimp only [cxOf, L2.start, List.map, List.length, List.replicate, List.cons_append, List.nil_append, Nat.reduceAdd, Nat.reduceSub, Nat.zero_add])
local macro_rules | `(tactic| walk_at "ar") => `(tactic| first | assumption | (show _ < _; omega) | (show _ < _ ∧ _ < _; omega) | (left; show _ < _ ∧ _ < _; constructor <;> omega) | (right; show _ < _ ∧ _ < _; constructor <;> omega))
local macro_rules | `(tactic| walk_at "sz") => `(tactic| first | omega | (simp only [vN_len, List.length_append, List.length_cons, List.length_nil, List.length_map, List.length_range, List.length_replicate, List.length_set, List.length_take, List.length_drop, List.length_reverse]; omega))
local macro_rules | `(tactic| walk_at "ds") => `(tactic| try dsimp only [List.set])
set_option hygiene false in
local macro_rules | `(tactic| walk_at "endL") => `(tactic| (refine' ⟨_, ?e1, ?e2, ?e3, k p hp⟩; (case e1 => walk_at "same"); (case e2 => walk_at "wl"); (case e3 => exact Prs.same (by walk_at "same"))))
set_option hygiene false in
local macro_rules | `(tactic| walk_at "endS") => `(tactic| exact ⟨H, by walk_at "same", wl, Prs.refl _, k⟩)
set_option hygiene false in
local macro_rules | `(tactic| walk_at "endQ") => `(tactic| (refine' ⟨_, ?e1, ?e2, ?e3, k q hp⟩; (case e1 => walk_at "same"); (case e2 => walk_at "wl"); (case e3 => exact Prs.same (by walk_at "same"))))
local macro_rules | `(tactic| walk_at "f5") => `(tactic| (walk_at "f1"; walk_at "f4"))
local macro_rules | `(tactic| walk_at "f6") => `(tactic| (walk_at "f2"; walk_at "f4"))
local macro_rules | `(tactic| walk_at "f7") => `(tactic| (walk_at "f3"; walk_at "f4"))
set_option hygiene false in
local macro_rules | `(tactic| walk_at "fd") => `(tactic| first
  | ((with_reducible refine' z_w_prime ?hv ?hh ?_); (case hv => exact rfl); (case hh => assumption))
  | ((with_reducible refine' z_w_turns ?hv ?hh ?_); (case hv => exact rfl); (case hh => assumption))
  | ((with_reducible refine' z_w_size ?hv ?hh ?_); (case hv => exact rfl); (case hh => assumption))
  | ((with_reducible refine' z_w_powers ?hv ?hh ?_); (case hv => exact rfl); (case hh => assumption))
  | ((with_reducible refine' z_w_places ?hv ?hh ?_); (case hv => exact rfl); (case hh => assumption))
  | ((with_reducible refine' z_t_prime ?hv ?hh ?_); (case hv => exact rfl); (case hh => assumption))
  | ((with_reducible refine' z_t_modulus ?hv ?hh ?_); (case hv => exact rfl); (case hh => assumption))
  | ((with_reducible refine' z_t_world ?hv ?hh ?_); (case hv => exact rfl); (case hh => assumption))
  | ((with_reducible refine' z_t_points ?hv ?hh ?_); (case hv => exact rfl); (case hh => assumption))
  | ((with_reducible refine' z_t_many ?hv ?hh ?_); (case hv => exact rfl); (case hh => assumption))
  | ((with_reducible refine' z_t_reach ?hv ?hh ?_); (case hv => exact rfl); (case hh => assumption)))
local macro_rules | `(tactic| walk_at "sz") => `(tactic| (simp only [vN_len, digs_len, List.length_reverse]; omega))
theorem zw_range (f : Nat → Nat → Nat) {xs ys : List Nat} {n : Nat} (hx : xs.length = n) (hy : ys.length = n) : ((List.range n).map fun i => V.int ((f (xs.getD i 0) (ys.getD i 0) : Nat))) = vN (List.zipWith f xs ys) := by
  unfold vN
  refine List.ext_getElem? fun i => ?_
  rw [List.getElem?_map, List.getElem?_map, List.getElem?_zipWith]
  by_cases h : i < n
  · have e1 : xs.getD i 0 = xs[i]'(by omega) := by rw [List.getD_eq_getElem?_getD, List.getElem?_eq_getElem (by omega : i < xs.length)]; rfl
    have e2 : ys.getD i 0 = ys[i]'(by omega) := by rw [List.getD_eq_getElem?_getD, List.getElem?_eq_getElem (by omega : i < ys.length)]; rfl
    rw [List.getElem?_range h, List.getElem?_eq_getElem (by omega : i < xs.length), List.getElem?_eq_getElem (by omega : i < ys.length)]
    show some (V.int ((f (xs.getD i 0) (ys.getD i 0) : Nat))) = some (V.int ((f xs[i] ys[i] : Nat)))
    rw [e1, e2]
  · rw [List.getElem?_eq_none (by rw [List.length_range]; omega), List.getElem?_eq_none (by omega : xs.length ≤ i)]
    rfl
section
variable {P : Program} {w : World} {K : PySem.W.Frag} {mg : Str → Option Value} {base : Heap}
theorem sc_plus_of : FnScope ["field", "one", "other", "pairs", "near", "far"] ["field", "one", "other"] (defScope s_plus_of) := ⟨rfl, rfl, rfl, by decide +kernel, rfl, by decide +kernel, by decide +kernel⟩
def sp_plus_of (K : PySem.W.Frag) : Sp := fun vs H Q _ => ∃ (f : Addr) (F : Fd) (x y : Nat), vs = [.ref f, .int x, .int y] ∧ Wl H ∧ FieldAt K H f F ∧ FOK F ∧ x < F.q ∧ y < F.q ∧ Q (.int (addF F x y)) H
theorem ok_plus_of (T : Txt K mg) : FnAt P w K mg base 2 "plus_of" ["field", "one", "other"] (sp_plus_of K) := by
  refine FnAt.of T 27 26 (d := d_plus_of) (k := 1) rfl rfl rfl rfl rfl sc_plus_of (fun _ _ _ _ _ _ us hl => match us, hl with | [_, _, _], _ => rfl) (fun vs H Q E h => by walk_at "len") (fun f_ cdv A outer s H vs Q E hr h => ?_)
  obtain ⟨fa, F, x, y, rfl, wl, hF, ok, hx, hy, k⟩ := h
  have hq := ok.q
  have hp0 := ok.p
  have hn0 := ok.n
  refine ⟨_, (pss_cons (ps_if (PW.pt (pw_or (pt_cmpR op_eq (pv 1) pe_int (nomark _)) (pw_or1 (pt_cmpR op_eq (pv 2) pe_int (nomark _))))) (pss_one (ps_ret (pe_op op_add (pv 1) (pv 2)))) pss_nil)
    (pss_cons (ps_set (i := 3) sc_plus_of.nd rfl (Or.inl rfl) (pe_zipV (by rfl) T.n_zip (pa_cons (pe_callF (ok_figures_of T) (by decide) hr (by rfl) (pa_cons (pv 0) (pa_cons (pv 1) pa_nil))) (pa_cons (pe_callF (ok_figures_of T) (by decide) hr (by rfl) (pa_cons (pv 0) (pa_cons (pv 2) pa_nil))) pa_nil))))
    (pss_one (ps_ret (pe_callF (ok_by_figures_of T) (by decide) hr (by rfl) (pa_cons (pv 0) (pa_cons (pe_lc (own := [("near", 4), ("far", 5)]) rfl sc_plus_of.nd (pi_zipV (k := 3) rfl (.inl rfl)) (blkOk_by (N := ["field", "one", "other", "pairs", "near", "far"]) (sc := (defScope s_plus_of)) (own := [("near", 4), ("far", 5)]) (by decide +kernel)) (fun _ _ _ _ _ => (pg_tupD (n := 2) rfl (pgs_cons (pg_name (i := 4) sc_plus_of.nd rfl (Or.inl rfl)) (pgs_cons (pg_name (i := 5) sc_plus_of.nd rfl (Or.inl rfl)) pgs_nil)))) (fun _ _ _ _ _ => pts_nil) (fun _ _ _ _ _ => (pe_op op_mod (pe_op op_add (pv 4) (pv 5)) (pe_fldK (K := K) rfl (pv 0) rfl)))) pa_nil))))))), ?_⟩
  obtain ⟨dx, m, a, b, h1, h2, h3, h4⟩ := hF.ex
  walk_at "dn"
  walk_at "zz"
  refine z_dec (fun hx0 => ?_) (fun hx0 => ?_)
  · walk_at "zz"
    refine ⟨H, Same.refl _, wl, Prs.refl _, ?_⟩
    have e : addF F x y = x + y := if_pos (.inl (by omega))
    rw [e] at k
    exact k
  walk_at "zz"
  refine z_dec (fun hy0 => ?_) (fun hy0 => ?_)
  · walk_at "zz"
    refine ⟨H, Same.refl _, wl, Prs.refl _, ?_⟩
    have e : addF F x y = x + y := if_pos (.inr (by omega))
    rw [e] at k
    exact k
  walk_at "zz"
  refine ⟨fa, F, x, rfl, wl, hF, ok, fun p hp => ?_⟩
  walk_at "zz"
  refine ⟨fa, F, y, rfl, by walk_at "wl", hF.mono (by walk_at "same"), ok, fun p2 hp => ?_⟩
  walk_at "f1"
  walk_at "zz"
  refine ⟨p, p2, _, _, rfl, by walk_at "sq", by walk_at "sq", fun i1 i2 TI TO z Z => ?_⟩
  walk_at "zz"
  refine ⟨i1, i2, TI, TO, z, p, p2, _, rfl, rfl, Z, ?_⟩
  refine lcl_all (jw_zip (xs := vN (digs F.p F.n x)) (ys := vN (digs F.p F.n y)) (n := F.n) (by rw [vN_len, vN_len, digs_len, digs_len]; omega)) (fun i => .int ((((digs F.p F.n x).getD i 0 + (digs F.p F.n y).getD i 0) % F.p : Nat))) (by omega) (fun D acc hp => ?_) (fun i _ => rfl) (fun D acc i hp hi R r => ?_) (fun D hp => ?_)
  · walk_at "f2"
    exact ⟨by walk_at "sq", by walk_at "sq", by walk_at "wl"⟩
  · walk_at "f2"
    rw [vN_getD (by rw [digs_len]; exact hi), vN_getD (by rw [digs_len]; exact hi)]
    walk_at "ds"
    walk_at "zz"
    exact r
  · walk_at "f2"
    walk_at "zz"
    rw [zw_range (fun s t => (s + t) % F.p) (digs_len ..) (digs_len ..)]
    refine ⟨fa, D, F, _, rfl, by walk_at "wl", hF.mono (by walk_at "same"), ok, by walk_at "get", ?_⟩
    refine ⟨H, by walk_at "same", wl, Prs.refl _, ?_⟩
    have e : addF F x y = zipDigs F (fun x y => (x + y) % F.p) x y := if_neg (by omega)
    rw [e] at k
    exact k
theorem sc_minus_of : FnScope ["field", "one", "other", "pairs", "near", "far"] ["field", "one", "other"] (defScope s_minus_of) := ⟨rfl, rfl, rfl, by decide +kernel, rfl, by decide +kernel, by decide +kernel⟩
def sp_minus_of (K : PySem.W.Frag) : Sp := fun vs H Q _ => ∃ (f : Addr) (F : Fd) (x y : Nat), vs = [.ref f, .int x, .int y] ∧ Wl H ∧ FieldAt K H f F ∧ FOK F ∧ x < F.q ∧ y < F.q ∧ Q (.int (subF F x y)) H
theorem ok_minus_of (T : Txt K mg) : FnAt P w K mg base 2 "minus_of" ["field", "one", "other"] (sp_minus_of K) := by
  refine FnAt.of T 28 27 (d := d_minus_of) (k := 1) rfl rfl rfl rfl rfl sc_minus_of (fun _ _ _ _ _ _ us hl => match us, hl with | [_, _, _], _ => rfl) (fun vs H Q E h => by walk_at "len") (fun f_ cdv A outer s H vs Q E hr h => ?_)
  obtain ⟨fa, F, x, y, rfl, wl, hF, ok, hx, hy, k⟩ := h
  have hq := ok.q
  have hp0 := ok.p
  have hn0 := ok.n
  refine ⟨_, (pss_cons (ps_if (pt_cmpR op_eq (pv 2) pe_int (nomark _)) (pss_one (ps_ret (pv 1))) pss_nil)
    (pss_cons (ps_set (i := 3) sc_minus_of.nd rfl (Or.inl rfl) (pe_zipV (by rfl) T.n_zip (pa_cons (pe_callF (ok_figures_of T) (by decide) hr (by rfl) (pa_cons (pv 0) (pa_cons (pv 1) pa_nil))) (pa_cons (pe_callF (ok_figures_of T) (by decide) hr (by rfl) (pa_cons (pv 0) (pa_cons (pv 2) pa_nil))) pa_nil))))
    (pss_one (ps_ret (pe_callF (ok_by_figures_of T) (by decide) hr (by rfl) (pa_cons (pv 0) (pa_cons (pe_lc (own := [("near", 4), ("far", 5)]) rfl sc_minus_of.nd (pi_zipV (k := 3) rfl (.inl rfl)) (blkOk_by (N := ["field", "one", "other", "pairs", "near", "far"]) (sc := (defScope s_minus_of)) (own := [("near", 4), ("far", 5)]) (by decide +kernel)) (fun _ _ _ _ _ => (pg_tupD (n := 2) rfl (pgs_cons (pg_name (i := 4) sc_minus_of.nd rfl (Or.inl rfl)) (pgs_cons (pg_name (i := 5) sc_minus_of.nd rfl (Or.inl rfl)) pgs_nil)))) (fun _ _ _ _ _ => pts_nil) (fun _ _ _ _ _ => (pe_op op_mod (pe_op op_sub (pv 4) (pv 5)) (pe_fldK (K := K) rfl (pv 0) rfl)))) pa_nil))))))), ?_⟩
  obtain ⟨dx, m, a, b, h1, h2, h3, h4⟩ := hF.ex
  walk_at "dn"
  walk_at "zz"
  refine z_dec (fun hy0 => ?_) (fun hy0 => ?_)
  · walk_at "zz"
    refine ⟨H, Same.refl _, wl, Prs.refl _, ?_⟩
    have e : subF F x y = x := if_pos (by omega)
    rw [e] at k
    exact k
  walk_at "zz"
  refine ⟨fa, F, x, rfl, wl, hF, ok, fun p hp => ?_⟩
  walk_at "zz"
  refine ⟨fa, F, y, rfl, by walk_at "wl", hF.mono (by walk_at "same"), ok, fun p2 hp => ?_⟩
  walk_at "f1"
  walk_at "zz"
  refine ⟨p, p2, _, _, rfl, by walk_at "sq", by walk_at "sq", fun i1 i2 TI TO z Z => ?_⟩
  walk_at "zz"
  refine ⟨i1, i2, TI, TO, z, p, p2, _, rfl, rfl, Z, ?_⟩
  refine lcl_all (jw_zip (xs := vN (digs F.p F.n x)) (ys := vN (digs F.p F.n y)) (n := F.n) (by rw [vN_len, vN_len, digs_len, digs_len]; omega)) (fun i => .int ((sm F.p ((digs F.p F.n x).getD i 0) ((digs F.p F.n y).getD i 0) : Nat))) (by omega) (fun D acc hp => ?_) (fun i _ => rfl) (fun D acc i hp hi R r => ?_) (fun D hp => ?_)
  · walk_at "f2"
    exact ⟨by walk_at "sq", by walk_at "sq", by walk_at "wl"⟩
  · walk_at "f2"
    rw [vN_getD (by rw [digs_len]; exact hi), vN_getD (by rw [digs_len]; exact hi)]
    walk_at "ds"
    walk_at "zz"
    rw [sm_cast (by omega)] at r
    exact r
  · walk_at "f2"
    walk_at "zz"
    rw [zw_range (fun s t => sm F.p s t) (digs_len ..) (digs_len ..)]
    refine ⟨fa, D, F, _, rfl, by walk_at "wl", hF.mono (by walk_at "same"), ok, by walk_at "get", ?_⟩
    refine ⟨H, by walk_at "same", wl, Prs.refl _, ?_⟩
    have e : subF F x y = zipDigs F (fun x y => sm F.p x y) x y := if_neg (by omega)
    rw [e] at k
    exact k
theorem sc_is_in : FnScope ["field", "value"] ["field", "value"] (defScope s_is_in) := ⟨rfl, rfl, rfl, by decide +kernel, rfl, by decide +kernel, by decide +kernel⟩
def sp_is_in (K : PySem.W.Frag) : Sp := fun vs H Q _ => ∃ (f : Addr) (F : Fd) (i : Int), vs = [.ref f, .int i] ∧ Wl H ∧ FieldAt K H f F ∧ 0 ≤ i ∧ i < F.q ∧ Q (.bl true) H
theorem ok_is_in (T : Txt K mg) : FnAt P w K mg base 3 "is_in" ["field", "value"] (sp_is_in K) := by
  refine FnAt.of T 37 36 (d := d_is_in) (k := 2) rfl rfl rfl rfl rfl sc_is_in (fun _ _ _ _ _ _ us hl => match us, hl with | [_, _], _ => rfl) (fun vs H Q E h => by walk_at "len") (fun f_ cdv A outer s H vs Q E hr h => ?_)
  obtain ⟨fa, F, i, rfl, wl, hF, hi, hi2, k⟩ := h
  refine ⟨_, (pss_one (ps_ret (pe_and (pe_callF (ok_is_count T) (by decide) hr (by rfl) (pa_cons (pv 1) pa_nil)) (pe_one (pe_cmpR op_lt (pv 1) (pe_fldK (K := K) rfl (pv 0) rfl) (nomark _)))))), ?_⟩
  obtain ⟨dx, m, a, b, h1, h2, h3, h4⟩ := hF.ex
  walk_at "dn"
  walk_at "zz"
  refine ⟨i, rfl, wl, ?_⟩
  walk_at "zz"
  rw [decide_eq_true hi]
  walk_at "zz"
  rw [decide_eq_true hi2]
  exact ⟨H, Same.refl _, wl, Prs.refl _, k⟩
theorem sc_less_row : FnScope ["prime", "row", "head", "place", "much", "near", "far"] ["prime", "row", "head", "place"] (defScope s_less_row) := ⟨rfl, rfl, rfl, by decide +kernel, rfl, by decide +kernel, by decide +kernel⟩
def sp_less_row (K : PySem.W.Frag) : Sp := fun vs H Q _ => ∃ (p c : Nat) (r h : Addr) (row head : List Nat), vs = [.int p, .ref r, .ref h, .int c] ∧ Wl H ∧ 0 < p ∧ H r = some (.lst (vN row)) ∧ H h = some (.lst (vN head)) ∧ row.length = head.length ∧ c < row.length ∧ row.length < 100 ∧ row.getD c 0 < 100 ∧
  ∀ D, H D = none → Q (.ref D) (upd H D (.lst (vN (lessRow p row head c))))
theorem ok_less_row (T : Txt K mg) : FnAt P w K mg base 1 "less_row" ["prime", "row", "head", "place"] (sp_less_row K) := by
  refine FnAt.of T 33 32 (d := d_less_row) (k := 0) rfl rfl rfl rfl rfl sc_less_row (fun _ _ _ _ _ _ us hl => match us, hl with | [_, _, _, _], _ => rfl) (fun vs H Q E h => by walk_at "len") (fun f_ cdv A outer s H vs Q E hr h => ?_)
  obtain ⟨p, c, ra, ha, row, head, rfl, wl, hp0, h1, h2, hl, hc, hl2, hc2, k⟩ := h
  refine ⟨_, (pss_cons (ps_set (i := 4) sc_less_row.nd rfl (Or.inr rfl) (pe_ix (ix_listK (K := K) rfl) (pv 1) (pv 3) (fun _ _ => rfl)))
    (pss_one (ps_ret (pe_lc (own := [("near", 5), ("far", 6)]) rfl sc_less_row.nd (pi_D (pi_zip (by rfl) T.n_zip (pa_cons (pv 1) (pa_cons (pv 2) pa_nil)))) (blkOk_by (N := ["prime", "row", "head", "place", "much", "near", "far"]) (sc := (defScope s_less_row)) (own := [("near", 5), ("far", 6)]) (by decide +kernel)) (fun _ _ _ _ _ => (pg_tupD (n := 2) rfl (pgs_cons (pg_name (i := 5) sc_less_row.nd rfl (Or.inl rfl)) (pgs_cons (pg_name (i := 6) sc_less_row.nd rfl (Or.inl rfl)) pgs_nil)))) (fun _ _ _ _ _ => pts_nil) (fun _ _ _ _ _ => (pe_op op_mod (pe_op op_sub (pv 5) (pe_op op_mul (pv 4) (pv 6))) (pv 0))))))), ?_⟩
  walk_at "dn"
  walk_at "zz"
  refine r_ixL (SqL.of h1) (atN hc) ?_
  walk_at "zz"
  refine e_zip (xs := vN row) (ys := vN head) (by walk_at "sq") (by walk_at "sq") ?_
  refine lcl_all (jw_zip (xs := vN row) (ys := vN head) (n := row.length) (by simp only [vN_len]; omega)) (fun i => .int ((sm p (row.getD i 0) (row.getD c 0 * head.getD i 0) : Nat))) (by omega) (fun D acc hp => ?_) (fun i _ => rfl) (fun D acc i hp hi R r => ?_) (fun D hp => ?_)
  · exact ⟨by walk_at "sq", by walk_at "sq", by walk_at "wl"⟩
  · rw [vN_getD hi, vN_getD (by omega)]
    walk_at "ds"
    walk_at "zz"
    rw [sm_cast hp0] at r
    exact r
  · rw [zw_range (fun s t => sm p s (row.getD c 0 * t)) rfl hl.symm]
    exact ⟨_, Same.refl _, by walk_at "wl", Prs.same (by walk_at "same"), k D hp⟩
end
end TP
/-! part TPf -/
/-! loops by tests, cuts, equal lists, lists of lists -/
namespace TP
open PySem PySem.Spec PyProof.Rows L2
section
variable {tb : TS} {st : L2.St} {H : Hp}
/-- a while whose test is told and leaves the heap -/
theorem z_whileB {nx : L2.St → Hp → Prop} {rt bk ct} {c : TT} {X : Type} (Pv : X → L2.St → Hp → Prop) (mu : X → Nat) (x0 : X) (h0 : Pv x0 st H)
    (hs : ∀ x st' A, Pv x st' A → ∃ b : Bool, (∀ R : Bool → Hp → Prop, R b A → c st' A R) ∧ (b = true → tb ⟨fun st2 A2 => ∃ y, mu y < mu x ∧ Pv y st2 A2, rt, nx, fun st2 A2 => ∃ y, mu y < mu x ∧ Pv y st2 A2⟩ st' A) ∧ (b = false → nx st' A)) : tWhile c tb ⟨nx, rt, bk, ct⟩ st H := by
  refine ⟨fun m st' A => ∃ x, mu x = m ∧ Pv x st' A, ⟨_, x0, rfl, h0⟩, ?_⟩
  rintro m st' A ⟨x, rfl, p⟩
  obtain ⟨b, r, t, f⟩ := hs x st' A p
  refine r _ ?_
  cases b with
  | true => exact ⟨_, fun st2 A2 h => by
      obtain ⟨y, l, p2⟩ := h
      exact ⟨mu y, l, y, rfl, p2⟩, t rfl⟩
  | false => exact f rfl
end
theorem Prs.drop {A B : Hp} {p : Addr} {o : HO} (h : Prs A B) (n : A p = none) (f : ¬ isT o) : Prs (upd A p o) B := fun a v e t => by
  by_cases ha : a = p
  · rw [ha, upd_same] at e
    cases e
    exact (f t).elim
  · rw [upd_ne ha] at e
    exact h a v e t
theorem z_tf {t : TT} {st : L2.St} {H : Hp} {Q : Bool → Hp → Prop} (q : t st H fun v H' => Fg H H' (Q v)) : tTF t st H Q := q
theorem z_gt2 {K : PySem.W.Frag} {p : Addr} {x y : V} {i j : Nat} {st : L2.St} {H : Hp} {Q : L2.St → Hp → Prop} (h : SqT K H p [x, y]) (q : Q ((st.set i (some x)).set j (some y)) H) : gTup K 2 (gCons (gName i) (gCons (gName j) gNil)) (.ref p) st H Q :=
  ⟨p, [x, y], rfl, h, rfl, x, [y], rfl, y, [], rfl, rfl, q⟩
theorem z_sfld {K : PySem.W.Frag} {ta tv : TE} {f : Str} {st : L2.St} {H : Hp} {nx : L2.St → Hp → Prop} {rt bk ct} (q : tv st H fun y H1 => ta st H1 fun x H2 => ∃ a C dx fs, x = .ref a ∧ H2 a = some (.ins C dx fs) ∧ Cls K C ∧ NoAttr K C f ∧ fs.length < 1000 ∧ nx st (upd H2 a (.ins C dx (putF f y fs)))) : sFld K ta tv f ⟨nx, rt, bk, ct⟩ st H := q
theorem Wl.ins {A : Hp} {y C dx : Addr} {fs fs' : List (Str × V)} (w : Wl A) (h : A y = some (.ins C dx fs)) : Wl (upd A y (.ins C dx fs')) := fun a v e => by
  have hn : ∀ b, A y ≠ some (.own b) := fun b z => by
    rw [h] at z
    cases z
  by_cases ha : a = y
  · rw [ha, upd_same] at e
    cases e
    have z : A dx = some (.own y) := w y _ h
    rw [ha]
    show (upd A y _) dx = some (.own y)
    rw [upd_ne (fun z2 => by rw [z2, h] at z; cases z)]
    exact z
  · rw [upd_ne ha] at e
    exact okO_upd hn (w a v e)
/-- a new instance being made -/
structure InF (H0 H A : Hp) (C y dx : Addr) (fs : List (Str × V)) : Prop where
  s : Same H0 A
  w : Wl A
  i : A y = some (.ins C dx fs)
  p : Prs H A
theorem InF.new {H0 H A : Hp} {C y dx p : Addr} {fs : List (Str × V)} {xs : List V} (h : InF H0 H A C y dx fs) (n : A p = none) : InF H0 H (upd A p (.lst xs)) C y dx fs :=
  ⟨Same.new h.s (h.s.free n), Wl.put h.w (NoOwn.none n) trivial, upd_at (ne_of_none h.i n) h.i, Prs.trans h.p (Prs.same (Same.new (Same.refl _) n))⟩
theorem InF.put {H0 H A : Hp} {C y dx : Addr} {fs fs' : List (Str × V)} (h : InF H0 H A C y dx fs) (n : H0 y = none) : InF H0 H (upd A y (.ins C dx fs')) C y dx fs' :=
  ⟨Same.new h.s n, Wl.ins h.w h.i, upd_same, Prs.trans h.p (Prs.mut h.i (fun z => z))⟩
theorem InF.first {H0 : Hp} {C y dx : Addr} (w : Wl H0) (n : H0 y = none) (m : H0 dx = none) (e : dx ≠ y) : InF H0 (upd (upd H0 dx (.own y)) y (.ins C dx [])) (upd (upd H0 dx (.own y)) y (.ins C dx [])) C y dx [] := by
  refine ⟨Same.new (Same.new (Same.refl _) m) n, fun a v h => ?_, upd_same, Prs.refl _⟩
  have hn : ∀ b, (upd H0 dx (.own y)) y ≠ some (.own b) := fun b z => by
    rw [upd_ne (Ne.symm e), n] at z
    cases z
  have hm : ∀ b, H0 dx ≠ some (.own b) := fun b z => by
    rw [m] at z
    cases z
  by_cases ha : a = y
  · rw [ha, upd_same] at h
    cases h
    rw [ha]
    show (upd _ y _) dx = some (.own y)
    rw [upd_ne e]
    exact upd_same
  · rw [upd_ne ha] at h
    by_cases hd : a = dx
    · rw [hd, upd_same] at h
      cases h
      trivial
    · rw [upd_ne hd] at h
      exact okO_upd hn (okO_upd hm (w a v h))
theorem e_sfld {K : PySem.W.Frag} {f : Str} {y C dx : Addr} {fs : List (Str × V)} {H : Hp} {R : Addr → Addr → Addr → List (Str × V) → Prop} (h : H y = some (.ins C dx fs)) (c : Cls K C) (n : NoAttr K C f) (l : fs.length < 1000) (q : R y C dx fs) :
    ∃ a C dx fs, V.ref y = .ref a ∧ H a = some (.ins C dx fs) ∧ Cls K C ∧ NoAttr K C f ∧ fs.length < 1000 ∧ R a C dx fs := ⟨y, C, dx, fs, rfl, h, c, n, l, q⟩
theorem z_nT {A B : Prop} (h : B) : if (!true) = true then A else B := h
theorem z_nF {A B : Prop} (h : A) : if (!false) = true then A else B := h
theorem z_chain {r r2 : R2} {ta tb tc : TE} {st : L2.St} {H : Hp} {Q : VK} (q : ta st H fun x H1 => tb st H1 fun y H2 => r x y H2 fun z H3 => ∃ k, z = .bl k ∧ (if k = true then tc st H3 fun v H4 => r2 y v H4 Q else Q (.bl false) H3)) : tChain r r2 ta tb tc st H Q := q
/-! ### cuts -/
theorem cut_to (ns : List Nat) (m : Nat) (h : m ≤ ns.length) : cutV (vN ns) none (some (m : Nat)) = vN (ns.take m) := by
  unfold cutV
  rw [HT.sIx_none, HT.sIx_nat, vN_len, Nat.min_eq_left h, List.drop_zero, Nat.sub_zero, vN_take]
theorem cut_from (ns : List Nat) (m : Nat) (h : m ≤ ns.length) : cutV (vN ns) (some (m : Nat)) none = vN (ns.drop m) := by
  unfold cutV
  rw [HT.sIx_nat, HT.sIx_none, vN_len, Nat.min_eq_left h, vN_drop, vN_take, List.take_of_length_le (by rw [List.length_drop]; exact Nat.le_refl _)]
/-! ### equal lists -/
def dN (ns : List Nat) : PyData := .list ((ns.map fun (n : Nat) => (n : Int)).map PyData.int)
theorem dpAll_vN {K : PySem.W.Frag} {H : Hp} : ∀ ns : List Nat, DpAll K H (vN ns) ((ns.map fun (n : Nat) => (n : Int)).map PyData.int)
  | [] => .nil
  | n :: ns => .cons (.int n) (dpAll_vN ns)
theorem dp_vN {K : PySem.W.Frag} {H : Hp} {a : Addr} {ns : List Nat} (h : SqL K H a (vN ns)) : Dp K H (.ref a) (dN ns) := .lst h (dpAll_vN ns)
theorem sh_dN (ns : List Nat) : SeqAt.shaped (dN ns) = true := PySem.W.ke_shaped_ints _
theorem eqv_dN (ns ms : List Nat) : PyData.eqv (dN ns) (dN ms) = decide (ns = ms) := by
  show PyData.eqv (.list _) (.list _) = _
  rw [PyData.eqv, PySem.W.ked_eqvAll]
  by_cases h : ns = ms
  · rw [h, decide_eq_true rfl, decide_eq_true rfl]
  · have h2 : ¬ (ns.map fun (n : Nat) => (n : Int)) = (ms.map fun (n : Nat) => (n : Int)) := fun e => h ((List.map_inj_right (f := fun (n : Nat) => (n : Int)) (fun x y e => Int.ofNat.inj e)).mp e)
    rw [decide_eq_false h, decide_eq_false h2]
section
variable {K : PySem.W.Frag} {H : Hp} {Q : VK} {a b : Addr} {ns ms : List Nat}
theorem r_eqL (h1 : SqL K H a (vN ns)) (h2 : SqL K H b (vN ms)) (q : Q (.bl (decide (ns = ms))) H) : rEqD K (.ref a) (.ref b) H Q :=
  ⟨dN ns, dN ms, dp_vN h1, dp_vN h2, sh_dN ns, sh_dN ms, by rw [eqv_dN]; exact q⟩
theorem r_neL (h1 : SqL K H a (vN ns)) (h2 : SqL K H b (vN ms)) (q : Q (.bl (!decide (ns = ms))) H) : rNeD K (.ref a) (.ref b) H Q :=
  ⟨dN ns, dN ms, dp_vN h1, dp_vN h2, sh_dN ns, sh_dN ms, by rw [eqv_dN]; exact q⟩
theorem r_neNL (h2 : SqL K H b (vN ms)) (q : Q (.bl true) H) : rNeD K .non (.ref b) H Q :=
  ⟨.none, dN ms, .non, dp_vN h2, by decide +kernel, sh_dN ms, by
    have e : PyData.eqv PyData.none (dN ms) = false := by
      unfold dN
      rw [PyData.eqv]
    rw [e]
    exact q⟩
theorem r_neLN (h2 : SqL K H b (vN ms)) (q : Q (.bl true) H) : rNeD K (.ref b) .non H Q :=
  ⟨dN ms, .none, dp_vN h2, .non, sh_dN ms, by decide +kernel, by
    have e : PyData.eqv (dN ms) PyData.none = false := by
      unfold dN
      rw [PyData.eqv]
    rw [e]
    exact q⟩
theorem r_neNN (q : Q (.bl false) H) : rNeD K .non .non H Q :=
  ⟨.none, .none, .non, .non, by decide +kernel, by decide +kernel, by
    have e : PyData.eqv PyData.none PyData.none = true := by rw [PyData.eqv]
    rw [e]
    exact q⟩
end
/-! ### lists of lists -/
/-- the values vs are lists with these numbers -/
def Rows (H : Hp) : List V → List (List Nat) → Prop
  | [], [] => True
  | v :: vs, xs :: xss => (∃ a, v = .ref a ∧ H a = some (.lst (vN xs))) ∧ Rows H vs xss
  | _, _ => False
theorem Rows.mono {A B : Hp} (e : Same A B) : ∀ {vs : List V} {xss : List (List Nat)}, Rows A vs xss → Rows B vs xss
  | [], [], _ => True.intro
  | _ :: _, _ :: _, ⟨⟨a, h1, h2⟩, h3⟩ => ⟨⟨a, h1, e _ _ h2⟩, Rows.mono e h3⟩
theorem Rows.len {A : Hp} : ∀ {vs : List V} {xss : List (List Nat)}, Rows A vs xss → vs.length = xss.length
  | [], [], _ => rfl
  | _ :: _, _ :: _, ⟨_, h3⟩ => by rw [List.length_cons, List.length_cons, Rows.len h3]
theorem Rows.snoc {A : Hp} {a : Addr} {xs : List Nat} (h : A a = some (.lst (vN xs))) : ∀ {vs : List V} {xss : List (List Nat)}, Rows A vs xss → Rows A (vs ++ [.ref a]) (xss ++ [xs])
  | [], [], _ => ⟨⟨a, rfl, h⟩, True.intro⟩
  | _ :: _, _ :: _, ⟨h1, h3⟩ => ⟨h1, Rows.snoc h h3⟩
theorem Rows.app {A : Hp} : ∀ {vs ws : List V} {xss yss : List (List Nat)}, Rows A vs xss → Rows A ws yss → Rows A (vs ++ ws) (xss ++ yss)
  | [], _, [], _, _, h => h
  | _ :: _, _, _ :: _, _, ⟨h1, h3⟩, h => ⟨h1, Rows.app h3 h⟩
theorem Rows.at {A : Hp} : ∀ {vs : List V} {xss : List (List Nat)}, Rows A vs xss → ∀ i, i < xss.length → ∃ a, vs[i]? = some (.ref a) ∧ A a = some (.lst (vN (xss.getD i [])))
  | [], [], _, _, h => absurd h (Nat.not_lt_zero _)
  | _ :: _, _ :: _, ⟨⟨a, h1, h2⟩, h3⟩, 0, _ => ⟨a, by rw [h1]; rfl, h2⟩
  | _ :: _, _ :: _, ⟨_, h3⟩, i + 1, hi => by
    obtain ⟨a, e1, e2⟩ := Rows.at h3 i (by rw [List.length_cons] at hi; omega)
    exact ⟨a, e1, e2⟩
theorem Rows.atD {A : Hp} {vs : List V} {xss : List (List Nat)} (h : Rows A vs xss) {i : Nat} (hi : i < xss.length) : ∃ a, vs.getD i .non = .ref a ∧ A a = some (.lst (vN (xss.getD i []))) := by
  obtain ⟨a, e1, e2⟩ := h.at i hi
  exact ⟨a, by rw [List.getD_eq_getElem?_getD, e1]; rfl, e2⟩
theorem Rows.ref {A : Hp} {l : Addr} {o : HO} {a0 : Addr} {ws : List V} (h : A l = some (.lst (.ref a0 :: ws))) : ∀ {vs : List V} {xss : List (List Nat)}, Rows A vs xss → Rows (upd A l o) vs xss
  | [], [], _ => True.intro
  | _ :: _, xs :: _, ⟨⟨a, h1, h2⟩, h3⟩ => ⟨⟨a, h1, by
    have n : a ≠ l := fun e => by
      rw [e, h] at h2
      have z := HO.lst.inj (Option.some.inj h2)
      cases xs with
      | nil => cases z
      | cons x xs => cases z
    rw [upd_ne n]
    exact h2⟩, Rows.ref h h3⟩
/-- the list that holds the rows may change -/
theorem Rows.put {A : Hp} {l : Addr} {o : HO} {vs : List V} {xss : List (List Nat)} (h : Rows A vs xss) (hl : A l = some (.lst vs)) : Rows (upd A l o) vs xss := by
  cases vs with
  | nil =>
    cases xss with
    | nil => exact True.intro
    | cons x xs => exact h.elim
  | cons v vs =>
    cases xss with
    | nil => exact h.elim
    | cons x xs =>
      obtain ⟨⟨a, rfl, h2⟩, h3⟩ := id h
      exact Rows.ref hl h
theorem Rows.last {A : Hp} {vs : List V} {xss : List (List Nat)} (h : Rows A vs xss) (n : 0 < xss.length) : ∃ a, vs.getLast? = some (.ref a) ∧ A a = some (.lst (vN (xss.getD (xss.length - 1) []))) := by
  obtain ⟨a, e1, e2⟩ := h.at (xss.length - 1) (by omega)
  exact ⟨a, by rw [List.getLast?_eq_getElem?, h.len, e1], e2⟩
/-- a list of lists -/
def LL (H : Hp) (a : Addr) (xss : List (List Nat)) : Prop := ∃ vs, H a = some (.lst vs) ∧ Rows H vs xss
theorem LL.mono {A B : Hp} {a : Addr} {xss : List (List Nat)} (e : Same A B) (h : LL A a xss) : LL B a xss := by
  obtain ⟨vs, h1, h2⟩ := h
  exact ⟨vs, e _ _ h1, h2.mono e⟩
theorem upto_getD {n : Nat} {p : Nat → Bool} {v : Nat → V} {i : Nat} (hi : i < (upto n p v).length) : ∃ j, j < n ∧ p j = true ∧ (upto n p v).getD i .non = v j := by
  rw [List.getD_eq_getElem?_getD, List.getElem?_eq_getElem hi]
  have hm : (upto n p v)[i] ∈ upto n p v := List.getElem_mem hi
  unfold upto at hm
  obtain ⟨j, hj, e⟩ := List.mem_map.mp hm
  obtain ⟨h1, h2⟩ := List.mem_filter.mp hj
  exact ⟨j, List.mem_range.mp h1, h2, e.symm⟩
end TP
/-! part Q5 -/
set_option maxHeartbeats 1000000
namespace TP
open PySem PySem.Spec PyProof.Rows L2
set_option hygiene false in
local macro_rules | `(tactic| walk_at "ne") => `(tactic| first | assumption | exact Ne.symm (by assumption) | exact ne_of_none (H := H) (by assumption) (by assumption) | exact (ne_of_none (H := H) (by assumption) (by assumption)).symm | exact ne_of_none (H := A) (by assumption) (by assumption) | exact (ne_of_none (H := A) (by assumption) (by assumption)).symm)
local macro_rules | `(tactic| walk_at "get") => `(tactic| first | assumption | exact upd_same | (refine upd_at ?_ ?_; (focus walk_at "ne"); (walk_at "get")))
local macro_rules | `(tactic| walk_at "nn") => `(tactic| first | assumption | (refine none_upd ?_ ?_; (focus walk_at "ne"); (walk_at "nn")))
local macro_rules | `(tactic| walk_at "same") => `(tactic| first | exact Same.refl _ | assumption | (refine Same.both ?_; walk_at "same") | (refine TP.Same.new ?_ ?_; (focus walk_at "same"); (walk_at "nn")) | (refine Same.put ?_ ?_; (focus walk_at "same"); (walk_at "get")))
local macro_rules | `(tactic| walk_at "noown") => `(tactic| first | exact NoOwn.none (by assumption) | (refine NoOwn.upd ?_ True.intro; walk_at "noown"))
local macro_rules | `(tactic| walk_at "wl") => `(tactic| first | assumption | (refine Wl.put ?_ ?_ True.intro; (focus walk_at "wl"); (walk_at "noown")))
local macro_rules | `(tactic| walk_at "sq") => `(tactic| first | assumption | exact SqL.of (by walk_at "get"))
set_option hygiene false in
local macro_rules | `(tactic| walk_at "f1") => `(tactic| obtain ⟨_, hp⟩ := upd_none hp)
set_option hygiene false in
local macro_rules | `(tactic| walk_at "f2") => `(tactic| (obtain ⟨_, hp⟩ := upd_none hp; obtain ⟨_, hp⟩ := upd_none hp))
set_option hygiene false in
local macro_rules | `(tactic| walk_at "f3") => `(tactic| (obtain ⟨_, hp⟩ := upd_none hp; obtain ⟨_, hp⟩ := upd_none hp; obtain ⟨_, hp⟩ := upd_none hp))
set_option hygiene false in
local macro_rules | `(tactic| walk_at "f4") => `(tactic| (obtain ⟨_, hp⟩ := upd_none hp; obtain ⟨_, hp⟩ := upd_none hp; obtain ⟨_, hp⟩ := upd_none hp; obtain ⟨_, hp⟩ := upd_none hp))
set_option hygiene false in
local macro_rules | `(tactic| walk_at "fa") => `(tactic| first
  | ((with_reducible refine' z_own_prime T ?hv ?hh ?_); (case hv => exact rfl); (case hh => walk_at "get"))
  | ((with_reducible refine' z_own_turns T ?hv ?hh ?_); (case hv => exact rfl); (case hh => walk_at "get"))
  | ((with_reducible refine' z_own_size T ?hv ?hh ?_); (case hv => exact rfl); (case hh => walk_at "get"))
  | ((with_reducible refine' z_own_powers T ?hv ?hh ?_); (case hv => exact rfl); (case hh => walk_at "get"))
  | ((with_reducible refine' z_own_logs T ?hv ?hh ?_); (case hv => exact rfl); (case hh => walk_at "get"))
  | ((with_reducible refine' z_own_field T ?hv ?hh ?_); (case hv => exact rfl); (case hh => walk_at "get"))
  | ((with_reducible refine' z_own_points T ?hv ?hh ?_); (case hv => exact rfl); (case hh => walk_at "get"))
  | ((with_reducible refine' z_own_many T ?hv ?hh ?_); (case hv => exact rfl); (case hh => walk_at "get")))
local macro_rules | `(tactic| walk_at "z") => `(tactic| first
  | with_reducible refine z_seq ?_
  | with_reducible refine z_asg ?_
  | with_reducible refine z_name ?_
  | ((with_reducible refine' z_var ?hv ?_); (case hv => exact rfl))
  | with_reducible refine z_c ?_
  | with_reducible refine z_op ?_
  | with_reducible refine r_I0 ?_
  | ((with_reducible refine r_I ?hc ?_); (case hc => walk_at "ar"))
  | ((with_reducible refine' r_app ?ha ?hz ?_); (case ha => walk_at "get"); (case hz => walk_at "sz"))
  | ((with_reducible refine' z_tyl ?ha ?_); (case ha => walk_at "get"))
  | with_reducible refine z_cons ?_
  | ((with_reducible refine' r_len ?ha ?_); (case ha => walk_at "sq"))
  | with_reducible refine z_nil ?_
  | walk_at "fa"
  | walk_at "fd"
  | with_reducible refine z_test ?_
  | with_reducible refine z_bl ?_
  | with_reducible refine z_tB ?_
  | with_reducible refine r_eq ?_
  | with_reducible refine r_ne ?_
  | with_reducible refine z_ifS ?_
  | with_reducible refine z_ret ?_
  | with_reducible refine z_drop ?_
  | with_reducible refine z_cb ?_
  | with_reducible refine z_call ?_
  | with_reducible refine z_bm ?_
  | with_reducible refine z_bm0 ?_
  | with_reducible refine z_lst ?_
  | with_reducible refine z_tup ?_
  | with_reducible refine z_un ?_
  | with_reducible refine r_U ?_
  | with_reducible refine z_par ?_
  | with_reducible refine z_par3 ?_
  | with_reducible refine z_two ?_
  | with_reducible refine z_three ?_
  | with_reducible refine z_sub ?_
  | with_reducible refine z_for ?_
  | with_reducible refine z_lc ?_
  | with_reducible refine z_ifE ?_
  | with_reducible refine z_and ?_
  | with_reducible refine z_or ?_
  | with_reducible refine z_not ?_
  | with_reducible refine z_yes ?_
  | with_reducible refine z_andV ?_
  | with_reducible refine z_orV ?_
  | with_reducible refine z_notV ?_
  | with_reducible refine z_sl ?_
  | with_reducible refine z_noP ?_
  | with_reducible refine z_part ?_
  | with_reducible refine z_int ?_
  | with_reducible refine z_revL ?_
  | with_reducible refine z_next ?_
  | with_reducible refine z_sf ?_
  | with_reducible refine z_f ?_
  | with_reducible refine z_tf ?_
  | with_reducible refine z_disp ?_
  | with_reducible refine z_pc ?_
  | with_reducible refine z_pn ?_
  | with_reducible refine z_i1 ?_
  | with_reducible refine i_rng3 ?_
  | with_reducible refine z_chain ?_
  | with_reducible refine z_nT ?_
  | with_reducible refine z_nF ?_
  | with_reducible refine z_sfld ?_
  | with_reducible refine i_rng1 ?_
  | with_reducible refine i_rng2 ?_
  | with_reducible refine i_list ?_
  | with_reducible refine i_zip ?_
  | with_reducible refine i_enum ?_
  | with_reducible refine z_tt ?_
  | with_reducible refine z_ff ?_)
local macro_rules | `(tactic| walk_at "zz") => `(tactic| repeat walk_at "z")
set_option hygiene false in
local macro_rules | `(tactic| walk_at "len") => `(tactic| first | (obtain ⟨rfl, _⟩ := h; rfl) | (obtain ⟨_, rfl, _⟩ := h; rfl) | (obtain ⟨_, _, rfl, _⟩ := h; rfl) | (obtain ⟨_, _, _, rfl, _⟩ := h; rfl) | (obtain ⟨_, _, _, _, rfl, _⟩ := h; rfl) | (obtain ⟨_, _, _, _, _, rfl, _⟩ := h; rfl) | (obtain ⟨_, _, _, _, _, _, rfl, _⟩ := h; rfl) | (obtain ⟨_, _, _, _, _, _, _, rfl, _⟩ := h; rfl) | (obtain ⟨_, _, _, _, _, _, _, _, rfl, _⟩ := h; rfl) | (obtain ⟨_, _, _, _, _, _, _, _, _, rfl, _⟩ := h; rfl) | (obtain ⟨_, _, _, _, _, _, _, _, _, _, rfl, _⟩ := h; rfl) | (obtain ⟨_, _, _, _, _, _, _, _, _, _, _, rfl, _⟩ := h; rfl) | (obtain ⟨_, _, _, _, _, _, _, _, _, _, _, _, rfl, _⟩ := h; rfl) | (obtain ⟨_, _, _, _, _, _, _, _, _, _, _, _, _, rfl, _⟩ := h; rfl) | (obtain ⟨_, _, _, _, _, _, _, _, _, _, _, _, _, _, rfl, _⟩ := h; rfl) | (obtain ⟨_, _, _, _, _, _, _, _, _, _, _, _, _, _, _, rfl, _⟩ := h; rfl) | (obtain ⟨_, _, _, _, _, _, _, _, _, _, _, _, _, _, _, _, rfl, _⟩ := h; rfl))
local macro_rules | `(tactic| walk_at "small") => `(tactic| first | exact Nat.zero_le _ | exact (by decide : 1 ≤ sizeLine) | exact (by decide : 2 ≤ sizeLine) | exact (by decide : 3 ≤ sizeLine) | exact (by decide : 4 ≤ sizeLine) | exact (by decide : 5 ≤ sizeLine) | exact (by decide : 6 ≤ sizeLine))
local macro_rules | `(tactic| walk_at "dn") => `(tactic| dsimp only [cxOf, L2.start, List.map, List.length, List.replicate, List.cons_append, List.nil_append, Nat.reduceAdd, Nat.reduceSub, Nat.zero_add])
local macro_rules | `(tactic| walk_at "ar") => `(tactic| first | assumption | (show _ < _; omega) | (show _ < _ ∧ _ < _; omega) | (left; show _ < _ ∧ _ < _; constructor <;> omega) | (right; show _ < _ ∧ _ < _; constructor <;> omega))
local macro_rules | `(tactic| walk_at "sz") => `(tactic| first | omega | (simp only [vN_len, List.length_append, List.length_cons, List.length_nil, List.length_map, List.length_range, List.length_replicate, List.length_set, List.length_take, List.length_drop, List.length_reverse]; omega))
local macro_rules | `(tactic| walk_at "ds") => `(tactic| try dsimp only [List.set])
set_option hygiene false in
local macro_rules | `(tactic| walk_at "endL") => `(tactic| (refine' ⟨_, ?e1, ?e2, ?e3, k p hp⟩; (case e1 => walk_at "same"); (case e2 => walk_at "wl"); (case e3 => exact Prs.same (by walk_at "same"))))
set_option hygiene false in
local macro_rules | `(tactic| walk_at "endS") => `(tactic| exact ⟨H, by walk_at "same", wl, Prs.refl _, k⟩)
set_option hygiene false in
local macro_rules | `(tactic| walk_at "endQ") => `(tactic| (refine' ⟨_, ?e1, ?e2, ?e3, k q hp⟩; (case e1 => walk_at "same"); (case e2 => walk_at "wl"); (case e3 => exact Prs.same (by walk_at "same"))))
local macro_rules | `(tactic| walk_at "f5") => `(tactic| (walk_at "f1"; walk_at "f4"))
local macro_rules | `(tactic| walk_at "f6") => `(tactic| (walk_at "f2"; walk_at "f4"))
local macro_rules | `(tactic| walk_at "f7") => `(tactic| (walk_at "f3"; walk_at "f4"))
set_option hygiene false in
local macro_rules | `(tactic| walk_at "fd") => `(tactic| first
  | ((with_reducible refine' z_w_prime ?hv ?hh ?_); (case hv => exact rfl); (case hh => assumption))
  | ((with_reducible refine' z_w_turns ?hv ?hh ?_); (case hv => exact rfl); (case hh => assumption))
  | ((with_reducible refine' z_w_size ?hv ?hh ?_); (case hv => exact rfl); (case hh => assumption))
  | ((with_reducible refine' z_w_powers ?hv ?hh ?_); (case hv => exact rfl); (case hh => assumption))
  | ((with_reducible refine' z_w_places ?hv ?hh ?_); (case hv => exact rfl); (case hh => assumption))
  | ((with_reducible refine' z_t_prime ?hv ?hh ?_); (case hv => exact rfl); (case hh => assumption))
  | ((with_reducible refine' z_t_modulus ?hv ?hh ?_); (case hv => exact rfl); (case hh => assumption))
  | ((with_reducible refine' z_t_world ?hv ?hh ?_); (case hv => exact rfl); (case hh => assumption))
  | ((with_reducible refine' z_t_points ?hv ?hh ?_); (case hv => exact rfl); (case hh => assumption))
  | ((with_reducible refine' z_t_many ?hv ?hh ?_); (case hv => exact rfl); (case hh => assumption))
  | ((with_reducible refine' z_t_reach ?hv ?hh ?_); (case hv => exact rfl); (case hh => assumption)))
local macro_rules | `(tactic| walk_at "sz") => `(tactic| (simp only [vN_len, digs_len, List.length_reverse]; omega))
section
variable {P : Program} {w : World} {K : PySem.W.Frag} {mg : Str → Option Value} {base : Heap}
theorem sc_without_end : FnScope ["numbers", "many"] ["numbers"] (defScope s_without_end) := ⟨rfl, rfl, rfl, by decide +kernel, rfl, by decide +kernel, by decide +kernel⟩
def sp_without_end (K : PySem.W.Frag) : Sp := fun vs H Q _ => ∃ (a : Addr) (ns : List Nat), vs = [.ref a] ∧ Wl H ∧ H a = some (.lst (vN ns)) ∧ ns.length ≤ 1000 ∧ ∀ p, H p = none → Q (.ref p) (upd H p (.lst (vN (trim ns))))
theorem sub1 {m : Nat} (h : 0 < m) : ((m : Nat) : Int) - 1 = ((m - 1 : Nat) : Int) := by omega
theorem ok_without_end (T : Txt K mg) : FnAt P w K mg base 1 "without_end" ["numbers"] (sp_without_end K) := by
  refine FnAt.of T 5 5 (d := d_without_end) (k := 0) rfl rfl rfl rfl rfl sc_without_end (fun _ _ _ _ _ _ us hl => match us, hl with | [_], _ => rfl) (fun vs H Q E h => by walk_at "len") (fun f_ cdv A outer s H vs Q E hr h => ?_)
  obtain ⟨a, ns, rfl, wl, ha, hl, k⟩ := h
  refine ⟨_, (pss_cons (ps_set (i := 1) sc_without_end.nd rfl (Or.inl rfl) (pe_callB (call_lenK (K := K) rfl) (by rfl) T.n_len (by decide +kernel) (pa_cons (pv 0) pa_nil)))
    (pss_cons (ps_while PassesOwn.never (PW.pt (pw_and (pt_cmpR op_gt (pv 1) pe_int (nomark _)) (pw_and1 (pt_cmpR op_eq (pe_ix (ix_listK (K := K) rfl) (pv 0) (pe_op op_sub (pv 1) pe_int) (fun _ _ => rfl)) pe_int (nomark _)))))
      (pss_one (ps_set (i := 1) sc_without_end.nd rfl (Or.inl rfl) (pe_op op_sub (pv 1) pe_int))))
    (pss_one (ps_ret (pe_callTy (call_listK (K := K) rfl) (by rfl) T.n_list (by decide +kernel) (pa_cons (pe_slice (sl_listK (K := K) rfl) (pv 0) po_none (po_some (pv 1))) pa_nil)))))), ?_⟩
  walk_at "dn"
  walk_at "zz"
  rw [vN_len]
  refine z_whileB (fun m st A => st = [some (.ref a), some (.int (m : Nat))] ∧ H = A ∧ m ≤ ns.length ∧ endOf ns m = endOf ns ns.length) (fun m => m) ns.length ⟨rfl, rfl, Nat.le_refl _, rfl⟩ ?_
  rintro m _ _ ⟨rfl, rfl, hm, he⟩
  by_cases h0 : m = 0
  · subst h0
    refine ⟨false, fun R r => ?_, nofun, fun _ => ?_⟩
    · walk_at "zz"
      exact r
    · walk_at "zz"
      refine r_slL (SqL.of ha) fun q hp => ?_
      walk_at "zz"
      refine r_list (by walk_at "sq") fun p hp => ?_
      walk_at "f1"
      rw [cut_to ns 0 hm]
      have e : trim ns = ns.take 0 := by unfold trim; rw [← he]; rfl
      rw [← e]
      walk_at "endL"
  · by_cases hx : ns.getD (m - 1) 0 = 0
    · refine ⟨true, fun R r => ?_, fun _ => ?_, nofun⟩
      · walk_at "zz"
        refine z_dec (fun _ => ?_) (fun h => by omega)
        walk_at "zz"
        rw [sub1 (by omega)]
        refine r_ixL (SqL.of ha) (atN (by omega)) ?_
        walk_at "zz"
        rw [hx]
        exact r
      · walk_at "zz"
        rw [sub1 (by omega)]
        refine ⟨m - 1, by omega, rfl, rfl, by omega, ?_⟩
        rw [← he]
        obtain ⟨j, rfl⟩ : ∃ j, m = j + 1 := ⟨m - 1, by omega⟩
        exact (if_pos hx).symm
    · refine ⟨false, fun R r => ?_, nofun, fun _ => ?_⟩
      · walk_at "zz"
        refine z_dec (fun _ => ?_) (fun h => by omega)
        walk_at "zz"
        rw [sub1 (by omega)]
        refine r_ixL (SqL.of ha) (atN (by omega)) ?_
        walk_at "zz"
        rw [decide_eq_false (by omega)]
        exact r
      · walk_at "zz"
        refine r_slL (SqL.of ha) fun q hp => ?_
        walk_at "zz"
        refine r_list (by walk_at "sq") fun p hp => ?_
        walk_at "f1"
        rw [cut_to ns m hm]
        have e : trim ns = ns.take m := by
          unfold trim
          rw [← he]
          obtain ⟨j, rfl⟩ : ∃ j, m = j + 1 := ⟨m - 1, by omega⟩
          exact congrArg (fun z => ns.take z) (if_neg hx)
        rw [← e]
        walk_at "endL"
theorem sc_undone_by : FnScope ["prime", "number", "one"] ["prime", "number"] (defScope s_undone_by) := ⟨rfl, rfl, rfl, by decide +kernel, rfl, by decide +kernel, by decide +kernel⟩
def sp_undone_by (K : PySem.W.Frag) : Sp := fun vs H Q _ => ∃ (p x : Nat), vs = [.int p, .int x] ∧ Wl H ∧ 2 ≤ p ∧ p ≤ 3 ∧ 0 < x ∧ x < p ∧ Q (.int x) H
theorem und_eq {p x : Nat} (h1 : 2 ≤ p) (h2 : p ≤ 3) (h3 : 0 < x) (h4 : x < p) : atI (upto (p - 1) (fun i => decide ((1 + (i : Nat) : Int) * x % p = 1)) (fun i => .int (1 + (i : Nat)))) 0 = some (.int x) := by
  obtain h | ⟨h, h'⟩ | ⟨h, h'⟩ : (p = 2 ∧ x = 1) ∨ (p = 3 ∧ x = 1) ∨ (p = 3 ∧ x = 2) := by omega
  · rw [h.1, h.2]
    decide +kernel
  · rw [h, h']
    decide +kernel
  · rw [h, h']
    decide +kernel
theorem ok_undone_by (T : Txt K mg) : FnAt P w K mg base 1 "undone_by" ["prime", "number"] (sp_undone_by K) := by
  refine FnAt.of T 7 7 (d := d_undone_by) (k := 0) rfl rfl rfl rfl rfl sc_undone_by (fun _ _ _ _ _ _ us hl => match us, hl with | [_, _], _ => rfl) (fun vs H Q E h => by walk_at "len") (fun f_ cdv A outer s H vs Q E hr h => ?_)
  obtain ⟨p, x, rfl, wl, h1, h2, h3, h4, k⟩ := h
  refine ⟨_, (pss_one (ps_ret (pe_ix (ix_listK (K := K) rfl) (pe_lc (own := [("one", 2)]) rfl sc_undone_by.nd (pi_range2 (by rfl) T.n_range (pa_cons pe_int (pa_cons (pv 0) pa_nil))) (blkOk_by (N := ["prime", "number", "one"]) (sc := (defScope s_undone_by)) (own := [("one", 2)]) (by decide +kernel)) (fun _ _ _ _ _ => (pg_name (i := 2) sc_undone_by.nd rfl (Or.inl rfl))) (fun _ _ _ _ _ => (pts_one (pt_cmpR op_eq (pe_op op_mod (pe_op op_mul (pv 2) (pv 1)) (pv 0)) pe_int (nomark _)))) (fun _ _ _ _ _ => (pv 2))) pe_int (fun _ _ => rfl)))), ?_⟩
  walk_at "dn"
  walk_at "zz"
  refine e_rng2 (by omega) ?_
  have e : ((p : Int) - 1).toNat = p - 1 := by omega
  rw [e]
  refine lcl_val jw_range (fun i => decide ((1 + (i : Nat) : Int) * x % p = 1)) (fun i => .int (1 + (i : Nat))) (by omega) (fun D acc hp => trivial) (fun i _ => rfl) (fun D acc i hp hi R r => ?_) (fun D acc i hp hi hx R r => ?_) (fun D hp => ?_)
  · walk_at "ds"
    walk_at "zz"
    exact r
  · walk_at "ds"
    walk_at "zz"
    exact r
  · walk_at "zz"
    refine r_ixL (by walk_at "sq") (und_eq h1 h2 h3 h4) ?_
    exact ⟨H, by walk_at "same", wl, Prs.refl _, k⟩
theorem sc_poly_rest : FnScope ["prime", "poly", "other", "left", "turn", "shift", "factor", "at", "number"] ["prime", "poly", "other"] (defScope s_poly_rest) := ⟨rfl, rfl, rfl, by decide +kernel, rfl, by decide +kernel, by decide +kernel⟩
def sp_poly_rest (K : PySem.W.Frag) : Sp := fun vs H Q _ => ∃ (p : Nat) (a b : Addr) (ns ms r : List Nat), vs = [.int p, .ref a, .ref b] ∧ Wl H ∧ 2 ≤ p ∧ p ≤ 3 ∧ H a = some (.lst (vN ns)) ∧ H b = some (.lst (vN ms)) ∧ pRest p ns ms = some r ∧ ∀ q, H q = none → Q (.ref q) (upd H q (.lst (vN r)))
theorem ge_len (l m : Nat) : (decide ((m : Int) ≤ (l : Int))) = decide (m ≤ l) := by simp
theorem ok_poly_rest (T : Txt K mg) : FnAt P w K mg base 2 "poly_rest" ["prime", "poly", "other"] (sp_poly_rest K) := by
  refine FnAt.of T 6 6 (d := d_poly_rest) (k := 1) rfl rfl rfl rfl rfl sc_poly_rest (fun _ _ _ _ _ _ us hl => match us, hl with | [_, _, _], _ => rfl) (fun vs H Q E h => by walk_at "len") (fun f_ cdv A outer s H vs Q E hr h => ?_)
  obtain ⟨p, a, b, ns, ms, r, rfl, wl, h1, h2, ha, hb, hr0, k⟩ := h
  obtain ⟨hl, hm, hm2, hx, hx2, hr2⟩ := pRest_some hr0
  refine ⟨_, (pss_cons (ps_par (i := 3) (j := 4) rfl sc_poly_rest.nd rfl rfl (by decide) rfl rfl (pa_cons (pe_callF (ok_without_end T) (by decide) hr (by rfl) (pa_cons (pv 1) pa_nil)) (pa_cons (pe_callF (ok_undone_by T) (by decide) hr (by rfl) (pa_cons (pv 0) (pa_cons (pe_ix (ix_listK (K := K) rfl) (pv 2) (pe_un un_neg pe_int) (fun _ _ => rfl)) pa_nil))) pa_nil)) (by rfl))
    (pss_cons (ps_while PassesOwn.never (pt_cmpR op_ge (pe_callB (call_lenK (K := K) rfl) (by rfl) T.n_len (by decide +kernel) (pa_cons (pv 3) pa_nil)) (pe_callB (call_lenK (K := K) rfl) (by rfl) T.n_len (by decide +kernel) (pa_cons (pv 2) pa_nil)) (nomark _))
      (pss_f (pss_cons (ps_par (i := 5) (j := 6) rfl sc_poly_rest.nd rfl rfl (by decide) rfl rfl (pa_cons (pe_op op_sub (pe_callB (call_lenK (K := K) rfl) (by rfl) T.n_len (by decide +kernel) (pa_cons (pv 3) pa_nil)) (pe_callB (call_lenK (K := K) rfl) (by rfl) T.n_len (by decide +kernel) (pa_cons (pv 2) pa_nil))) (pa_cons (pe_op op_mod (pe_op op_mul (pe_ix (ix_listK (K := K) rfl) (pv 3) (pe_un un_neg pe_int) (fun _ _ => rfl)) (pv 4)) (pv 0)) pa_nil)) (by rfl))
    (pss_cons (ps_for PassesOwn.never rfl (pi_D (pi_enum (by rfl) T.n_enumerate (pa_cons (pv 2) pa_nil))) (pg_tupD (n := 2) rfl (pgs_cons (pg_name (i := 7) sc_poly_rest.nd rfl (Or.inl rfl)) (pgs_cons (pg_name (i := 8) sc_poly_rest.nd rfl (Or.inl rfl)) pgs_nil)))
      (pss_one (ps_asg (pe_op op_mod (pe_op op_sub (pe_ix (ix_listK (K := K) rfl) (pv 3) (pe_op op_add (pv 5) (pv 7)) (fun _ _ => rfl)) (pe_op op_mul (pv 6) (pv 8))) (pv 0)) (pg_sub (pv 3) (pe_op op_add (pv 5) (pv 7)) set_list))))
    (pss_one (ps_set (i := 3) sc_poly_rest.nd rfl (Or.inl rfl) (pe_callF (ok_without_end T) (by decide) hr (by rfl) (pa_cons (pv 3) pa_nil))))))))
    (pss_one (ps_ret (pv 3))))), ?_⟩
  walk_at "dn"
  walk_at "zz"
  refine ⟨a, ns, rfl, wl, ha, by omega, fun l hp => ?_⟩
  walk_at "zz"
  refine r_ixL (by walk_at "sq") (at_end (getLast_vN hm)) ?_
  walk_at "zz"
  refine ⟨p, _, rfl, by walk_at "wl", h1, h2, hx, hx2, ?_⟩
  walk_at "zz"
  refine z_whileB (X := Nat × List Nat × Addr) (fun x st A => ∃ y1 y2 y3 y4, st = [some (.int p), some (.ref a), some (.ref b), some (.ref x.2.2), some (.int ((ms.getD (ms.length - 1) 0 : Nat))), y1, y2, y3, y4] ∧ H x.2.2 = none ∧ x.2.1.length ≤ ns.length ∧ upd H x.2.2 (.lst (vN x.2.1)) = A ∧ restGo p (ms.getD (ms.length - 1) 0) ms x.1 x.2.1 = some r) (fun x => x.1) (20, trim ns, l) ⟨_, _, _, _, rfl, hp, trim_le ns, rfl, hr2⟩ ?_
  rintro ⟨n, left, l⟩ _ _ ⟨y1, y2, y3, y4, rfl, hp, hle, rfl, hg⟩
  walk_at "dn"
  cases n with
  | zero => cases hg
  | succ n =>
    by_cases hc : ms.length ≤ left.length
    · have hg2 : restGo p (ms.getD (ms.length - 1) 0) ms n (trim (subAt p (left.getD (left.length - 1) 0 * ms.getD (ms.length - 1) 0 % p) (left.length - ms.length) ms left ms.length)) = some r := by
        rw [← hg]
        exact (if_pos hc).symm
      refine ⟨true, fun R r => ?_, fun _ => ?_, nofun⟩
      · walk_at "zz"
        rw [vN_len, vN_len, ge_len, decide_eq_true hc]
        exact r
      · have hb2 : left.getD (left.length - 1) 0 * ms.getD (ms.length - 1) 0 % p < p := Nat.mod_lt _ (by omega)
        walk_at "zz"
        refine r_ixL (by walk_at "sq") (at_end (getLast_vN (by omega))) ?_
        walk_at "zz"
        rw [vN_len, vN_len]
        refine e_enum (xs := vN ms) (by walk_at "sq") ?_
        have es : ((left.length : Nat) : Int) - ((ms.length : Nat) : Int) = ((left.length - ms.length : Nat) : Int) := by omega
        rw [es]
        walk_at "ds"
        refine lp_of (jw_enum (xs := vN ms) (n := ms.length) (vN_len ms)) (fun i st A => ∃ y3 y4, st = [some (.int p), some (.ref a), some (.ref b), some (.ref l), some (.int ((ms.getD (ms.length - 1) 0 : Nat))), some (.int ((left.length - ms.length : Nat))), some (.int ((left.getD (left.length - 1) 0 * ms.getD (ms.length - 1) 0 % p : Nat))), y3, y4] ∧
          A = upd H l (.lst (vN (subAt p (left.getD (left.length - 1) 0 * ms.getD (ms.length - 1) 0 % p) (left.length - ms.length) ms left i)))) ⟨_, _, rfl, rfl⟩ (fun i st A _ h => ?_) ?_ ?_
        · obtain ⟨_, _, _, rfl⟩ := h
          exact ⟨by walk_at "sq", by walk_at "wl"⟩
        · rintro i _ _ hi ⟨y3, y4, rfl, rfl⟩
          rw [vN_getD hi]
          walk_at "ds"
          walk_at "zz"
          refine r_ixL (SqL.of upd_same) (atN (i := left.length - ms.length + i) (by rw [subAt_len]; omega)) ?_
          walk_at "zz"
          refine' r_set (m := left.length - ms.length + i) upd_same ?hx ?_
          case hx =>
            rw [vN_len, subAt_len]
            exact ixN_in (by omega)
          refine ⟨_, _, rfl, ?_⟩
          rw [upd_put]
          refine congrArg (fun z => upd H l (.lst z)) ?_
          show _ = vN (List.set _ _ _)
          rw [← vN_set]
          exact congrArg (fun z => List.set (vN _) _ (V.int z)) (sm_cast (p := p) (by omega) _ (left.getD (left.length - 1) 0 * ms.getD (ms.length - 1) 0 % p * ms.getD i 0)).symm
        · rintro _ _ ⟨y3, y4, rfl, rfl⟩
          walk_at "zz"
          refine ⟨l, _, rfl, by walk_at "wl", by walk_at "get", by rw [subAt_len]; have := hle; dsimp only at this; omega, fun l2 hp2 => ?_⟩
          obtain ⟨_, hp2⟩ := upd_none hp2
          walk_at "zz"
          refine ⟨upd H l2 (.lst (vN (trim (subAt p (left.getD (left.length - 1) 0 * ms.getD (ms.length - 1) 0 % p) (left.length - ms.length) ms left ms.length)))), Same.both (by walk_at "same"), by walk_at "wl", Prs.drop (Prs.same (by walk_at "same")) hp (fun z => z), (n, trim (subAt p (left.getD (left.length - 1) 0 * ms.getD (ms.length - 1) 0 % p) (left.length - ms.length) ms left ms.length), l2), Nat.lt_succ_self n, _, _, _, _, rfl, hp2, ?_, rfl, hg2⟩
          refine Nat.le_trans (trim_le _) ?_
          rw [subAt_len]
          exact hle
    · refine ⟨false, fun R r => ?_, nofun, fun _ => ?_⟩
      · walk_at "zz"
        rw [vN_len, vN_len, ge_len, decide_eq_false hc]
        exact r
      · walk_at "zz"
        have e : left = r := by
          have z : restGo p (ms.getD (ms.length - 1) 0) ms (n + 1) left = some left := if_neg hc
          rw [z] at hg
          exact Option.some.inj hg
        rw [e]
        exact ⟨_, Same.refl _, by walk_at "wl", Prs.same (by walk_at "same"), k l hp⟩
end
end TP
/-! part Q6 -/
set_option maxHeartbeats 1000000
namespace TP
open PySem PySem.Spec PyProof.Rows L2
set_option hygiene false in
local macro_rules | `(tactic| walk_at "ne") => `(tactic| first | assumption | exact Ne.symm (by assumption) | exact ne_of_none (H := H) (by assumption) (by assumption) | exact (ne_of_none (H := H) (by assumption) (by assumption)).symm | exact ne_of_none (H := A) (by assumption) (by assumption) | exact (ne_of_none (H := A) (by assumption) (by assumption)).symm)
local macro_rules | `(tactic| walk_at "get") => `(tactic| first | assumption | exact upd_same | (refine upd_at ?_ ?_; (focus walk_at "ne"); (walk_at "get")))
local macro_rules | `(tactic| walk_at "nn") => `(tactic| first | assumption | (refine none_upd ?_ ?_; (focus walk_at "ne"); (walk_at "nn")))
local macro_rules | `(tactic| walk_at "same") => `(tactic| first | exact Same.refl _ | assumption | (refine Same.both ?_; walk_at "same") | (refine TP.Same.new ?_ ?_; (focus walk_at "same"); (walk_at "nn")) | (refine Same.put ?_ ?_; (focus walk_at "same"); (walk_at "get")))
local macro_rules | `(tactic| walk_at "noown") => `(tactic| first | exact NoOwn.none (by assumption) | (refine NoOwn.upd ?_ True.intro; walk_at "noown"))
local macro_rules | `(tactic| walk_at "wl") => `(tactic| first | assumption | (refine Wl.put ?_ ?_ True.intro; (focus walk_at "wl"); (walk_at "noown")))
local macro_rules | `(tactic| walk_at "sq") => `(tactic| first | assumption | exact SqL.of (by walk_at "get"))
set_option hygiene false in
local macro_rules | `(tactic| walk_at "f1") => `(tactic| obtain ⟨_, hp⟩ := upd_none hp)
set_option hygiene false in
local macro_rules | `(tactic| walk_at "f2") => `(tactic| (obtain ⟨_, hp⟩ := upd_none hp; obtain ⟨_, hp⟩ := upd_none hp))
set_option hygiene false in
local macro_rules | `(tactic| walk_at "f3") => `(tactic| (obtain ⟨_, hp⟩ := upd_none hp; obtain ⟨_, hp⟩ := upd_none hp; obtain ⟨_, hp⟩ := upd_none hp))
set_option hygiene false in
local macro_rules | `(tactic| walk_at "f4") => `(tactic| (obtain ⟨_, hp⟩ := upd_none hp; obtain ⟨_, hp⟩ := upd_none hp; obtain ⟨_, hp⟩ := upd_none hp; obtain ⟨_, hp⟩ := upd_none hp))
set_option hygiene false in
local macro_rules | `(tactic| walk_at "fa") => `(tactic| first
  | ((with_reducible refine' z_own_prime T ?hv ?hh ?_); (case hv => exact rfl); (case hh => walk_at "get"))
  | ((with_reducible refine' z_own_turns T ?hv ?hh ?_); (case hv => exact rfl); (case hh => walk_at "get"))
  | ((with_reducible refine' z_own_size T ?hv ?hh ?_); (case hv => exact rfl); (case hh => walk_at "get"))
  | ((with_reducible refine' z_own_powers T ?hv ?hh ?_); (case hv => exact rfl); (case hh => walk_at "get"))
  | ((with_reducible refine' z_own_logs T ?hv ?hh ?_); (case hv => exact rfl); (case hh => walk_at "get"))
  | ((with_reducible refine' z_own_field T ?hv ?hh ?_); (case hv => exact rfl); (case hh => walk_at "get"))
  | ((with_reducible refine' z_own_points T ?hv ?hh ?_); (case hv => exact rfl); (case hh => walk_at "get"))
  | ((with_reducible refine' z_own_many T ?hv ?hh ?_); (case hv => exact rfl); (case hh => walk_at "get")))
local macro_rules | `(tactic| walk_at "z") => `(tactic| first
  | with_reducible refine z_seq ?_
  | with_reducible refine z_asg ?_
  | with_reducible refine z_name ?_
  | ((with_reducible refine' z_var ?hv ?_); (case hv => exact rfl))
  | with_reducible refine z_c ?_
  | with_reducible refine z_op ?_
  | with_reducible refine r_I0 ?_
  | ((with_reducible refine r_I ?hc ?_); (case hc => walk_at "ar"))
  | ((with_reducible refine' r_app ?ha ?hz ?_); (case ha => walk_at "get"); (case hz => walk_at "sz"))
  | ((with_reducible refine' z_tyl ?ha ?_); (case ha => walk_at "get"))
  | with_reducible refine z_cons ?_
  | ((with_reducible refine' r_len ?ha ?_); (case ha => walk_at "sq"))
  | with_reducible refine z_nil ?_
  | walk_at "fa"
  | walk_at "fd"
  | with_reducible refine z_test ?_
  | with_reducible refine z_bl ?_
  | with_reducible refine z_tB ?_
  | with_reducible refine r_eq ?_
  | with_reducible refine r_ne ?_
  | with_reducible refine z_ifS ?_
  | with_reducible refine z_ret ?_
  | with_reducible refine z_drop ?_
  | with_reducible refine z_cb ?_
  | with_reducible refine z_call ?_
  | with_reducible refine z_bm ?_
  | with_reducible refine z_bm0 ?_
  | with_reducible refine z_lst ?_
  | with_reducible refine z_tup ?_
  | with_reducible refine z_un ?_
  | with_reducible refine r_U ?_
  | with_reducible refine z_par ?_
  | with_reducible refine z_par3 ?_
  | with_reducible refine z_two ?_
  | with_reducible refine z_three ?_
  | with_reducible refine z_sub ?_
  | with_reducible refine z_for ?_
  | with_reducible refine z_lc ?_
  | with_reducible refine z_ifE ?_
  | with_reducible refine z_and ?_
  | with_reducible refine z_or ?_
  | with_reducible refine z_not ?_
  | with_reducible refine z_yes ?_
  | with_reducible refine z_andV ?_
  | with_reducible refine z_orV ?_
  | with_reducible refine z_notV ?_
  | with_reducible refine z_sl ?_
  | with_reducible refine z_noP ?_
  | with_reducible refine z_part ?_
  | with_reducible refine z_int ?_
  | with_reducible refine z_revL ?_
  | with_reducible refine z_next ?_
  | with_reducible refine z_sf ?_
  | with_reducible refine z_f ?_
  | with_reducible refine z_tf ?_
  | with_reducible refine z_disp ?_
  | with_reducible refine z_pc ?_
  | with_reducible refine z_pn ?_
  | with_reducible refine z_i1 ?_
  | with_reducible refine i_rng3 ?_
  | with_reducible refine z_chain ?_
  | with_reducible refine z_nT ?_
  | with_reducible refine z_nF ?_
  | with_reducible refine z_sfld ?_
  | with_reducible refine i_rng1 ?_
  | with_reducible refine i_rng2 ?_
  | with_reducible refine i_list ?_
  | with_reducible refine i_zip ?_
  | with_reducible refine i_enum ?_
  | with_reducible refine z_tt ?_
  | with_reducible refine z_ff ?_)
local macro_rules | `(tactic| walk_at "zz") => `(tactic| repeat walk_at "z")
set_option hygiene false in
local macro_rules | `(tactic| walk_at "len") => `(tactic| first | (obtain ⟨rfl, _⟩ := h; rfl) | (obtain ⟨_, rfl, _⟩ := h; rfl) | (obtain ⟨_, _, rfl, _⟩ := h; rfl) | (obtain ⟨_, _, _, rfl, _⟩ := h; rfl) | (obtain ⟨_, _, _, _, rfl, _⟩ := h; rfl) | (obtain ⟨_, _, _, _, _, rfl, _⟩ := h; rfl) | (obtain ⟨_, _, _, _, _, _, rfl, _⟩ := h; rfl) | (obtain ⟨_, _, _, _, _, _, _, rfl, _⟩ := h; rfl) | (obtain ⟨_, _, _, _, _, _, _, _, rfl, _⟩ := h; rfl) | (obtain ⟨_, _, _, _, _, _, _, _, _, rfl, _⟩ := h; rfl) | (obtain ⟨_, _, _, _, _, _, _, _, _, _, rfl, _⟩ := h; rfl) | (obtain ⟨_, _, _, _, _, _, _, _, _, _, _, rfl, _⟩ := h; rfl) | (obtain ⟨_, _, _, _, _, _, _, _, _, _, _, _, rfl, _⟩ := h; rfl) | (obtain ⟨_, _, _, _, _, _, _, _, _, _, _, _, _, rfl, _⟩ := h; rfl) | (obtain ⟨_, _, _, _, _, _, _, _, _, _, _, _, _, _, rfl, _⟩ := h; rfl) | (obtain ⟨_, _, _, _, _, _, _, _, _, _, _, _, _, _, _, rfl, _⟩ := h; rfl) | (obtain ⟨_, _, _, _, _, _, _, _, _, _, _, _, _, _, _, _, rfl, _⟩ := h; rfl))
local macro_rules | `(tactic| walk_at "small") => `(tactic| first | exact Nat.zero_le _ | exact (by decide : 1 ≤ sizeLine) | exact (by decide : 2 ≤ sizeLine) | exact (by decide : 3 ≤ sizeLine) | exact (by decide : 4 ≤ sizeLine) | exact (by decide : 5 ≤ sizeLine) | exact (by decide : 6 ≤ sizeLine))
local macro_rules | `(tactic| walk_at "dn") => `(tactic| dsimp only [cxOf, L2.start, List.map, List.length, List.replicate, List.cons_append, List.nil_append, Nat.reduceAdd, Nat.reduceSub, Nat.zero_add])
local macro_rules | `(tactic| walk_at "ar") => `(tactic| first | assumption | (show _ < _; omega) | (show _ < _ ∧ _ < _; omega) | (left; show _ < _ ∧ _ < _; constructor <;> omega) | (right; show _ < _ ∧ _ < _; constructor <;> omega))
local macro_rules | `(tactic| walk_at "sz") => `(tactic| first | omega | (simp only [vN_len, List.length_append, List.length_cons, List.length_nil, List.length_map, List.length_range, List.length_replicate, List.length_set, List.length_take, List.length_drop, List.length_reverse]; omega))
local macro_rules | `(tactic| walk_at "ds") => `(tactic| try dsimp only [List.set])
set_option hygiene false in
local macro_rules | `(tactic| walk_at "endL") => `(tactic| (refine' ⟨_, ?e1, ?e2, ?e3, k p hp⟩; (case e1 => walk_at "same"); (case e2 => walk_at "wl"); (case e3 => exact Prs.same (by walk_at "same"))))
set_option hygiene false in
local macro_rules | `(tactic| walk_at "endS") => `(tactic| exact ⟨H, by walk_at "same", wl, Prs.refl _, k⟩)
set_option hygiene false in
local macro_rules | `(tactic| walk_at "endQ") => `(tactic| (refine' ⟨_, ?e1, ?e2, ?e3, k q hp⟩; (case e1 => walk_at "same"); (case e2 => walk_at "wl"); (case e3 => exact Prs.same (by walk_at "same"))))
local macro_rules | `(tactic| walk_at "f5") => `(tactic| (walk_at "f1"; walk_at "f4"))
local macro_rules | `(tactic| walk_at "f6") => `(tactic| (walk_at "f2"; walk_at "f4"))
local macro_rules | `(tactic| walk_at "f7") => `(tactic| (walk_at "f3"; walk_at "f4"))
set_option hygiene false in
local macro_rules | `(tactic| walk_at "fd") => `(tactic| first
  | ((with_reducible refine' z_w_prime ?hv ?hh ?_); (case hv => exact rfl); (case hh => assumption))
  | ((with_reducible refine' z_w_turns ?hv ?hh ?_); (case hv => exact rfl); (case hh => assumption))
  | ((with_reducible refine' z_w_size ?hv ?hh ?_); (case hv => exact rfl); (case hh => assumption))
  | ((with_reducible refine' z_w_powers ?hv ?hh ?_); (case hv => exact rfl); (case hh => assumption))
  | ((with_reducible refine' z_w_places ?hv ?hh ?_); (case hv => exact rfl); (case hh => assumption))
  | ((with_reducible refine' z_t_prime ?hv ?hh ?_); (case hv => exact rfl); (case hh => assumption))
  | ((with_reducible refine' z_t_modulus ?hv ?hh ?_); (case hv => exact rfl); (case hh => assumption))
  | ((with_reducible refine' z_t_world ?hv ?hh ?_); (case hv => exact rfl); (case hh => assumption))
  | ((with_reducible refine' z_t_points ?hv ?hh ?_); (case hv => exact rfl); (case hh => assumption))
  | ((with_reducible refine' z_t_many ?hv ?hh ?_); (case hv => exact rfl); (case hh => assumption))
  | ((with_reducible refine' z_t_reach ?hv ?hh ?_); (case hv => exact rfl); (case hh => assumption)))
local macro_rules | `(tactic| walk_at "sz") => `(tactic| (simp only [vN_len, digs_len, List.length_reverse]; omega))
section
variable {P : Program} {w : World} {K : PySem.W.Frag} {mg : Str → Option Value} {base : Heap}
theorem sc_poly_times : FnScope ["prime", "one", "other", "modulus", "found", "at", "near", "to", "far"] ["prime", "one", "other", "modulus"] (defScope s_poly_times) := ⟨rfl, rfl, rfl, by decide +kernel, rfl, by decide +kernel, by decide +kernel⟩
def sp_poly_times (K : PySem.W.Frag) : Sp := fun vs H Q _ => ∃ (p : Nat) (a b c : Addr) (ns ms md r : List Nat), vs = [.int p, .ref a, .ref b, .ref c] ∧ Wl H ∧ 2 ≤ p ∧ p ≤ 3 ∧ H a = some (.lst (vN ns)) ∧ H b = some (.lst (vN ms)) ∧ H c = some (.lst (vN md)) ∧ pTimes p ns ms md = some r ∧ ∀ q, H q = none → Q (.ref q) (upd H q (.lst (vN r)))
theorem ok_poly_times (T : Txt K mg) : FnAt P w K mg base 3 "poly_times" ["prime", "one", "other", "modulus"] (sp_poly_times K) := by
  refine FnAt.of T 8 8 (d := d_poly_times) (k := 2) rfl rfl rfl rfl rfl sc_poly_times (fun _ _ _ _ _ _ us hl => match us, hl with | [_, _, _, _], _ => rfl) (fun vs H Q E h => by walk_at "len") (fun f_ cdv A outer s H vs Q E hr h => ?_)
  obtain ⟨p, a, b, c, ns, ms, md, r, rfl, wl, h1, h2, ha, hb, hc, hr0, k⟩ := h
  obtain ⟨hn, hl, hm, hm2, hbn, hr2⟩ := pTimes_some hr0
  refine ⟨_, (pss_cons (ps_set (i := 4) sc_poly_times.nd rfl (Or.inl rfl) (pe_op op_rep (pe_lst (pa_cons pe_int pa_nil)) (pe_callB (call_max2 rfl) (by rfl) T.n_max (by decide +kernel) (pa_cons pe_int (pa_cons (pe_op op_sub (pe_op op_add (pe_callB (call_lenK (K := K) rfl) (by rfl) T.n_len (by decide +kernel) (pa_cons (pv 1) pa_nil)) (pe_callB (call_lenK (K := K) rfl) (by rfl) T.n_len (by decide +kernel) (pa_cons (pv 2) pa_nil))) pe_int) pa_nil)))))
    (pss_cons (ps_for PassesOwn.never rfl (pi_D (pi_enum (by rfl) T.n_enumerate (pa_cons (pv 1) pa_nil))) (pg_tupD (n := 2) rfl (pgs_cons (pg_name (i := 5) sc_poly_times.nd rfl (Or.inl rfl)) (pgs_cons (pg_name (i := 6) sc_poly_times.nd rfl (Or.inl rfl)) pgs_nil)))
      (pss_one (ps_for PassesOwn.never rfl (pi_D (pi_enum (by rfl) T.n_enumerate (pa_cons (pv 2) pa_nil))) (pg_tupD (n := 2) rfl (pgs_cons (pg_name (i := 7) sc_poly_times.nd rfl (Or.inl rfl)) (pgs_cons (pg_name (i := 8) sc_poly_times.nd rfl (Or.inl rfl)) pgs_nil)))
      (pss_one (ps_asg (pe_op op_mod (pe_op op_add (pe_ix (ix_listK (K := K) rfl) (pv 4) (pe_op op_add (pv 5) (pv 7)) (fun _ _ => rfl)) (pe_op op_mul (pv 6) (pv 8))) (pv 0)) (pg_sub (pv 4) (pe_op op_add (pv 5) (pv 7)) set_list))))))
    (pss_one (ps_ret (pe_callF (ok_poly_rest T) (by decide) hr (by rfl) (pa_cons (pv 0) (pa_cons (pv 4) (pa_cons (pv 3) pa_nil)))))))), ?_⟩
  walk_at "dn"
  walk_at "zz"
  refine ⟨by walk_at "small", fun l0 hp => ?_⟩
  walk_at "zz"
  refine ⟨_, _, rfl, ?_⟩
  have e : (if ((vN ns).length : Int) + ((vN ms).length : Int) - 1 > 0 then ((vN ns).length : Int) + ((vN ms).length : Int) - 1 else 0) = ((ns.length + ms.length - 1 : Nat) : Int) := by
    rw [vN_len, vN_len]
    split <;> omega
  dsimp only
  rw [e]
  refine r_rep (m := ns.length + ms.length - 1) upd_same (by omega) fun l hp => ?_
  have hl0 := (upd_none hp).1
  walk_at "f1"
  walk_at "zz"
  refine e_enum (xs := vN ns) (by walk_at "sq") ?_
  walk_at "ds"
  have e0 : List.replicate (ns.length + ms.length - 1) (V.int 0) = vN (List.replicate (ns.length + ms.length - 1) 0) := vN_rep _ 0
  rw [e0]
  refine lp_of (jw_enum (xs := vN ns) (n := ns.length) (vN_len ns)) (fun i st A => ∃ y5 y6 y7 y8, st = [some (.int p), some (.ref a), some (.ref b), some (.ref c), some (.ref l), y5, y6, y7, y8] ∧
    A = upd (upd H l0 (.lst [.int 0])) l (.lst (vN (mulOut p ns ms (List.replicate (ns.length + ms.length - 1) 0) i)))) ⟨_, _, _, _, rfl, rfl⟩ (fun i st A _ h => ?_) ?_ ?_
  · obtain ⟨_, _, _, _, _, rfl⟩ := h
    exact ⟨by walk_at "sq", by walk_at "wl"⟩
  · rintro i _ _ hi ⟨y5, y6, y7, y8, rfl, rfl⟩
    rw [vN_getD hi]
    have hbi := hbn i hi
    walk_at "ds"
    walk_at "zz"
    refine e_enum (xs := vN ms) (by walk_at "sq") ?_
    refine lp_of (jw_enum (xs := vN ms) (n := ms.length) (vN_len ms)) (fun j st A => ∃ y7 y8, st = [some (.int p), some (.ref a), some (.ref b), some (.ref c), some (.ref l), some (.int (i : Nat)), some (.int (ns.getD i 0 : Nat)), y7, y8] ∧
      A = upd (upd H l0 (.lst [.int 0])) l (.lst (vN (mulIn p (ns.getD i 0) i ms (mulOut p ns ms (List.replicate (ns.length + ms.length - 1) 0) i) j)))) ⟨_, _, rfl, rfl⟩ (fun j st A _ h => ?_) ?_ ?_
    · obtain ⟨_, _, _, rfl⟩ := h
      exact ⟨by walk_at "sq", by walk_at "wl"⟩
    · rintro j _ _ hj ⟨y7, y8, rfl, rfl⟩
      rw [vN_getD hj]
      walk_at "ds"
      walk_at "zz"
      have hle : (mulIn p (ns.getD i 0) i ms (mulOut p ns ms (List.replicate (ns.length + ms.length - 1) 0) i) j).length = ns.length + ms.length - 1 := by
        rw [mulIn_len, mulOut_len, List.length_replicate]
      refine r_ixL (SqL.of upd_same) (atN (i := i + j) (by omega)) ?_
      walk_at "zz"
      refine' r_set (m := i + j) upd_same ?hx ?_
      case hx =>
        rw [vN_len, hle]
        exact ixN_in (by omega)
      refine ⟨_, _, rfl, ?_⟩
      rw [upd_put]
      refine congrArg (fun z => upd _ l (.lst z)) ?_
      show _ = vN (List.set _ _ _)
      rw [← vN_set]
      rfl
    · rintro _ _ ⟨y7, y8, rfl, rfl⟩
      exact ⟨_, _, _, _, rfl, rfl⟩
  · rintro _ _ ⟨y5, y6, y7, y8, rfl, rfl⟩
    walk_at "zz"
    refine ⟨p, l, c, _, md, r, rfl, by walk_at "wl", h1, h2, upd_same, by walk_at "get", hr2, fun q hp => ?_⟩
    walk_at "f2"
    walk_at "endQ"
theorem sc_poly_less : FnScope ["prime", "one", "other", "many", "near", "far", "first", "second"] ["prime", "one", "other"] (defScope s_poly_less) := ⟨rfl, rfl, rfl, by decide +kernel, rfl, by decide +kernel, by decide +kernel⟩
def sp_poly_less (K : PySem.W.Frag) : Sp := fun vs H Q _ => ∃ (p : Nat) (a b : Addr) (ns ms : List Nat), vs = [.int p, .ref a, .ref b] ∧ Wl H ∧ 2 ≤ p ∧ p ≤ 3 ∧ H a = some (.lst (vN ns)) ∧ H b = some (.lst (vN ms)) ∧ ns.length ≤ 40 ∧ ms.length ≤ 40 ∧
  ∀ q, H q = none → Q (.ref q) (upd H q (.lst (vN (pLess p ns ms))))
theorem ok_poly_less (T : Txt K mg) : FnAt P w K mg base 2 "poly_less" ["prime", "one", "other"] (sp_poly_less K) := by
  refine FnAt.of T 9 9 (d := d_poly_less) (k := 1) rfl rfl rfl rfl rfl sc_poly_less (fun _ _ _ _ _ _ us hl => match us, hl with | [_, _, _], _ => rfl) (fun vs H Q E h => by walk_at "len") (fun f_ cdv A outer s H vs Q E hr h => ?_)
  obtain ⟨p, a, b, ns, ms, rfl, wl, h1, h2, ha, hb, hl, hm, k⟩ := h
  refine ⟨_, (pss_cons (ps_set (i := 3) sc_poly_less.nd rfl (Or.inl rfl) (pe_callB (call_max2 rfl) (by rfl) T.n_max (by decide +kernel) (pa_cons (pe_callB (call_lenK (K := K) rfl) (by rfl) T.n_len (by decide +kernel) (pa_cons (pv 1) pa_nil)) (pa_cons (pe_callB (call_lenK (K := K) rfl) (by rfl) T.n_len (by decide +kernel) (pa_cons (pv 2) pa_nil)) pa_nil))))
    (pss_cons (ps_par (i := 4) (j := 5) rfl sc_poly_less.nd rfl rfl (by decide) rfl rfl (pa_cons (pe_op op_cat (pv 1) (pe_op op_rep (pe_lst (pa_cons pe_int pa_nil)) (pe_op op_sub (pv 3) (pe_callB (call_lenK (K := K) rfl) (by rfl) T.n_len (by decide +kernel) (pa_cons (pv 1) pa_nil))))) (pa_cons (pe_op op_cat (pv 2) (pe_op op_rep (pe_lst (pa_cons pe_int pa_nil)) (pe_op op_sub (pv 3) (pe_callB (call_lenK (K := K) rfl) (by rfl) T.n_len (by decide +kernel) (pa_cons (pv 2) pa_nil))))) pa_nil)) (by rfl))
    (pss_one (ps_ret (pe_callF (ok_without_end T) (by decide) hr (by rfl) (pa_cons (pe_lc (own := [("first", 6), ("second", 7)]) rfl sc_poly_less.nd (pi_D (pi_zip (by rfl) T.n_zip (pa_cons (pv 4) (pa_cons (pv 5) pa_nil)))) (blkOk_by (N := ["prime", "one", "other", "many", "near", "far", "first", "second"]) (sc := (defScope s_poly_less)) (own := [("first", 6), ("second", 7)]) (by decide +kernel)) (fun _ _ _ _ _ => (pg_tupD (n := 2) rfl (pgs_cons (pg_name (i := 6) sc_poly_less.nd rfl (Or.inl rfl)) (pgs_cons (pg_name (i := 7) sc_poly_less.nd rfl (Or.inl rfl)) pgs_nil)))) (fun _ _ _ _ _ => pts_nil) (fun _ _ _ _ _ => (pe_op op_mod (pe_op op_sub (pv 6) (pv 7)) (pv 0)))) pa_nil)))))), ?_⟩
  walk_at "dn"
  walk_at "zz"
  refine ⟨_, _, rfl, ?_⟩
  dsimp only
  have e : (if ((vN ms).length : Int) > ((vN ns).length : Int) then ((vN ms).length : Int) else ((vN ns).length : Int)) = ((max ns.length ms.length : Nat) : Int) := by
    rw [vN_len, vN_len]
    split <;> omega
  rw [e]
  walk_at "zz"
  refine ⟨by walk_at "small", fun l1 hp => ?_⟩
  walk_at "zz"
  rw [vN_len]
  have e1 : ((max ns.length ms.length : Nat) : Int) - (ns.length : Int) = ((max ns.length ms.length - ns.length : Nat) : Int) := by omega
  rw [e1]
  refine r_rep (m := max ns.length ms.length - ns.length) upd_same (by omega) fun l2 hp => ?_
  have e0 : List.replicate (max ns.length ms.length - ns.length) (V.int 0) = vN (List.replicate (max ns.length ms.length - ns.length) 0) := vN_rep _ 0
  rw [e0]
  walk_at "f1"
  refine r_cat (xs := vN ns) (by walk_at "get") upd_same (by rw [vN_len, vN_len, List.length_replicate]; omega) fun l3 hp => ?_
  walk_at "f2"
  walk_at "zz"
  refine ⟨by walk_at "small", fun l4 hp => ?_⟩
  walk_at "f3"
  walk_at "zz"
  rw [vN_len]
  have e2 : ((max ns.length ms.length : Nat) : Int) - (ms.length : Int) = ((max ns.length ms.length - ms.length : Nat) : Int) := by omega
  rw [e2]
  refine r_rep (m := max ns.length ms.length - ms.length) upd_same (by omega) fun l5 hp => ?_
  have e3 : List.replicate (max ns.length ms.length - ms.length) (V.int 0) = vN (List.replicate (max ns.length ms.length - ms.length) 0) := vN_rep _ 0
  rw [e3]
  walk_at "f4"
  refine r_cat (xs := vN ms) (by walk_at "get") upd_same (by rw [vN_len, vN_len, List.length_replicate]; omega) fun l6 hp => ?_
  walk_at "f5"
  rw [← vN_app, ← vN_app]
  walk_at "zz"
  have ln : (ns ++ List.replicate (max ns.length ms.length - ns.length) 0).length = max ns.length ms.length := by rw [List.length_append, List.length_replicate]; omega
  have lm : (ms ++ List.replicate (max ns.length ms.length - ms.length) 0).length = max ns.length ms.length := by rw [List.length_append, List.length_replicate]; omega
  refine e_zip (xs := vN (ns ++ List.replicate (max ns.length ms.length - ns.length) 0)) (ys := vN (ms ++ List.replicate (max ns.length ms.length - ms.length) 0)) (by walk_at "sq") (by walk_at "sq") ?_
  refine lcl_all (jw_zip (xs := vN (ns ++ List.replicate (max ns.length ms.length - ns.length) 0)) (ys := vN (ms ++ List.replicate (max ns.length ms.length - ms.length) 0)) (n := max ns.length ms.length) (by rw [vN_len, vN_len, ln, lm]; omega)) (fun i => .int ((sm p ((ns ++ List.replicate (max ns.length ms.length - ns.length) 0).getD i 0) ((ms ++ List.replicate (max ns.length ms.length - ms.length) 0).getD i 0) : Nat))) (by omega) (fun D acc hp => ?_) (fun i _ => rfl) (fun D acc i hp hi R r => ?_) (fun D hp => ?_)
  · walk_at "f6"
    exact ⟨by walk_at "sq", by walk_at "sq", by walk_at "wl"⟩
  · walk_at "f6"
    rw [vN_getD (by rw [ln]; exact hi), vN_getD (by rw [lm]; exact hi)]
    walk_at "ds"
    walk_at "zz"
    rw [sm_cast (by omega)] at r
    exact r
  · walk_at "f6"
    walk_at "zz"
    rw [zw_range (fun s t => sm p s t) ln lm]
    refine ⟨D, _, rfl, by walk_at "wl", upd_same, by rw [List.length_zipWith, ln, lm]; omega, fun q hp => ?_⟩
    walk_at "f7"
    walk_at "endQ"
theorem sc_are_apart : FnScope ["prime", "one", "other", "near", "far"] ["prime", "one", "other"] (defScope s_are_apart) := ⟨rfl, rfl, rfl, by decide +kernel, rfl, by decide +kernel, by decide +kernel⟩
def sp_are_apart (K : PySem.W.Frag) : Sp := fun vs H Q _ => ∃ (p : Nat) (a b : Addr) (ns ms : List Nat) (r : Bool), vs = [.int p, .ref a, .ref b] ∧ Wl H ∧ 2 ≤ p ∧ p ≤ 3 ∧ H a = some (.lst (vN ns)) ∧ H b = some (.lst (vN ms)) ∧ apartGo p 20 ns ms = some r ∧ Q (.bl r) H
theorem ok_are_apart (T : Txt K mg) : FnAt P w K mg base 3 "are_apart" ["prime", "one", "other"] (sp_are_apart K) := by
  refine FnAt.of T 10 10 (d := d_are_apart) (k := 2) rfl rfl rfl rfl rfl sc_are_apart (fun _ _ _ _ _ _ us hl => match us, hl with | [_, _, _], _ => rfl) (fun vs H Q E h => by walk_at "len") (fun f_ cdv A outer s H vs Q E hr h => ?_)
  obtain ⟨p, a, b, ns, ms, r, rfl, wl, h1, h2, ha, hb, hr2, k⟩ := h
  refine ⟨_, (pss_cons (ps_par (i := 3) (j := 4) rfl sc_are_apart.nd rfl rfl (by decide) rfl rfl (pa_cons (pv 1) (pa_cons (pv 2) pa_nil)) (by rfl))
    (pss_cons (ps_while PassesOwn.never (pt_cmpR op_gt (pe_callB (call_lenK (K := K) rfl) (by rfl) T.n_len (by decide +kernel) (pa_cons (pv 4) pa_nil)) pe_int (nomark _))
      (pss_f (pss_one (ps_par (i := 3) (j := 4) rfl sc_are_apart.nd rfl rfl (by decide) rfl rfl (pa_cons (pv 4) (pa_cons (pe_callF (ok_poly_rest T) (by decide) hr (by rfl) (pa_cons (pv 0) (pa_cons (pv 3) (pa_cons (pv 4) pa_nil)))) pa_nil)) (by rfl)))))
    (pss_one (ps_ret (pe_cmpR op_eq (pe_callB (call_lenK (K := K) rfl) (by rfl) T.n_len (by decide +kernel) (pa_cons (pv 3) pa_nil)) pe_int (nomark _)))))), ?_⟩
  walk_at "dn"
  walk_at "zz"
  walk_at "ds"
  refine z_whileB (X := Nat × List Nat × List Nat) (fun x st A => ∃ an af, st = [some (.int p), some (.ref a), some (.ref b), some (.ref an), some (.ref af)] ∧ Same H A ∧ Wl A ∧ A an = some (.lst (vN x.2.1)) ∧ A af = some (.lst (vN x.2.2)) ∧ apartGo p x.1 x.2.1 x.2.2 = some r) (fun x => x.1) (20, ns, ms) ⟨_, _, rfl, Same.refl _, wl, ha, hb, hr2⟩ ?_
  rintro ⟨n, near, far⟩ _ A ⟨an, af, rfl, se, wl2, h3, h4, hg⟩
  cases n with
  | zero => cases hg
  | succ n =>
    dsimp only at h3 h4 hg ⊢
    by_cases hc : 0 < far.length
    · have hg2 : ((pRest p near far).bind fun r => apartGo p n far r) = some r := by
        rw [← hg]
        exact (if_pos hc).symm
      obtain ⟨z, hz, hg3⟩ := Option.bind_eq_some_iff.mp hg2
      refine ⟨true, fun R r => ?_, fun _ => ?_, nofun⟩
      · walk_at "zz"
        rw [vN_len, decide_eq_true (by omega)]
        exact r
      · walk_at "zz"
        refine ⟨p, an, af, near, far, z, rfl, wl2, h1, h2, h3, h4, hz, fun q hq => ?_⟩
        walk_at "zz"
        walk_at "ds"
        have wl3 : Wl (upd A q (.lst (vN z))) := Wl.put wl2 (NoOwn.none hq) trivial
        exact ⟨_, Same.refl _, wl3, Prs.same (Same.new (Same.refl _) hq), (n, far, z), Nat.lt_succ_self n, af, q, rfl, Same.new se (se.free hq), wl3, upd_at (ne_of_none h4 hq) h4, upd_same, hg3⟩
    · refine ⟨false, fun R r => ?_, nofun, fun _ => ?_⟩
      · walk_at "zz"
        rw [vN_len, decide_eq_false (by omega)]
        exact r
      · walk_at "zz"
        have e : decide (near.length = 1) = r := by
          have z : apartGo p (n + 1) near far = some (decide (near.length = 1)) := if_neg hc
          rw [z] at hg
          exact Option.some.inj hg
        rw [vN_len]
        have e2 : decide ((near.length : Int) = 1) = r := by
          rw [← e]
          exact decide_eq_decide.mpr (by omega)
        rw [e2]
        exact ⟨H, se, wl, Prs.refl _, k⟩
end
end TP
/-! part Q7 -/
set_option maxHeartbeats 1000000
namespace TP
open PySem PySem.Spec PyProof.Rows L2
set_option hygiene false in
local macro_rules | `(tactic| walk_at "ne") => `(tactic| first | assumption | exact Ne.symm (by assumption) | exact ne_of_none (H := H) (by assumption) (by assumption) | exact (ne_of_none (H := H) (by assumption) (by assumption)).symm | exact ne_of_none (H := A) (by assumption) (by assumption) | exact (ne_of_none (H := A) (by assumption) (by assumption)).symm)
local macro_rules | `(tactic| walk_at "get") => `(tactic| first | assumption | exact upd_same | (refine upd_at ?_ ?_; (focus walk_at "ne"); (walk_at "get")))
local macro_rules | `(tactic| walk_at "nn") => `(tactic| first | assumption | (refine none_upd ?_ ?_; (focus walk_at "ne"); (walk_at "nn")))
local macro_rules | `(tactic| walk_at "same") => `(tactic| first | exact Same.refl _ | assumption | (refine Same.both ?_; walk_at "same") | (refine TP.Same.new ?_ ?_; (focus walk_at "same"); (walk_at "nn")) | (refine Same.put ?_ ?_; (focus walk_at "same"); (walk_at "get")))
local macro_rules | `(tactic| walk_at "noown") => `(tactic| first | exact NoOwn.none (by assumption) | (refine NoOwn.upd ?_ True.intro; walk_at "noown"))
local macro_rules | `(tactic| walk_at "wl") => `(tactic| first | assumption | (refine Wl.put ?_ ?_ True.intro; (focus walk_at "wl"); (walk_at "noown")))
local macro_rules | `(tactic| walk_at "sq") => `(tactic| first | assumption | exact SqL.of (by walk_at "get"))
set_option hygiene false in
local macro_rules | `(tactic| walk_at "f1") => `(tactic| obtain ⟨_, hp⟩ := upd_none hp)
set_option hygiene false in
local macro_rules | `(tactic| walk_at "f2") => `(tactic| (obtain ⟨_, hp⟩ := upd_none hp; obtain ⟨_, hp⟩ := upd_none hp))
set_option hygiene false in
local macro_rules | `(tactic| walk_at "f3") => `(tactic| (obtain ⟨_, hp⟩ := upd_none hp; obtain ⟨_, hp⟩ := upd_none hp; obtain ⟨_, hp⟩ := upd_none hp))
set_option hygiene false in
local macro_rules | `(tactic| walk_at "f4") => `(tactic| (obtain ⟨_, hp⟩ := upd_none hp; obtain ⟨_, hp⟩ := upd_none hp; obtain ⟨_, hp⟩ := upd_none hp; obtain ⟨_, hp⟩ := upd_none hp))
set_option hygiene false in
local macro_rules | `(tactic| walk_at "fa") => `(tactic| first
  | ((with_reducible refine' z_own_prime T ?hv ?hh ?_); (case hv => exact rfl); (case hh => walk_at "get"))
  | ((with_reducible refine' z_own_turns T ?hv ?hh ?_); (case hv => exact rfl); (case hh => walk_at "get"))
  | ((with_reducible refine' z_own_size T ?hv ?hh ?_); (case hv => exact rfl); (case hh => walk_at "get"))
  | ((with_reducible refine' z_own_powers T ?hv ?hh ?_); (case hv => exact rfl); (case hh => walk_at "get"))
  | ((with_reducible refine' z_own_logs T ?hv ?hh ?_); (case hv => exact rfl); (case hh => walk_at "get"))
  | ((with_reducible refine' z_own_field T ?hv ?hh ?_); (case hv => exact rfl); (case hh => walk_at "get"))
  | ((with_reducible refine' z_own_points T ?hv ?hh ?_); (case hv => exact rfl); (case hh => walk_at "get"))
  | ((with_reducible refine' z_own_many T ?hv ?hh ?_); (case hv => exact rfl); (case hh => walk_at "get")))
local macro_rules | `(tactic| walk_at "z") => `(tactic| first
  | with_reducible refine z_seq ?_
  | with_reducible refine z_asg ?_
  | with_reducible refine z_name ?_
  | ((with_reducible refine' z_var ?hv ?_); (case hv => exact rfl))
  | with_reducible refine z_c ?_
  | with_reducible refine z_op ?_
  | with_reducible refine r_I0 ?_
  | ((with_reducible refine r_I ?hc ?_); (case hc => walk_at "ar"))
  | ((with_reducible refine' r_app ?ha ?hz ?_); (case ha => walk_at "get"); (case hz => walk_at "sz"))
  | ((with_reducible refine' z_tyl ?ha ?_); (case ha => walk_at "get"))
  | with_reducible refine z_cons ?_
  | ((with_reducible refine' r_len ?ha ?_); (case ha => walk_at "sq"))
  | with_reducible refine z_nil ?_
  | walk_at "fa"
  | walk_at "fd"
  | with_reducible refine z_test ?_
  | with_reducible refine z_bl ?_
  | with_reducible refine z_tB ?_
  | with_reducible refine r_eq ?_
  | with_reducible refine r_ne ?_
  | with_reducible refine z_ifS ?_
  | with_reducible refine z_ret ?_
  | with_reducible refine z_drop ?_
  | with_reducible refine z_cb ?_
  | with_reducible refine z_call ?_
  | with_reducible refine z_bm ?_
  | with_reducible refine z_bm0 ?_
  | with_reducible refine z_lst ?_
  | with_reducible refine z_tup ?_
  | with_reducible refine z_un ?_
  | with_reducible refine r_U ?_
  | with_reducible refine z_par ?_
  | with_reducible refine z_par3 ?_
  | with_reducible refine z_two ?_
  | with_reducible refine z_three ?_
  | with_reducible refine z_sub ?_
  | with_reducible refine z_for ?_
  | with_reducible refine z_lc ?_
  | with_reducible refine z_ifE ?_
  | with_reducible refine z_and ?_
  | with_reducible refine z_or ?_
  | with_reducible refine z_not ?_
  | with_reducible refine z_yes ?_
  | with_reducible refine z_andV ?_
  | with_reducible refine z_orV ?_
  | with_reducible refine z_notV ?_
  | with_reducible refine z_sl ?_
  | with_reducible refine z_noP ?_
  | with_reducible refine z_part ?_
  | with_reducible refine z_int ?_
  | with_reducible refine z_revL ?_
  | with_reducible refine z_next ?_
  | with_reducible refine z_sf ?_
  | with_reducible refine z_f ?_
  | with_reducible refine z_tf ?_
  | with_reducible refine z_disp ?_
  | with_reducible refine z_pc ?_
  | with_reducible refine z_pn ?_
  | with_reducible refine z_i1 ?_
  | with_reducible refine i_rng3 ?_
  | with_reducible refine z_chain ?_
  | with_reducible refine z_nT ?_
  | with_reducible refine z_nF ?_
  | with_reducible refine z_sfld ?_
  | with_reducible refine i_rng1 ?_
  | with_reducible refine i_rng2 ?_
  | with_reducible refine i_list ?_
  | with_reducible refine i_zip ?_
  | with_reducible refine i_enum ?_
  | with_reducible refine z_tt ?_
  | with_reducible refine z_ff ?_)
local macro_rules | `(tactic| walk_at "zz") => `(tactic| repeat walk_at "z")
set_option hygiene false in
local macro_rules | `(tactic| walk_at "len") => `(tactic| first | (obtain ⟨rfl, _⟩ := h; rfl) | (obtain ⟨_, rfl, _⟩ := h; rfl) | (obtain ⟨_, _, rfl, _⟩ := h; rfl) | (obtain ⟨_, _, _, rfl, _⟩ := h; rfl) | (obtain ⟨_, _, _, _, rfl, _⟩ := h; rfl) | (obtain ⟨_, _, _, _, _, rfl, _⟩ := h; rfl) | (obtain ⟨_, _, _, _, _, _, rfl, _⟩ := h; rfl) | (obtain ⟨_, _, _, _, _, _, _, rfl, _⟩ := h; rfl) | (obtain ⟨_, _, _, _, _, _, _, _, rfl, _⟩ := h; rfl) | (obtain ⟨_, _, _, _, _, _, _, _, _, rfl, _⟩ := h; rfl) | (obtain ⟨_, _, _, _, _, _, _, _, _, _, rfl, _⟩ := h; rfl) | (obtain ⟨_, _, _, _, _, _, _, _, _, _, _, rfl, _⟩ := h; rfl) | (obtain ⟨_, _, _, _, _, _, _, _, _, _, _, _, rfl, _⟩ := h; rfl) | (obtain ⟨_, _, _, _, _, _, _, _, _, _, _, _, _, rfl, _⟩ := h; rfl) | (obtain ⟨_, _, _, _, _, _, _, _, _, _, _, _, _, _, rfl, _⟩ := h; rfl) | (obtain ⟨_, _, _, _, _, _, _, _, _, _, _, _, _, _, _, rfl, _⟩ := h; rfl) | (obtain ⟨_, _, _, _, _, _, _, _, _, _, _, _, _, _, _, _, rfl, _⟩ := h; rfl))
local macro_rules | `(tactic| walk_at "small") => `(tactic| first | exact Nat.zero_le _ | exact (by decide : 1 ≤ sizeLine) | exact (by decide : 2 ≤ sizeLine) | exact (by decide : 3 ≤ sizeLine) | exact (by decide : 4 ≤ sizeLine) | exact (by decide : 5 ≤ sizeLine) | exact (by decide : 6 ≤ sizeLine))
local macro_rules | `(tactic| walk_at "dn") => `(tactic| dsimp only [cxOf, L2.start, List.map, List.length, List.replicate, List.cons_append, List.nil_append, Nat.reduceAdd, Nat.reduceSub, Nat.zero_add])
local macro_rules | `(tactic| walk_at "ar") => `(tactic| first | assumption | (show _ < _; omega) | (show _ < _ ∧ _ < _; omega) | (left; show _ < _ ∧ _ < _; constructor <;> omega) | (right; show _ < _ ∧ _ < _; constructor <;> omega))
local macro_rules | `(tactic| walk_at "sz") => `(tactic| first | omega | (simp only [vN_len, List.length_append, List.length_cons, List.length_nil, List.length_map, List.length_range, List.length_replicate, List.length_set, List.length_take, List.length_drop, List.length_reverse]; omega))
local macro_rules | `(tactic| walk_at "ds") => `(tactic| try dsimp only [List.set])
set_option hygiene false in
local macro_rules | `(tactic| walk_at "endL") => `(tactic| (refine' ⟨_, ?e1, ?e2, ?e3, k p hp⟩; (case e1 => walk_at "same"); (case e2 => walk_at "wl"); (case e3 => exact Prs.same (by walk_at "same"))))
set_option hygiene false in
local macro_rules | `(tactic| walk_at "endS") => `(tactic| exact ⟨H, by walk_at "same", wl, Prs.refl _, k⟩)
set_option hygiene false in
local macro_rules | `(tactic| walk_at "endQ") => `(tactic| (refine' ⟨_, ?e1, ?e2, ?e3, k q hp⟩; (case e1 => walk_at "same"); (case e2 => walk_at "wl"); (case e3 => exact Prs.same (by walk_at "same"))))
local macro_rules | `(tactic| walk_at "f5") => `(tactic| (walk_at "f1"; walk_at "f4"))
local macro_rules | `(tactic| walk_at "f6") => `(tactic| (walk_at "f2"; walk_at "f4"))
local macro_rules | `(tactic| walk_at "f7") => `(tactic| (walk_at "f3"; walk_at "f4"))
set_option hygiene false in
local macro_rules | `(tactic| walk_at "fd") => `(tactic| first
  | ((with_reducible refine' z_w_prime ?hv ?hh ?_); (case hv => exact rfl); (case hh => assumption))
  | ((with_reducible refine' z_w_turns ?hv ?hh ?_); (case hv => exact rfl); (case hh => assumption))
  | ((with_reducible refine' z_w_size ?hv ?hh ?_); (case hv => exact rfl); (case hh => assumption))
  | ((with_reducible refine' z_w_powers ?hv ?hh ?_); (case hv => exact rfl); (case hh => assumption))
  | ((with_reducible refine' z_w_places ?hv ?hh ?_); (case hv => exact rfl); (case hh => assumption))
  | ((with_reducible refine' z_t_prime ?hv ?hh ?_); (case hv => exact rfl); (case hh => assumption))
  | ((with_reducible refine' z_t_modulus ?hv ?hh ?_); (case hv => exact rfl); (case hh => assumption))
  | ((with_reducible refine' z_t_world ?hv ?hh ?_); (case hv => exact rfl); (case hh => assumption))
  | ((with_reducible refine' z_t_points ?hv ?hh ?_); (case hv => exact rfl); (case hh => assumption))
  | ((with_reducible refine' z_t_many ?hv ?hh ?_); (case hv => exact rfl); (case hh => assumption))
  | ((with_reducible refine' z_t_reach ?hv ?hh ?_); (case hv => exact rfl); (case hh => assumption)))
local macro_rules | `(tactic| walk_at "sz") => `(tactic| (simp only [vN_len, digs_len, List.length_reverse]; omega))
section
variable {P : Program} {w : World} {K : PySem.W.Frag} {mg : Str → Option Value} {base : Heap}
theorem sc_letter_turns : FnScope ["prime", "modulus", "found", "turn", "here", "factor"] ["prime", "modulus"] (defScope s_letter_turns) := ⟨rfl, rfl, rfl, by decide +kernel, rfl, by decide +kernel, by decide +kernel⟩
def sp_letter_turns (K : PySem.W.Frag) : Sp := fun vs H Q _ => ∃ (p : Nat) (b : Addr) (md : List Nat) (r : List (List Nat)), vs = [.int p, .ref b] ∧ Wl H ∧ 2 ≤ p ∧ p ≤ 3 ∧ H b = some (.lst (vN md)) ∧ 1 ≤ md.length ∧ md.length ≤ 40 ∧ pLetter p md = some r ∧
  ∀ q H', Same H H' → Wl H' → LL H' q r → Q (.ref q) H'
theorem Wl.lst {A : Hp} {p : Addr} {xs : List V} (w : Wl A) (n : ∀ b, A p ≠ some (.own b)) : Wl (upd A p (.lst xs)) := Wl.put w n trivial
theorem ok_letter_turns (T : Txt K mg) : FnAt P w K mg base 4 "letter_turns" ["prime", "modulus"] (sp_letter_turns K) := by
  refine FnAt.of T 11 11 (d := d_letter_turns) (k := 3) rfl rfl rfl rfl rfl sc_letter_turns (fun _ _ _ _ _ _ us hl => match us, hl with | [_, _], _ => rfl) (fun vs H Q E h => by walk_at "len") (fun f_ cdv A outer s H vs Q E hr h => ?_)
  obtain ⟨p, b, md, r, rfl, wl, h1, h2, hb, hl, hl2, hr2, k⟩ := h
  obtain ⟨z, hz, hg0⟩ := Option.bind_eq_some_iff.mp hr2
  refine ⟨_, (pss_cons (ps_set (i := 2) sc_letter_turns.nd rfl (Or.inl rfl) (pe_lst (pa_cons (pe_callF (ok_poly_rest T) (by decide) hr (by rfl) (pa_cons (pv 0) (pa_cons (pe_lst (pa_cons pe_int (pa_cons pe_int pa_nil))) (pa_cons (pv 1) pa_nil)))) pa_nil)))
    (pss_cons (ps_for PassesOwn.never rfl (pi_range1 (by rfl) T.n_range (pa_cons (pe_op op_sub (pe_callB (call_lenK (K := K) rfl) (by rfl) T.n_len (by decide +kernel) (pa_cons (pv 1) pa_nil)) pe_int) pa_nil)) (pg_name (i := 3) sc_letter_turns.nd rfl (Or.inl rfl))
      (pss_f (pss_cons (ps_set (i := 4) sc_letter_turns.nd rfl (Or.inl rfl) (pe_lst (pa_cons pe_int pa_nil)))
    (pss_cons (ps_for PassesOwn.never rfl (pi_range1 (by rfl) T.n_range (pa_cons (pv 0) pa_nil)) (pg_name (i := 5) sc_letter_turns.nd rfl (Or.inl rfl))
      (pss_f (pss_one (ps_set (i := 4) sc_letter_turns.nd rfl (Or.inl rfl) (pe_callF (ok_poly_times T) (by decide) hr (by rfl) (pa_cons (pv 0) (pa_cons (pv 4) (pa_cons (pe_ix (ix_listK (K := K) rfl) (pv 2) (pe_un un_neg pe_int) (fun _ _ => rfl)) (pa_cons (pv 1) pa_nil)))))))))
    (pss_one (ps_expr (pe_bm PySem.F.plainAttrs_list PySem.F.slot_list_append PySem.F.type_list_append mt_append (pv 2) (pa_cons (pv 4) pa_nil))))))))
    (pss_one (ps_ret (pv 2))))), ?_⟩
  walk_at "dn"
  walk_at "zz"
  refine ⟨by walk_at "small", fun l0 hp => ?_⟩
  walk_at "zz"
  refine ⟨p, l0, b, [0, 1], md, z, rfl, by walk_at "wl", h1, h2, upd_same, by walk_at "get", hz, fun l1 hp => ?_⟩
  walk_at "f1"
  walk_at "zz"
  refine ⟨by walk_at "small", fun l2 hp => ?_⟩
  walk_at "f2"
  walk_at "zz"
  rw [vN_len]
  refine e_rng1 (md.length - 1) (by omega) (by omega) ?_
  walk_at "ds"
  refine lp_of (jw_range (n := md.length - 1)) (fun i st A => ∃ l fs vs y3 y4 y5, st = [some (.int p), some (.ref b), some (.ref l), y3, y4, y5] ∧ Same H A ∧ Wl A ∧ H l = none ∧ A l = some (.lst vs) ∧ Rows A vs fs ∧ vs.length < 1000 + i ∧ 0 < fs.length ∧ letGo p md (md.length - 1 - i) fs = some r)
    ⟨l2, [z], [.ref l1], _, _, _, rfl, by walk_at "same", by walk_at "wl", hp, upd_same, ⟨⟨l1, rfl, by walk_at "get"⟩, True.intro⟩, by simp, by simp, hg0⟩ (fun _ _ _ _ _ => trivial) ?_ ?_
  · rintro i _ A hi ⟨l, fs, vs, y3, y4, y5, rfl, se, wl2, nl, hl3, hrw, hvs, hfs, hg⟩
    walk_at "ds"
    walk_at "zz"
    refine ⟨by walk_at "small", fun l3 hp3 => ?_⟩
    walk_at "zz"
    walk_at "ds"
    refine e_rng1 p rfl (by omega) ?_
    obtain ⟨m, hm⟩ : ∃ m, md.length - 1 - i = m + 1 := ⟨md.length - 1 - i - 1, by omega⟩
    rw [hm] at hg
    obtain ⟨h, hh, hg2⟩ := Option.bind_eq_some_iff.mp hg
    have wl3 : Wl (upd A l3 (.lst [.int 1])) := Wl.put wl2 (NoOwn.none hp3) trivial
    refine lp_of (jw_range (n := p)) (fun j st B => ∃ hh u y5, st = [some (.int p), some (.ref b), some (.ref l), some (.int (0 + (i : Nat))), some (.ref hh), y5] ∧ Same A B ∧ Wl B ∧ B hh = some (.lst (vN u)) ∧ powGo p md (fs.getD (fs.length - 1) []) (p - j) u = some h)
      ⟨l3, [1], _, rfl, Same.new (Same.refl _) hp3, wl3, upd_same, hh⟩ (fun _ _ _ _ _ => trivial) ?_ ?_
    · rintro j _ B hj ⟨hh, u, y5, rfl, se2, wl4, hu, hg3⟩
      walk_at "ds"
      walk_at "zz"
      obtain ⟨a, ea, ha⟩ := hrw.last hfs
      refine r_ixL (SqL.of (se2 _ _ hl3)) (at_end ea) ?_
      walk_at "zz"
      obtain ⟨m2, hm2⟩ : ∃ m2, p - j = m2 + 1 := ⟨p - j - 1, by omega⟩
      rw [hm2] at hg3
      obtain ⟨u2, hu2, hg4⟩ := Option.bind_eq_some_iff.mp hg3
      refine ⟨p, hh, a, b, u, _, md, u2, rfl, wl4, h1, h2, hu, se2 _ _ ha, se2 _ _ (se _ _ hb), hu2, fun q hq => ?_⟩
      walk_at "zz"
      have wl5 : Wl (upd B q (.lst (vN u2))) := Wl.put wl4 (NoOwn.none hq) trivial
      refine ⟨_, Same.refl _, wl5, Prs.same (Same.new (Same.refl _) hq), q, u2, _, rfl, Same.new se2 (se2.free hq), wl5, upd_same, ?_⟩
      have e2 : p - (j + 1) = m2 := by omega
      rw [e2]
      exact hg4
    · rintro _ B ⟨hh, u, y5, rfl, se2, wl4, hu, hg3⟩
      rw [Nat.sub_self] at hg3
      cases hg3
      have hlB := se2 _ _ hl3
      walk_at "zz"
      have wl5 : Wl (upd B l (.lst (vs ++ [.ref hh]))) := Wl.put wl4 (NoOwn.flat (se2 _ _ hl3) trivial) trivial
      have hne : hh ≠ l := fun e => by
        rw [e, se2 _ _ hl3] at hu
        obtain ⟨a, ea, ha⟩ := hrw.last hfs
        obtain ⟨ys, rfl⟩ := List.getLast?_eq_some_iff.mp ea
        have z := congrArg List.getLast? (HO.lst.inj (Option.some.inj hu))
        rw [List.getLast?_append, List.getLast?_singleton] at z
        unfold vN at z
        rw [List.getLast?_map] at z
        cases e3 : h.getLast? with
        | none => rw [e3] at z; cases z
        | some y => rw [e3] at z; cases z
      refine ⟨_, Same.refl _, wl5, ?_, l, fs ++ [h], vs ++ [.ref hh], _, _, _, rfl, Same.new (fun a o e => se2 _ _ (se _ _ e)) nl, wl5, nl, upd_same, ?_, by rw [List.length_append, List.length_singleton]; omega, by rw [List.length_append, List.length_singleton]; omega, ?_⟩
      · exact Prs.trans (Prs.same se2) (Prs.mut (se2 _ _ hl3) (fun z => z))
      · exact Rows.snoc (upd_at hne hu) (Rows.put (hrw.mono se2) (se2 _ _ hl3))
      · have e2 : md.length - 1 - (i + 1) = m := by omega
        rw [e2]
        exact hg2
  · rintro _ A ⟨l, fs, vs, y3, y4, y5, rfl, se, wl2, nl, hl3, hrw, hvs, hfs, hg⟩
    walk_at "zz"
    rw [Nat.sub_self] at hg
    cases hg
    exact ⟨_, Same.refl _, wl2, Prs.same se, k l A se wl2 ⟨vs, hl3, hrw⟩⟩
theorem sc_is_prime : FnScope ["number", "less"] ["number"] (defScope s_is_prime) := ⟨rfl, rfl, rfl, by decide +kernel, rfl, by decide +kernel, by decide +kernel⟩
def sp_is_prime (K : PySem.W.Frag) : Sp := fun vs H Q _ => ∃ (n : Nat), vs = [.int n] ∧ Wl H ∧ 2 ≤ n ∧ n ≤ 1000 ∧ Q (.bl (isPr n)) H
theorem ok_is_prime (T : Txt K mg) : FnAt P w K mg base 1 "is_prime" ["number"] (sp_is_prime K) := by
  refine FnAt.of T 13 13 (d := d_is_prime) (k := 0) rfl rfl rfl rfl rfl sc_is_prime (fun _ _ _ _ _ _ us hl => match us, hl with | [_], _ => rfl) (fun vs H Q E h => by walk_at "len") (fun f_ cdv A outer s H vs Q E hr h => ?_)
  obtain ⟨n, rfl, wl, h1, h2, k⟩ := h
  refine ⟨_, (pss_one (ps_ret (pe_callB (cr_allK (K := K) rfl rfl) (by rfl) T.n_all (by decide +kernel) (pa_cons (pe_lc (own := [("less", 1)]) rfl sc_is_prime.nd (pi_range2 (by rfl) T.n_range (pa_cons pe_int (pa_cons (pv 0) pa_nil))) (blkOk_by (N := ["number", "less"]) (sc := (defScope s_is_prime)) (own := [("less", 1)]) (by decide +kernel)) (fun _ _ _ _ _ => (pg_name (i := 1) sc_is_prime.nd rfl (Or.inl rfl))) (fun _ _ _ _ _ => pts_nil) (fun _ _ _ _ _ => (pe_cmpR op_ne (pe_op op_mod (pv 0) (pv 1)) pe_int (nomark _)))) pa_nil)))), ?_⟩
  walk_at "dn"
  walk_at "zz"
  refine e_rng2 (by omega) ?_
  have e : ((n : Int) - 2).toNat = n - 2 := by omega
  rw [e]
  refine lcl_all jw_range (fun i => .bl (decide (n % (2 + i) ≠ 0))) (by omega) (fun D acc hp => trivial) (fun i _ => rfl) (fun D acc i hp hi R r => ?_) (fun D hp => ?_)
  · walk_at "ds"
    walk_at "zz"
    have e0 : (n : Int) % (2 + (i : Nat)) = ((n % (2 + i) : Nat) : Int) := rfl
    have e1 : decide (n % (2 + i) ≠ 0) = !decide ((n : Int) % (2 + (i : Nat)) = 0) := by
      rw [e0, ← decide_not]
      exact decide_eq_decide.mpr (by omega)
    rw [e1] at r
    exact r
  · walk_at "zz"
    refine r_all (bs := (List.range (n - 2)).map fun i => decide (n % (2 + i) ≠ 0)) (SqL.of (by rw [List.map_map]; exact upd_same)) ?_
    rw [List.all_map]
    exact ⟨H, by walk_at "same", wl, Prs.refl _, k⟩
theorem sc_is_single : FnScope ["prime", "modulus", "many", "found", "parts", "less"] ["prime", "modulus"] (defScope s_is_single) := ⟨rfl, rfl, rfl, by decide +kernel, rfl, by decide +kernel, by decide +kernel⟩
def sp_is_single (K : PySem.W.Frag) : Sp := fun vs H Q _ => ∃ (p : Nat) (b : Addr) (md : List Nat), vs = [.int p, .ref b] ∧ Wl H ∧ 2 ≤ p ∧ p ≤ 3 ∧ H b = some (.lst (vN md)) ∧ 3 ≤ md.length ∧ md.length ≤ 13 ∧ pSingle p md = true ∧ Q (.bl true) H
theorem ok_is_single (T : Txt K mg) : FnAt P w K mg base 5 "is_single" ["prime", "modulus"] (sp_is_single K) := by
  refine FnAt.of T 12 12 (d := d_is_single) (k := 4) rfl rfl rfl rfl rfl sc_is_single (fun _ _ _ _ _ _ us hl => match us, hl with | [_, _], _ => rfl) (fun vs H Q E h => by walk_at "len") (fun f_ cdv A outer s H vs Q E hr h => ?_)
  obtain ⟨p, b, md, rfl, wl, h1, h2, hb, hl, hl2, hs, k⟩ := h
  unfold pSingle at hs
  cases hL : pLetter p md with
  | none => rw [hL] at hs; cases hs
  | some fs =>
    rw [hL] at hs
    dsimp only at hs
    rw [Bool.and_eq_true, Bool.and_eq_true] at hs
    obtain ⟨⟨hg, he⟩, hall⟩ := hs
    unfold goodL at hg
    rw [Bool.and_eq_true] at hg
    have hlen := of_decide_eq_true hg.1
    have hle := hg.2
    replace he := of_decide_eq_true he
    refine ⟨_, (pss_cons (ps_f (ps_asg (pe_tup (pa_cons (pe_op op_sub (pe_callB (call_lenK (K := K) rfl) (by rfl) T.n_len (by decide +kernel) (pa_cons (pv 1) pa_nil)) pe_int) (pa_cons (pe_callF (ok_letter_turns T) (by decide) hr (by rfl) (pa_cons (pv 0) (pa_cons (pv 1) pa_nil))) pa_nil))) (pg_tup (n := 2) rfl (pgs_cons (pg_name (i := 2) sc_is_single.nd rfl (Or.inr rfl)) (pgs_cons (pg_name (i := 3) sc_is_single.nd rfl (Or.inr rfl)) pgs_nil)))))
    (pss_cons (ps_if (pt_cmpR (op_neDK (K := K) rfl hr.units) (pe_ix (ix_listK (K := K) rfl) (pv 3) (pv 2) (fun _ _ => rfl)) (pe_ix (ix_listK (K := K) rfl) (pv 3) pe_int (fun _ _ => rfl)) (nomark _)) (pss_one (ps_ret pe_bl)) pss_nil)
    (pss_cons (ps_setLc (i := 4) (own := [("less", 5)]) rfl sc_is_single.nd rfl rfl (sw_true rfl rfl rfl (by decide +kernel)) (pi_range2 (by rfl) T.n_range (pa_cons pe_int (pa_cons (pe_op op_add (pv 2) pe_int) pa_nil))) (blkOk_by (N := ["prime", "modulus", "many", "found", "parts", "less"]) (sc := (defScope s_is_single)) (own := [("less", 5)]) (by decide +kernel)) (fun _ _ _ _ _ => (pg_name (i := 5) sc_is_single.nd rfl (Or.inl rfl))) (fun _ _ _ _ _ => (pts_one (PW.pt (pw_and (pt_cmpR op_eq (pe_op op_mod (pv 2) (pv 5)) pe_int (nomark _)) (pw_and1 (pt_val (pe_callF (ok_is_prime T) (by decide) hr (by rfl) (pa_cons (pv 5) pa_nil)))))))) (fun _ _ _ _ _ => (pv 5)))
    (pss_one (ps_ret (pe_callB (cr_allK (K := K) rfl rfl) (by rfl) T.n_all (by decide +kernel) (pa_cons (pe_lc (own := [("less", 5)]) rfl sc_is_single.nd (pi_list (pv 4)) (blkOk_by (N := ["prime", "modulus", "many", "found", "parts", "less"]) (sc := (defScope s_is_single)) (own := [("less", 5)]) (by decide +kernel)) (fun _ _ _ _ _ => (pg_name (i := 5) sc_is_single.nd rfl (Or.inl rfl))) (fun _ _ _ _ _ => pts_nil) (fun _ _ _ _ _ => (pe_f (pe_callF (ok_are_apart T) (by decide) hr (by rfl) (pa_cons (pv 0) (pa_cons (pe_callTy (call_listK (K := K) rfl) (by rfl) T.n_list (by decide +kernel) (pa_cons (pv 1) pa_nil)) (pa_cons (pe_callF (ok_poly_less T) (by decide) hr (by rfl) (pa_cons (pv 0) (pa_cons (pe_ix (ix_listK (K := K) rfl) (pv 3) (pe_op op_fdiv (pv 2) (pv 5)) (fun _ _ => rfl)) (pa_cons (pe_ix (ix_listK (K := K) rfl) (pv 3) pe_int (fun _ _ => rfl)) pa_nil)))) pa_nil))))))) pa_nil))))))), ?_⟩
    walk_at "dn"
    walk_at "zz"
    refine ⟨p, b, md, fs, rfl, wl, h1, h2, hb, by omega, by omega, hL, fun q A se wlA hLL => ?_⟩
    obtain ⟨vs, hv, hrw⟩ := hLL
    walk_at "zz"
    refine ⟨by walk_at "small", fun p1 hp1 => ?_⟩
    refine z_gt2 (SqT.of upd_same) ?_
    refine ⟨A, Same.new (Same.refl _) hp1, wlA, Prs.same se, ?_⟩
    have ek : ((vN md).length : Int) - 1 = ((md.length - 1 : Nat) : Int) := by rw [vN_len]; omega
    rw [ek]
    walk_at "ds"
    walk_at "zz"
    obtain ⟨a1, ea1, ha1⟩ := hrw.at (md.length - 1) (by omega)
    obtain ⟨a0, ea0, ha0⟩ := hrw.at 0 (by omega)
    refine r_ixL (SqL.of hv) (atI_nat ea1) ?_
    walk_at "zz"
    refine r_ixL (SqL.of hv) (k := ((0 : Nat) : Int)) (atI_nat ea0) ?_
    refine r_neL (SqL.of ha1) (SqL.of ha0) ?_
    rw [decide_eq_true he]
    walk_at "zz"
    refine e_rng2 (by omega) ?_
    have e : (((md.length - 1 : Nat) : Int) + 1 - 2).toNat = md.length - 2 := by omega
    rw [e]
    refine lcl_val jw_range (fun i => decide ((md.length - 1) % (2 + i) = 0) && isPr (2 + i)) (fun i => .int ((2 + i : Nat) : Int)) (by omega) (fun D acc hp => trivial) (fun i _ => rfl) (fun D acc i hp hi R r => ?_) (fun D acc i hp hi hx R r => ?_) (fun D hp => ?_)
    · walk_at "zz"
      have e0 : ((md.length - 1 : Nat) : Int) % (2 + (i : Nat)) = (((md.length - 1) % (2 + i) : Nat) : Int) := rfl
      rw [e0]
      by_cases hm : (md.length - 1) % (2 + i) = 0
      · rw [decide_eq_true (by omega)]
        rw [decide_eq_true hm] at r
        walk_at "zz"
        refine ⟨2 + i, rfl, by walk_at "wl", by omega, by omega, ?_⟩
        walk_at "zz"
        exact r
      · rw [decide_eq_false (by omega)]
        rw [decide_eq_false hm] at r
        exact r
    · walk_at "zz"
      exact r
    · walk_at "zz"
      have hLl : (upto (md.length - 2) (fun i => decide ((md.length - 1) % (2 + i) = 0) && isPr (2 + i)) fun i => V.int ((2 + i : Nat) : Int)).length ≤ 100 := by
        unfold upto
        rw [List.length_map]
        exact Nat.le_trans (List.length_filter_le _ _) (by rw [List.length_range]; omega)
      refine e_list (SqL.of upd_same) ?_
      walk_at "ds"
      refine lcl_all (jw_list rfl) (fun _ => .bl true) (by omega) (fun D2 acc hp2 => SqL.of (upd_at (ne_of_none (H := upd A D _) upd_same hp2) upd_same)) (fun i _ => rfl) (fun D2 acc i hp2 hi R r => ?_) (fun D2 hp2 => ?_)
      · obtain ⟨j, hj, hpj, ej⟩ := upto_getD hi
        rw [Bool.and_eq_true] at hpj
        rw [ej]
        have hap : pApart p md fs (2 + j) = some true := by
          have z := List.all_eq_true.mp hall j (List.mem_range.mpr hj)
          rw [Bool.or_eq_true] at z
          rcases z with z | z
          · rw [hpj.1, hpj.2] at z
            cases z
          · exact of_decide_eq_true z
        obtain ⟨hnD, hnA⟩ := upd_none hp2
        have sAB : Same A (upd (upd A D (.lst (upto (md.length - 2) (fun i => decide ((md.length - 1) % (2 + i) = 0) && isPr (2 + i)) fun i => V.int ((2 + i : Nat) : Int)))) D2 (.lst acc)) := Same.new (Same.new (Same.refl _) hp) hnA
        have wlB : Wl (upd (upd A D (.lst (upto (md.length - 2) (fun i => decide ((md.length - 1) % (2 + i) = 0) && isPr (2 + i)) fun i => V.int ((2 + i : Nat) : Int)))) D2 (.lst acc)) := Wl.put (Wl.put wlA (NoOwn.none hp) trivial) (NoOwn.none hp2) trivial
        generalize upd (upd A D _) D2 (.lst acc) = B at r sAB wlB ⊢
        have hf : ∀ i, i < fs.length → (fs.getD i []).length ≤ 40 := fun i hi => by
          rw [List.getD_eq_getElem?_getD, List.getElem?_eq_getElem hi]
          exact of_decide_eq_true (List.all_eq_true.mp hle fs[i] (List.getElem_mem hi))
        walk_at "ds"
        walk_at "zz"
        refine r_list (xs := vN md) (SqL.of (sAB _ _ (se _ _ hb))) fun p3 hp3 => ?_
        have sBC : Same B (upd B p3 (.lst (vN md))) := Same.new (Same.refl _) hp3
        have wlC : Wl (upd B p3 (.lst (vN md))) := Wl.put wlB (NoOwn.none hp3) trivial
        walk_at "zz"
        have e0 : ((md.length - 1 : Nat) : Int) / ((2 + j : Nat) : Int) = (((md.length - 1) / (2 + j) : Nat) : Int) := rfl
        rw [e0]
        have hdl : (md.length - 1) / (2 + j) < fs.length := by
          have := Nat.div_le_self (md.length - 1) (2 + j)
          omega
        obtain ⟨ax, eax, hax⟩ := hrw.at _ hdl
        refine r_ixL (SqL.of (sBC _ _ (sAB _ _ hv))) (atI_nat eax) ?_
        walk_at "zz"
        refine r_ixL (SqL.of (sBC _ _ (sAB _ _ hv))) (k := ((0 : Nat) : Int)) (atI_nat ea0) ?_
        walk_at "zz"
        refine ⟨p, ax, a0, _, _, rfl, wlC, h1, h2, sBC _ _ (sAB _ _ hax), sBC _ _ (sAB _ _ ha0), hf _ hdl, hf _ (by omega), fun q2 hq2 => ?_⟩
        walk_at "zz"
        exact ⟨p, p3, q2, md, _, true, rfl, Wl.put wlC (NoOwn.none hq2) trivial, h1, h2, upd_at (ne_of_none upd_same hq2) upd_same, upd_same, hap, B, Same.new (Same.new (Same.refl _) hp3) (sBC.free hq2), wlB, Prs.refl _, r⟩
      · walk_at "zz"
        refine r_all (bs := (List.range _).map fun i => true) (SqL.of (by rw [List.map_map]; exact upd_same)) ?_
        rw [List.all_map]
        have e1 : ∀ n, (List.range n).all (id ∘ fun _ => true) = true := fun n => List.all_eq_true.mpr fun _ _ => rfl
        rw [e1]
        exact ⟨H, Same.new (Same.new se (se.free hp)) (se.free (upd_none hp2).2), wl, Prs.refl _, k⟩
end
end TP
/-! part Q8 -/
set_option maxHeartbeats 1000000
namespace TP
open PySem PySem.Spec PyProof.Rows L2
set_option hygiene false in
local macro_rules | `(tactic| walk_at "ne") => `(tactic| first | assumption | exact Ne.symm (by assumption) | exact ne_of_none (H := H) (by assumption) (by assumption) | exact (ne_of_none (H := H) (by assumption) (by assumption)).symm | exact ne_of_none (H := A) (by assumption) (by assumption) | exact (ne_of_none (H := A) (by assumption) (by assumption)).symm)
local macro_rules | `(tactic| walk_at "get") => `(tactic| first | assumption | exact upd_same | (refine upd_at ?_ ?_; (focus walk_at "ne"); (walk_at "get")))
local macro_rules | `(tactic| walk_at "nn") => `(tactic| first | assumption | (refine none_upd ?_ ?_; (focus walk_at "ne"); (walk_at "nn")))
local macro_rules | `(tactic| walk_at "same") => `(tactic| first | exact Same.refl _ | assumption | (refine Same.both ?_; walk_at "same") | (refine TP.Same.new ?_ ?_; (focus walk_at "same"); (walk_at "nn")) | (refine Same.put ?_ ?_; (focus walk_at "same"); (walk_at "get")))
local macro_rules | `(tactic| walk_at "noown") => `(tactic| first | exact NoOwn.none (by assumption) | (refine NoOwn.upd ?_ True.intro; walk_at "noown"))
local macro_rules | `(tactic| walk_at "wl") => `(tactic| first | assumption | (refine Wl.put ?_ ?_ True.intro; (focus walk_at "wl"); (walk_at "noown")))
local macro_rules | `(tactic| walk_at "sq") => `(tactic| first | assumption | exact SqL.of (by walk_at "get"))
set_option hygiene false in
local macro_rules | `(tactic| walk_at "f1") => `(tactic| obtain ⟨_, hp⟩ := upd_none hp)
set_option hygiene false in
local macro_rules | `(tactic| walk_at "f2") => `(tactic| (obtain ⟨_, hp⟩ := upd_none hp; obtain ⟨_, hp⟩ := upd_none hp))
set_option hygiene false in
local macro_rules | `(tactic| walk_at "f3") => `(tactic| (obtain ⟨_, hp⟩ := upd_none hp; obtain ⟨_, hp⟩ := upd_none hp; obtain ⟨_, hp⟩ := upd_none hp))
set_option hygiene false in
local macro_rules | `(tactic| walk_at "f4") => `(tactic| (obtain ⟨_, hp⟩ := upd_none hp; obtain ⟨_, hp⟩ := upd_none hp; obtain ⟨_, hp⟩ := upd_none hp; obtain ⟨_, hp⟩ := upd_none hp))
set_option hygiene false in
local macro_rules | `(tactic| walk_at "fa") => `(tactic| first
  | ((with_reducible refine' z_own_prime T ?hv ?hh ?_); (case hv => exact rfl); (case hh => walk_at "get"))
  | ((with_reducible refine' z_own_turns T ?hv ?hh ?_); (case hv => exact rfl); (case hh => walk_at "get"))
  | ((with_reducible refine' z_own_size T ?hv ?hh ?_); (case hv => exact rfl); (case hh => walk_at "get"))
  | ((with_reducible refine' z_own_powers T ?hv ?hh ?_); (case hv => exact rfl); (case hh => walk_at "get"))
  | ((with_reducible refine' z_own_logs T ?hv ?hh ?_); (case hv => exact rfl); (case hh => walk_at "get"))
  | ((with_reducible refine' z_own_field T ?hv ?hh ?_); (case hv => exact rfl); (case hh => walk_at "get"))
  | ((with_reducible refine' z_own_points T ?hv ?hh ?_); (case hv => exact rfl); (case hh => walk_at "get"))
  | ((with_reducible refine' z_own_many T ?hv ?hh ?_); (case hv => exact rfl); (case hh => walk_at "get")))
local macro_rules | `(tactic| walk_at "z") => `(tactic| first
  | with_reducible refine z_seq ?_
  | with_reducible refine z_asg ?_
  | with_reducible refine z_name ?_
  | ((with_reducible refine' z_var ?hv ?_); (case hv => exact rfl))
  | with_reducible refine z_c ?_
  | with_reducible refine z_op ?_
  | with_reducible refine r_I0 ?_
  | ((with_reducible refine r_I ?hc ?_); (case hc => walk_at "ar"))
  | ((with_reducible refine' r_app ?ha ?hz ?_); (case ha => walk_at "get"); (case hz => walk_at "sz"))
  | ((with_reducible refine' z_tyl ?ha ?_); (case ha => walk_at "get"))
  | with_reducible refine z_cons ?_
  | ((with_reducible refine' r_len ?ha ?_); (case ha => walk_at "sq"))
  | with_reducible refine z_nil ?_
  | walk_at "fa"
  | walk_at "fd"
  | with_reducible refine z_test ?_
  | with_reducible refine z_bl ?_
  | with_reducible refine z_tB ?_
  | with_reducible refine r_eq ?_
  | with_reducible refine r_ne ?_
  | with_reducible refine z_ifS ?_
  | with_reducible refine z_ret ?_
  | with_reducible refine z_drop ?_
  | with_reducible refine z_cb ?_
  | with_reducible refine z_call ?_
  | with_reducible refine z_bm ?_
  | with_reducible refine z_bm0 ?_
  | with_reducible refine z_lst ?_
  | with_reducible refine z_tup ?_
  | with_reducible refine z_un ?_
  | with_reducible refine r_U ?_
  | with_reducible refine z_par ?_
  | with_reducible refine z_par3 ?_
  | with_reducible refine z_two ?_
  | with_reducible refine z_three ?_
  | with_reducible refine z_sub ?_
  | with_reducible refine z_for ?_
  | with_reducible refine z_lc ?_
  | with_reducible refine z_ifE ?_
  | with_reducible refine z_and ?_
  | with_reducible refine z_or ?_
  | with_reducible refine z_not ?_
  | with_reducible refine z_yes ?_
  | with_reducible refine z_andV ?_
  | with_reducible refine z_orV ?_
  | with_reducible refine z_notV ?_
  | with_reducible refine z_sl ?_
  | with_reducible refine z_noP ?_
  | with_reducible refine z_part ?_
  | with_reducible refine z_int ?_
  | with_reducible refine z_revL ?_
  | with_reducible refine z_next ?_
  | with_reducible refine z_sf ?_
  | with_reducible refine z_f ?_
  | with_reducible refine z_tf ?_
  | with_reducible refine z_disp ?_
  | with_reducible refine z_pc ?_
  | with_reducible refine z_pn ?_
  | with_reducible refine z_i1 ?_
  | with_reducible refine i_rng3 ?_
  | with_reducible refine z_chain ?_
  | with_reducible refine z_nT ?_
  | with_reducible refine z_nF ?_
  | with_reducible refine z_sfld ?_
  | with_reducible refine i_rng1 ?_
  | with_reducible refine i_rng2 ?_
  | with_reducible refine i_list ?_
  | with_reducible refine i_zip ?_
  | with_reducible refine i_enum ?_
  | with_reducible refine z_tt ?_
  | with_reducible refine z_ff ?_)
local macro_rules | `(tactic| walk_at "zz") => `(tactic| repeat walk_at "z")
set_option hygiene false in
local macro_rules | `(tactic| walk_at "len") => `(tactic| first | (obtain ⟨rfl, _⟩ := h; rfl) | (obtain ⟨_, rfl, _⟩ := h; rfl) | (obtain ⟨_, _, rfl, _⟩ := h; rfl) | (obtain ⟨_, _, _, rfl, _⟩ := h; rfl) | (obtain ⟨_, _, _, _, rfl, _⟩ := h; rfl) | (obtain ⟨_, _, _, _, _, rfl, _⟩ := h; rfl) | (obtain ⟨_, _, _, _, _, _, rfl, _⟩ := h; rfl) | (obtain ⟨_, _, _, _, _, _, _, rfl, _⟩ := h; rfl) | (obtain ⟨_, _, _, _, _, _, _, _, rfl, _⟩ := h; rfl) | (obtain ⟨_, _, _, _, _, _, _, _, _, rfl, _⟩ := h; rfl) | (obtain ⟨_, _, _, _, _, _, _, _, _, _, rfl, _⟩ := h; rfl) | (obtain ⟨_, _, _, _, _, _, _, _, _, _, _, rfl, _⟩ := h; rfl) | (obtain ⟨_, _, _, _, _, _, _, _, _, _, _, _, rfl, _⟩ := h; rfl) | (obtain ⟨_, _, _, _, _, _, _, _, _, _, _, _, _, rfl, _⟩ := h; rfl) | (obtain ⟨_, _, _, _, _, _, _, _, _, _, _, _, _, _, rfl, _⟩ := h; rfl) | (obtain ⟨_, _, _, _, _, _, _, _, _, _, _, _, _, _, _, rfl, _⟩ := h; rfl) | (obtain ⟨_, _, _, _, _, _, _, _, _, _, _, _, _, _, _, _, rfl, _⟩ := h; rfl))
local macro_rules | `(tactic| walk_at "small") => `(tactic| first | exact Nat.zero_le _ | exact (by decide : 1 ≤ sizeLine) | exact (by decide : 2 ≤ sizeLine) | exact (by decide : 3 ≤ sizeLine) | exact (by decide : 4 ≤ sizeLine) | exact (by decide : 5 ≤ sizeLine) | exact (by decide : 6 ≤ sizeLine))
local macro_rules | `(tactic| walk_at "dn") => `(tactic| dsimp only [cxOf, L2.start, List.map, List.length, List.replicate, List.cons_append, List.nil_append, Nat.reduceAdd, Nat.reduceSub, Nat.zero_add])
local macro_rules | `(tactic| walk_at "ar") => `(tactic| first | assumption | (show _ < _; omega) | (show _ < _ ∧ _ < _; omega) | (left; show _ < _ ∧ _ < _; constructor <;> omega) | (right; show _ < _ ∧ _ < _; constructor <;> omega))
local macro_rules | `(tactic| walk_at "sz") => `(tactic| first | omega | (simp only [vN_len, List.length_append, List.length_cons, List.length_nil, List.length_map, List.length_range, List.length_replicate, List.length_set, List.length_take, List.length_drop, List.length_reverse]; omega))
local macro_rules | `(tactic| walk_at "ds") => `(tactic| try dsimp only [List.set])
set_option hygiene false in
local macro_rules | `(tactic| walk_at "endL") => `(tactic| (refine' ⟨_, ?e1, ?e2, ?e3, k p hp⟩; (case e1 => walk_at "same"); (case e2 => walk_at "wl"); (case e3 => exact Prs.same (by walk_at "same"))))
set_option hygiene false in
local macro_rules | `(tactic| walk_at "endS") => `(tactic| exact ⟨H, by walk_at "same", wl, Prs.refl _, k⟩)
set_option hygiene false in
local macro_rules | `(tactic| walk_at "endQ") => `(tactic| (refine' ⟨_, ?e1, ?e2, ?e3, k q hp⟩; (case e1 => walk_at "same"); (case e2 => walk_at "wl"); (case e3 => exact Prs.same (by walk_at "same"))))
local macro_rules | `(tactic| walk_at "f5") => `(tactic| (walk_at "f1"; walk_at "f4"))
local macro_rules | `(tactic| walk_at "f6") => `(tactic| (walk_at "f2"; walk_at "f4"))
local macro_rules | `(tactic| walk_at "f7") => `(tactic| (walk_at "f3"; walk_at "f4"))
set_option hygiene false in
local macro_rules | `(tactic| walk_at "fd") => `(tactic| first
  | ((with_reducible refine' z_w_prime ?hv ?hh ?_); (case hv => exact rfl); (case hh => assumption))
  | ((with_reducible refine' z_w_turns ?hv ?hh ?_); (case hv => exact rfl); (case hh => assumption))
  | ((with_reducible refine' z_w_size ?hv ?hh ?_); (case hv => exact rfl); (case hh => assumption))
  | ((with_reducible refine' z_w_powers ?hv ?hh ?_); (case hv => exact rfl); (case hh => assumption))
  | ((with_reducible refine' z_w_places ?hv ?hh ?_); (case hv => exact rfl); (case hh => assumption))
  | ((with_reducible refine' z_t_prime ?hv ?hh ?_); (case hv => exact rfl); (case hh => assumption))
  | ((with_reducible refine' z_t_modulus ?hv ?hh ?_); (case hv => exact rfl); (case hh => assumption))
  | ((with_reducible refine' z_t_world ?hv ?hh ?_); (case hv => exact rfl); (case hh => assumption))
  | ((with_reducible refine' z_t_points ?hv ?hh ?_); (case hv => exact rfl); (case hh => assumption))
  | ((with_reducible refine' z_t_many ?hv ?hh ?_); (case hv => exact rfl); (case hh => assumption))
  | ((with_reducible refine' z_t_reach ?hv ?hh ?_); (case hv => exact rfl); (case hh => assumption)))
local macro_rules | `(tactic| walk_at "sz") => `(tactic| (simp only [vN_len, digs_len, List.length_reverse]; omega))
section
variable {P : Program} {w : World} {K : PySem.W.Frag} {mg : Str → Option Value} {base : Heap}
theorem sc_want_prime : FnScope ["prime"] ["prime"] (defScope s_want_prime) := ⟨rfl, rfl, rfl, by decide +kernel, rfl, by decide +kernel, by decide +kernel⟩
def sp_want_prime (K : PySem.W.Frag) : Sp := fun vs H Q _ => ∃ (p : Nat), vs = [.int p] ∧ Wl H ∧ 2 ≤ p ∧ p ≤ 3 ∧ Q .non H
theorem ok_want_prime (T : Txt K mg) : FnAt P w K mg base 3 "want_prime" ["prime"] (sp_want_prime K) := by
  refine FnAt.of T 14 14 (d := d_want_prime) (k := 2) rfl rfl rfl rfl rfl sc_want_prime (fun _ _ _ _ _ _ us hl => match us, hl with | [_], _ => rfl) (fun vs H Q E h => by walk_at "len") (fun f_ cdv A outer s H vs Q E hr h => ?_)
  obtain ⟨p, rfl, wl, h1, h2, k⟩ := h
  refine ⟨_, (pss_one (ps_if (PW.pt (pw_or (pt_not (pt_val (pe_callF (ok_is_count T) (by decide) hr (by rfl) (pa_cons (pv 0) pa_nil)))) (pw_or1 (pt_cmpR (op_notInK (K := K) rfl) (pv 0) (pe_glob (v := .ref (He.ga K "PRIMES")) (by rfl) T.g_PRIMES rfl) (by rfl))))) (pss_one ps_never) pss_nil)), ?_⟩
  walk_at "dn"
  walk_at "zz"
  refine ⟨p, rfl, wl, ?_⟩
  walk_at "zz"
  refine z_ndec (fun h => absurd h1 (by omega)) (fun _ => ?_)
  walk_at "zz"
  refine ⟨_, _, rfl, .inr (T.primes H), rfl, rfl, ?_⟩
  obtain rfl | rfl : p = 2 ∨ p = 3 := by omega
  · refine ⟨false, by decide +kernel, ?_⟩
    exact ⟨H, Same.refl _, wl, Prs.refl _, k⟩
  · refine ⟨false, by decide +kernel, ?_⟩
    exact ⟨H, Same.refl _, wl, Prs.refl _, k⟩
theorem all_true : ∀ n, ((List.range n).map fun _ => true).all id = true := fun n => List.all_eq_true.mpr fun x h => by
  obtain ⟨_, _, e⟩ := List.mem_map.mp h
  rw [← e]
  rfl
theorem sc_is_figures : FnScope ["prime", "value", "many", "one"] ["prime", "value", "many"] (defScope s_is_figures) := ⟨rfl, rfl, rfl, by decide +kernel, rfl, by decide +kernel, by decide +kernel⟩
def sp_is_figures (K : PySem.W.Frag) : Sp := fun vs H Q _ => ∃ (p m : Nat) (a : Addr) (ns : List Nat), vs = [.int p, .ref a, .int m] ∧ Wl H ∧ H a = some (.lst (vN ns)) ∧ ns.length = m ∧ ns.length ≤ 40 ∧ Bel p ns ∧ Q (.bl true) H
theorem ok_is_figures (T : Txt K mg) : FnAt P w K mg base 3 "is_figures" ["prime", "value", "many"] (sp_is_figures K) := by
  refine FnAt.of T 15 15 (d := d_is_figures) (k := 2) rfl rfl rfl rfl rfl sc_is_figures (fun _ _ _ _ _ _ us hl => match us, hl with | [_, _, _], _ => rfl) (fun vs H Q E h => by walk_at "len") (fun f_ cdv A outer s H vs Q E hr h => ?_)
  obtain ⟨p, m, a, ns, rfl, wl, ha, hm, hl, hb, k⟩ := h
  refine ⟨_, (pss_one (ps_ret (pe_and (pe_callF (ok_is_list T) (by decide) hr (by rfl) (pa_cons (pv 1) pa_nil)) (pe_and (pe_cmpR op_eq (pe_callB (call_lenK (K := K) rfl) (by rfl) T.n_len (by decide +kernel) (pa_cons (pv 1) pa_nil)) (pv 2) (nomark _)) (pe_one (pe_callB (cr_allK (K := K) rfl rfl) (by rfl) T.n_all (by decide +kernel) (pa_cons (pe_lc (own := [("one", 3)]) rfl sc_is_figures.nd (pi_list (pv 1)) (blkOk_by (N := ["prime", "value", "many", "one"]) (sc := (defScope s_is_figures)) (own := [("one", 3)]) (by decide +kernel)) (fun _ _ _ _ _ => (pg_name (i := 3) sc_is_figures.nd rfl (Or.inl rfl))) (fun _ _ _ _ _ => pts_nil) (fun _ _ _ _ _ => (pe_and (pe_callF (ok_is_count T) (by decide) hr (by rfl) (pa_cons (pv 3) pa_nil)) (pe_one (pe_cmpR op_lt (pv 3) (pv 0) (nomark _)))))) pa_nil))))))), ?_⟩
  walk_at "dn"
  walk_at "zz"
  refine ⟨a, _, rfl, wl, ha, ?_⟩
  walk_at "zz"
  rw [vN_len]
  refine z_dec (fun _ => ?_) (fun h => absurd (congrArg Int.ofNat hm) h)
  walk_at "zz"
  refine e_list (xs := vN ns) (SqL.of ha) ?_
  refine lcl_all (jw_list (n := ns.length) (vN_len ns)) (fun _ => .bl true) (by omega) (fun D acc hp => by walk_at "sq") (fun i _ => rfl) (fun D acc i hp hi R r => ?_) (fun D hp => ?_)
  · rw [vN_getD hi]
    walk_at "ds"
    walk_at "zz"
    refine ⟨_, rfl, by walk_at "wl", ?_⟩
    walk_at "zz"
    have := hb i hi
    rw [decide_eq_true (by omega)]
    walk_at "zz"
    rw [decide_eq_true (by omega)]
    exact r
  · walk_at "zz"
    refine r_all (bs := (List.range _).map fun i => true) (SqL.of (by rw [List.map_map]; exact upd_same)) ?_
    rw [all_true]
    walk_at "endS"
theorem sc_told_number : FnScope ["prime", "poly", "found", "one"] ["prime", "poly"] (defScope s_told_number) := ⟨rfl, rfl, rfl, by decide +kernel, rfl, by decide +kernel, by decide +kernel⟩
def sp_told_number (K : PySem.W.Frag) : Sp := fun vs H Q _ => ∃ (p : Nat) (r : Addr) (ds : List Nat), vs = [.int p, .ref r] ∧ Wl H ∧ p ≤ 3 ∧ H r = some (.lst (vN ds)) ∧ Q (.int (num p ds)) H
theorem ok_told_number (T : Txt K mg) : FnAt P w K mg base 1 "told_number" ["prime", "poly"] (sp_told_number K) := by
  refine FnAt.of T 17 17 (d := d_told_number) (k := 0) rfl rfl rfl rfl rfl sc_told_number (fun _ _ _ _ _ _ us hl => match us, hl with | [_, _], _ => rfl) (fun vs H Q E h => by walk_at "len") (fun f_ cdv A outer s H vs Q E hr h => ?_)
  obtain ⟨p, r, ds, rfl, wl, hp0, hr0, k⟩ := h
  refine ⟨_, (pss_cons (ps_set (i := 2) sc_told_number.nd rfl (Or.inl rfl) pe_int)
    (pss_cons (ps_for PassesOwn.never rfl (pi_list (pe_revL (pv 1))) (pg_name (i := 3) sc_told_number.nd rfl (Or.inl rfl))
      (pss_one (ps_set (i := 2) sc_told_number.nd rfl (Or.inl rfl) (pe_op op_add (pe_op op_mul (pv 2) (pv 0)) (pv 3)))))
    (pss_one (ps_ret (pv 2))))), ?_⟩
  walk_at "dn"
  walk_at "zz"
  refine ⟨r, _, rfl, SqL.of hr0, fun l hp => ?_⟩
  walk_at "zz"
  refine e_list (xs := vN ds.reverse) (by rw [← vN_rev]; walk_at "sq") ?_
  walk_at "ds"
  refine lp_of (jw_list (xs := vN ds.reverse) (n := ds.length) (by rw [vN_len, List.length_reverse])) (fun i st A => ∃ y, st = [some (.int p), some (.ref r), some (.int (((ds.reverse.take i).foldl (fun a d => a * p + d) 0 : Nat))), y] ∧ A = upd H l (.lst (vN ds.reverse))) ⟨none, by simp, by rw [vN_rev]⟩
    (fun i st A _ h => by obtain ⟨_, _, rfl⟩ := h; exact SqL.of upd_same) ?_ ?_
  · rintro i _ _ hi ⟨y, rfl, rfl⟩
    have hi2 : i < ds.reverse.length := by rw [List.length_reverse]; exact hi
    rw [vN_getD hi2]
    walk_at "ds"
    walk_at "zz"
    refine' ⟨_, ?e1, rfl⟩
    case e1 =>
      rw [List.take_add_one, List.getElem?_eq_getElem hi2, Option.toList_some, List.foldl_append, List.getD_eq_getElem?_getD, List.getElem?_eq_getElem hi2]
      rfl
  · rintro _ _ ⟨y, rfl, rfl⟩
    walk_at "zz"
    rw [List.take_of_length_le (by rw [List.length_reverse]; exact Nat.le_refl _), ← num_rev]
    walk_at "endS"
theorem sc_poly_of : FnScope ["prime", "number", "found", "left"] ["prime", "number"] (defScope s_poly_of) := ⟨rfl, rfl, rfl, by decide +kernel, rfl, by decide +kernel, by decide +kernel⟩
def sp_poly_of (K : PySem.W.Frag) : Sp := fun vs H Q _ => ∃ (p x : Nat) (r : List Nat), vs = [.int p, .int x] ∧ Wl H ∧ 2 ≤ p ∧ p ≤ 3 ∧ figs p 20 x [] = some r ∧ ∀ q, H q = none → Q (.ref q) (upd H q (.lst (vN r)))
theorem ok_poly_of (T : Txt K mg) : FnAt P w K mg base 1 "poly_of" ["prime", "number"] (sp_poly_of K) := by
  refine FnAt.of T 18 18 (d := d_poly_of) (k := 0) rfl rfl rfl rfl rfl sc_poly_of (fun _ _ _ _ _ _ us hl => match us, hl with | [_, _], _ => rfl) (fun vs H Q E h => by walk_at "len") (fun f_ cdv A outer s H vs Q E hr h => ?_)
  obtain ⟨p, x, r, rfl, wl, h1, h2, hg0, k⟩ := h
  refine ⟨_, (pss_cons (ps_par (i := 2) (j := 3) rfl sc_poly_of.nd rfl rfl (by decide) rfl rfl (pa_cons (pe_lst pa_nil) (pa_cons (pv 1) pa_nil)) (by rfl))
    (pss_cons (ps_while PassesOwn.never (pt_cmpR op_gt (pv 3) pe_int (nomark _))
      (pss_cons (ps_expr (pe_bm PySem.F.plainAttrs_list PySem.F.slot_list_append PySem.F.type_list_append mt_append (pv 2) (pa_cons (pe_op op_mod (pv 3) (pv 0)) pa_nil)))
    (pss_one (ps_set (i := 3) sc_poly_of.nd rfl (Or.inl rfl) (pe_op op_fdiv (pv 3) (pv 0))))))
    (pss_one (ps_ret (pv 2))))), ?_⟩
  walk_at "dn"
  walk_at "zz"
  refine ⟨by walk_at "small", fun l hp => ?_⟩
  walk_at "zz"
  walk_at "ds"
  refine z_whileB (X := Nat × Nat × List Nat) (fun z st A => st = [some (.int p), some (.int x), some (.ref l), some (.int z.2.1)] ∧ A = upd H l (.lst (vN z.2.2)) ∧ z.2.2.length + z.1 ≤ 20 ∧ figs p z.1 z.2.1 z.2.2 = some r) (fun z => z.1) (20, x, []) ⟨rfl, rfl, by simp, hg0⟩ ?_
  rintro ⟨n, y, ds⟩ _ _ ⟨rfl, rfl, hl, hg⟩
  cases n with
  | zero => cases hg
  | succ n =>
    dsimp only at hl hg ⊢
    by_cases hc : 0 < y
    · have hg2 : figs p n (y / p) (ds ++ [y % p]) = some r := by
        rw [← hg]
        exact (if_pos hc).symm
      refine ⟨true, fun R r => ?_, fun _ => ?_, nofun⟩
      · walk_at "zz"
        rw [decide_eq_true (by omega)]
        exact r
      · walk_at "zz"
        refine ⟨(n, y / p, ds ++ [y % p]), Nat.lt_succ_self n, rfl, ?_, by rw [List.length_append, List.length_singleton]; dsimp only; omega, hg2⟩
        rw [upd_put, vN_app]
        rfl
    · refine ⟨false, fun R r => ?_, nofun, fun _ => ?_⟩
      · walk_at "zz"
        rw [decide_eq_false (by omega)]
        exact r
      · walk_at "zz"
        have e : ds = r := by
          have z : figs p (n + 1) y ds = some ds := if_neg hc
          rw [z] at hg
          exact Option.some.inj hg
        rw [e]
        exact ⟨_, Same.refl _, by walk_at "wl", Prs.same (by walk_at "same"), k l hp⟩
theorem sc_sized : FnScope ["prime", "many", "found", "turn"] ["prime", "many"] (defScope s_sized) := ⟨rfl, rfl, rfl, by decide +kernel, rfl, by decide +kernel, by decide +kernel⟩
def sp_sized (K : PySem.W.Frag) : Sp := fun vs H Q _ => ∃ (p m : Nat), vs = [.int p, .int m] ∧ Wl H ∧ p ≤ 3 ∧ m ≤ 12 ∧ Q (.int ((p ^ m : Nat))) H
theorem ok_sized (T : Txt K mg) : FnAt P w K mg base 1 "sized" ["prime", "many"] (sp_sized K) := by
  refine FnAt.of T 22 22 (d := d_sized) (k := 0) rfl rfl rfl rfl rfl sc_sized (fun _ _ _ _ _ _ us hl => match us, hl with | [_, _], _ => rfl) (fun vs H Q E h => by walk_at "len") (fun f_ cdv A outer s H vs Q E hr h => ?_)
  obtain ⟨p, m, rfl, wl, h1, h2, k⟩ := h
  refine ⟨_, (pss_cons (ps_set (i := 2) sc_sized.nd rfl (Or.inl rfl) pe_int)
    (pss_cons (ps_for PassesOwn.never rfl (pi_range1 (by rfl) T.n_range (pa_cons (pv 1) pa_nil)) (pg_name (i := 3) sc_sized.nd rfl (Or.inl rfl))
      (pss_one (ps_set (i := 2) sc_sized.nd rfl (Or.inl rfl) (pe_op op_mul (pv 2) (pv 0)))))
    (pss_one (ps_ret (pv 2))))), ?_⟩
  walk_at "dn"
  walk_at "zz"
  refine e_rng1 m rfl (by omega) ?_
  walk_at "ds"
  refine lp_of (jw_range (n := m)) (fun i st A => ∃ y, st = [some (.int p), some (.int m), some (.int ((p ^ i : Nat))), y] ∧ H = A) ⟨_, rfl, rfl⟩ (fun _ _ _ _ _ => trivial) ?_ ?_
  · rintro i _ _ hi ⟨y, rfl, rfl⟩
    walk_at "ds"
    walk_at "zz"
    exact ⟨_, rfl, rfl⟩
  · rintro _ _ ⟨y, rfl, rfl⟩
    walk_at "zz"
    walk_at "endS"
theorem sc_logs_by : FnScope ["powers", "size", "found", "place", "number"] ["powers", "size"] (defScope s_logs_by) := ⟨rfl, rfl, rfl, by decide +kernel, rfl, by decide +kernel, by decide +kernel⟩
def sp_logs_by (K : PySem.W.Frag) : Sp := fun vs H Q _ => ∃ (F : Fd) (a : Addr), vs = [.ref a, .int F.q] ∧ Wl H ∧ FOK F ∧ H a = some (.lst (vN F.pw)) ∧ ∀ q, H q = none → Q (.ref q) (upd H q (.lst (vL F)))
def logsV (pw : List Nat) (q : Nat) : Nat → List V
  | 0 => List.replicate q (.int (-1))
  | i + 1 => (logsV pw q i).set (pw.getD i 0) (.int (i : Nat))
theorem logsV_len (pw : List Nat) (q : Nat) : ∀ i, (logsV pw q i).length = q
  | 0 => List.length_replicate
  | i + 1 => by
    show ((logsV pw q i).set _ _).length = q
    rw [List.length_set]
    exact logsV_len pw q i
theorem FOK.logs {F : Fd} (h : FOK F) : logsV F.pw F.q F.pw.length = vL F := h.all (C := fun F => logsV F.pw F.q F.pw.length = vL F) (by decide +kernel) (by decide +kernel) (by decide +kernel) (by decide +kernel)
theorem ok_logs_by (T : Txt K mg) : FnAt P w K mg base 1 "logs_by" ["powers", "size"] (sp_logs_by K) := by
  refine FnAt.of T 21 21 (d := d_logs_by) (k := 0) rfl rfl rfl rfl rfl sc_logs_by (fun _ _ _ _ _ _ us hl => match us, hl with | [_, _], _ => rfl) (fun vs H Q E h => by walk_at "len") (fun f_ cdv A outer s H vs Q E hr h => ?_)
  obtain ⟨F, a, rfl, wl, ok, ha, k⟩ := h
  have hq := ok.q
  have hpl := ok.pwl
  refine ⟨_, (pss_cons (ps_set (i := 2) sc_logs_by.nd rfl (Or.inl rfl) (pe_op op_rep (pe_lst (pa_cons (pe_un un_neg pe_int) pa_nil)) (pv 1)))
    (pss_cons (ps_for PassesOwn.never rfl (pi_D (pi_enum (by rfl) T.n_enumerate (pa_cons (pv 0) pa_nil))) (pg_tupD (n := 2) rfl (pgs_cons (pg_name (i := 3) sc_logs_by.nd rfl (Or.inl rfl)) (pgs_cons (pg_name (i := 4) sc_logs_by.nd rfl (Or.inl rfl)) pgs_nil)))
      (pss_one (ps_asg (pv 3) (pg_sub (pv 2) (pv 4) set_list))))
    (pss_one (ps_ret (pv 2))))), ?_⟩
  walk_at "dn"
  walk_at "zz"
  refine ⟨by walk_at "small", fun l0 hp => ?_⟩
  walk_at "zz"
  refine r_rep (m := F.q) upd_same (by omega) fun l hp => ?_
  walk_at "f1"
  walk_at "zz"
  refine e_enum (xs := vN F.pw) (by walk_at "sq") ?_
  walk_at "ds"
  refine lp_of (jw_enum (xs := vN F.pw) (n := F.pw.length) (vN_len _)) (fun i st A => ∃ y1 y2, st = [some (.ref a), some (.int F.q), some (.ref l), y1, y2] ∧ A = upd (upd H l0 (.lst [.int (-1)])) l (.lst (logsV F.pw F.q i))) ⟨_, _, rfl, rfl⟩ (fun i st A _ h => ?_) ?_ ?_
  · obtain ⟨_, _, _, rfl⟩ := h
    exact ⟨by walk_at "sq", by walk_at "wl"⟩
  · rintro i _ _ hi ⟨y1, y2, rfl, rfl⟩
    rw [vN_getD hi]
    walk_at "ds"
    walk_at "zz"
    have hP := ok.P i (by omega)
    refine' r_set (m := F.pw.getD i 0) upd_same ?hx ?_
    case hx =>
      rw [logsV_len]
      exact ixN_in hP.2
    refine ⟨_, _, rfl, ?_⟩
    rw [upd_put]
    rfl
  · rintro _ _ ⟨y1, y2, rfl, rfl⟩
    walk_at "zz"
    rw [ok.logs]
    refine ⟨upd H l (.lst (vL F)), ?_, by walk_at "wl", Prs.same (by walk_at "same"), k l hp⟩
    walk_at "same"
end
end TP
/-! part Q9 -/
set_option maxHeartbeats 1000000
namespace TP
open PySem PySem.Spec PyProof.Rows L2
set_option hygiene false in
local macro_rules | `(tactic| walk_at "ne") => `(tactic| first | assumption | exact Ne.symm (by assumption) | exact ne_of_none (H := H) (by assumption) (by assumption) | exact (ne_of_none (H := H) (by assumption) (by assumption)).symm | exact ne_of_none (H := A) (by assumption) (by assumption) | exact (ne_of_none (H := A) (by assumption) (by assumption)).symm)
local macro_rules | `(tactic| walk_at "get") => `(tactic| first | assumption | exact upd_same | (refine upd_at ?_ ?_; (focus walk_at "ne"); (walk_at "get")))
local macro_rules | `(tactic| walk_at "nn") => `(tactic| first | assumption | (refine none_upd ?_ ?_; (focus walk_at "ne"); (walk_at "nn")))
local macro_rules | `(tactic| walk_at "same") => `(tactic| first | exact Same.refl _ | assumption | (refine Same.both ?_; walk_at "same") | (refine TP.Same.new ?_ ?_; (focus walk_at "same"); (walk_at "nn")) | (refine Same.put ?_ ?_; (focus walk_at "same"); (walk_at "get")))
local macro_rules | `(tactic| walk_at "noown") => `(tactic| first | exact NoOwn.none (by assumption) | (refine NoOwn.upd ?_ True.intro; walk_at "noown"))
local macro_rules | `(tactic| walk_at "wl") => `(tactic| first | assumption | (refine Wl.put ?_ ?_ True.intro; (focus walk_at "wl"); (walk_at "noown")))
local macro_rules | `(tactic| walk_at "sq") => `(tactic| first | assumption | exact SqL.of (by walk_at "get"))
set_option hygiene false in
local macro_rules | `(tactic| walk_at "f1") => `(tactic| obtain ⟨_, hp⟩ := upd_none hp)
set_option hygiene false in
local macro_rules | `(tactic| walk_at "f2") => `(tactic| (obtain ⟨_, hp⟩ := upd_none hp; obtain ⟨_, hp⟩ := upd_none hp))
set_option hygiene false in
local macro_rules | `(tactic| walk_at "f3") => `(tactic| (obtain ⟨_, hp⟩ := upd_none hp; obtain ⟨_, hp⟩ := upd_none hp; obtain ⟨_, hp⟩ := upd_none hp))
set_option hygiene false in
local macro_rules | `(tactic| walk_at "f4") => `(tactic| (obtain ⟨_, hp⟩ := upd_none hp; obtain ⟨_, hp⟩ := upd_none hp; obtain ⟨_, hp⟩ := upd_none hp; obtain ⟨_, hp⟩ := upd_none hp))
set_option hygiene false in
local macro_rules | `(tactic| walk_at "fa") => `(tactic| first
  | ((with_reducible refine' z_own_prime T ?hv ?hh ?_); (case hv => exact rfl); (case hh => walk_at "get"))
  | ((with_reducible refine' z_own_turns T ?hv ?hh ?_); (case hv => exact rfl); (case hh => walk_at "get"))
  | ((with_reducible refine' z_own_size T ?hv ?hh ?_); (case hv => exact rfl); (case hh => walk_at "get"))
  | ((with_reducible refine' z_own_powers T ?hv ?hh ?_); (case hv => exact rfl); (case hh => walk_at "get"))
  | ((with_reducible refine' z_own_logs T ?hv ?hh ?_); (case hv => exact rfl); (case hh => walk_at "get"))
  | ((with_reducible refine' z_own_field T ?hv ?hh ?_); (case hv => exact rfl); (case hh => walk_at "get"))
  | ((with_reducible refine' z_own_points T ?hv ?hh ?_); (case hv => exact rfl); (case hh => walk_at "get"))
  | ((with_reducible refine' z_own_many T ?hv ?hh ?_); (case hv => exact rfl); (case hh => walk_at "get")))
local macro_rules | `(tactic| walk_at "z") => `(tactic| first
  | with_reducible refine z_seq ?_
  | with_reducible refine z_asg ?_
  | with_reducible refine z_name ?_
  | ((with_reducible refine' z_var ?hv ?_); (case hv => exact rfl))
  | with_reducible refine z_c ?_
  | with_reducible refine z_op ?_
  | with_reducible refine r_I0 ?_
  | ((with_reducible refine r_I ?hc ?_); (case hc => walk_at "ar"))
  | ((with_reducible refine' r_app ?ha ?hz ?_); (case ha => walk_at "get"); (case hz => walk_at "sz"))
  | ((with_reducible refine' z_tyl ?ha ?_); (case ha => walk_at "get"))
  | with_reducible refine z_cons ?_
  | ((with_reducible refine' r_len ?ha ?_); (case ha => walk_at "sq"))
  | with_reducible refine z_nil ?_
  | walk_at "fa"
  | walk_at "fd"
  | with_reducible refine z_test ?_
  | with_reducible refine z_bl ?_
  | with_reducible refine z_tB ?_
  | with_reducible refine r_eq ?_
  | with_reducible refine r_ne ?_
  | with_reducible refine z_ifS ?_
  | with_reducible refine z_ret ?_
  | with_reducible refine z_drop ?_
  | with_reducible refine z_cb ?_
  | with_reducible refine z_call ?_
  | with_reducible refine z_bm ?_
  | with_reducible refine z_bm0 ?_
  | with_reducible refine z_lst ?_
  | with_reducible refine z_tup ?_
  | with_reducible refine z_un ?_
  | with_reducible refine r_U ?_
  | with_reducible refine z_par ?_
  | with_reducible refine z_par3 ?_
  | with_reducible refine z_two ?_
  | with_reducible refine z_three ?_
  | with_reducible refine z_sub ?_
  | with_reducible refine z_for ?_
  | with_reducible refine z_lc ?_
  | with_reducible refine z_ifE ?_
  | with_reducible refine z_and ?_
  | with_reducible refine z_or ?_
  | with_reducible refine z_not ?_
  | with_reducible refine z_yes ?_
  | with_reducible refine z_andV ?_
  | with_reducible refine z_orV ?_
  | with_reducible refine z_notV ?_
  | with_reducible refine z_sl ?_
  | with_reducible refine z_noP ?_
  | with_reducible refine z_part ?_
  | with_reducible refine z_int ?_
  | with_reducible refine z_revL ?_
  | with_reducible refine z_next ?_
  | with_reducible refine z_sf ?_
  | with_reducible refine z_f ?_
  | with_reducible refine z_tf ?_
  | with_reducible refine z_disp ?_
  | with_reducible refine z_pc ?_
  | with_reducible refine z_pn ?_
  | with_reducible refine z_i1 ?_
  | with_reducible refine i_rng3 ?_
  | with_reducible refine z_chain ?_
  | with_reducible refine z_nT ?_
  | with_reducible refine z_nF ?_
  | with_reducible refine z_sfld ?_
  | with_reducible refine i_rng1 ?_
  | with_reducible refine i_rng2 ?_
  | with_reducible refine i_list ?_
  | with_reducible refine i_zip ?_
  | with_reducible refine i_enum ?_
  | with_reducible refine z_tt ?_
  | with_reducible refine z_ff ?_)
local macro_rules | `(tactic| walk_at "zz") => `(tactic| repeat walk_at "z")
set_option hygiene false in
local macro_rules | `(tactic| walk_at "len") => `(tactic| first | (obtain ⟨rfl, _⟩ := h; rfl) | (obtain ⟨_, rfl, _⟩ := h; rfl) | (obtain ⟨_, _, rfl, _⟩ := h; rfl) | (obtain ⟨_, _, _, rfl, _⟩ := h; rfl) | (obtain ⟨_, _, _, _, rfl, _⟩ := h; rfl) | (obtain ⟨_, _, _, _, _, rfl, _⟩ := h; rfl) | (obtain ⟨_, _, _, _, _, _, rfl, _⟩ := h; rfl) | (obtain ⟨_, _, _, _, _, _, _, rfl, _⟩ := h; rfl) | (obtain ⟨_, _, _, _, _, _, _, _, rfl, _⟩ := h; rfl) | (obtain ⟨_, _, _, _, _, _, _, _, _, rfl, _⟩ := h; rfl) | (obtain ⟨_, _, _, _, _, _, _, _, _, _, rfl, _⟩ := h; rfl) | (obtain ⟨_, _, _, _, _, _, _, _, _, _, _, rfl, _⟩ := h; rfl) | (obtain ⟨_, _, _, _, _, _, _, _, _, _, _, _, rfl, _⟩ := h; rfl) | (obtain ⟨_, _, _, _, _, _, _, _, _, _, _, _, _, rfl, _⟩ := h; rfl) | (obtain ⟨_, _, _, _, _, _, _, _, _, _, _, _, _, _, rfl, _⟩ := h; rfl) | (obtain ⟨_, _, _, _, _, _, _, _, _, _, _, _, _, _, _, rfl, _⟩ := h; rfl) | (obtain ⟨_, _, _, _, _, _, _, _, _, _, _, _, _, _, _, _, rfl, _⟩ := h; rfl))
local macro_rules | `(tactic| walk_at "small") => `(tactic| first | exact Nat.zero_le _ | exact (by decide : 1 ≤ sizeLine) | exact (by decide : 2 ≤ sizeLine) | exact (by decide : 3 ≤ sizeLine) | exact (by decide : 4 ≤ sizeLine) | exact (by decide : 5 ≤ sizeLine) | exact (by decide : 6 ≤ sizeLine))
local macro_rules | `(tactic| walk_at "dn") => `(tactic| dsimp only [cxOf, L2.start, List.map, List.length, List.replicate, List.cons_append, List.nil_append, Nat.reduceAdd, Nat.reduceSub, Nat.zero_add])
local macro_rules | `(tactic| walk_at "ar") => `(tactic| first | assumption | (show _ < _; omega) | (show _ < _ ∧ _ < _; omega) | (left; show _ < _ ∧ _ < _; constructor <;> omega) | (right; show _ < _ ∧ _ < _; constructor <;> omega))
local macro_rules | `(tactic| walk_at "sz") => `(tactic| first | omega | (simp only [vN_len, List.length_append, List.length_cons, List.length_nil, List.length_map, List.length_range, List.length_replicate, List.length_set, List.length_take, List.length_drop, List.length_reverse]; omega))
local macro_rules | `(tactic| walk_at "ds") => `(tactic| try dsimp only [List.set])
set_option hygiene false in
local macro_rules | `(tactic| walk_at "endL") => `(tactic| (refine' ⟨_, ?e1, ?e2, ?e3, k p hp⟩; (case e1 => walk_at "same"); (case e2 => walk_at "wl"); (case e3 => exact Prs.same (by walk_at "same"))))
set_option hygiene false in
local macro_rules | `(tactic| walk_at "endS") => `(tactic| exact ⟨H, by walk_at "same", wl, Prs.refl _, k⟩)
set_option hygiene false in
local macro_rules | `(tactic| walk_at "endQ") => `(tactic| (refine' ⟨_, ?e1, ?e2, ?e3, k q hp⟩; (case e1 => walk_at "same"); (case e2 => walk_at "wl"); (case e3 => exact Prs.same (by walk_at "same"))))
local macro_rules | `(tactic| walk_at "f5") => `(tactic| (walk_at "f1"; walk_at "f4"))
local macro_rules | `(tactic| walk_at "f6") => `(tactic| (walk_at "f2"; walk_at "f4"))
local macro_rules | `(tactic| walk_at "f7") => `(tactic| (walk_at "f3"; walk_at "f4"))
set_option hygiene false in
local macro_rules | `(tactic| walk_at "fd") => `(tactic| first
  | ((with_reducible refine' z_w_prime ?hv ?hh ?_); (case hv => exact rfl); (case hh => assumption))
  | ((with_reducible refine' z_w_turns ?hv ?hh ?_); (case hv => exact rfl); (case hh => assumption))
  | ((with_reducible refine' z_w_size ?hv ?hh ?_); (case hv => exact rfl); (case hh => assumption))
  | ((with_reducible refine' z_w_powers ?hv ?hh ?_); (case hv => exact rfl); (case hh => assumption))
  | ((with_reducible refine' z_w_places ?hv ?hh ?_); (case hv => exact rfl); (case hh => assumption))
  | ((with_reducible refine' z_t_prime ?hv ?hh ?_); (case hv => exact rfl); (case hh => assumption))
  | ((with_reducible refine' z_t_modulus ?hv ?hh ?_); (case hv => exact rfl); (case hh => assumption))
  | ((with_reducible refine' z_t_world ?hv ?hh ?_); (case hv => exact rfl); (case hh => assumption))
  | ((with_reducible refine' z_t_points ?hv ?hh ?_); (case hv => exact rfl); (case hh => assumption))
  | ((with_reducible refine' z_t_many ?hv ?hh ?_); (case hv => exact rfl); (case hh => assumption))
  | ((with_reducible refine' z_t_reach ?hv ?hh ?_); (case hv => exact rfl); (case hh => assumption)))
local macro_rules | `(tactic| walk_at "sz") => `(tactic| (simp only [vN_len, digs_len, List.length_reverse]; omega))
section
variable {P : Program} {w : World} {K : PySem.W.Frag} {mg : Str → Option Value} {base : Heap}
theorem sc_is_right : FnScope ["prime", "value"] ["prime", "value"] (defScope s_is_right) := ⟨rfl, rfl, rfl, by decide +kernel, rfl, by decide +kernel, by decide +kernel⟩
def sp_is_right (K : PySem.W.Frag) : Sp := fun vs H Q _ => ∃ (F : Fd) (a : Addr), vs = [.int F.p, .ref a] ∧ Wl H ∧ FOK F ∧ H a = some (.lst (vN F.md)) ∧ Q (.bl true) H
theorem ok_is_right (T : Txt K mg) : FnAt P w K mg base 6 "is_right" ["prime", "value"] (sp_is_right K) := by
  refine FnAt.of T 16 16 (d := d_is_right) (k := 5) rfl rfl rfl rfl rfl sc_is_right (fun _ _ _ _ _ _ us hl => match us, hl with | [_, _], _ => rfl) (fun vs H Q E h => by walk_at "len") (fun f_ cdv A outer s H vs Q E hr h => ?_)
  obtain ⟨F, a, rfl, wl, ok, ha, k⟩ := h
  have hp := ok.p
  have hn := ok.n
  have hml := ok.mdl
  obtain ⟨t_, hk_MOST_TURNS⟩ := T.i_MOST_TURNS
  refine ⟨_, (pss_cons (ps_if (PW.pt (pw_or (pt_not (pt_val (pe_callF (ok_is_list T) (by decide) hr (by rfl) (pa_cons (pv 1) pa_nil)))) (pw_or (pt_not (pt_chain op_le op_le pe_int (pe_callB (call_lenK (K := K) rfl) (by rfl) T.n_len (by decide +kernel) (pa_cons (pv 1) pa_nil)) (pe_op op_add (pe_glob (v := .int 12) (by rfl) hk_MOST_TURNS ⟨_, rfl⟩) pe_int))) (pw_or1 (pt_not (pt_val (pe_callF (ok_is_figures T) (by decide) hr (by rfl) (pa_cons (pv 0) (pa_cons (pv 1) (pa_cons (pe_callB (call_lenK (K := K) rfl) (by rfl) T.n_len (by decide +kernel) (pa_cons (pv 1) pa_nil)) pa_nil)))))))))) (pss_one (ps_ret pe_bl)) pss_nil)
    (pss_one (ps_ret (pe_and (pe_cmpR op_eq (pe_ix (ix_listK (K := K) rfl) (pv 1) (pe_un un_neg pe_int) (fun _ _ => rfl)) pe_int (nomark _)) (pe_one (pe_callF (ok_is_single T) (by decide) hr (by rfl) (pa_cons (pv 0) (pa_cons (pe_callTy (call_listK (K := K) rfl) (by rfl) T.n_list (by decide +kernel) (pa_cons (pv 1) pa_nil)) pa_nil)))))))), ?_⟩
  walk_at "dn"
  walk_at "zz"
  refine ⟨a, _, rfl, wl, ha, ?_⟩
  walk_at "zz"
  rw [vN_len]
  refine z_dec (fun _ => ?_) (fun h => absurd (show (3 : Int) ≤ F.md.length by omega) h)
  walk_at "zz"
  rw [decide_eq_true (show ((F.md.length : Nat) : Int) ≤ 12 + 1 by omega)]
  walk_at "zz"
  rw [vN_len]
  refine ⟨F.p, F.md.length, a, F.md, rfl, wl, ha, rfl, by omega, ok.mdb, ?_⟩
  walk_at "zz"
  refine r_ixL (SqL.of ha) (at_end (getLast_vN (by omega))) ?_
  walk_at "zz"
  have e1 : F.md.getD (F.md.length - 1) 0 = 1 := by rw [hml]; exact ok.mdt
  rw [e1, decide_eq_true (show ((1 : Nat) : Int) = 1 from rfl)]
  walk_at "zz"
  refine r_list (SqL.of ha) fun l hp => ?_
  walk_at "zz"
  refine ⟨F.p, l, F.md, rfl, by walk_at "wl", by omega, by omega, upd_same, by omega, by omega, ok.single, ?_⟩
  exact ⟨H, by walk_at "same", wl, Prs.refl _, k⟩
theorem sc_powers_by : FnScope ["prime", "modulus", "number", "base", "found", "here"] ["prime", "modulus", "number"] (defScope s_powers_by) := ⟨rfl, rfl, rfl, by decide +kernel, rfl, by decide +kernel, by decide +kernel⟩
def sp_powers_by (K : PySem.W.Frag) : Sp := fun vs H Q _ => ∃ (p x : Nat) (a : Addr) (md r : List Nat), vs = [.int p, .ref a, .int x] ∧ Wl H ∧ 2 ≤ p ∧ p ≤ 3 ∧ H a = some (.lst (vN md)) ∧ pPowers p md x = some r ∧ ∀ q, H q = none → Q (.ref q) (upd H q (.lst (vN r)))
theorem ok_powers_by (T : Txt K mg) : FnAt P w K mg base 4 "powers_by" ["prime", "modulus", "number"] (sp_powers_by K) := by
  refine FnAt.of T 19 19 (d := d_powers_by) (k := 3) rfl rfl rfl rfl rfl sc_powers_by (fun _ _ _ _ _ _ us hl => match us, hl with | [_, _, _], _ => rfl) (fun vs H Q E h => by walk_at "len") (fun f_ cdv A outer s H vs Q E hr h => ?_)
  obtain ⟨p, x, a, md, r, rfl, wl, h1, h2, ha, hg0, k⟩ := h
  obtain ⟨bs, hb, hg1⟩ := Option.bind_eq_some_iff.mp hg0
  refine ⟨_, (pss_cons (ps_par3 (i := 3) (j := 4) (l := 5) rfl sc_powers_by.nd rfl rfl rfl (by decide) (by decide) (by decide) rfl rfl rfl (pa_cons (pe_callF (ok_poly_of T) (by decide) hr (by rfl) (pa_cons (pv 0) (pa_cons (pv 2) pa_nil))) (pa_cons (pe_lst (pa_cons pe_int pa_nil)) (pa_cons (pe_callF (ok_poly_of T) (by decide) hr (by rfl) (pa_cons (pv 0) (pa_cons (pv 2) pa_nil))) pa_nil))) (by rfl))
    (pss_cons (ps_while PassesOwn.never (pt_f (pt_cmpR (op_neDK (K := K) rfl hr.units) (pv 5) (pe_lst (pa_cons pe_int pa_nil)) (nomark _)))
      (pss_f (pss_cons (ps_expr (pe_bm PySem.F.plainAttrs_list PySem.F.slot_list_append PySem.F.type_list_append mt_append (pv 4) (pa_cons (pe_callF (ok_told_number T) (by decide) hr (by rfl) (pa_cons (pv 0) (pa_cons (pv 5) pa_nil))) pa_nil)))
    (pss_one (ps_set (i := 5) sc_powers_by.nd rfl (Or.inl rfl) (pe_callF (ok_poly_times T) (by decide) hr (by rfl) (pa_cons (pv 0) (pa_cons (pv 5) (pa_cons (pv 3) (pa_cons (pv 1) pa_nil))))))))))
    (pss_one (ps_ret (pv 4))))), ?_⟩
  walk_at "dn"
  walk_at "zz"
  refine ⟨p, x, bs, rfl, wl, h1, h2, hb, fun l1 hp => ?_⟩
  walk_at "zz"
  refine ⟨by walk_at "small", fun l2 hp => ?_⟩
  walk_at "f1"
  walk_at "zz"
  refine ⟨p, x, bs, rfl, by walk_at "wl", h1, h2, hb, fun l3 hp => ?_⟩
  have hp2 := (upd_none hp).1
  walk_at "f2"
  have hl1 : l1 ≠ l2 := Ne.symm (by assumption)
  walk_at "zz"
  walk_at "ds"
  refine z_whileB (X := Nat × List Nat × List Nat) (fun z st A => ∃ ab lf ah, st = [some (.int p), some (.ref a), some (.int x), some (.ref ab), some (.ref lf), some (.ref ah)] ∧ Same H A ∧ Wl A ∧ H lf = none ∧ A ab = some (.lst (vN bs)) ∧ A ah = some (.lst (vN z.2.1)) ∧ A lf = some (.lst (vN z.2.2)) ∧ ab ≠ lf ∧ ah ≠ lf ∧
    z.2.2.length + z.1 ≤ 41 ∧ pwGo p bs md z.1 z.2.1 z.2.2 = some r) (fun z => z.1) (40, bs, [1])
    ⟨l1, l2, l3, rfl, by walk_at "same", by walk_at "wl", by assumption, by walk_at "get", upd_same, by walk_at "get", hl1, hp2, Nat.le_refl 41, hg1⟩ ?_
  rintro ⟨n, here, found⟩ _ A ⟨ab, lf, ah, rfl, se, wl2, nlf, hab, hah, hlf, n1, n2, hlen, hg⟩
  cases n with
  | zero => cases hg
  | succ n =>
    dsimp only at hah hlf hlen hg ⊢
    by_cases hc : here = [1]
    · refine ⟨false, fun R r => ?_, nofun, fun _ => ?_⟩
      · walk_at "zz"
        refine ⟨by walk_at "small", fun q hq => ?_⟩
        refine r_neL (ms := [1]) (SqL.of (upd_at (ne_of_none hah hq) hah)) (SqL.of upd_same) ?_
        rw [decide_eq_true hc]
        exact ⟨false, rfl, A, Same.new (Same.refl _) hq, wl2, Prs.refl _, r⟩
      · walk_at "zz"
        have e : found = r := by
          have z : pwGo p bs md (n + 1) here found = some found := if_pos hc
          rw [z] at hg
          exact Option.some.inj hg
        refine ⟨upd H lf (.lst (vN r)), Same.put se (by rw [← e]; exact hlf), Wl.put wl (NoOwn.none nlf) trivial, Prs.same (Same.new (Same.refl _) nlf), k lf nlf⟩
    · have hg2 : ((pTimes p here bs md).bind fun h => pwGo p bs md n h (found ++ [num p here])) = some r := by
        rw [← hg]
        exact (if_neg hc).symm
      obtain ⟨h2l, hh, hg3⟩ := Option.bind_eq_some_iff.mp hg2
      refine ⟨true, fun R r => ?_, fun _ => ?_, nofun⟩
      · walk_at "zz"
        refine ⟨by walk_at "small", fun q hq => ?_⟩
        refine r_neL (ms := [1]) (SqL.of (upd_at (ne_of_none hah hq) hah)) (SqL.of upd_same) ?_
        rw [decide_eq_false hc]
        exact ⟨true, rfl, A, Same.new (Same.refl _) hq, wl2, Prs.refl _, r⟩
      · walk_at "zz"
        refine ⟨p, ah, here, rfl, wl2, h2, hah, ?_⟩
        walk_at "zz"
        rw [vN_snoc]
        have wl3 : Wl (upd A lf (.lst (vN (found ++ [num p here])))) := Wl.put wl2 (NoOwn.flat hlf trivial) trivial
        have se3 : Same H (upd A lf (.lst (vN (found ++ [num p here])))) := Same.new se nlf
        refine ⟨p, ah, ab, a, here, bs, md, h2l, rfl, wl3, h1, h2, upd_at n2 hah, upd_at n1 hab, se3 _ _ ha, hh, fun q hq => ?_⟩
        obtain ⟨hq1, hq2⟩ := upd_none hq
        walk_at "zz"
        walk_at "ds"
        refine ⟨_, Same.refl _, Wl.put wl3 (NoOwn.none hq) trivial, ?_, (n, h2l, found ++ [num p here]), Nat.lt_succ_self n, ab, lf, q, rfl, Same.new se3 (se3.free hq), Wl.put wl3 (NoOwn.none hq) trivial, nlf, ?_, upd_same, ?_, n1, hq1, ?_, hg3⟩
        · exact Prs.trans (Prs.mut hlf (fun z => z)) (Prs.same (Same.new (Same.refl _) hq))
        · exact upd_at (ne_of_none hab hq2) (upd_at n1 hab)
        · exact upd_at (Ne.symm hq1) upd_same
        · rw [List.length_append, List.length_singleton]
          dsimp only
          omega
theorem sc_all_powers : FnScope ["prime", "modulus", "size", "number", "found"] ["prime", "modulus", "size"] (defScope s_all_powers) := ⟨rfl, rfl, rfl, by decide +kernel, rfl, by decide +kernel, by decide +kernel⟩
def sp_all_powers (K : PySem.W.Frag) : Sp := fun vs H Q _ => ∃ (p z : Nat) (a : Addr) (md r : List Nat), vs = [.int p, .ref a, .int z] ∧ Wl H ∧ 2 ≤ p ∧ p ≤ 3 ∧ H a = some (.lst (vN md)) ∧ 1 ≤ z ∧ pAll p md z = some r ∧ ∀ q, H q = none → Q (.ref q) (upd H q (.lst (vN r)))
theorem ok_all_powers (T : Txt K mg) : FnAt P w K mg base 5 "all_powers" ["prime", "modulus", "size"] (sp_all_powers K) := by
  refine FnAt.of T 20 20 (d := d_all_powers) (k := 4) rfl rfl rfl rfl rfl sc_all_powers (fun _ _ _ _ _ _ us hl => match us, hl with | [_, _, _], _ => rfl) (fun vs H Q E h => by walk_at "len") (fun f_ cdv A outer s H vs Q E hr h => ?_)
  obtain ⟨p, z, a, md, r, rfl, wl, h1, h2, ha, hz, hg0, k⟩ := h
  obtain ⟨f0, hf, hg1⟩ := Option.bind_eq_some_iff.mp hg0
  refine ⟨_, (pss_cons (ps_set (i := 3) sc_all_powers.nd rfl (Or.inl rfl) (pv 0))
    (pss_cons (ps_set (i := 4) sc_all_powers.nd rfl (Or.inl rfl) (pe_callF (ok_powers_by T) (by decide) hr (by rfl) (pa_cons (pv 0) (pa_cons (pv 1) (pa_cons (pv 3) pa_nil)))))
    (pss_cons (ps_while PassesOwn.never (pt_cmpR op_lt (pe_callB (call_lenK (K := K) rfl) (by rfl) T.n_len (by decide +kernel) (pa_cons (pv 4) pa_nil)) (pe_op op_sub (pv 2) pe_int) (nomark _))
      (pss_f (pss_cons (ps_set (i := 3) sc_all_powers.nd rfl (Or.inl rfl) (pe_op op_add (pv 3) pe_int))
    (pss_one (ps_set (i := 4) sc_all_powers.nd rfl (Or.inl rfl) (pe_callF (ok_powers_by T) (by decide) hr (by rfl) (pa_cons (pv 0) (pa_cons (pv 1) (pa_cons (pv 3) pa_nil)))))))))
    (pss_one (ps_ret (pv 4)))))), ?_⟩
  walk_at "dn"
  walk_at "zz"
  refine ⟨p, p, a, md, f0, rfl, wl, h1, h2, ha, hf, fun l1 hp => ?_⟩
  walk_at "zz"
  walk_at "ds"
  refine z_whileB (X := Nat × Nat × List Nat) (fun y st A => ∃ l, st = [some (.int p), some (.ref a), some (.int z), some (.int y.2.1), some (.ref l)] ∧ H l = none ∧ A = upd H l (.lst (vN y.2.2)) ∧ allGo p md z y.1 y.2.1 y.2.2 = some r) (fun y => y.1) (40, p, f0)
    ⟨l1, rfl, hp, rfl, hg1⟩ ?_
  rintro ⟨n, x, found⟩ _ _ ⟨l, rfl, hp, rfl, hg⟩
  cases n with
  | zero => cases hg
  | succ n =>
    dsimp only at hg ⊢
    by_cases hc : found.length < z - 1
    · have hg2 : ((pPowers p md (x + 1)).bind fun f => allGo p md z n (x + 1) f) = some r := by
        rw [← hg]
        exact (if_pos hc).symm
      obtain ⟨f1, hf1, hg3⟩ := Option.bind_eq_some_iff.mp hg2
      refine ⟨true, fun R r => ?_, fun _ => ?_, nofun⟩
      · walk_at "zz"
        rw [vN_len, decide_eq_true (by omega)]
        exact r
      · walk_at "zz"
        refine ⟨p, x + 1, a, md, f1, rfl, by walk_at "wl", h1, h2, by walk_at "get", hf1, fun q hq => ?_⟩
        obtain ⟨_, hq2⟩ := upd_none hq
        walk_at "zz"
        walk_at "ds"
        refine ⟨upd H q (.lst (vN f1)), Same.both (by walk_at "same"), by walk_at "wl", Prs.drop (Prs.same (by walk_at "same")) hp (fun z => z), (n, x + 1, f1), Nat.lt_succ_self n, q, rfl, hq2, rfl, hg3⟩
    · refine ⟨false, fun R r => ?_, nofun, fun _ => ?_⟩
      · walk_at "zz"
        rw [vN_len, decide_eq_false (by omega)]
        exact r
      · walk_at "zz"
        have e : found = r := by
          have y : allGo p md z (n + 1) x found = some found := if_neg hc
          rw [y] at hg
          exact Option.some.inj hg
        rw [e]
        exact ⟨_, Same.refl _, by walk_at "wl", Prs.same (by walk_at "same"), k l hp⟩
theorem sc_Field_init : FnScope ["self", "prime", "modulus"] ["self", "prime", "modulus"] (defScope s_Field_init) := ⟨rfl, rfl, rfl, by decide +kernel, rfl, by decide +kernel, by decide +kernel⟩
def sp_Field_init (K : PySem.W.Frag) : Sp := fun vs H Q _ => ∃ (F : Fd) (y dy a : Addr) (H0 : Hp), vs = [.ref y, .int F.p, .ref a] ∧ H = upd (upd H0 dy (.own y)) y (.ins (He.ga K "Field") dy []) ∧ H0 y = none ∧ H0 dy = none ∧ dy ≠ y ∧ Wl H0 ∧ FOK F ∧ H0 a = some (.lst (vN F.md)) ∧
  ∀ H', Same H0 H' → Wl H' → FieldAt K H' y F → Q .non H'
theorem ok_Field_init (T : Txt K mg) : InAt P w K mg base 7 "Field" (He.ga K "Field") ["self", "prime", "modulus"] (sp_Field_init K) := by
  refine InAt.of T 23 (d := d_Field_init) (k := 6) rfl T.g_Field T.m_Field rfl rfl rfl sc_Field_init (fun _ _ _ _ _ _ us hl => match us, hl with | [_, _, _], _ => rfl) (fun vs H Q E h => by walk_at "len") (fun f_ cdv A outer s H vs Q E hr h => ?_)
  obtain ⟨F, y, dy, a, H0, rfl, rfl, ny, nd, hne, wl0, ok, ha, k⟩ := h
  have hp := ok.p
  have hn := ok.n
  have hml := ok.mdl
  obtain ⟨t_, hk_MOST_SIZE⟩ := T.i_MOST_SIZE
  have I := InF.first (C := He.ga K "Field") wl0 ny nd hne
  generalize upd (upd H0 dy (.own y)) y (.ins (He.ga K "Field") dy []) = H at I ⊢
  have wl := I.w
  refine ⟨_, (pss_cons (ps_expr (pe_callF (ok_want_prime T) (by decide) hr (by rfl) (pa_cons (pv 1) pa_nil)))
    (pss_cons (ps_if (pt_not (pt_val (pe_callF (ok_is_right T) (by decide) hr (by rfl) (pa_cons (pv 1) (pa_cons (pv 2) pa_nil))))) (pss_one ps_never) pss_nil)
    (pss_cons (ps_expr (pe_callF (ok_want_at_most T) (by decide) hr (by rfl) (pa_cons pe_str (pa_cons (pe_glob (v := .int 128) (by rfl) hk_MOST_SIZE ⟨_, rfl⟩) (pa_cons (pe_callF (ok_sized T) (by decide) hr (by rfl) (pa_cons (pv 1) (pa_cons (pe_op op_sub (pe_callB (call_lenK (K := K) rfl) (by rfl) T.n_len (by decide +kernel) (pa_cons (pv 2) pa_nil)) pe_int) pa_nil))) pa_nil)))))
    (pss_cons (ps_fld (pv 0) (pv 1) rfl)
    (pss_cons (ps_fld (pv 0) (pe_op op_sub (pe_callB (call_lenK (K := K) rfl) (by rfl) T.n_len (by decide +kernel) (pa_cons (pv 2) pa_nil)) pe_int) rfl)
    (pss_cons (ps_fld (pv 0) (pe_callF (ok_sized T) (by decide) hr (by rfl) (pa_cons (pv 1) (pa_cons (pe_op op_sub (pe_callB (call_lenK (K := K) rfl) (by rfl) T.n_len (by decide +kernel) (pa_cons (pv 2) pa_nil)) pe_int) pa_nil))) rfl)
    (pss_cons (ps_fld (pv 0) (pe_callTy (call_listK (K := K) rfl) (by rfl) T.n_list (by decide +kernel) (pa_cons (pv 2) pa_nil)) rfl)
    (pss_cons (ps_fld (pv 0) (pe_callF (ok_all_powers T) (by decide) hr (by rfl) (pa_cons (pv 1) (pa_cons (pe_callTy (call_listK (K := K) rfl) (by rfl) T.n_list (by decide +kernel) (pa_cons (pv 2) pa_nil)) (pa_cons (pe_callF (ok_sized T) (by decide) hr (by rfl) (pa_cons (pv 1) (pa_cons (pe_op op_sub (pe_callB (call_lenK (K := K) rfl) (by rfl) T.n_len (by decide +kernel) (pa_cons (pv 2) pa_nil)) pe_int) pa_nil))) pa_nil)))) rfl)
    (pss_one (ps_fld (pv 0) (pe_callF (ok_logs_by T) (by decide) hr (by rfl) (pa_cons (pe_fldK (K := K) rfl (pv 0) rfl) (pa_cons (pe_fldK (K := K) rfl (pv 0) rfl) pa_nil))) rfl)))))))))), ?_⟩
  walk_at "dn"
  walk_at "zz"
  refine ⟨F.p, rfl, wl, hp.1, hp.2, ?_⟩
  walk_at "zz"
  have haH := I.s _ _ ha
  refine ⟨F, a, rfl, wl, ok, haH, ?_⟩
  walk_at "zz"
  have ek : ((vN F.md).length : Int) - 1 = ((F.n : Nat) : Int) := by rw [vN_len]; omega
  have eq : F.p ^ F.n = F.q := ok.qpn.symm
  have hq := ok.q
  rw [ek]
  refine ⟨F.p, F.n, rfl, wl, hp.2, by omega, ?_⟩
  rw [eq]
  walk_at "zz"
  refine ⟨_, _, _, rfl, wl, by omega, ?_⟩
  walk_at "zz"
  refine e_sfld I.i T.c_Field T.a_Field_own_prime (by first | decide | exact (by decide : 1 < 1000) | exact (by decide : 2 < 1000) | exact (by decide : 3 < 1000) | exact (by decide : 4 < 1000) | exact (by decide : 5 < 1000)) ?_
  have I1 := I.put (fs' := putF "own_prime" (.int F.p) []) ny
  generalize upd H y (.ins (He.ga K "Field") dy (putF "own_prime" (.int F.p) [])) = A1 at I1 ⊢
  have ha1 := I1.s _ _ ha
  walk_at "zz"
  rw [ek]
  refine e_sfld I1.i T.c_Field T.a_Field_own_turns (by first | decide | exact (by decide : 1 < 1000) | exact (by decide : 2 < 1000) | exact (by decide : 3 < 1000) | exact (by decide : 4 < 1000) | exact (by decide : 5 < 1000)) ?_
  have I2 := I1.put (fs' := putF "own_turns" (.int F.n) (putF "own_prime" (.int F.p) [])) ny
  generalize upd A1 y (.ins (He.ga K "Field") dy (putF "own_turns" (.int F.n) (putF "own_prime" (.int F.p) []))) = A2 at I2 ⊢
  have ha2 := I2.s _ _ ha
  walk_at "zz"
  rw [ek]
  refine ⟨F.p, F.n, rfl, I2.w, hp.2, by omega, ?_⟩
  rw [eq]
  walk_at "zz"
  refine e_sfld I2.i T.c_Field T.a_Field_own_size (by first | decide | exact (by decide : 1 < 1000) | exact (by decide : 2 < 1000) | exact (by decide : 3 < 1000) | exact (by decide : 4 < 1000) | exact (by decide : 5 < 1000)) ?_
  have I3 := I2.put (fs' := putF "own_size" (.int F.q) (putF "own_turns" (.int F.n) (putF "own_prime" (.int F.p) []))) ny
  generalize upd A2 y (.ins (He.ga K "Field") dy (putF "own_size" (.int F.q) (putF "own_turns" (.int F.n) (putF "own_prime" (.int F.p) [])))) = A3 at I3 ⊢
  have ha3 := I3.s _ _ ha
  walk_at "zz"
  refine r_list (SqL.of ha3) fun m hm => ?_
  have I4 := I3.new (xs := vN F.md) hm
  have hm4 : (upd A3 m (.lst (vN F.md))) m = some (.lst (vN F.md)) := upd_same
  have nm0 := I3.s.free hm
  generalize upd A3 m (.lst (vN F.md)) = A4 at I4 hm4 ⊢
  walk_at "zz"
  refine e_sfld I4.i T.c_Field T.a_Field_own_modulus (by first | decide | exact (by decide : 1 < 1000) | exact (by decide : 2 < 1000) | exact (by decide : 3 < 1000) | exact (by decide : 4 < 1000) | exact (by decide : 5 < 1000)) ?_
  have nmy : m ≠ y := fun e => by
    rw [e, I4.i] at hm4
    cases hm4
  have I5 := I4.put (fs' := putF "own_modulus" (.ref m) (putF "own_size" (.int F.q) (putF "own_turns" (.int F.n) (putF "own_prime" (.int F.p) [])))) ny
  have hm5 : (upd A4 y (.ins (He.ga K "Field") dy (putF "own_modulus" (.ref m) (putF "own_size" (.int F.q) (putF "own_turns" (.int F.n) (putF "own_prime" (.int F.p) [])))))) m = some (.lst (vN F.md)) := upd_at nmy hm4
  generalize upd A4 y (.ins (He.ga K "Field") dy (putF "own_modulus" (.ref m) (putF "own_size" (.int F.q) (putF "own_turns" (.int F.n) (putF "own_prime" (.int F.p) []))))) = A5 at I5 hm5 ⊢
  have ha5 := I5.s _ _ ha
  walk_at "zz"
  refine r_list (SqL.of ha5) fun m2 hm2 => ?_
  have I6 := I5.new (xs := vN F.md) hm2
  have hm26 : (upd A5 m2 (.lst (vN F.md))) m2 = some (.lst (vN F.md)) := upd_same
  have hm6 : (upd A5 m2 (.lst (vN F.md))) m = some (.lst (vN F.md)) := upd_at (ne_of_none hm5 hm2) hm5
  generalize upd A5 m2 (.lst (vN F.md)) = A6 at I6 hm6 hm26 ⊢
  have ha6 := I6.s _ _ ha
  walk_at "zz"
  rw [ek]
  refine ⟨F.p, F.n, rfl, I6.w, hp.2, by omega, ?_⟩
  rw [eq]
  walk_at "zz"
  refine ⟨F.p, F.q, m2, F.md, F.pw, rfl, I6.w, hp.1, hp.2, hm26, by omega, ok.allp, fun pb hpb => ?_⟩
  have I7 := I6.new (xs := vN F.pw) hpb
  have hm7 : (upd A6 pb (.lst (vN F.pw))) m = some (.lst (vN F.md)) := upd_at (ne_of_none hm6 hpb) hm6
  have hpb7 : (upd A6 pb (.lst (vN F.pw))) pb = some (.lst (vN F.pw)) := upd_same
  generalize upd A6 pb (.lst (vN F.pw)) = A7 at I7 hm7 hpb7 ⊢
  walk_at "zz"
  refine e_sfld I7.i T.c_Field T.a_Field_own_powers (by first | exact (by decide : 4 < 1000) | exact (by decide : 5 < 1000)) ?_
  have npy : pb ≠ y := fun e => by
    rw [e, I7.i] at hpb7
    cases hpb7
  have I8 := I7.put (fs' := putF "own_powers" (.ref pb) (putF "own_modulus" (.ref m) (putF "own_size" (.int F.q) (putF "own_turns" (.int F.n) (putF "own_prime" (.int F.p) []))))) ny
  have hm8 : (upd A7 y (.ins (He.ga K "Field") dy (putF "own_powers" (.ref pb) (putF "own_modulus" (.ref m) (putF "own_size" (.int F.q) (putF "own_turns" (.int F.n) (putF "own_prime" (.int F.p) []))))))) m = some (.lst (vN F.md)) := upd_at nmy hm7
  have hpb8 : (upd A7 y (.ins (He.ga K "Field") dy (putF "own_powers" (.ref pb) (putF "own_modulus" (.ref m) (putF "own_size" (.int F.q) (putF "own_turns" (.int F.n) (putF "own_prime" (.int F.p) []))))))) pb = some (.lst (vN F.pw)) := upd_at npy hpb7
  generalize upd A7 y (.ins (He.ga K "Field") dy (putF "own_powers" (.ref pb) (putF "own_modulus" (.ref m) (putF "own_size" (.int F.q) (putF "own_turns" (.int F.n) (putF "own_prime" (.int F.p) [])))))) = A8 at I8 hm8 hpb8 ⊢
  walk_at "zz"
  refine ⟨_, rfl, y, _, dy, _, _, rfl, I8.i, T.c_Field, T.a_Field_own_powers, rfl, ?_⟩
  walk_at "zz"
  refine ⟨_, rfl, y, _, dy, _, _, rfl, I8.i, T.c_Field, T.a_Field_own_size, rfl, ?_⟩
  walk_at "zz"
  refine ⟨F, pb, rfl, I8.w, ok, hpb8, fun lb hlb => ?_⟩
  have I9 := I8.new (xs := vL F) hlb
  have hm9 : (upd A8 lb (.lst (vL F))) m = some (.lst (vN F.md)) := upd_at (ne_of_none hm8 hlb) hm8
  have hpb9 : (upd A8 lb (.lst (vL F))) pb = some (.lst (vN F.pw)) := upd_at (ne_of_none hpb8 hlb) hpb8
  have hlb9 : (upd A8 lb (.lst (vL F))) lb = some (.lst (vL F)) := upd_same
  generalize upd A8 lb (.lst (vL F)) = A9 at I9 hm9 hpb9 hlb9 ⊢
  walk_at "zz"
  refine e_sfld I9.i T.c_Field T.a_Field_own_logs (by first | exact (by decide : 4 < 1000) | exact (by decide : 5 < 1000)) ?_
  have nly : lb ≠ y := fun e => by
    rw [e, I9.i] at hlb9
    cases hlb9
  have I10 := I9.put (fs' := fF F m pb lb) ny
  exact ⟨upd A9 y (.ins (He.ga K "Field") dy (fF F m pb lb)), Same.refl _, I10.w, I10.p, k _ I10.s I10.w ⟨⟨dy, m, pb, lb, I10.i, upd_at nmy hm9, upd_at npy hpb9, upd_at nly hlb9⟩⟩⟩
end
end TP
/-! part TPg -/
/-! comprehensions that make lists of new lists -/
namespace TP
open PySem PySem.Spec PyProof.Rows L2
section
variable {g : TG} {st : L2.St} {B : Hp} {J : It} {tt : TT} {te : TE} {vs : List Nat} {Q : VK} {n : Nat} {f : Nat → L2.St → L2.St} {Ok : Hp → Prop}
theorem range_filter_succ (p : Nat → Bool) (i : Nat) : (List.range (i + 1)).filter p = (List.range i).filter p ++ (if p i = true then [i] else []) := by
  rw [List.range_succ, List.filter_append]
  by_cases h : p i = true
  · rw [if_pos h, List.filter_cons_of_pos h]
    rfl
  · rw [if_neg h, List.filter_cons_of_neg h]
    rfl
theorem Rows.nil_of {A : Hp} {vs : List V} (h : Rows A vs []) : vs = [] := by
  cases vs with
  | nil => rfl
  | cons v vs => exact h.elim
/-- new lists for items, of some -/
theorem lcl_rowsF (w : JW J g n f Ok) (p : Nat → Bool) (r : Nat → List Nat) (hn : n ≤ 100000) (wl : Wl B) (ok : ∀ A, Same B A → Wl A → Ok A) (hw : ∀ i, i < n → wipe (f i (wipe st vs)) vs = wipe st vs)
    (ht : ∀ A i, i < n → Same B A → Wl A → ∀ R : Bool → Hp → Prop, R (p i) A → tt (f i (wipe st vs)) A R)
    (he : ∀ A i, i < n → p i = true → Same B A → Wl A → ∀ R : VK, (∀ q A', A q = none → Same A A' → Wl A' → A' q = some (.lst (vN (r i))) → R (.ref q) A') → te (f i (wipe st vs)) A R)
    (hd : ∀ D A, B D = none → Same B A → Wl A → LL A D (((List.range n).filter p).map r) → Q (.ref D) A) : Lcl J g tt te vs st Q B := by
  refine lcl_of w (fun D i A => B D = none ∧ Same B A ∧ Wl A ∧ ∃ ws, A D = some (.lst ws) ∧ ws.length ≤ i ∧ Rows A ws (((List.range i).filter p).map r)) (fun D nD => ⟨nD, Same.new (Same.refl _) nD, Wl.put wl (NoOwn.none nD) trivial, [], upd_same, Nat.le_refl _, True.intro⟩)
    (fun D i A nD hi h => ok A h.2.1 h.2.2.1) hw ?_ (fun D A nD h => by
      obtain ⟨_, se, wl2, ws, h1, _, h2⟩ := h
      exact hd D A nD se wl2 ⟨ws, h1, h2⟩)
  rintro D i A nD hi ⟨_, se, wl2, ws, h1, hl, h2⟩
  refine ht A i hi se wl2 _ ?_
  cases hpi : p i with
  | false =>
    refine (if_neg (by simp)).mpr ?_
    rw [range_filter_succ, if_neg (by rw [hpi]; exact Bool.false_ne_true), List.append_nil]
    exact ⟨nD, se, wl2, ws, h1, by omega, h2⟩
  | true =>
    refine (if_pos rfl).mpr ?_
    refine he A i hi hpi se wl2 _ fun q A' nq se2 wl3 hq => ?_
    have hne : q ≠ D := fun e => by
      rw [e, h1] at nq
      cases nq
    have hD := se2 _ _ h1
    refine ⟨ws, hD, Nat.lt_of_le_of_lt (show ws.length ≤ 100000 by omega) (by decide), nD, Same.new (fun a o e => se2 _ _ (se _ _ e)) nD, Wl.put wl3 (NoOwn.flat hD trivial) trivial, ws ++ [.ref q], upd_same, by rw [List.length_append, List.length_singleton]; omega, ?_⟩
    rw [range_filter_succ, if_pos hpi, List.map_append]
    exact Rows.snoc (upd_at hne hq) (Rows.put (h2.mono se2) hD)
/-- .. of all -/
theorem lcl_rows (w : JW J g n f Ok) (r : Nat → List Nat) (hn : n ≤ 100000) (wl : Wl B) (ok : ∀ A, Same B A → Wl A → Ok A) (hw : ∀ i, i < n → wipe (f i (wipe st vs)) vs = wipe st vs)
    (he : ∀ A i, i < n → Same B A → Wl A → ∀ R : VK, (∀ q A', A q = none → Same A A' → Wl A' → A' q = some (.lst (vN (r i))) → R (.ref q) A') → te (f i (wipe st vs)) A R)
    (hd : ∀ D A, B D = none → Same B A → Wl A → LL A D ((List.range n).map r) → Q (.ref D) A) : Lcl J g tYes te vs st Q B :=
  lcl_rowsF w (fun _ => true) r hn wl ok hw (fun _ _ _ _ _ _ q => q) (fun A i hi _ se wl2 R h => he A i hi se wl2 R h) (fun D A nD se wl2 h => hd D A nD se wl2 (by
    have e : (List.range n).filter (fun _ => true) = List.range n := List.filter_eq_self.mpr fun _ _ => rfl
    rw [e] at h
    exact h))
end
theorem map_range_getD {α β : Type} (d : α) (f : α → β) (xs : List α) : (List.range xs.length).map (fun i => f (xs.getD i d)) = xs.map f := by
  refine List.ext_getElem? fun i => ?_
  rw [List.getElem?_map, List.getElem?_map]
  by_cases h : i < xs.length
  · rw [List.getElem?_range h, List.getElem?_eq_getElem h]
    show some (f (xs.getD i d)) = some (f xs[i])
    rw [List.getD_eq_getElem?_getD, List.getElem?_eq_getElem h]
    rfl
  · rw [List.getElem?_eq_none (by rw [List.length_range]; omega), List.getElem?_eq_none (by omega)]
    rfl
theorem map_range_self (xs : List (List Nat)) : (List.range xs.length).map (fun i => xs.getD i []) = xs := by
  have z := map_range_getD [] id xs
  rw [List.map_id] at z
  exact z
theorem Rows.erase {A : Hp} : ∀ {vs : List V} {xss : List (List Nat)}, Rows A vs xss → ∀ i, Rows A (vs.eraseIdx i) (xss.eraseIdx i)
  | [], [], _, _ => True.intro
  | _ :: _, _ :: _, ⟨_, h3⟩, 0 => h3
  | _ :: _, _ :: _, ⟨h1, h3⟩, i + 1 => ⟨h1, Rows.erase h3 i⟩
/-- rows that stand while a list of refs changes -/
theorem Rows.keep {A : Hp} {l : Addr} {o : HO} {ws vs : List V} {xss yss : List (List Nat)} (hl : A l = some (.lst ws)) (hw : Rows A ws yss) (hy : 0 < yss.length) (h : Rows A vs xss) : Rows (upd A l o) vs xss := by
  cases ws with
  | nil =>
    cases yss with
    | nil => cases hy
    | cons y ys => exact hw.elim
  | cons v ws =>
    cases yss with
    | nil => cases hy
    | cons y ys =>
      obtain ⟨⟨a, rfl, _⟩, _⟩ := hw
      exact Rows.ref hl h
theorem map_set_int {ns : List Nat} {f : Nat → Nat} : ((List.range ns.length).map fun i => V.int ((f (ns.getD i 0) : Nat))) = vN (ns.map f) := by
  rw [← map_range_getD 0 f ns]
  unfold vN
  rw [List.map_map]
  rfl
end TP
/-! part Q10 -/
set_option maxHeartbeats 1000000
namespace TP
open PySem PySem.Spec PyProof.Rows L2
set_option hygiene false in
local macro_rules | `(tactic| walk_at "ne") => `(tactic| first | assumption | exact Ne.symm (by assumption) | exact ne_of_none (H := H) (by assumption) (by assumption) | exact (ne_of_none (H := H) (by assumption) (by assumption)).symm | exact ne_of_none (H := A) (by assumption) (by assumption) | exact (ne_of_none (H := A) (by assumption) (by assumption)).symm)
local macro_rules | `(tactic| walk_at "get") => `(tactic| first | assumption | exact upd_same | (refine upd_at ?_ ?_; (focus walk_at "ne"); (walk_at "get")))
local macro_rules | `(tactic| walk_at "nn") => `(tactic| first | assumption | (refine none_upd ?_ ?_; (focus walk_at "ne"); (walk_at "nn")))
local macro_rules | `(tactic| walk_at "same") => `(tactic| first | exact Same.refl _ | assumption | (refine Same.both ?_; walk_at "same") | (refine TP.Same.new ?_ ?_; (focus walk_at "same"); (walk_at "nn")) | (refine Same.put ?_ ?_; (focus walk_at "same"); (walk_at "get")))
local macro_rules | `(tactic| walk_at "noown") => `(tactic| first | exact NoOwn.none (by assumption) | (refine NoOwn.upd ?_ True.intro; walk_at "noown"))
local macro_rules | `(tactic| walk_at "wl") => `(tactic| first | assumption | (refine Wl.put ?_ ?_ True.intro; (focus walk_at "wl"); (walk_at "noown")))
local macro_rules | `(tactic| walk_at "sq") => `(tactic| first | assumption | exact SqL.of (by walk_at "get"))
set_option hygiene false in
local macro_rules | `(tactic| walk_at "f1") => `(tactic| obtain ⟨_, hp⟩ := upd_none hp)
set_option hygiene false in
local macro_rules | `(tactic| walk_at "f2") => `(tactic| (obtain ⟨_, hp⟩ := upd_none hp; obtain ⟨_, hp⟩ := upd_none hp))
set_option hygiene false in
local macro_rules | `(tactic| walk_at "f3") => `(tactic| (obtain ⟨_, hp⟩ := upd_none hp; obtain ⟨_, hp⟩ := upd_none hp; obtain ⟨_, hp⟩ := upd_none hp))
set_option hygiene false in
local macro_rules | `(tactic| walk_at "f4") => `(tactic| (obtain ⟨_, hp⟩ := upd_none hp; obtain ⟨_, hp⟩ := upd_none hp; obtain ⟨_, hp⟩ := upd_none hp; obtain ⟨_, hp⟩ := upd_none hp))
set_option hygiene false in
local macro_rules | `(tactic| walk_at "fa") => `(tactic| first
  | ((with_reducible refine' z_own_prime T ?hv ?hh ?_); (case hv => exact rfl); (case hh => walk_at "get"))
  | ((with_reducible refine' z_own_turns T ?hv ?hh ?_); (case hv => exact rfl); (case hh => walk_at "get"))
  | ((with_reducible refine' z_own_size T ?hv ?hh ?_); (case hv => exact rfl); (case hh => walk_at "get"))
  | ((with_reducible refine' z_own_powers T ?hv ?hh ?_); (case hv => exact rfl); (case hh => walk_at "get"))
  | ((with_reducible refine' z_own_logs T ?hv ?hh ?_); (case hv => exact rfl); (case hh => walk_at "get"))
  | ((with_reducible refine' z_own_field T ?hv ?hh ?_); (case hv => exact rfl); (case hh => walk_at "get"))
  | ((with_reducible refine' z_own_points T ?hv ?hh ?_); (case hv => exact rfl); (case hh => walk_at "get"))
  | ((with_reducible refine' z_own_many T ?hv ?hh ?_); (case hv => exact rfl); (case hh => walk_at "get")))
local macro_rules | `(tactic| walk_at "z") => `(tactic| first
  | with_reducible refine z_seq ?_
  | with_reducible refine z_asg ?_
  | with_reducible refine z_name ?_
  | ((with_reducible refine' z_var ?hv ?_); (case hv => exact rfl))
  | with_reducible refine z_c ?_
  | with_reducible refine z_op ?_
  | with_reducible refine r_I0 ?_
  | ((with_reducible refine r_I ?hc ?_); (case hc => walk_at "ar"))
  | ((with_reducible refine' r_app ?ha ?hz ?_); (case ha => walk_at "get"); (case hz => walk_at "sz"))
  | ((with_reducible refine' z_tyl ?ha ?_); (case ha => walk_at "get"))
  | with_reducible refine z_cons ?_
  | ((with_reducible refine' r_len ?ha ?_); (case ha => walk_at "sq"))
  | with_reducible refine z_nil ?_
  | walk_at "fa"
  | walk_at "fd"
  | with_reducible refine z_test ?_
  | with_reducible refine z_bl ?_
  | with_reducible refine z_tB ?_
  | with_reducible refine r_eq ?_
  | with_reducible refine r_ne ?_
  | with_reducible refine z_ifS ?_
  | with_reducible refine z_ret ?_
  | with_reducible refine z_drop ?_
  | with_reducible refine z_cb ?_
  | with_reducible refine z_call ?_
  | with_reducible refine z_bm ?_
  | with_reducible refine z_bm0 ?_
  | with_reducible refine z_lst ?_
  | with_reducible refine z_tup ?_
  | with_reducible refine z_un ?_
  | with_reducible refine r_U ?_
  | with_reducible refine z_par ?_
  | with_reducible refine z_par3 ?_
  | with_reducible refine z_two ?_
  | with_reducible refine z_three ?_
  | with_reducible refine z_sub ?_
  | with_reducible refine z_for ?_
  | with_reducible refine z_lc ?_
  | with_reducible refine z_ifE ?_
  | with_reducible refine z_and ?_
  | with_reducible refine z_or ?_
  | with_reducible refine z_not ?_
  | with_reducible refine z_yes ?_
  | with_reducible refine z_andV ?_
  | with_reducible refine z_orV ?_
  | with_reducible refine z_notV ?_
  | with_reducible refine z_sl ?_
  | with_reducible refine z_noP ?_
  | with_reducible refine z_part ?_
  | with_reducible refine z_int ?_
  | with_reducible refine z_revL ?_
  | with_reducible refine z_next ?_
  | with_reducible refine z_sf ?_
  | with_reducible refine z_f ?_
  | with_reducible refine z_tf ?_
  | with_reducible refine z_disp ?_
  | with_reducible refine z_pc ?_
  | with_reducible refine z_pn ?_
  | with_reducible refine z_i1 ?_
  | with_reducible refine i_rng3 ?_
  | with_reducible refine z_chain ?_
  | with_reducible refine z_nT ?_
  | with_reducible refine z_nF ?_
  | with_reducible refine z_sfld ?_
  | with_reducible refine i_rng1 ?_
  | with_reducible refine i_rng2 ?_
  | with_reducible refine i_list ?_
  | with_reducible refine i_zip ?_
  | with_reducible refine i_enum ?_
  | with_reducible refine z_tt ?_
  | with_reducible refine z_ff ?_)
local macro_rules | `(tactic| walk_at "zz") => `(tactic| repeat walk_at "z")
set_option hygiene false in
local macro_rules | `(tactic| walk_at "len") => `(tactic| first | (obtain ⟨rfl, _⟩ := h; rfl) | (obtain ⟨_, rfl, _⟩ := h; rfl) | (obtain ⟨_, _, rfl, _⟩ := h; rfl) | (obtain ⟨_, _, _, rfl, _⟩ := h; rfl) | (obtain ⟨_, _, _, _, rfl, _⟩ := h; rfl) | (obtain ⟨_, _, _, _, _, rfl, _⟩ := h; rfl) | (obtain ⟨_, _, _, _, _, _, rfl, _⟩ := h; rfl) | (obtain ⟨_, _, _, _, _, _, _, rfl, _⟩ := h; rfl) | (obtain ⟨_, _, _, _, _, _, _, _, rfl, _⟩ := h; rfl) | (obtain ⟨_, _, _, _, _, _, _, _, _, rfl, _⟩ := h; rfl) | (obtain ⟨_, _, _, _, _, _, _, _, _, _, rfl, _⟩ := h; rfl) | (obtain ⟨_, _, _, _, _, _, _, _, _, _, _, rfl, _⟩ := h; rfl) | (obtain ⟨_, _, _, _, _, _, _, _, _, _, _, _, rfl, _⟩ := h; rfl) | (obtain ⟨_, _, _, _, _, _, _, _, _, _, _, _, _, rfl, _⟩ := h; rfl) | (obtain ⟨_, _, _, _, _, _, _, _, _, _, _, _, _, _, rfl, _⟩ := h; rfl) | (obtain ⟨_, _, _, _, _, _, _, _, _, _, _, _, _, _, _, rfl, _⟩ := h; rfl) | (obtain ⟨_, _, _, _, _, _, _, _, _, _, _, _, _, _, _, _, rfl, _⟩ := h; rfl))
local macro_rules | `(tactic| walk_at "small") => `(tactic| first | exact Nat.zero_le _ | exact (by decide : 1 ≤ sizeLine) | exact (by decide : 2 ≤ sizeLine) | exact (by decide : 3 ≤ sizeLine) | exact (by decide : 4 ≤ sizeLine) | exact (by decide : 5 ≤ sizeLine) | exact (by decide : 6 ≤ sizeLine))
local macro_rules | `(tactic| walk_at "dn") => `(tactic| dsimp only [cxOf, L2.start, List.map, List.length, List.replicate, List.cons_append, List.nil_append, Nat.reduceAdd, Nat.reduceSub, Nat.zero_add])
local macro_rules | `(tactic| walk_at "ar") => `(tactic| first | assumption | (show _ < _; omega) | (show _ < _ ∧ _ < _; omega) | (left; show _ < _ ∧ _ < _; constructor <;> omega) | (right; show _ < _ ∧ _ < _; constructor <;> omega))
local macro_rules | `(tactic| walk_at "sz") => `(tactic| first | omega | (simp only [vN_len, List.length_append, List.length_cons, List.length_nil, List.length_map, List.length_range, List.length_replicate, List.length_set, List.length_take, List.length_drop, List.length_reverse]; omega))
local macro_rules | `(tactic| walk_at "ds") => `(tactic| try dsimp only [List.set])
set_option hygiene false in
local macro_rules | `(tactic| walk_at "endL") => `(tactic| (refine' ⟨_, ?e1, ?e2, ?e3, k p hp⟩; (case e1 => walk_at "same"); (case e2 => walk_at "wl"); (case e3 => exact Prs.same (by walk_at "same"))))
set_option hygiene false in
local macro_rules | `(tactic| walk_at "endS") => `(tactic| exact ⟨H, by walk_at "same", wl, Prs.refl _, k⟩)
set_option hygiene false in
local macro_rules | `(tactic| walk_at "endQ") => `(tactic| (refine' ⟨_, ?e1, ?e2, ?e3, k q hp⟩; (case e1 => walk_at "same"); (case e2 => walk_at "wl"); (case e3 => exact Prs.same (by walk_at "same"))))
local macro_rules | `(tactic| walk_at "f5") => `(tactic| (walk_at "f1"; walk_at "f4"))
local macro_rules | `(tactic| walk_at "f6") => `(tactic| (walk_at "f2"; walk_at "f4"))
local macro_rules | `(tactic| walk_at "f7") => `(tactic| (walk_at "f3"; walk_at "f4"))
set_option hygiene false in
local macro_rules | `(tactic| walk_at "fd") => `(tactic| first
  | ((with_reducible refine' z_w_prime ?hv ?hh ?_); (case hv => exact rfl); (case hh => assumption))
  | ((with_reducible refine' z_w_turns ?hv ?hh ?_); (case hv => exact rfl); (case hh => assumption))
  | ((with_reducible refine' z_w_size ?hv ?hh ?_); (case hv => exact rfl); (case hh => assumption))
  | ((with_reducible refine' z_w_powers ?hv ?hh ?_); (case hv => exact rfl); (case hh => assumption))
  | ((with_reducible refine' z_w_places ?hv ?hh ?_); (case hv => exact rfl); (case hh => assumption))
  | ((with_reducible refine' z_t_prime ?hv ?hh ?_); (case hv => exact rfl); (case hh => assumption))
  | ((with_reducible refine' z_t_modulus ?hv ?hh ?_); (case hv => exact rfl); (case hh => assumption))
  | ((with_reducible refine' z_t_world ?hv ?hh ?_); (case hv => exact rfl); (case hh => assumption))
  | ((with_reducible refine' z_t_points ?hv ?hh ?_); (case hv => exact rfl); (case hh => assumption))
  | ((with_reducible refine' z_t_many ?hv ?hh ?_); (case hv => exact rfl); (case hh => assumption))
  | ((with_reducible refine' z_t_reach ?hv ?hh ?_); (case hv => exact rfl); (case hh => assumption)))
local macro_rules | `(tactic| walk_at "sz") => `(tactic| (simp only [vN_len, digs_len, List.length_reverse]; omega))
section
variable {P : Program} {w : World} {K : PySem.W.Frag} {mg : Str → Option Value} {base : Heap}
theorem sc_figure_steps : FnScope ["prime", "rows", "left", "found", "place", "spots", "head", "turn", "row", "spot", "number"] ["prime", "rows"] (defScope s_figure_steps) := ⟨rfl, rfl, rfl, by decide +kernel, rfl, by decide +kernel, by decide +kernel⟩
def sp_figure_steps (K : PySem.W.Frag) : Sp := fun vs H Q _ => ∃ (p n : Nat) (a : Addr) (rows : List (List Nat)), vs = [.int p, .ref a] ∧ Wl H ∧ 2 ≤ p ∧ p ≤ 3 ∧ n ≤ 90 ∧ LL H a rows ∧ Good p n rows ∧ rows.length ≤ 90 ∧ ∀ q H', Same H H' → Wl H' → LL H' q (steps p rows) → Q (.ref q) H'
theorem spots_upto (c : Nat) (L : List (List Nat)) : upto L.length (fun i => decide ((L.getD i []).getD c 0 ≠ 0)) (fun i => .int (i : Nat)) = vN (spots c L) := rfl
theorem ok_figure_steps (T : Txt K mg) : FnAt P w K mg base 2 "figure_steps" ["prime", "rows"] (sp_figure_steps K) := by
  refine FnAt.of T 34 33 (d := d_figure_steps) (k := 1) rfl rfl rfl rfl rfl sc_figure_steps (fun _ _ _ _ _ _ us hl => match us, hl with | [_, _], _ => rfl) (fun vs H Q E h => by walk_at "len") (fun f_ cdv A outer s H vs Q E hr h => ?_)
  obtain ⟨p, n, a, rows, rfl, wl, h1, h2, hn, ⟨vs, ha, hrw⟩, hg, hl, k⟩ := h
  have hp0 : 0 < p := by omega
  refine ⟨_, (pss_cons (ps_par (i := 2) (j := 3) rfl sc_figure_steps.nd rfl rfl (by decide) rfl rfl (pa_cons (pe_lc (own := [("row", 8)]) rfl sc_figure_steps.nd (pi_list (pv 1)) (blkOk_by (N := ["prime", "rows", "left", "found", "place", "spots", "head", "turn", "row", "spot", "number"]) (sc := (defScope s_figure_steps)) (own := [("row", 8)]) (by decide +kernel)) (fun _ _ _ _ _ => (pg_name (i := 8) sc_figure_steps.nd rfl (Or.inl rfl))) (fun _ _ _ _ _ => pts_nil) (fun _ _ _ _ _ => (pe_f (pe_callTy (call_listK (K := K) rfl) (by rfl) T.n_list (by decide +kernel) (pa_cons (pv 8) pa_nil))))) (pa_cons (pe_lst pa_nil) pa_nil)) (by rfl))
    (pss_cons (ps_for PassesOwn.never rfl (pi_range1 (by rfl) T.n_range (pa_cons (pe_ifExp (pt_cmpR op_gt (pe_callB (call_lenK (K := K) rfl) (by rfl) T.n_len (by decide +kernel) (pa_cons (pv 1) pa_nil)) pe_int (nomark _)) (pe_callB (call_lenK (K := K) rfl) (by rfl) T.n_len (by decide +kernel) (pa_cons (pe_ix (ix_listK (K := K) rfl) (pv 1) pe_int (fun _ _ => rfl)) pa_nil)) pe_int) pa_nil)) (pg_name (i := 4) sc_figure_steps.nd rfl (Or.inr rfl))
      (pss_f (pss_cons (ps_setLc (i := 5) (own := [("spot", 9), ("row", 8)]) rfl sc_figure_steps.nd rfl rfl (sw_true rfl rfl rfl (by decide +kernel)) (pi_D (pi_enum (by rfl) T.n_enumerate (pa_cons (pv 2) pa_nil))) (blkOk_by (N := ["prime", "rows", "left", "found", "place", "spots", "head", "turn", "row", "spot", "number"]) (sc := (defScope s_figure_steps)) (own := [("spot", 9), ("row", 8)]) (by decide +kernel)) (fun _ _ _ _ _ => (pg_tupD (n := 2) rfl (pgs_cons (pg_name (i := 9) sc_figure_steps.nd rfl (Or.inl rfl)) (pgs_cons (pg_name (i := 8) sc_figure_steps.nd rfl (Or.inl rfl)) pgs_nil)))) (fun _ _ _ _ _ => (pts_one (pt_cmpR op_ne (pe_ix (ix_listK (K := K) rfl) (pv 8) (pv 4) (fun _ _ => rfl)) pe_int (nomark _)))) (fun _ _ _ _ _ => (pv 9)))
    (pss_one (ps_if (pt_cmpR op_gt (pe_callB (call_lenK (K := K) rfl) (by rfl) T.n_len (by decide +kernel) (pa_cons (pv 5) pa_nil)) pe_int (nomark _)) (pss_cons (ps_set (i := 6) sc_figure_steps.nd rfl (Or.inr rfl) (pe_bm PySem.F.plainAttrs_list PySem.F.slot_list_pop PySem.F.type_list_pop mt_popAt (pv 2) (pa_cons (pe_ix (ix_listK (K := K) rfl) (pv 5) pe_int (fun _ _ => rfl)) pa_nil)))
    (pss_cons (ps_set (i := 7) sc_figure_steps.nd rfl (Or.inr rfl) (pe_callF (ok_undone_by T) (by decide) hr (by rfl) (pa_cons (pv 0) (pa_cons (pe_ix (ix_listK (K := K) rfl) (pv 6) (pv 4) (fun _ _ => rfl)) pa_nil))))
    (pss_cons (ps_set (i := 6) sc_figure_steps.nd rfl (Or.inr rfl) (pe_lc (own := [("number", 10)]) rfl sc_figure_steps.nd (pi_list (pv 6)) (blkOk_by (N := ["prime", "rows", "left", "found", "place", "spots", "head", "turn", "row", "spot", "number"]) (sc := (defScope s_figure_steps)) (own := [("number", 10)]) (by decide +kernel)) (fun _ _ _ _ _ => (pg_name (i := 10) sc_figure_steps.nd rfl (Or.inl rfl))) (fun _ _ _ _ _ => pts_nil) (fun _ _ _ _ _ => (pe_op op_mod (pe_op op_mul (pv 10) (pv 7)) (pv 0)))))
    (pss_cons (ps_setLc (i := 2) (own := [("row", 8)]) rfl sc_figure_steps.nd rfl rfl (sw_true rfl rfl rfl (by decide +kernel)) (pi_list (pv 2)) (blkOk_by (N := ["prime", "rows", "left", "found", "place", "spots", "head", "turn", "row", "spot", "number"]) (sc := (defScope s_figure_steps)) (own := [("row", 8)]) (by decide +kernel)) (fun _ _ _ _ _ => (pg_name (i := 8) sc_figure_steps.nd rfl (Or.inl rfl))) (fun _ _ _ _ _ => pts_nil) (fun _ _ _ _ _ => (pe_f (pe_callF (ok_less_row T) (by decide) hr (by rfl) (pa_cons (pv 0) (pa_cons (pv 8) (pa_cons (pv 6) (pa_cons (pv 4) pa_nil))))))))
    (pss_one (ps_set (i := 3) sc_figure_steps.nd rfl (Or.inl rfl) (pe_op op_cat (pe_lc (own := [("row", 8)]) rfl sc_figure_steps.nd (pi_list (pv 3)) (blkOk_by (N := ["prime", "rows", "left", "found", "place", "spots", "head", "turn", "row", "spot", "number"]) (sc := (defScope s_figure_steps)) (own := [("row", 8)]) (by decide +kernel)) (fun _ _ _ _ _ => (pg_name (i := 8) sc_figure_steps.nd rfl (Or.inl rfl))) (fun _ _ _ _ _ => pts_nil) (fun _ _ _ _ _ => (pe_f (pe_callF (ok_less_row T) (by decide) hr (by rfl) (pa_cons (pv 0) (pa_cons (pv 8) (pa_cons (pv 6) (pa_cons (pv 4) pa_nil)))))))) (pe_lst (pa_cons (pv 6) pa_nil))))))))) pss_nil)))))
    (pss_one (ps_ret (pv 3))))), ?_⟩
  walk_at "dn"
  walk_at "zz"
  refine e_list (SqL.of ha) ?_
  refine lcl_rows (jw_list (n := rows.length) hrw.len) (fun i => rows.getD i []) (by omega) wl (fun A se _ => SqL.of (se _ _ ha)) (fun i _ => rfl) (fun A i hi se wl2 R h => ?_) (fun D A nD se wl2 hL => ?_)
  · obtain ⟨b, eb, hb⟩ := hrw.atD hi
    rw [eb]
    walk_at "ds"
    walk_at "zz"
    refine r_list (SqL.of (se _ _ hb)) fun q nq => ?_
    have wq := Wl.put (o := .lst (vN (rows.getD i []))) wl2 (NoOwn.none nq) trivial
    exact ⟨_, Same.refl _, wq, Prs.same (Same.new (Same.refl _) nq), h q _ nq (Same.new (Same.refl _) nq) wq upd_same⟩
  · rw [map_range_self] at hL
    obtain ⟨lv, hD, hrD⟩ := hL
    walk_at "zz"
    refine ⟨by walk_at "small", fun fo hfo => ?_⟩
    walk_at "zz"
    walk_at "ds"
    have e0 : ∃ m : Nat, m = (rows.getD 0 []).length ∧ m ≤ 90 := ⟨_, rfl, by
      by_cases h0 : 0 < rows.length
      · rw [(hg.at h0).len]
        exact hn
      · rw [List.getD_eq_getElem?_getD, List.getElem?_eq_none (by omega)]
        exact Nat.zero_le _⟩
    obtain ⟨m, em, hm⟩ := e0
    have wl3 : Wl (upd A fo (.lst [])) := Wl.put wl2 (NoOwn.none hfo) trivial
    have se3 : Same H (upd A fo (.lst [])) := Same.new se (se.free hfo)
    refine r_len (SqL.of (se3 _ _ ha)) ?_
    walk_at "zz"
    rw [hrw.len]
    by_cases h0 : 0 < rows.length
    · rw [decide_eq_true (by omega)]
      walk_at "zz"
      obtain ⟨b0, eb0, hb0⟩ := hrw.at 0 h0
      refine r_ixL (SqL.of (se3 _ _ ha)) (k := ((0 : Nat) : Int)) (atI_nat eb0) ?_
      have hb3 := se3 _ _ hb0
      walk_at "zz"
      have hmn : m = n := by rw [em]; exact (hg.at h0).len
      refine e_rng1 m (by rw [vN_len, em]) (by omega) ?_
      have eL : ∃ L0, L0 = stepsTo p rows 0 := ⟨_, rfl⟩
      refine lp_of (jw_range (n := m)) (fun i st A => ∃ la fa lv fv y4 y5 y6 y7 y8 y9 y10, st = [some (.int p), some (.ref a), some (.ref la), some (.ref fa), y4, y5, y6, y7, y8, y9, y10] ∧ Same H A ∧ Wl A ∧ H la = none ∧ la ≠ fa ∧ A la = some (.lst lv) ∧ Rows A lv (stepsTo p rows i).1 ∧ A fa = some (.lst fv) ∧ Rows A fv (stepsTo p rows i).2)
        ⟨D, fo, lv, [], _, _, _, _, _, _, _, rfl, se3, wl3, nD, ne_of_none hD hfo, upd_at (ne_of_none hD hfo) hD, hrD.mono (Same.new (Same.refl _) hfo), upd_same, True.intro⟩ (fun _ _ _ _ _ => trivial) ?_ ?_
      · clear hD hrD hfo wl3 se3 hb3 se wl2 nD
        rintro i _ A hi ⟨la, fa, lv, fv, y4, y5, y6, y7, y8, y9, y10, rfl, se, wl2, nla, hlf, hla, hrl, hfa, hrf⟩
        have hgs := stepsTo_good hp0 hg i
        have hls := stepsTo_len p rows i
        have est : stepsTo p rows (i + 1) = stepAt p i (stepsTo p rows i) := rfl
        rw [est]
        generalize stepsTo p rows i = S at hrl hrf hgs hls ⊢
        obtain ⟨L, G⟩ := S
        dsimp only at hrl hrf hgs hls
        walk_at "ds"
        rw [show ((0 : Int) + (i : Nat)) = (i : Nat) from Int.zero_add _]
        walk_at "zz"
        refine e_enum (SqL.of hla) ?_
        refine lcl_val (jw_enum (n := L.length) hrl.len) (fun i2 => decide ((L.getD i2 []).getD i 0 ≠ 0)) (fun i2 => .int (i2 : Nat)) (by omega) (fun D acc nD => ⟨SqL.of (upd_at (ne_of_none hla nD) hla), Wl.put wl2 (NoOwn.none nD) trivial⟩) (fun i2 _ => rfl) (fun D acc i2 nD hi2 R r => ?_) (fun D acc i2 nD hi2 hx R r => ?_) (fun D nD => ?_)
        · obtain ⟨b, eb, hb⟩ := hrl.atD hi2
          rw [eb]
          have hrow := hgs.1.at hi2
          walk_at "ds"
          walk_at "zz"
          refine r_ixL (SqL.of (upd_at (ne_of_none hb nD) hb)) (k := ((i : Nat) : Int)) (atN (by rw [hrow.len]; omega)) ?_
          walk_at "zz"
          rw [decide_not] at r
          have e1 : decide ((((L.getD i2 []).getD i 0 : Nat) : Int) = 0) = decide ((L.getD i2 []).getD i 0 = 0) := decide_eq_decide.mpr (by omega)
          rw [e1]
          exact r
        · walk_at "zz"
          exact r
        · rw [spots_upto]
          walk_at "zz"
          have wl4 : Wl (upd A D (.lst (vN (spots i L)))) := Wl.put wl2 (NoOwn.none nD) trivial
          have s4 : Same A (upd A D (.lst (vN (spots i L)))) := Same.new (Same.refl _) nD
          have hD4 : (upd A D (.lst (vN (spots i L)))) D = some (.lst (vN (spots i L))) := upd_same
          generalize upd A D (.lst (vN (spots i L))) = B at wl4 s4 hD4 ⊢
          cases hsp : spots i L with
          | nil =>
            rw [hsp] at hD4
            rw [decide_eq_false (by decide)]
            walk_at "zz"
            refine ⟨B, Same.refl _, wl4, Prs.same s4, la, fa, lv, fv, _, _, _, _, _, _, _, rfl, fun a o e => s4 _ _ (se _ _ e), wl4, nla, hlf, s4 _ _ hla, ?_, s4 _ _ hfa, ?_⟩
            · unfold stepAt
              rw [hsp]
              exact hrl.mono s4
            · unfold stepAt
              rw [hsp]
              exact hrf.mono s4
          | cons i0 rest =>
            obtain ⟨hi0, hx0⟩ := spots_mem (show i0 ∈ spots i L by rw [hsp]; exact List.mem_cons_self ..)
            rw [hsp] at hD4
            rw [decide_eq_true (by rw [vN_len, List.length_cons]; omega)]
            have hla4 := s4 _ _ hla
            walk_at "zz"
            refine r_ixL (SqL.of hD4) (k := ((0 : Nat) : Int)) (atN (by rw [List.length_cons]; omega)) ?_
            walk_at "zz"
            have hrl4 := Rows.put (o := .lst (lv.eraseIdx i0)) (hrl.mono s4) hla4
            have hrf4 := Rows.keep (o := .lst (lv.eraseIdx i0)) hla4 (hrl.mono s4) (by omega) (hrf.mono s4)
            have wl5 : Wl (upd B la (.lst (lv.eraseIdx i0))) := Wl.put wl4 (NoOwn.flat hla4 trivial) trivial
            have se5 : Same H (upd B la (.lst (lv.eraseIdx i0))) := Same.new (fun a o e => s4 _ _ (se _ _ e)) nla
            have pr5 : Prs A (upd B la (.lst (lv.eraseIdx i0))) := Prs.trans (Prs.same s4) (Prs.mut hla4 (fun z => z))
            obtain ⟨b, eb, hb⟩ := hrl4.at i0 hi0
            have hla5 : (upd B la (.lst (lv.eraseIdx i0))) la = some (.lst (lv.eraseIdx i0)) := upd_same
            have hfa5 : (upd B la (.lst (lv.eraseIdx i0))) fa = some (.lst fv) := upd_at (Ne.symm hlf) (s4 _ _ hfa)
            have hll := hrl.len
            refine ⟨la, lv, (i0 : Nat), i0, .ref b, rfl, rfl, hla4, by omega, by omega, (ixN_seq (ixN_in (by omega))).1, eb, ?_⟩
            generalize upd B la (.lst (lv.eraseIdx i0)) = C at hrl4 hrf4 wl5 se5 pr5 hb hla5 hfa5 ⊢
            replace hrl4 := hrl4.erase i0
            have hrow := hgs.1.at hi0
            walk_at "zz"
            refine r_ixL (SqL.of hb) (k := ((i : Nat) : Int)) (atN (by rw [hrow.len]; omega)) ?_
            walk_at "zz"
            have hxp := hrow.lt i
            refine ⟨p, (L.getD i0 []).getD i 0, rfl, wl5, h1, h2, by omega, hxp, ?_⟩
            walk_at "zz"
            refine e_list (SqL.of hb) ?_
            refine lcl_all (jw_list (n := (L.getD i0 []).length) (vN_len _)) (fun j => .int (((L.getD i0 []).getD j 0 * (L.getD i0 []).getD i 0 % p : Nat))) (by rw [hrow.len]; omega) (fun D acc nD => SqL.of (upd_at (ne_of_none hb nD) hb)) (fun _ _ => rfl) (fun D acc j nD hj R r => ?_) (fun hd nhd => ?_)
            · rw [vN_getD hj]
              walk_at "ds"
              walk_at "zz"
              exact r
            · rw [map_set_int (f := fun x => x * (L.getD i0 []).getD i 0 % p)]
              have ehd : (L.getD i0 []).map (fun x => x * (L.getD i0 []).getD i 0 % p) = headOf p i i0 L := rfl
              rw [ehd]
              have hhrow : Row p n (headOf p i i0 L) := hrow.scale hp0
              have s6 : Same C (upd C hd (.lst (vN (headOf p i i0 L)))) := Same.new (Same.refl _) nhd
              have wl6 : Wl (upd C hd (.lst (vN (headOf p i i0 L)))) := Wl.put wl5 (NoOwn.none nhd) trivial
              have hhd : (upd C hd (.lst (vN (headOf p i i0 L)))) hd = some (.lst (vN (headOf p i i0 L))) := upd_same
              generalize upd C hd (.lst (vN (headOf p i i0 L))) = C2 at s6 wl6 hhd ⊢
              replace hrl4 := hrl4.mono s6
              replace hrf4 := hrf4.mono s6
              walk_at "zz"
              refine e_list (SqL.of (s6 _ _ hla5)) ?_
              have hes : (L.eraseIdx i0).length = L.length - 1 := by rw [List.length_eraseIdx_of_lt hi0]
              refine lcl_rows (jw_list (n := (L.eraseIdx i0).length) hrl4.len) (fun j => lessRow p ((L.eraseIdx i0).getD j []) (headOf p i i0 L) i) (by omega) wl6 (fun A se _ => SqL.of (se _ _ (s6 _ _ hla5))) (fun _ _ => rfl) (fun A2 j hj seA wlA R h => ?_) (fun la2 A2 nla2 seA wlA hL2 => ?_)
              · obtain ⟨ra, er, hra⟩ := hrl4.atD hj
                rw [er]
                have hrw2 := hgs.1.erase.at hj
                walk_at "ds"
                walk_at "zz"
                have := hrw2.lt i
                refine ⟨p, i, ra, hd, _, _, rfl, wlA, hp0, seA _ _ hra, seA _ _ hhd, by rw [hrw2.len, hhrow.len], by rw [hrw2.len]; omega, by rw [hrw2.len]; omega, by omega, fun q nq => ?_⟩
                have wq := Wl.put (o := .lst (vN (lessRow p ((L.eraseIdx i0).getD j []) (headOf p i i0 L) i))) wlA (NoOwn.none nq) trivial
                exact ⟨_, Same.refl _, wq, Prs.same (Same.new (Same.refl _) nq), h q _ nq (Same.new (Same.refl _) nq) wq upd_same⟩
              · rw [map_range_getD [] (fun r => lessRow p r (headOf p i i0 L) i)] at hL2
                walk_at "zz"
                have s7 : Same C A2 := fun a o e => seA _ _ (s6 _ _ e)
                refine e_list (SqL.of (s7 _ _ hfa5)) ?_
                replace hrf4 := hrf4.mono seA
                refine lcl_rows (jw_list (n := G.length) hrf4.len) (fun j => lessRow p (G.getD j []) (headOf p i i0 L) i) (by omega) wlA (fun A se _ => SqL.of (se _ _ (s7 _ _ hfa5))) (fun _ _ => rfl) (fun A3 j hj seB wlB R h => ?_) (fun fa2 A3 nfa2 seB wlB hG2 => ?_)
                · obtain ⟨ra, er, hra⟩ := hrf4.atD hj
                  rw [er]
                  have hrw2 := hgs.2.at hj
                  walk_at "ds"
                  walk_at "zz"
                  have := hrw2.lt i
                  refine ⟨p, i, ra, hd, _, _, rfl, wlB, hp0, seB _ _ hra, seB _ _ (seA _ _ hhd), by rw [hrw2.len, hhrow.len], by rw [hrw2.len]; omega, by rw [hrw2.len]; omega, by omega, fun q nq => ?_⟩
                  have wq := Wl.put (o := .lst (vN (lessRow p (G.getD j []) (headOf p i i0 L) i))) wlB (NoOwn.none nq) trivial
                  exact ⟨_, Same.refl _, wq, Prs.same (Same.new (Same.refl _) nq), h q _ nq (Same.new (Same.refl _) nq) wq upd_same⟩
                · rw [map_range_getD [] (fun r => lessRow p r (headOf p i i0 L) i)] at hG2
                  obtain ⟨gv, hgv, hrg⟩ := hG2
                  walk_at "zz"
                  refine ⟨by walk_at "small", fun l1 nl1 => ?_⟩
                  have hgl := hrg.len
                  rw [List.length_map] at hgl
                  refine r_cat (upd_at (ne_of_none hgv nl1) hgv) upd_same (by rw [hgl, List.length_singleton]; omega) fun l2 nl2 => ?_
                  obtain ⟨hn21, nl2'⟩ := upd_none nl2
                  walk_at "zz"
                  have s8 : Same A3 (upd (upd A3 l1 (.lst [.ref hd])) l2 (.lst (gv ++ [.ref hd]))) := Same.new (Same.new (Same.refl _) nl1) nl2'
                  have wl8 : Wl (upd (upd A3 l1 (.lst [.ref hd])) l2 (.lst (gv ++ [.ref hd]))) := Wl.put (Wl.put wlB (NoOwn.none nl1) trivial) (NoOwn.none nl2) trivial
                  have s9 : Same C (upd (upd A3 l1 (.lst [.ref hd])) l2 (.lst (gv ++ [.ref hd]))) := fun a o e => s8 _ _ (seB _ _ (s7 _ _ e))
                  obtain ⟨lv2, hlv2, hrlv2⟩ := hL2.mono (fun a o e => s8 _ _ (seB _ _ e))
                  have hc2 : ∀ b, C2 b = none → H b = none := fun b e => se5.free (s6.free e)
                  refine ⟨_, Same.refl _, wl8, Prs.trans pr5 (Prs.same s9), la2, l2, lv2, _, _, _, _, _, _, _, _, rfl, fun a o e => s9 _ _ (se5 _ _ e), wl8, hc2 _ nla2, ?_, hlv2, ?_, upd_same, ?_⟩
                  · obtain ⟨lv3, hlv3, _⟩ := hL2
                    exact ne_of_none (seB _ _ hlv3) nl2'
                  · unfold stepAt
                    rw [hsp]
                    exact hrlv2
                  · unfold stepAt
                    rw [hsp]
                    exact Rows.snoc (s8 _ _ (seB _ _ (seA _ _ hhd))) (hrg.mono s8)
      · rintro _ A2 ⟨la, fa, lv, fv, y4, y5, y6, y7, y8, y9, y10, rfl, se4, wl4, nla, hlf, hla, hrl, hfa, hrf⟩
        walk_at "zz"
        exact ⟨_, Same.refl _, wl4, Prs.same se4, k fa A2 se4 wl4 ⟨fv, hfa, by unfold steps; rw [← em]; exact hrf⟩⟩
    · rw [decide_eq_false (by omega)]
      walk_at "zz"
      have h00 : rows = [] := List.eq_nil_of_length_eq_zero (by omega)
      subst h00
      refine e_rng1 0 rfl (by omega) ?_
      refine lp_of (jw_range (n := 0)) (fun i st B => st = [some (.int p), some (.ref a), some (.ref D), some (.ref fo), none, none, none, none, none, none, none] ∧ B = upd A fo (.lst [])) ⟨rfl, rfl⟩ (fun _ _ _ _ _ => trivial) (fun i _ _ hi => absurd hi (Nat.not_lt_zero _)) ?_
      rintro _ _ ⟨rfl, rfl⟩
      walk_at "zz"
      exact ⟨_, Same.refl _, wl3, Prs.same se3, k fo _ se3 wl3 ⟨[], upd_same, True.intro⟩⟩
theorem sc_rows_rank : FnScope ["prime", "rows"] ["prime", "rows"] (defScope s_rows_rank) := ⟨rfl, rfl, rfl, by decide +kernel, rfl, by decide +kernel, by decide +kernel⟩
def sp_rows_rank (K : PySem.W.Frag) : Sp := fun vs H Q _ => ∃ (p n : Nat) (a : Addr) (rows : List (List Nat)), vs = [.int p, .ref a] ∧ Wl H ∧ 2 ≤ p ∧ p ≤ 3 ∧ n ≤ 90 ∧ LL H a rows ∧ Good p n rows ∧ rows.length ≤ 90 ∧ Q (.int (rkRows p rows)) H
theorem ok_rows_rank (T : Txt K mg) : FnAt P w K mg base 3 "rows_rank" ["prime", "rows"] (sp_rows_rank K) := by
  refine FnAt.of T 35 34 (d := d_rows_rank) (k := 2) rfl rfl rfl rfl rfl sc_rows_rank (fun _ _ _ _ _ _ us hl => match us, hl with | [_, _], _ => rfl) (fun vs H Q E h => by walk_at "len") (fun f_ cdv A outer s H vs Q E hr h => ?_)
  obtain ⟨p, n, a, rows, rfl, wl, h1, h2, hn, hL, hg, hl, k⟩ := h
  refine ⟨_, (pss_one (ps_ret (pe_callB (call_lenK (K := K) rfl) (by rfl) T.n_len (by decide +kernel) (pa_cons (pe_callF (ok_figure_steps T) (by decide) hr (by rfl) (pa_cons (pv 0) (pa_cons (pv 1) pa_nil))) pa_nil)))), ?_⟩
  walk_at "dn"
  walk_at "zz"
  refine ⟨p, n, a, rows, rfl, wl, h1, h2, hn, hL, hg, hl, fun q A se wl2 hLL => ?_⟩
  obtain ⟨vs, hv, hrw⟩ := hLL
  walk_at "zz"
  rw [hrw.len]
  exact ⟨H, se, wl, Prs.refl _, k⟩
theorem sc_rank_of : FnScope ["field", "some", "one"] ["field", "some"] (defScope s_rank_of) := ⟨rfl, rfl, rfl, by decide +kernel, rfl, by decide +kernel, by decide +kernel⟩
def sp_rank_of (K : PySem.W.Frag) : Sp := fun vs H Q _ => ∃ (f a : Addr) (F : Fd) (xs : List Nat), vs = [.ref f, .ref a] ∧ Wl H ∧ FieldAt K H f F ∧ FOK F ∧ H a = some (.lst (vN xs)) ∧ xs.length ≤ 90 ∧ Q (.int (rkF F xs)) H
theorem ok_rank_of (T : Txt K mg) : FnAt P w K mg base 4 "rank_of" ["field", "some"] (sp_rank_of K) := by
  refine FnAt.of T 36 35 (d := d_rank_of) (k := 3) rfl rfl rfl rfl rfl sc_rank_of (fun _ _ _ _ _ _ us hl => match us, hl with | [_, _], _ => rfl) (fun vs H Q E h => by walk_at "len") (fun f_ cdv A outer s H vs Q E hr h => ?_)
  obtain ⟨f, a, F, xs, rfl, wl, hF, ok, ha, hl, k⟩ := h
  have hp := ok.p
  have hn := ok.n
  refine ⟨_, (pss_one (ps_ret (pe_callF (ok_rows_rank T) (by decide) hr (by rfl) (pa_cons (pe_fldK (K := K) rfl (pv 0) rfl) (pa_cons (pe_lc (own := [("one", 2)]) rfl sc_rank_of.nd (pi_list (pv 1)) (blkOk_by (N := ["field", "some", "one"]) (sc := (defScope s_rank_of)) (own := [("one", 2)]) (by decide +kernel)) (fun _ _ _ _ _ => (pg_name (i := 2) sc_rank_of.nd rfl (Or.inl rfl))) (fun _ _ _ _ _ => pts_nil) (fun _ _ _ _ _ => (pe_f (pe_callF (ok_figures_of T) (by decide) hr (by rfl) (pa_cons (pv 0) (pa_cons (pv 2) pa_nil)))))) pa_nil))))), ?_⟩
  obtain ⟨dx, m, a1, b1, h1, h2, h3, h4⟩ := hF.ex
  walk_at "dn"
  walk_at "zz"
  refine e_list (SqL.of ha) ?_
  refine lcl_rows (jw_list (n := xs.length) (vN_len _)) (fun i => digs F.p F.n (xs.getD i 0)) (by omega) wl (fun A se _ => SqL.of (se _ _ ha)) (fun _ _ => rfl) (fun A i hi se wl2 R h => ?_) (fun D A nD se wl2 hL => ?_)
  · rw [vN_getD hi]
    walk_at "ds"
    walk_at "zz"
    refine ⟨f, F, _, rfl, wl2, hF.mono se, ok, fun q nq => ?_⟩
    have wq := Wl.put (o := .lst (vN (digs F.p F.n (xs.getD i 0)))) wl2 (NoOwn.none nq) trivial
    exact ⟨_, Same.refl _, wq, Prs.same (Same.new (Same.refl _) nq), h q _ nq (Same.new (Same.refl _) nq) wq upd_same⟩
  · rw [map_range_getD 0 (fun x => digs F.p F.n x)] at hL
    walk_at "zz"
    refine ⟨F.p, F.n, D, _, rfl, wl2, hp.1, hp.2, by omega, hL, fun r hr => ?_, by rw [List.length_map]; exact hl, ?_⟩
    · obtain ⟨x, _, rfl⟩ := List.mem_map.mp hr
      exact digs_row (by omega) _ _
    · exact ⟨H, se, wl, Prs.refl _, k⟩
end
end TP
/-! part TPt -/
/-! turn sums and words, in plain words -/
namespace TP
def El (F : Fd) (xs : List Nat) : Prop := ∀ x ∈ xs, x < F.q
theorem El.at {F : Fd} {xs : List Nat} (h : El F xs) {i : Nat} (hi : i < xs.length) : xs.getD i 0 < F.q := by
  rw [List.getD_eq_getElem?_getD, List.getElem?_eq_getElem hi]
  exact h _ (List.getElem_mem hi)
theorem El.atD {F : Fd} (ok : FOK F) {xs : List Nat} (h : El F xs) (i : Nat) : xs.getD i 0 < F.q := by
  have := ok.q
  exact getD_lt (by omega) h i
theorem El.app {F : Fd} {xs ys : List Nat} (h : El F xs) (g : El F ys) : El F (xs ++ ys) := fun x m => by
  rcases List.mem_append.mp m with m | m
  · exact h x m
  · exact g x m
theorem El.take {F : Fd} {xs : List Nat} (h : El F xs) (k : Nat) : El F (xs.take k) := fun x m => h x (List.mem_of_mem_take m)
theorem El.drop {F : Fd} {xs : List Nat} (h : El F xs) (k : Nat) : El F (xs.drop k) := fun x m => h x (List.mem_of_mem_drop m)
theorem El.trim {F : Fd} {xs : List Nat} (h : El F xs) : El F (trim xs) := h.take _
theorem El.map {F : Fd} {α : Type} {xs : List α} {f : α → Nat} (h : ∀ x ∈ xs, f x < F.q) : El F (xs.map f) := fun x m => by
  obtain ⟨y, hy, rfl⟩ := List.mem_map.mp m
  exact h y hy
theorem El.set {F : Fd} {xs : List Nat} (h : El F xs) {i y : Nat} (hy : y < F.q) : El F (xs.set i y) := fun x m => by
  rcases List.mem_or_eq_of_mem_set m with m | e
  · exact h x m
  · rw [e]
    exact hy
theorem El.rep {F : Fd} (ok : FOK F) (k : Nat) : El F (List.replicate k 0) := fun x m => by
  have := ok.q
  rw [(List.mem_replicate.mp m).2]
  omega
def tn (F : Fd) (i x : Nat) : Nat := turF F (i % F.n) x
theorem tn_lt {F : Fd} (ok : FOK F) {x : Nat} (h : x < F.q) (i : Nat) : tn F i x < F.q := turF_lt ok h _
def sumL (F : Fd) (near far : List Nat) : List Nat := trim ((List.range far.length).map (fun i => addF F (near.getD i 0) (far.getD i 0)) ++ near.drop far.length)
def sumT (F : Fd) (one other : List Nat) : List Nat := if other.length ≤ one.length then sumL F one other else sumL F other one
def negT (F : Fd) (xs : List Nat) : List Nat := xs.map fun x => subF F 0 x
def lessT (F : Fd) (one other : List Nat) : List Nat := sumT F one (negT F other)
theorem sumL_el {F : Fd} (ok : FOK F) {a b : List Nat} (ha : El F a) (hb : El F b) : El F (sumL F a b) := by
  refine El.trim (El.app (El.map fun i hi => ?_) (ha.drop _))
  exact addF_lt ok (ha.atD ok i) (hb.atD ok i)
theorem sumT_el {F : Fd} (ok : FOK F) {a b : List Nat} (ha : El F a) (hb : El F b) : El F (sumT F a b) := by
  unfold sumT
  split
  · exact sumL_el ok ha hb
  · exact sumL_el ok hb ha
theorem negT_el {F : Fd} (ok : FOK F) {a : List Nat} : El F (negT F a) := by
  have := ok.q
  exact El.map fun x _ => subF_lt ok (by omega)
theorem lessT_el {F : Fd} (ok : FOK F) {a b : List Nat} (ha : El F a) : El F (lessT F a b) := sumT_el ok ha (negT_el ok)
def worN (F : Fd) (t : List Nat) (x : Nat) : Nat → Nat
  | 0 => 0
  | i + 1 => addF F (worN F t x i) (mulF F (t.getD i 0) (tn F i x))
theorem worN_lt {F : Fd} (ok : FOK F) (t : List Nat) (x : Nat) : ∀ i, worN F t x i < F.q
  | 0 => by have := ok.q; show 0 < F.q; omega
  | i + 1 => addF_lt ok (worN_lt ok t x i) (mulF_lt ok _ _)
def worF (F : Fd) (t : List Nat) (x : Nat) : Nat := worN F t x t.length
theorem worF_lt {F : Fd} (ok : FOK F) (t : List Nat) (x : Nat) : worF F t x < F.q := worN_lt ok t x _
def wordF (F : Fd) (t ps : List Nat) : List Nat := ps.map fun x => worF F t x
def difF (F : Fd) (a b : List Nat) : List Nat := List.zipWith (fun x y => subF F x y) a b
theorem difF_el {F : Fd} (ok : FOK F) {a b : List Nat} (ha : El F a) : El F (difF F a b) := fun z m => by
  unfold difF at m
  obtain ⟨i, hi, e⟩ := List.getElem_of_mem m
  rw [List.getElem_zipWith] at e
  rw [← e]
  exact subF_lt ok (ha _ (List.getElem_mem _))
theorem difF_len {F : Fd} {a b : List Nat} (h : a.length = b.length) : (difF F a b).length = a.length := by
  unfold difF
  rw [List.length_zipWith, h, Nat.min_self]
end TP
/-! part Q11 -/
set_option maxHeartbeats 1000000
namespace TP
open PySem PySem.Spec PyProof.Rows L2
set_option hygiene false in
local macro_rules | `(tactic| walk_at "ne") => `(tactic| first | assumption | exact Ne.symm (by assumption) | exact ne_of_none (H := H) (by assumption) (by assumption) | exact (ne_of_none (H := H) (by assumption) (by assumption)).symm | exact ne_of_none (H := A) (by assumption) (by assumption) | exact (ne_of_none (H := A) (by assumption) (by assumption)).symm)
local macro_rules | `(tactic| walk_at "get") => `(tactic| first | assumption | exact upd_same | (refine upd_at ?_ ?_; (focus walk_at "ne"); (walk_at "get")))
local macro_rules | `(tactic| walk_at "nn") => `(tactic| first | assumption | (refine none_upd ?_ ?_; (focus walk_at "ne"); (walk_at "nn")))
local macro_rules | `(tactic| walk_at "same") => `(tactic| first | exact Same.refl _ | assumption | (refine Same.both ?_; walk_at "same") | (refine TP.Same.new ?_ ?_; (focus walk_at "same"); (walk_at "nn")) | (refine Same.put ?_ ?_; (focus walk_at "same"); (walk_at "get")))
local macro_rules | `(tactic| walk_at "noown") => `(tactic| first | exact NoOwn.none (by assumption) | (refine NoOwn.upd ?_ True.intro; walk_at "noown"))
local macro_rules | `(tactic| walk_at "wl") => `(tactic| first | assumption | (refine Wl.put ?_ ?_ True.intro; (focus walk_at "wl"); (walk_at "noown")))
local macro_rules | `(tactic| walk_at "sq") => `(tactic| first | assumption | exact SqL.of (by walk_at "get"))
set_option hygiene false in
local macro_rules | `(tactic| walk_at "f1") => `(tactic| obtain ⟨_, hp⟩ := upd_none hp)
set_option hygiene false in
local macro_rules | `(tactic| walk_at "f2") => `(tactic| (obtain ⟨_, hp⟩ := upd_none hp; obtain ⟨_, hp⟩ := upd_none hp))
set_option hygiene false in
local macro_rules | `(tactic| walk_at "f3") => `(tactic| (obtain ⟨_, hp⟩ := upd_none hp; obtain ⟨_, hp⟩ := upd_none hp; obtain ⟨_, hp⟩ := upd_none hp))
set_option hygiene false in
local macro_rules | `(tactic| walk_at "f4") => `(tactic| (obtain ⟨_, hp⟩ := upd_none hp; obtain ⟨_, hp⟩ := upd_none hp; obtain ⟨_, hp⟩ := upd_none hp; obtain ⟨_, hp⟩ := upd_none hp))
set_option hygiene false in
local macro_rules | `(tactic| walk_at "fa") => `(tactic| first
  | ((with_reducible refine' z_own_prime T ?hv ?hh ?_); (case hv => exact rfl); (case hh => walk_at "get"))
  | ((with_reducible refine' z_own_turns T ?hv ?hh ?_); (case hv => exact rfl); (case hh => walk_at "get"))
  | ((with_reducible refine' z_own_size T ?hv ?hh ?_); (case hv => exact rfl); (case hh => walk_at "get"))
  | ((with_reducible refine' z_own_powers T ?hv ?hh ?_); (case hv => exact rfl); (case hh => walk_at "get"))
  | ((with_reducible refine' z_own_logs T ?hv ?hh ?_); (case hv => exact rfl); (case hh => walk_at "get"))
  | ((with_reducible refine' z_own_field T ?hv ?hh ?_); (case hv => exact rfl); (case hh => walk_at "get"))
  | ((with_reducible refine' z_own_points T ?hv ?hh ?_); (case hv => exact rfl); (case hh => walk_at "get"))
  | ((with_reducible refine' z_own_many T ?hv ?hh ?_); (case hv => exact rfl); (case hh => walk_at "get")))
local macro_rules | `(tactic| walk_at "z") => `(tactic| first
  | with_reducible refine z_seq ?_
  | with_reducible refine z_asg ?_
  | with_reducible refine z_name ?_
  | ((with_reducible refine' z_var ?hv ?_); (case hv => exact rfl))
  | with_reducible refine z_c ?_
  | with_reducible refine z_op ?_
  | with_reducible refine r_I0 ?_
  | ((with_reducible refine r_I ?hc ?_); (case hc => walk_at "ar"))
  | ((with_reducible refine' r_app ?ha ?hz ?_); (case ha => walk_at "get"); (case hz => walk_at "sz"))
  | ((with_reducible refine' z_tyl ?ha ?_); (case ha => walk_at "get"))
  | with_reducible refine z_cons ?_
  | ((with_reducible refine' r_len ?ha ?_); (case ha => walk_at "sq"))
  | with_reducible refine z_nil ?_
  | walk_at "fa"
  | walk_at "fd"
  | with_reducible refine z_test ?_
  | with_reducible refine z_bl ?_
  | with_reducible refine z_tB ?_
  | with_reducible refine r_eq ?_
  | with_reducible refine r_ne ?_
  | with_reducible refine z_ifS ?_
  | with_reducible refine z_ret ?_
  | with_reducible refine z_drop ?_
  | with_reducible refine z_cb ?_
  | with_reducible refine z_call ?_
  | with_reducible refine z_bm ?_
  | with_reducible refine z_bm0 ?_
  | with_reducible refine z_lst ?_
  | with_reducible refine z_tup ?_
  | with_reducible refine z_un ?_
  | with_reducible refine r_U ?_
  | with_reducible refine z_par ?_
  | with_reducible refine z_par3 ?_
  | with_reducible refine z_two ?_
  | with_reducible refine z_three ?_
  | with_reducible refine z_sub ?_
  | with_reducible refine z_for ?_
  | with_reducible refine z_lc ?_
  | with_reducible refine z_ifE ?_
  | with_reducible refine z_and ?_
  | with_reducible refine z_or ?_
  | with_reducible refine z_not ?_
  | with_reducible refine z_yes ?_
  | with_reducible refine z_andV ?_
  | with_reducible refine z_orV ?_
  | with_reducible refine z_notV ?_
  | with_reducible refine z_sl ?_
  | with_reducible refine z_noP ?_
  | with_reducible refine z_part ?_
  | with_reducible refine z_int ?_
  | with_reducible refine z_revL ?_
  | with_reducible refine z_next ?_
  | with_reducible refine z_sf ?_
  | with_reducible refine z_f ?_
  | with_reducible refine z_tf ?_
  | with_reducible refine z_disp ?_
  | with_reducible refine z_pc ?_
  | with_reducible refine z_pn ?_
  | with_reducible refine z_i1 ?_
  | with_reducible refine i_rng3 ?_
  | with_reducible refine z_chain ?_
  | with_reducible refine z_nT ?_
  | with_reducible refine z_nF ?_
  | with_reducible refine z_sfld ?_
  | with_reducible refine i_rng1 ?_
  | with_reducible refine i_rng2 ?_
  | with_reducible refine i_list ?_
  | with_reducible refine i_zip ?_
  | with_reducible refine i_enum ?_
  | with_reducible refine z_tt ?_
  | with_reducible refine z_ff ?_)
local macro_rules | `(tactic| walk_at "zz") => `(tactic| repeat walk_at "z")
set_option hygiene false in
local macro_rules | `(tactic| walk_at "len") => `(tactic| first | (obtain ⟨rfl, _⟩ := h; rfl) | (obtain ⟨_, rfl, _⟩ := h; rfl) | (obtain ⟨_, _, rfl, _⟩ := h; rfl) | (obtain ⟨_, _, _, rfl, _⟩ := h; rfl) | (obtain ⟨_, _, _, _, rfl, _⟩ := h; rfl) | (obtain ⟨_, _, _, _, _, rfl, _⟩ := h; rfl) | (obtain ⟨_, _, _, _, _, _, rfl, _⟩ := h; rfl) | (obtain ⟨_, _, _, _, _, _, _, rfl, _⟩ := h; rfl) | (obtain ⟨_, _, _, _, _, _, _, _, rfl, _⟩ := h; rfl) | (obtain ⟨_, _, _, _, _, _, _, _, _, rfl, _⟩ := h; rfl) | (obtain ⟨_, _, _, _, _, _, _, _, _, _, rfl, _⟩ := h; rfl) | (obtain ⟨_, _, _, _, _, _, _, _, _, _, _, rfl, _⟩ := h; rfl) | (obtain ⟨_, _, _, _, _, _, _, _, _, _, _, _, rfl, _⟩ := h; rfl) | (obtain ⟨_, _, _, _, _, _, _, _, _, _, _, _, _, rfl, _⟩ := h; rfl) | (obtain ⟨_, _, _, _, _, _, _, _, _, _, _, _, _, _, rfl, _⟩ := h; rfl) | (obtain ⟨_, _, _, _, _, _, _, _, _, _, _, _, _, _, _, rfl, _⟩ := h; rfl) | (obtain ⟨_, _, _, _, _, _, _, _, _, _, _, _, _, _, _, _, rfl, _⟩ := h; rfl))
local macro_rules | `(tactic| walk_at "small") => `(tactic| first | exact Nat.zero_le _ | exact (by decide : 1 ≤ sizeLine) | exact (by decide : 2 ≤ sizeLine) | exact (by decide : 3 ≤ sizeLine) | exact (by decide : 4 ≤ sizeLine) | exact (by decide : 5 ≤ sizeLine) | exact (by decide : 6 ≤ sizeLine))
local macro_rules | `(tactic| walk_at "dn") => `(tactic| dsimp only [cxOf, L2.start, List.map, List.length, List.replicate, List.cons_append, List.nil_append, Nat.reduceAdd, Nat.reduceSub, Nat.zero_add])
local macro_rules | `(tactic| walk_at "ar") => `(tactic| first | assumption | (show _ < _; omega) | (show _ < _ ∧ _ < _; omega) | (left; show _ < _ ∧ _ < _; constructor <;> omega) | (right; show _ < _ ∧ _ < _; constructor <;> omega))
local macro_rules | `(tactic| walk_at "sz") => `(tactic| first | omega | (simp only [vN_len, List.length_append, List.length_cons, List.length_nil, List.length_map, List.length_range, List.length_replicate, List.length_set, List.length_take, List.length_drop, List.length_reverse]; omega))
local macro_rules | `(tactic| walk_at "ds") => `(tactic| try dsimp only [List.set])
set_option hygiene false in
local macro_rules | `(tactic| walk_at "endL") => `(tactic| (refine' ⟨_, ?e1, ?e2, ?e3, k p hp⟩; (case e1 => walk_at "same"); (case e2 => walk_at "wl"); (case e3 => exact Prs.same (by walk_at "same"))))
set_option hygiene false in
local macro_rules | `(tactic| walk_at "endS") => `(tactic| exact ⟨H, by walk_at "same", wl, Prs.refl _, k⟩)
set_option hygiene false in
local macro_rules | `(tactic| walk_at "endQ") => `(tactic| (refine' ⟨_, ?e1, ?e2, ?e3, k q hp⟩; (case e1 => walk_at "same"); (case e2 => walk_at "wl"); (case e3 => exact Prs.same (by walk_at "same"))))
local macro_rules | `(tactic| walk_at "f5") => `(tactic| (walk_at "f1"; walk_at "f4"))
local macro_rules | `(tactic| walk_at "f6") => `(tactic| (walk_at "f2"; walk_at "f4"))
local macro_rules | `(tactic| walk_at "f7") => `(tactic| (walk_at "f3"; walk_at "f4"))
set_option hygiene false in
local macro_rules | `(tactic| walk_at "fd") => `(tactic| first
  | ((with_reducible refine' z_w_prime ?hv ?hh ?_); (case hv => exact rfl); (case hh => assumption))
  | ((with_reducible refine' z_w_turns ?hv ?hh ?_); (case hv => exact rfl); (case hh => assumption))
  | ((with_reducible refine' z_w_size ?hv ?hh ?_); (case hv => exact rfl); (case hh => assumption))
  | ((with_reducible refine' z_w_powers ?hv ?hh ?_); (case hv => exact rfl); (case hh => assumption))
  | ((with_reducible refine' z_w_places ?hv ?hh ?_); (case hv => exact rfl); (case hh => assumption))
  | ((with_reducible refine' z_t_prime ?hv ?hh ?_); (case hv => exact rfl); (case hh => assumption))
  | ((with_reducible refine' z_t_modulus ?hv ?hh ?_); (case hv => exact rfl); (case hh => assumption))
  | ((with_reducible refine' z_t_world ?hv ?hh ?_); (case hv => exact rfl); (case hh => assumption))
  | ((with_reducible refine' z_t_points ?hv ?hh ?_); (case hv => exact rfl); (case hh => assumption))
  | ((with_reducible refine' z_t_many ?hv ?hh ?_); (case hv => exact rfl); (case hh => assumption))
  | ((with_reducible refine' z_t_reach ?hv ?hh ?_); (case hv => exact rfl); (case hh => assumption)))
section
variable {P : Program} {w : World} {K : PySem.W.Frag} {mg : Str → Option Value} {base : Heap}
theorem sc_told_of : FnScope ["numbers", "many"] ["numbers"] (defScope s_told_of) := ⟨rfl, rfl, rfl, by decide +kernel, rfl, by decide +kernel, by decide +kernel⟩
def sp_told_of (K : PySem.W.Frag) : Sp := fun vs H Q _ => ∃ (a : Addr) (ns : List Nat), vs = [.ref a] ∧ Wl H ∧ H a = some (.lst (vN ns)) ∧ ∀ p, H p = none → Q (.ref p) (upd H p (.lst (vN (trim ns))))
theorem ok_told_of (T : Txt K mg) : FnAt P w K mg base 1 "told_of" ["numbers"] (sp_told_of K) := by
  refine FnAt.of T 38 37 (d := d_told_of) (k := 0) rfl rfl rfl rfl rfl sc_told_of (fun _ _ _ _ _ _ us hl => match us, hl with | [_], _ => rfl) (fun vs H Q E h => by walk_at "len") (fun f_ cdv A outer s H vs Q E hr h => ?_)
  obtain ⟨a, ns, rfl, wl, ha, k⟩ := h
  refine ⟨_, (pss_cons (ps_set (i := 1) sc_told_of.nd rfl (Or.inl rfl) (pe_callB (call_lenK (K := K) rfl) (by rfl) T.n_len (by decide +kernel) (pa_cons (pv 0) pa_nil)))
    (pss_cons (ps_while PassesOwn.never (PW.pt (pw_and (pt_cmpR op_gt (pv 1) pe_int (nomark _)) (pw_and1 (pt_cmpR op_eq (pe_ix (ix_listK (K := K) rfl) (pv 0) (pe_op op_sub (pv 1) pe_int) (fun _ _ => rfl)) pe_int (nomark _)))))
      (pss_one (ps_set (i := 1) sc_told_of.nd rfl (Or.inl rfl) (pe_op op_sub (pv 1) pe_int))))
    (pss_one (ps_ret (pe_callTy (call_listK (K := K) rfl) (by rfl) T.n_list (by decide +kernel) (pa_cons (pe_slice (sl_listK (K := K) rfl) (pv 0) po_none (po_some (pv 1))) pa_nil)))))), ?_⟩
  walk_at "dn"
  walk_at "zz"
  rw [vN_len]
  refine z_whileB (fun m st A => st = [some (.ref a), some (.int (m : Nat))] ∧ H = A ∧ m ≤ ns.length ∧ endOf ns m = endOf ns ns.length) (fun m => m) ns.length ⟨rfl, rfl, Nat.le_refl _, rfl⟩ ?_
  rintro m _ _ ⟨rfl, rfl, hm, he⟩
  by_cases h0 : m = 0
  · subst h0
    refine ⟨false, fun R r => ?_, nofun, fun _ => ?_⟩
    · walk_at "zz"
      exact r
    · walk_at "zz"
      refine r_slL (SqL.of ha) fun q hp => ?_
      walk_at "zz"
      refine r_list (by walk_at "sq") fun p hp => ?_
      walk_at "f1"
      rw [cut_to ns 0 hm]
      have e : trim ns = ns.take 0 := by unfold trim; rw [← he]; rfl
      rw [← e]
      walk_at "endL"
  · by_cases hx : ns.getD (m - 1) 0 = 0
    · refine ⟨true, fun R r => ?_, fun _ => ?_, nofun⟩
      · walk_at "zz"
        refine z_dec (fun _ => ?_) (fun h => by omega)
        walk_at "zz"
        rw [sub1 (by omega)]
        refine r_ixL (SqL.of ha) (atN (by omega)) ?_
        walk_at "zz"
        rw [hx]
        exact r
      · walk_at "zz"
        rw [sub1 (by omega)]
        refine ⟨m - 1, by omega, rfl, rfl, by omega, ?_⟩
        rw [← he]
        obtain ⟨j, rfl⟩ : ∃ j, m = j + 1 := ⟨m - 1, by omega⟩
        exact (if_pos hx).symm
    · refine ⟨false, fun R r => ?_, nofun, fun _ => ?_⟩
      · walk_at "zz"
        refine z_dec (fun _ => ?_) (fun h => by omega)
        walk_at "zz"
        rw [sub1 (by omega)]
        refine r_ixL (SqL.of ha) (atN (by omega)) ?_
        walk_at "zz"
        rw [decide_eq_false (by omega)]
        exact r
      · walk_at "zz"
        refine r_slL (SqL.of ha) fun q hp => ?_
        walk_at "zz"
        refine r_list (by walk_at "sq") fun p hp => ?_
        walk_at "f1"
        rw [cut_to ns m hm]
        have e : trim ns = ns.take m := by
          unfold trim
          rw [← he]
          obtain ⟨j, rfl⟩ : ∃ j, m = j + 1 := ⟨m - 1, by omega⟩
          exact congrArg (fun z => ns.take z) (if_neg hx)
        rw [← e]
        walk_at "endL"
theorem sc_is_sum : FnScope ["field", "value", "one"] ["field", "value"] (defScope s_is_sum) := ⟨rfl, rfl, rfl, by decide +kernel, rfl, by decide +kernel, by decide +kernel⟩
def sp_is_sum (K : PySem.W.Frag) : Sp := fun vs H Q _ => ∃ (f a : Addr) (F : Fd) (ns : List Nat), vs = [.ref f, .ref a] ∧ Wl H ∧ FieldAt K H f F ∧ H a = some (.lst (vN ns)) ∧ ns.length ≤ 13 ∧ El F ns ∧ Q (.bl true) H
theorem ok_is_sum (T : Txt K mg) : FnAt P w K mg base 4 "is_sum" ["field", "value"] (sp_is_sum K) := by
  refine FnAt.of T 39 38 (d := d_is_sum) (k := 3) rfl rfl rfl rfl rfl sc_is_sum (fun _ _ _ _ _ _ us hl => match us, hl with | [_, _], _ => rfl) (fun vs H Q E h => by walk_at "len") (fun f_ cdv A outer s H vs Q E hr h => ?_)
  obtain ⟨f, a, F, ns, rfl, wl, hF, ha, hl, hb, k⟩ := h
  obtain ⟨t_, hk_MOST_ELEMENTS⟩ := T.i_MOST_ELEMENTS
  refine ⟨_, (pss_one (ps_ret (pe_and (pe_callF (ok_is_list T) (by decide) hr (by rfl) (pa_cons (pv 1) pa_nil)) (pe_and (pe_cmpR op_le (pe_callB (call_lenK (K := K) rfl) (by rfl) T.n_len (by decide +kernel) (pa_cons (pv 1) pa_nil)) (pe_glob (v := .int 13) (by rfl) hk_MOST_ELEMENTS ⟨_, rfl⟩) (nomark _)) (pe_one (pe_callB (cr_allK (K := K) rfl rfl) (by rfl) T.n_all (by decide +kernel) (pa_cons (pe_lc (own := [("one", 2)]) rfl sc_is_sum.nd (pi_list (pv 1)) (blkOk_by (N := ["field", "value", "one"]) (sc := (defScope s_is_sum)) (own := [("one", 2)]) (by decide +kernel)) (fun _ _ _ _ _ => (pg_name (i := 2) sc_is_sum.nd rfl (Or.inl rfl))) (fun _ _ _ _ _ => pts_nil) (fun _ _ _ _ _ => (pe_callF (ok_is_in T) (by decide) hr (by rfl) (pa_cons (pv 0) (pa_cons (pv 2) pa_nil))))) pa_nil))))))), ?_⟩
  walk_at "dn"
  walk_at "zz"
  refine ⟨a, _, rfl, wl, ha, ?_⟩
  walk_at "zz"
  rw [vN_len, decide_eq_true (by omega)]
  walk_at "zz"
  refine e_list (xs := vN ns) (SqL.of ha) ?_
  refine lcl_all (jw_list (n := ns.length) (vN_len ns)) (fun _ => .bl true) (by omega) (fun D acc hp => by walk_at "sq") (fun i _ => rfl) (fun D acc i hp hi R r => ?_) (fun D hp => ?_)
  · rw [vN_getD hi]
    walk_at "ds"
    walk_at "zz"
    have hx := hb.at hi
    refine ⟨f, F, _, rfl, by walk_at "wl", hF.mono (by walk_at "same"), by omega, by omega, ?_⟩
    exact r
  · walk_at "zz"
    refine r_all (bs := (List.range _).map fun i => true) (SqL.of (by rw [List.map_map]; exact upd_same)) ?_
    rw [all_true]
    walk_at "endS"
theorem sc_want_turner : FnScope ["field", "value"] ["field", "value"] (defScope s_want_turner) := ⟨rfl, rfl, rfl, by decide +kernel, rfl, by decide +kernel, by decide +kernel⟩
def sp_want_turner (K : PySem.W.Frag) : Sp := fun vs H Q _ => ∃ (f a : Addr) (F : Fd) (ns : List Nat), vs = [.ref f, .ref a] ∧ Wl H ∧ FieldAt K H f F ∧ H a = some (.lst (vN ns)) ∧ ns.length ≤ 13 ∧ El F ns ∧ ∀ p, H p = none → Q (.ref p) (upd H p (.lst (vN (trim ns))))
theorem ok_want_turner (T : Txt K mg) : FnAt P w K mg base 5 "want_turner" ["field", "value"] (sp_want_turner K) := by
  refine FnAt.of T 40 39 (d := d_want_turner) (k := 4) rfl rfl rfl rfl rfl sc_want_turner (fun _ _ _ _ _ _ us hl => match us, hl with | [_, _], _ => rfl) (fun vs H Q E h => by walk_at "len") (fun f_ cdv A outer s H vs Q E hr h => ?_)
  obtain ⟨f, a, F, ns, rfl, wl, hF, ha, hl, hb, k⟩ := h
  refine ⟨_, (pss_cons (ps_if (pt_not (pt_val (pe_callF (ok_is_sum T) (by decide) hr (by rfl) (pa_cons (pv 0) (pa_cons (pv 1) pa_nil))))) (pss_one ps_never) pss_nil)
    (pss_one (ps_ret (pe_callF (ok_told_of T) (by decide) hr (by rfl) (pa_cons (pv 1) pa_nil))))), ?_⟩
  walk_at "dn"
  walk_at "zz"
  refine ⟨f, a, F, ns, rfl, wl, hF, ha, hl, hb, ?_⟩
  walk_at "zz"
  refine ⟨a, ns, rfl, wl, ha, fun p hp => ?_⟩
  walk_at "endL"
theorem sc_worth_of : FnScope ["field", "turner", "one", "found", "at", "element"] ["field", "turner", "one"] (defScope s_worth_of) := ⟨rfl, rfl, rfl, by decide +kernel, rfl, by decide +kernel, by decide +kernel⟩
def sp_worth_of (K : PySem.W.Frag) : Sp := fun vs H Q _ => ∃ (f a : Addr) (F : Fd) (ns : List Nat) (x : Nat), vs = [.ref f, .ref a, .int x] ∧ Wl H ∧ FieldAt K H f F ∧ FOK F ∧ H a = some (.lst (vN ns)) ∧ El F ns ∧ x < F.q ∧ Q (.int (worF F ns x)) H
theorem ok_worth_of (T : Txt K mg) : FnAt P w K mg base 3 "worth_of" ["field", "turner", "one"] (sp_worth_of K) := by
  refine FnAt.of T 43 42 (d := d_worth_of) (k := 2) rfl rfl rfl rfl rfl sc_worth_of (fun _ _ _ _ _ _ us hl => match us, hl with | [_, _, _], _ => rfl) (fun vs H Q E h => by walk_at "len") (fun f_ cdv A outer s H vs Q E hr h => ?_)
  obtain ⟨f, a, F, ns, x, rfl, wl, hF, ok, ha, hb, hx, k⟩ := h
  refine ⟨_, (pss_cons (ps_set (i := 3) sc_worth_of.nd rfl (Or.inl rfl) pe_int)
    (pss_cons (ps_for PassesOwn.never rfl (pi_D (pi_enum (by rfl) T.n_enumerate (pa_cons (pv 1) pa_nil))) (pg_tupD (n := 2) rfl (pgs_cons (pg_name (i := 4) sc_worth_of.nd rfl (Or.inl rfl)) (pgs_cons (pg_name (i := 5) sc_worth_of.nd rfl (Or.inl rfl)) pgs_nil)))
      (pss_one (ps_set (i := 3) sc_worth_of.nd rfl (Or.inl rfl) (pe_callF (ok_plus_of T) (by decide) hr (by rfl) (pa_cons (pv 0) (pa_cons (pv 3) (pa_cons (pe_callF (ok_times_of T) (by decide) hr (by rfl) (pa_cons (pv 0) (pa_cons (pv 5) (pa_cons (pe_callF (ok_turned_of T) (by decide) hr (by rfl) (pa_cons (pv 0) (pa_cons (pv 2) (pa_cons (pv 4) pa_nil)))) pa_nil)))) pa_nil)))))))
    (pss_one (ps_ret (pv 3))))), ?_⟩
  walk_at "dn"
  walk_at "zz"
  refine e_enum (SqL.of ha) ?_
  walk_at "ds"
  refine lp_of (jw_enum (n := ns.length) (vN_len ns)) (fun i st A => ∃ y1 y2, st = [some (.ref f), some (.ref a), some (.int x), some (.int (worN F ns x i : Nat)), y1, y2] ∧ H = A) ⟨_, _, rfl, rfl⟩ (fun i st A _ h => ?_) ?_ ?_
  · obtain ⟨_, _, _, rfl⟩ := h
    exact ⟨by walk_at "sq", wl⟩
  · rintro i _ _ hi ⟨y1, y2, rfl, rfl⟩
    rw [vN_getD hi]
    walk_at "ds"
    walk_at "zz"
    refine ⟨f, F, x, _, rfl, wl, hF, ok, hx, ?_⟩
    have e : (((i : Nat) : Int) % (F.n : Int)).toNat = i % F.n := rfl
    rw [e]
    walk_at "zz"
    refine ⟨f, F, _, _, rfl, wl, hF, ok, hb.at hi, turF_lt ok hx _, ?_⟩
    walk_at "zz"
    refine ⟨f, F, _, _, rfl, wl, hF, ok, worN_lt ok _ _ _, mulF_lt ok _ _, ?_⟩
    walk_at "zz"
    exact ⟨_, _, rfl, rfl⟩
  · rintro _ _ ⟨y1, y2, rfl, rfl⟩
    walk_at "zz"
    walk_at "endS"
theorem sc_sum_turners : FnScope ["field", "one", "other", "near", "far", "found", "at"] ["field", "one", "other"] (defScope s_sum_turners) := ⟨rfl, rfl, rfl, by decide +kernel, rfl, by decide +kernel, by decide +kernel⟩
def sp_sum_turners (K : PySem.W.Frag) : Sp := fun vs H Q _ => ∃ (f a b : Addr) (F : Fd) (ns ms : List Nat), vs = [.ref f, .ref a, .ref b] ∧ Wl H ∧ FieldAt K H f F ∧ FOK F ∧ H a = some (.lst (vN ns)) ∧ H b = some (.lst (vN ms)) ∧ ns.length ≤ 100 ∧ ms.length ≤ 100 ∧ El F ns ∧ El F ms ∧ ∀ p, H p = none → Q (.ref p) (upd H p (.lst (vN (sumT F ns ms))))
theorem ok_sum_turners (T : Txt K mg) : FnAt P w K mg base 3 "sum_turners" ["field", "one", "other"] (sp_sum_turners K) := by
  refine FnAt.of T 41 40 (d := d_sum_turners) (k := 2) rfl rfl rfl rfl rfl sc_sum_turners (fun _ _ _ _ _ _ us hl => match us, hl with | [_, _, _], _ => rfl) (fun vs H Q E h => by walk_at "len") (fun f_ cdv A outer s H vs Q E hr h => ?_)
  obtain ⟨f, a, b, F, ns, ms, rfl, wl, hF, ok, ha, hb, hl, hm, hn, he, k⟩ := h
  refine ⟨_, (pss_cons (ps_f (ps_asg (pe_ifExp (pt_cmpR op_ge (pe_callB (call_lenK (K := K) rfl) (by rfl) T.n_len (by decide +kernel) (pa_cons (pv 1) pa_nil)) (pe_callB (call_lenK (K := K) rfl) (by rfl) T.n_len (by decide +kernel) (pa_cons (pv 2) pa_nil)) (nomark _)) (pe_tup (pa_cons (pv 1) (pa_cons (pv 2) pa_nil))) (pe_tup (pa_cons (pv 2) (pa_cons (pv 1) pa_nil)))) (pg_tup (n := 2) rfl (pgs_cons (pg_name (i := 3) sc_sum_turners.nd rfl (Or.inr rfl)) (pgs_cons (pg_name (i := 4) sc_sum_turners.nd rfl (Or.inr rfl)) pgs_nil)))))
    (pss_cons (ps_setLc (i := 5) (own := [("at", 6)]) rfl sc_sum_turners.nd rfl rfl (sw_true rfl rfl rfl (by decide +kernel)) (pi_range1 (by rfl) T.n_range (pa_cons (pe_callB (call_lenK (K := K) rfl) (by rfl) T.n_len (by decide +kernel) (pa_cons (pv 4) pa_nil)) pa_nil)) (blkOk_by (N := ["field", "one", "other", "near", "far", "found", "at"]) (sc := (defScope s_sum_turners)) (own := [("at", 6)]) (by decide +kernel)) (fun _ _ _ _ _ => (pg_name (i := 6) sc_sum_turners.nd rfl (Or.inl rfl))) (fun _ _ _ _ _ => pts_nil) (fun _ _ _ _ _ => (pe_callF (ok_plus_of T) (by decide) hr (by rfl) (pa_cons (pv 0) (pa_cons (pe_ix (ix_listK (K := K) rfl) (pv 3) (pv 6) (fun _ _ => rfl)) (pa_cons (pe_ix (ix_listK (K := K) rfl) (pv 4) (pv 6) (fun _ _ => rfl)) pa_nil))))))
    (pss_one (ps_ret (pe_callF (ok_told_of T) (by decide) hr (by rfl) (pa_cons (pe_op op_cat (pv 5) (pe_slice (sl_listK (K := K) rfl) (pv 3) (po_some (pe_callB (call_lenK (K := K) rfl) (by rfl) T.n_len (by decide +kernel) (pa_cons (pv 4) pa_nil))) po_none)) pa_nil)))))), ?_⟩
  walk_at "dn"
  walk_at "zz"
  rw [vN_len, vN_len]
  refine z_dec (fun hc => ?_) (fun hc => ?_)
  · have e : sumT F ns ms = sumL F ns ms := if_pos (by omega)
    walk_at "zz"
    refine ⟨by walk_at "small", fun p1 hp1 => ?_⟩
    refine z_gt2 (SqT.of upd_same) ?_
    refine ⟨H, Same.new (Same.refl _) hp1, wl, Prs.refl _, ?_⟩
    walk_at "ds"
    walk_at "zz"
    refine e_rng1 ms.length (by rw [vN_len]) (by omega) ?_
    refine lcl_all (jw_range (n := ms.length)) (fun i => .int (addF F (ns.getD i 0) (ms.getD i 0) : Nat)) (by omega) (fun D acc hp => trivial) (fun i _ => rfl) (fun D acc i hp hi R r => ?_) (fun D hp => ?_)
    · walk_at "ds"
      rw [show ((0 : Int) + (i : Nat)) = (i : Nat) from Int.zero_add _]
      walk_at "zz"
      refine r_ixL (by walk_at "sq") (atN (ns := ns) (by omega)) ?_
      walk_at "zz"
      refine r_ixL (by walk_at "sq") (atN (ns := ms) hi) ?_
      walk_at "zz"
      refine ⟨f, F, _, _, rfl, by walk_at "wl", hF.mono (by walk_at "same"), ok, hn.at (by omega), he.at hi, ?_⟩
      exact r
    · rw [vN_range (fun i => addF F (ns.getD i 0) (ms.getD i 0))]
      walk_at "zz"
      refine r_slL (by walk_at "sq") fun p2 hp => ?_
      rw [vN_len, cut_from ns ms.length (by omega)]
      have hp2 := (upd_none hp).1
      walk_at "f1"
      refine r_cat (by walk_at "get") upd_same (by rw [vN_len, vN_len, List.length_map, List.length_range, List.length_drop]; omega) fun p3 hp => ?_
      rw [← vN_app]
      walk_at "f2"
      walk_at "zz"
      refine ⟨p3, _, rfl, by walk_at "wl", upd_same, fun p hp => ?_⟩
      walk_at "f3"
      rw [e] at k
      walk_at "endL"
  · have e : sumT F ns ms = sumL F ms ns := if_neg (by omega)
    walk_at "zz"
    refine ⟨by walk_at "small", fun p1 hp1 => ?_⟩
    refine z_gt2 (SqT.of upd_same) ?_
    refine ⟨H, Same.new (Same.refl _) hp1, wl, Prs.refl _, ?_⟩
    walk_at "ds"
    walk_at "zz"
    refine e_rng1 ns.length (by rw [vN_len]) (by omega) ?_
    refine lcl_all (jw_range (n := ns.length)) (fun i => .int (addF F (ms.getD i 0) (ns.getD i 0) : Nat)) (by omega) (fun D acc hp => trivial) (fun i _ => rfl) (fun D acc i hp hi R r => ?_) (fun D hp => ?_)
    · walk_at "ds"
      rw [show ((0 : Int) + (i : Nat)) = (i : Nat) from Int.zero_add _]
      walk_at "zz"
      refine r_ixL (by walk_at "sq") (atN (ns := ms) (by omega)) ?_
      walk_at "zz"
      refine r_ixL (by walk_at "sq") (atN (ns := ns) hi) ?_
      walk_at "zz"
      refine ⟨f, F, _, _, rfl, by walk_at "wl", hF.mono (by walk_at "same"), ok, he.at (by omega), hn.at hi, ?_⟩
      exact r
    · rw [vN_range (fun i => addF F (ms.getD i 0) (ns.getD i 0))]
      walk_at "zz"
      refine r_slL (by walk_at "sq") fun p2 hp => ?_
      rw [vN_len, cut_from ms ns.length (by omega)]
      have hp2 := (upd_none hp).1
      walk_at "f1"
      refine r_cat (by walk_at "get") upd_same (by rw [vN_len, vN_len, List.length_map, List.length_range, List.length_drop]; omega) fun p3 hp => ?_
      rw [← vN_app]
      walk_at "f2"
      walk_at "zz"
      refine ⟨p3, _, rfl, by walk_at "wl", upd_same, fun p hp => ?_⟩
      walk_at "f3"
      rw [e] at k
      walk_at "endL"
theorem sc_less_turners : FnScope ["field", "one", "other", "element"] ["field", "one", "other"] (defScope s_less_turners) := ⟨rfl, rfl, rfl, by decide +kernel, rfl, by decide +kernel, by decide +kernel⟩
def sp_less_turners (K : PySem.W.Frag) : Sp := fun vs H Q _ => ∃ (f a b : Addr) (F : Fd) (ns ms : List Nat), vs = [.ref f, .ref a, .ref b] ∧ Wl H ∧ FieldAt K H f F ∧ FOK F ∧ H a = some (.lst (vN ns)) ∧ H b = some (.lst (vN ms)) ∧ ns.length ≤ 100 ∧ ms.length ≤ 100 ∧ El F ns ∧ El F ms ∧ ∀ p, H p = none → Q (.ref p) (upd H p (.lst (vN (lessT F ns ms))))
theorem ok_less_turners (T : Txt K mg) : FnAt P w K mg base 4 "less_turners" ["field", "one", "other"] (sp_less_turners K) := by
  refine FnAt.of T 42 41 (d := d_less_turners) (k := 3) rfl rfl rfl rfl rfl sc_less_turners (fun _ _ _ _ _ _ us hl => match us, hl with | [_, _, _], _ => rfl) (fun vs H Q E h => by walk_at "len") (fun f_ cdv A outer s H vs Q E hr h => ?_)
  obtain ⟨f, a, b, F, ns, ms, rfl, wl, hF, ok, ha, hb, hl, hm, hn, he, k⟩ := h
  have hq := ok.q
  refine ⟨_, (pss_one (ps_ret (pe_callF (ok_sum_turners T) (by decide) hr (by rfl) (pa_cons (pv 0) (pa_cons (pv 1) (pa_cons (pe_lc (own := [("element", 3)]) rfl sc_less_turners.nd (pi_list (pv 2)) (blkOk_by (N := ["field", "one", "other", "element"]) (sc := (defScope s_less_turners)) (own := [("element", 3)]) (by decide +kernel)) (fun _ _ _ _ _ => (pg_name (i := 3) sc_less_turners.nd rfl (Or.inl rfl))) (fun _ _ _ _ _ => pts_nil) (fun _ _ _ _ _ => (pe_callF (ok_minus_of T) (by decide) hr (by rfl) (pa_cons (pv 0) (pa_cons pe_int (pa_cons (pv 3) pa_nil)))))) pa_nil)))))), ?_⟩
  walk_at "dn"
  walk_at "zz"
  refine e_list (SqL.of hb) ?_
  refine lcl_all (jw_list (n := ms.length) (vN_len ms)) (fun i => .int (subF F 0 (ms.getD i 0) : Nat)) (by omega) (fun D acc hp => by walk_at "sq") (fun i _ => rfl) (fun D acc i hp hi R r => ?_) (fun D hp => ?_)
  · rw [vN_getD hi]
    walk_at "ds"
    walk_at "zz"
    refine ⟨f, F, 0, _, rfl, by walk_at "wl", hF.mono (by walk_at "same"), ok, by omega, he.at hi, ?_⟩
    exact r
  · rw [map_set_int (f := fun x => subF F 0 x)]
    walk_at "zz"
    refine ⟨f, a, D, F, ns, negT F ms, rfl, by walk_at "wl", hF.mono (by walk_at "same"), ok, by walk_at "get", upd_same, hl, by unfold negT; rw [List.length_map]; exact hm, hn, negT_el ok, fun p hp => ?_⟩
    walk_at "f1"
    walk_at "endL"
theorem sc_are_some : FnScope ["field", "value", "many", "one"] ["field", "value", "many"] (defScope s_are_some) := ⟨rfl, rfl, rfl, by decide +kernel, rfl, by decide +kernel, by decide +kernel⟩
def sp_are_some (K : PySem.W.Frag) : Sp := fun vs H Q _ => ∃ (f a : Addr) (F : Fd) (ns : List Nat) (m : Nat), vs = [.ref f, .ref a, .int m] ∧ Wl H ∧ FieldAt K H f F ∧ H a = some (.lst (vN ns)) ∧ ns.length = m ∧ m ≤ 100 ∧ El F ns ∧ Q (.bl true) H
theorem ok_are_some (T : Txt K mg) : FnAt P w K mg base 4 "are_some" ["field", "value", "many"] (sp_are_some K) := by
  refine FnAt.of T 44 43 (d := d_are_some) (k := 3) rfl rfl rfl rfl rfl sc_are_some (fun _ _ _ _ _ _ us hl => match us, hl with | [_, _, _], _ => rfl) (fun vs H Q E h => by walk_at "len") (fun f_ cdv A outer s H vs Q E hr h => ?_)
  obtain ⟨f, a, F, ns, m, rfl, wl, hF, ha, hm, hl, hb, k⟩ := h
  refine ⟨_, (pss_one (ps_ret (pe_and (pe_callF (ok_is_list T) (by decide) hr (by rfl) (pa_cons (pv 1) pa_nil)) (pe_and (pe_cmpR op_eq (pe_callB (call_lenK (K := K) rfl) (by rfl) T.n_len (by decide +kernel) (pa_cons (pv 1) pa_nil)) (pv 2) (nomark _)) (pe_one (pe_callB (cr_allK (K := K) rfl rfl) (by rfl) T.n_all (by decide +kernel) (pa_cons (pe_lc (own := [("one", 3)]) rfl sc_are_some.nd (pi_list (pv 1)) (blkOk_by (N := ["field", "value", "many", "one"]) (sc := (defScope s_are_some)) (own := [("one", 3)]) (by decide +kernel)) (fun _ _ _ _ _ => (pg_name (i := 3) sc_are_some.nd rfl (Or.inl rfl))) (fun _ _ _ _ _ => pts_nil) (fun _ _ _ _ _ => (pe_callF (ok_is_in T) (by decide) hr (by rfl) (pa_cons (pv 0) (pa_cons (pv 3) pa_nil))))) pa_nil))))))), ?_⟩
  walk_at "dn"
  walk_at "zz"
  refine ⟨a, _, rfl, wl, ha, ?_⟩
  walk_at "zz"
  rw [vN_len]
  refine z_dec (fun _ => ?_) (fun h => absurd (congrArg Int.ofNat hm) h)
  walk_at "zz"
  refine e_list (xs := vN ns) (SqL.of ha) ?_
  refine lcl_all (jw_list (n := ns.length) (vN_len ns)) (fun _ => .bl true) (by omega) (fun D acc hp => by walk_at "sq") (fun i _ => rfl) (fun D acc i hp hi R r => ?_) (fun D hp => ?_)
  · rw [vN_getD hi]
    walk_at "ds"
    walk_at "zz"
    have hx := hb.at hi
    refine ⟨f, F, _, rfl, by walk_at "wl", hF.mono (by walk_at "same"), by omega, by omega, ?_⟩
    exact r
  · walk_at "zz"
    refine r_all (bs := (List.range _).map fun i => true) (SqL.of (by rw [List.map_map]; exact upd_same)) ?_
    rw [all_true]
    walk_at "endS"
theorem sc_want_points : FnScope ["field", "value"] ["field", "value"] (defScope s_want_points) := ⟨rfl, rfl, rfl, by decide +kernel, rfl, by decide +kernel, by decide +kernel⟩
def sp_want_points (K : PySem.W.Frag) : Sp := fun vs H Q _ => ∃ (f a : Addr) (F : Fd) (ns : List Nat), vs = [.ref f, .ref a] ∧ Wl H ∧ FieldAt K H f F ∧ FOK F ∧ H a = some (.lst (vN ns)) ∧ 1 ≤ ns.length ∧ ns.length ≤ F.n ∧ El F ns ∧ ns.length ≤ rkF F ns ∧ ∀ p, H p = none → Q (.ref p) (upd H p (.lst (vN ns)))
theorem ok_want_points (T : Txt K mg) : FnAt P w K mg base 5 "want_points" ["field", "value"] (sp_want_points K) := by
  refine FnAt.of T 45 44 (d := d_want_points) (k := 4) rfl rfl rfl rfl rfl sc_want_points (fun _ _ _ _ _ _ us hl => match us, hl with | [_, _], _ => rfl) (fun vs H Q E h => by walk_at "len") (fun f_ cdv A outer s H vs Q E hr h => ?_)
  obtain ⟨f, a, F, ns, rfl, wl, hF, ok, ha, h1, h2, hb, hr2, k⟩ := h
  have hn := ok.n
  refine ⟨_, (pss_cons (ps_if (PW.pt (pw_or (pt_not (pt_val (pe_callF (ok_is_list T) (by decide) hr (by rfl) (pa_cons (pv 1) pa_nil)))) (pw_or (pt_not (pt_chain op_le op_le pe_int (pe_callB (call_lenK (K := K) rfl) (by rfl) T.n_len (by decide +kernel) (pa_cons (pv 1) pa_nil)) (pe_fldK (K := K) rfl (pv 0) rfl))) (pw_or1 (pt_not (pt_val (pe_callF (ok_are_some T) (by decide) hr (by rfl) (pa_cons (pv 0) (pa_cons (pv 1) (pa_cons (pe_callB (call_lenK (K := K) rfl) (by rfl) T.n_len (by decide +kernel) (pa_cons (pv 1) pa_nil)) pa_nil)))))))))) (pss_one ps_never) pss_nil)
    (pss_cons (ps_if (pt_cmpR op_lt (pe_callF (ok_rank_of T) (by decide) hr (by rfl) (pa_cons (pv 0) (pa_cons (pe_callTy (call_listK (K := K) rfl) (by rfl) T.n_list (by decide +kernel) (pa_cons (pv 1) pa_nil)) pa_nil))) (pe_callB (call_lenK (K := K) rfl) (by rfl) T.n_len (by decide +kernel) (pa_cons (pv 1) pa_nil)) (nomark _)) (pss_one ps_never) pss_nil)
    (pss_one (ps_ret (pe_callTy (call_listK (K := K) rfl) (by rfl) T.n_list (by decide +kernel) (pa_cons (pv 1) pa_nil)))))), ?_⟩
  obtain ⟨dx, m, a1, b1, hf1, hf2, hf3, hf4⟩ := hF.ex
  walk_at "dn"
  walk_at "zz"
  refine ⟨a, _, rfl, wl, ha, ?_⟩
  walk_at "zz"
  rw [vN_len, decide_eq_true (by omega)]
  walk_at "zz"
  rw [decide_eq_true (by omega)]
  walk_at "zz"
  rw [vN_len]
  refine ⟨f, a, F, ns, ns.length, rfl, wl, hF, ha, rfl, by omega, hb, ?_⟩
  walk_at "zz"
  refine r_list (SqL.of ha) fun p1 hp => ?_
  walk_at "zz"
  refine ⟨f, p1, F, ns, rfl, by walk_at "wl", hF.mono (by walk_at "same"), ok, upd_same, by omega, ?_⟩
  walk_at "zz"
  rw [vN_len, decide_eq_false (by omega)]
  walk_at "zz"
  refine r_list (by walk_at "sq") fun p hp => ?_
  walk_at "f1"
  walk_at "endL"
end
end TP
/-! part Q12 -/
set_option maxHeartbeats 1000000
namespace TP
open PySem PySem.Spec PyProof.Rows L2
set_option hygiene false in
local macro_rules | `(tactic| walk_at "ne") => `(tactic| first | assumption | exact Ne.symm (by assumption) | exact ne_of_none (H := H) (by assumption) (by assumption) | exact (ne_of_none (H := H) (by assumption) (by assumption)).symm | exact ne_of_none (H := A) (by assumption) (by assumption) | exact (ne_of_none (H := A) (by assumption) (by assumption)).symm)
local macro_rules | `(tactic| walk_at "get") => `(tactic| first | assumption | exact upd_same | (refine upd_at ?_ ?_; (focus walk_at "ne"); (walk_at "get")))
local macro_rules | `(tactic| walk_at "nn") => `(tactic| first | assumption | (refine none_upd ?_ ?_; (focus walk_at "ne"); (walk_at "nn")))
local macro_rules | `(tactic| walk_at "same") => `(tactic| first | exact Same.refl _ | assumption | (refine Same.both ?_; walk_at "same") | (refine TP.Same.new ?_ ?_; (focus walk_at "same"); (walk_at "nn")) | (refine Same.put ?_ ?_; (focus walk_at "same"); (walk_at "get")))
local macro_rules | `(tactic| walk_at "noown") => `(tactic| first | exact NoOwn.none (by assumption) | (refine NoOwn.upd ?_ True.intro; walk_at "noown"))
local macro_rules | `(tactic| walk_at "wl") => `(tactic| first | assumption | (refine Wl.put ?_ ?_ True.intro; (focus walk_at "wl"); (walk_at "noown")))
local macro_rules | `(tactic| walk_at "sq") => `(tactic| first | assumption | exact SqL.of (by walk_at "get"))
set_option hygiene false in
local macro_rules | `(tactic| walk_at "f1") => `(tactic| obtain ⟨_, hp⟩ := upd_none hp)
set_option hygiene false in
local macro_rules | `(tactic| walk_at "f2") => `(tactic| (obtain ⟨_, hp⟩ := upd_none hp; obtain ⟨_, hp⟩ := upd_none hp))
set_option hygiene false in
local macro_rules | `(tactic| walk_at "f3") => `(tactic| (obtain ⟨_, hp⟩ := upd_none hp; obtain ⟨_, hp⟩ := upd_none hp; obtain ⟨_, hp⟩ := upd_none hp))
set_option hygiene false in
local macro_rules | `(tactic| walk_at "f4") => `(tactic| (obtain ⟨_, hp⟩ := upd_none hp; obtain ⟨_, hp⟩ := upd_none hp; obtain ⟨_, hp⟩ := upd_none hp; obtain ⟨_, hp⟩ := upd_none hp))
set_option hygiene false in
local macro_rules | `(tactic| walk_at "fa") => `(tactic| first
  | ((with_reducible refine' z_own_prime T ?hv ?hh ?_); (case hv => exact rfl); (case hh => walk_at "get"))
  | ((with_reducible refine' z_own_turns T ?hv ?hh ?_); (case hv => exact rfl); (case hh => walk_at "get"))
  | ((with_reducible refine' z_own_size T ?hv ?hh ?_); (case hv => exact rfl); (case hh => walk_at "get"))
  | ((with_reducible refine' z_own_powers T ?hv ?hh ?_); (case hv => exact rfl); (case hh => walk_at "get"))
  | ((with_reducible refine' z_own_logs T ?hv ?hh ?_); (case hv => exact rfl); (case hh => walk_at "get"))
  | ((with_reducible refine' z_own_field T ?hv ?hh ?_); (case hv => exact rfl); (case hh => walk_at "get"))
  | ((with_reducible refine' z_own_points T ?hv ?hh ?_); (case hv => exact rfl); (case hh => walk_at "get"))
  | ((with_reducible refine' z_own_many T ?hv ?hh ?_); (case hv => exact rfl); (case hh => walk_at "get")))
local macro_rules | `(tactic| walk_at "z") => `(tactic| first
  | with_reducible refine z_seq ?_
  | with_reducible refine z_asg ?_
  | with_reducible refine z_name ?_
  | ((with_reducible refine' z_var ?hv ?_); (case hv => exact rfl))
  | with_reducible refine z_c ?_
  | with_reducible refine z_op ?_
  | with_reducible refine r_I0 ?_
  | ((with_reducible refine r_I ?hc ?_); (case hc => walk_at "ar"))
  | ((with_reducible refine' r_app ?ha ?hz ?_); (case ha => walk_at "get"); (case hz => walk_at "sz"))
  | ((with_reducible refine' z_tyl ?ha ?_); (case ha => walk_at "get"))
  | with_reducible refine z_cons ?_
  | ((with_reducible refine' r_len ?ha ?_); (case ha => walk_at "sq"))
  | with_reducible refine z_nil ?_
  | walk_at "fa"
  | walk_at "fd"
  | with_reducible refine z_test ?_
  | with_reducible refine z_bl ?_
  | with_reducible refine z_tB ?_
  | with_reducible refine r_eq ?_
  | with_reducible refine r_ne ?_
  | with_reducible refine z_ifS ?_
  | with_reducible refine z_ret ?_
  | with_reducible refine z_drop ?_
  | with_reducible refine z_cb ?_
  | with_reducible refine z_call ?_
  | with_reducible refine z_bm ?_
  | with_reducible refine z_bm0 ?_
  | with_reducible refine z_lst ?_
  | with_reducible refine z_tup ?_
  | with_reducible refine z_un ?_
  | with_reducible refine r_U ?_
  | with_reducible refine z_par ?_
  | with_reducible refine z_par3 ?_
  | with_reducible refine z_two ?_
  | with_reducible refine z_three ?_
  | with_reducible refine z_sub ?_
  | with_reducible refine z_for ?_
  | with_reducible refine z_lc ?_
  | with_reducible refine z_ifE ?_
  | with_reducible refine z_and ?_
  | with_reducible refine z_or ?_
  | with_reducible refine z_not ?_
  | with_reducible refine z_yes ?_
  | with_reducible refine z_andV ?_
  | with_reducible refine z_orV ?_
  | with_reducible refine z_notV ?_
  | with_reducible refine z_sl ?_
  | with_reducible refine z_noP ?_
  | with_reducible refine z_part ?_
  | with_reducible refine z_int ?_
  | with_reducible refine z_revL ?_
  | with_reducible refine z_next ?_
  | with_reducible refine z_sf ?_
  | with_reducible refine z_f ?_
  | with_reducible refine z_tf ?_
  | with_reducible refine z_disp ?_
  | with_reducible refine z_pc ?_
  | with_reducible refine z_pn ?_
  | with_reducible refine z_i1 ?_
  | with_reducible refine i_rng3 ?_
  | with_reducible refine z_chain ?_
  | with_reducible refine z_nT ?_
  | with_reducible refine z_nF ?_
  | with_reducible refine z_sfld ?_
  | with_reducible refine i_rng1 ?_
  | with_reducible refine i_rng2 ?_
  | with_reducible refine i_list ?_
  | with_reducible refine i_zip ?_
  | with_reducible refine i_enum ?_
  | with_reducible refine z_tt ?_
  | with_reducible refine z_ff ?_)
local macro_rules | `(tactic| walk_at "zz") => `(tactic| repeat walk_at "z")
set_option hygiene false in
local macro_rules | `(tactic| walk_at "len") => `(tactic| first | (obtain ⟨rfl, _⟩ := h; rfl) | (obtain ⟨_, rfl, _⟩ := h; rfl) | (obtain ⟨_, _, rfl, _⟩ := h; rfl) | (obtain ⟨_, _, _, rfl, _⟩ := h; rfl) | (obtain ⟨_, _, _, _, rfl, _⟩ := h; rfl) | (obtain ⟨_, _, _, _, _, rfl, _⟩ := h; rfl) | (obtain ⟨_, _, _, _, _, _, rfl, _⟩ := h; rfl) | (obtain ⟨_, _, _, _, _, _, _, rfl, _⟩ := h; rfl) | (obtain ⟨_, _, _, _, _, _, _, _, rfl, _⟩ := h; rfl) | (obtain ⟨_, _, _, _, _, _, _, _, _, rfl, _⟩ := h; rfl) | (obtain ⟨_, _, _, _, _, _, _, _, _, _, rfl, _⟩ := h; rfl) | (obtain ⟨_, _, _, _, _, _, _, _, _, _, _, rfl, _⟩ := h; rfl) | (obtain ⟨_, _, _, _, _, _, _, _, _, _, _, _, rfl, _⟩ := h; rfl) | (obtain ⟨_, _, _, _, _, _, _, _, _, _, _, _, _, rfl, _⟩ := h; rfl) | (obtain ⟨_, _, _, _, _, _, _, _, _, _, _, _, _, _, rfl, _⟩ := h; rfl) | (obtain ⟨_, _, _, _, _, _, _, _, _, _, _, _, _, _, _, rfl, _⟩ := h; rfl) | (obtain ⟨_, _, _, _, _, _, _, _, _, _, _, _, _, _, _, _, rfl, _⟩ := h; rfl))
local macro_rules | `(tactic| walk_at "small") => `(tactic| first | exact Nat.zero_le _ | exact (by decide : 1 ≤ sizeLine) | exact (by decide : 2 ≤ sizeLine) | exact (by decide : 3 ≤ sizeLine) | exact (by decide : 4 ≤ sizeLine) | exact (by decide : 5 ≤ sizeLine) | exact (by decide : 6 ≤ sizeLine))
local macro_rules | `(tactic| walk_at "dn") => `(tactic| dsimp only [cxOf, L2.start, List.map, List.length, List.replicate, List.cons_append, List.nil_append, Nat.reduceAdd, Nat.reduceSub, Nat.zero_add])
local macro_rules | `(tactic| walk_at "ar") => `(tactic| first | assumption | (show _ < _; omega) | (show _ < _ ∧ _ < _; omega) | (left; show _ < _ ∧ _ < _; constructor <;> omega) | (right; show _ < _ ∧ _ < _; constructor <;> omega))
local macro_rules | `(tactic| walk_at "sz") => `(tactic| first | omega | (simp only [vN_len, List.length_append, List.length_cons, List.length_nil, List.length_map, List.length_range, List.length_replicate, List.length_set, List.length_take, List.length_drop, List.length_reverse]; omega))
local macro_rules | `(tactic| walk_at "ds") => `(tactic| try dsimp only [List.set])
set_option hygiene false in
local macro_rules | `(tactic| walk_at "endL") => `(tactic| (refine' ⟨_, ?e1, ?e2, ?e3, k p hp⟩; (case e1 => walk_at "same"); (case e2 => walk_at "wl"); (case e3 => exact Prs.same (by walk_at "same"))))
set_option hygiene false in
local macro_rules | `(tactic| walk_at "endS") => `(tactic| exact ⟨H, by walk_at "same", wl, Prs.refl _, k⟩)
set_option hygiene false in
local macro_rules | `(tactic| walk_at "endQ") => `(tactic| (refine' ⟨_, ?e1, ?e2, ?e3, k q hp⟩; (case e1 => walk_at "same"); (case e2 => walk_at "wl"); (case e3 => exact Prs.same (by walk_at "same"))))
local macro_rules | `(tactic| walk_at "f5") => `(tactic| (walk_at "f1"; walk_at "f4"))
local macro_rules | `(tactic| walk_at "f6") => `(tactic| (walk_at "f2"; walk_at "f4"))
local macro_rules | `(tactic| walk_at "f7") => `(tactic| (walk_at "f3"; walk_at "f4"))
set_option hygiene false in
local macro_rules | `(tactic| walk_at "fd") => `(tactic| first
  | ((with_reducible refine' z_w_prime ?hv ?hh ?_); (case hv => exact rfl); (case hh => assumption))
  | ((with_reducible refine' z_w_turns ?hv ?hh ?_); (case hv => exact rfl); (case hh => assumption))
  | ((with_reducible refine' z_w_size ?hv ?hh ?_); (case hv => exact rfl); (case hh => assumption))
  | ((with_reducible refine' z_w_powers ?hv ?hh ?_); (case hv => exact rfl); (case hh => assumption))
  | ((with_reducible refine' z_w_places ?hv ?hh ?_); (case hv => exact rfl); (case hh => assumption))
  | ((with_reducible refine' z_t_prime ?hv ?hh ?_); (case hv => exact rfl); (case hh => assumption))
  | ((with_reducible refine' z_t_modulus ?hv ?hh ?_); (case hv => exact rfl); (case hh => assumption))
  | ((with_reducible refine' z_t_world ?hv ?hh ?_); (case hv => exact rfl); (case hh => assumption))
  | ((with_reducible refine' z_t_points ?hv ?hh ?_); (case hv => exact rfl); (case hh => assumption))
  | ((with_reducible refine' z_t_many ?hv ?hh ?_); (case hv => exact rfl); (case hh => assumption))
  | ((with_reducible refine' z_t_reach ?hv ?hh ?_); (case hv => exact rfl); (case hh => assumption)))
section
variable {P : Program} {w : World} {K : PySem.W.Frag} {mg : Str → Option Value} {base : Heap}
theorem sc_Book_init : FnScope ["self", "field", "points", "many", "here", "told"] ["self", "field", "points", "many"] (defScope s_Book_init) := ⟨rfl, rfl, rfl, by decide +kernel, rfl, by decide +kernel, by decide +kernel⟩
def sp_Book_init (K : PySem.W.Frag) : Sp := fun vs H Q _ => ∃ (F : Fd) (y dy f a : Addr) (m : Nat) (ns : List Nat) (H0 : Hp), vs = [.ref y, .ref f, .ref a, .int m] ∧ H = upd (upd H0 dy (.own y)) y (.ins (He.ga K "Book") dy []) ∧ H0 y = none ∧ H0 dy = none ∧ dy ≠ y ∧ Wl H0 ∧ FOK F ∧ FieldAt K H0 f F ∧ H0 a = some (.lst (vN ns)) ∧
  1 ≤ ns.length ∧ ns.length ≤ F.n ∧ El F ns ∧ ns.length ≤ rkF F ns ∧ 1 ≤ m ∧ m ≤ ns.length ∧ ∀ H', Same H0 H' → Wl H' → BookAt K H' y F ns m → Q .non H'
theorem ok_Book_init (T : Txt K mg) : InAt P w K mg base 6 "Book" (He.ga K "Book") ["self", "field", "points", "many"] (sp_Book_init K) := by
  refine InAt.of T 46 (d := d_Book_init) (k := 5) rfl T.g_Book T.m_Book rfl rfl rfl sc_Book_init (fun _ _ _ _ _ _ us hl => match us, hl with | [_, _, _, _], _ => rfl) (fun vs H Q E h => by walk_at "len") (fun f_ cdv A outer s H vs Q E hr h => ?_)
  obtain ⟨F, y, dy, f, a, m, ns, H0, rfl, rfl, ny, nd, hne, wl0, ok, hF, ha, h1, h2, hel, hrk, h3, h4, k⟩ := h
  have I := InF.first (C := He.ga K "Book") wl0 ny nd hne
  generalize upd (upd H0 dy (.own y)) y (.ins (He.ga K "Book") dy []) = H at I ⊢
  have wl := I.w
  refine ⟨_, (pss_cons (ps_set (i := 4) sc_Book_init.nd rfl (Or.inl rfl) (pe_callF (ok_want_field T) (by decide) hr (by rfl) (pa_cons (pv 1) pa_nil)))
    (pss_cons (ps_set (i := 5) sc_Book_init.nd rfl (Or.inl rfl) (pe_callF (ok_want_points T) (by decide) hr (by rfl) (pa_cons (pv 4) (pa_cons (pv 2) pa_nil))))
    (pss_cons (ps_expr (pe_callF (ok_want_many T) (by decide) hr (by rfl) (pa_cons (pv 3) (pa_cons (pe_callB (call_lenK (K := K) rfl) (by rfl) T.n_len (by decide +kernel) (pa_cons (pv 5) pa_nil)) (pa_cons pe_int pa_nil)))))
    (pss_cons (ps_fld (pv 0) (pv 4) rfl)
    (pss_cons (ps_fld (pv 0) (pv 5) rfl)
    (pss_one (ps_fld (pv 0) (pv 3) rfl))))))), ?_⟩
  walk_at "dn"
  walk_at "zz"
  refine ⟨f, F, rfl, wl, hF.mono I.s, ?_⟩
  walk_at "zz"
  refine ⟨f, a, F, ns, rfl, wl, hF.mono I.s, ok, I.s _ _ ha, h1, h2, hel, hrk, fun l nl => ?_⟩
  have I1 := I.new (xs := vN ns) nl
  have hl1 : (upd H l (.lst (vN ns))) l = some (.lst (vN ns)) := upd_same
  generalize upd H l (.lst (vN ns)) = A1 at I1 hl1 ⊢
  walk_at "zz"
  rw [vN_len]
  refine ⟨_, _, _, rfl, I1.w, by omega, by omega, by omega, ?_⟩
  walk_at "zz"
  refine e_sfld I1.i T.c_Book T.a_Book_own_field (by decide) ?_
  have nly : l ≠ y := fun e => by
    rw [e, I1.i] at hl1
    cases hl1
  have I2 := I1.put (fs' := putF "own_field" (.ref f) []) ny
  have hl2 : (upd A1 y (.ins (He.ga K "Book") dy (putF "own_field" (.ref f) []))) l = some (.lst (vN ns)) := upd_at nly hl1
  generalize upd A1 y (.ins (He.ga K "Book") dy (putF "own_field" (.ref f) [])) = A2 at I2 hl2 ⊢
  walk_at "zz"
  refine e_sfld I2.i T.c_Book T.a_Book_own_points (by first | decide | exact (by decide : 1 < 1000)) ?_
  have I3 := I2.put (fs' := putF "own_points" (.ref l) (putF "own_field" (.ref f) [])) ny
  have hl3 : (upd A2 y (.ins (He.ga K "Book") dy (putF "own_points" (.ref l) (putF "own_field" (.ref f) [])))) l = some (.lst (vN ns)) := upd_at nly hl2
  generalize upd A2 y (.ins (He.ga K "Book") dy (putF "own_points" (.ref l) (putF "own_field" (.ref f) []))) = A3 at I3 hl3 ⊢
  walk_at "zz"
  refine e_sfld I3.i T.c_Book T.a_Book_own_many (by first | decide | exact (by decide : 2 < 1000)) ?_
  have I4 := I3.put (fs' := bF f l m) ny
  exact ⟨upd A3 y (.ins (He.ga K "Book") dy (bF f l m)), Same.refl _, I4.w, I4.p, k _ I4.s I4.w ⟨⟨dy, f, l, I4.i, hF.mono I4.s, upd_at nly hl3⟩⟩⟩
theorem sc_want_book : FnScope ["value"] ["value"] (defScope s_want_book) := ⟨rfl, rfl, rfl, by decide +kernel, rfl, by decide +kernel, by decide +kernel⟩
def sp_want_book (K : PySem.W.Frag) : Sp := fun vs H Q _ => ∃ (b : Addr) (F : Fd) (ps : List Nat) (m : Nat), vs = [.ref b] ∧ Wl H ∧ BookAt K H b F ps m ∧ Q (.ref b) H
theorem ok_want_book (T : Txt K mg) : FnAt P w K mg base 1 "want_book" ["value"] (sp_want_book K) := by
  refine FnAt.of T 47 45 (d := d_want_book) (k := 0) rfl rfl rfl rfl rfl sc_want_book (fun _ _ _ _ _ _ us hl => match us, hl with | [_], _ => rfl) (fun vs H Q E h => by walk_at "len") (fun f_ cdv A outer s H vs Q E hr h => ?_)
  obtain ⟨b, F, ps, m, rfl, wl, hB, k⟩ := h
  obtain ⟨dx, f, l, h1, h2, h3⟩ := hB.ex
  refine ⟨_, (pss_cons (ps_if (pt_not (pt_val (pe_callB call_isi (by rfl) T.n_isinstance (by decide +kernel) (pa_cons (pv 0) (pa_cons (pe_glob (v := .ref (He.ga K "Book")) (by rfl) T.g_Book rfl) pa_nil))))) (pss_one ps_never) pss_nil)
    (pss_one (ps_ret (pv 0)))), ?_⟩
  walk_at "dn"
  walk_at "zz"
  refine r_isiB T h1 ?_
  walk_at "zz"
  exact ⟨H, Same.refl _, wl, Prs.refl _, k⟩
theorem sc_word_in : FnScope ["book", "value", "one"] ["book", "value"] (defScope s_word_in) := ⟨rfl, rfl, rfl, by decide +kernel, rfl, by decide +kernel, by decide +kernel⟩
def sp_word_in (K : PySem.W.Frag) : Sp := fun vs H Q _ => ∃ (b a : Addr) (F : Fd) (ps : List Nat) (m : Nat) (ns : List Nat), vs = [.ref b, .ref a] ∧ Wl H ∧ BookAt K H b F ps m ∧ H a = some (.lst (vN ns)) ∧ ns.length = ps.length ∧ ns.length ≤ 100 ∧ El F ns ∧ ∀ p, H p = none → Q (.ref p) (upd H p (.lst (vN ns)))
theorem ok_word_in (T : Txt K mg) : FnAt P w K mg base 4 "word_in" ["book", "value"] (sp_word_in K) := by
  refine FnAt.of T 48 46 (d := d_word_in) (k := 3) rfl rfl rfl rfl rfl sc_word_in (fun _ _ _ _ _ _ us hl => match us, hl with | [_, _], _ => rfl) (fun vs H Q E h => by walk_at "len") (fun f_ cdv A outer s H vs Q E hr h => ?_)
  obtain ⟨b, a, F, ps, m, ns, rfl, wl, hB, ha, hm, hl, hb, k⟩ := h
  obtain ⟨dx, f, l, h1, hF, h3⟩ := hB.ex
  refine ⟨_, (pss_cons (ps_if (PW.pt (pw_or (pt_not (pt_val (pe_callF (ok_is_list T) (by decide) hr (by rfl) (pa_cons (pv 1) pa_nil)))) (pw_or1 (pt_cmpR op_ne (pe_callB (call_lenK (K := K) rfl) (by rfl) T.n_len (by decide +kernel) (pa_cons (pv 1) pa_nil)) (pe_callB (call_lenK (K := K) rfl) (by rfl) T.n_len (by decide +kernel) (pa_cons (pe_fldK (K := K) rfl (pv 0) rfl) pa_nil)) (nomark _))))) (pss_one (ps_ret pe_non)) pss_nil)
    (pss_one (ps_ret (pe_ifExp (pt_val (pe_callB (cr_allK (K := K) rfl rfl) (by rfl) T.n_all (by decide +kernel) (pa_cons (pe_lc (own := [("one", 2)]) rfl sc_word_in.nd (pi_list (pv 1)) (blkOk_by (N := ["book", "value", "one"]) (sc := (defScope s_word_in)) (own := [("one", 2)]) (by decide +kernel)) (fun _ _ _ _ _ => (pg_name (i := 2) sc_word_in.nd rfl (Or.inl rfl))) (fun _ _ _ _ _ => pts_nil) (fun _ _ _ _ _ => (pe_callF (ok_is_in T) (by decide) hr (by rfl) (pa_cons (pe_fldK (K := K) rfl (pv 0) rfl) (pa_cons (pv 2) pa_nil))))) pa_nil))) (pe_callTy (call_listK (K := K) rfl) (by rfl) T.n_list (by decide +kernel) (pa_cons (pv 1) pa_nil)) pe_non)))), ?_⟩
  walk_at "dn"
  walk_at "zz"
  refine ⟨a, _, rfl, wl, ha, ?_⟩
  walk_at "zz"
  rw [vN_len, vN_len, hm, decide_eq_true rfl]
  walk_at "zz"
  refine e_list (xs := vN ns) (SqL.of ha) ?_
  refine lcl_all (jw_list (n := ns.length) (vN_len ns)) (fun _ => .bl true) (by omega) (fun D acc hp => by walk_at "sq") (fun i _ => rfl) (fun D acc i hp hi R r => ?_) (fun D hp => ?_)
  · rw [vN_getD hi]
    walk_at "ds"
    walk_at "zz"
    have hx := hb.at hi
    refine ⟨f, F, _, rfl, by walk_at "wl", hF.mono (by walk_at "same"), by omega, by omega, ?_⟩
    exact r
  · walk_at "zz"
    refine r_all (bs := (List.range _).map fun i => true) (SqL.of (by rw [List.map_map]; exact upd_same)) ?_
    rw [all_true]
    walk_at "zz"
    refine r_list (by walk_at "sq") fun p hp => ?_
    walk_at "f1"
    walk_at "endL"
theorem sc_want_word : FnScope ["book", "value", "found"] ["book", "value"] (defScope s_want_word) := ⟨rfl, rfl, rfl, by decide +kernel, rfl, by decide +kernel, by decide +kernel⟩
def sp_want_word (K : PySem.W.Frag) : Sp := fun vs H Q _ => ∃ (b a : Addr) (F : Fd) (ps : List Nat) (m : Nat) (ns : List Nat), vs = [.ref b, .ref a] ∧ Wl H ∧ BookAt K H b F ps m ∧ H a = some (.lst (vN ns)) ∧ ns.length = ps.length ∧ ns.length ≤ 100 ∧ El F ns ∧ ∀ p, H p = none → Q (.ref p) (upd H p (.lst (vN ns)))
theorem ok_want_word (T : Txt K mg) : FnAt P w K mg base 5 "want_word" ["book", "value"] (sp_want_word K) := by
  refine FnAt.of T 49 47 (d := d_want_word) (k := 4) rfl rfl rfl rfl rfl sc_want_word (fun _ _ _ _ _ _ us hl => match us, hl with | [_, _], _ => rfl) (fun vs H Q E h => by walk_at "len") (fun f_ cdv A outer s H vs Q E hr h => ?_)
  obtain ⟨b, a, F, ps, m, ns, rfl, wl, hB, ha, hm, hl, hb, k⟩ := h
  refine ⟨_, (pss_cons (ps_set (i := 2) sc_want_word.nd rfl (Or.inl rfl) (pe_callF (ok_word_in T) (by decide) hr (by rfl) (pa_cons (pv 0) (pa_cons (pv 1) pa_nil))))
    (pss_cons (ps_if (pt_cmpR op_isN (pv 2) pe_non (nomark _)) (pss_one ps_never) pss_nil)
    (pss_one (ps_ret (pv 2))))), ?_⟩
  walk_at "dn"
  walk_at "zz"
  refine ⟨b, a, F, ps, m, ns, rfl, wl, hB, ha, hm, hl, hb, fun p hp => ?_⟩
  walk_at "zz"
  refine ⟨rfl, false, congrArg V.bl (decide_eq_false (fun h => by cases h)), ?_⟩
  walk_at "zz"
  walk_at "endL"
theorem sc_let_of : FnScope ["book", "turner", "told"] ["book", "turner"] (defScope s_let_of) := ⟨rfl, rfl, rfl, by decide +kernel, rfl, by decide +kernel, by decide +kernel⟩
def sp_let_of (K : PySem.W.Frag) : Sp := fun vs H Q _ => ∃ (b a : Addr) (F : Fd) (ps : List Nat) (m : Nat) (ns : List Nat), vs = [.ref b, .ref a] ∧ Wl H ∧ BookAt K H b F ps m ∧ H a = some (.lst (vN ns)) ∧ (trim ns).length ≤ m ∧ ns.length ≤ 13 ∧ El F ns ∧ ∀ p, H p = none → Q (.ref p) (upd H p (.lst (vN (trim ns))))
theorem ok_let_of (T : Txt K mg) : FnAt P w K mg base 6 "let_of" ["book", "turner"] (sp_let_of K) := by
  refine FnAt.of T 50 48 (d := d_let_of) (k := 5) rfl rfl rfl rfl rfl sc_let_of (fun _ _ _ _ _ _ us hl => match us, hl with | [_, _], _ => rfl) (fun vs H Q E h => by walk_at "len") (fun f_ cdv A outer s H vs Q E hr h => ?_)
  obtain ⟨b, a, F, ps, m, ns, rfl, wl, hB, ha, hm, hl, hb, k⟩ := h
  obtain ⟨dx, f, l, h1, hF, h3⟩ := hB.ex
  refine ⟨_, (pss_cons (ps_set (i := 2) sc_let_of.nd rfl (Or.inl rfl) (pe_callF (ok_want_turner T) (by decide) hr (by rfl) (pa_cons (pe_fldK (K := K) rfl (pv 0) rfl) (pa_cons (pv 1) pa_nil))))
    (pss_cons (ps_if (pt_cmpR op_gt (pe_callB (call_lenK (K := K) rfl) (by rfl) T.n_len (by decide +kernel) (pa_cons (pv 2) pa_nil)) (pe_fldK (K := K) rfl (pv 0) rfl) (nomark _)) (pss_one ps_never) pss_nil)
    (pss_one (ps_ret (pv 2))))), ?_⟩
  walk_at "dn"
  walk_at "zz"
  refine ⟨f, a, F, ns, rfl, wl, hF, ha, hl, hb, fun p hp => ?_⟩
  walk_at "zz"
  rw [vN_len, decide_eq_false (by omega)]
  walk_at "zz"
  walk_at "endL"
theorem sc_word_by : FnScope ["book", "turner", "point"] ["book", "turner"] (defScope s_word_by) := ⟨rfl, rfl, rfl, by decide +kernel, rfl, by decide +kernel, by decide +kernel⟩
def sp_word_by (K : PySem.W.Frag) : Sp := fun vs H Q _ => ∃ (b a : Addr) (F : Fd) (ps : List Nat) (m : Nat) (ns : List Nat), vs = [.ref b, .ref a] ∧ Wl H ∧ BookAt K H b F ps m ∧ FOK F ∧ H a = some (.lst (vN ns)) ∧ ps.length ≤ 100 ∧ El F ps ∧ El F ns ∧ ∀ p, H p = none → Q (.ref p) (upd H p (.lst (vN (wordF F ns ps))))
theorem ok_word_by (T : Txt K mg) : FnAt P w K mg base 4 "word_by" ["book", "turner"] (sp_word_by K) := by
  refine FnAt.of T 51 49 (d := d_word_by) (k := 3) rfl rfl rfl rfl rfl sc_word_by (fun _ _ _ _ _ _ us hl => match us, hl with | [_, _], _ => rfl) (fun vs H Q E h => by walk_at "len") (fun f_ cdv A outer s H vs Q E hr h => ?_)
  obtain ⟨b, a, F, ps, m, ns, rfl, wl, hB, ok, ha, hl, hp, hb, k⟩ := h
  obtain ⟨dx, f, l, h1, hF, h3⟩ := hB.ex
  refine ⟨_, (pss_one (ps_ret (pe_lc (own := [("point", 2)]) rfl sc_word_by.nd (pi_list (pe_fldK (K := K) rfl (pv 0) rfl)) (blkOk_by (N := ["book", "turner", "point"]) (sc := (defScope s_word_by)) (own := [("point", 2)]) (by decide +kernel)) (fun _ _ _ _ _ => (pg_name (i := 2) sc_word_by.nd rfl (Or.inl rfl))) (fun _ _ _ _ _ => pts_nil) (fun _ _ _ _ _ => (pe_callF (ok_worth_of T) (by decide) hr (by rfl) (pa_cons (pe_fldK (K := K) rfl (pv 0) rfl) (pa_cons (pv 1) (pa_cons (pv 2) pa_nil)))))))), ?_⟩
  walk_at "dn"
  walk_at "zz"
  refine e_list (xs := vN ps) (SqL.of h3) ?_
  refine lcl_all (jw_list (n := ps.length) (vN_len ps)) (fun i => .int (worF F ns (ps.getD i 0) : Nat)) (by omega) (fun D acc hp => by walk_at "sq") (fun i _ => rfl) (fun D acc i hp hi R r => ?_) (fun D hp => ?_)
  · rw [vN_getD hi]
    walk_at "ds"
    walk_at "zz"
    refine ⟨f, a, F, ns, _, rfl, by walk_at "wl", hF.mono (by walk_at "same"), ok, by walk_at "get", hb, El.at ‹El F ps› hi, ?_⟩
    exact r
  · rw [map_set_int (f := fun x => worF F ns x)]
    exact ⟨_, Same.refl _, by walk_at "wl", Prs.same (by walk_at "same"), k D hp⟩
theorem sc_differences : FnScope ["field", "word", "other", "near", "far"] ["field", "word", "other"] (defScope s_differences) := ⟨rfl, rfl, rfl, by decide +kernel, rfl, by decide +kernel, by decide +kernel⟩
def sp_differences (K : PySem.W.Frag) : Sp := fun vs H Q _ => ∃ (f a b : Addr) (F : Fd) (ns ms : List Nat), vs = [.ref f, .ref a, .ref b] ∧ Wl H ∧ FieldAt K H f F ∧ FOK F ∧ H a = some (.lst (vN ns)) ∧ H b = some (.lst (vN ms)) ∧ ns.length = ms.length ∧ ns.length ≤ 100 ∧ El F ns ∧ El F ms ∧ ∀ p, H p = none → Q (.ref p) (upd H p (.lst (vN (difF F ns ms))))
theorem ok_differences (T : Txt K mg) : FnAt P w K mg base 3 "differences" ["field", "word", "other"] (sp_differences K) := by
  refine FnAt.of T 52 50 (d := d_differences) (k := 2) rfl rfl rfl rfl rfl sc_differences (fun _ _ _ _ _ _ us hl => match us, hl with | [_, _, _], _ => rfl) (fun vs H Q E h => by walk_at "len") (fun f_ cdv A outer s H vs Q E hr h => ?_)
  obtain ⟨f, a, b, F, ns, ms, rfl, wl, hF, ok, ha, hb, he, hl, hn, hm, k⟩ := h
  refine ⟨_, (pss_one (ps_ret (pe_lc (own := [("near", 3), ("far", 4)]) rfl sc_differences.nd (pi_D (pi_zip (by rfl) T.n_zip (pa_cons (pv 1) (pa_cons (pv 2) pa_nil)))) (blkOk_by (N := ["field", "word", "other", "near", "far"]) (sc := (defScope s_differences)) (own := [("near", 3), ("far", 4)]) (by decide +kernel)) (fun _ _ _ _ _ => (pg_tupD (n := 2) rfl (pgs_cons (pg_name (i := 3) sc_differences.nd rfl (Or.inl rfl)) (pgs_cons (pg_name (i := 4) sc_differences.nd rfl (Or.inl rfl)) pgs_nil)))) (fun _ _ _ _ _ => pts_nil) (fun _ _ _ _ _ => (pe_callF (ok_minus_of T) (by decide) hr (by rfl) (pa_cons (pv 0) (pa_cons (pv 3) (pa_cons (pv 4) pa_nil)))))))), ?_⟩
  walk_at "dn"
  walk_at "zz"
  refine e_zip (SqL.of ha) (SqL.of hb) ?_
  refine lcl_all (jw_zip (xs := vN ns) (ys := vN ms) (n := ns.length) (by rw [vN_len, vN_len]; omega)) (fun i => .int (subF F (ns.getD i 0) (ms.getD i 0) : Nat)) (by omega) (fun D acc hp => ⟨by walk_at "sq", by walk_at "sq", by walk_at "wl"⟩) (fun i _ => rfl) (fun D acc i hp hi R r => ?_) (fun D hp => ?_)
  · rw [vN_getD hi, vN_getD (by omega)]
    walk_at "ds"
    walk_at "zz"
    refine ⟨f, F, _, _, rfl, by walk_at "wl", hF.mono (by walk_at "same"), ok, hn.at hi, hm.at (by omega), ?_⟩
    exact r
  · rw [zw_range (fun x y => subF F x y) rfl he.symm]
    exact ⟨_, Same.refl _, by walk_at "wl", Prs.same (by walk_at "same"), k D hp⟩
end
end TP
/-! part TPv -/
/-! division and lone solutions, in plain words -/
namespace TP
def tb (F : Fd) (k x : Nat) : Nat := turF F ((1 - (k : Int)) % (F.n : Int)).toNat x
def takenF (F : Fd) (other : List Nat) (f : Nat) : List Nat := (List.range other.length).map fun i => mulF F (other.getD i 0) (tn F i f)
theorem takenF_len (F : Fd) (other : List Nat) (f : Nat) : (takenF F other f).length = other.length := by
  unfold takenF
  rw [List.length_map, List.length_range]
theorem takenF_el {F : Fd} (ok : FOK F) (other : List Nat) (f : Nat) : El F (takenF F other f) := El.map fun i _ => mulF_lt ok _ _
def factF (F : Fd) (rest other : List Nat) : Nat := tb F other.length (divF F (rest.getD (rest.length - 1) 0) (other.getD (other.length - 1) 0))
def nextR (F : Fd) (rest other : List Nat) : List Nat := lessT F rest (List.replicate (rest.length - other.length) 0 ++ takenF F other (factF F rest other))
def outGo (F : Fd) (other : List Nat) : Nat → List Nat → List Nat → Option (List Nat × List Nat)
  | 0, _, _ => none
  | n + 1, rest, quot => if other.length ≤ rest.length then outGo F other n (nextR F rest other) (quot.set (rest.length - other.length) (factF F rest other)) else some (quot, rest)
def outF (F : Fd) (one other : List Nat) : Option (List Nat × List Nat) := if 0 < other.length ∧ other.length ≤ 13 ∧ one.length ≤ 13 ∧ 0 < other.getD (other.length - 1) 0 then outGo F other 20 one (List.replicate (one.length + 1 - other.length) 0) else none
theorem outF_some {F : Fd} {one other : List Nat} {r : List Nat × List Nat} (h : outF F one other = some r) : 0 < other.length ∧ other.length ≤ 13 ∧ one.length ≤ 13 ∧ 0 < other.getD (other.length - 1) 0 ∧ outGo F other 20 one (List.replicate (one.length + 1 - other.length) 0) = some r := by
  unfold outF at h
  split at h
  · rename_i c
    exact ⟨c.1, c.2.1, c.2.2.1, c.2.2.2, h⟩
  · cases h
/-! ### a lone solution -/
def clr (F : Fd) (c : Nat) (row head : List Nat) : List Nat := List.zipWith (fun near far => subF F near (mulF F (row.getD c 0) far)) row head
structure RowF (F : Fd) (n : Nat) (r : List Nat) : Prop where
  len : r.length = n
  el : El F r
def GoodF (F : Fd) (n : Nat) (rs : List (List Nat)) : Prop := ∀ r ∈ rs, RowF F n r
theorem clr_at {F : Fd} {c n : Nat} {row head : List Nat} (h1 : row.length = n) (h2 : head.length = n) {i : Nat} (hi : i < n) : (clr F c row head).getD i 0 = subF F (row.getD i 0) (mulF F (row.getD c 0) (head.getD i 0)) := by
  unfold clr
  rw [List.getD_eq_getElem?_getD, List.getElem?_zipWith, List.getD_eq_getElem?_getD, List.getD_eq_getElem?_getD, List.getD_eq_getElem?_getD, List.getElem?_eq_getElem (by omega : i < row.length), List.getElem?_eq_getElem (by omega : i < head.length)]
  rfl
theorem RowF.clr {F : Fd} (ok : FOK F) {n c : Nat} {r h : List Nat} (a : RowF F n r) (b : RowF F n h) : RowF F n (clr F c r h) := by
  refine ⟨by unfold TP.clr; rw [List.length_zipWith, a.len, b.len, Nat.min_self], fun z m => ?_⟩
  unfold TP.clr at m
  obtain ⟨i, hi, e⟩ := List.getElem_of_mem m
  rw [List.getElem_zipWith] at e
  rw [← e]
  exact subF_lt ok (a.el _ (List.getElem_mem _))
theorem GoodF.at {F : Fd} {n : Nat} {rs : List (List Nat)} (g : GoodF F n rs) {i : Nat} (h : i < rs.length) : RowF F n (rs.getD i []) := by
  rw [List.getD_eq_getElem?_getD, List.getElem?_eq_getElem h]
  exact g _ (List.getElem_mem h)
theorem GoodF.map {F : Fd} {n : Nat} {rs : List (List Nat)} {f : List Nat → List Nat} (g : GoodF F n rs) (h : ∀ r, RowF F n r → RowF F n (f r)) : GoodF F n (rs.map f) := fun r m => by
  obtain ⟨s, hs, rfl⟩ := List.mem_map.mp m
  exact h s (g s hs)
theorem GoodF.filter {F : Fd} {n : Nat} {rs : List (List Nat)} {f : List Nat → Bool} (g : GoodF F n rs) : GoodF F n (rs.filter f) := fun r m => g r (List.mem_filter.mp m).1
theorem GoodF.snoc {F : Fd} {n : Nat} {rs : List (List Nat)} {r : List Nat} (g : GoodF F n rs) (h : RowF F n r) : GoodF F n (rs ++ [r]) := fun s m => by
  rcases List.mem_append.mp m with m | m
  · exact g s m
  · rw [List.mem_singleton.mp m]
    exact h
def pickF (c : Nat) (rows : List (List Nat)) : List (List Nat) := rows.filter fun r => decide (r.getD c 0 ≠ 0)
def headF (F : Fd) (c : Nat) (s : List Nat) : List Nat := s.map fun x => divF F x (s.getD c 0)
structure LS where
  rows : List (List Nat)
  left : List (List Nat)
  heads : List Nat
def lsAt (F : Fd) (c : Nat) (s : LS) : LS :=
  match pickF c s.rows with
  | [] => s
  | s0 :: _ => ⟨(s.rows.filter fun r => decide (r ≠ s0)).map fun r => clr F c r (headF F c s0), (s.left.map fun r => clr F c r (headF F c s0)) ++ [headF F c s0], s.heads ++ [c]⟩
def lsTo (F : Fd) (rows : List (List Nat)) : Nat → LS
  | 0 => ⟨rows, [], []⟩
  | c + 1 => lsAt F c (lsTo F rows c)
def freeF (wide : Nat) (heads : List Nat) : List Nat := (List.range wide).filter fun c => decide (c ∉ heads)
def fillN (F : Fd) (free : Nat) (heads : List Nat) (left : List (List Nat)) (base : List Nat) : Nat → List Nat
  | 0 => base
  | i + 1 => (fillN F free heads left base i).set (heads.getD i 0) (subF F 0 ((left.getD i []).getD free 0))
def lone (F : Fd) (rows : List (List Nat)) (wide : Nat) : List Nat :=
  fillN F ((freeF wide (lsTo F rows wide).heads).getD 0 0) (lsTo F rows wide).heads (lsTo F rows wide).left ((List.range wide).map fun c => if c = (freeF wide (lsTo F rows wide).heads).getD 0 0 then 1 else 0) (lsTo F rows wide).heads.length
theorem headF_row {F : Fd} (ok : FOK F) {n c : Nat} {s : List Nat} (h : RowF F n s) : RowF F n (headF F c s) :=
  ⟨by unfold headF; rw [List.length_map, h.len], El.map fun x _ => divF_lt ok _ _⟩
theorem pickF_mem {c : Nat} {rows : List (List Nat)} {r : List Nat} (h : r ∈ pickF c rows) : r ∈ rows ∧ r.getD c 0 ≠ 0 := by
  obtain ⟨h1, h2⟩ := List.mem_filter.mp h
  exact ⟨h1, of_decide_eq_true h2⟩
structure LSOk (F : Fd) (wide m c : Nat) (s : LS) : Prop where
  rows : GoodF F wide s.rows
  left : GoodF F wide s.left
  len : s.left.length = s.heads.length
  sum : s.rows.length + s.left.length ≤ m
  hlt : ∀ h ∈ s.heads, h < c
theorem lsAt_ok {F : Fd} (ok : FOK F) {wide m c : Nat} {s : LS} (h : LSOk F wide m c s) : LSOk F wide m (c + 1) (lsAt F c s) := by
  unfold lsAt
  cases e : pickF c s.rows with
  | nil => exact ⟨h.rows, h.left, h.len, h.sum, fun x hx => Nat.lt_succ_of_lt (h.hlt x hx)⟩
  | cons s0 rest =>
    have hm := pickF_mem (show s0 ∈ pickF c s.rows by rw [e]; exact List.mem_cons_self ..)
    have hh : RowF F wide (headF F c s0) := headF_row ok (h.rows s0 hm.1)
    refine ⟨h.rows.filter.map fun r hr => hr.clr ok hh, (h.left.map fun r hr => hr.clr ok hh).snoc hh, ?_, ?_, fun x hx => ?_⟩
    · dsimp only
      rw [List.length_append, List.length_append, List.length_map, h.len]
      rfl
    · dsimp only
      rw [List.length_map, List.length_append, List.length_map, List.length_singleton]
      have hlt : (s.rows.filter fun r => decide (r ≠ s0)).length < s.rows.length := by
        refine List.length_filter_lt_length_iff_exists.mpr ⟨s0, hm.1, ?_⟩
        simp
      have := h.sum
      omega
    · rcases List.mem_append.mp hx with hx | hx
      · exact Nat.lt_succ_of_lt (h.hlt x hx)
      · rw [List.mem_singleton.mp hx]
        exact Nat.lt_succ_self c
theorem lsTo_ok {F : Fd} (ok : FOK F) {wide : Nat} {rows : List (List Nat)} (h : GoodF F wide rows) : ∀ c, LSOk F wide rows.length c (lsTo F rows c)
  | 0 => ⟨h, fun r m => (by cases m), rfl, Nat.le_refl _, fun x hx => (by cases hx)⟩
  | c + 1 => lsAt_ok ok (lsTo_ok ok h c)
theorem pigeon : ∀ (n : Nat) (l : List Nat), (∀ i, i < n → i ∈ l) → n ≤ l.length
  | 0, _, _ => Nat.zero_le _
  | n + 1, l, h => by
    have hn := h n (Nat.lt_succ_self n)
    have z := pigeon n (l.erase n) fun i hi => (List.mem_erase_of_ne (by omega)).mpr (h i (Nat.lt_succ_of_lt hi))
    rw [List.length_erase_of_mem hn] at z
    have := List.length_pos_of_mem hn
    omega
theorem freeF_some {wide : Nat} {heads : List Nat} (h : heads.length < wide) : ∃ f rest, freeF wide heads = f :: rest ∧ f < wide ∧ f ∉ heads := by
  cases e : freeF wide heads with
  | nil =>
    have z := pigeon wide heads fun i hi => by
      by_cases hm : i ∈ heads
      · exact hm
      · have : i ∈ freeF wide heads := List.mem_filter.mpr ⟨List.mem_range.mpr hi, decide_eq_true hm⟩
        rw [e] at this
        cases this
    omega
  | cons f rest =>
    obtain ⟨h1, h2⟩ := List.mem_filter.mp (show f ∈ freeF wide heads by rw [e]; exact List.mem_cons_self ..)
    exact ⟨f, rest, rfl, List.mem_range.mp h1, of_decide_eq_true h2⟩
theorem fillN_len (F : Fd) (free : Nat) (heads : List Nat) (left : List (List Nat)) (base : List Nat) : ∀ i, (fillN F free heads left base i).length = base.length
  | 0 => rfl
  | i + 1 => by
    show ((fillN F free heads left base i).set _ _).length = _
    rw [List.length_set]
    exact fillN_len F free heads left base i
theorem fillN_el {F : Fd} (ok : FOK F) (free : Nat) (heads : List Nat) (left : List (List Nat)) {base : List Nat} (h : El F base) : ∀ i, El F (fillN F free heads left base i)
  | 0 => h
  | i + 1 => El.set (fillN_el ok free heads left h i) (subF_lt ok (by have := ok.q; omega))
theorem lone_row {F : Fd} (ok : FOK F) (rows : List (List Nat)) (wide : Nat) : RowF F wide (lone F rows wide) := by
  refine ⟨by unfold lone; rw [fillN_len, List.length_map, List.length_range], ?_⟩
  have hq := ok.q
  refine fillN_el ok _ _ _ (El.map fun c _ => ?_) _
  split <;> omega
end TP
/-! part Q13 -/
set_option maxHeartbeats 1000000
namespace TP
open PySem PySem.Spec PyProof.Rows L2
set_option hygiene false in
local macro_rules | `(tactic| walk_at "ne") => `(tactic| first | assumption | exact Ne.symm (by assumption) | exact ne_of_none (H := H) (by assumption) (by assumption) | exact (ne_of_none (H := H) (by assumption) (by assumption)).symm | exact ne_of_none (H := A) (by assumption) (by assumption) | exact (ne_of_none (H := A) (by assumption) (by assumption)).symm)
local macro_rules | `(tactic| walk_at "get") => `(tactic| first | assumption | exact upd_same | (refine upd_at ?_ ?_; (focus walk_at "ne"); (walk_at "get")))
local macro_rules | `(tactic| walk_at "nn") => `(tactic| first | assumption | (refine none_upd ?_ ?_; (focus walk_at "ne"); (walk_at "nn")))
local macro_rules | `(tactic| walk_at "same") => `(tactic| first | exact Same.refl _ | assumption | (refine Same.both ?_; walk_at "same") | (refine TP.Same.new ?_ ?_; (focus walk_at "same"); (walk_at "nn")) | (refine Same.put ?_ ?_; (focus walk_at "same"); (walk_at "get")))
local macro_rules | `(tactic| walk_at "noown") => `(tactic| first | exact NoOwn.none (by assumption) | (refine NoOwn.upd ?_ True.intro; walk_at "noown"))
local macro_rules | `(tactic| walk_at "wl") => `(tactic| first | assumption | (refine Wl.put ?_ ?_ True.intro; (focus walk_at "wl"); (walk_at "noown")))
local macro_rules | `(tactic| walk_at "sq") => `(tactic| first | assumption | exact SqL.of (by walk_at "get"))
set_option hygiene false in
local macro_rules | `(tactic| walk_at "f1") => `(tactic| obtain ⟨_, hp⟩ := upd_none hp)
set_option hygiene false in
local macro_rules | `(tactic| walk_at "f2") => `(tactic| (obtain ⟨_, hp⟩ := upd_none hp; obtain ⟨_, hp⟩ := upd_none hp))
set_option hygiene false in
local macro_rules | `(tactic| walk_at "f3") => `(tactic| (obtain ⟨_, hp⟩ := upd_none hp; obtain ⟨_, hp⟩ := upd_none hp; obtain ⟨_, hp⟩ := upd_none hp))
set_option hygiene false in
local macro_rules | `(tactic| walk_at "f4") => `(tactic| (obtain ⟨_, hp⟩ := upd_none hp; obtain ⟨_, hp⟩ := upd_none hp; obtain ⟨_, hp⟩ := upd_none hp; obtain ⟨_, hp⟩ := upd_none hp))
set_option hygiene false in
local macro_rules | `(tactic| walk_at "fa") => `(tactic| first
  | ((with_reducible refine' z_own_prime T ?hv ?hh ?_); (case hv => exact rfl); (case hh => walk_at "get"))
  | ((with_reducible refine' z_own_turns T ?hv ?hh ?_); (case hv => exact rfl); (case hh => walk_at "get"))
  | ((with_reducible refine' z_own_size T ?hv ?hh ?_); (case hv => exact rfl); (case hh => walk_at "get"))
  | ((with_reducible refine' z_own_powers T ?hv ?hh ?_); (case hv => exact rfl); (case hh => walk_at "get"))
  | ((with_reducible refine' z_own_logs T ?hv ?hh ?_); (case hv => exact rfl); (case hh => walk_at "get"))
  | ((with_reducible refine' z_own_field T ?hv ?hh ?_); (case hv => exact rfl); (case hh => walk_at "get"))
  | ((with_reducible refine' z_own_points T ?hv ?hh ?_); (case hv => exact rfl); (case hh => walk_at "get"))
  | ((with_reducible refine' z_own_many T ?hv ?hh ?_); (case hv => exact rfl); (case hh => walk_at "get")))
local macro_rules | `(tactic| walk_at "z") => `(tactic| first
  | with_reducible refine z_seq ?_
  | with_reducible refine z_asg ?_
  | with_reducible refine z_name ?_
  | ((with_reducible refine' z_var ?hv ?_); (case hv => exact rfl))
  | with_reducible refine z_c ?_
  | with_reducible refine z_op ?_
  | with_reducible refine r_I0 ?_
  | ((with_reducible refine r_I ?hc ?_); (case hc => walk_at "ar"))
  | ((with_reducible refine' r_app ?ha ?hz ?_); (case ha => walk_at "get"); (case hz => walk_at "sz"))
  | ((with_reducible refine' z_tyl ?ha ?_); (case ha => walk_at "get"))
  | with_reducible refine z_cons ?_
  | ((with_reducible refine' r_len ?ha ?_); (case ha => walk_at "sq"))
  | with_reducible refine z_nil ?_
  | walk_at "fa"
  | walk_at "fd"
  | with_reducible refine z_test ?_
  | with_reducible refine z_bl ?_
  | with_reducible refine z_tB ?_
  | with_reducible refine r_eq ?_
  | with_reducible refine r_ne ?_
  | with_reducible refine z_ifS ?_
  | with_reducible refine z_ret ?_
  | with_reducible refine z_drop ?_
  | with_reducible refine z_cb ?_
  | with_reducible refine z_call ?_
  | with_reducible refine z_bm ?_
  | with_reducible refine z_bm0 ?_
  | with_reducible refine z_lst ?_
  | with_reducible refine z_tup ?_
  | with_reducible refine z_un ?_
  | with_reducible refine r_U ?_
  | with_reducible refine z_par ?_
  | with_reducible refine z_par3 ?_
  | with_reducible refine z_two ?_
  | with_reducible refine z_three ?_
  | with_reducible refine z_sub ?_
  | with_reducible refine z_for ?_
  | with_reducible refine z_lc ?_
  | with_reducible refine z_ifE ?_
  | with_reducible refine z_and ?_
  | with_reducible refine z_or ?_
  | with_reducible refine z_not ?_
  | with_reducible refine z_yes ?_
  | with_reducible refine z_andV ?_
  | with_reducible refine z_orV ?_
  | with_reducible refine z_notV ?_
  | with_reducible refine z_sl ?_
  | with_reducible refine z_noP ?_
  | with_reducible refine z_part ?_
  | with_reducible refine z_int ?_
  | with_reducible refine z_revL ?_
  | with_reducible refine z_next ?_
  | with_reducible refine z_sf ?_
  | with_reducible refine z_f ?_
  | with_reducible refine z_tf ?_
  | with_reducible refine z_disp ?_
  | with_reducible refine z_pc ?_
  | with_reducible refine z_pn ?_
  | with_reducible refine z_i1 ?_
  | with_reducible refine i_rng3 ?_
  | with_reducible refine z_chain ?_
  | with_reducible refine z_nT ?_
  | with_reducible refine z_nF ?_
  | with_reducible refine z_sfld ?_
  | with_reducible refine i_rng1 ?_
  | with_reducible refine i_rng2 ?_
  | with_reducible refine i_list ?_
  | with_reducible refine i_zip ?_
  | with_reducible refine i_enum ?_
  | with_reducible refine z_tt ?_
  | with_reducible refine z_ff ?_)
local macro_rules | `(tactic| walk_at "zz") => `(tactic| repeat walk_at "z")
set_option hygiene false in
local macro_rules | `(tactic| walk_at "len") => `(tactic| first | (obtain ⟨rfl, _⟩ := h; rfl) | (obtain ⟨_, rfl, _⟩ := h; rfl) | (obtain ⟨_, _, rfl, _⟩ := h; rfl) | (obtain ⟨_, _, _, rfl, _⟩ := h; rfl) | (obtain ⟨_, _, _, _, rfl, _⟩ := h; rfl) | (obtain ⟨_, _, _, _, _, rfl, _⟩ := h; rfl) | (obtain ⟨_, _, _, _, _, _, rfl, _⟩ := h; rfl) | (obtain ⟨_, _, _, _, _, _, _, rfl, _⟩ := h; rfl) | (obtain ⟨_, _, _, _, _, _, _, _, rfl, _⟩ := h; rfl) | (obtain ⟨_, _, _, _, _, _, _, _, _, rfl, _⟩ := h; rfl) | (obtain ⟨_, _, _, _, _, _, _, _, _, _, rfl, _⟩ := h; rfl) | (obtain ⟨_, _, _, _, _, _, _, _, _, _, _, rfl, _⟩ := h; rfl) | (obtain ⟨_, _, _, _, _, _, _, _, _, _, _, _, rfl, _⟩ := h; rfl) | (obtain ⟨_, _, _, _, _, _, _, _, _, _, _, _, _, rfl, _⟩ := h; rfl) | (obtain ⟨_, _, _, _, _, _, _, _, _, _, _, _, _, _, rfl, _⟩ := h; rfl) | (obtain ⟨_, _, _, _, _, _, _, _, _, _, _, _, _, _, _, rfl, _⟩ := h; rfl) | (obtain ⟨_, _, _, _, _, _, _, _, _, _, _, _, _, _, _, _, rfl, _⟩ := h; rfl))
local macro_rules | `(tactic| walk_at "small") => `(tactic| first | exact Nat.zero_le _ | exact (by decide : 1 ≤ sizeLine) | exact (by decide : 2 ≤ sizeLine) | exact (by decide : 3 ≤ sizeLine) | exact (by decide : 4 ≤ sizeLine) | exact (by decide : 5 ≤ sizeLine) | exact (by decide : 6 ≤ sizeLine))
local macro_rules | `(tactic| walk_at "dn") => `(tactic| dsimp only [cxOf, L2.start, List.map, List.length, List.replicate, List.cons_append, List.nil_append, Nat.reduceAdd, Nat.reduceSub, Nat.zero_add])
local macro_rules | `(tactic| walk_at "ar") => `(tactic| first | assumption | (show _ < _; omega) | (show _ < _ ∧ _ < _; omega) | (left; show _ < _ ∧ _ < _; constructor <;> omega) | (right; show _ < _ ∧ _ < _; constructor <;> omega))
local macro_rules | `(tactic| walk_at "sz") => `(tactic| first | omega | (simp only [vN_len, List.length_append, List.length_cons, List.length_nil, List.length_map, List.length_range, List.length_replicate, List.length_set, List.length_take, List.length_drop, List.length_reverse]; omega))
local macro_rules | `(tactic| walk_at "ds") => `(tactic| try dsimp only [List.set])
set_option hygiene false in
local macro_rules | `(tactic| walk_at "endL") => `(tactic| (refine' ⟨_, ?e1, ?e2, ?e3, k p hp⟩; (case e1 => walk_at "same"); (case e2 => walk_at "wl"); (case e3 => exact Prs.same (by walk_at "same"))))
set_option hygiene false in
local macro_rules | `(tactic| walk_at "endS") => `(tactic| exact ⟨H, by walk_at "same", wl, Prs.refl _, k⟩)
set_option hygiene false in
local macro_rules | `(tactic| walk_at "endQ") => `(tactic| (refine' ⟨_, ?e1, ?e2, ?e3, k q hp⟩; (case e1 => walk_at "same"); (case e2 => walk_at "wl"); (case e3 => exact Prs.same (by walk_at "same"))))
local macro_rules | `(tactic| walk_at "f5") => `(tactic| (walk_at "f1"; walk_at "f4"))
local macro_rules | `(tactic| walk_at "f6") => `(tactic| (walk_at "f2"; walk_at "f4"))
local macro_rules | `(tactic| walk_at "f7") => `(tactic| (walk_at "f3"; walk_at "f4"))
set_option hygiene false in
local macro_rules | `(tactic| walk_at "fd") => `(tactic| first
  | ((with_reducible refine' z_w_prime ?hv ?hh ?_); (case hv => exact rfl); (case hh => assumption))
  | ((with_reducible refine' z_w_turns ?hv ?hh ?_); (case hv => exact rfl); (case hh => assumption))
  | ((with_reducible refine' z_w_size ?hv ?hh ?_); (case hv => exact rfl); (case hh => assumption))
  | ((with_reducible refine' z_w_powers ?hv ?hh ?_); (case hv => exact rfl); (case hh => assumption))
  | ((with_reducible refine' z_w_places ?hv ?hh ?_); (case hv => exact rfl); (case hh => assumption))
  | ((with_reducible refine' z_t_prime ?hv ?hh ?_); (case hv => exact rfl); (case hh => assumption))
  | ((with_reducible refine' z_t_modulus ?hv ?hh ?_); (case hv => exact rfl); (case hh => assumption))
  | ((with_reducible refine' z_t_world ?hv ?hh ?_); (case hv => exact rfl); (case hh => assumption))
  | ((with_reducible refine' z_t_points ?hv ?hh ?_); (case hv => exact rfl); (case hh => assumption))
  | ((with_reducible refine' z_t_many ?hv ?hh ?_); (case hv => exact rfl); (case hh => assumption))
  | ((with_reducible refine' z_t_reach ?hv ?hh ?_); (case hv => exact rfl); (case hh => assumption)))
section
variable {P : Program} {w : World} {K : PySem.W.Frag} {mg : Str → Option Value} {base : Heap}
theorem sc_cleared : FnScope ["field", "row", "head", "place", "often", "near", "far"] ["field", "row", "head", "place"] (defScope s_cleared) := ⟨rfl, rfl, rfl, by decide +kernel, rfl, by decide +kernel, by decide +kernel⟩
def sp_cleared (K : PySem.W.Frag) : Sp := fun vs H Q _ => ∃ (f a b : Addr) (F : Fd) (c n : Nat) (row head : List Nat), vs = [.ref f, .ref a, .ref b, .int c] ∧ Wl H ∧ FieldAt K H f F ∧ FOK F ∧ H a = some (.lst (vN row)) ∧ H b = some (.lst (vN head)) ∧ RowF F n row ∧ RowF F n head ∧ c < n ∧ n ≤ 90 ∧ ∀ p, H p = none → Q (.ref p) (upd H p (.lst (vN (clr F c row head))))
theorem ok_cleared (T : Txt K mg) : FnAt P w K mg base 3 "cleared" ["field", "row", "head", "place"] (sp_cleared K) := by
  refine FnAt.of T 54 52 (d := d_cleared) (k := 2) rfl rfl rfl rfl rfl sc_cleared (fun _ _ _ _ _ _ us hl => match us, hl with | [_, _, _, _], _ => rfl) (fun vs H Q E h => by walk_at "len") (fun f_ cdv A outer s H vs Q E hr h => ?_)
  obtain ⟨f, a, b, F, c, n, row, head, rfl, wl, hF, ok, ha, hb, hr1, hr2, hc, hn, k⟩ := h
  have l1 := hr1.len
  have l2 := hr2.len
  refine ⟨_, (pss_cons (ps_set (i := 4) sc_cleared.nd rfl (Or.inr rfl) (pe_ix (ix_listK (K := K) rfl) (pv 1) (pv 3) (fun _ _ => rfl)))
    (pss_one (ps_ret (pe_lc (own := [("near", 5), ("far", 6)]) rfl sc_cleared.nd (pi_D (pi_zip (by rfl) T.n_zip (pa_cons (pv 1) (pa_cons (pv 2) pa_nil)))) (blkOk_by (N := ["field", "row", "head", "place", "often", "near", "far"]) (sc := (defScope s_cleared)) (own := [("near", 5), ("far", 6)]) (by decide +kernel)) (fun _ _ _ _ _ => (pg_tupD (n := 2) rfl (pgs_cons (pg_name (i := 5) sc_cleared.nd rfl (Or.inl rfl)) (pgs_cons (pg_name (i := 6) sc_cleared.nd rfl (Or.inl rfl)) pgs_nil)))) (fun _ _ _ _ _ => pts_nil) (fun _ _ _ _ _ => (pe_callF (ok_minus_of T) (by decide) hr (by rfl) (pa_cons (pv 0) (pa_cons (pv 5) (pa_cons (pe_callF (ok_times_of T) (by decide) hr (by rfl) (pa_cons (pv 0) (pa_cons (pv 4) (pa_cons (pv 6) pa_nil)))) pa_nil))))))))), ?_⟩
  walk_at "dn"
  walk_at "zz"
  refine r_ixL (SqL.of ha) (atN (by omega)) ?_
  walk_at "zz"
  refine e_zip (SqL.of ha) (SqL.of hb) ?_
  refine lcl_all (jw_zip (xs := vN row) (ys := vN head) (n := n) (by rw [vN_len, vN_len]; omega)) (fun i => .int (subF F (row.getD i 0) (mulF F (row.getD c 0) (head.getD i 0)) : Nat)) (by omega) (fun D acc hp => ⟨by walk_at "sq", by walk_at "sq", by walk_at "wl"⟩) (fun i _ => rfl) (fun D acc i hp hi R r => ?_) (fun D hp => ?_)
  · rw [vN_getD (by omega), vN_getD (by omega)]
    walk_at "ds"
    walk_at "zz"
    refine ⟨f, F, _, _, rfl, by walk_at "wl", hF.mono (by walk_at "same"), ok, hr1.el.at (by omega), hr2.el.at (by omega), ?_⟩
    walk_at "zz"
    refine ⟨f, F, _, _, rfl, by walk_at "wl", hF.mono (by walk_at "same"), ok, hr1.el.at (by omega), mulF_lt ok _ _, ?_⟩
    exact r
  · rw [zw_range (fun x y => subF F x (mulF F (row.getD c 0) y)) l1 l2]
    exact ⟨_, Same.refl _, by walk_at "wl", Prs.same (by walk_at "same"), k D hp⟩
theorem sc_outer_parts : FnScope ["field", "one", "other", "rest", "quotient", "shift", "factor", "taken", "at", "element"] ["field", "one", "other"] (defScope s_outer_parts) := ⟨rfl, rfl, rfl, by decide +kernel, rfl, by decide +kernel, by decide +kernel⟩
def sp_outer_parts (K : PySem.W.Frag) : Sp := fun vs H Q _ => ∃ (f a b : Addr) (F : Fd) (ns ms q r : List Nat), vs = [.ref f, .ref a, .ref b] ∧ Wl H ∧ FieldAt K H f F ∧ FOK F ∧ H a = some (.lst (vN ns)) ∧ H b = some (.lst (vN ms)) ∧ El F ns ∧ El F ms ∧ outF F ns ms = some (q, r) ∧
  ∀ p x y H', Same H H' → Wl H' → H' p = some (.tup [.ref x, .ref y]) → H' x = some (.lst (vN q)) → H' y = some (.lst (vN r)) → Q (.ref p) H'
theorem ok_outer_parts (T : Txt K mg) : FnAt P w K mg base 5 "outer_parts" ["field", "one", "other"] (sp_outer_parts K) := by
  refine FnAt.of T 53 51 (d := d_outer_parts) (k := 4) rfl rfl rfl rfl rfl sc_outer_parts (fun _ _ _ _ _ _ us hl => match us, hl with | [_, _, _], _ => rfl) (fun vs H Q E h => by walk_at "len") (fun f_ cdv A outer s H vs Q E hr h => ?_)
  obtain ⟨f, a, b, F, ns, ms, q, r, rfl, wl, hF, ok, ha, hb, hn, hm, hr0, k⟩ := h
  obtain ⟨c1, c2, c3, c4, hg0⟩ := outF_some hr0
  have hfn := ok.n
  refine ⟨_, (pss_cons (ps_par (i := 3) (j := 4) rfl sc_outer_parts.nd rfl rfl (by decide) rfl rfl (pa_cons (pv 1) (pa_cons (pe_op op_rep (pe_lst (pa_cons pe_int pa_nil)) (pe_callB (call_max2 rfl) (by rfl) T.n_max (by decide +kernel) (pa_cons pe_int (pa_cons (pe_op op_add (pe_op op_sub (pe_callB (call_lenK (K := K) rfl) (by rfl) T.n_len (by decide +kernel) (pa_cons (pv 1) pa_nil)) (pe_callB (call_lenK (K := K) rfl) (by rfl) T.n_len (by decide +kernel) (pa_cons (pv 2) pa_nil))) pe_int) pa_nil)))) pa_nil)) (by rfl))
    (pss_cons (ps_while PassesOwn.never (pt_cmpR op_ge (pe_callB (call_lenK (K := K) rfl) (by rfl) T.n_len (by decide +kernel) (pa_cons (pv 3) pa_nil)) (pe_callB (call_lenK (K := K) rfl) (by rfl) T.n_len (by decide +kernel) (pa_cons (pv 2) pa_nil)) (nomark _))
      (pss_f (pss_cons (ps_set (i := 5) sc_outer_parts.nd rfl (Or.inl rfl) (pe_op op_sub (pe_callB (call_lenK (K := K) rfl) (by rfl) T.n_len (by decide +kernel) (pa_cons (pv 3) pa_nil)) (pe_callB (call_lenK (K := K) rfl) (by rfl) T.n_len (by decide +kernel) (pa_cons (pv 2) pa_nil))))
    (pss_cons (ps_set (i := 6) sc_outer_parts.nd rfl (Or.inr rfl) (pe_callF (ok_turned_of T) (by decide) hr (by rfl) (pa_cons (pv 0) (pa_cons (pe_callF (ok_over_of T) (by decide) hr (by rfl) (pa_cons (pv 0) (pa_cons (pe_ix (ix_listK (K := K) rfl) (pv 3) (pe_un un_neg pe_int) (fun _ _ => rfl)) (pa_cons (pe_ix (ix_listK (K := K) rfl) (pv 2) (pe_un un_neg pe_int) (fun _ _ => rfl)) pa_nil)))) (pa_cons (pe_op op_sub pe_int (pe_callB (call_lenK (K := K) rfl) (by rfl) T.n_len (by decide +kernel) (pa_cons (pv 2) pa_nil))) pa_nil)))))
    (pss_cons (ps_asg (pv 6) (pg_sub (pv 4) (pv 5) set_list))
    (pss_cons (ps_setLc (i := 7) (own := [("at", 8), ("element", 9)]) rfl sc_outer_parts.nd rfl rfl (sw_true rfl rfl rfl (by decide +kernel)) (pi_D (pi_enum (by rfl) T.n_enumerate (pa_cons (pv 2) pa_nil))) (blkOk_by (N := ["field", "one", "other", "rest", "quotient", "shift", "factor", "taken", "at", "element"]) (sc := (defScope s_outer_parts)) (own := [("at", 8), ("element", 9)]) (by decide +kernel)) (fun _ _ _ _ _ => (pg_tupD (n := 2) rfl (pgs_cons (pg_name (i := 8) sc_outer_parts.nd rfl (Or.inl rfl)) (pgs_cons (pg_name (i := 9) sc_outer_parts.nd rfl (Or.inl rfl)) pgs_nil)))) (fun _ _ _ _ _ => pts_nil) (fun _ _ _ _ _ => (pe_callF (ok_times_of T) (by decide) hr (by rfl) (pa_cons (pv 0) (pa_cons (pv 9) (pa_cons (pe_callF (ok_turned_of T) (by decide) hr (by rfl) (pa_cons (pv 0) (pa_cons (pv 6) (pa_cons (pv 8) pa_nil)))) pa_nil))))))
    (pss_one (ps_set (i := 3) sc_outer_parts.nd rfl (Or.inl rfl) (pe_callF (ok_less_turners T) (by decide) hr (by rfl) (pa_cons (pv 0) (pa_cons (pv 3) (pa_cons (pe_op op_cat (pe_op op_rep (pe_lst (pa_cons pe_int pa_nil)) (pv 5)) (pv 7)) pa_nil))))))))))))
    (pss_one (ps_ret (pe_tup (pa_cons (pv 4) (pa_cons (pv 3) pa_nil))))))), ?_⟩
  walk_at "dn"
  walk_at "zz"
  refine ⟨by walk_at "small", fun l0 hp => ?_⟩
  walk_at "zz"
  refine ⟨_, _, rfl, ?_⟩
  have e : (if ((vN ns).length : Int) - ((vN ms).length : Int) + 1 > 0 then ((vN ns).length : Int) - ((vN ms).length : Int) + 1 else 0) = ((ns.length + 1 - ms.length : Nat) : Int) := by
    rw [vN_len, vN_len]
    split <;> omega
  dsimp only
  rw [e]
  refine r_rep (m := ns.length + 1 - ms.length) upd_same (by omega) fun l hp => ?_
  have hl0 := (upd_none hp).1
  walk_at "f1"
  have e0 : List.replicate (ns.length + 1 - ms.length) (V.int 0) = vN (List.replicate (ns.length + 1 - ms.length) 0) := vN_rep _ 0
  rw [e0]
  walk_at "zz"
  walk_at "ds"
  refine z_whileB (X := Nat × List Nat × List Nat) (fun z st A => ∃ lr lq y5 y6 y7 y8 y9, st = [some (.ref f), some (.ref a), some (.ref b), some (.ref lr), some (.ref lq), y5, y6, y7, y8, y9] ∧ Same H A ∧ Wl A ∧ H lq = none ∧ lr ≠ lq ∧ A lr = some (.lst (vN z.2.1)) ∧ A lq = some (.lst (vN z.2.2)) ∧ El F z.2.1 ∧ z.2.1.length ≤ 13 ∧ z.2.2.length = ns.length + 1 - ms.length ∧ z.2.1.length ≤ ns.length ∧ outGo F ms z.1 z.2.1 z.2.2 = some (q, r)) (fun z => z.1) (20, ns, List.replicate (ns.length + 1 - ms.length) 0)
    ⟨a, l, _, _, _, _, _, rfl, by walk_at "same", by walk_at "wl", by assumption, by walk_at "ne", by walk_at "get", upd_same, hn, c3, List.length_replicate, Nat.le_refl _, hg0⟩ ?_
  rintro ⟨n, rest, quot⟩ _ A ⟨lr, lq, y5, y6, y7, y8, y9, rfl, se, wl2, nlq, hne, hlr, hlq, hel, hl13, hql, hrl, hg⟩
  cases n with
  | zero => cases hg
  | succ n =>
    dsimp only at hlr hlq hel hl13 hql hrl hg ⊢
    have hbA := se _ _ hb
    by_cases hc : ms.length ≤ rest.length
    · have hg2 : outGo F ms n (nextR F rest ms) (quot.set (rest.length - ms.length) (factF F rest ms)) = some (q, r) := by
        rw [← hg]
        exact (if_pos hc).symm
      have hnl : (nextR F rest ms).length ≤ rest.length := by
        unfold nextR lessT sumT negT
        rw [List.length_map, List.length_append, List.length_replicate, takenF_len]
        rw [if_pos (by omega)]
        unfold sumL
        refine Nat.le_trans (trim_le _) ?_
        rw [List.length_append, List.length_map, List.length_range, List.length_drop, List.length_map, List.length_append, List.length_replicate, takenF_len]
        omega
      refine ⟨true, fun R r => ?_, fun _ => ?_, nofun⟩
      · walk_at "zz"
        rw [vN_len, vN_len, ge_len, decide_eq_true hc]
        exact r
      · walk_at "zz"
        refine r_ixL (SqL.of hlr) (at_end (getLast_vN (by omega))) ?_
        walk_at "zz"
        refine r_ixL (SqL.of hbA) (at_end (getLast_vN (by omega))) ?_
        walk_at "zz"
        refine ⟨f, F, _, _, rfl, wl2, hF.mono se, ok, hel.at (by omega), hm.at (by omega), c4, ?_⟩
        walk_at "zz"
        rw [vN_len, vN_len]
        refine ⟨f, F, _, _, rfl, wl2, hF.mono se, ok, divF_lt ok _ _, ?_⟩
        have ef : turF F ((1 - (ms.length : Int)) % (F.n : Int)).toNat (divF F (rest.getD (rest.length - 1) 0) (ms.getD (ms.length - 1) 0)) = factF F rest ms := rfl
        rw [ef]
        have hft : factF F rest ms < F.q := turF_lt ok (divF_lt ok _ _) _
        have es : ((rest.length : Nat) : Int) - ((ms.length : Nat) : Int) = ((rest.length - ms.length : Nat) : Int) := by omega
        rw [es]
        walk_at "zz"
        refine' r_set (m := rest.length - ms.length) hlq ?hx ?_
        case hx =>
          rw [vN_len, hql]
          exact ixN_in (by omega)
        rw [vN_set]
        have se2 : Same H (upd A lq (.lst (vN (quot.set (rest.length - ms.length) (factF F rest ms))))) := Same.new se nlq
        have wl3 : Wl (upd A lq (.lst (vN (quot.set (rest.length - ms.length) (factF F rest ms))))) := Wl.put wl2 (NoOwn.flat hlq trivial) trivial
        have pr3 : Prs A (upd A lq (.lst (vN (quot.set (rest.length - ms.length) (factF F rest ms))))) := Prs.mut hlq (fun z => z)
        have hlr3 : (upd A lq (.lst (vN (quot.set (rest.length - ms.length) (factF F rest ms))))) lr = some (.lst (vN rest)) := upd_at hne hlr
        have hlq3 : (upd A lq (.lst (vN (quot.set (rest.length - ms.length) (factF F rest ms))))) lq = some (.lst (vN (quot.set (rest.length - ms.length) (factF F rest ms)))) := upd_same
        generalize upd A lq (.lst (vN (quot.set (rest.length - ms.length) (factF F rest ms)))) = B at se2 wl3 pr3 hlr3 hlq3 ⊢
        have hb3 := se2 _ _ hb
        walk_at "zz"
        refine e_enum (SqL.of hb3) ?_
        walk_at "ds"
        refine lcl_all (jw_enum (n := ms.length) (vN_len ms)) (fun i => .int (mulF F (ms.getD i 0) (tn F i (factF F rest ms)) : Nat)) (by omega) (fun D acc hp => ⟨SqL.of (upd_at (ne_of_none hb3 hp) hb3), Wl.put wl3 (NoOwn.none hp) trivial⟩) (fun i _ => rfl) (fun D acc i hp hi R r => ?_) (fun D hp => ?_)
        · have wl4 : Wl (upd B D (.lst acc)) := Wl.put wl3 (NoOwn.none hp) trivial
          have se4 : Same H (upd B D (.lst acc)) := Same.new se2 (se2.free hp)
          rw [vN_getD hi]
          walk_at "ds"
          walk_at "zz"
          refine ⟨f, F, _, (i : Nat), rfl, wl4, hF.mono se4, ok, hft, ?_⟩
          walk_at "zz"
          refine ⟨f, F, _, _, rfl, wl4, hF.mono se4, ok, hm.at hi, turF_lt ok hft _, ?_⟩
          exact r
        · rw [vN_range (fun i => mulF F (ms.getD i 0) (tn F i (factF F rest ms)))]
          have et : (List.range ms.length).map (fun i => mulF F (ms.getD i 0) (tn F i (factF F rest ms))) = takenF F ms (factF F rest ms) := rfl
          rw [et]
          walk_at "zz"
          refine ⟨by walk_at "small", fun p5 hp5 => ?_⟩
          walk_at "zz"
          refine r_rep (m := rest.length - ms.length) upd_same (by omega) fun p6 hp6 => ?_
          have e6 : List.replicate (rest.length - ms.length) (V.int 0) = vN (List.replicate (rest.length - ms.length) 0) := vN_rep _ 0
          rw [e6]
          walk_at "zz"
          refine r_cat (xs := vN (List.replicate (rest.length - ms.length) 0)) (ys := vN (takenF F ms (factF F rest ms))) upd_same ?_ (by rw [vN_len, vN_len, List.length_replicate, takenF_len]; omega) fun p7 hp7 => ?_
          · exact upd_at (Ne.symm (fun e => by rw [e] at hp6; rw [upd_at (ne_of_none upd_same hp5) upd_same] at hp6; cases hp6)) (upd_at (ne_of_none upd_same hp5) upd_same)
          rw [← vN_app]
          have s7 : Same B (upd (upd (upd (upd B D (.lst (vN (takenF F ms (factF F rest ms))))) p5 (.lst [.int 0])) p6 (.lst (vN (List.replicate (rest.length - ms.length) 0)))) p7 (.lst (vN (List.replicate (rest.length - ms.length) 0 ++ takenF F ms (factF F rest ms))))) := by
            refine Same.new (Same.new (Same.new (Same.new (Same.refl _) hp) ?_) ?_) ?_
            · exact (upd_none hp5).2
            · exact (upd_none (upd_none hp6).2).2
            · exact (upd_none (upd_none (upd_none hp7).2).2).2
          have w7 : Wl (upd (upd (upd (upd B D (.lst (vN (takenF F ms (factF F rest ms))))) p5 (.lst [.int 0])) p6 (.lst (vN (List.replicate (rest.length - ms.length) 0)))) p7 (.lst (vN (List.replicate (rest.length - ms.length) 0 ++ takenF F ms (factF F rest ms))))) :=
            Wl.put (Wl.put (Wl.put (Wl.put wl3 (NoOwn.none hp) trivial) (NoOwn.none hp5) trivial) (NoOwn.none hp6) trivial) (NoOwn.none hp7) trivial
          have h7 : (upd (upd (upd (upd B D (.lst (vN (takenF F ms (factF F rest ms))))) p5 (.lst [.int 0])) p6 (.lst (vN (List.replicate (rest.length - ms.length) 0)))) p7 (.lst (vN (List.replicate (rest.length - ms.length) 0 ++ takenF F ms (factF F rest ms))))) p7 = some (.lst (vN (List.replicate (rest.length - ms.length) 0 ++ takenF F ms (factF F rest ms)))) := upd_same
          generalize upd (upd (upd (upd B D _) p5 _) p6 _) p7 _ = C at s7 w7 h7 ⊢
          walk_at "zz"
          have se8 : Same H C := fun a o e => s7 _ _ (se2 _ _ e)
          refine ⟨f, lr, p7, F, rest, _, rfl, w7, hF.mono se8, ok, s7 _ _ hlr3, h7, by omega, by rw [List.length_append, List.length_replicate, takenF_len]; omega, hel, (El.rep ok _).app (takenF_el ok _ _), fun p8 hp8 => ?_⟩
          walk_at "zz"
          have wl9 : Wl (upd C p8 (.lst (vN (lessT F rest (List.replicate (rest.length - ms.length) 0 ++ takenF F ms (factF F rest ms)))))) := Wl.put w7 (NoOwn.none hp8) trivial
          have hlqC := s7 _ _ hlq3
          refine ⟨_, Same.refl _, wl9, Prs.trans pr3 (Prs.same (Same.new s7 (s7.free hp8))), (n, nextR F rest ms, quot.set (rest.length - ms.length) (factF F rest ms)), Nat.lt_succ_self n, p8, lq, _, _, _, _, _, rfl, Same.new se8 (se8.free hp8), wl9, nlq, Ne.symm (ne_of_none hlqC hp8), upd_same, upd_at (ne_of_none hlqC hp8) hlqC, ?_, ?_, ?_, ?_, hg2⟩
          · exact lessT_el ok hel
          · exact Nat.le_trans hnl hl13
          · dsimp only
            rw [List.length_set]
            exact hql
          · exact Nat.le_trans hnl hrl
    · refine ⟨false, fun R r => ?_, nofun, fun _ => ?_⟩
      · walk_at "zz"
        rw [vN_len, vN_len, ge_len, decide_eq_false hc]
        exact r
      · walk_at "zz"
        have e : (quot, rest) = (q, r) := by
          have z : outGo F ms (n + 1) rest quot = some (quot, rest) := if_neg hc
          rw [z] at hg
          exact Option.some.inj hg
        obtain ⟨rfl, rfl⟩ := Prod.mk.inj e
        refine ⟨by walk_at "small", fun p hp => ?_⟩
        have wl9 : Wl (upd A p (.tup [.ref lq, .ref lr])) := Wl.put wl2 (NoOwn.none hp) trivial
        exact ⟨_, Same.refl _, wl9, Prs.same (Same.new se (se.free hp)), k p lq lr _ (Same.new se (se.free hp)) wl9 upd_same (upd_at (ne_of_none hlq hp) hlq) (upd_at (ne_of_none hlr hp) hlr)⟩
end
end TP
/-! part TPk -/
/-! lists of lists: picked, compared -/
namespace TP
open PySem PySem.Spec PyProof.Rows L2
theorem Rows.of_map {A : Hp} {f : Nat → V} {g : Nat → List Nat} : ∀ l : List Nat, (∀ r ∈ l, ∃ a, f r = .ref a ∧ A a = some (.lst (vN (g r)))) → Rows A (l.map f) (l.map g)
  | [], _ => True.intro
  | r :: l, h => ⟨h r (List.mem_cons_self ..), Rows.of_map l fun s hs => h s (List.mem_cons_of_mem _ hs)⟩
theorem filter_range {α : Type} (d : List Nat) (P : List Nat → Bool) (f : List Nat → α) (xss : List (List Nat)) : ((List.range xss.length).filter fun r => P (xss.getD r d)).map (fun r => f (xss.getD r d)) = (xss.filter P).map f := by
  have e : (List.range xss.length).map (fun r => xss.getD r d) = xss := by
    have z := map_range_getD d id xss
    rw [List.map_id] at z
    exact z
  have e2 : xss.filter P = ((List.range xss.length).filter fun r => P (xss.getD r d)).map (fun r => xss.getD r d) := by
    have z := List.filter_map (p := P) (f := fun r => xss.getD r d) (l := List.range xss.length)
    rw [e] at z
    exact z
  rw [e2, List.map_map]
  rfl
theorem Rows.pick {A : Hp} {vs : List V} {xss : List (List Nat)} (h : Rows A vs xss) (P : List Nat → Bool) : Rows A (upto xss.length (fun r => P (xss.getD r [])) (fun r => vs.getD r .non)) (xss.filter P) := by
  have e := filter_range [] P id xss
  rw [List.map_id] at e
  rw [← e]
  exact Rows.of_map _ fun r hr => h.atD (List.mem_range.mp (List.mem_filter.mp hr).1)
theorem Rows.keepN {A : Hp} {l : Addr} {o : HO} {ys : List Nat} (hl : A l = some (.lst (vN ys))) : ∀ {vs : List V} {xss : List (List Nat)}, (∀ xs ∈ xss, xs.length ≠ ys.length) → Rows A vs xss → Rows (upd A l o) vs xss
  | [], [], _, _ => True.intro
  | _ :: _, xs :: _, n, ⟨⟨a, h1, h2⟩, h3⟩ => ⟨⟨a, h1, by
    have ne : a ≠ l := fun e => by
      rw [e, hl] at h2
      have z := congrArg List.length (HO.lst.inj (Option.some.inj h2))
      rw [vN_len, vN_len] at z
      exact n xs (List.mem_cons_self ..) z.symm
    rw [upd_ne ne]
    exact h2⟩, Rows.keepN hl (fun ys m => n ys (List.mem_cons_of_mem _ m)) h3⟩
/-! ### lists of lists as data -/
def dNN (xss : List (List Nat)) : PyData := .list (xss.map dN)
theorem dpAll_rows {K : PySem.W.Frag} {H : Hp} : ∀ {vs : List V} {xss : List (List Nat)}, Rows H vs xss → DpAll K H vs (xss.map dN)
  | [], [], _ => .nil
  | _ :: _, _ :: _, ⟨⟨a, h1, h2⟩, h3⟩ => by
    subst h1
    exact .cons (dp_vN (SqL.of h2)) (dpAll_rows h3)
theorem canLay_dNN : ∀ xss : List (List Nat), PyData.canLayAll0 (xss.map dN) = true
  | [] => rfl
  | xs :: xss => by
    have z := sh_dN xs
    unfold SeqAt.shaped at z
    rw [Bool.and_eq_true] at z
    rw [List.map_cons, PyData.canLayAll0, z.1, canLay_dNN xss]
    rfl
theorem depth_dN (xs : List Nat) : PyData.depth (dN xs) ≤ 1 := by
  unfold dN
  rw [PyData.depth, PySem.W.ke_depthAll]
  exact Nat.le_refl _
theorem depth_dNN : ∀ xss : List (List Nat), PyData.depthAll (xss.map dN) ≤ 1
  | [] => by rw [List.map_nil, PyData.depthAll]; exact Nat.zero_le _
  | xs :: xss => by
    rw [List.map_cons, PyData.depthAll]
    have h1 := depth_dN xs
    have h2 := depth_dNN xss
    omega
theorem sh_dNN (xss : List (List Nat)) : SeqAt.shaped (dNN xss) = true := by
  unfold SeqAt.shaped dNN
  rw [PyData.canLay0, PyData.depth, canLay_dNN, decide_eq_true]
  · rfl
  · have := depth_dNN xss
    omega
theorem eqv_dNN_nil (xss : List (List Nat)) : PyData.eqv (dNN xss) (dN []) = decide (xss = []) := by
  show PyData.eqv (.list _) (.list _) = _
  rw [PyData.eqv]
  cases xss with
  | nil => rfl
  | cons xs xss =>
    rw [decide_eq_false (by simp)]
    rfl
theorem r_neR {K : PySem.W.Frag} {H : Hp} {Q : VK} {a b : Addr} {vs : List V} {xss : List (List Nat)} (h1 : SqL K H a vs) (hr : Rows H vs xss) (h2 : SqL K H b (vN [])) (q : Q (.bl (!decide (xss = []))) H) : rNeD K (.ref a) (.ref b) H Q :=
  ⟨dNN xss, dN [], .lst h1 (dpAll_rows hr), dp_vN h2, sh_dNN xss, sh_dN [], by rw [eqv_dNN_nil]; exact q⟩
end TP
/-! part Q14 -/
set_option maxHeartbeats 1000000
namespace TP
open PySem PySem.Spec PyProof.Rows L2
set_option hygiene false in
local macro_rules | `(tactic| walk_at "ne") => `(tactic| first | assumption | exact Ne.symm (by assumption) | exact ne_of_none (H := H) (by assumption) (by assumption) | exact (ne_of_none (H := H) (by assumption) (by assumption)).symm | exact ne_of_none (H := A) (by assumption) (by assumption) | exact (ne_of_none (H := A) (by assumption) (by assumption)).symm)
local macro_rules | `(tactic| walk_at "get") => `(tactic| first | assumption | exact upd_same | (refine upd_at ?_ ?_; (focus walk_at "ne"); (walk_at "get")))
local macro_rules | `(tactic| walk_at "nn") => `(tactic| first | assumption | (refine none_upd ?_ ?_; (focus walk_at "ne"); (walk_at "nn")))
local macro_rules | `(tactic| walk_at "same") => `(tactic| first | exact Same.refl _ | assumption | (refine Same.both ?_; walk_at "same") | (refine TP.Same.new ?_ ?_; (focus walk_at "same"); (walk_at "nn")) | (refine Same.put ?_ ?_; (focus walk_at "same"); (walk_at "get")))
local macro_rules | `(tactic| walk_at "noown") => `(tactic| first | exact NoOwn.none (by assumption) | (refine NoOwn.upd ?_ True.intro; walk_at "noown"))
local macro_rules | `(tactic| walk_at "wl") => `(tactic| first | assumption | (refine Wl.put ?_ ?_ True.intro; (focus walk_at "wl"); (walk_at "noown")))
local macro_rules | `(tactic| walk_at "sq") => `(tactic| first | assumption | exact SqL.of (by walk_at "get"))
set_option hygiene false in
local macro_rules | `(tactic| walk_at "f1") => `(tactic| obtain ⟨_, hp⟩ := upd_none hp)
set_option hygiene false in
local macro_rules | `(tactic| walk_at "f2") => `(tactic| (obtain ⟨_, hp⟩ := upd_none hp; obtain ⟨_, hp⟩ := upd_none hp))
set_option hygiene false in
local macro_rules | `(tactic| walk_at "f3") => `(tactic| (obtain ⟨_, hp⟩ := upd_none hp; obtain ⟨_, hp⟩ := upd_none hp; obtain ⟨_, hp⟩ := upd_none hp))
set_option hygiene false in
local macro_rules | `(tactic| walk_at "f4") => `(tactic| (obtain ⟨_, hp⟩ := upd_none hp; obtain ⟨_, hp⟩ := upd_none hp; obtain ⟨_, hp⟩ := upd_none hp; obtain ⟨_, hp⟩ := upd_none hp))
set_option hygiene false in
local macro_rules | `(tactic| walk_at "fa") => `(tactic| first
  | ((with_reducible refine' z_own_prime T ?hv ?hh ?_); (case hv => exact rfl); (case hh => walk_at "get"))
  | ((with_reducible refine' z_own_turns T ?hv ?hh ?_); (case hv => exact rfl); (case hh => walk_at "get"))
  | ((with_reducible refine' z_own_size T ?hv ?hh ?_); (case hv => exact rfl); (case hh => walk_at "get"))
  | ((with_reducible refine' z_own_powers T ?hv ?hh ?_); (case hv => exact rfl); (case hh => walk_at "get"))
  | ((with_reducible refine' z_own_logs T ?hv ?hh ?_); (case hv => exact rfl); (case hh => walk_at "get"))
  | ((with_reducible refine' z_own_field T ?hv ?hh ?_); (case hv => exact rfl); (case hh => walk_at "get"))
  | ((with_reducible refine' z_own_points T ?hv ?hh ?_); (case hv => exact rfl); (case hh => walk_at "get"))
  | ((with_reducible refine' z_own_many T ?hv ?hh ?_); (case hv => exact rfl); (case hh => walk_at "get")))
local macro_rules | `(tactic| walk_at "z") => `(tactic| first
  | with_reducible refine z_seq ?_
  | with_reducible refine z_asg ?_
  | with_reducible refine z_name ?_
  | ((with_reducible refine' z_var ?hv ?_); (case hv => exact rfl))
  | with_reducible refine z_c ?_
  | with_reducible refine z_op ?_
  | with_reducible refine r_I0 ?_
  | ((with_reducible refine r_I ?hc ?_); (case hc => walk_at "ar"))
  | ((with_reducible refine' r_app ?ha ?hz ?_); (case ha => walk_at "get"); (case hz => walk_at "sz"))
  | ((with_reducible refine' z_tyl ?ha ?_); (case ha => walk_at "get"))
  | with_reducible refine z_cons ?_
  | ((with_reducible refine' r_len ?ha ?_); (case ha => walk_at "sq"))
  | with_reducible refine z_nil ?_
  | walk_at "fa"
  | walk_at "fd"
  | with_reducible refine z_test ?_
  | with_reducible refine z_bl ?_
  | with_reducible refine z_tB ?_
  | with_reducible refine r_eq ?_
  | with_reducible refine r_ne ?_
  | with_reducible refine z_ifS ?_
  | with_reducible refine z_ret ?_
  | with_reducible refine z_drop ?_
  | with_reducible refine z_cb ?_
  | with_reducible refine z_call ?_
  | with_reducible refine z_bm ?_
  | with_reducible refine z_bm0 ?_
  | with_reducible refine z_lst ?_
  | with_reducible refine z_tup ?_
  | with_reducible refine z_un ?_
  | with_reducible refine r_U ?_
  | with_reducible refine z_par ?_
  | with_reducible refine z_par3 ?_
  | with_reducible refine z_two ?_
  | with_reducible refine z_three ?_
  | with_reducible refine z_sub ?_
  | with_reducible refine z_for ?_
  | with_reducible refine z_lc ?_
  | with_reducible refine z_ifE ?_
  | with_reducible refine z_and ?_
  | with_reducible refine z_or ?_
  | with_reducible refine z_not ?_
  | with_reducible refine z_yes ?_
  | with_reducible refine z_andV ?_
  | with_reducible refine z_orV ?_
  | with_reducible refine z_notV ?_
  | with_reducible refine z_sl ?_
  | with_reducible refine z_noP ?_
  | with_reducible refine z_part ?_
  | with_reducible refine z_int ?_
  | with_reducible refine z_revL ?_
  | with_reducible refine z_next ?_
  | with_reducible refine z_sf ?_
  | with_reducible refine z_f ?_
  | with_reducible refine z_tf ?_
  | with_reducible refine z_disp ?_
  | with_reducible refine z_pc ?_
  | with_reducible refine z_pn ?_
  | with_reducible refine z_i1 ?_
  | with_reducible refine i_rng3 ?_
  | with_reducible refine z_chain ?_
  | with_reducible refine z_nT ?_
  | with_reducible refine z_nF ?_
  | with_reducible refine z_sfld ?_
  | with_reducible refine i_rng1 ?_
  | with_reducible refine i_rng2 ?_
  | with_reducible refine i_list ?_
  | with_reducible refine i_zip ?_
  | with_reducible refine i_enum ?_
  | with_reducible refine z_tt ?_
  | with_reducible refine z_ff ?_)
local macro_rules | `(tactic| walk_at "zz") => `(tactic| repeat walk_at "z")
set_option hygiene false in
local macro_rules | `(tactic| walk_at "len") => `(tactic| first | (obtain ⟨rfl, _⟩ := h; rfl) | (obtain ⟨_, rfl, _⟩ := h; rfl) | (obtain ⟨_, _, rfl, _⟩ := h; rfl) | (obtain ⟨_, _, _, rfl, _⟩ := h; rfl) | (obtain ⟨_, _, _, _, rfl, _⟩ := h; rfl) | (obtain ⟨_, _, _, _, _, rfl, _⟩ := h; rfl) | (obtain ⟨_, _, _, _, _, _, rfl, _⟩ := h; rfl) | (obtain ⟨_, _, _, _, _, _, _, rfl, _⟩ := h; rfl) | (obtain ⟨_, _, _, _, _, _, _, _, rfl, _⟩ := h; rfl) | (obtain ⟨_, _, _, _, _, _, _, _, _, rfl, _⟩ := h; rfl) | (obtain ⟨_, _, _, _, _, _, _, _, _, _, rfl, _⟩ := h; rfl) | (obtain ⟨_, _, _, _, _, _, _, _, _, _, _, rfl, _⟩ := h; rfl) | (obtain ⟨_, _, _, _, _, _, _, _, _, _, _, _, rfl, _⟩ := h; rfl) | (obtain ⟨_, _, _, _, _, _, _, _, _, _, _, _, _, rfl, _⟩ := h; rfl) | (obtain ⟨_, _, _, _, _, _, _, _, _, _, _, _, _, _, rfl, _⟩ := h; rfl) | (obtain ⟨_, _, _, _, _, _, _, _, _, _, _, _, _, _, _, rfl, _⟩ := h; rfl) | (obtain ⟨_, _, _, _, _, _, _, _, _, _, _, _, _, _, _, _, rfl, _⟩ := h; rfl))
local macro_rules | `(tactic| walk_at "small") => `(tactic| first | exact Nat.zero_le _ | exact (by decide : 1 ≤ sizeLine) | exact (by decide : 2 ≤ sizeLine) | exact (by decide : 3 ≤ sizeLine) | exact (by decide : 4 ≤ sizeLine) | exact (by decide : 5 ≤ sizeLine) | exact (by decide : 6 ≤ sizeLine))
local macro_rules | `(tactic| walk_at "dn") => `(tactic| dsimp only [cxOf, L2.start, List.map, List.length, List.replicate, List.cons_append, List.nil_append, Nat.reduceAdd, Nat.reduceSub, Nat.zero_add])
local macro_rules | `(tactic| walk_at "ar") => `(tactic| first | assumption | (show _ < _; omega) | (show _ < _ ∧ _ < _; omega) | (left; show _ < _ ∧ _ < _; constructor <;> omega) | (right; show _ < _ ∧ _ < _; constructor <;> omega))
local macro_rules | `(tactic| walk_at "sz") => `(tactic| first | omega | (simp only [vN_len, List.length_append, List.length_cons, List.length_nil, List.length_map, List.length_range, List.length_replicate, List.length_set, List.length_take, List.length_drop, List.length_reverse]; omega))
local macro_rules | `(tactic| walk_at "ds") => `(tactic| try dsimp only [List.set])
set_option hygiene false in
local macro_rules | `(tactic| walk_at "endL") => `(tactic| (refine' ⟨_, ?e1, ?e2, ?e3, k p hp⟩; (case e1 => walk_at "same"); (case e2 => walk_at "wl"); (case e3 => exact Prs.same (by walk_at "same"))))
set_option hygiene false in
local macro_rules | `(tactic| walk_at "endS") => `(tactic| exact ⟨H, by walk_at "same", wl, Prs.refl _, k⟩)
set_option hygiene false in
local macro_rules | `(tactic| walk_at "endQ") => `(tactic| (refine' ⟨_, ?e1, ?e2, ?e3, k q hp⟩; (case e1 => walk_at "same"); (case e2 => walk_at "wl"); (case e3 => exact Prs.same (by walk_at "same"))))
local macro_rules | `(tactic| walk_at "f5") => `(tactic| (walk_at "f1"; walk_at "f4"))
local macro_rules | `(tactic| walk_at "f6") => `(tactic| (walk_at "f2"; walk_at "f4"))
local macro_rules | `(tactic| walk_at "f7") => `(tactic| (walk_at "f3"; walk_at "f4"))
set_option hygiene false in
local macro_rules | `(tactic| walk_at "fd") => `(tactic| first
  | ((with_reducible refine' z_w_prime ?hv ?hh ?_); (case hv => exact rfl); (case hh => assumption))
  | ((with_reducible refine' z_w_turns ?hv ?hh ?_); (case hv => exact rfl); (case hh => assumption))
  | ((with_reducible refine' z_w_size ?hv ?hh ?_); (case hv => exact rfl); (case hh => assumption))
  | ((with_reducible refine' z_w_powers ?hv ?hh ?_); (case hv => exact rfl); (case hh => assumption))
  | ((with_reducible refine' z_w_places ?hv ?hh ?_); (case hv => exact rfl); (case hh => assumption))
  | ((with_reducible refine' z_t_prime ?hv ?hh ?_); (case hv => exact rfl); (case hh => assumption))
  | ((with_reducible refine' z_t_modulus ?hv ?hh ?_); (case hv => exact rfl); (case hh => assumption))
  | ((with_reducible refine' z_t_world ?hv ?hh ?_); (case hv => exact rfl); (case hh => assumption))
  | ((with_reducible refine' z_t_points ?hv ?hh ?_); (case hv => exact rfl); (case hh => assumption))
  | ((with_reducible refine' z_t_many ?hv ?hh ?_); (case hv => exact rfl); (case hh => assumption))
  | ((with_reducible refine' z_t_reach ?hv ?hh ?_); (case hv => exact rfl); (case hh => assumption)))
section
variable {P : Program} {w : World} {K : PySem.W.Frag} {mg : Str → Option Value} {base : Heap}
theorem flat_vN : ∀ ns : List Nat, (vN ns).all flatV = true
  | [] => rfl
  | n :: ns => by
    show (flatV (.int n) && (vN ns).all flatV) = true
    rw [flat_vN ns]
    rfl
theorem inV_vN (c : Nat) : ∀ ns : List Nat, inV (.int c) (vN ns) = decide (c ∈ ns)
  | [] => rfl
  | n :: ns => by
    have e : inV (.int c) (vN (n :: ns)) = (eqV (.int n) (.int c) || inV (.int c) (vN ns)) := rfl
    rw [e, inV_vN c ns]
    have e2 : eqV (.int n) (.int c) = decide (c = n) := by
      show decide ((n : Int) = (c : Int)) = decide (c = n)
      exact decide_eq_decide.mpr (by omega)
    rw [e2, ← Bool.decide_or]
    exact decide_eq_decide.mpr List.mem_cons.symm
theorem r_inN {a : Addr} {ns : List Nat} {c : Nat} {H : Hp} {Q : VK} (h : SqL K H a (vN ns)) (q : Q (.bl (!decide (c ∈ ns))) H) : rIn K true (.int c) (.ref a) H Q :=
  ⟨a, vN ns, rfl, .inl h, rfl, flat_vN ns, by rw [inV_vN]; exact q⟩
theorem r_inP {a : Addr} {ns : List Nat} {c : Nat} {H : Hp} {Q : VK} (h : SqL K H a (vN ns)) (q : Q (.bl (decide (c ∈ ns))) H) : rIn K false (.int c) (.ref a) H Q :=
  ⟨a, vN ns, rfl, .inl h, rfl, flat_vN ns, by rw [inV_vN]; exact q⟩
theorem sc_lone_solution : FnScope ["field", "rows", "wide", "left", "heads", "place", "some", "head", "free", "found", "row", "one"] ["field", "rows", "wide"] (defScope s_lone_solution) := ⟨rfl, rfl, rfl, by decide +kernel, rfl, by decide +kernel, by decide +kernel⟩
def sp_lone_solution (K : PySem.W.Frag) : Sp := fun vs H Q _ => ∃ (f a : Addr) (F : Fd) (wide : Nat) (rows : List (List Nat)), vs = [.ref f, .ref a, .int wide] ∧ Wl H ∧ FieldAt K H f F ∧ FOK F ∧ LL H a rows ∧ GoodF F wide rows ∧ rows.length < wide ∧ wide ≤ 80 ∧
  ∀ q H', Same H H' → Wl H' → H' q = some (.lst (vN (lone F rows wide))) → Q (.ref q) H'
theorem ok_lone_solution (T : Txt K mg) : FnAt P w K mg base 4 "lone_solution" ["field", "rows", "wide"] (sp_lone_solution K) := by
  refine FnAt.of T 55 53 (d := d_lone_solution) (k := 3) rfl rfl rfl rfl rfl sc_lone_solution (fun _ _ _ _ _ _ us hl => match us, hl with | [_, _, _], _ => rfl) (fun vs H Q E h => by walk_at "len") (fun f_ cdv A outer s H vs Q E hr h => ?_)
  obtain ⟨f, a, F, wide, rows, rfl, wl, hF, ok, ⟨vs, ha, hrw⟩, hg, hlt, hw, k⟩ := h
  refine ⟨_, (pss_cons (ps_f (ps_asg (pe_tup (pa_cons (pe_lst pa_nil) (pa_cons (pe_lst pa_nil) pa_nil))) (pg_tup (n := 2) rfl (pgs_cons (pg_name (i := 3) sc_lone_solution.nd rfl (Or.inl rfl)) (pgs_cons (pg_name (i := 4) sc_lone_solution.nd rfl (Or.inr rfl)) pgs_nil)))))
    (pss_cons (ps_for PassesOwn.never rfl (pi_range1 (by rfl) T.n_range (pa_cons (pv 2) pa_nil)) (pg_name (i := 5) sc_lone_solution.nd rfl (Or.inr rfl))
      (pss_f (pss_cons (ps_set (i := 6) sc_lone_solution.nd rfl (Or.inr rfl) (pe_lc (own := [("row", 10)]) rfl sc_lone_solution.nd (pi_list (pv 1)) (blkOk_by (N := ["field", "rows", "wide", "left", "heads", "place", "some", "head", "free", "found", "row", "one"]) (sc := (defScope s_lone_solution)) (own := [("row", 10)]) (by decide +kernel)) (fun _ _ _ _ _ => (pg_name (i := 10) sc_lone_solution.nd rfl (Or.inl rfl))) (fun _ _ _ _ _ => (pts_one (pt_cmpR op_ne (pe_ix (ix_listK (K := K) rfl) (pv 10) (pv 5) (fun _ _ => rfl)) pe_int (nomark _)))) (fun _ _ _ _ _ => (pv 10))))
    (pss_one (ps_if (pt_cmpR (op_neDK (K := K) rfl hr.units) (pv 6) (pe_lst pa_nil) (nomark _)) (pss_cons (ps_set (i := 7) sc_lone_solution.nd rfl (Or.inr rfl) (pe_lc (own := [("one", 11)]) rfl sc_lone_solution.nd (pi_list (pe_ix (ix_listK (K := K) rfl) (pv 6) pe_int (fun _ _ => rfl))) (blkOk_by (N := ["field", "rows", "wide", "left", "heads", "place", "some", "head", "free", "found", "row", "one"]) (sc := (defScope s_lone_solution)) (own := [("one", 11)]) (by decide +kernel)) (fun _ _ _ _ _ => (pg_name (i := 11) sc_lone_solution.nd rfl (Or.inl rfl))) (fun _ _ _ _ _ => pts_nil) (fun _ _ _ _ _ => (pe_callF (ok_over_of T) (by decide) hr (by rfl) (pa_cons (pv 0) (pa_cons (pv 11) (pa_cons (pe_ix (ix_listK (K := K) rfl) (pe_ix (ix_listK (K := K) rfl) (pv 6) pe_int (fun _ _ => rfl)) (pv 5) (fun _ _ => rfl)) pa_nil)))))))
    (pss_cons (ps_setLc (i := 1) (own := [("row", 10)]) rfl sc_lone_solution.nd rfl rfl (sw_true rfl rfl rfl (by decide +kernel)) (pi_list (pv 1)) (blkOk_by (N := ["field", "rows", "wide", "left", "heads", "place", "some", "head", "free", "found", "row", "one"]) (sc := (defScope s_lone_solution)) (own := [("row", 10)]) (by decide +kernel)) (fun _ _ _ _ _ => (pg_name (i := 10) sc_lone_solution.nd rfl (Or.inl rfl))) (fun _ _ _ _ _ => (pts_one (pt_cmpR (op_neDK (K := K) rfl hr.units) (pv 10) (pe_ix (ix_listK (K := K) rfl) (pv 6) pe_int (fun _ _ => rfl)) (nomark _)))) (fun _ _ _ _ _ => (pe_f (pe_callF (ok_cleared T) (by decide) hr (by rfl) (pa_cons (pv 0) (pa_cons (pv 10) (pa_cons (pv 7) (pa_cons (pv 5) pa_nil))))))))
    (pss_cons (ps_set (i := 3) sc_lone_solution.nd rfl (Or.inl rfl) (pe_op op_cat (pe_lc (own := [("row", 10)]) rfl sc_lone_solution.nd (pi_list (pv 3)) (blkOk_by (N := ["field", "rows", "wide", "left", "heads", "place", "some", "head", "free", "found", "row", "one"]) (sc := (defScope s_lone_solution)) (own := [("row", 10)]) (by decide +kernel)) (fun _ _ _ _ _ => (pg_name (i := 10) sc_lone_solution.nd rfl (Or.inl rfl))) (fun _ _ _ _ _ => pts_nil) (fun _ _ _ _ _ => (pe_f (pe_callF (ok_cleared T) (by decide) hr (by rfl) (pa_cons (pv 0) (pa_cons (pv 10) (pa_cons (pv 7) (pa_cons (pv 5) pa_nil)))))))) (pe_lst (pa_cons (pv 7) pa_nil))))
    (pss_one (ps_expr (pe_bm PySem.F.plainAttrs_list PySem.F.slot_list_append PySem.F.type_list_append mt_append (pv 4) (pa_cons (pv 5) pa_nil))))))) pss_nil)))))
    (pss_cons (ps_set (i := 8) sc_lone_solution.nd rfl (Or.inr rfl) (pe_ix (ix_listK (K := K) rfl) (pe_lc (own := [("place", 5)]) rfl sc_lone_solution.nd (pi_range1 (by rfl) T.n_range (pa_cons (pv 2) pa_nil)) (blkOk_by (N := ["field", "rows", "wide", "left", "heads", "place", "some", "head", "free", "found", "row", "one"]) (sc := (defScope s_lone_solution)) (own := [("place", 5)]) (by decide +kernel)) (fun _ _ _ _ _ => (pg_name (i := 5) sc_lone_solution.nd rfl (Or.inl rfl))) (fun _ _ _ _ _ => (pts_one (pt_cmpR (op_notInK (K := K) rfl) (pv 5) (pv 4) (by rfl)))) (fun _ _ _ _ _ => (pv 5))) pe_int (fun _ _ => rfl)))
    (pss_cons (ps_setLc (i := 9) (own := [("place", 5)]) rfl sc_lone_solution.nd rfl rfl (sw_true rfl rfl rfl (by decide +kernel)) (pi_range1 (by rfl) T.n_range (pa_cons (pv 2) pa_nil)) (blkOk_by (N := ["field", "rows", "wide", "left", "heads", "place", "some", "head", "free", "found", "row", "one"]) (sc := (defScope s_lone_solution)) (own := [("place", 5)]) (by decide +kernel)) (fun _ _ _ _ _ => (pg_name (i := 5) sc_lone_solution.nd rfl (Or.inl rfl))) (fun _ _ _ _ _ => pts_nil) (fun _ _ _ _ _ => (pe_ifExp (pt_cmpR op_eq (pv 5) (pv 8) (nomark _)) pe_int pe_int)))
    (pss_cons (ps_for PassesOwn.never rfl (pi_D (pi_zip (by rfl) T.n_zip (pa_cons (pv 4) (pa_cons (pv 3) pa_nil)))) (pg_tupD (n := 2) rfl (pgs_cons (pg_name (i := 5) sc_lone_solution.nd rfl (Or.inr rfl)) (pgs_cons (pg_name (i := 10) sc_lone_solution.nd rfl (Or.inl rfl)) pgs_nil)))
      (pss_one (ps_asg (pe_callF (ok_minus_of T) (by decide) hr (by rfl) (pa_cons (pv 0) (pa_cons pe_int (pa_cons (pe_ix (ix_listK (K := K) rfl) (pv 10) (pv 8) (fun _ _ => rfl)) pa_nil)))) (pg_sub (pv 9) (pv 5) set_list))))
    (pss_one (ps_ret (pv 9)))))))), ?_⟩
  walk_at "dn"
  walk_at "zz"
  refine ⟨by walk_at "small", fun l1 h1 => ?_⟩
  walk_at "zz"
  refine ⟨by walk_at "small", fun l2 h2 => ?_⟩
  walk_at "zz"
  refine ⟨by walk_at "small", fun l3 h3 => ?_⟩
  refine z_gt2 (SqT.of upd_same) ?_
  have n2 := (upd_none h2).2
  have wl2 : Wl (upd (upd H l1 (.lst [])) l2 (.lst [])) := Wl.put (Wl.put wl (NoOwn.none h1) trivial) (NoOwn.none h2) trivial
  have se2 : Same H (upd (upd H l1 (.lst [])) l2 (.lst [])) := Same.new (Same.new (Same.refl _) h1) n2
  refine ⟨upd (upd H l1 (.lst [])) l2 (.lst []), Same.new (Same.refl _) h3, wl2, Prs.same se2, ?_⟩
  walk_at "ds"
  walk_at "zz"
  refine e_rng1 wide rfl (by omega) ?_
  refine lp_of (jw_range (n := wide)) (fun i st A => ∃ ra la ka rv lv y5 y6 y7 y10 y11, st = [some (.ref f), some (.ref ra), some (.int wide), some (.ref la), some (.ref ka), y5, y6, y7, none, none, y10, y11] ∧ Same H A ∧ Wl A ∧ H ka = none ∧ A ra = some (.lst rv) ∧ Rows A rv (lsTo F rows i).rows ∧ A la = some (.lst lv) ∧ Rows A lv (lsTo F rows i).left ∧ A ka = some (.lst (vN (lsTo F rows i).heads)) ∧ ka ≠ ra ∧ ka ≠ la)
    ⟨a, l1, l2, vs, [], _, _, _, _, _, rfl, se2, wl2, n2, se2 _ _ ha, hrw.mono se2, upd_at (ne_of_none upd_same h2) upd_same, True.intro, upd_same, Ne.symm (ne_of_none ha n2), (upd_none h2).1⟩ (fun _ _ _ _ _ => trivial) ?_ ?_
  · clear wl2 se2
    rintro i _ A hi ⟨ra, la, ka, rv, lv, y5, y6, y7, y10, y11, rfl, se, wl3, nka, hra, hrr, hla, hrl, hka, d1, d2⟩
    have hso := lsTo_ok ok hg i
    have est : lsTo F rows (i + 1) = lsAt F i (lsTo F rows i) := rfl
    rw [est]
    generalize lsTo F rows i = S at hrr hrl hka hso ⊢
    obtain ⟨L, G, Ks⟩ := S
    have hgL := hso.rows
    have hgG := hso.left
    have hsl := hso.len
    have hsum := hso.sum
    dsimp only at hrr hrl hka hgL hgG hsl hsum
    walk_at "ds"
    rw [show ((0 : Int) + (i : Nat)) = (i : Nat) from Int.zero_add _]
    walk_at "zz"
    refine e_list (SqL.of hra) ?_
    refine lcl_val (jw_list (n := L.length) hrr.len) (fun r => decide ((L.getD r []).getD i 0 ≠ 0)) (fun r => rv.getD r .non) (by omega) (fun D acc nD => SqL.of (upd_at (ne_of_none hra nD) hra)) (fun _ _ => rfl) (fun D acc r nD hr2 R q => ?_) (fun D acc r nD hr2 hx R q => ?_) (fun D nD => ?_)
    · obtain ⟨b, eb, hb⟩ := hrr.atD hr2
      rw [eb]
      have hrow := hgL.at hr2
      walk_at "ds"
      walk_at "zz"
      refine r_ixL (SqL.of (upd_at (ne_of_none hb nD) hb)) (k := ((i : Nat) : Int)) (atN (by rw [hrow.len]; omega)) ?_
      walk_at "zz"
      rw [decide_not] at q
      have e1 : decide ((((L.getD r []).getD i 0 : Nat) : Int) = 0) = decide ((L.getD r []).getD i 0 = 0) := decide_eq_decide.mpr (by omega)
      rw [e1]
      exact q
    · walk_at "zz"
      exact q
    · have hpk : Rows A (upto L.length (fun r => decide ((L.getD r []).getD i 0 ≠ 0)) (fun r => rv.getD r .non)) (pickF i L) := hrr.pick fun xs => decide (xs.getD i 0 ≠ 0)
      have sB : Same A (upd A D (.lst (upto L.length (fun r => decide ((L.getD r []).getD i 0 ≠ 0)) (fun r => rv.getD r .non)))) := Same.new (Same.refl _) nD
      have wlB : Wl (upd A D (.lst (upto L.length (fun r => decide ((L.getD r []).getD i 0 ≠ 0)) (fun r => rv.getD r .non)))) := Wl.put wl3 (NoOwn.none nD) trivial
      have hDB : (upd A D (.lst (upto L.length (fun r => decide ((L.getD r []).getD i 0 ≠ 0)) (fun r => rv.getD r .non)))) D = some (.lst (upto L.length (fun r => decide ((L.getD r []).getD i 0 ≠ 0)) (fun r => rv.getD r .non))) := upd_same
      generalize upto L.length (fun r => decide ((L.getD r []).getD i 0 ≠ 0)) (fun r => rv.getD r .non) = pv at hpk sB wlB hDB ⊢
      generalize upd A D (.lst pv) = B at sB wlB hDB ⊢
      replace hpk := hpk.mono sB
      walk_at "zz"
      refine ⟨by walk_at "small", fun l4 n4 => ?_⟩
      have sC : Same B (upd B l4 (.lst [])) := Same.new (Same.refl _) n4
      have wlC : Wl (upd B l4 (.lst [])) := Wl.put wlB (NoOwn.none n4) trivial
      refine r_neR (SqL.of (sC _ _ hDB)) (hpk.mono sC) (SqL.of upd_same) ?_
      generalize upd B l4 (.lst []) = C at sC wlC ⊢
      have sAC : Same A C := fun a o e => sC _ _ (sB _ _ e)
      have sHC : Same H C := fun a o e => sAC _ _ (se _ _ e)
      cases hp : pickF i L with
      | nil =>
        rw [decide_eq_true rfl]
        walk_at "zz"
        have eS : lsAt F i ⟨L, G, Ks⟩ = ⟨L, G, Ks⟩ := by
          unfold lsAt
          dsimp only
          rw [hp]
        rw [eS]
        exact ⟨C, Same.refl _, wlC, Prs.same sAC, ra, la, ka, rv, lv, _, _, _, _, _, rfl, sHC, wlC, nka, sAC _ _ hra, hrr.mono sAC, sAC _ _ hla, hrl.mono sAC, sAC _ _ hka, d1, d2⟩
      | cons s0 rest =>
        rw [decide_eq_false (by simp)]
        have eS : lsAt F i ⟨L, G, Ks⟩ = ⟨(L.filter fun r => decide (r ≠ s0)).map fun r => clr F i r (headF F i s0), (G.map fun r => clr F i r (headF F i s0)) ++ [headF F i s0], Ks ++ [i]⟩ := by
          unfold lsAt
          dsimp only
          rw [hp]
        rw [eS]
        dsimp only
        rw [hp] at hpk
        obtain ⟨hm0, hx0⟩ := pickF_mem (show s0 ∈ pickF i L by rw [hp]; exact List.mem_cons_self ..)
        have hrow0 := hgL s0 hm0
        have hhr : RowF F wide (headF F i s0) := headF_row ok hrow0
        obtain ⟨b0, eb0, hb0⟩ := hpk.at 0 (by simp)
        have hb0C : C b0 = some (.lst (vN s0)) := sC _ _ hb0
        walk_at "zz"
        refine r_ixL (SqL.of (sC _ _ hDB)) (k := ((0 : Nat) : Int)) (atI_nat eb0) ?_
        refine e_list (SqL.of hb0C) ?_
        refine lcl_all (jw_list (n := s0.length) (vN_len _)) (fun j => .int (divF F (s0.getD j 0) (s0.getD i 0) : Nat)) (by rw [hrow0.len]; omega) (fun E acc nE => SqL.of (upd_at (ne_of_none hb0C nE) hb0C)) (fun _ _ => rfl) (fun E acc j nE hj R q => ?_) (fun hd nhd => ?_)
        · have sE : Same C (upd C E (.lst acc)) := Same.new (Same.refl _) nE
          have wlE : Wl (upd C E (.lst acc)) := Wl.put wlC (NoOwn.none nE) trivial
          rw [vN_getD hj]
          walk_at "ds"
          walk_at "zz"
          refine r_ixL (SqL.of (sE _ _ (sC _ _ hDB))) (k := ((0 : Nat) : Int)) (atI_nat eb0) ?_
          walk_at "zz"
          refine r_ixL (SqL.of (sE _ _ hb0C)) (k := ((i : Nat) : Int)) (atN (by rw [hrow0.len]; omega)) ?_
          walk_at "zz"
          refine ⟨f, F, _, _, rfl, wlE, hF.mono (fun a o e => sE _ _ (sHC _ _ e)), ok, hrow0.el.at hj, hrow0.el.at (by rw [hrow0.len]; omega), by have : s0.getD i 0 ≠ 0 := hx0; omega, ?_⟩
          exact q
        · rw [map_set_int (f := fun x => divF F x (s0.getD i 0))]
          have eh : s0.map (fun x => divF F x (s0.getD i 0)) = headF F i s0 := rfl
          rw [eh]
          have sE : Same C (upd C hd (.lst (vN (headF F i s0)))) := Same.new (Same.refl _) nhd
          have wlE : Wl (upd C hd (.lst (vN (headF F i s0)))) := Wl.put wlC (NoOwn.none nhd) trivial
          have hhd : (upd C hd (.lst (vN (headF F i s0)))) hd = some (.lst (vN (headF F i s0))) := upd_same
          generalize upd C hd (.lst (vN (headF F i s0))) = E1 at sE wlE hhd ⊢
          have sAE : Same A E1 := fun a o e => sE _ _ (sAC _ _ e)
          have sHE : Same H E1 := fun a o e => sE _ _ (sHC _ _ e)
          have hrrE := hrr.mono sAE
          walk_at "zz"
          refine e_list (SqL.of (sAE _ _ hra)) ?_
          refine lcl_rowsF (jw_list (n := L.length) hrr.len) (fun r => decide (L.getD r [] ≠ s0)) (fun r => clr F i (L.getD r []) (headF F i s0)) (by omega) wlE (fun A2 s2 _ => SqL.of (s2 _ _ (sAE _ _ hra))) (fun _ _ => rfl) (fun A2 r hr2 s2 w2 R q => ?_) (fun A2 r hr2 hx s2 w2 R q => ?_) (fun ra2 A2 nra2 s2 w2 hL2 => ?_)
          · obtain ⟨b, eb, hb⟩ := hrrE.atD hr2
            rw [eb]
            walk_at "ds"
            walk_at "zz"
            refine r_ixL (SqL.of (s2 _ _ (sE _ _ (sC _ _ hDB)))) (k := ((0 : Nat) : Int)) (atI_nat eb0) ?_
            refine r_neL (SqL.of (s2 _ _ hb)) (SqL.of (s2 _ _ (sE _ _ hb0C))) ?_
            rw [decide_not] at q
            exact ⟨_, rfl, q⟩
          · obtain ⟨b, eb, hb⟩ := hrrE.atD hr2
            rw [eb]
            walk_at "ds"
            walk_at "zz"
            refine ⟨f, b, hd, F, i, wide, _, _, rfl, w2, hF.mono (fun a o e => s2 _ _ (sHE _ _ e)), ok, s2 _ _ hb, s2 _ _ hhd, hgL.at hr2, hhr, hi, by omega, fun p np => ?_⟩
            have wq := Wl.put (o := .lst (vN (clr F i (L.getD r []) (headF F i s0)))) w2 (NoOwn.none np) trivial
            exact ⟨_, Same.refl _, wq, Prs.same (Same.new (Same.refl _) np), q p _ np (Same.new (Same.refl _) np) wq upd_same⟩
          · rw [filter_range [] (fun xs => decide (xs ≠ s0)) (fun xs => clr F i xs (headF F i s0))] at hL2
            have sA2 : Same A A2 := fun a o e => s2 _ _ (sAE _ _ e)
            have hrlE := hrl.mono sA2
            walk_at "zz"
            refine e_list (SqL.of (sA2 _ _ hla)) ?_
            refine lcl_rows (jw_list (n := G.length) hrl.len) (fun r => clr F i (G.getD r []) (headF F i s0)) (by omega) w2 (fun A3 s3 _ => SqL.of (s3 _ _ (sA2 _ _ hla))) (fun _ _ => rfl) (fun A3 r hr2 s3 w3 R q => ?_) (fun la2 A3 nla2 s3 w3 hG2 => ?_)
            · obtain ⟨b, eb, hb⟩ := hrlE.atD hr2
              rw [eb]
              walk_at "ds"
              walk_at "zz"
              refine ⟨f, b, hd, F, i, wide, _, _, rfl, w3, hF.mono (fun a o e => s3 _ _ (s2 _ _ (sHE _ _ e))), ok, s3 _ _ hb, s3 _ _ (s2 _ _ hhd), hgG.at hr2, hhr, hi, by omega, fun p np => ?_⟩
              have wq := Wl.put (o := .lst (vN (clr F i (G.getD r []) (headF F i s0)))) w3 (NoOwn.none np) trivial
              exact ⟨_, Same.refl _, wq, Prs.same (Same.new (Same.refl _) np), q p _ np (Same.new (Same.refl _) np) wq upd_same⟩
            · rw [map_range_getD [] (fun r => clr F i r (headF F i s0))] at hG2
              obtain ⟨gv, hgv, hrg⟩ := hG2
              have hgl := hrg.len
              rw [List.length_map] at hgl
              walk_at "zz"
              refine ⟨by walk_at "small", fun l6 n6 => ?_⟩
              refine r_cat (xs := gv) (ys := [.ref hd]) (upd_at (ne_of_none hgv n6) hgv) upd_same (by rw [hgl, List.length_singleton]; omega) fun l7 n7 => ?_
              have n7' := (upd_none n7).2
              have s8 : Same A3 (upd (upd A3 l6 (.lst [.ref hd])) l7 (.lst (gv ++ [.ref hd]))) := Same.new (Same.new (Same.refl _) n6) n7'
              have w8 : Wl (upd (upd A3 l6 (.lst [.ref hd])) l7 (.lst (gv ++ [.ref hd]))) := Wl.put (Wl.put w3 (NoOwn.none n6) trivial) (NoOwn.none n7) trivial
              have h78 : (upd (upd A3 l6 (.lst [.ref hd])) l7 (.lst (gv ++ [.ref hd]))) l7 = some (.lst (gv ++ [.ref hd])) := upd_same
              generalize upd (upd A3 l6 (.lst [.ref hd])) l7 (.lst (gv ++ [.ref hd])) = D8 at s8 w8 h78 ⊢
              have sA8 : Same A D8 := fun a o e => s8 _ _ (s3 _ _ (sA2 _ _ e))
              obtain ⟨rv2, hrv2, hrrv2⟩ := hL2.mono (fun a o e => s8 _ _ (s3 _ _ e))
              have hG8 := Rows.snoc (s8 _ _ (s3 _ _ (s2 _ _ hhd))) (hrg.mono s8)
              have hka8 := sA8 _ _ hka
              walk_at "zz"
              rw [vN_snoc]
              have wl9 : Wl (upd D8 ka (.lst (vN (Ks ++ [i])))) := Wl.put w8 (NoOwn.flat hka8 trivial) trivial
              have nlen : ∀ {xss : List (List Nat)}, GoodF F wide xss → ∀ xs ∈ xss, xs.length ≠ Ks.length := fun {xss} g xs m => by
                rw [(g xs m).len]
                omega
              have gL2 : GoodF F wide ((L.filter fun r => decide (r ≠ s0)).map fun r => clr F i r (headF F i s0)) := hgL.filter.map fun r hr => hr.clr ok hhr
              have gG2 : GoodF F wide ((G.map fun r => clr F i r (headF F i s0)) ++ [headF F i s0]) := (hgG.map fun r hr => hr.clr ok hhr).snoc hhr
              refine ⟨_, Same.refl _, wl9, Prs.trans (Prs.same sA8) (Prs.mut hka8 (fun z => z)), ra2, l7, ka, rv2, _, _, _, _, _, _, rfl, Same.new (fun a o e => sA8 _ _ (se _ _ e)) nka, wl9, nka, upd_at ?_ hrv2, Rows.keepN hka8 (nlen gL2) hrrv2, upd_at ?_ h78, Rows.keepN hka8 (nlen gG2) hG8, upd_same, ?_, ?_⟩
              · exact Ne.symm (ne_of_none (sAE _ _ hka) nra2)
              · exact Ne.symm (ne_of_none (s3 _ _ (sA2 _ _ hka)) n7')
              · exact ne_of_none (sAE _ _ hka) nra2
              · exact ne_of_none (s3 _ _ (sA2 _ _ hka)) n7'
  · rintro _ A ⟨ra, la, ka, rv, lv, y5, y6, y7, y10, y11, rfl, se, wl3, nka, hra, hrr, hla, hrl, hka, d1, d2⟩
    have hso := lsTo_ok ok hg wide
    have hks : (lsTo F rows wide).heads.length < wide := by
      have h1 := hso.sum
      have h2 := hso.len
      omega
    have eL : lone F rows wide = fillN F ((freeF wide (lsTo F rows wide).heads).getD 0 0) (lsTo F rows wide).heads (lsTo F rows wide).left ((List.range wide).map fun c => if c = (freeF wide (lsTo F rows wide).heads).getD 0 0 then 1 else 0) (lsTo F rows wide).heads.length := rfl
    rw [eL] at k
    clear eL
    generalize lsTo F rows wide = S at hrr hrl hka hso hks k
    obtain ⟨L, G, Ks⟩ := S
    have hgG := hso.left
    have hsl := hso.len
    have hlt2 := hso.hlt
    dsimp only at hrr hrl hka hgG hsl hlt2 hks k
    obtain ⟨fr, rest, efr, hfr, hfn⟩ := freeF_some hks
    walk_at "zz"
    refine e_rng1 wide rfl (by omega) ?_
    refine lcl_val (jw_range (n := wide)) (fun c => decide (c ∉ Ks)) (fun c => .int (c : Nat)) (by omega) (fun D acc nD => trivial) (fun _ _ => rfl) (fun D acc c nD hc R q => ?_) (fun D acc c nD hc hx R q => ?_) (fun D nD => ?_)
    · walk_at "ds"
      rw [show ((0 : Int) + (c : Nat)) = (c : Nat) from Int.zero_add _]
      walk_at "zz"
      refine r_inN (SqL.of (upd_at (ne_of_none hka nD) hka)) ?_
      rw [decide_not] at q
      exact ⟨_, rfl, q⟩
    · walk_at "ds"
      rw [show ((0 : Int) + (c : Nat)) = (c : Nat) from Int.zero_add _]
      walk_at "zz"
      exact q
    · have eu : upto wide (fun c => decide (c ∉ Ks)) (fun c => .int (c : Nat)) = vN (freeF wide Ks) := rfl
      rw [eu, efr]
      walk_at "zz"
      refine r_ixL (SqL.of upd_same) (k := ((0 : Nat) : Int)) (atN (by simp)) ?_
      have s1 : Same A (upd A D (.lst (vN (fr :: rest)))) := Same.new (Same.refl _) nD
      have w1 : Wl (upd A D (.lst (vN (fr :: rest)))) := Wl.put wl3 (NoOwn.none nD) trivial
      generalize upd A D (.lst (vN (fr :: rest))) = B at s1 w1 ⊢
      rw [efr] at k
      have ef : (fr :: rest).getD 0 0 = fr := rfl
      rw [ef] at k ⊢
      have hkaB := s1 _ _ hka
      have hlaB := s1 _ _ hla
      have hrlB := hrl.mono s1
      have sHB : Same H B := fun a o e => s1 _ _ (se _ _ e)
      walk_at "zz"
      refine e_rng1 wide rfl (by omega) ?_
      walk_at "ds"
      refine lcl_all (jw_range (n := wide)) (fun c => .int ((if c = fr then 1 else 0 : Nat))) (by omega) (fun E acc nE => trivial) (fun _ _ => rfl) (fun E acc c nE hc R q => ?_) (fun E nE => ?_)
      · walk_at "ds"
        rw [show ((0 : Int) + (c : Nat)) = (c : Nat) from Int.zero_add _]
        walk_at "zz"
        by_cases h : c = fr
        · rw [if_pos h] at q
          rw [decide_eq_true (by omega)]
          walk_at "zz"
          exact q
        · rw [if_neg h] at q
          rw [decide_eq_false (by omega)]
          walk_at "zz"
          exact q
      · rw [vN_range (fun c => if c = fr then 1 else 0)]
        have s2 : Same B (upd B E (.lst (vN ((List.range wide).map fun c => if c = fr then 1 else 0)))) := Same.new (Same.refl _) nE
        have w2 : Wl (upd B E (.lst (vN ((List.range wide).map fun c => if c = fr then 1 else 0)))) := Wl.put w1 (NoOwn.none nE) trivial
        have nHE := sHB.free nE
        walk_at "zz"
        refine e_zip (SqL.of (s2 _ _ hkaB)) (SqL.of (s2 _ _ hlaB)) ?_
        walk_at "ds"
        refine lp_of (jw_zip (xs := vN Ks) (ys := lv) (n := Ks.length) (by rw [vN_len, hrl.len]; omega)) (fun r st A2 => ∃ y5 y10, st = [some (.ref f), some (.ref ra), some (.int wide), some (.ref la), some (.ref ka), y5, y6, y7, some (.int (fr : Nat)), some (.ref E), y10, y11] ∧ A2 = upd B E (.lst (vN (fillN F fr Ks G ((List.range wide).map fun c => if c = fr then 1 else 0) r))))
          ⟨_, _, rfl, rfl⟩ (fun r st A2 _ h => ?_) ?_ ?_
        · obtain ⟨_, _, _, rfl⟩ := h
          exact ⟨SqL.of (upd_at (ne_of_none hkaB nE) hkaB), SqL.of (upd_at (ne_of_none hlaB nE) hlaB), Wl.put w1 (NoOwn.none nE) trivial⟩
        · rintro r _ _ hr2 ⟨y5, y10, rfl, rfl⟩
          obtain ⟨b, eb, hb⟩ := hrlB.atD (show r < G.length by omega)
          have hrow := hgG.at (show r < G.length by omega)
          rw [vN_getD hr2, eb]
          have hfl : (fillN F fr Ks G ((List.range wide).map fun c => if c = fr then 1 else 0) r).length = wide := by rw [fillN_len, List.length_map, List.length_range]
          have wl4 : Wl (upd B E (.lst (vN (fillN F fr Ks G ((List.range wide).map fun c => if c = fr then 1 else 0) r)))) := Wl.put w1 (NoOwn.none nE) trivial
          have s4 : Same B (upd B E (.lst (vN (fillN F fr Ks G ((List.range wide).map fun c => if c = fr then 1 else 0) r)))) := Same.new (Same.refl _) nE
          have hkm : Ks.getD r 0 < wide := by
            rw [List.getD_eq_getElem?_getD, List.getElem?_eq_getElem hr2]
            exact hlt2 _ (List.getElem_mem hr2)
          walk_at "ds"
          walk_at "zz"
          refine r_ixL (SqL.of (s4 _ _ hb)) (atN (by rw [hrow.len]; exact hfr)) ?_
          walk_at "zz"
          refine ⟨f, F, 0, _, rfl, wl4, hF.mono (fun a o e => s4 _ _ (sHB _ _ e)), ok, by have := ok.q; omega, hrow.el.at (by rw [hrow.len]; exact hfr), ?_⟩
          walk_at "zz"
          refine' r_set (m := Ks.getD r 0) upd_same ?hx ?_
          case hx =>
            rw [vN_len, hfl]
            exact ixN_in hkm
          refine ⟨_, _, rfl, ?_⟩
          rw [upd_put, vN_set]
          rfl
        · rintro _ _ ⟨y5, y10, rfl, rfl⟩
          walk_at "zz"
          have sH9 : Same H (upd B E (.lst (vN (fillN F fr Ks G ((List.range wide).map fun c => if c = fr then 1 else 0) Ks.length)))) := Same.new sHB nHE
          have w9 : Wl (upd B E (.lst (vN (fillN F fr Ks G ((List.range wide).map fun c => if c = fr then 1 else 0) Ks.length)))) := Wl.put w1 (NoOwn.none nE) trivial
          exact ⟨_, Same.refl _, w9, Prs.same sH9, k E _ sH9 w9 upd_same⟩
end
end TP
/-! part TPw -/
/-! words mended, in plain words -/
namespace TP
open PySem PySem.Spec PyProof.Rows L2
structure Bk (F : Fd) (ps : List Nat) (m : Nat) : Prop where
  ok : FOK F
  el : El F ps
  m1 : 1 ≤ m
  ml : m ≤ ps.length
  ln : ps.length ≤ F.n
def rch (ps : List Nat) (m : Nat) : Nat := (ps.length - m) / 2
def mrows (ps : List Nat) (m : Nat) : Nat := m + 2 * rch ps m
theorem mrows_le {ps : List Nat} {m : Nat} (h : m ≤ ps.length) : mrows ps m ≤ ps.length := by
  unfold mrows rch
  omega
def prow (F : Fd) (ps : List Nat) (m : Nat) (x y : Nat) : List Nat := (List.range (rch ps m + 1)).map (fun i => tn F i y) ++ (List.range (m + rch ps m)).map (fun i => subF F 0 (tn F i x))
theorem prow_row {F : Fd} {ps : List Nat} {m : Nat} (b : Bk F ps m) (x : Nat) {y : Nat} (hy : y < F.q) : RowF F (mrows ps m + 1) (prow F ps m x y) := by
  have hq := b.ok.q
  refine ⟨?_, El.app (El.map fun i _ => tn_lt b.ok hy i) (El.map fun i _ => subF_lt b.ok (by omega))⟩
  unfold prow mrows
  rw [List.length_append, List.length_map, List.length_map, List.length_range, List.length_range]
  omega
def prows (F : Fd) (ps : List Nat) (m : Nat) (word : List Nat) : List (List Nat) := (List.range (mrows ps m)).map fun i => prow F ps m (ps.getD i 0) (word.getD i 0)
def psol (F : Fd) (ps : List Nat) (m : Nat) (word : List Nat) : List Nat := lone F (prows F ps m word) (mrows ps m + 1)
def pV (F : Fd) (ps : List Nat) (m : Nat) (word : List Nat) : List Nat := trim ((psol F ps m word).take (rch ps m + 1))
def pN (F : Fd) (ps : List Nat) (m : Nat) (word : List Nat) : List Nat := trim ((psol F ps m word).drop (rch ps m + 1))
def within (F : Fd) (ps : List Nat) (m : Nat) (word t : List Nat) : Bool := decide (rkF F (difF F word (wordF F t ps)) ≤ rch ps m)
def tellP (F : Fd) (ps : List Nat) (m : Nat) (word : List Nat) (qr : List Nat × List Nat) : Option (List Nat) := if qr.2 = [] ∧ qr.1.length ≤ m ∧ within F ps m word qr.1 = true then some qr.1 else none
def mendF (F : Fd) (ps : List Nat) (m : Nat) (word : List Nat) : Option (Option (List Nat)) := (outF F (pN F ps m word) (pV F ps m word)).map fun qr => tellP F ps m word qr
theorem outGo_el {F : Fd} (ok : FOK F) {other : List Nat} : ∀ (n : Nat) {rest quot q r : List Nat}, El F rest → El F quot → outGo F other n rest quot = some (q, r) → El F q ∧ El F r
  | 0, _, _, _, _, _, _, h => by cases h
  | n + 1, rest, quot, q, r, h1, h2, h => by
    unfold outGo at h
    split at h
    · exact outGo_el ok n (lessT_el ok h1) (El.set h2 (turF_lt ok (divF_lt ok _ _) _)) h
    · obtain ⟨rfl, rfl⟩ := Prod.mk.inj (Option.some.inj h)
      exact ⟨h2, h1⟩
theorem outF_el {F : Fd} (ok : FOK F) {one other q r : List Nat} (h1 : El F one) (h : outF F one other = some (q, r)) : El F q ∧ El F r :=
  outGo_el ok 20 h1 (El.rep ok _) (outF_some h).2.2.2.2
theorem ix_tupK {X : Cx} {K : PySem.W.Frag} (hK : X.K = K) : IxR X (rIxT K) := by
  subst hK
  exact ix_tup
theorem r_ixT {K : PySem.W.Frag} {H : Hp} {Q : VK} {p : Addr} {xs : List V} {k : Int} {v : V} (h : SqT K H p xs) (e : atI xs k = some v) (q : Q v H) : rIxT K (.ref p) (.int k) H Q := ⟨p, xs, k, v, rfl, rfl, h, e, q⟩
end TP
/-! part Q15 -/
set_option maxHeartbeats 1000000
namespace TP
open PySem PySem.Spec PyProof.Rows L2
set_option hygiene false in
local macro_rules | `(tactic| walk_at "ne") => `(tactic| first | assumption | exact Ne.symm (by assumption) | exact ne_of_none (H := H) (by assumption) (by assumption) | exact (ne_of_none (H := H) (by assumption) (by assumption)).symm | exact ne_of_none (H := A) (by assumption) (by assumption) | exact (ne_of_none (H := A) (by assumption) (by assumption)).symm)
local macro_rules | `(tactic| walk_at "get") => `(tactic| first | assumption | exact upd_same | (refine upd_at ?_ ?_; (focus walk_at "ne"); (walk_at "get")))
local macro_rules | `(tactic| walk_at "nn") => `(tactic| first | assumption | (refine none_upd ?_ ?_; (focus walk_at "ne"); (walk_at "nn")))
local macro_rules | `(tactic| walk_at "same") => `(tactic| first | exact Same.refl _ | assumption | (refine Same.both ?_; walk_at "same") | (refine TP.Same.new ?_ ?_; (focus walk_at "same"); (walk_at "nn")) | (refine Same.put ?_ ?_; (focus walk_at "same"); (walk_at "get")))
local macro_rules | `(tactic| walk_at "noown") => `(tactic| first | exact NoOwn.none (by assumption) | (refine NoOwn.upd ?_ True.intro; walk_at "noown"))
local macro_rules | `(tactic| walk_at "wl") => `(tactic| first | assumption | (refine Wl.put ?_ ?_ True.intro; (focus walk_at "wl"); (walk_at "noown")))
local macro_rules | `(tactic| walk_at "sq") => `(tactic| first | assumption | exact SqL.of (by walk_at "get"))
set_option hygiene false in
local macro_rules | `(tactic| walk_at "f1") => `(tactic| obtain ⟨_, hp⟩ := upd_none hp)
set_option hygiene false in
local macro_rules | `(tactic| walk_at "f2") => `(tactic| (obtain ⟨_, hp⟩ := upd_none hp; obtain ⟨_, hp⟩ := upd_none hp))
set_option hygiene false in
local macro_rules | `(tactic| walk_at "f3") => `(tactic| (obtain ⟨_, hp⟩ := upd_none hp; obtain ⟨_, hp⟩ := upd_none hp; obtain ⟨_, hp⟩ := upd_none hp))
set_option hygiene false in
local macro_rules | `(tactic| walk_at "f4") => `(tactic| (obtain ⟨_, hp⟩ := upd_none hp; obtain ⟨_, hp⟩ := upd_none hp; obtain ⟨_, hp⟩ := upd_none hp; obtain ⟨_, hp⟩ := upd_none hp))
set_option hygiene false in
local macro_rules | `(tactic| walk_at "fa") => `(tactic| first
  | ((with_reducible refine' z_own_prime T ?hv ?hh ?_); (case hv => exact rfl); (case hh => walk_at "get"))
  | ((with_reducible refine' z_own_turns T ?hv ?hh ?_); (case hv => exact rfl); (case hh => walk_at "get"))
  | ((with_reducible refine' z_own_size T ?hv ?hh ?_); (case hv => exact rfl); (case hh => walk_at "get"))
  | ((with_reducible refine' z_own_powers T ?hv ?hh ?_); (case hv => exact rfl); (case hh => walk_at "get"))
  | ((with_reducible refine' z_own_logs T ?hv ?hh ?_); (case hv => exact rfl); (case hh => walk_at "get"))
  | ((with_reducible refine' z_own_field T ?hv ?hh ?_); (case hv => exact rfl); (case hh => walk_at "get"))
  | ((with_reducible refine' z_own_points T ?hv ?hh ?_); (case hv => exact rfl); (case hh => walk_at "get"))
  | ((with_reducible refine' z_own_many T ?hv ?hh ?_); (case hv => exact rfl); (case hh => walk_at "get")))
local macro_rules | `(tactic| walk_at "z") => `(tactic| first
  | with_reducible refine z_seq ?_
  | with_reducible refine z_asg ?_
  | with_reducible refine z_name ?_
  | ((with_reducible refine' z_var ?hv ?_); (case hv => exact rfl))
  | with_reducible refine z_c ?_
  | with_reducible refine z_op ?_
  | with_reducible refine r_I0 ?_
  | ((with_reducible refine r_I ?hc ?_); (case hc => walk_at "ar"))
  | ((with_reducible refine' r_app ?ha ?hz ?_); (case ha => walk_at "get"); (case hz => walk_at "sz"))
  | ((with_reducible refine' z_tyl ?ha ?_); (case ha => walk_at "get"))
  | with_reducible refine z_cons ?_
  | ((with_reducible refine' r_len ?ha ?_); (case ha => walk_at "sq"))
  | with_reducible refine z_nil ?_
  | walk_at "fa"
  | walk_at "fd"
  | with_reducible refine z_test ?_
  | with_reducible refine z_bl ?_
  | with_reducible refine z_tB ?_
  | with_reducible refine r_eq ?_
  | with_reducible refine r_ne ?_
  | with_reducible refine z_ifS ?_
  | with_reducible refine z_ret ?_
  | with_reducible refine z_drop ?_
  | with_reducible refine z_cb ?_
  | with_reducible refine z_call ?_
  | with_reducible refine z_bm ?_
  | with_reducible refine z_bm0 ?_
  | with_reducible refine z_lst ?_
  | with_reducible refine z_tup ?_
  | with_reducible refine z_un ?_
  | with_reducible refine r_U ?_
  | with_reducible refine z_par ?_
  | with_reducible refine z_par3 ?_
  | with_reducible refine z_two ?_
  | with_reducible refine z_three ?_
  | with_reducible refine z_sub ?_
  | with_reducible refine z_for ?_
  | with_reducible refine z_lc ?_
  | with_reducible refine z_ifE ?_
  | with_reducible refine z_and ?_
  | with_reducible refine z_or ?_
  | with_reducible refine z_not ?_
  | with_reducible refine z_yes ?_
  | with_reducible refine z_andV ?_
  | with_reducible refine z_orV ?_
  | with_reducible refine z_notV ?_
  | with_reducible refine z_sl ?_
  | with_reducible refine z_noP ?_
  | with_reducible refine z_part ?_
  | with_reducible refine z_int ?_
  | with_reducible refine z_revL ?_
  | with_reducible refine z_next ?_
  | with_reducible refine z_sf ?_
  | with_reducible refine z_f ?_
  | with_reducible refine z_tf ?_
  | with_reducible refine z_disp ?_
  | with_reducible refine z_pc ?_
  | with_reducible refine z_pn ?_
  | with_reducible refine z_i1 ?_
  | with_reducible refine i_rng3 ?_
  | with_reducible refine z_chain ?_
  | with_reducible refine z_nT ?_
  | with_reducible refine z_nF ?_
  | with_reducible refine z_sfld ?_
  | with_reducible refine i_rng1 ?_
  | with_reducible refine i_rng2 ?_
  | with_reducible refine i_list ?_
  | with_reducible refine i_zip ?_
  | with_reducible refine i_enum ?_
  | with_reducible refine z_tt ?_
  | with_reducible refine z_ff ?_)
local macro_rules | `(tactic| walk_at "zz") => `(tactic| repeat walk_at "z")
set_option hygiene false in
local macro_rules | `(tactic| walk_at "len") => `(tactic| first | (obtain ⟨rfl, _⟩ := h; rfl) | (obtain ⟨_, rfl, _⟩ := h; rfl) | (obtain ⟨_, _, rfl, _⟩ := h; rfl) | (obtain ⟨_, _, _, rfl, _⟩ := h; rfl) | (obtain ⟨_, _, _, _, rfl, _⟩ := h; rfl) | (obtain ⟨_, _, _, _, _, rfl, _⟩ := h; rfl) | (obtain ⟨_, _, _, _, _, _, rfl, _⟩ := h; rfl) | (obtain ⟨_, _, _, _, _, _, _, rfl, _⟩ := h; rfl) | (obtain ⟨_, _, _, _, _, _, _, _, rfl, _⟩ := h; rfl) | (obtain ⟨_, _, _, _, _, _, _, _, _, rfl, _⟩ := h; rfl) | (obtain ⟨_, _, _, _, _, _, _, _, _, _, rfl, _⟩ := h; rfl) | (obtain ⟨_, _, _, _, _, _, _, _, _, _, _, rfl, _⟩ := h; rfl) | (obtain ⟨_, _, _, _, _, _, _, _, _, _, _, _, rfl, _⟩ := h; rfl) | (obtain ⟨_, _, _, _, _, _, _, _, _, _, _, _, _, rfl, _⟩ := h; rfl) | (obtain ⟨_, _, _, _, _, _, _, _, _, _, _, _, _, _, rfl, _⟩ := h; rfl) | (obtain ⟨_, _, _, _, _, _, _, _, _, _, _, _, _, _, _, rfl, _⟩ := h; rfl) | (obtain ⟨_, _, _, _, _, _, _, _, _, _, _, _, _, _, _, _, rfl, _⟩ := h; rfl))
local macro_rules | `(tactic| walk_at "small") => `(tactic| first | exact Nat.zero_le _ | exact (by decide : 1 ≤ sizeLine) | exact (by decide : 2 ≤ sizeLine) | exact (by decide : 3 ≤ sizeLine) | exact (by decide : 4 ≤ sizeLine) | exact (by decide : 5 ≤ sizeLine) | exact (by decide : 6 ≤ sizeLine))
local macro_rules | `(tactic| walk_at "dn") => `(tactic| dsimp only [cxOf, L2.start, List.map, List.length, List.replicate, List.cons_append, List.nil_append, Nat.reduceAdd, Nat.reduceSub, Nat.zero_add])
local macro_rules | `(tactic| walk_at "ar") => `(tactic| first | assumption | (show _ < _; omega) | (show _ < _ ∧ _ < _; omega) | (left; show _ < _ ∧ _ < _; constructor <;> omega) | (right; show _ < _ ∧ _ < _; constructor <;> omega))
local macro_rules | `(tactic| walk_at "sz") => `(tactic| first | omega | (simp only [vN_len, List.length_append, List.length_cons, List.length_nil, List.length_map, List.length_range, List.length_replicate, List.length_set, List.length_take, List.length_drop, List.length_reverse]; omega))
local macro_rules | `(tactic| walk_at "ds") => `(tactic| try dsimp only [List.set])
set_option hygiene false in
local macro_rules | `(tactic| walk_at "endL") => `(tactic| (refine' ⟨_, ?e1, ?e2, ?e3, k p hp⟩; (case e1 => walk_at "same"); (case e2 => walk_at "wl"); (case e3 => exact Prs.same (by walk_at "same"))))
set_option hygiene false in
local macro_rules | `(tactic| walk_at "endS") => `(tactic| exact ⟨H, by walk_at "same", wl, Prs.refl _, k⟩)
set_option hygiene false in
local macro_rules | `(tactic| walk_at "endQ") => `(tactic| (refine' ⟨_, ?e1, ?e2, ?e3, k q hp⟩; (case e1 => walk_at "same"); (case e2 => walk_at "wl"); (case e3 => exact Prs.same (by walk_at "same"))))
local macro_rules | `(tactic| walk_at "f5") => `(tactic| (walk_at "f1"; walk_at "f4"))
local macro_rules | `(tactic| walk_at "f6") => `(tactic| (walk_at "f2"; walk_at "f4"))
local macro_rules | `(tactic| walk_at "f7") => `(tactic| (walk_at "f3"; walk_at "f4"))
set_option hygiene false in
local macro_rules | `(tactic| walk_at "fd") => `(tactic| first
  | ((with_reducible refine' z_w_prime ?hv ?hh ?_); (case hv => exact rfl); (case hh => assumption))
  | ((with_reducible refine' z_w_turns ?hv ?hh ?_); (case hv => exact rfl); (case hh => assumption))
  | ((with_reducible refine' z_w_size ?hv ?hh ?_); (case hv => exact rfl); (case hh => assumption))
  | ((with_reducible refine' z_w_powers ?hv ?hh ?_); (case hv => exact rfl); (case hh => assumption))
  | ((with_reducible refine' z_w_places ?hv ?hh ?_); (case hv => exact rfl); (case hh => assumption))
  | ((with_reducible refine' z_t_prime ?hv ?hh ?_); (case hv => exact rfl); (case hh => assumption))
  | ((with_reducible refine' z_t_modulus ?hv ?hh ?_); (case hv => exact rfl); (case hh => assumption))
  | ((with_reducible refine' z_t_world ?hv ?hh ?_); (case hv => exact rfl); (case hh => assumption))
  | ((with_reducible refine' z_t_points ?hv ?hh ?_); (case hv => exact rfl); (case hh => assumption))
  | ((with_reducible refine' z_t_many ?hv ?hh ?_); (case hv => exact rfl); (case hh => assumption))
  | ((with_reducible refine' z_t_reach ?hv ?hh ?_); (case hv => exact rfl); (case hh => assumption)))
section
variable {P : Program} {w : World} {K : PySem.W.Frag} {mg : Str → Option Value} {base : Heap}
theorem sc_reach_of : FnScope ["book"] ["book"] (defScope s_reach_of) := ⟨rfl, rfl, rfl, by decide +kernel, rfl, by decide +kernel, by decide +kernel⟩
def sp_reach_of (K : PySem.W.Frag) : Sp := fun vs H Q _ => ∃ (b : Addr) (F : Fd) (ps : List Nat) (m : Nat), vs = [.ref b] ∧ Wl H ∧ BookAt K H b F ps m ∧ m ≤ ps.length ∧ Q (.int (rch ps m : Nat)) H
theorem ok_reach_of (T : Txt K mg) : FnAt P w K mg base 1 "reach_of" ["book"] (sp_reach_of K) := by
  refine FnAt.of T 56 54 (d := d_reach_of) (k := 0) rfl rfl rfl rfl rfl sc_reach_of (fun _ _ _ _ _ _ us hl => match us, hl with | [_], _ => rfl) (fun vs H Q E h => by walk_at "len") (fun f_ cdv A outer s H vs Q E hr h => ?_)
  obtain ⟨b, F, ps, m, rfl, wl, hB, hm, k⟩ := h
  obtain ⟨dx, f, l, h1, hF, h3⟩ := hB.ex
  refine ⟨_, (pss_one (ps_ret (pe_op op_fdiv (pe_op op_sub (pe_callB (call_lenK (K := K) rfl) (by rfl) T.n_len (by decide +kernel) (pa_cons (pe_fldK (K := K) rfl (pv 0) rfl) pa_nil)) (pe_fldK (K := K) rfl (pv 0) rfl)) pe_int))), ?_⟩
  walk_at "dn"
  walk_at "zz"
  rw [vN_len]
  have e : (((ps.length : Nat) : Int) - (m : Nat)) / 2 = ((rch ps m : Nat) : Int) := by
    unfold rch
    omega
  rw [e]
  exact ⟨H, Same.refl _, wl, Prs.refl _, k⟩
theorem sc_many_rows : FnScope ["book"] ["book"] (defScope s_many_rows) := ⟨rfl, rfl, rfl, by decide +kernel, rfl, by decide +kernel, by decide +kernel⟩
def sp_many_rows (K : PySem.W.Frag) : Sp := fun vs H Q _ => ∃ (b : Addr) (F : Fd) (ps : List Nat) (m : Nat), vs = [.ref b] ∧ Wl H ∧ BookAt K H b F ps m ∧ m ≤ ps.length ∧ ps.length ≤ 100 ∧ Q (.int (mrows ps m : Nat)) H
theorem ok_many_rows (T : Txt K mg) : FnAt P w K mg base 2 "many_rows" ["book"] (sp_many_rows K) := by
  refine FnAt.of T 57 55 (d := d_many_rows) (k := 1) rfl rfl rfl rfl rfl sc_many_rows (fun _ _ _ _ _ _ us hl => match us, hl with | [_], _ => rfl) (fun vs H Q E h => by walk_at "len") (fun f_ cdv A outer s H vs Q E hr h => ?_)
  obtain ⟨b, F, ps, m, rfl, wl, hB, hm, hl, k⟩ := h
  obtain ⟨dx, f, l, h1, hF, h3⟩ := hB.ex
  refine ⟨_, (pss_one (ps_ret (pe_op op_add (pe_fldK (K := K) rfl (pv 0) rfl) (pe_op op_mul pe_int (pe_callF (ok_reach_of T) (by decide) hr (by rfl) (pa_cons (pv 0) pa_nil)))))), ?_⟩
  walk_at "dn"
  walk_at "zz"
  refine ⟨b, F, ps, m, rfl, wl, hB, hm, ?_⟩
  walk_at "zz"
  exact ⟨H, Same.refl _, wl, Prs.refl _, k⟩
theorem sc_pair_row : FnScope ["book", "point", "one", "field", "reach", "near", "far", "turns"] ["book", "point", "one"] (defScope s_pair_row) := ⟨rfl, rfl, rfl, by decide +kernel, rfl, by decide +kernel, by decide +kernel⟩
def sp_pair_row (K : PySem.W.Frag) : Sp := fun vs H Q _ => ∃ (b : Addr) (F : Fd) (ps : List Nat) (m x y : Nat), vs = [.ref b, .int x, .int y] ∧ Wl H ∧ BookAt K H b F ps m ∧ Bk F ps m ∧ x < F.q ∧ y < F.q ∧ ∀ p, H p = none → Q (.ref p) (upd H p (.lst (vN (prow F ps m x y))))
theorem ok_pair_row (T : Txt K mg) : FnAt P w K mg base 3 "pair_row" ["book", "point", "one"] (sp_pair_row K) := by
  refine FnAt.of T 58 56 (d := d_pair_row) (k := 2) rfl rfl rfl rfl rfl sc_pair_row (fun _ _ _ _ _ _ us hl => match us, hl with | [_, _, _], _ => rfl) (fun vs H Q E h => by walk_at "len") (fun f_ cdv A outer s H vs Q E hr h => ?_)
  obtain ⟨b, F, ps, m, x, y, rfl, wl, hB, bk, hx, hy, k⟩ := h
  obtain ⟨dx, f, l, h1, hF, h3⟩ := hB.ex
  have hq := bk.ok.q
  have hml := bk.ml
  have hln := bk.ln
  have hfn := bk.ok.n
  have hrc : rch ps m ≤ 5 := by unfold rch; omega
  refine ⟨_, (pss_cons (ps_f (ps_asg (pe_tup (pa_cons (pe_fldK (K := K) rfl (pv 0) rfl) (pa_cons (pe_callF (ok_reach_of T) (by decide) hr (by rfl) (pa_cons (pv 0) pa_nil)) pa_nil))) (pg_tup (n := 2) rfl (pgs_cons (pg_name (i := 3) sc_pair_row.nd rfl (Or.inr rfl)) (pgs_cons (pg_name (i := 4) sc_pair_row.nd rfl (Or.inl rfl)) pgs_nil)))))
    (pss_cons (ps_setLc (i := 5) (own := [("turns", 7)]) rfl sc_pair_row.nd rfl rfl (sw_true rfl rfl rfl (by decide +kernel)) (pi_range1 (by rfl) T.n_range (pa_cons (pe_op op_add (pv 4) pe_int) pa_nil)) (blkOk_by (N := ["book", "point", "one", "field", "reach", "near", "far", "turns"]) (sc := (defScope s_pair_row)) (own := [("turns", 7)]) (by decide +kernel)) (fun _ _ _ _ _ => (pg_name (i := 7) sc_pair_row.nd rfl (Or.inl rfl))) (fun _ _ _ _ _ => pts_nil) (fun _ _ _ _ _ => (pe_callF (ok_turned_of T) (by decide) hr (by rfl) (pa_cons (pv 3) (pa_cons (pv 2) (pa_cons (pv 7) pa_nil))))))
    (pss_cons (ps_setLc (i := 6) (own := [("turns", 7)]) rfl sc_pair_row.nd rfl rfl (sw_true rfl rfl rfl (by decide +kernel)) (pi_range1 (by rfl) T.n_range (pa_cons (pe_op op_add (pe_fldK (K := K) rfl (pv 0) rfl) (pv 4)) pa_nil)) (blkOk_by (N := ["book", "point", "one", "field", "reach", "near", "far", "turns"]) (sc := (defScope s_pair_row)) (own := [("turns", 7)]) (by decide +kernel)) (fun _ _ _ _ _ => (pg_name (i := 7) sc_pair_row.nd rfl (Or.inl rfl))) (fun _ _ _ _ _ => pts_nil) (fun _ _ _ _ _ => (pe_callF (ok_minus_of T) (by decide) hr (by rfl) (pa_cons (pv 3) (pa_cons pe_int (pa_cons (pe_callF (ok_turned_of T) (by decide) hr (by rfl) (pa_cons (pv 3) (pa_cons (pv 1) (pa_cons (pv 7) pa_nil)))) pa_nil))))))
    (pss_one (ps_ret (pe_op op_cat (pv 5) (pv 6))))))), ?_⟩
  walk_at "dn"
  walk_at "zz"
  refine ⟨b, F, ps, m, rfl, wl, hB, bk.ml, ?_⟩
  walk_at "zz"
  refine ⟨by walk_at "small", fun p1 hp1 => ?_⟩
  refine z_gt2 (SqT.of upd_same) ?_
  refine ⟨H, Same.new (Same.refl _) hp1, wl, Prs.refl _, ?_⟩
  walk_at "ds"
  walk_at "zz"
  refine e_rng1 (rch ps m + 1) (by omega) (by omega) ?_
  refine lcl_all (jw_range (n := rch ps m + 1)) (fun i => .int (tn F i y : Nat)) (by omega) (fun D acc hp => trivial) (fun i _ => rfl) (fun D acc i hp hi R r => ?_) (fun D hp => ?_)
  · walk_at "ds"
    rw [show ((0 : Int) + (i : Nat)) = (i : Nat) from Int.zero_add _]
    walk_at "zz"
    refine ⟨f, F, y, _, rfl, by walk_at "wl", hF.mono (by walk_at "same"), bk.ok, hy, ?_⟩
    exact r
  · rw [vN_range (fun i => tn F i y)]
    walk_at "zz"
    refine e_rng1 (m + rch ps m) (by omega) (by omega) ?_
    walk_at "ds"
    refine lcl_all (jw_range (n := m + rch ps m)) (fun i => .int (subF F 0 (tn F i x) : Nat)) (by omega) (fun D acc hp => trivial) (fun i _ => rfl) (fun D2 acc i hp hi R r => ?_) (fun D2 hp => ?_)
    · walk_at "f1"
      walk_at "ds"
      rw [show ((0 : Int) + (i : Nat)) = (i : Nat) from Int.zero_add _]
      walk_at "zz"
      refine ⟨f, F, x, _, rfl, by walk_at "wl", hF.mono (by walk_at "same"), bk.ok, hx, ?_⟩
      walk_at "zz"
      refine ⟨f, F, 0, _, rfl, by walk_at "wl", hF.mono (by walk_at "same"), bk.ok, by omega, turF_lt bk.ok hx _, ?_⟩
      exact r
    · rw [vN_range (fun i => subF F 0 (tn F i x))]
      walk_at "f1"
      walk_at "zz"
      refine r_cat (xs := vN ((List.range (rch ps m + 1)).map fun i => tn F i y)) (ys := vN ((List.range (m + rch ps m)).map fun i => subF F 0 (tn F i x))) (by walk_at "get") upd_same (by rw [vN_len, vN_len, List.length_map, List.length_map, List.length_range, List.length_range]; omega) fun p hp => ?_
      rw [← vN_app]
      walk_at "f2"
      walk_at "endL"
theorem sc_is_within_reach : FnScope ["book", "word", "turner", "apart"] ["book", "word", "turner"] (defScope s_is_within_reach) := ⟨rfl, rfl, rfl, by decide +kernel, rfl, by decide +kernel, by decide +kernel⟩
def sp_is_within_reach (K : PySem.W.Frag) : Sp := fun vs H Q _ => ∃ (b wd a : Addr) (F : Fd) (ps : List Nat) (m : Nat) (word t : List Nat), vs = [.ref b, .ref wd, .ref a] ∧ Wl H ∧ BookAt K H b F ps m ∧ Bk F ps m ∧ H wd = some (.lst (vN word)) ∧ H a = some (.lst (vN t)) ∧ word.length = ps.length ∧ El F word ∧ El F t ∧ Q (.bl (within F ps m word t)) H
theorem ok_is_within_reach (T : Txt K mg) : FnAt P w K mg base 5 "is_within_reach" ["book", "word", "turner"] (sp_is_within_reach K) := by
  refine FnAt.of T 60 58 (d := d_is_within_reach) (k := 4) rfl rfl rfl rfl rfl sc_is_within_reach (fun _ _ _ _ _ _ us hl => match us, hl with | [_, _, _], _ => rfl) (fun vs H Q E h => by walk_at "len") (fun f_ cdv A outer s H vs Q E hr h => ?_)
  obtain ⟨b, wd, a, F, ps, m, word, t, rfl, wl, hB, bk, hw, ha, hwl, hwe, hte, k⟩ := h
  obtain ⟨dx, f, l, h1, hF, h3⟩ := hB.ex
  have hln := bk.ln
  have hfn := bk.ok.n
  refine ⟨_, (pss_cons (ps_set (i := 3) sc_is_within_reach.nd rfl (Or.inl rfl) (pe_callF (ok_differences T) (by decide) hr (by rfl) (pa_cons (pe_fldK (K := K) rfl (pv 0) rfl) (pa_cons (pv 1) (pa_cons (pe_callF (ok_word_by T) (by decide) hr (by rfl) (pa_cons (pv 0) (pa_cons (pv 2) pa_nil))) pa_nil)))))
    (pss_one (ps_ret (pe_cmpR op_le (pe_callF (ok_rank_of T) (by decide) hr (by rfl) (pa_cons (pe_fldK (K := K) rfl (pv 0) rfl) (pa_cons (pv 3) pa_nil))) (pe_callF (ok_reach_of T) (by decide) hr (by rfl) (pa_cons (pv 0) pa_nil)) (nomark _))))), ?_⟩
  walk_at "dn"
  walk_at "zz"
  refine ⟨b, a, F, ps, m, t, rfl, wl, hB, bk.ok, ha, by omega, bk.el, hte, fun p1 hp => ?_⟩
  walk_at "zz"
  refine ⟨f, wd, p1, F, word, _, rfl, by walk_at "wl", hF.mono (by walk_at "same"), bk.ok, by walk_at "get", upd_same, by unfold wordF; rw [List.length_map, hwl], by omega, hwe, El.map fun x _ => worF_lt bk.ok _ _, fun p2 hp => ?_⟩
  walk_at "f1"
  walk_at "zz"
  refine ⟨f, p2, F, _, rfl, by walk_at "wl", hF.mono (by walk_at "same"), bk.ok, upd_same, by rw [difF_len (by unfold wordF; rw [List.length_map, hwl])]; omega, ?_⟩
  walk_at "zz"
  refine ⟨b, F, ps, m, rfl, by walk_at "wl", hB.mono (by walk_at "same"), bk.ml, ?_⟩
  walk_at "zz"
  rw [ge_len]
  exact ⟨H, by walk_at "same", wl, Prs.refl _, k⟩
theorem sc_pair_of : FnScope ["book", "word", "many", "reach", "rows", "found", "point", "one"] ["book", "word"] (defScope s_pair_of) := ⟨rfl, rfl, rfl, by decide +kernel, rfl, by decide +kernel, by decide +kernel⟩
def sp_pair_of (K : PySem.W.Frag) : Sp := fun vs H Q _ => ∃ (b wd : Addr) (F : Fd) (ps : List Nat) (m : Nat) (word : List Nat), vs = [.ref b, .ref wd] ∧ Wl H ∧ BookAt K H b F ps m ∧ Bk F ps m ∧ H wd = some (.lst (vN word)) ∧ word.length = ps.length ∧ El F word ∧
  ∀ p x y H', Same H H' → Wl H' → H' p = some (.tup [.ref x, .ref y]) → H' x = some (.lst (vN (pV F ps m word))) → H' y = some (.lst (vN (pN F ps m word))) → Q (.ref p) H'
theorem ok_pair_of (T : Txt K mg) : FnAt P w K mg base 5 "pair_of" ["book", "word"] (sp_pair_of K) := by
  refine FnAt.of T 59 57 (d := d_pair_of) (k := 4) rfl rfl rfl rfl rfl sc_pair_of (fun _ _ _ _ _ _ us hl => match us, hl with | [_, _], _ => rfl) (fun vs H Q E h => by walk_at "len") (fun f_ cdv A outer s H vs Q E hr h => ?_)
  obtain ⟨b, wd, F, ps, m, word, rfl, wl, hB, bk, hw, hwl, hwe, k⟩ := h
  obtain ⟨dx, f, l, h1, hF, h3⟩ := hB.ex
  have hml := bk.ml
  have hln := bk.ln
  have hfn := bk.ok.n
  have hrc : rch ps m ≤ 5 := by unfold rch; omega
  have hmr := mrows_le hml
  refine ⟨_, (pss_cons (ps_par (i := 2) (j := 3) rfl sc_pair_of.nd rfl rfl (by decide) rfl rfl (pa_cons (pe_callF (ok_many_rows T) (by decide) hr (by rfl) (pa_cons (pv 0) pa_nil)) (pa_cons (pe_callF (ok_reach_of T) (by decide) hr (by rfl) (pa_cons (pv 0) pa_nil)) pa_nil)) (by rfl))
    (pss_cons (ps_setLc (i := 4) (own := [("point", 6), ("one", 7)]) rfl sc_pair_of.nd rfl rfl (sw_true rfl rfl rfl (by decide +kernel)) (pi_D (pi_zip (by rfl) T.n_zip (pa_cons (pe_slice (sl_listK (K := K) rfl) (pe_fldK (K := K) rfl (pv 0) rfl) po_none (po_some (pv 2))) (pa_cons (pv 1) pa_nil)))) (blkOk_by (N := ["book", "word", "many", "reach", "rows", "found", "point", "one"]) (sc := (defScope s_pair_of)) (own := [("point", 6), ("one", 7)]) (by decide +kernel)) (fun _ _ _ _ _ => (pg_tupD (n := 2) rfl (pgs_cons (pg_name (i := 6) sc_pair_of.nd rfl (Or.inl rfl)) (pgs_cons (pg_name (i := 7) sc_pair_of.nd rfl (Or.inl rfl)) pgs_nil)))) (fun _ _ _ _ _ => pts_nil) (fun _ _ _ _ _ => (pe_f (pe_callF (ok_pair_row T) (by decide) hr (by rfl) (pa_cons (pv 0) (pa_cons (pv 6) (pa_cons (pv 7) pa_nil)))))))
    (pss_cons (ps_set (i := 5) sc_pair_of.nd rfl (Or.inl rfl) (pe_callF (ok_lone_solution T) (by decide) hr (by rfl) (pa_cons (pe_fldK (K := K) rfl (pv 0) rfl) (pa_cons (pv 4) (pa_cons (pe_op op_add (pv 2) pe_int) pa_nil)))))
    (pss_one (ps_ret (pe_tup (pa_cons (pe_callF (ok_told_of T) (by decide) hr (by rfl) (pa_cons (pe_slice (sl_listK (K := K) rfl) (pv 5) po_none (po_some (pe_op op_add (pv 3) pe_int))) pa_nil)) (pa_cons (pe_callF (ok_told_of T) (by decide) hr (by rfl) (pa_cons (pe_slice (sl_listK (K := K) rfl) (pv 5) (po_some (pe_op op_add (pv 3) pe_int)) po_none) pa_nil)) pa_nil)))))))), ?_⟩
  walk_at "dn"
  walk_at "zz"
  refine ⟨b, F, ps, m, rfl, wl, hB, hml, by omega, ?_⟩
  walk_at "zz"
  refine ⟨b, F, ps, m, rfl, wl, hB, hml, ?_⟩
  walk_at "zz"
  walk_at "ds"
  refine r_slL (SqL.of h3) fun p1 hp1 => ?_
  rw [cut_to ps _ hmr]
  have s1 : Same H (upd H p1 (.lst (vN (ps.take (mrows ps m))))) := Same.new (Same.refl _) hp1
  have w1 : Wl (upd H p1 (.lst (vN (ps.take (mrows ps m))))) := Wl.put wl (NoOwn.none hp1) trivial
  have hq1 : (upd H p1 (.lst (vN (ps.take (mrows ps m))))) p1 = some (.lst (vN (ps.take (mrows ps m)))) := upd_same
  generalize upd H p1 (.lst (vN (ps.take (mrows ps m)))) = A at s1 w1 hq1 ⊢
  have hwA := s1 _ _ hw
  walk_at "zz"
  refine e_zip (SqL.of hq1) (SqL.of hwA) ?_
  refine lcl_rows (jw_zip (xs := vN (ps.take (mrows ps m))) (ys := vN word) (n := mrows ps m) (by rw [vN_len, vN_len, List.length_take]; omega)) (fun i => prow F ps m (ps.getD i 0) (word.getD i 0)) (by omega) w1 (fun A2 s2 w2 => ⟨SqL.of (s2 _ _ hq1), SqL.of (s2 _ _ hwA), w2⟩) (fun _ _ => rfl) (fun A2 i hi s2 w2 R q => ?_) (fun D A2 nD s2 w2 hL => ?_)
  · have et : (ps.take (mrows ps m)).getD i 0 = ps.getD i 0 := by
      rw [List.getD_eq_getElem?_getD, List.getElem?_take_of_lt hi, List.getD_eq_getElem?_getD]
    rw [vN_getD (by rw [List.length_take]; omega), vN_getD (by omega), et]
    walk_at "ds"
    walk_at "zz"
    refine ⟨b, F, ps, m, _, _, rfl, w2, hB.mono (fun a o e => s2 _ _ (s1 _ _ e)), bk, bk.el.at (by omega), hwe.at (by omega), fun p np => ?_⟩
    have wq := Wl.put (o := .lst (vN (prow F ps m (ps.getD i 0) (word.getD i 0)))) w2 (NoOwn.none np) trivial
    exact ⟨_, Same.refl _, wq, Prs.same (Same.new (Same.refl _) np), q p _ np (Same.new (Same.refl _) np) wq upd_same⟩
  · have sH2 : Same H A2 := fun a o e => s2 _ _ (s1 _ _ e)
    have h1A := sH2 _ _ h1
    walk_at "zz"
    refine ⟨f, D, F, mrows ps m + 1, prows F ps m word, rfl, w2, hF.mono sH2, bk.ok, hL, fun r hr => ?_, by unfold prows; rw [List.length_map, List.length_range]; omega, by omega, fun q A3 s3 w3 hq3 => ?_⟩
    · obtain ⟨i, hi, rfl⟩ := List.mem_map.mp hr
      have := List.mem_range.mp hi
      exact prow_row bk _ (hwe.at (by omega))
    · have hsl := (lone_row bk.ok (prows F ps m word) (mrows ps m + 1)).len
      have hps : rch ps m + 1 ≤ (psol F ps m word).length := by
        unfold psol
        rw [hsl]
        unfold mrows
        omega
      have eps : lone F (prows F ps m word) (mrows ps m + 1) = psol F ps m word := rfl
      rw [eps] at hq3
      have e1 : ((rch ps m : Nat) : Int) + 1 = ((rch ps m + 1 : Nat) : Int) := rfl
      have sH3 : Same H A3 := fun a o e => s3 _ _ (sH2 _ _ e)
      walk_at "zz"
      refine r_slL (SqL.of hq3) fun p4 hp4 => ?_
      rw [e1, cut_to _ _ hps]
      walk_at "zz"
      refine ⟨p4, _, rfl, Wl.put w3 (NoOwn.none hp4) trivial, upd_same, fun p5 hp5 => ?_⟩
      walk_at "zz"
      have hp5' := (upd_none hp5).2
      have s5 : Same A3 (upd (upd A3 p4 (.lst (vN ((psol F ps m word).take (rch ps m + 1))))) p5 (.lst (vN (trim ((psol F ps m word).take (rch ps m + 1)))))) := Same.new (Same.new (Same.refl _) hp4) hp5'
      have w5 : Wl (upd (upd A3 p4 (.lst (vN ((psol F ps m word).take (rch ps m + 1))))) p5 (.lst (vN (trim ((psol F ps m word).take (rch ps m + 1)))))) := Wl.put (Wl.put w3 (NoOwn.none hp4) trivial) (NoOwn.none hp5) trivial
      have hq5 : (upd (upd A3 p4 (.lst (vN ((psol F ps m word).take (rch ps m + 1))))) p5 (.lst (vN (trim ((psol F ps m word).take (rch ps m + 1)))))) p5 = some (.lst (vN (pV F ps m word))) := upd_same
      generalize upd (upd A3 p4 (.lst (vN ((psol F ps m word).take (rch ps m + 1))))) p5 (.lst (vN (trim ((psol F ps m word).take (rch ps m + 1))))) = B at s5 w5 hq5 ⊢
      refine r_slL (SqL.of (s5 _ _ hq3)) fun p6 hp6 => ?_
      rw [e1, cut_from _ _ hps]
      walk_at "zz"
      refine ⟨p6, _, rfl, Wl.put w5 (NoOwn.none hp6) trivial, upd_same, fun p7 hp7 => ?_⟩
      walk_at "zz"
      have hp7' := (upd_none hp7).2
      have s7 : Same B (upd (upd B p6 (.lst (vN ((psol F ps m word).drop (rch ps m + 1))))) p7 (.lst (vN (trim ((psol F ps m word).drop (rch ps m + 1)))))) := Same.new (Same.new (Same.refl _) hp6) hp7'
      have w7 : Wl (upd (upd B p6 (.lst (vN ((psol F ps m word).drop (rch ps m + 1))))) p7 (.lst (vN (trim ((psol F ps m word).drop (rch ps m + 1)))))) := Wl.put (Wl.put w5 (NoOwn.none hp6) trivial) (NoOwn.none hp7) trivial
      have hq7 : (upd (upd B p6 (.lst (vN ((psol F ps m word).drop (rch ps m + 1))))) p7 (.lst (vN (trim ((psol F ps m word).drop (rch ps m + 1)))))) p7 = some (.lst (vN (pN F ps m word))) := upd_same
      generalize upd (upd B p6 (.lst (vN ((psol F ps m word).drop (rch ps m + 1))))) p7 (.lst (vN (trim ((psol F ps m word).drop (rch ps m + 1))))) = C at s7 w7 hq7 ⊢
      refine ⟨by walk_at "small", fun p8 hp8 => ?_⟩
      have sHC : Same H C := fun a o e => s7 _ _ (s5 _ _ (sH3 _ _ e))
      have sH8 : Same H (upd C p8 (.tup [.ref p5, .ref p7])) := Same.new sHC (sHC.free hp8)
      have w8 : Wl (upd C p8 (.tup [.ref p5, .ref p7])) := Wl.put w7 (NoOwn.none hp8) trivial
      exact ⟨_, Same.refl _, w8, Prs.same sH8, k p8 p5 p7 _ sH8 w8 upd_same (upd_at (ne_of_none (s7 _ _ hq5) hp8) (s7 _ _ hq5)) (upd_at (ne_of_none hq7 hp8) hq7)⟩
end
end TP
/-! part Q16 -/
set_option maxHeartbeats 1000000
namespace TP
open PySem PySem.Spec PyProof.Rows L2
set_option hygiene false in
local macro_rules | `(tactic| walk_at "ne") => `(tactic| first | assumption | exact Ne.symm (by assumption) | exact ne_of_none (H := H) (by assumption) (by assumption) | exact (ne_of_none (H := H) (by assumption) (by assumption)).symm | exact ne_of_none (H := A) (by assumption) (by assumption) | exact (ne_of_none (H := A) (by assumption) (by assumption)).symm)
local macro_rules | `(tactic| walk_at "get") => `(tactic| first | assumption | exact upd_same | (refine upd_at ?_ ?_; (focus walk_at "ne"); (walk_at "get")))
local macro_rules | `(tactic| walk_at "nn") => `(tactic| first | assumption | (refine none_upd ?_ ?_; (focus walk_at "ne"); (walk_at "nn")))
local macro_rules | `(tactic| walk_at "same") => `(tactic| first | exact Same.refl _ | assumption | (refine Same.both ?_; walk_at "same") | (refine TP.Same.new ?_ ?_; (focus walk_at "same"); (walk_at "nn")) | (refine Same.put ?_ ?_; (focus walk_at "same"); (walk_at "get")))
local macro_rules | `(tactic| walk_at "noown") => `(tactic| first | exact NoOwn.none (by assumption) | (refine NoOwn.upd ?_ True.intro; walk_at "noown"))
local macro_rules | `(tactic| walk_at "wl") => `(tactic| first | assumption | (refine Wl.put ?_ ?_ True.intro; (focus walk_at "wl"); (walk_at "noown")))
local macro_rules | `(tactic| walk_at "sq") => `(tactic| first | assumption | exact SqL.of (by walk_at "get"))
set_option hygiene false in
local macro_rules | `(tactic| walk_at "f1") => `(tactic| obtain ⟨_, hp⟩ := upd_none hp)
set_option hygiene false in
local macro_rules | `(tactic| walk_at "f2") => `(tactic| (obtain ⟨_, hp⟩ := upd_none hp; obtain ⟨_, hp⟩ := upd_none hp))
set_option hygiene false in
local macro_rules | `(tactic| walk_at "f3") => `(tactic| (obtain ⟨_, hp⟩ := upd_none hp; obtain ⟨_, hp⟩ := upd_none hp; obtain ⟨_, hp⟩ := upd_none hp))
set_option hygiene false in
local macro_rules | `(tactic| walk_at "f4") => `(tactic| (obtain ⟨_, hp⟩ := upd_none hp; obtain ⟨_, hp⟩ := upd_none hp; obtain ⟨_, hp⟩ := upd_none hp; obtain ⟨_, hp⟩ := upd_none hp))
set_option hygiene false in
local macro_rules | `(tactic| walk_at "fa") => `(tactic| first
  | ((with_reducible refine' z_own_prime T ?hv ?hh ?_); (case hv => exact rfl); (case hh => walk_at "get"))
  | ((with_reducible refine' z_own_turns T ?hv ?hh ?_); (case hv => exact rfl); (case hh => walk_at "get"))
  | ((with_reducible refine' z_own_size T ?hv ?hh ?_); (case hv => exact rfl); (case hh => walk_at "get"))
  | ((with_reducible refine' z_own_powers T ?hv ?hh ?_); (case hv => exact rfl); (case hh => walk_at "get"))
  | ((with_reducible refine' z_own_logs T ?hv ?hh ?_); (case hv => exact rfl); (case hh => walk_at "get"))
  | ((with_reducible refine' z_own_field T ?hv ?hh ?_); (case hv => exact rfl); (case hh => walk_at "get"))
  | ((with_reducible refine' z_own_points T ?hv ?hh ?_); (case hv => exact rfl); (case hh => walk_at "get"))
  | ((with_reducible refine' z_own_many T ?hv ?hh ?_); (case hv => exact rfl); (case hh => walk_at "get")))
local macro_rules | `(tactic| walk_at "z") => `(tactic| first
  | with_reducible refine z_seq ?_
  | with_reducible refine z_asg ?_
  | with_reducible refine z_name ?_
  | ((with_reducible refine' z_var ?hv ?_); (case hv => exact rfl))
  | with_reducible refine z_c ?_
  | with_reducible refine z_op ?_
  | with_reducible refine r_I0 ?_
  | ((with_reducible refine r_I ?hc ?_); (case hc => walk_at "ar"))
  | ((with_reducible refine' r_app ?ha ?hz ?_); (case ha => walk_at "get"); (case hz => walk_at "sz"))
  | ((with_reducible refine' z_tyl ?ha ?_); (case ha => walk_at "get"))
  | with_reducible refine z_cons ?_
  | ((with_reducible refine' r_len ?ha ?_); (case ha => walk_at "sq"))
  | with_reducible refine z_nil ?_
  | walk_at "fa"
  | walk_at "fd"
  | with_reducible refine z_test ?_
  | with_reducible refine z_bl ?_
  | with_reducible refine z_tB ?_
  | with_reducible refine r_eq ?_
  | with_reducible refine r_ne ?_
  | with_reducible refine z_ifS ?_
  | with_reducible refine z_ret ?_
  | with_reducible refine z_drop ?_
  | with_reducible refine z_cb ?_
  | with_reducible refine z_call ?_
  | with_reducible refine z_bm ?_
  | with_reducible refine z_bm0 ?_
  | with_reducible refine z_lst ?_
  | with_reducible refine z_tup ?_
  | with_reducible refine z_un ?_
  | with_reducible refine r_U ?_
  | with_reducible refine z_par ?_
  | with_reducible refine z_par3 ?_
  | with_reducible refine z_two ?_
  | with_reducible refine z_three ?_
  | with_reducible refine z_sub ?_
  | with_reducible refine z_for ?_
  | with_reducible refine z_lc ?_
  | with_reducible refine z_ifE ?_
  | with_reducible refine z_and ?_
  | with_reducible refine z_or ?_
  | with_reducible refine z_not ?_
  | with_reducible refine z_yes ?_
  | with_reducible refine z_andV ?_
  | with_reducible refine z_orV ?_
  | with_reducible refine z_notV ?_
  | with_reducible refine z_sl ?_
  | with_reducible refine z_noP ?_
  | with_reducible refine z_part ?_
  | with_reducible refine z_int ?_
  | with_reducible refine z_revL ?_
  | with_reducible refine z_next ?_
  | with_reducible refine z_sf ?_
  | with_reducible refine z_f ?_
  | with_reducible refine z_tf ?_
  | with_reducible refine z_disp ?_
  | with_reducible refine z_pc ?_
  | with_reducible refine z_pn ?_
  | with_reducible refine z_i1 ?_
  | with_reducible refine i_rng3 ?_
  | with_reducible refine z_chain ?_
  | with_reducible refine z_nT ?_
  | with_reducible refine z_nF ?_
  | with_reducible refine z_sfld ?_
  | with_reducible refine i_rng1 ?_
  | with_reducible refine i_rng2 ?_
  | with_reducible refine i_list ?_
  | with_reducible refine i_zip ?_
  | with_reducible refine i_enum ?_
  | with_reducible refine z_tt ?_
  | with_reducible refine z_ff ?_)
local macro_rules | `(tactic| walk_at "zz") => `(tactic| repeat walk_at "z")
set_option hygiene false in
local macro_rules | `(tactic| walk_at "len") => `(tactic| first | (obtain ⟨rfl, _⟩ := h; rfl) | (obtain ⟨_, rfl, _⟩ := h; rfl) | (obtain ⟨_, _, rfl, _⟩ := h; rfl) | (obtain ⟨_, _, _, rfl, _⟩ := h; rfl) | (obtain ⟨_, _, _, _, rfl, _⟩ := h; rfl) | (obtain ⟨_, _, _, _, _, rfl, _⟩ := h; rfl) | (obtain ⟨_, _, _, _, _, _, rfl, _⟩ := h; rfl) | (obtain ⟨_, _, _, _, _, _, _, rfl, _⟩ := h; rfl) | (obtain ⟨_, _, _, _, _, _, _, _, rfl, _⟩ := h; rfl) | (obtain ⟨_, _, _, _, _, _, _, _, _, rfl, _⟩ := h; rfl) | (obtain ⟨_, _, _, _, _, _, _, _, _, _, rfl, _⟩ := h; rfl) | (obtain ⟨_, _, _, _, _, _, _, _, _, _, _, rfl, _⟩ := h; rfl) | (obtain ⟨_, _, _, _, _, _, _, _, _, _, _, _, rfl, _⟩ := h; rfl) | (obtain ⟨_, _, _, _, _, _, _, _, _, _, _, _, _, rfl, _⟩ := h; rfl) | (obtain ⟨_, _, _, _, _, _, _, _, _, _, _, _, _, _, rfl, _⟩ := h; rfl) | (obtain ⟨_, _, _, _, _, _, _, _, _, _, _, _, _, _, _, rfl, _⟩ := h; rfl) | (obtain ⟨_, _, _, _, _, _, _, _, _, _, _, _, _, _, _, _, rfl, _⟩ := h; rfl))
local macro_rules | `(tactic| walk_at "small") => `(tactic| first | exact Nat.zero_le _ | exact (by decide : 1 ≤ sizeLine) | exact (by decide : 2 ≤ sizeLine) | exact (by decide : 3 ≤ sizeLine) | exact (by decide : 4 ≤ sizeLine) | exact (by decide : 5 ≤ sizeLine) | exact (by decide : 6 ≤ sizeLine))
local macro_rules | `(tactic| walk_at "dn") => `(tactic| dsimp only [cxOf, L2.start, List.map, List.length, List.replicate, List.cons_append, List.nil_append, Nat.reduceAdd, Nat.reduceSub, Nat.zero_add])
local macro_rules | `(tactic| walk_at "ar") => `(tactic| first | assumption | (show _ < _; omega) | (show _ < _ ∧ _ < _; omega) | (left; show _ < _ ∧ _ < _; constructor <;> omega) | (right; show _ < _ ∧ _ < _; constructor <;> omega))
local macro_rules | `(tactic| walk_at "sz") => `(tactic| first | omega | (simp only [vN_len, List.length_append, List.length_cons, List.length_nil, List.length_map, List.length_range, List.length_replicate, List.length_set, List.length_take, List.length_drop, List.length_reverse]; omega))
local macro_rules | `(tactic| walk_at "ds") => `(tactic| try dsimp only [List.set])
set_option hygiene false in
local macro_rules | `(tactic| walk_at "endL") => `(tactic| (refine' ⟨_, ?e1, ?e2, ?e3, k p hp⟩; (case e1 => walk_at "same"); (case e2 => walk_at "wl"); (case e3 => exact Prs.same (by walk_at "same"))))
set_option hygiene false in
local macro_rules | `(tactic| walk_at "endS") => `(tactic| exact ⟨H, by walk_at "same", wl, Prs.refl _, k⟩)
set_option hygiene false in
local macro_rules | `(tactic| walk_at "endQ") => `(tactic| (refine' ⟨_, ?e1, ?e2, ?e3, k q hp⟩; (case e1 => walk_at "same"); (case e2 => walk_at "wl"); (case e3 => exact Prs.same (by walk_at "same"))))
local macro_rules | `(tactic| walk_at "f5") => `(tactic| (walk_at "f1"; walk_at "f4"))
local macro_rules | `(tactic| walk_at "f6") => `(tactic| (walk_at "f2"; walk_at "f4"))
local macro_rules | `(tactic| walk_at "f7") => `(tactic| (walk_at "f3"; walk_at "f4"))
set_option hygiene false in
local macro_rules | `(tactic| walk_at "fd") => `(tactic| first
  | ((with_reducible refine' z_w_prime ?hv ?hh ?_); (case hv => exact rfl); (case hh => assumption))
  | ((with_reducible refine' z_w_turns ?hv ?hh ?_); (case hv => exact rfl); (case hh => assumption))
  | ((with_reducible refine' z_w_size ?hv ?hh ?_); (case hv => exact rfl); (case hh => assumption))
  | ((with_reducible refine' z_w_powers ?hv ?hh ?_); (case hv => exact rfl); (case hh => assumption))
  | ((with_reducible refine' z_w_places ?hv ?hh ?_); (case hv => exact rfl); (case hh => assumption))
  | ((with_reducible refine' z_t_prime ?hv ?hh ?_); (case hv => exact rfl); (case hh => assumption))
  | ((with_reducible refine' z_t_modulus ?hv ?hh ?_); (case hv => exact rfl); (case hh => assumption))
  | ((with_reducible refine' z_t_world ?hv ?hh ?_); (case hv => exact rfl); (case hh => assumption))
  | ((with_reducible refine' z_t_points ?hv ?hh ?_); (case hv => exact rfl); (case hh => assumption))
  | ((with_reducible refine' z_t_many ?hv ?hh ?_); (case hv => exact rfl); (case hh => assumption))
  | ((with_reducible refine' z_t_reach ?hv ?hh ?_); (case hv => exact rfl); (case hh => assumption)))
/-- what a def that hands back a turn sum or None promises -/
def OptAt (H : Hp) (o : Option (List Nat)) (Q : VK) : Prop := match o with
  | none => Q .non H
  | some t => ∀ p H', Same H H' → Wl H' → H' p = some (.lst (vN t)) → Q (.ref p) H'
section
variable {P : Program} {w : World} {K : PySem.W.Frag} {mg : Str → Option Value} {base : Heap}
theorem sc_told_by_pair : FnScope ["book", "word", "pair", "quotient", "rest"] ["book", "word", "pair"] (defScope s_told_by_pair) := ⟨rfl, rfl, rfl, by decide +kernel, rfl, by decide +kernel, by decide +kernel⟩
def sp_told_by_pair (K : PySem.W.Frag) : Sp := fun vs H Q _ => ∃ (b wd pr x y : Addr) (F : Fd) (ps : List Nat) (m : Nat) (word V0 N0 q r : List Nat), vs = [.ref b, .ref wd, .ref pr] ∧ Wl H ∧ BookAt K H b F ps m ∧ Bk F ps m ∧ H wd = some (.lst (vN word)) ∧ word.length = ps.length ∧ El F word ∧
  H pr = some (.tup [.ref x, .ref y]) ∧ H x = some (.lst (vN V0)) ∧ H y = some (.lst (vN N0)) ∧ El F V0 ∧ El F N0 ∧ outF F N0 V0 = some (q, r) ∧ OptAt H (tellP F ps m word (q, r)) Q
theorem dec_nil {xs : List Nat} : decide (xs = []) = xs.isEmpty := by cases xs <;> simp
theorem ok_told_by_pair (T : Txt K mg) : FnAt P w K mg base 6 "told_by_pair" ["book", "word", "pair"] (sp_told_by_pair K) := by
  refine FnAt.of T 61 59 (d := d_told_by_pair) (k := 5) rfl rfl rfl rfl rfl sc_told_by_pair (fun _ _ _ _ _ _ us hl => match us, hl with | [_, _, _], _ => rfl) (fun vs H Q E h => by walk_at "len") (fun f_ cdv A outer s H vs Q E hr h => ?_)
  obtain ⟨b, wd, pr, x, y, F, ps, m, word, V0, N0, q, r, rfl, wl, hB, bk, hw, hwl, hwe, hpr, hx, hy, hve, hne, ho, k⟩ := h
  obtain ⟨dx, f, l, h1, hF, h3⟩ := hB.ex
  obtain ⟨hqe, hre⟩ := outF_el bk.ok hne ho
  refine ⟨_, (pss_cons (ps_f (ps_asg (pe_callF (ok_outer_parts T) (by decide) hr (by rfl) (pa_cons (pe_fldK (K := K) rfl (pv 0) rfl) (pa_cons (pe_ix (ix_tupK (K := K) rfl) (pv 2) pe_int (fun _ _ => rfl)) (pa_cons (pe_ix (ix_tupK (K := K) rfl) (pv 2) pe_int (fun _ _ => rfl)) pa_nil)))) (pg_tup (n := 2) rfl (pgs_cons (pg_name (i := 3) sc_told_by_pair.nd rfl (Or.inl rfl)) (pgs_cons (pg_name (i := 4) sc_told_by_pair.nd rfl (Or.inl rfl)) pgs_nil)))))
    (pss_cons (ps_if (PW.pt (pw_or (pt_cmpR (op_neDK (K := K) rfl hr.units) (pv 4) (pe_lst pa_nil) (nomark _)) (pw_or (pt_cmpR op_gt (pe_callB (call_lenK (K := K) rfl) (by rfl) T.n_len (by decide +kernel) (pa_cons (pv 3) pa_nil)) (pe_fldK (K := K) rfl (pv 0) rfl) (nomark _)) (pw_or1 (pt_not (pt_val (pe_callF (ok_is_within_reach T) (by decide) hr (by rfl) (pa_cons (pv 0) (pa_cons (pv 1) (pa_cons (pv 3) pa_nil)))))))))) (pss_one (ps_ret pe_non)) pss_nil)
    (pss_one (ps_ret (pv 3))))), ?_⟩
  walk_at "dn"
  walk_at "zz"
  refine r_ixT (SqT.of hpr) (k := ((1 : Nat) : Int)) (v := .ref y) rfl ?_
  walk_at "zz"
  refine r_ixT (SqT.of hpr) (k := ((0 : Nat) : Int)) (v := .ref x) rfl ?_
  walk_at "zz"
  refine ⟨f, y, x, F, N0, V0, q, r, rfl, wl, hF, bk.ok, hy, hx, hne, hve, ho, fun p a1 a2 A s1 w1 hp hq1 hq2 => ?_⟩
  walk_at "zz"
  refine z_gt2 (SqT.of hp) ?_
  refine ⟨A, Same.refl _, w1, Prs.same s1, ?_⟩
  have h1A := s1 _ _ h1
  walk_at "zz"
  walk_at "ds"
  refine ⟨by walk_at "small", fun l4 n4 => ?_⟩
  have sC : Same A (upd A l4 (.lst [])) := Same.new (Same.refl _) n4
  have wlC : Wl (upd A l4 (.lst [])) := Wl.put w1 (NoOwn.none n4) trivial
  refine r_neL (ns := r) (ms := []) (SqL.of (sC _ _ hq2)) (SqL.of upd_same) ?_
  generalize upd A l4 (.lst []) = C at sC wlC ⊢
  have sH : Same H C := fun a o e => sC _ _ (s1 _ _ e)
  have h1C := sH _ _ h1
  have hqC := sC _ _ hq1
  by_cases c1 : r = []
  · rw [decide_eq_true c1]
    walk_at "zz"
    rw [vN_len]
    by_cases c2 : q.length ≤ m
    · rw [decide_eq_false (by omega)]
      walk_at "zz"
      refine ⟨b, wd, a1, F, ps, m, word, q, rfl, wlC, hB.mono sH, bk, sH _ _ hw, hqC, hwl, hwe, hqe, ?_⟩
      walk_at "zz"
      by_cases c3 : within F ps m word q = true
      · rw [c3]
        walk_at "zz"
        have e : tellP F ps m word (q, r) = some q := if_pos ⟨c1, c2, c3⟩
        rw [e] at k
        exact ⟨C, Same.refl _, wlC, Prs.same sH, k a1 C sH wlC hqC⟩
      · have c3' : within F ps m word q = false := by
          cases h : within F ps m word q with
          | true => exact absurd h c3
          | false => rfl
        rw [c3']
        walk_at "zz"
        have e : tellP F ps m word (q, r) = none := if_neg fun h => c3 h.2.2
        rw [e] at k
        exact ⟨H, sH, wl, Prs.refl _, k⟩
    · rw [decide_eq_true (by omega)]
      walk_at "zz"
      have e : tellP F ps m word (q, r) = none := if_neg fun h => c2 h.2.1
      rw [e] at k
      exact ⟨H, sH, wl, Prs.refl _, k⟩
  · rw [decide_eq_false c1]
    walk_at "zz"
    have e : tellP F ps m word (q, r) = none := if_neg fun h => c1 h.1
    rw [e] at k
    exact ⟨H, sH, wl, Prs.refl _, k⟩
theorem OptAt.mono {A B : Hp} {o : Option (List Nat)} {Q : VK} (w : Wl A) (s : Same A B) (p : Prs A A) (h : OptAt A o Q) : OptAt B o (fun v H' => Fg A H' (Q v)) := by
  cases o with
  | none => exact ⟨A, s, w, p, h⟩
  | some t => exact fun q H' s2 w2 hq => ⟨H', Same.refl _, w2, Prs.same (fun a o e => s2 _ _ (s _ _ e)), h q H' (fun a o e => s2 _ _ (s _ _ e)) w2 hq⟩
theorem sc_mended_by : FnScope ["book", "word"] ["book", "word"] (defScope s_mended_by) := ⟨rfl, rfl, rfl, by decide +kernel, rfl, by decide +kernel, by decide +kernel⟩
def sp_mended_by (K : PySem.W.Frag) : Sp := fun vs H Q _ => ∃ (b wd : Addr) (F : Fd) (ps : List Nat) (m : Nat) (word : List Nat) (o : Option (List Nat)), vs = [.ref b, .ref wd] ∧ Wl H ∧ BookAt K H b F ps m ∧ Bk F ps m ∧ H wd = some (.lst (vN word)) ∧ word.length = ps.length ∧ El F word ∧ mendF F ps m word = some o ∧ OptAt H o Q
theorem ok_mended_by (T : Txt K mg) : FnAt P w K mg base 7 "mended_by" ["book", "word"] (sp_mended_by K) := by
  refine FnAt.of T 62 60 (d := d_mended_by) (k := 6) rfl rfl rfl rfl rfl sc_mended_by (fun _ _ _ _ _ _ us hl => match us, hl with | [_, _], _ => rfl) (fun vs H Q E h => by walk_at "len") (fun f_ cdv A outer s H vs Q E hr h => ?_)
  obtain ⟨b, wd, F, ps, m, word, o, rfl, wl, hB, bk, hw, hwl, hwe, hm, k⟩ := h
  obtain ⟨⟨q, r⟩, ho, et⟩ := Option.map_eq_some_iff.mp hm
  refine ⟨_, (pss_one (ps_ret (pe_callF (ok_told_by_pair T) (by decide) hr (by rfl) (pa_cons (pv 0) (pa_cons (pv 1) (pa_cons (pe_callF (ok_pair_of T) (by decide) hr (by rfl) (pa_cons (pv 0) (pa_cons (pv 1) pa_nil))) pa_nil)))))), ?_⟩
  walk_at "dn"
  walk_at "zz"
  refine ⟨b, wd, F, ps, m, word, rfl, wl, hB, bk, hw, hwl, hwe, fun p x y A s1 w1 hp hx hy => ?_⟩
  walk_at "zz"
  have hrow := lone_row bk.ok (prows F ps m word) (mrows ps m + 1)
  refine ⟨b, wd, p, x, y, F, ps, m, word, _, _, q, r, rfl, w1, hB.mono s1, bk, s1 _ _ hw, hwl, hwe, hp, hx, hy, (hrow.el.take _).trim, (hrow.el.drop _).trim, ho, ?_⟩
  rw [et]
  exact k.mono wl s1 (Prs.refl _)
theorem sc_mended : FnScope ["book", "word", "here"] ["book", "word"] (defScope s_mended) := ⟨rfl, rfl, rfl, by decide +kernel, rfl, by decide +kernel, by decide +kernel⟩
def sp_mended (K : PySem.W.Frag) : Sp := fun vs H Q _ => ∃ (b wd : Addr) (F : Fd) (ps : List Nat) (m : Nat) (word : List Nat) (o : Option (List Nat)), vs = [.ref b, .ref wd] ∧ Wl H ∧ BookAt K H b F ps m ∧ Bk F ps m ∧ H wd = some (.lst (vN word)) ∧ word.length = ps.length ∧ El F word ∧ mendF F ps m word = some o ∧ OptAt H o Q
theorem ok_mended (T : Txt K mg) : FnAt P w K mg base 8 "mended" ["book", "word"] (sp_mended K) := by
  refine FnAt.of T 63 61 (d := d_mended) (k := 7) rfl rfl rfl rfl rfl sc_mended (fun _ _ _ _ _ _ us hl => match us, hl with | [_, _], _ => rfl) (fun vs H Q E h => by walk_at "len") (fun f_ cdv A outer s H vs Q E hr h => ?_)
  obtain ⟨b, wd, F, ps, m, word, o, rfl, wl, hB, bk, hw, hwl, hwe, hm, k⟩ := h
  have hln := bk.ln
  have hfn := bk.ok.n
  refine ⟨_, (pss_cons (ps_set (i := 2) sc_mended.nd rfl (Or.inl rfl) (pe_callF (ok_want_book T) (by decide) hr (by rfl) (pa_cons (pv 0) pa_nil)))
    (pss_one (ps_ret (pe_callF (ok_mended_by T) (by decide) hr (by rfl) (pa_cons (pv 2) (pa_cons (pe_callF (ok_want_word T) (by decide) hr (by rfl) (pa_cons (pv 2) (pa_cons (pv 1) pa_nil))) pa_nil)))))), ?_⟩
  walk_at "dn"
  walk_at "zz"
  refine ⟨b, F, ps, m, rfl, wl, hB, ?_⟩
  walk_at "zz"
  refine ⟨b, wd, F, ps, m, word, rfl, wl, hB, hw, hwl, by omega, hwe, fun p hp => ?_⟩
  walk_at "zz"
  refine ⟨b, p, F, ps, m, word, o, rfl, by walk_at "wl", hB.mono (by walk_at "same"), bk, upd_same, hwl, hwe, hm, ?_⟩
  exact k.mono wl (by walk_at "same") (Prs.refl _)
theorem sc_is_near : FnScope ["book", "word", "turner", "here", "near"] ["book", "word", "turner"] (defScope s_is_near) := ⟨rfl, rfl, rfl, by decide +kernel, rfl, by decide +kernel, by decide +kernel⟩
def sp_is_near (K : PySem.W.Frag) : Sp := fun vs H Q _ => ∃ (b wd a : Addr) (F : Fd) (ps : List Nat) (m : Nat) (word t : List Nat), vs = [.ref b, .ref wd, .ref a] ∧ Wl H ∧ BookAt K H b F ps m ∧ Bk F ps m ∧ H wd = some (.lst (vN word)) ∧ H a = some (.lst (vN t)) ∧ word.length = ps.length ∧ El F word ∧ El F t ∧ t.length ≤ 13 ∧ (trim t).length ≤ m ∧ Q (.bl (within F ps m word (trim t))) H
theorem ok_is_near (T : Txt K mg) : FnAt P w K mg base 7 "is_near" ["book", "word", "turner"] (sp_is_near K) := by
  refine FnAt.of T 64 62 (d := d_is_near) (k := 6) rfl rfl rfl rfl rfl sc_is_near (fun _ _ _ _ _ _ us hl => match us, hl with | [_, _, _], _ => rfl) (fun vs H Q E h => by walk_at "len") (fun f_ cdv A outer s H vs Q E hr h => ?_)
  obtain ⟨b, wd, a, F, ps, m, word, t, rfl, wl, hB, bk, hw, ha, hwl, hwe, hte, htl, htm, k⟩ := h
  have hln := bk.ln
  have hfn := bk.ok.n
  refine ⟨_, (pss_cons (ps_set (i := 3) sc_is_near.nd rfl (Or.inl rfl) (pe_callF (ok_want_book T) (by decide) hr (by rfl) (pa_cons (pv 0) pa_nil)))
    (pss_cons (ps_set (i := 4) sc_is_near.nd rfl (Or.inl rfl) (pe_callF (ok_want_word T) (by decide) hr (by rfl) (pa_cons (pv 3) (pa_cons (pv 1) pa_nil))))
    (pss_one (ps_ret (pe_callF (ok_is_within_reach T) (by decide) hr (by rfl) (pa_cons (pv 3) (pa_cons (pv 4) (pa_cons (pe_callF (ok_let_of T) (by decide) hr (by rfl) (pa_cons (pv 3) (pa_cons (pv 2) pa_nil))) pa_nil)))))))), ?_⟩
  walk_at "dn"
  walk_at "zz"
  refine ⟨b, F, ps, m, rfl, wl, hB, ?_⟩
  walk_at "zz"
  refine ⟨b, wd, F, ps, m, word, rfl, wl, hB, hw, hwl, by omega, hwe, fun p hp => ?_⟩
  walk_at "zz"
  refine ⟨b, a, F, ps, m, t, rfl, by walk_at "wl", hB.mono (by walk_at "same"), by walk_at "get", htm, htl, hte, fun p2 hp => ?_⟩
  have hp2 := (upd_none hp).1
  walk_at "f1"
  walk_at "zz"
  refine ⟨b, p, p2, F, ps, m, word, _, rfl, by walk_at "wl", hB.mono (by walk_at "same"), bk, by walk_at "get", upd_same, hwl, hwe, hte.trim, ?_⟩
  exact ⟨H, by walk_at "same", wl, Prs.refl _, k⟩
end
end TP
/-! part TPx -/
/-! the law's own field, in plain words -/
namespace TP
def redIn (p at_ m : Nat) (md l : List Nat) : Nat → List Nat
  | 0 => l
  | j + 1 => (redIn p at_ m md l j).set (at_ - m + j) (sm p ((redIn p at_ m md l j).getD (at_ - m + j) 0) ((redIn p at_ m md l j).getD at_ 0 * md.getD j 0))
def redOut (p m : Nat) (md l : List Nat) : Nat → List Nat
  | 0 => l
  | k + 1 => redIn p (2 * m - 1 - k) m md (redOut p m md l k) m
theorem redIn_len (p a m : Nat) (md l : List Nat) : ∀ j, (redIn p a m md l j).length = l.length
  | 0 => rfl
  | j + 1 => by
    show ((redIn p a m md l j).set _ _).length = _
    rw [List.length_set]
    exact redIn_len p a m md l j
theorem redOut_len (p m : Nat) (md l : List Nat) : ∀ k, (redOut p m md l k).length = l.length
  | 0 => rfl
  | k + 1 => by
    show (redIn p _ m md (redOut p m md l k) m).length = _
    rw [redIn_len]
    exact redOut_len p m md l k
def slowF (p : Nat) (md : List Nat) (x y : Nat) : Nat :=
  num p ((redOut p (md.length - 1) md (mulOut p (digs p (md.length - 1) x) (digs p (md.length - 1) y) (List.replicate (2 * (md.length - 1)) 0) (md.length - 1)) (md.length - 1)).take (md.length - 1))
def lpGo (p : Nat) (md : List Nat) (one size : Nat) : Nat → List Nat → Option (List Nat)
  | 0, _ => none
  | n + 1, found => if found.length < size - 1 then (if slowF p md (found.getD (found.length - 1) 0) one = 1 then some found else lpGo p md one size n (found ++ [slowF p md (found.getD (found.length - 1) 0) one])) else some found
def lPow (p : Nat) (md : List Nat) (one size : Nat) : Option (List Nat) := lpGo p md one size 40 [1]
def lwGo (p : Nat) (md : List Nat) (size : Nat) : Nat → List Nat → Nat → Option (List Nat)
  | 0, _, _ => none
  | n + 1, pw, one => if pw.length < size - 1 then (lPow p md one size).bind fun q => lwGo p md size n q (one + 1) else some pw
def lPowers (p : Nat) (md : List Nat) (size : Nat) : Option (List Nat) := lwGo p md size 40 [1] p
theorem F8_lp : lPowers 2 [1, 1, 0, 1] 8 = some F8.pw := by decide +kernel
theorem F16_lp : lPowers 2 [1, 1, 0, 0, 1] 16 = some F16.pw := by decide +kernel
theorem F27_lp : lPowers 3 [1, 2, 0, 1] 27 = some F27.pw := by decide +kernel
theorem F32_lp : lPowers 2 [1, 0, 1, 0, 0, 1] 32 = some F32.pw := by decide +kernel
theorem FOK.lp {F : Fd} (h : FOK F) : lPowers F.p F.md F.q = some F.pw := h.all (C := fun F => lPowers F.p F.md F.q = some F.pw) F8_lp F16_lp F27_lp F32_lp
def placeN (pw : List Nat) (q : Nat) : Nat → List Nat
  | 0 => List.replicate q 0
  | i + 1 => (placeN pw q i).set (pw.getD i 0) i
theorem placeN_len (pw : List Nat) (q : Nat) : ∀ i, (placeN pw q i).length = q
  | 0 => List.length_replicate
  | i + 1 => by
    show ((placeN pw q i).set _ _).length = q
    rw [List.length_set]
    exact placeN_len pw q i
theorem FOK.places {F : Fd} (h : FOK F) : placeN F.pw F.q F.pw.length = F.lg := h.all (C := fun F => placeN F.pw F.q F.pw.length = F.lg) (by decide +kernel) (by decide +kernel) (by decide +kernel) (by decide +kernel)
/-! ### its operations are the program's -/
def lplus (F : Fd) (x y c : Nat) : Nat := zipDigs F (fun l r => (l + c * r) % F.p) x y
theorem lplus_lt {F : Fd} (h : FOK F) (x y c : Nat) : lplus F x y c < F.q := zipDigs_lt h (fun x y => Nat.mod_lt _ (by have := h.p; omega)) x y
theorem lplus_add {F : Fd} (h : FOK F) : ∀ x, x < F.q → ∀ y, y < F.q → lplus F x y 1 = addF F x y :=
  h.all (C := fun F => ∀ x, x < F.q → ∀ y, y < F.q → lplus F x y 1 = addF F x y) (by decide +kernel) (by decide +kernel) (by decide +kernel) (by decide +kernel)
theorem lplus_sub {F : Fd} (h : FOK F) : ∀ x, x < F.q → ∀ y, y < F.q → lplus F x y (F.p - 1) = subF F x y :=
  h.all (C := fun F => ∀ x, x < F.q → ∀ y, y < F.q → lplus F x y (F.p - 1) = subF F x y) (by decide +kernel) (by decide +kernel) (by decide +kernel) (by decide +kernel)
def lturn (F : Fd) (k x : Nat) : Nat := if x = 0 then 0 else F.P (F.L x * F.p ^ (k % F.n) % (F.q - 1))
theorem lturn_tn {F : Fd} (h : FOK F) : ∀ k, k < F.n → ∀ x, x < F.q → lturn F k x = tn F k x :=
  h.all (C := fun F => ∀ k, k < F.n → ∀ x, x < F.q → lturn F k x = tn F k x) (by decide +kernel) (by decide +kernel) (by decide +kernel) (by decide +kernel)
theorem lturn_eq {F : Fd} (h : FOK F) (k : Nat) {x : Nat} (hx : x < F.q) : lturn F k x = tn F k x := by
  have hn := h.n
  have e := lturn_tn h (k % F.n) (Nat.mod_lt _ (by omega)) x hx
  unfold lturn tn at e ⊢
  rw [Nat.mod_mod] at e
  exact e
/-! ### spans and ranks of the law -/
def spanMore (F : Fd) (S : List Nat) (x : Nat) : Nat → List Nat
  | 0 => []
  | c + 1 => spanMore F S x c ++ S.map fun o => lplus F o x c
def spanStep (F : Fd) (S : List Nat) (x : Nat) : List Nat := if x ∈ S then S else spanMore F S x F.p
def spanTo (F : Fd) (g : List Nat) : Nat → List Nat
  | 0 => [0]
  | i + 1 => spanStep F (spanTo F g i) (g.getD i 0)
def spanL (F : Fd) (g : List Nat) : List Nat := spanTo F g g.length
def rkTo (F : Fd) (g : List Nat) : Nat → Nat
  | 0 => 0
  | i + 1 => if g.getD i 0 ∈ spanTo F g i then rkTo F g i else rkTo F g i + 1
def lrk (F : Fd) (g : List Nat) : Nat := rkTo F g g.length
theorem spanMore_len (F : Fd) (S : List Nat) (x : Nat) : ∀ c, (spanMore F S x c).length = c * S.length
  | 0 => by rw [Nat.zero_mul]; rfl
  | c + 1 => by
    show (spanMore F S x c ++ S.map _).length = _
    rw [List.length_append, List.length_map, spanMore_len F S x c, Nat.succ_mul]
theorem spanMore_el {F : Fd} (h : FOK F) (S : List Nat) (x : Nat) : ∀ c, El F (spanMore F S x c)
  | 0 => fun y m => by cases m
  | c + 1 => (spanMore_el h S x c).app (El.map fun o _ => lplus_lt h o x c)
theorem spanTo_el {F : Fd} (h : FOK F) (g : List Nat) : ∀ i, El F (spanTo F g i)
  | 0 => fun y m => by
    have := h.q
    rw [List.mem_singleton.mp m]
    omega
  | i + 1 => by
    show El F (spanStep F (spanTo F g i) _)
    unfold spanStep
    split
    · exact spanTo_el h g i
    · exact spanMore_el h _ _ _
theorem spanTo_len {F : Fd} (g : List Nat) : ∀ i, (spanTo F g i).length = F.p ^ rkTo F g i
  | 0 => rfl
  | i + 1 => by
    show (spanStep F (spanTo F g i) _).length = F.p ^ (if _ then _ else _)
    unfold spanStep
    by_cases h : g.getD i 0 ∈ spanTo F g i
    · rw [if_pos h, if_pos h]
      exact spanTo_len g i
    · rw [if_neg h, if_neg h, spanMore_len, spanTo_len g i, Nat.pow_succ, Nat.mul_comm]
theorem rkTo_le {F : Fd} (g : List Nat) : ∀ i, rkTo F g i ≤ i
  | 0 => Nat.le_refl 0
  | i + 1 => by
    have := rkTo_le (F := F) g i
    have e : rkTo F g (i + 1) = if g.getD i 0 ∈ spanTo F g i then rkTo F g i else rkTo F g i + 1 := rfl
    rw [e]
    split <;> omega
/-- each not within the span of those before it -/
def FreeL (F : Fd) (g : List Nat) : Prop := ∀ i, i < g.length → g.getD i 0 ∉ spanTo F g i
end TP
/-! part TPy -/
/-! how the law's data stand -/
namespace TP
open PySem PySem.Spec PyProof.Rows L2
def wKV (F : Fd) (a b : Addr) : List (Key × V) := [(.inr "prime", .int F.p), (.inr "turns", .int F.n), (.inr "size", .int F.q), (.inr "powers", .ref a), (.inr "places", .ref b)]
structure WorldAt (H : Hp) (d : Addr) (F : Fd) : Prop where
  ex : ∃ a b, H d = some (.dK (wKV F a b)) ∧ H a = some (.lst (vN F.pw)) ∧ H b = some (.lst (vN F.lg))
theorem WorldAt.mono {A B : Hp} {d : Addr} {F : Fd} (e : Same A B) (h : WorldAt A d F) : WorldAt B d F := by
  obtain ⟨a, b, h1, h2, h3⟩ := h.ex
  exact ⟨a, b, e _ _ h1, e _ _ h2, e _ _ h3⟩
def tKV (F : Fd) (md wd pl : Addr) (m r : Nat) : List (Key × V) := [(.inr "prime", .int F.p), (.inr "modulus", .ref md), (.inr "world", .ref wd), (.inr "points", .ref pl), (.inr "many", .int m), (.inr "reach", .int r)]
structure ToldAt (H : Hp) (d : Addr) (F : Fd) (ps : List Nat) (m r : Nat) : Prop where
  ex : ∃ md wd pl, H d = some (.dK (tKV F md wd pl m r)) ∧ H md = some (.lst (vN F.md)) ∧ WorldAt H wd F ∧ H pl = some (.lst (vN ps))
theorem ToldAt.mono {A B : Hp} {d : Addr} {F : Fd} {ps : List Nat} {m r : Nat} (e : Same A B) (h : ToldAt A d F ps m r) : ToldAt B d F ps m r := by
  obtain ⟨md, wd, pl, h1, h2, h3, h4⟩ := h.ex
  exact ⟨md, wd, pl, e _ _ h1, e _ _ h2, h3.mono e, e _ _ h4⟩
section
variable {st : L2.St} {H : Hp} {Q : VK} {i : Nat} {d a b md wd pl : Addr} {F : Fd} {m r : Nat}
theorem z_dg {kvs : List (Key × V)} {k : Str} {v : V} (hv : st[i]? = some (some (.ref d))) (h : H d = some (.dK kvs)) (l : valV kvs (.inr k) = some v) (q : Q v H) : tDGet (tVar i) (tC (.str k)) st H Q :=
  ⟨_, hv, d, v, rfl, by rw [← l]; exact DGet.k (k := .inr k) h, q⟩
theorem w_prime : valV (wKV F a b) (.inr ("prime" : Str)) = some (.int F.p) := rfl
theorem w_turns : valV (wKV F a b) (.inr ("turns" : Str)) = some (.int F.n) := rfl
theorem w_size : valV (wKV F a b) (.inr ("size" : Str)) = some (.int F.q) := rfl
theorem w_powers : valV (wKV F a b) (.inr ("powers" : Str)) = some (.ref a) := rfl
theorem w_places : valV (wKV F a b) (.inr ("places" : Str)) = some (.ref b) := rfl
theorem t_prime : valV (tKV F md wd pl m r) (.inr ("prime" : Str)) = some (.int F.p) := rfl
theorem t_modulus : valV (tKV F md wd pl m r) (.inr ("modulus" : Str)) = some (.ref md) := rfl
theorem t_world : valV (tKV F md wd pl m r) (.inr ("world" : Str)) = some (.ref wd) := rfl
theorem t_points : valV (tKV F md wd pl m r) (.inr ("points" : Str)) = some (.ref pl) := rfl
theorem t_many : valV (tKV F md wd pl m r) (.inr ("many" : Str)) = some (.int m) := rfl
theorem t_reach : valV (tKV F md wd pl m r) (.inr ("reach" : Str)) = some (.int r) := rfl
theorem z_w_prime (hv : st[i]? = some (some (.ref d))) (h : H d = some (.dK (wKV F a b))) (q : Q (.int F.p) H) : tDGet (tVar i) (tC (.str "prime")) st H Q := z_dg hv h w_prime q
theorem z_w_turns (hv : st[i]? = some (some (.ref d))) (h : H d = some (.dK (wKV F a b))) (q : Q (.int F.n) H) : tDGet (tVar i) (tC (.str "turns")) st H Q := z_dg hv h w_turns q
theorem z_w_size (hv : st[i]? = some (some (.ref d))) (h : H d = some (.dK (wKV F a b))) (q : Q (.int F.q) H) : tDGet (tVar i) (tC (.str "size")) st H Q := z_dg hv h w_size q
theorem z_w_powers (hv : st[i]? = some (some (.ref d))) (h : H d = some (.dK (wKV F a b))) (q : Q (.ref a) H) : tDGet (tVar i) (tC (.str "powers")) st H Q := z_dg hv h w_powers q
theorem z_w_places (hv : st[i]? = some (some (.ref d))) (h : H d = some (.dK (wKV F a b))) (q : Q (.ref b) H) : tDGet (tVar i) (tC (.str "places")) st H Q := z_dg hv h w_places q
theorem z_t_prime (hv : st[i]? = some (some (.ref d))) (h : H d = some (.dK (tKV F md wd pl m r))) (q : Q (.int F.p) H) : tDGet (tVar i) (tC (.str "prime")) st H Q := z_dg hv h t_prime q
theorem z_t_modulus (hv : st[i]? = some (some (.ref d))) (h : H d = some (.dK (tKV F md wd pl m r))) (q : Q (.ref md) H) : tDGet (tVar i) (tC (.str "modulus")) st H Q := z_dg hv h t_modulus q
theorem z_t_world (hv : st[i]? = some (some (.ref d))) (h : H d = some (.dK (tKV F md wd pl m r))) (q : Q (.ref wd) H) : tDGet (tVar i) (tC (.str "world")) st H Q := z_dg hv h t_world q
theorem z_t_points (hv : st[i]? = some (some (.ref d))) (h : H d = some (.dK (tKV F md wd pl m r))) (q : Q (.ref pl) H) : tDGet (tVar i) (tC (.str "points")) st H Q := z_dg hv h t_points q
theorem z_t_many (hv : st[i]? = some (some (.ref d))) (h : H d = some (.dK (tKV F md wd pl m r))) (q : Q (.int m) H) : tDGet (tVar i) (tC (.str "many")) st H Q := z_dg hv h t_many q
theorem z_t_reach (hv : st[i]? = some (some (.ref d))) (h : H d = some (.dK (tKV F md wd pl m r))) (q : Q (.int r) H) : tDGet (tVar i) (tC (.str "reach")) st H Q := z_dg hv h t_reach q
end
theorem z_disp {trs : List (TE × TE)} {st : L2.St} {H : Hp} {Q : VK} (q : ∀ p, H p = none → tPairs trs st (upd H p (.dK [])) fun ps H2 => H2 p = some (.dK []) ∧ ∃ kvs : List (Key × V), ps = kvs.map (fun kv => (kV kv.1, kv.2)) ∧ kvs.length ≤ 15 ∧ Q (.ref p) (upd H2 p (.dK (mergeK [] kvs)))) : tDisp trs st H Q := q
theorem z_pc {tk tv : TE} {r : List (TE × TE)} {st : L2.St} {H : Hp} {Q : List (V × V) → Hp → Prop} (q : tk st H fun x H1 => tv st H1 fun y H2 => tPairs r st H2 fun ps H3 => Q ((x, y) :: ps) H3) : tPairs ((tk, tv) :: r) st H Q := q
theorem z_pn {st : L2.St} {H : Hp} {Q : List (V × V) → Hp → Prop} (q : Q [] H) : tPairs [] st H Q := q
theorem z_i1 {H : Hp} {Q : VK} {i : Int} (q : Q (.int i) H) : (∃ j, [V.int i] = [.int j] ∧ Q (.int j) H) ∨ ∃ k, [V.int i] = [.bl k] ∧ Q (.int (if k then 1 else 0)) H := .inl ⟨i, rfl, q⟩
theorem i_rng3 {tA : TA} {st : L2.St} {H : Hp} {R : It → Hp → Prop} (q : tA st H fun vs H1 => ∃ (i j c : Int) (n : Nat), vs = [.int i, .int j, .int c] ∧ RgC i j c n ∧ R (Itc i c n) H1) : iRng3 tA st H R := q
end TP
/-! part L1 -/
set_option maxHeartbeats 1000000
namespace TP
open PySem PySem.Spec PyProof.Rows L2
set_option hygiene false in
local macro_rules | `(tactic| walk_at "ne") => `(tactic| first | assumption | exact Ne.symm (by assumption) | exact ne_of_none (H := H) (by assumption) (by assumption) | exact (ne_of_none (H := H) (by assumption) (by assumption)).symm | exact ne_of_none (H := A) (by assumption) (by assumption) | exact (ne_of_none (H := A) (by assumption) (by assumption)).symm)
local macro_rules | `(tactic| walk_at "get") => `(tactic| first | assumption | exact upd_same | (refine upd_at ?_ ?_; (focus walk_at "ne"); (walk_at "get")))
local macro_rules | `(tactic| walk_at "nn") => `(tactic| first | assumption | (refine none_upd ?_ ?_; (focus walk_at "ne"); (walk_at "nn")))
local macro_rules | `(tactic| walk_at "same") => `(tactic| first | exact Same.refl _ | assumption | (refine Same.both ?_; walk_at "same") | (refine TP.Same.new ?_ ?_; (focus walk_at "same"); (walk_at "nn")) | (refine Same.put ?_ ?_; (focus walk_at "same"); (walk_at "get")))
local macro_rules | `(tactic| walk_at "noown") => `(tactic| first | exact NoOwn.none (by assumption) | (refine NoOwn.upd ?_ True.intro; walk_at "noown"))
local macro_rules | `(tactic| walk_at "wl") => `(tactic| first | assumption | (refine Wl.put ?_ ?_ True.intro; (focus walk_at "wl"); (walk_at "noown")))
local macro_rules | `(tactic| walk_at "sq") => `(tactic| first | assumption | exact SqL.of (by walk_at "get"))
set_option hygiene false in
local macro_rules | `(tactic| walk_at "f1") => `(tactic| obtain ⟨_, hp⟩ := upd_none hp)
set_option hygiene false in
local macro_rules | `(tactic| walk_at "f2") => `(tactic| (obtain ⟨_, hp⟩ := upd_none hp; obtain ⟨_, hp⟩ := upd_none hp))
set_option hygiene false in
local macro_rules | `(tactic| walk_at "f3") => `(tactic| (obtain ⟨_, hp⟩ := upd_none hp; obtain ⟨_, hp⟩ := upd_none hp; obtain ⟨_, hp⟩ := upd_none hp))
set_option hygiene false in
local macro_rules | `(tactic| walk_at "f4") => `(tactic| (obtain ⟨_, hp⟩ := upd_none hp; obtain ⟨_, hp⟩ := upd_none hp; obtain ⟨_, hp⟩ := upd_none hp; obtain ⟨_, hp⟩ := upd_none hp))
set_option hygiene false in
local macro_rules | `(tactic| walk_at "fa") => `(tactic| first
  | ((with_reducible refine' z_own_prime T ?hv ?hh ?_); (case hv => exact rfl); (case hh => walk_at "get"))
  | ((with_reducible refine' z_own_turns T ?hv ?hh ?_); (case hv => exact rfl); (case hh => walk_at "get"))
  | ((with_reducible refine' z_own_size T ?hv ?hh ?_); (case hv => exact rfl); (case hh => walk_at "get"))
  | ((with_reducible refine' z_own_powers T ?hv ?hh ?_); (case hv => exact rfl); (case hh => walk_at "get"))
  | ((with_reducible refine' z_own_logs T ?hv ?hh ?_); (case hv => exact rfl); (case hh => walk_at "get"))
  | ((with_reducible refine' z_own_field T ?hv ?hh ?_); (case hv => exact rfl); (case hh => walk_at "get"))
  | ((with_reducible refine' z_own_points T ?hv ?hh ?_); (case hv => exact rfl); (case hh => walk_at "get"))
  | ((with_reducible refine' z_own_many T ?hv ?hh ?_); (case hv => exact rfl); (case hh => walk_at "get")))
local macro_rules | `(tactic| walk_at "z") => `(tactic| first
  | with_reducible refine z_seq ?_
  | with_reducible refine z_asg ?_
  | with_reducible refine z_name ?_
  | ((with_reducible refine' z_var ?hv ?_); (case hv => exact rfl))
  | with_reducible refine z_c ?_
  | with_reducible refine z_op ?_
  | with_reducible refine r_I0 ?_
  | ((with_reducible refine r_I ?hc ?_); (case hc => walk_at "ar"))
  | ((with_reducible refine' r_app ?ha ?hz ?_); (case ha => walk_at "get"); (case hz => walk_at "sz"))
  | ((with_reducible refine' z_tyl ?ha ?_); (case ha => walk_at "get"))
  | with_reducible refine z_cons ?_
  | ((with_reducible refine' r_len ?ha ?_); (case ha => walk_at "sq"))
  | with_reducible refine z_nil ?_
  | walk_at "fa"
  | walk_at "fd"
  | with_reducible refine z_test ?_
  | with_reducible refine z_bl ?_
  | with_reducible refine z_tB ?_
  | with_reducible refine r_eq ?_
  | with_reducible refine r_ne ?_
  | with_reducible refine z_ifS ?_
  | with_reducible refine z_ret ?_
  | with_reducible refine z_drop ?_
  | with_reducible refine z_cb ?_
  | with_reducible refine z_call ?_
  | with_reducible refine z_bm ?_
  | with_reducible refine z_bm0 ?_
  | with_reducible refine z_lst ?_
  | with_reducible refine z_tup ?_
  | with_reducible refine z_un ?_
  | with_reducible refine r_U ?_
  | with_reducible refine z_par ?_
  | with_reducible refine z_par3 ?_
  | with_reducible refine z_two ?_
  | with_reducible refine z_three ?_
  | with_reducible refine z_sub ?_
  | with_reducible refine z_for ?_
  | with_reducible refine z_lc ?_
  | with_reducible refine z_ifE ?_
  | with_reducible refine z_and ?_
  | with_reducible refine z_or ?_
  | with_reducible refine z_not ?_
  | with_reducible refine z_yes ?_
  | with_reducible refine z_andV ?_
  | with_reducible refine z_orV ?_
  | with_reducible refine z_notV ?_
  | with_reducible refine z_sl ?_
  | with_reducible refine z_noP ?_
  | with_reducible refine z_part ?_
  | with_reducible refine z_int ?_
  | with_reducible refine z_revL ?_
  | with_reducible refine z_next ?_
  | with_reducible refine z_sf ?_
  | with_reducible refine z_f ?_
  | with_reducible refine z_tf ?_
  | with_reducible refine z_disp ?_
  | with_reducible refine z_pc ?_
  | with_reducible refine z_pn ?_
  | with_reducible refine z_i1 ?_
  | with_reducible refine i_rng3 ?_
  | with_reducible refine z_chain ?_
  | with_reducible refine z_nT ?_
  | with_reducible refine z_nF ?_
  | with_reducible refine z_sfld ?_
  | with_reducible refine i_rng1 ?_
  | with_reducible refine i_rng2 ?_
  | with_reducible refine i_list ?_
  | with_reducible refine i_zip ?_
  | with_reducible refine i_enum ?_
  | with_reducible refine z_tt ?_
  | with_reducible refine z_ff ?_)
local macro_rules | `(tactic| walk_at "zz") => `(tactic| repeat walk_at "z")
set_option hygiene false in
local macro_rules | `(tactic| walk_at "len") => `(tactic| first | (obtain ⟨rfl, _⟩ := h; rfl) | (obtain ⟨_, rfl, _⟩ := h; rfl) | (obtain ⟨_, _, rfl, _⟩ := h; rfl) | (obtain ⟨_, _, _, rfl, _⟩ := h; rfl) | (obtain ⟨_, _, _, _, rfl, _⟩ := h; rfl) | (obtain ⟨_, _, _, _, _, rfl, _⟩ := h; rfl) | (obtain ⟨_, _, _, _, _, _, rfl, _⟩ := h; rfl) | (obtain ⟨_, _, _, _, _, _, _, rfl, _⟩ := h; rfl) | (obtain ⟨_, _, _, _, _, _, _, _, rfl, _⟩ := h; rfl) | (obtain ⟨_, _, _, _, _, _, _, _, _, rfl, _⟩ := h; rfl) | (obtain ⟨_, _, _, _, _, _, _, _, _, _, rfl, _⟩ := h; rfl) | (obtain ⟨_, _, _, _, _, _, _, _, _, _, _, rfl, _⟩ := h; rfl) | (obtain ⟨_, _, _, _, _, _, _, _, _, _, _, _, rfl, _⟩ := h; rfl) | (obtain ⟨_, _, _, _, _, _, _, _, _, _, _, _, _, rfl, _⟩ := h; rfl) | (obtain ⟨_, _, _, _, _, _, _, _, _, _, _, _, _, _, rfl, _⟩ := h; rfl) | (obtain ⟨_, _, _, _, _, _, _, _, _, _, _, _, _, _, _, rfl, _⟩ := h; rfl) | (obtain ⟨_, _, _, _, _, _, _, _, _, _, _, _, _, _, _, _, rfl, _⟩ := h; rfl))
local macro_rules | `(tactic| walk_at "small") => `(tactic| first | exact Nat.zero_le _ | exact (by decide : 1 ≤ sizeLine) | exact (by decide : 2 ≤ sizeLine) | exact (by decide : 3 ≤ sizeLine) | exact (by decide : 4 ≤ sizeLine) | exact (by decide : 5 ≤ sizeLine) | exact (by decide : 6 ≤ sizeLine))
local macro_rules | `(tactic| walk_at "dn") => `(tactic| dsimp only [cxOf, L2.start, List.map, List.length, List.replicate, List.cons_append, List.nil_append, Nat.reduceAdd, Nat.reduceSub, Nat.zero_add])
local macro_rules | `(tactic| walk_at "ar") => `(tactic| first | assumption | (show _ < _; omega) | (show _ < _ ∧ _ < _; omega) | (left; show _ < _ ∧ _ < _; constructor <;> omega) | (right; show _ < _ ∧ _ < _; constructor <;> omega))
local macro_rules | `(tactic| walk_at "sz") => `(tactic| first | omega | (simp only [vN_len, List.length_append, List.length_cons, List.length_nil, List.length_map, List.length_range, List.length_replicate, List.length_set, List.length_take, List.length_drop, List.length_reverse]; omega))
local macro_rules | `(tactic| walk_at "ds") => `(tactic| try dsimp only [List.set])
set_option hygiene false in
local macro_rules | `(tactic| walk_at "endL") => `(tactic| (refine' ⟨_, ?e1, ?e2, ?e3, k p hp⟩; (case e1 => walk_at "same"); (case e2 => walk_at "wl"); (case e3 => exact Prs.same (by walk_at "same"))))
set_option hygiene false in
local macro_rules | `(tactic| walk_at "endS") => `(tactic| exact ⟨H, by walk_at "same", wl, Prs.refl _, k⟩)
set_option hygiene false in
local macro_rules | `(tactic| walk_at "endQ") => `(tactic| (refine' ⟨_, ?e1, ?e2, ?e3, k q hp⟩; (case e1 => walk_at "same"); (case e2 => walk_at "wl"); (case e3 => exact Prs.same (by walk_at "same"))))
local macro_rules | `(tactic| walk_at "f5") => `(tactic| (walk_at "f1"; walk_at "f4"))
local macro_rules | `(tactic| walk_at "f6") => `(tactic| (walk_at "f2"; walk_at "f4"))
local macro_rules | `(tactic| walk_at "f7") => `(tactic| (walk_at "f3"; walk_at "f4"))
set_option hygiene false in
local macro_rules | `(tactic| walk_at "fd") => `(tactic| first
  | ((with_reducible refine' z_w_prime ?hv ?hh ?_); (case hv => exact rfl); (case hh => assumption))
  | ((with_reducible refine' z_w_turns ?hv ?hh ?_); (case hv => exact rfl); (case hh => assumption))
  | ((with_reducible refine' z_w_size ?hv ?hh ?_); (case hv => exact rfl); (case hh => assumption))
  | ((with_reducible refine' z_w_powers ?hv ?hh ?_); (case hv => exact rfl); (case hh => assumption))
  | ((with_reducible refine' z_w_places ?hv ?hh ?_); (case hv => exact rfl); (case hh => assumption))
  | ((with_reducible refine' z_t_prime ?hv ?hh ?_); (case hv => exact rfl); (case hh => assumption))
  | ((with_reducible refine' z_t_modulus ?hv ?hh ?_); (case hv => exact rfl); (case hh => assumption))
  | ((with_reducible refine' z_t_world ?hv ?hh ?_); (case hv => exact rfl); (case hh => assumption))
  | ((with_reducible refine' z_t_points ?hv ?hh ?_); (case hv => exact rfl); (case hh => assumption))
  | ((with_reducible refine' z_t_many ?hv ?hh ?_); (case hv => exact rfl); (case hh => assumption))
  | ((with_reducible refine' z_t_reach ?hv ?hh ?_); (case hv => exact rfl); (case hh => assumption)))
section
variable {P : Program} {w : World} {K : PySem.W.Frag} {mg : Str → Option Value} {base : Heap}
theorem sc__law_figures : FnScope ["_law_prime", "_law_one", "_law_many", "_law_found", "_law_left", "_law_turn"] ["_law_prime", "_law_one", "_law_many"] (defScope s__law_figures) := ⟨rfl, rfl, rfl, by decide +kernel, rfl, by decide +kernel, by decide +kernel⟩
def sp__law_figures (K : PySem.W.Frag) : Sp := fun vs H Q _ => ∃ (p x n : Nat), vs = [.int p, .int x, .int n] ∧ Wl H ∧ 2 ≤ p ∧ p ≤ 3 ∧ n ≤ 20 ∧ ∀ q, H q = none → Q (.ref q) (upd H q (.lst (vN (digs p n x))))
theorem ok__law_figures (T : Txt K mg) : FnAt P w K mg base 1 "_law_figures" ["_law_prime", "_law_one", "_law_many"] (sp__law_figures K) := by
  refine FnAt.of T 68 66 (d := d__law_figures) (k := 0) rfl rfl rfl rfl rfl sc__law_figures (fun _ _ _ _ _ _ us hl => match us, hl with | [_, _, _], _ => rfl) (fun vs H Q E h => by walk_at "len") (fun f_ cdv A outer s H vs Q E hr h => ?_)
  obtain ⟨p, x, n, rfl, wl, hp0, hp1, hn0, k⟩ := h
  refine ⟨_, (pss_cons (ps_par (i := 3) (j := 4) rfl sc__law_figures.nd rfl rfl (by decide) rfl rfl (pa_cons (pe_lst pa_nil) (pa_cons (pv 1) pa_nil)) (by rfl))
    (pss_cons (ps_for PassesOwn.never rfl (pi_range1 (by rfl) T.n_range (pa_cons (pv 2) pa_nil)) (pg_name (i := 5) sc__law_figures.nd rfl (Or.inl rfl))
      (pss_cons (ps_expr (pe_bm PySem.F.plainAttrs_list PySem.F.slot_list_append PySem.F.type_list_append mt_append (pv 3) (pa_cons (pe_op op_mod (pv 4) (pv 0)) pa_nil)))
    (pss_one (ps_set (i := 4) sc__law_figures.nd rfl (Or.inl rfl) (pe_op op_fdiv (pv 4) (pv 0))))))
    (pss_one (ps_ret (pv 3))))), ?_⟩
  walk_at "dn"
  walk_at "zz"
  refine ⟨by walk_at "small", fun l hp => ?_⟩
  walk_at "zz"
  refine e_rng1 n rfl (by omega) ?_
  walk_at "ds"
  refine lp_of (jw_range (n := n)) (fun i st A => ∃ y, st = [some (.int p), some (.int x), some (.int n), some (.ref l), some (.int ((x / p ^ i : Nat))), y] ∧ A = upd H l (.lst (vN (digs p i x)))) ⟨none, by simp, rfl⟩ (fun _ _ _ _ _ => trivial) ?_ ?_
  · rintro i _ _ hi ⟨y, rfl, rfl⟩
    walk_at "ds"
    have hl := digs_len p i x
    walk_at "zz"
    refine' ⟨_, ?e1, ?e2⟩
    case e1 =>
      rw [Nat.pow_succ, ← Nat.div_div_eq_div_mul]
      rfl
    case e2 =>
      rw [upd_put, digs_snoc, vN_app]
      rfl
  · rintro _ _ ⟨y, rfl, rfl⟩
    walk_at "zz"
    exact ⟨_, Same.refl _, by walk_at "wl", Prs.same (by walk_at "same"), k l hp⟩
theorem sc__law_number : FnScope ["_law_prime", "_law_figures_here", "_law_found", "_law_figure"] ["_law_prime", "_law_figures_here"] (defScope s__law_number) := ⟨rfl, rfl, rfl, by decide +kernel, rfl, by decide +kernel, by decide +kernel⟩
def sp__law_number (K : PySem.W.Frag) : Sp := fun vs H Q _ => ∃ (p : Nat) (r : Addr) (ds : List Nat), vs = [.int p, .ref r] ∧ Wl H ∧ p ≤ 3 ∧ H r = some (.lst (vN ds)) ∧ Q (.int (num p ds)) H
theorem ok__law_number (T : Txt K mg) : FnAt P w K mg base 1 "_law_number" ["_law_prime", "_law_figures_here"] (sp__law_number K) := by
  refine FnAt.of T 69 67 (d := d__law_number) (k := 0) rfl rfl rfl rfl rfl sc__law_number (fun _ _ _ _ _ _ us hl => match us, hl with | [_, _], _ => rfl) (fun vs H Q E h => by walk_at "len") (fun f_ cdv A outer s H vs Q E hr h => ?_)
  obtain ⟨p, r, ds, rfl, wl, hp0, hr0, k⟩ := h
  refine ⟨_, (pss_cons (ps_set (i := 2) sc__law_number.nd rfl (Or.inl rfl) pe_int)
    (pss_cons (ps_for PassesOwn.never rfl (pi_list (pe_revL (pv 1))) (pg_name (i := 3) sc__law_number.nd rfl (Or.inl rfl))
      (pss_one (ps_set (i := 2) sc__law_number.nd rfl (Or.inl rfl) (pe_op op_add (pe_op op_mul (pv 2) (pv 0)) (pv 3)))))
    (pss_one (ps_ret (pv 2))))), ?_⟩
  walk_at "dn"
  walk_at "zz"
  refine ⟨r, _, rfl, SqL.of hr0, fun l hp => ?_⟩
  walk_at "zz"
  refine e_list (xs := vN ds.reverse) (by rw [← vN_rev]; walk_at "sq") ?_
  walk_at "ds"
  refine lp_of (jw_list (xs := vN ds.reverse) (n := ds.length) (by rw [vN_len, List.length_reverse])) (fun i st A => ∃ y, st = [some (.int p), some (.ref r), some (.int (((ds.reverse.take i).foldl (fun a d => a * p + d) 0 : Nat))), y] ∧ A = upd H l (.lst (vN ds.reverse))) ⟨none, by simp, by rw [vN_rev]⟩
    (fun i st A _ h => by obtain ⟨_, _, rfl⟩ := h; exact SqL.of upd_same) ?_ ?_
  · rintro i _ _ hi ⟨y, rfl, rfl⟩
    have hi2 : i < ds.reverse.length := by rw [List.length_reverse]; exact hi
    rw [vN_getD hi2]
    walk_at "ds"
    walk_at "zz"
    refine' ⟨_, ?e1, rfl⟩
    case e1 =>
      rw [List.take_add_one, List.getElem?_eq_getElem hi2, Option.toList_some, List.foldl_append, List.getD_eq_getElem?_getD, List.getElem?_eq_getElem hi2]
      rfl
  · rintro _ _ ⟨y, rfl, rfl⟩
    walk_at "zz"
    rw [List.take_of_length_le (by rw [List.length_reverse]; exact Nat.le_refl _), ← num_rev]
    walk_at "endS"
theorem sc__law_times : FnScope ["_law_world_here", "_law_one", "_law_other"] ["_law_world_here", "_law_one", "_law_other"] (defScope s__law_times) := ⟨rfl, rfl, rfl, by decide +kernel, rfl, by decide +kernel, by decide +kernel⟩
def sp__law_times (K : PySem.W.Frag) : Sp := fun vs H Q _ => ∃ (d : Addr) (F : Fd) (x y : Nat), vs = [.ref d, .int x, .int y] ∧ Wl H ∧ WorldAt H d F ∧ FOK F ∧ x < F.q ∧ y < F.q ∧ Q (.int (mulF F x y)) H
theorem ok__law_times (T : Txt K mg) : FnAt P w K mg base 1 "_law_times" ["_law_world_here", "_law_one", "_law_other"] (sp__law_times K) := by
  refine FnAt.of T 73 71 (d := d__law_times) (k := 0) rfl rfl rfl rfl rfl sc__law_times (fun _ _ _ _ _ _ us hl => match us, hl with | [_, _, _], _ => rfl) (fun vs H Q E h => by walk_at "len") (fun f_ cdv A outer s H vs Q E hr h => ?_)
  obtain ⟨d, F, x, y, rfl, wl, hW, ok, hx, hy, k⟩ := h
  have hq := ok.q
  have hlg := ok.lgl
  refine ⟨_, (pss_cons (ps_if (PW.pt (pw_or (pt_cmpR op_eq (pv 1) pe_int (nomark _)) (pw_or1 (pt_cmpR op_eq (pv 2) pe_int (nomark _))))) (pss_one (ps_ret pe_int)) pss_nil)
    (pss_one (ps_ret (pe_ix (ix_listK (K := K) rfl) (pe_dget (hu_of hr) (pv 0) pe_str (fun _ _ => rfl)) (pe_op op_mod (pe_op op_add (pe_ix (ix_listK (K := K) rfl) (pe_dget (hu_of hr) (pv 0) pe_str (fun _ _ => rfl)) (pv 1) (fun _ _ => rfl)) (pe_ix (ix_listK (K := K) rfl) (pe_dget (hu_of hr) (pv 0) pe_str (fun _ _ => rfl)) (pv 2) (fun _ _ => rfl))) (pe_op op_sub (pe_dget (hu_of hr) (pv 0) pe_str (fun _ _ => rfl)) pe_int)) (fun _ _ => rfl))))), ?_⟩
  obtain ⟨a, b, h1, h2, h3⟩ := hW.ex
  walk_at "dn"
  walk_at "zz"
  refine z_dec (fun hx0 => ?_) (fun hx0 => ?_)
  · walk_at "zz"
    refine ⟨H, Same.refl _, wl, Prs.refl _, ?_⟩
    have e : mulF F x y = 0 := if_pos (.inl (by omega))
    rw [e] at k
    exact k
  walk_at "zz"
  refine z_dec (fun hy0 => ?_) (fun hy0 => ?_)
  · walk_at "zz"
    refine ⟨H, Same.refl _, wl, Prs.refl _, ?_⟩
    have e : mulF F x y = 0 := if_pos (.inr (by omega))
    rw [e] at k
    exact k
  walk_at "zz"
  refine r_ixL (SqL.of h3) (atN (by omega)) ?_
  walk_at "zz"
  refine r_ixL (SqL.of h3) (atN (by omega)) ?_
  walk_at "zz"
  have e0 : ((F.q : Int) - 1) = ((F.q - 1 : Nat) : Int) := by omega
  rw [e0]
  refine r_ixL (SqL.of h2) (atP ok (x := (F.L x + F.L y) % (F.q - 1)) (Nat.mod_lt _ (by omega))) ?_
  refine ⟨H, Same.refl _, wl, Prs.refl _, ?_⟩
  have e : mulF F x y = F.P ((F.L x + F.L y) % (F.q - 1)) := if_neg (by omega)
  rw [e] at k
  exact k
theorem sc__law_plus : FnScope ["_law_world_here", "_law_one", "_law_other", "_law_number_here", "_law_prime", "_law_many", "_law_near", "_law_far", "_law_left", "_law_right_here"] ["_law_world_here", "_law_one", "_law_other", "_law_number_here"] (defScope s__law_plus) := ⟨rfl, rfl, rfl, by decide +kernel, rfl, by decide +kernel, by decide +kernel⟩
def sp__law_plus (K : PySem.W.Frag) : Sp := fun vs H Q _ => ∃ (d : Addr) (F : Fd) (x y c : Nat), vs = [.ref d, .int x, .int y, .int c] ∧ Wl H ∧ WorldAt H d F ∧ FOK F ∧ c ≤ 10 ∧ Q (.int (lplus F x y c)) H
theorem ok__law_plus (T : Txt K mg) : FnAt P w K mg base 2 "_law_plus" ["_law_world_here", "_law_one", "_law_other", "_law_number_here"] (sp__law_plus K) := by
  refine FnAt.of T 74 72 (d := d__law_plus) (k := 1) rfl rfl rfl rfl rfl sc__law_plus (fun _ _ _ _ _ _ us hl => match us, hl with | [_, _, _, _], _ => rfl) (fun vs H Q E h => by walk_at "len") (fun f_ cdv A outer s H vs Q E hr h => ?_)
  obtain ⟨d, F, x, y, c, rfl, wl, hW, ok, hc, k⟩ := h
  have hp0 := ok.p
  have hn0 := ok.n
  refine ⟨_, (pss_cons (ps_f (ps_asg (pe_tup (pa_cons (pe_dget (hu_of hr) (pv 0) pe_str (fun _ _ => rfl)) (pa_cons (pe_dget (hu_of hr) (pv 0) pe_str (fun _ _ => rfl)) pa_nil))) (pg_tup (n := 2) rfl (pgs_cons (pg_name (i := 4) sc__law_plus.nd rfl (Or.inr rfl)) (pgs_cons (pg_name (i := 5) sc__law_plus.nd rfl (Or.inl rfl)) pgs_nil)))))
    (pss_cons (ps_par (i := 6) (j := 7) rfl sc__law_plus.nd rfl rfl (by decide) rfl rfl (pa_cons (pe_callF (ok__law_figures T) (by decide) hr (by rfl) (pa_cons (pv 4) (pa_cons (pv 1) (pa_cons (pv 5) pa_nil)))) (pa_cons (pe_callF (ok__law_figures T) (by decide) hr (by rfl) (pa_cons (pv 4) (pa_cons (pv 2) (pa_cons (pv 5) pa_nil)))) pa_nil)) (by rfl))
    (pss_one (ps_ret (pe_callF (ok__law_number T) (by decide) hr (by rfl) (pa_cons (pv 4) (pa_cons (pe_lc (own := [("_law_left", 8), ("_law_right_here", 9)]) rfl sc__law_plus.nd (pi_D (pi_zip (by rfl) T.n_zip (pa_cons (pv 6) (pa_cons (pv 7) pa_nil)))) (blkOk_by (N := ["_law_world_here", "_law_one", "_law_other", "_law_number_here", "_law_prime", "_law_many", "_law_near", "_law_far", "_law_left", "_law_right_here"]) (sc := (defScope s__law_plus)) (own := [("_law_left", 8), ("_law_right_here", 9)]) (by decide +kernel)) (fun _ _ _ _ _ => (pg_tupD (n := 2) rfl (pgs_cons (pg_name (i := 8) sc__law_plus.nd rfl (Or.inl rfl)) (pgs_cons (pg_name (i := 9) sc__law_plus.nd rfl (Or.inl rfl)) pgs_nil)))) (fun _ _ _ _ _ => pts_nil) (fun _ _ _ _ _ => (pe_op op_mod (pe_op op_add (pv 8) (pe_op op_mul (pv 3) (pv 9))) (pv 4)))) pa_nil))))))), ?_⟩
  obtain ⟨a, b, h1, h2, h3⟩ := hW.ex
  walk_at "dn"
  walk_at "zz"
  refine ⟨by walk_at "small", fun p1 hp1 => ?_⟩
  refine z_gt2 (SqT.of upd_same) ?_
  refine ⟨H, Same.new (Same.refl _) hp1, wl, Prs.refl _, ?_⟩
  walk_at "ds"
  walk_at "zz"
  refine ⟨F.p, x, F.n, rfl, wl, hp0.1, hp0.2, by omega, fun l1 hp => ?_⟩
  walk_at "zz"
  refine ⟨F.p, y, F.n, rfl, by walk_at "wl", hp0.1, hp0.2, by omega, fun l2 hp => ?_⟩
  have hp2 := (upd_none hp).1
  walk_at "f1"
  walk_at "zz"
  refine e_zip (xs := vN (digs F.p F.n x)) (ys := vN (digs F.p F.n y)) (by walk_at "sq") (by walk_at "sq") ?_
  walk_at "ds"
  refine lcl_all (jw_zip (xs := vN (digs F.p F.n x)) (ys := vN (digs F.p F.n y)) (n := F.n) (by rw [vN_len, vN_len, digs_len, digs_len]; omega)) (fun i => .int ((((digs F.p F.n x).getD i 0 + c * (digs F.p F.n y).getD i 0) % F.p : Nat))) (by omega) (fun D acc hp => ?_) (fun i _ => rfl) (fun D acc i hp hi R r => ?_) (fun D hp => ?_)
  · walk_at "f2"
    exact ⟨by walk_at "sq", by walk_at "sq", by walk_at "wl"⟩
  · walk_at "f2"
    rw [vN_getD (by rw [digs_len]; exact hi), vN_getD (by rw [digs_len]; exact hi)]
    walk_at "ds"
    walk_at "zz"
    exact r
  · walk_at "f2"
    walk_at "zz"
    rw [zw_range (fun s t => (s + c * t) % F.p) (digs_len ..) (digs_len ..)]
    refine ⟨F.p, D, _, rfl, by walk_at "wl", hp0.2, upd_same, ?_⟩
    exact ⟨H, by walk_at "same", wl, Prs.refl _, k⟩
theorem sc__law_turned : FnScope ["_law_world_here", "_law_one", "_law_many", "_law_factor", "_law_turn"] ["_law_world_here", "_law_one", "_law_many"] (defScope s__law_turned) := ⟨rfl, rfl, rfl, by decide +kernel, rfl, by decide +kernel, by decide +kernel⟩
def sp__law_turned (K : PySem.W.Frag) : Sp := fun vs H Q _ => ∃ (d : Addr) (F : Fd) (x c : Nat), vs = [.ref d, .int x, .int c] ∧ Wl H ∧ WorldAt H d F ∧ FOK F ∧ x < F.q ∧ Q (.int (tn F c x)) H
theorem ok__law_turned (T : Txt K mg) : FnAt P w K mg base 1 "_law_turned" ["_law_world_here", "_law_one", "_law_many"] (sp__law_turned K) := by
  refine FnAt.of T 75 73 (d := d__law_turned) (k := 0) rfl rfl rfl rfl rfl sc__law_turned (fun _ _ _ _ _ _ us hl => match us, hl with | [_, _, _], _ => rfl) (fun vs H Q E h => by walk_at "len") (fun f_ cdv A outer s H vs Q E hr h => ?_)
  obtain ⟨d, F, x, c, rfl, wl, hW, ok, hx, k⟩ := h
  have hp0 := ok.p
  have hn0 := ok.n
  have hq := ok.q
  have hlg := ok.lgl
  rw [← lturn_eq ok c hx] at k
  refine ⟨_, (pss_cons (ps_if (pt_cmpR op_eq (pv 1) pe_int (nomark _)) (pss_one (ps_ret pe_int)) pss_nil)
    (pss_cons (ps_set (i := 3) sc__law_turned.nd rfl (Or.inl rfl) pe_int)
    (pss_cons (ps_for PassesOwn.never rfl (pi_range1 (by rfl) T.n_range (pa_cons (pe_op op_mod (pv 2) (pe_dget (hu_of hr) (pv 0) pe_str (fun _ _ => rfl))) pa_nil)) (pg_name (i := 4) sc__law_turned.nd rfl (Or.inl rfl))
      (pss_one (ps_set (i := 3) sc__law_turned.nd rfl (Or.inl rfl) (pe_op op_mul (pv 3) (pe_dget (hu_of hr) (pv 0) pe_str (fun _ _ => rfl))))))
    (pss_one (ps_ret (pe_ix (ix_listK (K := K) rfl) (pe_dget (hu_of hr) (pv 0) pe_str (fun _ _ => rfl)) (pe_op op_mod (pe_op op_mul (pe_ix (ix_listK (K := K) rfl) (pe_dget (hu_of hr) (pv 0) pe_str (fun _ _ => rfl)) (pv 1) (fun _ _ => rfl)) (pv 3)) (pe_op op_sub (pe_dget (hu_of hr) (pv 0) pe_str (fun _ _ => rfl)) pe_int)) (fun _ _ => rfl))))))), ?_⟩
  obtain ⟨a, b, h1, h2, h3⟩ := hW.ex
  walk_at "dn"
  walk_at "zz"
  refine z_dec (fun hx0 => ?_) (fun hx0 => ?_)
  · walk_at "zz"
    refine ⟨H, Same.refl _, wl, Prs.refl _, ?_⟩
    have e : lturn F c x = 0 := if_pos (by omega)
    rw [e] at k
    exact k
  walk_at "zz"
  refine e_rng1 (c % F.n) rfl (by have := Nat.mod_lt c (show 0 < F.n by omega); omega) ?_
  walk_at "ds"
  refine lp_of (jw_range (n := c % F.n)) (fun i st A => ∃ y, st = [some (.ref d), some (.int x), some (.int c), some (.int ((F.p ^ i : Nat))), y] ∧ H = A) ⟨none, rfl, rfl⟩ (fun _ _ _ _ _ => trivial) ?_ ?_
  · rintro i _ _ hi ⟨y, rfl, rfl⟩
    walk_at "ds"
    walk_at "zz"
    exact ⟨_, rfl, rfl⟩
  · rintro _ _ ⟨y, rfl, rfl⟩
    walk_at "zz"
    refine r_ixL (SqL.of h3) (atN (by omega)) ?_
    have hL := ok.L x hx
    have hlx : F.lg.getD x 0 < 32 := by have : F.L x = F.lg.getD x 0 := rfl; omega
    walk_at "zz"
    have e0 : ((F.q : Int) - 1) = ((F.q - 1 : Nat) : Int) := by omega
    rw [e0]
    refine r_ixL (SqL.of h2) (atP ok (x := (F.L x * F.p ^ (c % F.n)) % (F.q - 1)) (Nat.mod_lt _ (by omega))) ?_
    refine ⟨H, Same.refl _, wl, Prs.refl _, ?_⟩
    have e : lturn F c x = F.P (F.L x * F.p ^ (c % F.n) % (F.q - 1)) := if_neg (by omega)
    rw [e] at k
    exact k
end
end TP
/-! part L2 -/
set_option maxHeartbeats 1000000
namespace TP
open PySem PySem.Spec PyProof.Rows L2
set_option hygiene false in
local macro_rules | `(tactic| walk_at "ne") => `(tactic| first | assumption | exact Ne.symm (by assumption) | exact ne_of_none (H := H) (by assumption) (by assumption) | exact (ne_of_none (H := H) (by assumption) (by assumption)).symm | exact ne_of_none (H := A) (by assumption) (by assumption) | exact (ne_of_none (H := A) (by assumption) (by assumption)).symm)
local macro_rules | `(tactic| walk_at "get") => `(tactic| first | assumption | exact upd_same | (refine upd_at ?_ ?_; (focus walk_at "ne"); (walk_at "get")))
local macro_rules | `(tactic| walk_at "nn") => `(tactic| first | assumption | (refine none_upd ?_ ?_; (focus walk_at "ne"); (walk_at "nn")))
local macro_rules | `(tactic| walk_at "same") => `(tactic| first | exact Same.refl _ | assumption | (refine Same.both ?_; walk_at "same") | (refine TP.Same.new ?_ ?_; (focus walk_at "same"); (walk_at "nn")) | (refine Same.put ?_ ?_; (focus walk_at "same"); (walk_at "get")))
local macro_rules | `(tactic| walk_at "noown") => `(tactic| first | exact NoOwn.none (by assumption) | (refine NoOwn.upd ?_ True.intro; walk_at "noown"))
local macro_rules | `(tactic| walk_at "wl") => `(tactic| first | assumption | (refine Wl.put ?_ ?_ True.intro; (focus walk_at "wl"); (walk_at "noown")))
local macro_rules | `(tactic| walk_at "sq") => `(tactic| first | assumption | exact SqL.of (by walk_at "get"))
set_option hygiene false in
local macro_rules | `(tactic| walk_at "f1") => `(tactic| obtain ⟨_, hp⟩ := upd_none hp)
set_option hygiene false in
local macro_rules | `(tactic| walk_at "f2") => `(tactic| (obtain ⟨_, hp⟩ := upd_none hp; obtain ⟨_, hp⟩ := upd_none hp))
set_option hygiene false in
local macro_rules | `(tactic| walk_at "f3") => `(tactic| (obtain ⟨_, hp⟩ := upd_none hp; obtain ⟨_, hp⟩ := upd_none hp; obtain ⟨_, hp⟩ := upd_none hp))
set_option hygiene false in
local macro_rules | `(tactic| walk_at "f4") => `(tactic| (obtain ⟨_, hp⟩ := upd_none hp; obtain ⟨_, hp⟩ := upd_none hp; obtain ⟨_, hp⟩ := upd_none hp; obtain ⟨_, hp⟩ := upd_none hp))
set_option hygiene false in
local macro_rules | `(tactic| walk_at "fa") => `(tactic| first
  | ((with_reducible refine' z_own_prime T ?hv ?hh ?_); (case hv => exact rfl); (case hh => walk_at "get"))
  | ((with_reducible refine' z_own_turns T ?hv ?hh ?_); (case hv => exact rfl); (case hh => walk_at "get"))
  | ((with_reducible refine' z_own_size T ?hv ?hh ?_); (case hv => exact rfl); (case hh => walk_at "get"))
  | ((with_reducible refine' z_own_powers T ?hv ?hh ?_); (case hv => exact rfl); (case hh => walk_at "get"))
  | ((with_reducible refine' z_own_logs T ?hv ?hh ?_); (case hv => exact rfl); (case hh => walk_at "get"))
  | ((with_reducible refine' z_own_field T ?hv ?hh ?_); (case hv => exact rfl); (case hh => walk_at "get"))
  | ((with_reducible refine' z_own_points T ?hv ?hh ?_); (case hv => exact rfl); (case hh => walk_at "get"))
  | ((with_reducible refine' z_own_many T ?hv ?hh ?_); (case hv => exact rfl); (case hh => walk_at "get")))
local macro_rules | `(tactic| walk_at "z") => `(tactic| first
  | with_reducible refine z_seq ?_
  | with_reducible refine z_asg ?_
  | with_reducible refine z_name ?_
  | ((with_reducible refine' z_var ?hv ?_); (case hv => exact rfl))
  | with_reducible refine z_c ?_
  | with_reducible refine z_op ?_
  | with_reducible refine r_I0 ?_
  | ((with_reducible refine r_I ?hc ?_); (case hc => walk_at "ar"))
  | ((with_reducible refine' r_app ?ha ?hz ?_); (case ha => walk_at "get"); (case hz => walk_at "sz"))
  | ((with_reducible refine' z_tyl ?ha ?_); (case ha => walk_at "get"))
  | with_reducible refine z_cons ?_
  | ((with_reducible refine' r_len ?ha ?_); (case ha => walk_at "sq"))
  | with_reducible refine z_nil ?_
  | walk_at "fa"
  | walk_at "fd"
  | with_reducible refine z_test ?_
  | with_reducible refine z_bl ?_
  | with_reducible refine z_tB ?_
  | with_reducible refine r_eq ?_
  | with_reducible refine r_ne ?_
  | with_reducible refine z_ifS ?_
  | with_reducible refine z_ret ?_
  | with_reducible refine z_drop ?_
  | with_reducible refine z_cb ?_
  | with_reducible refine z_call ?_
  | with_reducible refine z_bm ?_
  | with_reducible refine z_bm0 ?_
  | with_reducible refine z_lst ?_
  | with_reducible refine z_tup ?_
  | with_reducible refine z_un ?_
  | with_reducible refine r_U ?_
  | with_reducible refine z_par ?_
  | with_reducible refine z_par3 ?_
  | with_reducible refine z_two ?_
  | with_reducible refine z_three ?_
  | with_reducible refine z_sub ?_
  | with_reducible refine z_for ?_
  | with_reducible refine z_lc ?_
  | with_reducible refine z_ifE ?_
  | with_reducible refine z_and ?_
  | with_reducible refine z_or ?_
  | with_reducible refine z_not ?_
  | with_reducible refine z_yes ?_
  | with_reducible refine z_andV ?_
  | with_reducible refine z_orV ?_
  | with_reducible refine z_notV ?_
  | with_reducible refine z_sl ?_
  | with_reducible refine z_noP ?_
  | with_reducible refine z_part ?_
  | with_reducible refine z_int ?_
  | with_reducible refine z_revL ?_
  | with_reducible refine z_next ?_
  | with_reducible refine z_sf ?_
  | with_reducible refine z_f ?_
  | with_reducible refine z_tf ?_
  | with_reducible refine z_disp ?_
  | with_reducible refine z_pc ?_
  | with_reducible refine z_pn ?_
  | with_reducible refine z_i1 ?_
  | with_reducible refine i_rng3 ?_
  | with_reducible refine z_chain ?_
  | with_reducible refine z_nT ?_
  | with_reducible refine z_nF ?_
  | with_reducible refine z_sfld ?_
  | with_reducible refine i_rng1 ?_
  | with_reducible refine i_rng2 ?_
  | with_reducible refine i_list ?_
  | with_reducible refine i_zip ?_
  | with_reducible refine i_enum ?_
  | with_reducible refine z_tt ?_
  | with_reducible refine z_ff ?_)
local macro_rules | `(tactic| walk_at "zz") => `(tactic| repeat walk_at "z")
set_option hygiene false in
local macro_rules | `(tactic| walk_at "len") => `(tactic| first | (obtain ⟨rfl, _⟩ := h; rfl) | (obtain ⟨_, rfl, _⟩ := h; rfl) | (obtain ⟨_, _, rfl, _⟩ := h; rfl) | (obtain ⟨_, _, _, rfl, _⟩ := h; rfl) | (obtain ⟨_, _, _, _, rfl, _⟩ := h; rfl) | (obtain ⟨_, _, _, _, _, rfl, _⟩ := h; rfl) | (obtain ⟨_, _, _, _, _, _, rfl, _⟩ := h; rfl) | (obtain ⟨_, _, _, _, _, _, _, rfl, _⟩ := h; rfl) | (obtain ⟨_, _, _, _, _, _, _, _, rfl, _⟩ := h; rfl) | (obtain ⟨_, _, _, _, _, _, _, _, _, rfl, _⟩ := h; rfl) | (obtain ⟨_, _, _, _, _, _, _, _, _, _, rfl, _⟩ := h; rfl) | (obtain ⟨_, _, _, _, _, _, _, _, _, _, _, rfl, _⟩ := h; rfl) | (obtain ⟨_, _, _, _, _, _, _, _, _, _, _, _, rfl, _⟩ := h; rfl) | (obtain ⟨_, _, _, _, _, _, _, _, _, _, _, _, _, rfl, _⟩ := h; rfl) | (obtain ⟨_, _, _, _, _, _, _, _, _, _, _, _, _, _, rfl, _⟩ := h; rfl) | (obtain ⟨_, _, _, _, _, _, _, _, _, _, _, _, _, _, _, rfl, _⟩ := h; rfl) | (obtain ⟨_, _, _, _, _, _, _, _, _, _, _, _, _, _, _, _, rfl, _⟩ := h; rfl))
local macro_rules | `(tactic| walk_at "small") => `(tactic| first | exact Nat.zero_le _ | exact (by decide : 1 ≤ sizeLine) | exact (by decide : 2 ≤ sizeLine) | exact (by decide : 3 ≤ sizeLine) | exact (by decide : 4 ≤ sizeLine) | exact (by decide : 5 ≤ sizeLine) | exact (by decide : 6 ≤ sizeLine))
local macro_rules | `(tactic| walk_at "dn") => `(tactic| dsimp only [cxOf, L2.start, List.map, List.length, List.replicate, List.cons_append, List.nil_append, Nat.reduceAdd, Nat.reduceSub, Nat.zero_add])
local macro_rules | `(tactic| walk_at "ar") => `(tactic| first | assumption | (show _ < _; omega) | (show _ < _ ∧ _ < _; omega) | (left; show _ < _ ∧ _ < _; constructor <;> omega) | (right; show _ < _ ∧ _ < _; constructor <;> omega))
local macro_rules | `(tactic| walk_at "sz") => `(tactic| first | omega | (simp only [vN_len, List.length_append, List.length_cons, List.length_nil, List.length_map, List.length_range, List.length_replicate, List.length_set, List.length_take, List.length_drop, List.length_reverse]; omega))
local macro_rules | `(tactic| walk_at "ds") => `(tactic| try dsimp only [List.set])
set_option hygiene false in
local macro_rules | `(tactic| walk_at "endL") => `(tactic| (refine' ⟨_, ?e1, ?e2, ?e3, k p hp⟩; (case e1 => walk_at "same"); (case e2 => walk_at "wl"); (case e3 => exact Prs.same (by walk_at "same"))))
set_option hygiene false in
local macro_rules | `(tactic| walk_at "endS") => `(tactic| exact ⟨H, by walk_at "same", wl, Prs.refl _, k⟩)
set_option hygiene false in
local macro_rules | `(tactic| walk_at "endQ") => `(tactic| (refine' ⟨_, ?e1, ?e2, ?e3, k q hp⟩; (case e1 => walk_at "same"); (case e2 => walk_at "wl"); (case e3 => exact Prs.same (by walk_at "same"))))
local macro_rules | `(tactic| walk_at "f5") => `(tactic| (walk_at "f1"; walk_at "f4"))
local macro_rules | `(tactic| walk_at "f6") => `(tactic| (walk_at "f2"; walk_at "f4"))
local macro_rules | `(tactic| walk_at "f7") => `(tactic| (walk_at "f3"; walk_at "f4"))
set_option hygiene false in
local macro_rules | `(tactic| walk_at "fd") => `(tactic| first
  | ((with_reducible refine' z_w_prime ?hv ?hh ?_); (case hv => exact rfl); (case hh => assumption))
  | ((with_reducible refine' z_w_turns ?hv ?hh ?_); (case hv => exact rfl); (case hh => assumption))
  | ((with_reducible refine' z_w_size ?hv ?hh ?_); (case hv => exact rfl); (case hh => assumption))
  | ((with_reducible refine' z_w_powers ?hv ?hh ?_); (case hv => exact rfl); (case hh => assumption))
  | ((with_reducible refine' z_w_places ?hv ?hh ?_); (case hv => exact rfl); (case hh => assumption))
  | ((with_reducible refine' z_t_prime ?hv ?hh ?_); (case hv => exact rfl); (case hh => assumption))
  | ((with_reducible refine' z_t_modulus ?hv ?hh ?_); (case hv => exact rfl); (case hh => assumption))
  | ((with_reducible refine' z_t_world ?hv ?hh ?_); (case hv => exact rfl); (case hh => assumption))
  | ((with_reducible refine' z_t_points ?hv ?hh ?_); (case hv => exact rfl); (case hh => assumption))
  | ((with_reducible refine' z_t_many ?hv ?hh ?_); (case hv => exact rfl); (case hh => assumption))
  | ((with_reducible refine' z_t_reach ?hv ?hh ?_); (case hv => exact rfl); (case hh => assumption)))
section
variable {P : Program} {w : World} {K : PySem.W.Frag} {mg : Str → Option Value} {base : Heap}
theorem sc__law_worth : FnScope ["_law_world_here", "_law_turner", "_law_one", "_law_found", "_law_at", "_law_number_here"] ["_law_world_here", "_law_turner", "_law_one"] (defScope s__law_worth) := ⟨rfl, rfl, rfl, by decide +kernel, rfl, by decide +kernel, by decide +kernel⟩
def sp__law_worth (K : PySem.W.Frag) : Sp := fun vs H Q _ => ∃ (d a : Addr) (F : Fd) (ns : List Nat) (x : Nat), vs = [.ref d, .ref a, .int x] ∧ Wl H ∧ WorldAt H d F ∧ FOK F ∧ H a = some (.lst (vN ns)) ∧ El F ns ∧ x < F.q ∧ Q (.int (worF F ns x)) H
theorem ok__law_worth (T : Txt K mg) : FnAt P w K mg base 3 "_law_worth" ["_law_world_here", "_law_turner", "_law_one"] (sp__law_worth K) := by
  refine FnAt.of T 76 74 (d := d__law_worth) (k := 2) rfl rfl rfl rfl rfl sc__law_worth (fun _ _ _ _ _ _ us hl => match us, hl with | [_, _, _], _ => rfl) (fun vs H Q E h => by walk_at "len") (fun f_ cdv A outer s H vs Q E hr h => ?_)
  obtain ⟨d, a, F, ns, x, rfl, wl, hW, ok, ha, hb, hx, k⟩ := h
  refine ⟨_, (pss_cons (ps_set (i := 3) sc__law_worth.nd rfl (Or.inl rfl) pe_int)
    (pss_cons (ps_for PassesOwn.never rfl (pi_D (pi_enum (by rfl) T.n_enumerate (pa_cons (pv 1) pa_nil))) (pg_tupD (n := 2) rfl (pgs_cons (pg_name (i := 4) sc__law_worth.nd rfl (Or.inl rfl)) (pgs_cons (pg_name (i := 5) sc__law_worth.nd rfl (Or.inl rfl)) pgs_nil)))
      (pss_one (ps_set (i := 3) sc__law_worth.nd rfl (Or.inl rfl) (pe_callF (ok__law_plus T) (by decide) hr (by rfl) (pa_cons (pv 0) (pa_cons (pv 3) (pa_cons (pe_callF (ok__law_times T) (by decide) hr (by rfl) (pa_cons (pv 0) (pa_cons (pv 5) (pa_cons (pe_callF (ok__law_turned T) (by decide) hr (by rfl) (pa_cons (pv 0) (pa_cons (pv 2) (pa_cons (pv 4) pa_nil)))) pa_nil)))) (pa_cons pe_int pa_nil))))))))
    (pss_one (ps_ret (pv 3))))), ?_⟩
  walk_at "dn"
  walk_at "zz"
  refine e_enum (SqL.of ha) ?_
  walk_at "ds"
  refine lp_of (jw_enum (n := ns.length) (vN_len ns)) (fun i st A => ∃ y1 y2, st = [some (.ref d), some (.ref a), some (.int x), some (.int (worN F ns x i : Nat)), y1, y2] ∧ H = A) ⟨_, _, rfl, rfl⟩ (fun i st A _ h => ?_) ?_ ?_
  · obtain ⟨_, _, _, rfl⟩ := h
    exact ⟨by walk_at "sq", wl⟩
  · rintro i _ _ hi ⟨y1, y2, rfl, rfl⟩
    rw [vN_getD hi]
    walk_at "ds"
    walk_at "zz"
    refine ⟨d, F, x, i, rfl, wl, hW, ok, hx, ?_⟩
    walk_at "zz"
    refine ⟨d, F, _, _, rfl, wl, hW, ok, hb.at hi, tn_lt ok hx _, ?_⟩
    walk_at "zz"
    refine ⟨d, F, _, _, 1, rfl, wl, hW, ok, by omega, ?_⟩
    rw [lplus_add ok _ (worN_lt ok _ _ _) _ (mulF_lt ok _ _)]
    walk_at "zz"
    exact ⟨_, _, rfl, rfl⟩
  · rintro _ _ ⟨y1, y2, rfl, rfl⟩
    walk_at "zz"
    walk_at "endS"
theorem sc__law_word : FnScope ["_law_world_here", "_law_turner", "_law_points", "_law_one"] ["_law_world_here", "_law_turner", "_law_points"] (defScope s__law_word) := ⟨rfl, rfl, rfl, by decide +kernel, rfl, by decide +kernel, by decide +kernel⟩
def sp__law_word (K : PySem.W.Frag) : Sp := fun vs H Q _ => ∃ (d a b : Addr) (F : Fd) (ns ps : List Nat), vs = [.ref d, .ref a, .ref b] ∧ Wl H ∧ WorldAt H d F ∧ FOK F ∧ H a = some (.lst (vN ns)) ∧ H b = some (.lst (vN ps)) ∧ El F ns ∧ El F ps ∧ ps.length ≤ 100 ∧ ∀ p, H p = none → Q (.ref p) (upd H p (.lst (vN (wordF F ns ps))))
theorem ok__law_word (T : Txt K mg) : FnAt P w K mg base 4 "_law_word" ["_law_world_here", "_law_turner", "_law_points"] (sp__law_word K) := by
  refine FnAt.of T 83 81 (d := d__law_word) (k := 3) rfl rfl rfl rfl rfl sc__law_word (fun _ _ _ _ _ _ us hl => match us, hl with | [_, _, _], _ => rfl) (fun vs H Q E h => by walk_at "len") (fun f_ cdv A outer s H vs Q E hr h => ?_)
  obtain ⟨d, a, b, F, ns, ps, rfl, wl, hW, ok, ha, hb, hn, hps, hl, k⟩ := h
  refine ⟨_, (pss_one (ps_ret (pe_lc (own := [("_law_one", 3)]) rfl sc__law_word.nd (pi_list (pv 2)) (blkOk_by (N := ["_law_world_here", "_law_turner", "_law_points", "_law_one"]) (sc := (defScope s__law_word)) (own := [("_law_one", 3)]) (by decide +kernel)) (fun _ _ _ _ _ => (pg_name (i := 3) sc__law_word.nd rfl (Or.inl rfl))) (fun _ _ _ _ _ => pts_nil) (fun _ _ _ _ _ => (pe_callF (ok__law_worth T) (by decide) hr (by rfl) (pa_cons (pv 0) (pa_cons (pv 1) (pa_cons (pv 3) pa_nil)))))))), ?_⟩
  walk_at "dn"
  walk_at "zz"
  refine e_list (xs := vN ps) (SqL.of hb) ?_
  refine lcl_all (jw_list (n := ps.length) (vN_len ps)) (fun i => .int (worF F ns (ps.getD i 0) : Nat)) (by omega) (fun D acc hp => by walk_at "sq") (fun i _ => rfl) (fun D acc i hp hi R r => ?_) (fun D hp => ?_)
  · rw [vN_getD hi]
    walk_at "ds"
    walk_at "zz"
    refine ⟨d, a, F, ns, _, rfl, by walk_at "wl", hW.mono (by walk_at "same"), ok, by walk_at "get", hn, hps.at hi, ?_⟩
    exact r
  · rw [map_set_int (f := fun x => worF F ns x)]
    exact ⟨_, Same.refl _, by walk_at "wl", Prs.same (by walk_at "same"), k D hp⟩
theorem sc__law_differences : FnScope ["_law_world_here", "_law_word_here", "_law_turner", "_law_points", "_law_one", "_law_other"] ["_law_world_here", "_law_word_here", "_law_turner", "_law_points"] (defScope s__law_differences) := ⟨rfl, rfl, rfl, by decide +kernel, rfl, by decide +kernel, by decide +kernel⟩
def sp__law_differences (K : PySem.W.Frag) : Sp := fun vs H Q _ => ∃ (d wd a b : Addr) (F : Fd) (word ns ps : List Nat), vs = [.ref d, .ref wd, .ref a, .ref b] ∧ Wl H ∧ WorldAt H d F ∧ FOK F ∧ H wd = some (.lst (vN word)) ∧ H a = some (.lst (vN ns)) ∧ H b = some (.lst (vN ps)) ∧ El F word ∧ El F ns ∧ El F ps ∧ ps.length ≤ 100 ∧ word.length = ps.length ∧ ∀ p, H p = none → Q (.ref p) (upd H p (.lst (vN (difF F word (wordF F ns ps)))))
theorem ok__law_differences (T : Txt K mg) : FnAt P w K mg base 5 "_law_differences" ["_law_world_here", "_law_word_here", "_law_turner", "_law_points"] (sp__law_differences K) := by
  refine FnAt.of T 84 82 (d := d__law_differences) (k := 4) rfl rfl rfl rfl rfl sc__law_differences (fun _ _ _ _ _ _ us hl => match us, hl with | [_, _, _, _], _ => rfl) (fun vs H Q E h => by walk_at "len") (fun f_ cdv A outer s H vs Q E hr h => ?_)
  obtain ⟨d, wd, a, b, F, word, ns, ps, rfl, wl, hW, ok, hw, ha, hb, hwe, hn, hps, hl, hwl, k⟩ := h
  have hp0 := ok.p
  refine ⟨_, (pss_one (ps_ret (pe_lc (own := [("_law_one", 4), ("_law_other", 5)]) rfl sc__law_differences.nd (pi_D (pi_zip (by rfl) T.n_zip (pa_cons (pv 1) (pa_cons (pe_callF (ok__law_word T) (by decide) hr (by rfl) (pa_cons (pv 0) (pa_cons (pv 2) (pa_cons (pv 3) pa_nil)))) pa_nil)))) (blkOk_by (N := ["_law_world_here", "_law_word_here", "_law_turner", "_law_points", "_law_one", "_law_other"]) (sc := (defScope s__law_differences)) (own := [("_law_one", 4), ("_law_other", 5)]) (by decide +kernel)) (fun _ _ _ _ _ => (pg_tupD (n := 2) rfl (pgs_cons (pg_name (i := 4) sc__law_differences.nd rfl (Or.inl rfl)) (pgs_cons (pg_name (i := 5) sc__law_differences.nd rfl (Or.inl rfl)) pgs_nil)))) (fun _ _ _ _ _ => pts_nil) (fun _ _ _ _ _ => (pe_callF (ok__law_plus T) (by decide) hr (by rfl) (pa_cons (pv 0) (pa_cons (pv 4) (pa_cons (pv 5) (pa_cons (pe_op op_sub (pe_dget (hu_of hr) (pv 0) pe_str (fun _ _ => rfl)) pe_int) pa_nil))))))))), ?_⟩
  walk_at "dn"
  walk_at "zz"
  refine ⟨d, a, b, F, ns, ps, rfl, wl, hW, ok, ha, hb, hn, hps, hl, fun p1 hp => ?_⟩
  have hwf : (wordF F ns ps).length = ps.length := by unfold wordF; rw [List.length_map]
  have hwfe : El F (wordF F ns ps) := El.map fun x _ => worF_lt ok _ _
  walk_at "zz"
  refine e_zip (xs := vN word) (ys := vN (wordF F ns ps)) (by walk_at "sq") (by walk_at "sq") ?_
  walk_at "ds"
  refine lcl_all (jw_zip (xs := vN word) (ys := vN (wordF F ns ps)) (n := ps.length) (by rw [vN_len, vN_len]; omega)) (fun i => .int (subF F (word.getD i 0) ((wordF F ns ps).getD i 0) : Nat)) (by omega) (fun D acc hp => ?_) (fun i _ => rfl) (fun D acc i hp hi R r => ?_) (fun D hp => ?_)
  · walk_at "f1"
    exact ⟨by walk_at "sq", by walk_at "sq", by walk_at "wl"⟩
  · obtain ⟨a0, b0, hW1, hW2, hW3⟩ := hW.ex
    walk_at "f1"
    have hdD : (upd (upd H p1 (.lst (vN (wordF F ns ps)))) D (.lst acc)) d = some (.dK (wKV F a0 b0)) := by walk_at "get"
    rw [vN_getD (by omega), vN_getD (by omega)]
    walk_at "ds"
    walk_at "zz"
    have e0 : ((F.p : Int) - 1) = ((F.p - 1 : Nat) : Int) := by omega
    rw [e0]
    refine ⟨d, F, _, _, F.p - 1, rfl, by walk_at "wl", hW.mono (by walk_at "same"), ok, by omega, ?_⟩
    rw [lplus_sub ok _ (hwe.at (by omega)) _ (hwfe.at (by omega))]
    exact r
  · walk_at "f1"
    rw [zw_range (fun x y => subF F x y) hwl hwf]
    refine ⟨upd H D (.lst (vN (difF F word (wordF F ns ps)))), Same.both (by walk_at "same"), by walk_at "wl", Prs.same (by walk_at "same"), k D hp⟩
theorem sc__law_spoilt : FnScope ["_law_world_here", "_law_word_here", "_law_errors", "_law_one", "_law_other"] ["_law_world_here", "_law_word_here", "_law_errors"] (defScope s__law_spoilt) := ⟨rfl, rfl, rfl, by decide +kernel, rfl, by decide +kernel, by decide +kernel⟩
def sp__law_spoilt (K : PySem.W.Frag) : Sp := fun vs H Q _ => ∃ (d a b : Addr) (F : Fd) (ns ms : List Nat), vs = [.ref d, .ref a, .ref b] ∧ Wl H ∧ WorldAt H d F ∧ FOK F ∧ H a = some (.lst (vN ns)) ∧ H b = some (.lst (vN ms)) ∧ ns.length = ms.length ∧ ns.length ≤ 100 ∧ ∀ p rs, H p = none → rs.length = ns.length → El F rs → Q (.ref p) (upd H p (.lst (vN rs)))
theorem ok__law_spoilt (T : Txt K mg) : FnAt P w K mg base 3 "_law_spoilt" ["_law_world_here", "_law_word_here", "_law_errors"] (sp__law_spoilt K) := by
  refine FnAt.of T 86 84 (d := d__law_spoilt) (k := 2) rfl rfl rfl rfl rfl sc__law_spoilt (fun _ _ _ _ _ _ us hl => match us, hl with | [_, _, _], _ => rfl) (fun vs H Q E h => by walk_at "len") (fun f_ cdv A outer s H vs Q E hr h => ?_)
  obtain ⟨d, a, b, F, ns, ms, rfl, wl, hW, ok, ha, hb, he, hl, k⟩ := h
  refine ⟨_, (pss_one (ps_ret (pe_lc (own := [("_law_one", 3), ("_law_other", 4)]) rfl sc__law_spoilt.nd (pi_D (pi_zip (by rfl) T.n_zip (pa_cons (pv 1) (pa_cons (pv 2) pa_nil)))) (blkOk_by (N := ["_law_world_here", "_law_word_here", "_law_errors", "_law_one", "_law_other"]) (sc := (defScope s__law_spoilt)) (own := [("_law_one", 3), ("_law_other", 4)]) (by decide +kernel)) (fun _ _ _ _ _ => (pg_tupD (n := 2) rfl (pgs_cons (pg_name (i := 3) sc__law_spoilt.nd rfl (Or.inl rfl)) (pgs_cons (pg_name (i := 4) sc__law_spoilt.nd rfl (Or.inl rfl)) pgs_nil)))) (fun _ _ _ _ _ => pts_nil) (fun _ _ _ _ _ => (pe_callF (ok__law_plus T) (by decide) hr (by rfl) (pa_cons (pv 0) (pa_cons (pv 3) (pa_cons (pv 4) (pa_cons pe_int pa_nil))))))))), ?_⟩
  walk_at "dn"
  walk_at "zz"
  refine e_zip (SqL.of ha) (SqL.of hb) ?_
  refine lcl_all (jw_zip (xs := vN ns) (ys := vN ms) (n := ns.length) (by rw [vN_len, vN_len]; omega)) (fun i => .int (lplus F (ns.getD i 0) (ms.getD i 0) 1 : Nat)) (by omega) (fun D acc hp => ⟨by walk_at "sq", by walk_at "sq", by walk_at "wl"⟩) (fun i _ => rfl) (fun D acc i hp hi R r => ?_) (fun D hp => ?_)
  · rw [vN_getD hi, vN_getD (by omega)]
    walk_at "ds"
    walk_at "zz"
    refine ⟨d, F, _, _, 1, rfl, by walk_at "wl", hW.mono (by walk_at "same"), ok, by omega, ?_⟩
    exact r
  · rw [zw_range (fun x y => lplus F x y 1) rfl he.symm]
    refine ⟨_, Same.refl _, by walk_at "wl", Prs.same (by walk_at "same"), k D _ hp (by rw [List.length_zipWith, ← he, Nat.min_self]) fun z m => ?_⟩
    obtain ⟨i, hi, e⟩ := List.getElem_of_mem m
    rw [List.getElem_zipWith] at e
    rw [← e]
    exact lplus_lt ok _ _ _
theorem sc__law_trimmed : FnScope ["_law_turner", "_law_found"] ["_law_turner"] (defScope s__law_trimmed) := ⟨rfl, rfl, rfl, by decide +kernel, rfl, by decide +kernel, by decide +kernel⟩
def sp__law_trimmed (K : PySem.W.Frag) : Sp := fun vs H Q _ => ∃ (a : Addr) (ns : List Nat), vs = [.ref a] ∧ Wl H ∧ H a = some (.lst (vN ns)) ∧ ∀ p, H p = none → Q (.ref p) (upd H p (.lst (vN (trim ns))))
theorem ok__law_trimmed (T : Txt K mg) : FnAt P w K mg base 1 "_law_trimmed" ["_law_turner"] (sp__law_trimmed K) := by
  refine FnAt.of T 79 77 (d := d__law_trimmed) (k := 0) rfl rfl rfl rfl rfl sc__law_trimmed (fun _ _ _ _ _ _ us hl => match us, hl with | [_], _ => rfl) (fun vs H Q E h => by walk_at "len") (fun f_ cdv A outer s H vs Q E hr h => ?_)
  obtain ⟨a, ns, rfl, wl, ha, k⟩ := h
  refine ⟨_, (pss_cons (ps_set (i := 1) sc__law_trimmed.nd rfl (Or.inl rfl) (pe_callTy (call_listK (K := K) rfl) (by rfl) T.n_list (by decide +kernel) (pa_cons (pv 0) pa_nil)))
    (pss_cons (ps_while PassesOwn.never (pt_f (PW.pt (pw_and (pt_cmpR (op_neDK (K := K) rfl hr.units) (pv 1) (pe_lst pa_nil) (nomark _)) (pw_and1 (pt_cmpR op_eq (pe_ix (ix_listK (K := K) rfl) (pv 1) (pe_un un_neg pe_int) (fun _ _ => rfl)) pe_int (nomark _))))))
      (pss_one (ps_expr (pe_bm0 PySem.F.plainAttrs_list PySem.F.slot_list_pop PySem.F.type_list_pop mt_pop (pv 1)))))
    (pss_one (ps_ret (pv 1))))), ?_⟩
  walk_at "dn"
  walk_at "zz"
  refine r_list (SqL.of ha) fun l hp => ?_
  walk_at "zz"
  walk_at "ds"
  refine z_whileB (fun m st A => st = [some (.ref a), some (.ref l)] ∧ A = upd H l (.lst (vN (ns.take m))) ∧ m ≤ ns.length ∧ endOf ns m = endOf ns ns.length) (fun m => m) ns.length ⟨rfl, by rw [List.take_length], Nat.le_refl _, rfl⟩ ?_
  rintro m _ _ ⟨rfl, rfl, hm, he⟩
  have hlt : (ns.take m).length = m := by rw [List.length_take]; omega
  have wl1 : Wl (upd H l (.lst (vN (ns.take m)))) := Wl.put wl (NoOwn.none hp) trivial
  by_cases h0 : m = 0
  · subst h0
    refine ⟨false, fun R r => ?_, nofun, fun _ => ?_⟩
    · walk_at "zz"
      refine ⟨by walk_at "small", fun l2 n2 => ?_⟩
      refine r_neL (ns := ns.take 0) (ms := []) (SqL.of (upd_at (ne_of_none upd_same n2) upd_same)) (SqL.of upd_same) ?_
      rw [decide_eq_true (by rw [List.take_zero])]
      refine ⟨_, rfl, ?_⟩
      exact ⟨_, Same.new (Same.refl _) n2, wl1, Prs.refl _, r⟩
    · walk_at "zz"
      have e : trim ns = ns.take 0 := by unfold trim; rw [← he]; rfl
      rw [← e]
      exact ⟨_, Same.refl _, by walk_at "wl", Prs.same (by walk_at "same"), k l hp⟩
  · have hne : ns.take m ≠ [] := fun e => by
      rw [e] at hlt
      exact h0 hlt.symm
    have hgd : (ns.take m).getD ((ns.take m).length - 1) 0 = ns.getD (m - 1) 0 := by
      rw [hlt, List.getD_eq_getElem?_getD, List.getElem?_take_of_lt (by omega), List.getD_eq_getElem?_getD]
    obtain ⟨j, rfl⟩ : ∃ j, m = j + 1 := ⟨m - 1, by omega⟩
    have hgd2 : (ns.take (j + 1)).getD ((ns.take (j + 1)).length - 1) 0 = ns.getD j 0 := hgd
    by_cases hx : ns.getD j 0 = 0
    · refine ⟨true, fun R r => ?_, fun _ => ?_, nofun⟩
      · walk_at "zz"
        refine ⟨by walk_at "small", fun l2 n2 => ?_⟩
        refine r_neL (ns := ns.take (j + 1)) (ms := []) (SqL.of (upd_at (ne_of_none upd_same n2) upd_same)) (SqL.of upd_same) ?_
        rw [decide_eq_false hne]
        walk_at "zz"
        refine r_ixL (SqL.of (upd_at (ne_of_none upd_same n2) upd_same)) (at_end (getLast_vN (ns := ns.take (j + 1)) (by omega))) ?_
        walk_at "zz"
        rw [hgd2, hx]
        exact ⟨_, Same.new (Same.refl _) n2, wl1, Prs.refl _, r⟩
      · walk_at "zz"
        refine ⟨l, vN (ns.take (j + 1)), .int (((ns.take (j + 1)).getD j 0 : Nat)), rfl, rfl, upd_same, ?_, ?_⟩
        · rw [vN_len, hlt]
          exact vN_at (i := j) (by rw [hlt]; omega)
        · refine ⟨j, by omega, rfl, ?_, by omega, ?_⟩
          · rw [upd_put]
            refine congrArg (fun z => upd H l (.lst z)) ?_
            unfold vN
            rw [← List.map_dropLast, List.dropLast_eq_take, List.length_take, List.take_take]
            congr 2
            omega
          · rw [← he]
            exact (if_pos hx).symm
    · refine ⟨false, fun R r => ?_, nofun, fun _ => ?_⟩
      · walk_at "zz"
        refine ⟨by walk_at "small", fun l2 n2 => ?_⟩
        refine r_neL (ns := ns.take (j + 1)) (ms := []) (SqL.of (upd_at (ne_of_none upd_same n2) upd_same)) (SqL.of upd_same) ?_
        rw [decide_eq_false hne]
        walk_at "zz"
        refine r_ixL (SqL.of (upd_at (ne_of_none upd_same n2) upd_same)) (at_end (getLast_vN (ns := ns.take (j + 1)) (by omega))) ?_
        walk_at "zz"
        rw [hgd2, decide_eq_false (by omega)]
        exact ⟨_, Same.new (Same.refl _) n2, wl1, Prs.refl _, r⟩
      · walk_at "zz"
        have e : trim ns = ns.take (j + 1) := by
          unfold trim
          rw [← he]
          exact congrArg (fun z => ns.take z) (if_neg hx)
        rw [← e]
        exact ⟨_, Same.refl _, by walk_at "wl", Prs.same (by walk_at "same"), k l hp⟩
theorem sc__law_span : FnScope ["_law_world_here", "_law_given", "_law_found", "_law_one", "_law_more", "_law_number_here", "_law_old"] ["_law_world_here", "_law_given"] (defScope s__law_span) := ⟨rfl, rfl, rfl, by decide +kernel, rfl, by decide +kernel, by decide +kernel⟩
def sp__law_span (K : PySem.W.Frag) : Sp := fun vs H Q _ => ∃ (d a : Addr) (F : Fd) (ns : List Nat), vs = [.ref d, .ref a] ∧ Wl H ∧ WorldAt H d F ∧ FOK F ∧ H a = some (.lst (vN ns)) ∧ ns.length ≤ 6 ∧ El F ns ∧ ∀ p, H p = none → Q (.ref p) (upd H p (.lst (vN (spanL F ns))))
theorem ok__law_span (T : Txt K mg) : FnAt P w K mg base 3 "_law_span" ["_law_world_here", "_law_given"] (sp__law_span K) := by
  refine FnAt.of T 77 75 (d := d__law_span) (k := 2) rfl rfl rfl rfl rfl sc__law_span (fun _ _ _ _ _ _ us hl => match us, hl with | [_, _], _ => rfl) (fun vs H Q E h => by walk_at "len") (fun f_ cdv A outer s H vs Q E hr h => ?_)
  obtain ⟨d, a, F, ns, rfl, wl, hW, ok, ha, hl, he, k⟩ := h
  refine ⟨_, (pss_cons (ps_set (i := 2) sc__law_span.nd rfl (Or.inl rfl) (pe_lst (pa_cons pe_int pa_nil)))
    (pss_cons (ps_for PassesOwn.never rfl (pi_list (pv 1)) (pg_name (i := 3) sc__law_span.nd rfl (Or.inr rfl))
      (pss_f (pss_one (ps_if (pt_cmpR (op_notInK (K := K) rfl) (pv 3) (pv 2) (by rfl)) (pss_cons (ps_set (i := 4) sc__law_span.nd rfl (Or.inl rfl) (pe_lst pa_nil))
    (pss_cons (ps_for PassesOwn.never rfl (pi_range1 (by rfl) T.n_range (pa_cons (pe_dget (hu_of hr) (pv 0) pe_str (fun _ _ => rfl)) pa_nil)) (pg_name (i := 5) sc__law_span.nd rfl (Or.inr rfl))
      (pss_f (pss_one (ps_expr (pe_bm PySem.F.plainAttrs_list PySem.F.slot_list_extend PySem.F.type_list_extend mt_extend (pv 4) (pa_cons (pe_lc (own := [("_law_old", 6)]) rfl sc__law_span.nd (pi_list (pv 2)) (blkOk_by (N := ["_law_world_here", "_law_given", "_law_found", "_law_one", "_law_more", "_law_number_here", "_law_old"]) (sc := (defScope s__law_span)) (own := [("_law_old", 6)]) (by decide +kernel)) (fun _ _ _ _ _ => (pg_name (i := 6) sc__law_span.nd rfl (Or.inl rfl))) (fun _ _ _ _ _ => pts_nil) (fun _ _ _ _ _ => (pe_callF (ok__law_plus T) (by decide) hr (by rfl) (pa_cons (pv 0) (pa_cons (pv 6) (pa_cons (pv 3) (pa_cons (pv 5) pa_nil))))))) pa_nil))))))
    (pss_one (ps_set (i := 2) sc__law_span.nd rfl (Or.inl rfl) (pv 4))))) pss_nil))))
    (pss_one (ps_ret (pv 2))))), ?_⟩
  walk_at "dn"
  walk_at "zz"
  refine ⟨by walk_at "small", fun l hp => ?_⟩
  walk_at "zz"
  refine e_list (xs := vN ns) (by walk_at "sq") ?_
  walk_at "ds"
  refine lp_of (jw_list (n := ns.length) (vN_len ns)) (fun i st A => ∃ l y3 y4 y5 y6, st = [some (.ref d), some (.ref a), some (.ref l), y3, y4, y5, y6] ∧ H l = none ∧ A = upd H l (.lst (vN (spanTo F ns i)))) ⟨l, _, _, _, _, rfl, hp, rfl⟩ (fun i st A _ h => ?_) ?_ ?_
  · obtain ⟨_, _, _, _, _, _, hp, rfl⟩ := h
    exact SqL.of (upd_at (ne_of_none ha hp) ha)
  · clear hp l
    rintro i _ _ hi ⟨l, y3, y4, y5, y6, rfl, hp, rfl⟩
    have hsl := spanTo_len (F := F) ns i
    have hrk := rkTo_le (F := F) ns i
    have hse := spanTo_el ok ns i
    have hpp := ok.p
    have hpw : F.p ^ rkTo F ns i ≤ 729 := Nat.le_trans (Nat.pow_le_pow_left hpp.2 _) (Nat.le_trans (Nat.pow_le_pow_right (by omega) (show rkTo F ns i ≤ 6 by omega)) (by decide))
    have est : spanTo F ns (i + 1) = spanStep F (spanTo F ns i) (ns.getD i 0) := rfl
    rw [est]
    generalize spanTo F ns i = S at hsl hse ⊢
    rw [vN_getD hi]
    walk_at "ds"
    walk_at "zz"
    refine r_inN (SqL.of upd_same) ?_
    by_cases hin : ns.getD i 0 ∈ S
    · rw [decide_eq_true hin]
      walk_at "zz"
      have e : spanStep F S (ns.getD i 0) = S := if_pos hin
      rw [e]
      exact ⟨_, Same.refl _, by walk_at "wl", Prs.refl _, l, _, _, _, _, rfl, hp, rfl⟩
    · rw [decide_eq_false hin]
      walk_at "zz"
      refine ⟨by walk_at "small", fun l2 n2 => ?_⟩
      obtain ⟨hn21, n2'⟩ := upd_none n2
      obtain ⟨a0, b0, hW1, hW2, hW3⟩ := hW.ex
      have hWd : (upd (upd H l (.lst (vN S))) l2 (.lst [])) d = some (.dK (wKV F a0 b0)) := upd_at (ne_of_none hW1 n2') (upd_at (ne_of_none hW1 hp) hW1)
      walk_at "zz"
      refine e_rng1 F.p rfl (by omega) ?_
      walk_at "ds"
      refine lp_of (jw_range (n := F.p)) (fun c st B => ∃ y5 y6, st = [some (.ref d), some (.ref a), some (.ref l), some (.int (ns.getD i 0 : Nat)), some (.ref l2), y5, y6] ∧ B = upd (upd H l (.lst (vN S))) l2 (.lst (vN (spanMore F S (ns.getD i 0) c)))) ⟨_, _, rfl, rfl⟩ (fun _ _ _ _ _ => trivial) ?_ ?_
      · rintro c _ _ hc ⟨y5, y6, rfl, rfl⟩
        have wlB : Wl (upd (upd H l (.lst (vN S))) l2 (.lst (vN (spanMore F S (ns.getD i 0) c)))) := Wl.put (Wl.put wl (NoOwn.none hp) trivial) (NoOwn.none n2) trivial
        have hlB : (upd (upd H l (.lst (vN S))) l2 (.lst (vN (spanMore F S (ns.getD i 0) c)))) l = some (.lst (vN S)) := upd_at (Ne.symm hn21) upd_same
        have sHB : Same H (upd (upd H l (.lst (vN S))) l2 (.lst (vN (spanMore F S (ns.getD i 0) c)))) := Same.new (Same.new (Same.refl _) hp) n2'
        have hl2B : (upd (upd H l (.lst (vN S))) l2 (.lst (vN (spanMore F S (ns.getD i 0) c)))) l2 = some (.lst (vN (spanMore F S (ns.getD i 0) c))) := upd_same
        walk_at "ds"
        rw [show ((0 : Int) + (c : Nat)) = (c : Nat) from Int.zero_add _]
        walk_at "zz"
        refine e_list (SqL.of hlB) ?_
        refine lcl_all (jw_list (n := S.length) (vN_len S)) (fun j => .int (lplus F (S.getD j 0) (ns.getD i 0) c : Nat)) (by omega) (fun D acc nD => SqL.of (upd_at (ne_of_none hlB nD) hlB)) (fun _ _ => rfl) (fun D acc j nD hj R r => ?_) (fun D nD => ?_)
        · rw [vN_getD hj]
          walk_at "ds"
          walk_at "zz"
          refine ⟨d, F, _, _, c, rfl, Wl.put wlB (NoOwn.none nD) trivial, hW.mono (Same.new sHB (sHB.free nD)), ok, by omega, ?_⟩
          exact r
        · rw [map_set_int (f := fun o => lplus F o (ns.getD i 0) c)]
          walk_at "zz"
          have hml := spanMore_len F S (ns.getD i 0) c
          have hcs : c * S.length ≤ 3 * 729 := Nat.mul_le_mul (by omega) (by omega)
          refine ⟨l2, D, _, _, rfl, rfl, upd_at (ne_of_none hl2B nD) hl2B, upd_same, ?_, ?_⟩
          · rw [vN_len, vN_len, List.length_map, hml]
            exact Nat.le_trans (show c * S.length + S.length ≤ 100000 by omega) (by decide)
          · rw [← vN_app]
            refine ⟨upd (upd H l (.lst (vN S))) l2 (.lst (vN (spanMore F S (ns.getD i 0) (c + 1)))), ?_, Wl.put (Wl.put wl (NoOwn.none hp) trivial) (NoOwn.none n2) trivial, Prs.drop (Prs.same (Same.new (Same.refl _) n2)) n2 (fun z => z), _, _, rfl, rfl⟩
            exact Same.both (Same.new (Same.new (Same.refl _) n2) (upd_none nD).2)
      · rintro _ _ ⟨y5, y6, rfl, rfl⟩
        walk_at "zz"
        have e : spanStep F S (ns.getD i 0) = spanMore F S (ns.getD i 0) F.p := if_neg hin
        rw [e]
        refine ⟨upd H l2 (.lst (vN (spanMore F S (ns.getD i 0) F.p))), Same.both (Same.new (Same.refl _) hp), Wl.put wl (NoOwn.none n2') trivial, Prs.drop (Prs.same (Same.new (Same.refl _) n2')) hp (fun z => z), l2, _, _, _, _, rfl, n2', rfl⟩
  · rintro _ _ ⟨l, y3, y4, y5, y6, rfl, hp, rfl⟩
    walk_at "zz"
    exact ⟨_, Same.refl _, by walk_at "wl", Prs.same (by walk_at "same"), k l hp⟩
end
end TP
/-! part L3 -/
set_option maxHeartbeats 1000000
namespace TP
open PySem PySem.Spec PyProof.Rows L2
set_option hygiene false in
local macro_rules | `(tactic| walk_at "ne") => `(tactic| first | assumption | exact Ne.symm (by assumption) | exact ne_of_none (H := H) (by assumption) (by assumption) | exact (ne_of_none (H := H) (by assumption) (by assumption)).symm | exact ne_of_none (H := A) (by assumption) (by assumption) | exact (ne_of_none (H := A) (by assumption) (by assumption)).symm)
local macro_rules | `(tactic| walk_at "get") => `(tactic| first | assumption | exact upd_same | (refine upd_at ?_ ?_; (focus walk_at "ne"); (walk_at "get")))
local macro_rules | `(tactic| walk_at "nn") => `(tactic| first | assumption | (refine none_upd ?_ ?_; (focus walk_at "ne"); (walk_at "nn")))
local macro_rules | `(tactic| walk_at "same") => `(tactic| first | exact Same.refl _ | assumption | (refine Same.both ?_; walk_at "same") | (refine TP.Same.new ?_ ?_; (focus walk_at "same"); (walk_at "nn")) | (refine Same.put ?_ ?_; (focus walk_at "same"); (walk_at "get")))
local macro_rules | `(tactic| walk_at "noown") => `(tactic| first | exact NoOwn.none (by assumption) | (refine NoOwn.upd ?_ True.intro; walk_at "noown"))
local macro_rules | `(tactic| walk_at "wl") => `(tactic| first | assumption | (refine Wl.put ?_ ?_ True.intro; (focus walk_at "wl"); (walk_at "noown")))
local macro_rules | `(tactic| walk_at "sq") => `(tactic| first | assumption | exact SqL.of (by walk_at "get"))
set_option hygiene false in
local macro_rules | `(tactic| walk_at "f1") => `(tactic| obtain ⟨_, hp⟩ := upd_none hp)
set_option hygiene false in
local macro_rules | `(tactic| walk_at "f2") => `(tactic| (obtain ⟨_, hp⟩ := upd_none hp; obtain ⟨_, hp⟩ := upd_none hp))
set_option hygiene false in
local macro_rules | `(tactic| walk_at "f3") => `(tactic| (obtain ⟨_, hp⟩ := upd_none hp; obtain ⟨_, hp⟩ := upd_none hp; obtain ⟨_, hp⟩ := upd_none hp))
set_option hygiene false in
local macro_rules | `(tactic| walk_at "f4") => `(tactic| (obtain ⟨_, hp⟩ := upd_none hp; obtain ⟨_, hp⟩ := upd_none hp; obtain ⟨_, hp⟩ := upd_none hp; obtain ⟨_, hp⟩ := upd_none hp))
set_option hygiene false in
local macro_rules | `(tactic| walk_at "fa") => `(tactic| first
  | ((with_reducible refine' z_own_prime T ?hv ?hh ?_); (case hv => exact rfl); (case hh => walk_at "get"))
  | ((with_reducible refine' z_own_turns T ?hv ?hh ?_); (case hv => exact rfl); (case hh => walk_at "get"))
  | ((with_reducible refine' z_own_size T ?hv ?hh ?_); (case hv => exact rfl); (case hh => walk_at "get"))
  | ((with_reducible refine' z_own_powers T ?hv ?hh ?_); (case hv => exact rfl); (case hh => walk_at "get"))
  | ((with_reducible refine' z_own_logs T ?hv ?hh ?_); (case hv => exact rfl); (case hh => walk_at "get"))
  | ((with_reducible refine' z_own_field T ?hv ?hh ?_); (case hv => exact rfl); (case hh => walk_at "get"))
  | ((with_reducible refine' z_own_points T ?hv ?hh ?_); (case hv => exact rfl); (case hh => walk_at "get"))
  | ((with_reducible refine' z_own_many T ?hv ?hh ?_); (case hv => exact rfl); (case hh => walk_at "get")))
local macro_rules | `(tactic| walk_at "z") => `(tactic| first
  | with_reducible refine z_seq ?_
  | with_reducible refine z_asg ?_
  | with_reducible refine z_name ?_
  | ((with_reducible refine' z_var ?hv ?_); (case hv => exact rfl))
  | with_reducible refine z_c ?_
  | with_reducible refine z_op ?_
  | with_reducible refine r_I0 ?_
  | ((with_reducible refine r_I ?hc ?_); (case hc => walk_at "ar"))
  | ((with_reducible refine' r_app ?ha ?hz ?_); (case ha => walk_at "get"); (case hz => walk_at "sz"))
  | ((with_reducible refine' z_tyl ?ha ?_); (case ha => walk_at "get"))
  | with_reducible refine z_cons ?_
  | ((with_reducible refine' r_len ?ha ?_); (case ha => walk_at "sq"))
  | with_reducible refine z_nil ?_
  | walk_at "fa"
  | walk_at "fd"
  | with_reducible refine z_test ?_
  | with_reducible refine z_bl ?_
  | with_reducible refine z_tB ?_
  | with_reducible refine r_eq ?_
  | with_reducible refine r_ne ?_
  | with_reducible refine z_ifS ?_
  | with_reducible refine z_ret ?_
  | with_reducible refine z_drop ?_
  | with_reducible refine z_cb ?_
  | with_reducible refine z_call ?_
  | with_reducible refine z_bm ?_
  | with_reducible refine z_bm0 ?_
  | with_reducible refine z_lst ?_
  | with_reducible refine z_tup ?_
  | with_reducible refine z_un ?_
  | with_reducible refine r_U ?_
  | with_reducible refine z_par ?_
  | with_reducible refine z_par3 ?_
  | with_reducible refine z_two ?_
  | with_reducible refine z_three ?_
  | with_reducible refine z_sub ?_
  | with_reducible refine z_for ?_
  | with_reducible refine z_lc ?_
  | with_reducible refine z_ifE ?_
  | with_reducible refine z_and ?_
  | with_reducible refine z_or ?_
  | with_reducible refine z_not ?_
  | with_reducible refine z_yes ?_
  | with_reducible refine z_andV ?_
  | with_reducible refine z_orV ?_
  | with_reducible refine z_notV ?_
  | with_reducible refine z_sl ?_
  | with_reducible refine z_noP ?_
  | with_reducible refine z_part ?_
  | with_reducible refine z_int ?_
  | with_reducible refine z_revL ?_
  | with_reducible refine z_next ?_
  | with_reducible refine z_sf ?_
  | with_reducible refine z_f ?_
  | with_reducible refine z_tf ?_
  | with_reducible refine z_disp ?_
  | with_reducible refine z_pc ?_
  | with_reducible refine z_pn ?_
  | with_reducible refine z_i1 ?_
  | with_reducible refine i_rng3 ?_
  | with_reducible refine z_chain ?_
  | with_reducible refine z_nT ?_
  | with_reducible refine z_nF ?_
  | with_reducible refine z_sfld ?_
  | with_reducible refine i_rng1 ?_
  | with_reducible refine i_rng2 ?_
  | with_reducible refine i_list ?_
  | with_reducible refine i_zip ?_
  | with_reducible refine i_enum ?_
  | with_reducible refine z_tt ?_
  | with_reducible refine z_ff ?_)
local macro_rules | `(tactic| walk_at "zz") => `(tactic| repeat walk_at "z")
set_option hygiene false in
local macro_rules | `(tactic| walk_at "len") => `(tactic| first | (obtain ⟨rfl, _⟩ := h; rfl) | (obtain ⟨_, rfl, _⟩ := h; rfl) | (obtain ⟨_, _, rfl, _⟩ := h; rfl) | (obtain ⟨_, _, _, rfl, _⟩ := h; rfl) | (obtain ⟨_, _, _, _, rfl, _⟩ := h; rfl) | (obtain ⟨_, _, _, _, _, rfl, _⟩ := h; rfl) | (obtain ⟨_, _, _, _, _, _, rfl, _⟩ := h; rfl) | (obtain ⟨_, _, _, _, _, _, _, rfl, _⟩ := h; rfl) | (obtain ⟨_, _, _, _, _, _, _, _, rfl, _⟩ := h; rfl) | (obtain ⟨_, _, _, _, _, _, _, _, _, rfl, _⟩ := h; rfl) | (obtain ⟨_, _, _, _, _, _, _, _, _, _, rfl, _⟩ := h; rfl) | (obtain ⟨_, _, _, _, _, _, _, _, _, _, _, rfl, _⟩ := h; rfl) | (obtain ⟨_, _, _, _, _, _, _, _, _, _, _, _, rfl, _⟩ := h; rfl) | (obtain ⟨_, _, _, _, _, _, _, _, _, _, _, _, _, rfl, _⟩ := h; rfl) | (obtain ⟨_, _, _, _, _, _, _, _, _, _, _, _, _, _, rfl, _⟩ := h; rfl) | (obtain ⟨_, _, _, _, _, _, _, _, _, _, _, _, _, _, _, rfl, _⟩ := h; rfl) | (obtain ⟨_, _, _, _, _, _, _, _, _, _, _, _, _, _, _, _, rfl, _⟩ := h; rfl))
local macro_rules | `(tactic| walk_at "small") => `(tactic| first | exact Nat.zero_le _ | exact (by decide : 1 ≤ sizeLine) | exact (by decide : 2 ≤ sizeLine) | exact (by decide : 3 ≤ sizeLine) | exact (by decide : 4 ≤ sizeLine) | exact (by decide : 5 ≤ sizeLine) | exact (by decide : 6 ≤ sizeLine))
local macro_rules | `(tactic| walk_at "dn") => `(tactic| dsimp only [cxOf, L2.start, List.map, List.length, List.replicate, List.cons_append, List.nil_append, Nat.reduceAdd, Nat.reduceSub, Nat.zero_add])
local macro_rules | `(tactic| walk_at "ar") => `(tactic| first | assumption | (show _ < _; omega) | (show _ < _ ∧ _ < _; omega) | (left; show _ < _ ∧ _ < _; constructor <;> omega) | (right; show _ < _ ∧ _ < _; constructor <;> omega))
local macro_rules | `(tactic| walk_at "sz") => `(tactic| first | omega | (simp only [vN_len, List.length_append, List.length_cons, List.length_nil, List.length_map, List.length_range, List.length_replicate, List.length_set, List.length_take, List.length_drop, List.length_reverse]; omega))
local macro_rules | `(tactic| walk_at "ds") => `(tactic| try dsimp only [List.set])
set_option hygiene false in
local macro_rules | `(tactic| walk_at "endL") => `(tactic| (refine' ⟨_, ?e1, ?e2, ?e3, k p hp⟩; (case e1 => walk_at "same"); (case e2 => walk_at "wl"); (case e3 => exact Prs.same (by walk_at "same"))))
set_option hygiene false in
local macro_rules | `(tactic| walk_at "endS") => `(tactic| exact ⟨H, by walk_at "same", wl, Prs.refl _, k⟩)
set_option hygiene false in
local macro_rules | `(tactic| walk_at "endQ") => `(tactic| (refine' ⟨_, ?e1, ?e2, ?e3, k q hp⟩; (case e1 => walk_at "same"); (case e2 => walk_at "wl"); (case e3 => exact Prs.same (by walk_at "same"))))
local macro_rules | `(tactic| walk_at "f5") => `(tactic| (walk_at "f1"; walk_at "f4"))
local macro_rules | `(tactic| walk_at "f6") => `(tactic| (walk_at "f2"; walk_at "f4"))
local macro_rules | `(tactic| walk_at "f7") => `(tactic| (walk_at "f3"; walk_at "f4"))
set_option hygiene false in
local macro_rules | `(tactic| walk_at "fd") => `(tactic| first
  | ((with_reducible refine' z_w_prime ?hv ?hh ?_); (case hv => exact rfl); (case hh => assumption))
  | ((with_reducible refine' z_w_turns ?hv ?hh ?_); (case hv => exact rfl); (case hh => assumption))
  | ((with_reducible refine' z_w_size ?hv ?hh ?_); (case hv => exact rfl); (case hh => assumption))
  | ((with_reducible refine' z_w_powers ?hv ?hh ?_); (case hv => exact rfl); (case hh => assumption))
  | ((with_reducible refine' z_w_places ?hv ?hh ?_); (case hv => exact rfl); (case hh => assumption))
  | ((with_reducible refine' z_t_prime ?hv ?hh ?_); (case hv => exact rfl); (case hh => assumption))
  | ((with_reducible refine' z_t_modulus ?hv ?hh ?_); (case hv => exact rfl); (case hh => assumption))
  | ((with_reducible refine' z_t_world ?hv ?hh ?_); (case hv => exact rfl); (case hh => assumption))
  | ((with_reducible refine' z_t_points ?hv ?hh ?_); (case hv => exact rfl); (case hh => assumption))
  | ((with_reducible refine' z_t_many ?hv ?hh ?_); (case hv => exact rfl); (case hh => assumption))
  | ((with_reducible refine' z_t_reach ?hv ?hh ?_); (case hv => exact rfl); (case hh => assumption)))
section
variable {P : Program} {w : World} {K : PySem.W.Frag} {mg : Str → Option Value} {base : Heap}
theorem sc__law_rank : FnScope ["_law_world_here", "_law_given", "_law_span_here", "_law_many", "_law_at", "_law_one", "_law_more", "_law_number_here", "_law_old"] ["_law_world_here", "_law_given"] (defScope s__law_rank) := ⟨rfl, rfl, rfl, by decide +kernel, rfl, by decide +kernel, by decide +kernel⟩
def sp__law_rank (K : PySem.W.Frag) : Sp := fun vs H Q _ => ∃ (d a : Addr) (F : Fd) (ns : List Nat), vs = [.ref d, .ref a] ∧ Wl H ∧ WorldAt H d F ∧ FOK F ∧ H a = some (.lst (vN ns)) ∧ ns.length ≤ 6 ∧ El F ns ∧ Q (.int (lrk F ns : Nat)) H
theorem ok__law_rank (T : Txt K mg) : FnAt P w K mg base 3 "_law_rank" ["_law_world_here", "_law_given"] (sp__law_rank K) := by
  refine FnAt.of T 78 76 (d := d__law_rank) (k := 2) rfl rfl rfl rfl rfl sc__law_rank (fun _ _ _ _ _ _ us hl => match us, hl with | [_, _], _ => rfl) (fun vs H Q E h => by walk_at "len") (fun f_ cdv A outer s H vs Q E hr h => ?_)
  obtain ⟨d, a, F, ns, rfl, wl, hW, ok, ha, hl, he, k⟩ := h
  refine ⟨_, (pss_cons (ps_par (i := 2) (j := 3) rfl sc__law_rank.nd rfl rfl (by decide) rfl rfl (pa_cons (pe_lst (pa_cons pe_int pa_nil)) (pa_cons pe_int pa_nil)) (by rfl))
    (pss_cons (ps_for PassesOwn.never rfl (pi_D (pi_enum (by rfl) T.n_enumerate (pa_cons (pv 1) pa_nil))) (pg_tupD (n := 2) rfl (pgs_cons (pg_name (i := 4) sc__law_rank.nd rfl (Or.inl rfl)) (pgs_cons (pg_name (i := 5) sc__law_rank.nd rfl (Or.inr rfl)) pgs_nil)))
      (pss_f (pss_one (ps_if (pt_cmpR (op_notInK (K := K) rfl) (pv 5) (pv 2) (by rfl)) (pss_cons (ps_set (i := 3) sc__law_rank.nd rfl (Or.inl rfl) (pe_op op_add (pv 3) pe_int))
    (pss_one (ps_if (pt_cmpR op_lt (pe_op op_add (pv 4) pe_int) (pe_callB (call_lenK (K := K) rfl) (by rfl) T.n_len (by decide +kernel) (pa_cons (pv 1) pa_nil)) (nomark _)) (pss_cons (ps_set (i := 6) sc__law_rank.nd rfl (Or.inl rfl) (pe_lst pa_nil))
    (pss_cons (ps_for PassesOwn.never rfl (pi_range1 (by rfl) T.n_range (pa_cons (pe_dget (hu_of hr) (pv 0) pe_str (fun _ _ => rfl)) pa_nil)) (pg_name (i := 7) sc__law_rank.nd rfl (Or.inr rfl))
      (pss_f (pss_one (ps_expr (pe_bm PySem.F.plainAttrs_list PySem.F.slot_list_extend PySem.F.type_list_extend mt_extend (pv 6) (pa_cons (pe_lc (own := [("_law_old", 8)]) rfl sc__law_rank.nd (pi_list (pv 2)) (blkOk_by (N := ["_law_world_here", "_law_given", "_law_span_here", "_law_many", "_law_at", "_law_one", "_law_more", "_law_number_here", "_law_old"]) (sc := (defScope s__law_rank)) (own := [("_law_old", 8)]) (by decide +kernel)) (fun _ _ _ _ _ => (pg_name (i := 8) sc__law_rank.nd rfl (Or.inl rfl))) (fun _ _ _ _ _ => pts_nil) (fun _ _ _ _ _ => (pe_callF (ok__law_plus T) (by decide) hr (by rfl) (pa_cons (pv 0) (pa_cons (pv 8) (pa_cons (pv 5) (pa_cons (pv 7) pa_nil))))))) pa_nil))))))
    (pss_one (ps_set (i := 2) sc__law_rank.nd rfl (Or.inl rfl) (pv 6))))) pss_nil))) pss_nil))))
    (pss_one (ps_ret (pv 3))))), ?_⟩
  walk_at "dn"
  walk_at "zz"
  refine ⟨by walk_at "small", fun l hp => ?_⟩
  walk_at "zz"
  refine e_enum (xs := vN ns) (by walk_at "sq") ?_
  walk_at "ds"
  refine lp_of (jw_enum (n := ns.length) (vN_len ns)) (fun i st A => ∃ l S y4 y5 y6 y7 y8, st = [some (.ref d), some (.ref a), some (.ref l), some (.int (rkTo F ns i : Nat)), y4, y5, y6, y7, y8] ∧ H l = none ∧ A = upd H l (.lst (vN S)) ∧ (i < ns.length → S = spanTo F ns i)) ⟨l, [0], _, _, _, _, _, rfl, hp, rfl, fun _ => rfl⟩ (fun i st A _ h => ?_) ?_ ?_
  · obtain ⟨_, _, _, _, _, _, _, _, hp, rfl, _⟩ := h
    exact ⟨SqL.of (upd_at (ne_of_none ha hp) ha), Wl.put wl (NoOwn.none hp) trivial⟩
  · clear hp l
    rintro i _ _ hi ⟨l, S, y4, y5, y6, y7, y8, rfl, hp, rfl, hS⟩
    have hS' := hS hi
    have hsl := spanTo_len (F := F) ns i
    have hrk := rkTo_le (F := F) ns i
    have hse := spanTo_el ok ns i
    have hpp := ok.p
    have hpw : F.p ^ rkTo F ns i ≤ 729 := Nat.le_trans (Nat.pow_le_pow_left hpp.2 _) (Nat.le_trans (Nat.pow_le_pow_right (by omega) (show rkTo F ns i ≤ 6 by omega)) (by decide))
    have est : spanTo F ns (i + 1) = spanStep F (spanTo F ns i) (ns.getD i 0) := rfl
    have erk : rkTo F ns (i + 1) = if ns.getD i 0 ∈ spanTo F ns i then rkTo F ns i else rkTo F ns i + 1 := rfl
    rw [est, erk]
    rw [← hS'] at hsl hse ⊢
    clear hS hS' est erk
    rw [vN_getD hi]
    walk_at "ds"
    walk_at "zz"
    refine r_inN (SqL.of upd_same) ?_
    by_cases hin : ns.getD i 0 ∈ S
    · rw [decide_eq_true hin]
      walk_at "zz"
      have e : spanStep F S (ns.getD i 0) = S := if_pos hin
      rw [e, if_pos hin]
      exact ⟨_, Same.refl _, by walk_at "wl", Prs.refl _, l, S, _, _, _, _, _, rfl, hp, rfl, fun _ => rfl⟩
    · rw [decide_eq_false hin, if_neg hin]
      have haS : (upd H l (.lst (vN S))) a = some (.lst (vN ns)) := upd_at (ne_of_none ha hp) ha
      walk_at "zz"
      rw [vN_len]
      refine z_dec (fun hlast => ?_) (fun hlast => ?_)
      · walk_at "zz"
        refine ⟨by walk_at "small", fun l2 n2 => ?_⟩
        obtain ⟨hn21, n2'⟩ := upd_none n2
        obtain ⟨a0, b0, hW1, hW2, hW3⟩ := hW.ex
        have hWd : (upd (upd H l (.lst (vN S))) l2 (.lst [])) d = some (.dK (wKV F a0 b0)) := upd_at (ne_of_none hW1 n2') (upd_at (ne_of_none hW1 hp) hW1)
        walk_at "zz"
        refine e_rng1 F.p rfl (by omega) ?_
        walk_at "ds"
        refine lp_of (jw_range (n := F.p)) (fun c st B => ∃ y5 y6, st = [some (.ref d), some (.ref a), some (.ref l), some (.int (rkTo F ns i + 1 : Nat)), some (.int (i : Nat)), some (.int (ns.getD i 0 : Nat)), some (.ref l2), y5, y6] ∧ B = upd (upd H l (.lst (vN S))) l2 (.lst (vN (spanMore F S (ns.getD i 0) c)))) ⟨_, _, rfl, rfl⟩ (fun _ _ _ _ _ => trivial) ?_ ?_
        · rintro c _ _ hc ⟨y5, y6, rfl, rfl⟩
          have wlB : Wl (upd (upd H l (.lst (vN S))) l2 (.lst (vN (spanMore F S (ns.getD i 0) c)))) := Wl.put (Wl.put wl (NoOwn.none hp) trivial) (NoOwn.none n2) trivial
          have hlB : (upd (upd H l (.lst (vN S))) l2 (.lst (vN (spanMore F S (ns.getD i 0) c)))) l = some (.lst (vN S)) := upd_at (Ne.symm hn21) upd_same
          have sHB : Same H (upd (upd H l (.lst (vN S))) l2 (.lst (vN (spanMore F S (ns.getD i 0) c)))) := Same.new (Same.new (Same.refl _) hp) n2'
          have hl2B : (upd (upd H l (.lst (vN S))) l2 (.lst (vN (spanMore F S (ns.getD i 0) c)))) l2 = some (.lst (vN (spanMore F S (ns.getD i 0) c))) := upd_same
          walk_at "ds"
          rw [show ((0 : Int) + (c : Nat)) = (c : Nat) from Int.zero_add _]
          walk_at "zz"
          refine e_list (SqL.of hlB) ?_
          refine lcl_all (jw_list (n := S.length) (vN_len S)) (fun j => .int (lplus F (S.getD j 0) (ns.getD i 0) c : Nat)) (by omega) (fun D acc nD => SqL.of (upd_at (ne_of_none hlB nD) hlB)) (fun _ _ => rfl) (fun D acc j nD hj R r => ?_) (fun D nD => ?_)
          · rw [vN_getD hj]
            walk_at "ds"
            walk_at "zz"
            refine ⟨d, F, _, _, c, rfl, Wl.put wlB (NoOwn.none nD) trivial, hW.mono (Same.new sHB (sHB.free nD)), ok, by omega, ?_⟩
            exact r
          · rw [map_set_int (f := fun o => lplus F o (ns.getD i 0) c)]
            walk_at "zz"
            have hml := spanMore_len F S (ns.getD i 0) c
            have hcs : c * S.length ≤ 3 * 729 := Nat.mul_le_mul (by omega) (by omega)
            refine ⟨l2, D, _, _, rfl, rfl, upd_at (ne_of_none hl2B nD) hl2B, upd_same, ?_, ?_⟩
            · rw [vN_len, vN_len, List.length_map, hml]
              exact Nat.le_trans (show c * S.length + S.length ≤ 100000 by omega) (by decide)
            · rw [← vN_app]
              refine ⟨upd (upd H l (.lst (vN S))) l2 (.lst (vN (spanMore F S (ns.getD i 0) (c + 1)))), ?_, Wl.put (Wl.put wl (NoOwn.none hp) trivial) (NoOwn.none n2) trivial, Prs.drop (Prs.same (Same.new (Same.refl _) n2)) n2 (fun z => z), _, _, rfl, rfl⟩
              exact Same.both (Same.new (Same.new (Same.refl _) n2) (upd_none nD).2)
        · rintro _ _ ⟨y5, y6, rfl, rfl⟩
          walk_at "zz"
          have e : spanStep F S (ns.getD i 0) = spanMore F S (ns.getD i 0) F.p := if_neg hin
          refine ⟨upd H l2 (.lst (vN (spanMore F S (ns.getD i 0) F.p))), Same.both (Same.new (Same.refl _) hp), Wl.put wl (NoOwn.none n2') trivial, Prs.drop (Prs.same (Same.new (Same.refl _) n2')) hp (fun z => z), l2, _, _, _, _, _, _, rfl, n2', rfl, fun _ => e.symm⟩
      · walk_at "zz"
        exact ⟨_, Same.refl _, by walk_at "wl", Prs.refl _, l, S, _, _, _, _, _, rfl, hp, rfl, fun h => absurd h (by omega)⟩
  · rintro _ _ ⟨l, S, y4, y5, y6, y7, y8, rfl, hp, rfl, hS⟩
    walk_at "zz"
    exact ⟨H, by walk_at "same", wl, Prs.refl _, k⟩
end
end TP
/-! part L4 -/
set_option maxHeartbeats 1000000
namespace TP
open PySem PySem.Spec PyProof.Rows L2
set_option hygiene false in
local macro_rules | `(tactic| walk_at "ne") => `(tactic| first | assumption | exact Ne.symm (by assumption) | exact ne_of_none (H := H) (by assumption) (by assumption) | exact (ne_of_none (H := H) (by assumption) (by assumption)).symm | exact ne_of_none (H := A) (by assumption) (by assumption) | exact (ne_of_none (H := A) (by assumption) (by assumption)).symm)
local macro_rules | `(tactic| walk_at "get") => `(tactic| first | assumption | exact upd_same | (refine upd_at ?_ ?_; (focus walk_at "ne"); (walk_at "get")))
local macro_rules | `(tactic| walk_at "nn") => `(tactic| first | assumption | (refine none_upd ?_ ?_; (focus walk_at "ne"); (walk_at "nn")))
local macro_rules | `(tactic| walk_at "same") => `(tactic| first | exact Same.refl _ | assumption | (refine Same.both ?_; walk_at "same") | (refine TP.Same.new ?_ ?_; (focus walk_at "same"); (walk_at "nn")) | (refine Same.put ?_ ?_; (focus walk_at "same"); (walk_at "get")))
local macro_rules | `(tactic| walk_at "noown") => `(tactic| first | exact NoOwn.none (by assumption) | (refine NoOwn.upd ?_ True.intro; walk_at "noown"))
local macro_rules | `(tactic| walk_at "wl") => `(tactic| first | assumption | (refine Wl.put ?_ ?_ True.intro; (focus walk_at "wl"); (walk_at "noown")))
local macro_rules | `(tactic| walk_at "sq") => `(tactic| first | assumption | exact SqL.of (by walk_at "get"))
set_option hygiene false in
local macro_rules | `(tactic| walk_at "f1") => `(tactic| obtain ⟨_, hp⟩ := upd_none hp)
set_option hygiene false in
local macro_rules | `(tactic| walk_at "f2") => `(tactic| (obtain ⟨_, hp⟩ := upd_none hp; obtain ⟨_, hp⟩ := upd_none hp))
set_option hygiene false in
local macro_rules | `(tactic| walk_at "f3") => `(tactic| (obtain ⟨_, hp⟩ := upd_none hp; obtain ⟨_, hp⟩ := upd_none hp; obtain ⟨_, hp⟩ := upd_none hp))
set_option hygiene false in
local macro_rules | `(tactic| walk_at "f4") => `(tactic| (obtain ⟨_, hp⟩ := upd_none hp; obtain ⟨_, hp⟩ := upd_none hp; obtain ⟨_, hp⟩ := upd_none hp; obtain ⟨_, hp⟩ := upd_none hp))
set_option hygiene false in
local macro_rules | `(tactic| walk_at "fa") => `(tactic| first
  | ((with_reducible refine' z_own_prime T ?hv ?hh ?_); (case hv => exact rfl); (case hh => walk_at "get"))
  | ((with_reducible refine' z_own_turns T ?hv ?hh ?_); (case hv => exact rfl); (case hh => walk_at "get"))
  | ((with_reducible refine' z_own_size T ?hv ?hh ?_); (case hv => exact rfl); (case hh => walk_at "get"))
  | ((with_reducible refine' z_own_powers T ?hv ?hh ?_); (case hv => exact rfl); (case hh => walk_at "get"))
  | ((with_reducible refine' z_own_logs T ?hv ?hh ?_); (case hv => exact rfl); (case hh => walk_at "get"))
  | ((with_reducible refine' z_own_field T ?hv ?hh ?_); (case hv => exact rfl); (case hh => walk_at "get"))
  | ((with_reducible refine' z_own_points T ?hv ?hh ?_); (case hv => exact rfl); (case hh => walk_at "get"))
  | ((with_reducible refine' z_own_many T ?hv ?hh ?_); (case hv => exact rfl); (case hh => walk_at "get")))
local macro_rules | `(tactic| walk_at "z") => `(tactic| first
  | with_reducible refine z_seq ?_
  | with_reducible refine z_asg ?_
  | with_reducible refine z_name ?_
  | ((with_reducible refine' z_var ?hv ?_); (case hv => exact rfl))
  | with_reducible refine z_c ?_
  | with_reducible refine z_op ?_
  | with_reducible refine r_I0 ?_
  | ((with_reducible refine r_I ?hc ?_); (case hc => walk_at "ar"))
  | ((with_reducible refine' r_app ?ha ?hz ?_); (case ha => walk_at "get"); (case hz => walk_at "sz"))
  | ((with_reducible refine' z_tyl ?ha ?_); (case ha => walk_at "get"))
  | with_reducible refine z_cons ?_
  | ((with_reducible refine' r_len ?ha ?_); (case ha => walk_at "sq"))
  | with_reducible refine z_nil ?_
  | walk_at "fa"
  | walk_at "fd"
  | with_reducible refine z_test ?_
  | with_reducible refine z_bl ?_
  | with_reducible refine z_tB ?_
  | with_reducible refine r_eq ?_
  | with_reducible refine r_ne ?_
  | with_reducible refine z_ifS ?_
  | with_reducible refine z_ret ?_
  | with_reducible refine z_drop ?_
  | with_reducible refine z_cb ?_
  | with_reducible refine z_call ?_
  | with_reducible refine z_bm ?_
  | with_reducible refine z_bm0 ?_
  | with_reducible refine z_lst ?_
  | with_reducible refine z_tup ?_
  | with_reducible refine z_un ?_
  | with_reducible refine r_U ?_
  | with_reducible refine z_par ?_
  | with_reducible refine z_par3 ?_
  | with_reducible refine z_two ?_
  | with_reducible refine z_three ?_
  | with_reducible refine z_sub ?_
  | with_reducible refine z_for ?_
  | with_reducible refine z_lc ?_
  | with_reducible refine z_ifE ?_
  | with_reducible refine z_and ?_
  | with_reducible refine z_or ?_
  | with_reducible refine z_not ?_
  | with_reducible refine z_yes ?_
  | with_reducible refine z_andV ?_
  | with_reducible refine z_orV ?_
  | with_reducible refine z_notV ?_
  | with_reducible refine z_sl ?_
  | with_reducible refine z_noP ?_
  | with_reducible refine z_part ?_
  | with_reducible refine z_int ?_
  | with_reducible refine z_revL ?_
  | with_reducible refine z_next ?_
  | with_reducible refine z_sf ?_
  | with_reducible refine z_f ?_
  | with_reducible refine z_tf ?_
  | with_reducible refine z_disp ?_
  | with_reducible refine z_pc ?_
  | with_reducible refine z_pn ?_
  | with_reducible refine z_i1 ?_
  | with_reducible refine i_rng3 ?_
  | with_reducible refine z_chain ?_
  | with_reducible refine z_nT ?_
  | with_reducible refine z_nF ?_
  | with_reducible refine z_sfld ?_
  | with_reducible refine i_rng1 ?_
  | with_reducible refine i_rng2 ?_
  | with_reducible refine i_list ?_
  | with_reducible refine i_zip ?_
  | with_reducible refine i_enum ?_
  | with_reducible refine z_tt ?_
  | with_reducible refine z_ff ?_)
local macro_rules | `(tactic| walk_at "zz") => `(tactic| repeat walk_at "z")
set_option hygiene false in
local macro_rules | `(tactic| walk_at "len") => `(tactic| first | (obtain ⟨rfl, _⟩ := h; rfl) | (obtain ⟨_, rfl, _⟩ := h; rfl) | (obtain ⟨_, _, rfl, _⟩ := h; rfl) | (obtain ⟨_, _, _, rfl, _⟩ := h; rfl) | (obtain ⟨_, _, _, _, rfl, _⟩ := h; rfl) | (obtain ⟨_, _, _, _, _, rfl, _⟩ := h; rfl) | (obtain ⟨_, _, _, _, _, _, rfl, _⟩ := h; rfl) | (obtain ⟨_, _, _, _, _, _, _, rfl, _⟩ := h; rfl) | (obtain ⟨_, _, _, _, _, _, _, _, rfl, _⟩ := h; rfl) | (obtain ⟨_, _, _, _, _, _, _, _, _, rfl, _⟩ := h; rfl) | (obtain ⟨_, _, _, _, _, _, _, _, _, _, rfl, _⟩ := h; rfl) | (obtain ⟨_, _, _, _, _, _, _, _, _, _, _, rfl, _⟩ := h; rfl) | (obtain ⟨_, _, _, _, _, _, _, _, _, _, _, _, rfl, _⟩ := h; rfl) | (obtain ⟨_, _, _, _, _, _, _, _, _, _, _, _, _, rfl, _⟩ := h; rfl) | (obtain ⟨_, _, _, _, _, _, _, _, _, _, _, _, _, _, rfl, _⟩ := h; rfl) | (obtain ⟨_, _, _, _, _, _, _, _, _, _, _, _, _, _, _, rfl, _⟩ := h; rfl) | (obtain ⟨_, _, _, _, _, _, _, _, _, _, _, _, _, _, _, _, rfl, _⟩ := h; rfl))
local macro_rules | `(tactic| walk_at "small") => `(tactic| first | exact Nat.zero_le _ | exact (by decide : 1 ≤ sizeLine) | exact (by decide : 2 ≤ sizeLine) | exact (by decide : 3 ≤ sizeLine) | exact (by decide : 4 ≤ sizeLine) | exact (by decide : 5 ≤ sizeLine) | exact (by decide : 6 ≤ sizeLine))
local macro_rules | `(tactic| walk_at "dn") => `(tactic| dsimp only [cxOf, L2.start, List.map, List.length, List.replicate, List.cons_append, List.nil_append, Nat.reduceAdd, Nat.reduceSub, Nat.zero_add])
local macro_rules | `(tactic| walk_at "ar") => `(tactic| first | assumption | (show _ < _; omega) | (show _ < _ ∧ _ < _; omega) | (left; show _ < _ ∧ _ < _; constructor <;> omega) | (right; show _ < _ ∧ _ < _; constructor <;> omega))
local macro_rules | `(tactic| walk_at "sz") => `(tactic| first | omega | (simp only [vN_len, List.length_append, List.length_cons, List.length_nil, List.length_map, List.length_range, List.length_replicate, List.length_set, List.length_take, List.length_drop, List.length_reverse]; omega))
local macro_rules | `(tactic| walk_at "ds") => `(tactic| try dsimp only [List.set])
set_option hygiene false in
local macro_rules | `(tactic| walk_at "endL") => `(tactic| (refine' ⟨_, ?e1, ?e2, ?e3, k p hp⟩; (case e1 => walk_at "same"); (case e2 => walk_at "wl"); (case e3 => exact Prs.same (by walk_at "same"))))
set_option hygiene false in
local macro_rules | `(tactic| walk_at "endS") => `(tactic| exact ⟨H, by walk_at "same", wl, Prs.refl _, k⟩)
set_option hygiene false in
local macro_rules | `(tactic| walk_at "endQ") => `(tactic| (refine' ⟨_, ?e1, ?e2, ?e3, k q hp⟩; (case e1 => walk_at "same"); (case e2 => walk_at "wl"); (case e3 => exact Prs.same (by walk_at "same"))))
local macro_rules | `(tactic| walk_at "f5") => `(tactic| (walk_at "f1"; walk_at "f4"))
local macro_rules | `(tactic| walk_at "f6") => `(tactic| (walk_at "f2"; walk_at "f4"))
local macro_rules | `(tactic| walk_at "f7") => `(tactic| (walk_at "f3"; walk_at "f4"))
set_option hygiene false in
local macro_rules | `(tactic| walk_at "fd") => `(tactic| first
  | ((with_reducible refine' z_w_prime ?hv ?hh ?_); (case hv => exact rfl); (case hh => assumption))
  | ((with_reducible refine' z_w_turns ?hv ?hh ?_); (case hv => exact rfl); (case hh => assumption))
  | ((with_reducible refine' z_w_size ?hv ?hh ?_); (case hv => exact rfl); (case hh => assumption))
  | ((with_reducible refine' z_w_powers ?hv ?hh ?_); (case hv => exact rfl); (case hh => assumption))
  | ((with_reducible refine' z_w_places ?hv ?hh ?_); (case hv => exact rfl); (case hh => assumption))
  | ((with_reducible refine' z_t_prime ?hv ?hh ?_); (case hv => exact rfl); (case hh => assumption))
  | ((with_reducible refine' z_t_modulus ?hv ?hh ?_); (case hv => exact rfl); (case hh => assumption))
  | ((with_reducible refine' z_t_world ?hv ?hh ?_); (case hv => exact rfl); (case hh => assumption))
  | ((with_reducible refine' z_t_points ?hv ?hh ?_); (case hv => exact rfl); (case hh => assumption))
  | ((with_reducible refine' z_t_many ?hv ?hh ?_); (case hv => exact rfl); (case hh => assumption))
  | ((with_reducible refine' z_t_reach ?hv ?hh ?_); (case hv => exact rfl); (case hh => assumption)))
section
variable {P : Program} {w : World} {K : PySem.W.Frag} {mg : Str → Option Value} {base : Heap}
theorem sc__law_slow : FnScope ["_law_prime", "_law_modulus", "_law_one", "_law_other", "_law_many", "_law_near", "_law_far", "_law_found", "_law_at", "_law_to"] ["_law_prime", "_law_modulus", "_law_one", "_law_other"] (defScope s__law_slow) := ⟨rfl, rfl, rfl, by decide +kernel, rfl, by decide +kernel, by decide +kernel⟩
def sp__law_slow (K : PySem.W.Frag) : Sp := fun vs H Q _ => ∃ (p : Nat) (a : Addr) (md : List Nat) (x y : Nat), vs = [.int p, .ref a, .int x, .int y] ∧ Wl H ∧ 2 ≤ p ∧ p ≤ 3 ∧ H a = some (.lst (vN md)) ∧ 2 ≤ md.length ∧ md.length ≤ 13 ∧ (∀ i, md.getD i 0 < 10) ∧ Q (.int (slowF p md x y : Nat)) H
theorem digs_at {p n x i : Nat} (hp : 0 < p) : (digs p n x).getD i 0 < p := getD_lt hp (digs_at_lt hp n x) i
theorem ok__law_slow (T : Txt K mg) : FnAt P w K mg base 2 "_law_slow" ["_law_prime", "_law_modulus", "_law_one", "_law_other"] (sp__law_slow K) := by
  refine FnAt.of T 70 68 (d := d__law_slow) (k := 1) rfl rfl rfl rfl rfl sc__law_slow (fun _ _ _ _ _ _ us hl => match us, hl with | [_, _, _, _], _ => rfl) (fun vs H Q E h => by walk_at "len") (fun f_ cdv A outer s H vs Q E hr h => ?_)
  obtain ⟨p, a, md, x, y, rfl, wl, h1, h2, ha, hl, hl2, hb, k⟩ := h
  refine ⟨_, (pss_cons (ps_set (i := 4) sc__law_slow.nd rfl (Or.inl rfl) (pe_op op_sub (pe_callB (call_lenK (K := K) rfl) (by rfl) T.n_len (by decide +kernel) (pa_cons (pv 1) pa_nil)) pe_int))
    (pss_cons (ps_par3 (i := 5) (j := 6) (l := 7) rfl sc__law_slow.nd rfl rfl rfl (by decide) (by decide) (by decide) rfl rfl rfl (pa_cons (pe_callF (ok__law_figures T) (by decide) hr (by rfl) (pa_cons (pv 0) (pa_cons (pv 2) (pa_cons (pv 4) pa_nil)))) (pa_cons (pe_callF (ok__law_figures T) (by decide) hr (by rfl) (pa_cons (pv 0) (pa_cons (pv 3) (pa_cons (pv 4) pa_nil)))) (pa_cons (pe_op op_rep (pe_lst (pa_cons pe_int pa_nil)) (pe_op op_mul pe_int (pv 4))) pa_nil))) (by rfl))
    (pss_cons (ps_for PassesOwn.never rfl (pi_range1 (by rfl) T.n_range (pa_cons (pv 4) pa_nil)) (pg_name (i := 8) sc__law_slow.nd rfl (Or.inl rfl))
      (pss_one (ps_for PassesOwn.never rfl (pi_range1 (by rfl) T.n_range (pa_cons (pv 4) pa_nil)) (pg_name (i := 9) sc__law_slow.nd rfl (Or.inl rfl))
      (pss_one (ps_asg (pe_op op_mod (pe_op op_add (pe_ix (ix_listK (K := K) rfl) (pv 7) (pe_op op_add (pv 8) (pv 9)) (fun _ _ => rfl)) (pe_op op_mul (pe_ix (ix_listK (K := K) rfl) (pv 5) (pv 8) (fun _ _ => rfl)) (pe_ix (ix_listK (K := K) rfl) (pv 6) (pv 9) (fun _ _ => rfl)))) (pv 0)) (pg_sub (pv 7) (pe_op op_add (pv 8) (pv 9)) set_list))))))
    (pss_cons (ps_for PassesOwn.never rfl (pi_range3 (by rfl) T.n_range (pa_cons (pe_op op_sub (pe_op op_mul pe_int (pv 4)) pe_int) (pa_cons (pe_op op_sub (pv 4) pe_int) (pa_cons (pe_un un_neg pe_int) pa_nil)))) (pg_name (i := 8) sc__law_slow.nd rfl (Or.inl rfl))
      (pss_one (ps_for PassesOwn.never rfl (pi_range1 (by rfl) T.n_range (pa_cons (pv 4) pa_nil)) (pg_name (i := 9) sc__law_slow.nd rfl (Or.inl rfl))
      (pss_one (ps_asg (pe_op op_mod (pe_op op_sub (pe_ix (ix_listK (K := K) rfl) (pv 7) (pe_op op_add (pe_op op_sub (pv 8) (pv 4)) (pv 9)) (fun _ _ => rfl)) (pe_op op_mul (pe_ix (ix_listK (K := K) rfl) (pv 7) (pv 8) (fun _ _ => rfl)) (pe_ix (ix_listK (K := K) rfl) (pv 1) (pv 9) (fun _ _ => rfl)))) (pv 0)) (pg_sub (pv 7) (pe_op op_add (pe_op op_sub (pv 8) (pv 4)) (pv 9)) set_list))))))
    (pss_one (ps_ret (pe_callF (ok__law_number T) (by decide) hr (by rfl) (pa_cons (pv 0) (pa_cons (pe_slice (sl_listK (K := K) rfl) (pv 7) po_none (po_some (pv 4))) pa_nil))))))))), ?_⟩
  obtain ⟨m, hm⟩ : ∃ m, m = md.length - 1 := ⟨_, rfl⟩
  unfold slowF at k
  rw [← hm] at k
  have em : ((vN md).length : Int) - 1 = ((m : Nat) : Int) := by rw [vN_len]; omega
  walk_at "dn"
  walk_at "zz"
  rw [em]
  walk_at "ds"
  refine ⟨p, x, m, rfl, wl, h1, h2, by omega, fun l1 hp => ?_⟩
  walk_at "zz"
  refine ⟨p, y, m, rfl, by walk_at "wl", h1, h2, by omega, fun l2 hp => ?_⟩
  have hn2 := (upd_none hp).1
  walk_at "f1"
  walk_at "zz"
  refine ⟨by walk_at "small", fun l3 hp => ?_⟩
  have hn3 := upd_none hp
  have hn3' := (upd_none hn3.2).1
  walk_at "f2"
  walk_at "zz"
  refine r_rep (m := 2 * m) upd_same (by omega) fun l hp => ?_
  have e0 : List.replicate (2 * m) (V.int 0) = vN (List.replicate (2 * m) 0) := vN_rep _ 0
  rw [e0]
  have hn4 := upd_none hp
  have hn5 := upd_none hn4.2
  have hn6 := upd_none hn5.2
  have w4 : Wl (upd (upd (upd H l1 (.lst (vN (digs p m x)))) l2 (.lst (vN (digs p m y)))) l3 (.lst [.int 0])) := Wl.put (Wl.put (Wl.put wl (NoOwn.none (by assumption)) trivial) (NoOwn.none (none_upd hn2 (by assumption))) trivial) (NoOwn.none (none_upd hn3.1 (none_upd hn3' (by assumption)))) trivial
  have s4 : Same H (upd (upd (upd H l1 (.lst (vN (digs p m x)))) l2 (.lst (vN (digs p m y)))) l3 (.lst [.int 0])) := Same.new (Same.new (Same.new (Same.refl _) (by assumption)) (by assumption)) (by assumption)
  have g1 : (upd (upd (upd H l1 (.lst (vN (digs p m x)))) l2 (.lst (vN (digs p m y)))) l3 (.lst [.int 0])) l1 = some (.lst (vN (digs p m x))) := upd_at (Ne.symm hn3') (upd_at (Ne.symm hn2) upd_same)
  have g2 : (upd (upd (upd H l1 (.lst (vN (digs p m x)))) l2 (.lst (vN (digs p m y)))) l3 (.lst [.int 0])) l2 = some (.lst (vN (digs p m y))) := upd_at (Ne.symm hn3.1) upd_same
  generalize upd (upd (upd H l1 (.lst (vN (digs p m x)))) l2 (.lst (vN (digs p m y)))) l3 (.lst [.int 0]) = B at w4 s4 g1 g2 hp ⊢
  clear hn4 hn5 hn6 hn2 hn3 hn3'
  have g3 := s4 _ _ ha
  rename_i hpH0 hpH1
  walk_at "zz"
  refine e_rng1 m rfl (by omega) ?_
  walk_at "ds"
  refine lp_of (jw_range (n := m)) (fun i st A => ∃ y8 y9, st = [some (.int p), some (.ref a), some (.int x), some (.int y), some (.int m), some (.ref l1), some (.ref l2), some (.ref l), y8, y9] ∧ A = upd B l (.lst (vN (mulOut p (digs p m x) (digs p m y) (List.replicate (2 * m) 0) i)))) ⟨_, _, rfl, rfl⟩ (fun _ _ _ _ _ => trivial) ?_ ?_
  · rintro i _ _ hi ⟨y8, y9, rfl, rfl⟩
    walk_at "ds"
    rw [show ((0 : Int) + (i : Nat)) = (i : Nat) from Int.zero_add _]
    walk_at "zz"
    refine e_rng1 m rfl (by omega) ?_
    refine lp_of (jw_range (n := m)) (fun j st A => ∃ y9, st = [some (.int p), some (.ref a), some (.int x), some (.int y), some (.int m), some (.ref l1), some (.ref l2), some (.ref l), some (.int (i : Nat)), y9] ∧ A = upd B l (.lst (vN (mulIn p ((digs p m x).getD i 0) i (digs p m y) (mulOut p (digs p m x) (digs p m y) (List.replicate (2 * m) 0) i) j)))) ⟨_, rfl, rfl⟩ (fun _ _ _ _ _ => trivial) ?_ ?_
    · rintro j _ _ hj ⟨y9, rfl, rfl⟩
      have hlm : (mulIn p ((digs p m x).getD i 0) i (digs p m y) (mulOut p (digs p m x) (digs p m y) (List.replicate (2 * m) 0) i) j).length = 2 * m := by rw [mulIn_len, mulOut_len, List.length_replicate]
      have hdx := digs_at (p := p) (n := m) (x := x) (i := i) (by omega)
      walk_at "ds"
      rw [show ((0 : Int) + (j : Nat)) = (j : Nat) from Int.zero_add _]
      walk_at "zz"
      refine r_ixL (SqL.of upd_same) (atN (i := i + j) (by omega)) ?_
      walk_at "zz"
      refine r_ixL (SqL.of (upd_at (ne_of_none g1 hp) g1)) (atN (by rw [digs_len]; omega)) ?_
      walk_at "zz"
      refine r_ixL (SqL.of (upd_at (ne_of_none g2 hp) g2)) (atN (by rw [digs_len]; omega)) ?_
      walk_at "zz"
      refine' r_set (m := i + j) upd_same ?hx ?_
      case hx =>
        rw [vN_len, hlm]
        exact ixN_in (by omega)
      refine ⟨_, rfl, ?_⟩
      rw [upd_put]
      refine congrArg (fun z => upd _ l (.lst z)) ?_
      show _ = vN (List.set _ _ _)
      rw [← vN_set]
      rfl
    · rintro _ _ ⟨y9, rfl, rfl⟩
      refine ⟨_, _, rfl, ?_⟩
      have e : mulOut p (digs p m x) (digs p m y) (List.replicate (2 * m) 0) (i + 1) = mulIn p ((digs p m x).getD i 0) i (digs p m y) (mulOut p (digs p m x) (digs p m y) (List.replicate (2 * m) 0) i) (digs p m y).length := rfl
      rw [e, digs_len]
  · rintro _ _ ⟨y8, y9, rfl, rfl⟩
    walk_at "zz"
    have hM : (mulOut p (digs p m x) (digs p m y) (List.replicate (2 * m) 0) m).length = 2 * m := by rw [mulOut_len, List.length_replicate]
    generalize mulOut p (digs p m x) (digs p m y) (List.replicate (2 * m) 0) m = M at hM k ⊢
    have er : (((2 : Int) * (m : Nat) - 1) - ((m : Nat) - 1 : Int)).toNat = m := by omega
    have R := RgC.neg (i := (2 : Int) * (m : Nat) - 1) (j := (m : Nat) - 1) (by omega) (by omega) (by omega) (by omega)
    rw [er] at R
    refine ⟨_, _, _, m, rfl, R, ?_⟩
    refine lp_of (jw_rangeC (n := m)) (fun i st A => ∃ y8 y9, st = [some (.int p), some (.ref a), some (.int x), some (.int y), some (.int m), some (.ref l1), some (.ref l2), some (.ref l), y8, y9] ∧ A = upd B l (.lst (vN (redOut p m md M i)))) ⟨_, _, rfl, rfl⟩ (fun _ _ _ _ _ => trivial) ?_ ?_
    · rintro i _ _ hi ⟨y8, y9, rfl, rfl⟩
      have ei : (2 : Int) * (m : Nat) - 1 + (i : Nat) * (-1) = ((2 * m - 1 - i : Nat) : Int) := by omega
      rw [ei]
      have hO : (redOut p m md M i).length = 2 * m := by rw [redOut_len, hM]
      have est : redOut p m md M (i + 1) = redIn p (2 * m - 1 - i) m md (redOut p m md M i) m := rfl
      rw [est]
      generalize redOut p m md M i = O at hO ⊢
      walk_at "ds"
      walk_at "zz"
      refine e_rng1 m rfl (by omega) ?_
      refine lp_of (jw_range (n := m)) (fun j st A => ∃ y9, st = [some (.int p), some (.ref a), some (.int x), some (.int y), some (.int m), some (.ref l1), some (.ref l2), some (.ref l), some (.int (2 * m - 1 - i : Nat)), y9] ∧ A = upd B l (.lst (vN (redIn p (2 * m - 1 - i) m md O j)))) ⟨_, rfl, rfl⟩ (fun _ _ _ _ _ => trivial) ?_ ?_
      · rintro j _ _ hj ⟨y9, rfl, rfl⟩
        have hI : (redIn p (2 * m - 1 - i) m md O j).length = 2 * m := by rw [redIn_len, hO]
        have hmj := hb j
        have ej : ((2 * m - 1 - i : Nat) : Int) - (m : Nat) + (j : Nat) = ((2 * m - 1 - i - m + j : Nat) : Int) := by omega
        walk_at "ds"
        rw [show ((0 : Int) + (j : Nat)) = (j : Nat) from Int.zero_add _]
        walk_at "zz"
        rw [ej]
        refine r_ixL (SqL.of upd_same) (atN (by omega)) ?_
        walk_at "zz"
        refine r_ixL (SqL.of upd_same) (atN (by omega)) ?_
        walk_at "zz"
        refine r_ixL (SqL.of (upd_at (ne_of_none g3 hp) g3)) (atN (by omega)) ?_
        walk_at "zz"
        rw [ej]
        refine' r_set (m := 2 * m - 1 - i - m + j) upd_same ?hx ?_
        case hx =>
          rw [vN_len, hI]
          exact ixN_in (by omega)
        refine ⟨_, rfl, ?_⟩
        rw [upd_put]
        refine congrArg (fun z => upd _ l (.lst z)) ?_
        show _ = vN (List.set _ _ _)
        rw [← vN_set]
        exact congrArg (fun z => List.set (vN _) _ (V.int z)) (sm_cast (p := p) (by omega) _ ((redIn p (2 * m - 1 - i) m md O j).getD (2 * m - 1 - i) 0 * md.getD j 0)).symm
      · rintro _ _ ⟨y9, rfl, rfl⟩
        exact ⟨_, _, rfl, rfl⟩
    · rintro _ _ ⟨y8, y9, rfl, rfl⟩
      have hO : (redOut p m md M m).length = 2 * m := by rw [redOut_len, hM]
      walk_at "zz"
      refine r_slL (SqL.of upd_same) fun q hq => ?_
      rw [cut_to _ m (by omega)]
      walk_at "zz"
      refine ⟨p, q, _, rfl, Wl.put (Wl.put w4 (NoOwn.none hp) trivial) (NoOwn.none hq) trivial, h2, upd_same, ?_⟩
      refine ⟨H, Same.new (Same.new s4 (s4.free hp)) (s4.free (upd_none hq).2), wl, Prs.refl _, k⟩
theorem sc__law_powers : FnScope ["_law_prime", "_law_modulus", "_law_one", "_law_size", "_law_found", "_law_more"] ["_law_prime", "_law_modulus", "_law_one", "_law_size"] (defScope s__law_powers) := ⟨rfl, rfl, rfl, by decide +kernel, rfl, by decide +kernel, by decide +kernel⟩
def sp__law_powers (K : PySem.W.Frag) : Sp := fun vs H Q _ => ∃ (p : Nat) (a : Addr) (md : List Nat) (x z : Nat) (r : List Nat), vs = [.int p, .ref a, .int x, .int z] ∧ Wl H ∧ 2 ≤ p ∧ p ≤ 3 ∧ H a = some (.lst (vN md)) ∧ 2 ≤ md.length ∧ md.length ≤ 13 ∧ (∀ i, md.getD i 0 < 10) ∧ 1 ≤ z ∧ lPow p md x z = some r ∧ ∀ q, H q = none → Q (.ref q) (upd H q (.lst (vN r)))
theorem ok__law_powers (T : Txt K mg) : FnAt P w K mg base 3 "_law_powers" ["_law_prime", "_law_modulus", "_law_one", "_law_size"] (sp__law_powers K) := by
  refine FnAt.of T 71 69 (d := d__law_powers) (k := 2) rfl rfl rfl rfl rfl sc__law_powers (fun _ _ _ _ _ _ us hl => match us, hl with | [_, _, _, _], _ => rfl) (fun vs H Q E h => by walk_at "len") (fun f_ cdv A outer s H vs Q E hr h => ?_)
  obtain ⟨p, a, md, x, z, r, rfl, wl, h1, h2, ha, hl, hl2, hb, hz, hg0, k⟩ := h
  refine ⟨_, (pss_cons (ps_set (i := 4) sc__law_powers.nd rfl (Or.inl rfl) (pe_lst (pa_cons pe_int pa_nil)))
    (pss_cons (ps_while PassesOwn.never (pt_cmpR op_lt (pe_callB (call_lenK (K := K) rfl) (by rfl) T.n_len (by decide +kernel) (pa_cons (pv 4) pa_nil)) (pe_op op_sub (pv 3) pe_int) (nomark _))
      (pss_cons (ps_set (i := 5) sc__law_powers.nd rfl (Or.inl rfl) (pe_callF (ok__law_slow T) (by decide) hr (by rfl) (pa_cons (pv 0) (pa_cons (pv 1) (pa_cons (pe_ix (ix_listK (K := K) rfl) (pv 4) (pe_un un_neg pe_int) (fun _ _ => rfl)) (pa_cons (pv 2) pa_nil))))))
    (pss_cons (ps_if (pt_cmpR op_eq (pv 5) pe_int (nomark _)) (pss_one (ps_ret (pv 4))) pss_nil)
    (pss_one (ps_expr (pe_bm PySem.F.plainAttrs_list PySem.F.slot_list_append PySem.F.type_list_append mt_append (pv 4) (pa_cons (pv 5) pa_nil)))))))
    (pss_one (ps_ret (pv 4))))), ?_⟩
  walk_at "dn"
  walk_at "zz"
  refine ⟨by walk_at "small", fun l hp => ?_⟩
  walk_at "zz"
  walk_at "ds"
  refine z_whileB (X := Nat × List Nat) (fun y st A => ∃ y5, st = [some (.int p), some (.ref a), some (.int x), some (.int z), some (.ref l), y5] ∧ A = upd H l (.lst (vN y.2)) ∧ 0 < y.2.length ∧ y.2.length + y.1 ≤ 41 ∧ lpGo p md x z y.1 y.2 = some r) (fun y => y.1) (40, [1]) ⟨_, rfl, rfl, by decide, by decide, hg0⟩ ?_
  rintro ⟨n, found⟩ _ _ ⟨y5, rfl, rfl, hf0, hfl, hg⟩
  cases n with
  | zero => cases hg
  | succ n =>
    dsimp only at hf0 hfl hg ⊢
    have wl1 : Wl (upd H l (.lst (vN found))) := Wl.put wl (NoOwn.none hp) trivial
    by_cases hc : found.length < z - 1
    · refine ⟨true, fun R r => ?_, fun _ => ?_, nofun⟩
      · walk_at "zz"
        rw [vN_len, decide_eq_true (by omega)]
        exact r
      · walk_at "zz"
        refine r_ixL (SqL.of upd_same) (at_end (getLast_vN hf0)) ?_
        walk_at "zz"
        refine ⟨p, a, md, _, x, rfl, wl1, h1, h2, upd_at (ne_of_none ha hp) ha, hl, hl2, hb, ?_⟩
        have hg2 : (if slowF p md (found.getD (found.length - 1) 0) x = 1 then some found else lpGo p md x z n (found ++ [slowF p md (found.getD (found.length - 1) 0) x])) = some r := by
          rw [← hg]
          exact (if_pos hc).symm
        walk_at "zz"
        refine z_dec (fun h1 => ?_) (fun h1 => ?_)
        · rw [if_pos (by omega)] at hg2
          cases hg2
          walk_at "zz"
          exact ⟨_, Same.refl _, by walk_at "wl", Prs.same (by walk_at "same"), k l hp⟩
        · rw [if_neg (by omega)] at hg2
          walk_at "zz"
          rw [vN_snoc]
          exact ⟨(n, found ++ [slowF p md (found.getD (found.length - 1) 0) x]), Nat.lt_succ_self n, _, rfl, upd_put, by simp, by rw [List.length_append, List.length_singleton]; dsimp only; omega, hg2⟩
    · refine ⟨false, fun R r => ?_, nofun, fun _ => ?_⟩
      · walk_at "zz"
        rw [vN_len, decide_eq_false (by omega)]
        exact r
      · walk_at "zz"
        have e : found = r := by
          have y : lpGo p md x z (n + 1) found = some found := if_neg hc
          rw [y] at hg
          exact Option.some.inj hg
        rw [e]
        exact ⟨_, Same.refl _, by walk_at "wl", Prs.same (by walk_at "same"), k l hp⟩
theorem sc__law_world : FnScope ["_law_prime", "_law_modulus", "_law_size", "_law_turn", "_law_powers_here", "_law_one", "_law_places", "_law_at", "_law_power"] ["_law_prime", "_law_modulus"] (defScope s__law_world) := ⟨rfl, rfl, rfl, by decide +kernel, rfl, by decide +kernel, by decide +kernel⟩
def sp__law_world (K : PySem.W.Frag) : Sp := fun vs H Q _ => ∃ (F : Fd) (a : Addr), vs = [.int F.p, .ref a] ∧ Wl H ∧ FOK F ∧ H a = some (.lst (vN F.md)) ∧ ∀ q H', Same H H' → Wl H' → Prs H H' → WorldAt H' q F → Q (.ref q) H'
theorem ok__law_world (T : Txt K mg) : FnAt P w K mg base 4 "_law_world" ["_law_prime", "_law_modulus"] (sp__law_world K) := by
  refine FnAt.of T 72 70 (d := d__law_world) (k := 3) rfl rfl rfl rfl rfl sc__law_world (fun _ _ _ _ _ _ us hl => match us, hl with | [_, _], _ => rfl) (fun vs H Q E h => by walk_at "len") (fun f_ cdv A outer s H vs Q E hr h => ?_)
  obtain ⟨F, a, rfl, wl, ok, ha, k⟩ := h
  have hp := ok.p
  have hn := ok.n
  have hq := ok.q
  have hml := ok.mdl
  have hpl := ok.pwl
  have ek : ((vN F.md).length : Int) - 1 = ((F.n : Nat) : Int) := by rw [vN_len]; omega
  have hmb : ∀ i, F.md.getD i 0 < 10 := fun i => by
    by_cases h : i < F.md.length
    · have := ok.mdb i h
      omega
    · rw [List.getD_eq_getElem?_getD, List.getElem?_eq_none (by omega)]
      decide
  refine ⟨_, (pss_cons (ps_set (i := 2) sc__law_world.nd rfl (Or.inl rfl) pe_int)
    (pss_cons (ps_for PassesOwn.never rfl (pi_range1 (by rfl) T.n_range (pa_cons (pe_op op_sub (pe_callB (call_lenK (K := K) rfl) (by rfl) T.n_len (by decide +kernel) (pa_cons (pv 1) pa_nil)) pe_int) pa_nil)) (pg_name (i := 3) sc__law_world.nd rfl (Or.inl rfl))
      (pss_one (ps_set (i := 2) sc__law_world.nd rfl (Or.inl rfl) (pe_op op_mul (pv 2) (pv 0)))))
    (pss_cons (ps_par (i := 4) (j := 5) rfl sc__law_world.nd rfl rfl (by decide) rfl rfl (pa_cons (pe_lst (pa_cons pe_int pa_nil)) (pa_cons (pv 0) pa_nil)) (by rfl))
    (pss_cons (ps_while PassesOwn.never (pt_cmpR op_lt (pe_callB (call_lenK (K := K) rfl) (by rfl) T.n_len (by decide +kernel) (pa_cons (pv 4) pa_nil)) (pe_op op_sub (pv 2) pe_int) (nomark _))
      (pss_f (pss_one (ps_par (i := 4) (j := 5) rfl sc__law_world.nd rfl rfl (by decide) rfl rfl (pa_cons (pe_callF (ok__law_powers T) (by decide) hr (by rfl) (pa_cons (pv 0) (pa_cons (pv 1) (pa_cons (pv 5) (pa_cons (pv 2) pa_nil))))) (pa_cons (pe_op op_add (pv 5) pe_int) pa_nil)) (by rfl)))))
    (pss_cons (ps_set (i := 6) sc__law_world.nd rfl (Or.inl rfl) (pe_op op_rep (pe_lst (pa_cons pe_int pa_nil)) (pv 2)))
    (pss_cons (ps_for PassesOwn.never rfl (pi_D (pi_enum (by rfl) T.n_enumerate (pa_cons (pv 4) pa_nil))) (pg_tupD (n := 2) rfl (pgs_cons (pg_name (i := 7) sc__law_world.nd rfl (Or.inl rfl)) (pgs_cons (pg_name (i := 8) sc__law_world.nd rfl (Or.inl rfl)) pgs_nil)))
      (pss_one (ps_asg (pv 7) (pg_sub (pv 6) (pv 8) set_list))))
    (pss_one (ps_ret (pe_disp (pps_cons pe_str (pv 0) (pps_cons pe_str (pe_op op_sub (pe_callB (call_lenK (K := K) rfl) (by rfl) T.n_len (by decide +kernel) (pa_cons (pv 1) pa_nil)) pe_int) (pps_cons pe_str (pv 2) (pps_cons pe_str (pv 4) (pps_cons pe_str (pv 6) pps_nil))))) (by rfl) (by rfl) (fun z => by cases z) (by decide)))))))))), ?_⟩
  walk_at "dn"
  walk_at "zz"
  rw [ek]
  refine e_rng1 F.n rfl (by omega) ?_
  walk_at "ds"
  refine lp_of (jw_range (n := F.n)) (fun i st A => ∃ y3, st = [some (.int F.p), some (.ref a), some (.int ((F.p ^ i : Nat))), y3, none, none, none, none, none] ∧ H = A) ⟨_, rfl, rfl⟩ (fun _ _ _ _ _ => trivial) ?_ ?_
  · rintro i _ _ hi ⟨y, rfl, rfl⟩
    walk_at "ds"
    walk_at "zz"
    exact ⟨_, rfl, rfl⟩
  · rintro _ _ ⟨y3, rfl, rfl⟩
    rw [← ok.qpn]
    walk_at "zz"
    refine ⟨by walk_at "small", fun l hl => ?_⟩
    walk_at "zz"
    walk_at "ds"
    refine z_whileB (X := Nat × List Nat × Nat) (fun y st A => ∃ l, st = [some (.int F.p), some (.ref a), some (.int F.q), y3, some (.ref l), some (.int y.2.2), none, none, none] ∧ H l = none ∧ A = upd H l (.lst (vN y.2.1)) ∧ lwGo F.p F.md F.q y.1 y.2.1 y.2.2 = some F.pw) (fun y => y.1) (40, [1], F.p) ⟨l, rfl, hl, rfl, ok.lp⟩ ?_
    rintro ⟨n, pw, one⟩ _ _ ⟨l, rfl, hl, rfl, hg⟩
    cases n with
    | zero => cases hg
    | succ n =>
      dsimp only at hg ⊢
      by_cases hc : pw.length < F.q - 1
      · have hg2 : ((lPow F.p F.md one F.q).bind fun q => lwGo F.p F.md F.q n q (one + 1)) = some F.pw := by
          rw [← hg]
          exact (if_pos hc).symm
        obtain ⟨r, hr, hg3⟩ := Option.bind_eq_some_iff.mp hg2
        refine ⟨true, fun R r => ?_, fun _ => ?_, nofun⟩
        · walk_at "zz"
          rw [vN_len, decide_eq_true (by omega)]
          exact r
        · walk_at "zz"
          refine ⟨F.p, a, F.md, one, F.q, r, rfl, Wl.put wl (NoOwn.none hl) trivial, hp.1, hp.2, upd_at (ne_of_none ha hl) ha, by omega, by omega, hmb, by omega, hr, fun q nq => ?_⟩
          obtain ⟨hne, nq2⟩ := upd_none nq
          walk_at "zz"
          walk_at "ds"
          exact ⟨upd H q (.lst (vN r)), Same.both (Same.new (Same.refl _) hl), Wl.put wl (NoOwn.none nq2) trivial, Prs.drop (Prs.same (Same.new (Same.refl _) nq2)) hl (fun z => z), (n, r, one + 1), Nat.lt_succ_self n, q, rfl, nq2, rfl, hg3⟩
      · refine ⟨false, fun R r => ?_, nofun, fun _ => ?_⟩
        · walk_at "zz"
          rw [vN_len, decide_eq_false (by omega)]
          exact r
        · have e : pw = F.pw := by
            have y : lwGo F.p F.md F.q (n + 1) pw one = some pw := if_neg hc
            rw [y] at hg
            exact Option.some.inj hg
          subst e
          have w1 : Wl (upd H l (.lst (vN F.pw))) := Wl.put wl (NoOwn.none hl) trivial
          have s1 : Same H (upd H l (.lst (vN F.pw))) := Same.new (Same.refl _) hl
          have g1 : (upd H l (.lst (vN F.pw))) l = some (.lst (vN F.pw)) := upd_same
          generalize upd H l (.lst (vN F.pw)) = A at w1 s1 g1 ⊢
          have g2 := s1 _ _ ha
          walk_at "zz"
          refine ⟨by walk_at "small", fun l4 n4 => ?_⟩
          walk_at "zz"
          refine r_rep (m := F.q) upd_same (by omega) fun l5 n5 => ?_
          have n5' := (upd_none n5).2
          have e0 : List.replicate F.q (V.int 0) = vN (List.replicate F.q 0) := vN_rep _ 0
          rw [e0]
          have w2 : Wl (upd A l4 (.lst [.int 0])) := Wl.put w1 (NoOwn.none n4) trivial
          have s2 : Same A (upd A l4 (.lst [.int 0])) := Same.new (Same.refl _) n4
          generalize upd A l4 (.lst [.int 0]) = B at w2 s2 n5 ⊢
          have g3 := s2 _ _ g1
          have g4 := s2 _ _ g2
          walk_at "zz"
          refine e_enum (SqL.of (upd_at (ne_of_none g3 n5) g3)) ?_
          walk_at "ds"
          refine lp_of (jw_enum (xs := vN F.pw) (n := F.pw.length) (vN_len _)) (fun i st C => ∃ y1 y2, st = [some (.int F.p), some (.ref a), some (.int F.q), y3, some (.ref l), some (.int one), some (.ref l5), y1, y2] ∧ C = upd B l5 (.lst (vN (placeN F.pw F.q i)))) ⟨_, _, rfl, rfl⟩ (fun i st A _ h => ?_) ?_ ?_
          · obtain ⟨_, _, _, rfl⟩ := h
            exact ⟨SqL.of (upd_at (ne_of_none g3 n5) g3), Wl.put w2 (NoOwn.none n5) trivial⟩
          · rintro i _ _ hi ⟨y1, y2, rfl, rfl⟩
            rw [vN_getD hi]
            walk_at "ds"
            walk_at "zz"
            have hP := ok.P i (by omega)
            refine' r_set (m := F.pw.getD i 0) upd_same ?hx ?_
            case hx =>
              rw [vN_len, placeN_len]
              exact ixN_in hP.2
            refine ⟨_, _, rfl, ?_⟩
            rw [upd_put, vN_set]
            rfl
          · rintro _ _ ⟨y1, y2, rfl, rfl⟩
            rw [ok.places]
            have w5 : Wl (upd B l5 (.lst (vN F.lg))) := Wl.put w2 (NoOwn.none n5) trivial
            have s5 : Same B (upd B l5 (.lst (vN F.lg))) := Same.new (Same.refl _) n5
            have g5 : (upd B l5 (.lst (vN F.lg))) l5 = some (.lst (vN F.lg)) := upd_same
            generalize upd B l5 (.lst (vN F.lg)) = C at w5 s5 g5 ⊢
            have g6 := s5 _ _ g3
            have g7 := s5 _ _ g4
            have sHC : Same H C := fun a o e => s5 _ _ (s2 _ _ (s1 _ _ e))
            walk_at "zz"
            intro d nd
            have g8 : (upd C d (.dK [])) a = some (.lst (vN F.md)) := upd_at (ne_of_none g7 nd) g7
            walk_at "zz"
            rw [ek]
            refine ⟨upd_same, wKV F l l5, rfl, (by decide : 5 ≤ 15), ?_⟩
            have em : mergeK [] (wKV F l l5) = wKV F l l5 := rfl
            rw [em, upd_put]
            have s9 : Same H (upd C d (.dK (wKV F l l5))) := Same.new sHC (sHC.free nd)
            have w9 : Wl (upd C d (.dK (wKV F l l5))) := Wl.put w5 (NoOwn.none nd) trivial
            exact ⟨_, Same.refl _, w9, Prs.same s9, k d _ s9 w9 (Prs.same s9) ⟨l, l5, upd_same, upd_at (ne_of_none g6 nd) g6, upd_at (ne_of_none g5 nd) g5⟩⟩
end
end TP
/-! part TPp -/
/-! the pot: a list that is changed at each draw; the rest stands still -/
namespace TP
open PySem PySem.Spec PyProof.Rows L2
def PotV (x y : Int) : Prop := 0 ≤ x ∧ 0 ≤ y ∧ y < 2147483700
def PotAt (H : Hp) (a : Addr) : Prop := ∃ x y, H a = some (.lst [.int x, .int y]) ∧ PotV x y
/-- H0 stands still in H, the pot is at a -/
structure Fz (H0 : Hp) (a : Addr) (H : Hp) : Prop where
  n : H0 a = none
  s : Same H0 H
  w : Wl H
  p : PotAt H a
/-- .. and is so after H -/
structure Rz (H0 : Hp) (a : Addr) (H H' : Hp) : Prop where
  f : Fz H0 a H'
  k : Prs H H'
theorem Rz.refl {H0 H : Hp} {a : Addr} (f : Fz H0 a H) : Rz H0 a H H := ⟨f, Prs.refl _⟩
theorem Fz.ne {H0 H : Hp} {a l : Addr} (f : Fz H0 a H) {o : HO} (h : H0 l = some o) : l ≠ a := fun e => by
  rw [e, f.n] at h
  cases h
theorem Fz.nea {H0 H : Hp} {a p : Addr} (f : Fz H0 a H) (n : H p = none) : p ≠ a := fun e => by
  obtain ⟨x, y, h, _⟩ := f.p
  rw [e, h] at n
  cases n
/-- what stands may be counted in -/
theorem Fz.add {H0 H : Hp} {a l : Addr} {o : HO} (f : Fz H0 a H) (h : H l = some o) (ne : l ≠ a) : Fz (upd H0 l o) a H :=
  ⟨none_upd (Ne.symm ne) f.n, Same.put f.s h, f.w, f.p⟩
theorem Fz.new {H0 H : Hp} {a p : Addr} {o : HO} (f : Fz H0 a H) (n : H p = none) (g : flatO o) : Fz (upd H0 p o) a (upd H p o) := by
  refine ⟨none_upd (Ne.symm (f.nea n)) f.n, Same.both f.s, Wl.put f.w (NoOwn.none n) g, ?_⟩
  obtain ⟨x, y, h, v⟩ := f.p
  exact ⟨x, y, upd_at (ne_of_none h n) h, v⟩
/-- a new thing that is not counted in -/
theorem Fz.skip {H0 H : Hp} {a p : Addr} {o : HO} (f : Fz H0 a H) (n : H p = none) (g : flatO o) : Fz H0 a (upd H p o) := by
  refine ⟨f.n, Same.new f.s (f.s.free n), Wl.put f.w (NoOwn.none n) g, ?_⟩
  obtain ⟨x, y, h, v⟩ := f.p
  exact ⟨x, y, upd_at (ne_of_none h n) h, v⟩
/-- a thing that is not counted in is changed -/
theorem Fz.mut {H0 H : Hp} {a l : Addr} {o u : HO} (f : Fz H0 a H) (h : H l = some u) (gu : flatO u) (n : H0 l = none) (ne : l ≠ a) (g : flatO o) : Fz H0 a (upd H l o) := by
  refine ⟨f.n, Same.new f.s n, Wl.put f.w (NoOwn.flat h gu) g, ?_⟩
  obtain ⟨x, y, h, v⟩ := f.p
  exact ⟨x, y, upd_at (Ne.symm ne) h, v⟩
/-- less is counted in -/
theorem Fz.less {H0 H1 H : Hp} {a : Addr} (f : Fz H1 a H) (s : Same H0 H1) (n : H0 a = none) : Fz H0 a H := ⟨n, fun a o e => f.s _ _ (s _ _ e), f.w, f.p⟩
/-- heaps where nothing that stood was changed -/
theorem Fz.same {H0 H H' : Hp} {a : Addr} (f : Fz H0 a H) (s : Same H H') (w : Wl H') : Fz H0 a H' := by
  obtain ⟨x, y, h, v⟩ := f.p
  exact ⟨f.n, fun a o e => s _ _ (f.s _ _ e), w, x, y, s _ _ h, v⟩
end TP
namespace TP
open PySem PySem.Spec PyProof.Rows L2
def TupOk (X : Hp) (t : Addr) (F : Fd) : Prop := ∃ md, X t = some (.tup [.int F.p, .ref md]) ∧ X md = some (.lst (vN F.md))
theorem TupOk.mono {A B : Hp} {t : Addr} {F : Fd} (e : Same A B) (h : TupOk A t F) : TupOk B t F := by
  obtain ⟨md, h1, h2⟩ := h
  exact ⟨md, e _ _ h1, e _ _ h2⟩
/-! all turn sums -/
def allMore (F : Fd) (L : List (List Nat)) : Nat → List (List Nat)
  | 0 => []
  | j + 1 => allMore F L j ++ (List.range F.q).map fun x => L.getD j [] ++ [x]
def allTo (F : Fd) : Nat → List (List Nat)
  | 0 => [[]]
  | i + 1 => allMore F (allTo F i) (allTo F i).length
def allF (F : Fd) (m : Nat) : List (List Nat) := (allTo F m).map trim
theorem allMore_len (F : Fd) (L : List (List Nat)) : ∀ j, (allMore F L j).length = j * F.q
  | 0 => by rw [Nat.zero_mul]; rfl
  | j + 1 => by
    show (allMore F L j ++ _).length = _
    rw [List.length_append, allMore_len F L j, List.length_map, List.length_range, Nat.succ_mul]
theorem allTo_len (F : Fd) : ∀ i, (allTo F i).length = F.q ^ i
  | 0 => rfl
  | i + 1 => by
    show (allMore F (allTo F i) (allTo F i).length).length = _
    rw [allMore_len, allTo_len F i, Nat.pow_succ]
end TP
namespace TP
open PySem PySem.Spec PyProof.Rows L2
/-- all but the pot -/
def frz (B : Hp) (a : Addr) : Hp := fun l => if l = a then none else B l
theorem frz_at {B : Hp} {a l : Addr} {o : HO} (n : l ≠ a) (h : B l = some o) : frz B a l = some o := by
  unfold frz
  rw [if_neg n]
  exact h
theorem frz_none {B : Hp} {a : Addr} : frz B a a = none := if_pos rfl
theorem frz_le {B : Hp} {a : Addr} : Same (frz B a) B := fun l o h => by
  unfold frz at h
  by_cases e : l = a
  · rw [if_pos e] at h
    cases h
  · rw [if_neg e] at h
    exact h
theorem Fz.frz {H0 B : Hp} {a : Addr} (f : Fz H0 a B) : Fz (frz B a) a B := ⟨frz_none, frz_le, f.w, f.p⟩
theorem Fz.le {H0 B : Hp} {a : Addr} (f : Fz H0 a B) : Same H0 (TP.frz B a) := fun l o h => frz_at (f.ne h) (f.s _ _ h)
theorem Fz.neL {H0 B : Hp} {a l : Addr} {xs : List V} (f : Fz H0 a B) (h : B l = some (.lst xs)) (n : xs.length ≠ 2) : l ≠ a := fun e => by
  obtain ⟨x, y, hp, _⟩ := f.p
  rw [e, hp] at h
  cases h
  exact n rfl
theorem Fz.neD {H0 B : Hp} {a l : Addr} {kvs : List (Key × V)} (f : Fz H0 a B) (h : B l = some (.dK kvs)) : l ≠ a := fun e => by
  obtain ⟨x, y, hp, _⟩ := f.p
  rw [e, hp] at h
  cases h
theorem WorldAt.frz {H0 B : Hp} {a d : Addr} {F : Fd} (f : Fz H0 a B) (ok : FOK F) (h : WorldAt B d F) : WorldAt (frz B a) d F := by
  obtain ⟨a0, b0, h1, h2, h3⟩ := h.ex
  have hq := ok.q
  have hp := ok.pwl
  have hl := ok.lgl
  exact ⟨a0, b0, frz_at (f.neD h1) h1, frz_at (f.neL h2 (by rw [vN_len]; omega)) h2, frz_at (f.neL h3 (by rw [vN_len]; omega)) h3⟩
end TP
namespace TP
open PySem PySem.Spec PyProof.Rows L2
theorem Rows.keepR {A : Hp} {l : Addr} {o : HO} {ws : List V} {yss : List (List Nat)} (hl : A l = some (.lst ws)) (hw : Rows A ws yss) : ∀ {vs : List V} {xss : List (List Nat)}, (∀ xs ∈ xss, xs ≠ []) → Rows A vs xss → Rows (upd A l o) vs xss
  | [], [], _, _ => True.intro
  | _ :: _, xs :: _, n, ⟨⟨a, h1, h2⟩, h3⟩ => ⟨⟨a, h1, by
    have ne : a ≠ l := fun e => by
      rw [e, hl] at h2
      have z := HO.lst.inj (Option.some.inj h2)
      have nx := n xs (List.mem_cons_self ..)
      cases xs with
      | nil => exact nx rfl
      | cons x xs =>
        rw [z] at hw
        cases yss with
        | nil => exact hw
        | cons y ys =>
          obtain ⟨⟨b, e2, _⟩, _⟩ := hw
          cases e2
    rw [upd_ne ne]
    exact h2⟩, Rows.keepR hl hw (fun ys m => n ys (List.mem_cons_of_mem _ m)) h3⟩
theorem allMore_mem (F : Fd) (L : List (List Nat)) : ∀ j, j ≤ L.length → ∀ r, r ∈ allMore F L j ↔ ∃ o x, o ∈ L.take j ∧ x < F.q ∧ r = o ++ [x]
  | 0, _, r => by
    constructor
    · intro h; cases h
    · rintro ⟨o, x, h, _⟩
      rw [List.take_zero] at h
      cases h
  | j + 1, hj, r => by
    have e : allMore F L (j + 1) = allMore F L j ++ (List.range F.q).map fun x => L.getD j [] ++ [x] := rfl
    have et : L.take (j + 1) = L.take j ++ [L.getD j []] := by
      rw [List.take_add_one, List.getElem?_eq_getElem (by omega), List.getD_eq_getElem?_getD, List.getElem?_eq_getElem (by omega)]
      rfl
    rw [e, List.mem_append, allMore_mem F L j (by omega) r, et]
    constructor
    · rintro (⟨o, x, h, hx, er⟩ | h)
      · exact ⟨o, x, List.mem_append_left _ h, hx, er⟩
      · obtain ⟨x, hx, er⟩ := List.mem_map.mp h
        exact ⟨_, x, List.mem_append_right _ (List.mem_singleton.mpr rfl), List.mem_range.mp hx, er.symm⟩
    · rintro ⟨o, x, h, hx, er⟩
      rcases List.mem_append.mp h with h | h
      · exact .inl ⟨o, x, h, hx, er⟩
      · refine .inr (List.mem_map.mpr ⟨x, List.mem_range.mpr hx, ?_⟩)
        rw [er, List.mem_singleton.mp h]
theorem allTo_row (F : Fd) : ∀ i, ∀ r ∈ allTo F i, r.length = i ∧ El F r
  | 0, r, h => by
    rw [List.mem_singleton.mp h]
    exact ⟨rfl, fun x m => by cases m⟩
  | i + 1, r, h => by
    obtain ⟨o, x, ho, hx, er⟩ := (allMore_mem F (allTo F i) _ (Nat.le_refl _) r).mp h
    rw [List.take_length] at ho
    obtain ⟨h1, h2⟩ := allTo_row F i o ho
    rw [er]
    refine ⟨by rw [List.length_append, h1]; rfl, fun y m => ?_⟩
    rcases List.mem_append.mp m with m | m
    · exact h2 y m
    · rw [List.mem_singleton.mp m]
      exact hx
end TP
/-! part L5 -/
set_option maxHeartbeats 1000000
namespace TP
open PySem PySem.Spec PyProof.Rows L2
set_option hygiene false in
local macro_rules | `(tactic| walk_at "ne") => `(tactic| first | assumption | exact Ne.symm (by assumption) | exact ne_of_none (H := H) (by assumption) (by assumption) | exact (ne_of_none (H := H) (by assumption) (by assumption)).symm | exact ne_of_none (H := A) (by assumption) (by assumption) | exact (ne_of_none (H := A) (by assumption) (by assumption)).symm)
local macro_rules | `(tactic| walk_at "get") => `(tactic| first | assumption | exact upd_same | (refine upd_at ?_ ?_; (focus walk_at "ne"); (walk_at "get")))
local macro_rules | `(tactic| walk_at "nn") => `(tactic| first | assumption | (refine none_upd ?_ ?_; (focus walk_at "ne"); (walk_at "nn")))
local macro_rules | `(tactic| walk_at "same") => `(tactic| first | exact Same.refl _ | assumption | (refine Same.both ?_; walk_at "same") | (refine TP.Same.new ?_ ?_; (focus walk_at "same"); (walk_at "nn")) | (refine Same.put ?_ ?_; (focus walk_at "same"); (walk_at "get")))
local macro_rules | `(tactic| walk_at "noown") => `(tactic| first | exact NoOwn.none (by assumption) | (refine NoOwn.upd ?_ True.intro; walk_at "noown"))
local macro_rules | `(tactic| walk_at "wl") => `(tactic| first | assumption | (refine Wl.put ?_ ?_ True.intro; (focus walk_at "wl"); (walk_at "noown")))
local macro_rules | `(tactic| walk_at "sq") => `(tactic| first | assumption | exact SqL.of (by walk_at "get"))
set_option hygiene false in
local macro_rules | `(tactic| walk_at "f1") => `(tactic| obtain ⟨_, hp⟩ := upd_none hp)
set_option hygiene false in
local macro_rules | `(tactic| walk_at "f2") => `(tactic| (obtain ⟨_, hp⟩ := upd_none hp; obtain ⟨_, hp⟩ := upd_none hp))
set_option hygiene false in
local macro_rules | `(tactic| walk_at "f3") => `(tactic| (obtain ⟨_, hp⟩ := upd_none hp; obtain ⟨_, hp⟩ := upd_none hp; obtain ⟨_, hp⟩ := upd_none hp))
set_option hygiene false in
local macro_rules | `(tactic| walk_at "f4") => `(tactic| (obtain ⟨_, hp⟩ := upd_none hp; obtain ⟨_, hp⟩ := upd_none hp; obtain ⟨_, hp⟩ := upd_none hp; obtain ⟨_, hp⟩ := upd_none hp))
set_option hygiene false in
local macro_rules | `(tactic| walk_at "fa") => `(tactic| first
  | ((with_reducible refine' z_own_prime T ?hv ?hh ?_); (case hv => exact rfl); (case hh => walk_at "get"))
  | ((with_reducible refine' z_own_turns T ?hv ?hh ?_); (case hv => exact rfl); (case hh => walk_at "get"))
  | ((with_reducible refine' z_own_size T ?hv ?hh ?_); (case hv => exact rfl); (case hh => walk_at "get"))
  | ((with_reducible refine' z_own_powers T ?hv ?hh ?_); (case hv => exact rfl); (case hh => walk_at "get"))
  | ((with_reducible refine' z_own_logs T ?hv ?hh ?_); (case hv => exact rfl); (case hh => walk_at "get"))
  | ((with_reducible refine' z_own_field T ?hv ?hh ?_); (case hv => exact rfl); (case hh => walk_at "get"))
  | ((with_reducible refine' z_own_points T ?hv ?hh ?_); (case hv => exact rfl); (case hh => walk_at "get"))
  | ((with_reducible refine' z_own_many T ?hv ?hh ?_); (case hv => exact rfl); (case hh => walk_at "get")))
local macro_rules | `(tactic| walk_at "z") => `(tactic| first
  | with_reducible refine z_seq ?_
  | with_reducible refine z_asg ?_
  | with_reducible refine z_name ?_
  | ((with_reducible refine' z_var ?hv ?_); (case hv => exact rfl))
  | with_reducible refine z_c ?_
  | with_reducible refine z_op ?_
  | with_reducible refine r_I0 ?_
  | ((with_reducible refine r_I ?hc ?_); (case hc => walk_at "ar"))
  | ((with_reducible refine' r_app ?ha ?hz ?_); (case ha => walk_at "get"); (case hz => walk_at "sz"))
  | ((with_reducible refine' z_tyl ?ha ?_); (case ha => walk_at "get"))
  | with_reducible refine z_cons ?_
  | ((with_reducible refine' r_len ?ha ?_); (case ha => walk_at "sq"))
  | with_reducible refine z_nil ?_
  | walk_at "fa"
  | walk_at "fd"
  | with_reducible refine z_test ?_
  | with_reducible refine z_bl ?_
  | with_reducible refine z_tB ?_
  | with_reducible refine r_eq ?_
  | with_reducible refine r_ne ?_
  | with_reducible refine z_ifS ?_
  | with_reducible refine z_ret ?_
  | with_reducible refine z_drop ?_
  | with_reducible refine z_cb ?_
  | with_reducible refine z_call ?_
  | with_reducible refine z_bm ?_
  | with_reducible refine z_bm0 ?_
  | with_reducible refine z_lst ?_
  | with_reducible refine z_tup ?_
  | with_reducible refine z_un ?_
  | with_reducible refine r_U ?_
  | with_reducible refine z_par ?_
  | with_reducible refine z_par3 ?_
  | with_reducible refine z_two ?_
  | with_reducible refine z_three ?_
  | with_reducible refine z_sub ?_
  | with_reducible refine z_for ?_
  | with_reducible refine z_lc ?_
  | with_reducible refine z_ifE ?_
  | with_reducible refine z_and ?_
  | with_reducible refine z_or ?_
  | with_reducible refine z_not ?_
  | with_reducible refine z_yes ?_
  | with_reducible refine z_andV ?_
  | with_reducible refine z_orV ?_
  | with_reducible refine z_notV ?_
  | with_reducible refine z_sl ?_
  | with_reducible refine z_noP ?_
  | with_reducible refine z_part ?_
  | with_reducible refine z_int ?_
  | with_reducible refine z_revL ?_
  | with_reducible refine z_next ?_
  | with_reducible refine z_sf ?_
  | with_reducible refine z_f ?_
  | with_reducible refine z_tf ?_
  | with_reducible refine z_disp ?_
  | with_reducible refine z_pc ?_
  | with_reducible refine z_pn ?_
  | with_reducible refine z_i1 ?_
  | with_reducible refine i_rng3 ?_
  | with_reducible refine z_chain ?_
  | with_reducible refine z_nT ?_
  | with_reducible refine z_nF ?_
  | with_reducible refine z_sfld ?_
  | with_reducible refine i_rng1 ?_
  | with_reducible refine i_rng2 ?_
  | with_reducible refine i_list ?_
  | with_reducible refine i_zip ?_
  | with_reducible refine i_enum ?_
  | with_reducible refine z_tt ?_
  | with_reducible refine z_ff ?_)
local macro_rules | `(tactic| walk_at "zz") => `(tactic| repeat walk_at "z")
set_option hygiene false in
local macro_rules | `(tactic| walk_at "len") => `(tactic| first | (obtain ⟨rfl, _⟩ := h; rfl) | (obtain ⟨_, rfl, _⟩ := h; rfl) | (obtain ⟨_, _, rfl, _⟩ := h; rfl) | (obtain ⟨_, _, _, rfl, _⟩ := h; rfl) | (obtain ⟨_, _, _, _, rfl, _⟩ := h; rfl) | (obtain ⟨_, _, _, _, _, rfl, _⟩ := h; rfl) | (obtain ⟨_, _, _, _, _, _, rfl, _⟩ := h; rfl) | (obtain ⟨_, _, _, _, _, _, _, rfl, _⟩ := h; rfl) | (obtain ⟨_, _, _, _, _, _, _, _, rfl, _⟩ := h; rfl) | (obtain ⟨_, _, _, _, _, _, _, _, _, rfl, _⟩ := h; rfl) | (obtain ⟨_, _, _, _, _, _, _, _, _, _, rfl, _⟩ := h; rfl) | (obtain ⟨_, _, _, _, _, _, _, _, _, _, _, rfl, _⟩ := h; rfl) | (obtain ⟨_, _, _, _, _, _, _, _, _, _, _, _, rfl, _⟩ := h; rfl) | (obtain ⟨_, _, _, _, _, _, _, _, _, _, _, _, _, rfl, _⟩ := h; rfl) | (obtain ⟨_, _, _, _, _, _, _, _, _, _, _, _, _, _, rfl, _⟩ := h; rfl) | (obtain ⟨_, _, _, _, _, _, _, _, _, _, _, _, _, _, _, rfl, _⟩ := h; rfl) | (obtain ⟨_, _, _, _, _, _, _, _, _, _, _, _, _, _, _, _, rfl, _⟩ := h; rfl))
local macro_rules | `(tactic| walk_at "small") => `(tactic| first | exact Nat.zero_le _ | exact (by decide : 1 ≤ sizeLine) | exact (by decide : 2 ≤ sizeLine) | exact (by decide : 3 ≤ sizeLine) | exact (by decide : 4 ≤ sizeLine) | exact (by decide : 5 ≤ sizeLine) | exact (by decide : 6 ≤ sizeLine))
local macro_rules | `(tactic| walk_at "dn") => `(tactic| dsimp only [cxOf, L2.start, List.map, List.length, List.replicate, List.cons_append, List.nil_append, Nat.reduceAdd, Nat.reduceSub, Nat.zero_add])
local macro_rules | `(tactic| walk_at "ar") => `(tactic| first | assumption | (show _ < _; omega) | (show _ < _ ∧ _ < _; omega) | (left; show _ < _ ∧ _ < _; constructor <;> omega) | (right; show _ < _ ∧ _ < _; constructor <;> omega))
local macro_rules | `(tactic| walk_at "sz") => `(tactic| first | omega | (simp only [vN_len, List.length_append, List.length_cons, List.length_nil, List.length_map, List.length_range, List.length_replicate, List.length_set, List.length_take, List.length_drop, List.length_reverse]; omega))
local macro_rules | `(tactic| walk_at "ds") => `(tactic| try dsimp only [List.set])
set_option hygiene false in
local macro_rules | `(tactic| walk_at "endL") => `(tactic| (refine' ⟨_, ?e1, ?e2, ?e3, k p hp⟩; (case e1 => walk_at "same"); (case e2 => walk_at "wl"); (case e3 => exact Prs.same (by walk_at "same"))))
set_option hygiene false in
local macro_rules | `(tactic| walk_at "endS") => `(tactic| exact ⟨H, by walk_at "same", wl, Prs.refl _, k⟩)
set_option hygiene false in
local macro_rules | `(tactic| walk_at "endQ") => `(tactic| (refine' ⟨_, ?e1, ?e2, ?e3, k q hp⟩; (case e1 => walk_at "same"); (case e2 => walk_at "wl"); (case e3 => exact Prs.same (by walk_at "same"))))
local macro_rules | `(tactic| walk_at "f5") => `(tactic| (walk_at "f1"; walk_at "f4"))
local macro_rules | `(tactic| walk_at "f6") => `(tactic| (walk_at "f2"; walk_at "f4"))
local macro_rules | `(tactic| walk_at "f7") => `(tactic| (walk_at "f3"; walk_at "f4"))
set_option hygiene false in
local macro_rules | `(tactic| walk_at "fd") => `(tactic| first
  | ((with_reducible refine' z_w_prime ?hv ?hh ?_); (case hv => exact rfl); (case hh => assumption))
  | ((with_reducible refine' z_w_turns ?hv ?hh ?_); (case hv => exact rfl); (case hh => assumption))
  | ((with_reducible refine' z_w_size ?hv ?hh ?_); (case hv => exact rfl); (case hh => assumption))
  | ((with_reducible refine' z_w_powers ?hv ?hh ?_); (case hv => exact rfl); (case hh => assumption))
  | ((with_reducible refine' z_w_places ?hv ?hh ?_); (case hv => exact rfl); (case hh => assumption))
  | ((with_reducible refine' z_t_prime ?hv ?hh ?_); (case hv => exact rfl); (case hh => assumption))
  | ((with_reducible refine' z_t_modulus ?hv ?hh ?_); (case hv => exact rfl); (case hh => assumption))
  | ((with_reducible refine' z_t_world ?hv ?hh ?_); (case hv => exact rfl); (case hh => assumption))
  | ((with_reducible refine' z_t_points ?hv ?hh ?_); (case hv => exact rfl); (case hh => assumption))
  | ((with_reducible refine' z_t_many ?hv ?hh ?_); (case hv => exact rfl); (case hh => assumption))
  | ((with_reducible refine' z_t_reach ?hv ?hh ?_); (case hv => exact rfl); (case hh => assumption)))
section
variable {P : Program} {w : World} {K : PySem.W.Frag} {mg : Str → Option Value} {base : Heap}
theorem sc__law_pot : FnScope ["_law_script", "_law_k", "_law_cell"] ["_law_script", "_law_k"] (defScope s__law_pot) := ⟨rfl, rfl, rfl, by decide +kernel, rfl, by decide +kernel, by decide +kernel⟩
def sp__law_pot (K : PySem.W.Frag) : Sp := fun vs H Q _ => ∃ (a : Addr) (ns : List Int), vs = [.ref a, .int 0] ∧ Wl H ∧ SqL K H a (ns.map V.int) ∧ ∀ p x y, H p = none → PotV x y → Q (.ref p) (upd H p (.lst [.int x, .int y]))
theorem ok__law_pot (T : Txt K mg) : FnAt P w K mg base 1 "_law_pot" ["_law_script", "_law_k"] (sp__law_pot K) := by
  refine FnAt.of T 65 63 (d := d__law_pot) (k := 0) rfl rfl rfl rfl rfl sc__law_pot (fun _ _ _ _ _ _ us hl => match us, hl with | [_, _], _ => rfl) (fun vs H Q E h => by walk_at "len") (fun f_ cdv A outer s H vs Q E hr h => ?_)
  obtain ⟨a, ns, rfl, wl, ha, k⟩ := h
  refine ⟨_, (pss_cons (ps_set (i := 2) sc__law_pot.nd rfl (Or.inl rfl) (pe_ifExp (pt_cmpR op_lt (pv 1) (pe_callB (call_lenK (K := K) rfl) (by rfl) T.n_len (by decide +kernel) (pa_cons (pv 0) pa_nil)) (nomark _)) (pe_callB call_abs (by rfl) T.n_abs (by decide +kernel) (pa_cons (pe_ix (ix_listK (K := K) rfl) (pv 0) (pv 1) (fun _ _ => rfl)) pa_nil)) (pe_op op_add (pe_op op_mul pe_int (pv 1)) pe_int)))
    (pss_one (ps_ret (pe_lst (pa_cons (pe_callB (call_max2 rfl) (by rfl) T.n_max (by decide +kernel) (pa_cons pe_int (pa_cons (pe_op op_sub (pv 2) (pe_op op_pow pe_int pe_int)) pa_nil))) (pa_cons (pe_op op_add (pe_op op_mod (pe_callTy call_int1 (by rfl) T.n_int (by decide +kernel) (pa_cons (pe_op op_add (pe_op op_add (pe_op op_mul (pe_op op_mod (pe_callTy call_int1 (by rfl) T.n_int (by decide +kernel) (pa_cons (pv 2) pa_nil)) pe_int) pe_int) (pe_op op_mul pe_int (pv 1))) pe_int) pa_nil)) pe_int) pe_int) pa_nil)))))), ?_⟩
  walk_at "dn"
  walk_at "zz"
  rw [List.length_map]
  refine z_dec (fun hc => ?_) (fun hc => ?_)
  · walk_at "zz"
    obtain ⟨n0, rest, rfl⟩ : ∃ n0 rest, ns = n0 :: rest := by
      cases ns with
      | nil => exact absurd hc (by decide)
      | cons n0 rest => exact ⟨n0, rest, rfl⟩
    refine r_ixL ha (k := ((0 : Nat) : Int)) (v := .int n0) (atI_nat rfl) ?_
    walk_at "zz"
    refine ⟨_, rfl, ?_⟩
    dsimp only
    generalize (if n0 < 0 then -n0 else n0) = c
    walk_at "zz"
    refine r_I (C := CPow) (⟨by decide, by decide, by decide⟩ : CPow 10 18) ?_
    walk_at "zz"
    refine ⟨_, _, rfl, ?_⟩
    walk_at "zz"
    refine .inl ⟨_, rfl, ?_⟩
    walk_at "zz"
    refine .inl ⟨_, rfl, ?_⟩
    walk_at "zz"
    refine ⟨by walk_at "small", fun p hp => ?_⟩
    refine ⟨_, Same.refl _, by walk_at "wl", Prs.same (by walk_at "same"), k p _ _ hp ⟨?_, ?_, ?_⟩⟩
    · split <;> omega
    · have := Int.emod_nonneg (c % 2147483549 * 48271 + 7963 * 0 + 31) (show (2147483563 : Int) ≠ 0 by decide)
      omega
    · have := Int.emod_lt_of_pos (c % 2147483549 * 48271 + 7963 * 0 + 31) (show (0 : Int) < 2147483563 by decide)
      omega
  · walk_at "zz"
    refine r_I (C := CPow) (⟨by decide, by decide, by decide⟩ : CPow 10 18) ?_
    walk_at "zz"
    refine ⟨_, _, rfl, ?_⟩
    walk_at "zz"
    refine .inl ⟨_, rfl, ?_⟩
    walk_at "zz"
    refine .inl ⟨_, rfl, ?_⟩
    walk_at "zz"
    refine ⟨by walk_at "small", fun p hp => ?_⟩
    refine ⟨_, Same.refl _, by walk_at "wl", Prs.same (by walk_at "same"), k p _ _ hp ⟨?_, ?_, ?_⟩⟩
    · split <;> omega
    · have := Int.emod_nonneg ((487 * 0 + 449 : Int) % 2147483549 * 48271 + 7963 * 0 + 31) (show (2147483563 : Int) ≠ 0 by decide)
      omega
    · have := Int.emod_lt_of_pos ((487 * 0 + 449 : Int) % 2147483549 * 48271 + 7963 * 0 + 31) (show (0 : Int) < 2147483563 by decide)
      omega
theorem sc__law_draw : FnScope ["_law_pot_here", "_law_many", "_law_digit"] ["_law_pot_here", "_law_many"] (defScope s__law_draw) := ⟨rfl, rfl, rfl, by decide +kernel, rfl, by decide +kernel, by decide +kernel⟩
def sp__law_draw (K : PySem.W.Frag) : Sp := fun vs H Q _ => ∃ (a : Addr) (m : Nat) (H0 : Hp), vs = [.ref a, .int m] ∧ Fz H0 a H ∧ 1 ≤ m ∧ m < 1000 ∧ ∀ (d : Nat) H', d < m → Rz H0 a H H' → Q (.int d) H'
theorem ok__law_draw (T : Txt K mg) : FnAt P w K mg base 1 "_law_draw" ["_law_pot_here", "_law_many"] (sp__law_draw K) := by
  refine FnAt.of T 66 64 (d := d__law_draw) (k := 0) rfl rfl rfl rfl rfl sc__law_draw (fun _ _ _ _ _ _ us hl => match us, hl with | [_, _], _ => rfl) (fun vs H Q E h => by walk_at "len") (fun f_ cdv A outer s H vs Q E hr h => ?_)
  obtain ⟨a, m, H0, rfl, f, hm, hm2, k⟩ := h
  obtain ⟨x, y, ha, hx, hy, hy2⟩ := f.p
  refine ⟨_, (pss_cons (ps_if (pt_cmpR op_gt (pe_ix (ix_listK (K := K) rfl) (pv 0) pe_int (fun _ _ => rfl)) pe_int (nomark _)) (pss_cons (ps_f (ps_asg (pe_callB call_divmod (by rfl) T.n_divmod (by decide +kernel) (pa_cons (pe_ix (ix_listK (K := K) rfl) (pv 0) pe_int (fun _ _ => rfl)) (pa_cons (pv 1) pa_nil))) (pg_tup (n := 2) rfl (pgs_cons (pg_sub (pv 0) pe_int set_list) (pgs_cons (pg_name (i := 2) sc__law_draw.nd rfl (Or.inl rfl)) pgs_nil)))))
    (pss_one (ps_ret (pv 2)))) pss_nil)
    (pss_cons (ps_asg (pe_op op_mod (pe_callTy call_int1 (by rfl) T.n_int (by decide +kernel) (pa_cons (pe_op op_add (pe_op op_mul (pe_ix (ix_listK (K := K) rfl) (pv 0) pe_int (fun _ _ => rfl)) pe_int) pe_int) pa_nil)) pe_int) (pg_sub (pv 0) pe_int set_list))
    (pss_one (ps_ret (pe_op op_mod (pe_callTy call_int1 (by rfl) T.n_int (by decide +kernel) (pa_cons (pe_op op_fdiv (pe_op op_mod (pe_callTy call_int1 (by rfl) T.n_int (by decide +kernel) (pa_cons (pe_op op_mul (pe_ix (ix_listK (K := K) rfl) (pv 0) pe_int (fun _ _ => rfl)) (pe_ix (ix_listK (K := K) rfl) (pv 0) pe_int (fun _ _ => rfl))) pa_nil)) pe_int) pe_int) pa_nil)) (pv 1)))))), ?_⟩
  walk_at "dn"
  walk_at "zz"
  refine r_ixL (SqL.of ha) (k := ((0 : Nat) : Int)) (v := .int x) rfl ?_
  walk_at "zz"
  refine z_dec (fun hc => ?_) (fun hc => ?_)
  · walk_at "zz"
    refine r_ixL (SqL.of ha) (k := ((0 : Nat) : Int)) (v := .int x) rfl ?_
    walk_at "zz"
    refine ⟨_, _, rfl, ⟨by omega, by omega⟩, fun p np => ?_⟩
    have hpa := f.nea np
    have w1 : Wl (upd H p (.tup [.int (x / m), .int (x % m)])) := Wl.put f.w (NoOwn.none np) trivial
    refine ⟨p, [.int (x / m), .int (x % m)], rfl, SqT.of upd_same, rfl, _, _, rfl, ?_⟩
    walk_at "zz"
    refine' r_set (m := 0) (upd_at (Ne.symm hpa) ha) rfl ?_
    refine ⟨_, _, rfl, ?_⟩
    walk_at "zz"
    refine ⟨rfl, ?_⟩
    have hx2 : 0 ≤ x / (m : Int) := Int.ediv_nonneg hx (by omega)
    have hd1 : 0 ≤ x % (m : Int) := Int.emod_nonneg _ (by omega)
    have hd2 : x % (m : Int) < (m : Int) := Int.emod_lt_of_pos _ (by omega)
    have f2 : Fz H0 a (upd H a (.lst [.int (x / m), .int y])) := ⟨f.n, Same.new f.s f.n, Wl.put f.w (NoOwn.flat ha trivial) trivial, _, _, upd_same, hx2, hy, hy2⟩
    have pr : Prs H (upd H a (.lst [.int (x / m), .int y])) := Prs.mut ha (fun z => z)
    have ed : x % (m : Int) = (((x % (m : Int)).toNat : Nat) : Int) := by omega
    refine ⟨upd H a (.lst [.int (x / m), .int y]), Same.both (Same.new (Same.refl _) np), f2.w, pr, ?_⟩
    walk_at "zz"
    rw [ed]
    exact ⟨upd H a (.lst [.int (x / m), .int y]), Same.refl _, f2.w, pr, k _ _ (by omega) ⟨f2, pr⟩⟩
  · walk_at "zz"
    refine r_ixL (SqL.of ha) (k := ((1 : Nat) : Int)) (v := .int y) rfl ?_
    walk_at "zz"
    have kN : ∀ (z : Int) H', Rz H0 a H H' → Q (.int (z % (m : Int))) H' := fun z H' r => by
      have h1 : 0 ≤ z % (m : Int) := Int.emod_nonneg _ (by omega)
      have h2 : z % (m : Int) < (m : Int) := Int.emod_lt_of_pos _ (by omega)
      have e : z % (m : Int) = (((z % (m : Int)).toNat : Nat) : Int) := by omega
      rw [e]
      exact k _ _ (by omega) r
    refine .inl ⟨_, rfl, ?_⟩
    walk_at "zz"
    have b1 := Int.emod_nonneg (y * 39373 + 7963) (show (2147483587 : Int) ≠ 0 by decide)
    have b2 := Int.emod_lt_of_pos (y * 39373 + 7963) (show (0 : Int) < 2147483587 by decide)
    generalize (y * 39373 + 7963) % 2147483587 = y2 at b1 b2 ⊢
    refine r_set (m := 1) ha rfl ?_
    have el : [V.int x, V.int y].set 1 (.int y2) = [.int x, .int y2] := rfl
    rw [el]
    have f2 : Fz H0 a (upd H a (.lst [.int x, .int y2])) := ⟨f.n, Same.new f.s f.n, Wl.put f.w (NoOwn.flat ha trivial) trivial, _, _, upd_same, hx, b1, by omega⟩
    have pr : Prs H (upd H a (.lst [.int x, .int y2])) := Prs.mut ha (fun z => z)
    have g : (upd H a (.lst [.int x, .int y2])) a = some (.lst [.int x, .int y2]) := upd_same
    generalize upd H a (.lst [.int x, .int y2]) = A at f2 pr g ⊢
    walk_at "zz"
    refine r_ixL (SqL.of g) (k := ((1 : Nat) : Int)) (v := .int y2) (atI_nat rfl) ?_
    walk_at "zz"
    refine r_ixL (SqL.of g) (k := ((1 : Nat) : Int)) (v := .int y2) (atI_nat rfl) ?_
    walk_at "zz"
    refine .inl ⟨_, rfl, ?_⟩
    walk_at "zz"
    refine .inl ⟨_, rfl, ?_⟩
    walk_at "zz"
    exact ⟨A, Same.refl _, f2.w, pr, kN _ _ ⟨f2, pr⟩⟩
end
end TP
/-! part L6 -/
set_option maxHeartbeats 1000000
namespace TP
open PySem PySem.Spec PyProof.Rows L2
set_option hygiene false in
local macro_rules | `(tactic| walk_at "ne") => `(tactic| first | assumption | exact Ne.symm (by assumption) | exact ne_of_none (H := H) (by assumption) (by assumption) | exact (ne_of_none (H := H) (by assumption) (by assumption)).symm | exact ne_of_none (H := A) (by assumption) (by assumption) | exact (ne_of_none (H := A) (by assumption) (by assumption)).symm)
local macro_rules | `(tactic| walk_at "get") => `(tactic| first | assumption | exact upd_same | (refine upd_at ?_ ?_; (focus walk_at "ne"); (walk_at "get")))
local macro_rules | `(tactic| walk_at "nn") => `(tactic| first | assumption | (refine none_upd ?_ ?_; (focus walk_at "ne"); (walk_at "nn")))
local macro_rules | `(tactic| walk_at "same") => `(tactic| first | exact Same.refl _ | assumption | (refine Same.both ?_; walk_at "same") | (refine TP.Same.new ?_ ?_; (focus walk_at "same"); (walk_at "nn")) | (refine Same.put ?_ ?_; (focus walk_at "same"); (walk_at "get")))
local macro_rules | `(tactic| walk_at "noown") => `(tactic| first | exact NoOwn.none (by assumption) | (refine NoOwn.upd ?_ True.intro; walk_at "noown"))
local macro_rules | `(tactic| walk_at "wl") => `(tactic| first | assumption | (refine Wl.put ?_ ?_ True.intro; (focus walk_at "wl"); (walk_at "noown")))
local macro_rules | `(tactic| walk_at "sq") => `(tactic| first | assumption | exact SqL.of (by walk_at "get"))
set_option hygiene false in
local macro_rules | `(tactic| walk_at "f1") => `(tactic| obtain ⟨_, hp⟩ := upd_none hp)
set_option hygiene false in
local macro_rules | `(tactic| walk_at "f2") => `(tactic| (obtain ⟨_, hp⟩ := upd_none hp; obtain ⟨_, hp⟩ := upd_none hp))
set_option hygiene false in
local macro_rules | `(tactic| walk_at "f3") => `(tactic| (obtain ⟨_, hp⟩ := upd_none hp; obtain ⟨_, hp⟩ := upd_none hp; obtain ⟨_, hp⟩ := upd_none hp))
set_option hygiene false in
local macro_rules | `(tactic| walk_at "f4") => `(tactic| (obtain ⟨_, hp⟩ := upd_none hp; obtain ⟨_, hp⟩ := upd_none hp; obtain ⟨_, hp⟩ := upd_none hp; obtain ⟨_, hp⟩ := upd_none hp))
set_option hygiene false in
local macro_rules | `(tactic| walk_at "fa") => `(tactic| first
  | ((with_reducible refine' z_own_prime T ?hv ?hh ?_); (case hv => exact rfl); (case hh => walk_at "get"))
  | ((with_reducible refine' z_own_turns T ?hv ?hh ?_); (case hv => exact rfl); (case hh => walk_at "get"))
  | ((with_reducible refine' z_own_size T ?hv ?hh ?_); (case hv => exact rfl); (case hh => walk_at "get"))
  | ((with_reducible refine' z_own_powers T ?hv ?hh ?_); (case hv => exact rfl); (case hh => walk_at "get"))
  | ((with_reducible refine' z_own_logs T ?hv ?hh ?_); (case hv => exact rfl); (case hh => walk_at "get"))
  | ((with_reducible refine' z_own_field T ?hv ?hh ?_); (case hv => exact rfl); (case hh => walk_at "get"))
  | ((with_reducible refine' z_own_points T ?hv ?hh ?_); (case hv => exact rfl); (case hh => walk_at "get"))
  | ((with_reducible refine' z_own_many T ?hv ?hh ?_); (case hv => exact rfl); (case hh => walk_at "get")))
local macro_rules | `(tactic| walk_at "z") => `(tactic| first
  | with_reducible refine z_seq ?_
  | with_reducible refine z_asg ?_
  | with_reducible refine z_name ?_
  | ((with_reducible refine' z_var ?hv ?_); (case hv => exact rfl))
  | with_reducible refine z_c ?_
  | with_reducible refine z_op ?_
  | with_reducible refine r_I0 ?_
  | ((with_reducible refine r_I ?hc ?_); (case hc => walk_at "ar"))
  | ((with_reducible refine' r_app ?ha ?hz ?_); (case ha => walk_at "get"); (case hz => walk_at "sz"))
  | ((with_reducible refine' z_tyl ?ha ?_); (case ha => walk_at "get"))
  | with_reducible refine z_cons ?_
  | ((with_reducible refine' r_len ?ha ?_); (case ha => walk_at "sq"))
  | with_reducible refine z_nil ?_
  | walk_at "fa"
  | walk_at "fd"
  | with_reducible refine z_test ?_
  | with_reducible refine z_bl ?_
  | with_reducible refine z_tB ?_
  | with_reducible refine r_eq ?_
  | with_reducible refine r_ne ?_
  | with_reducible refine z_ifS ?_
  | with_reducible refine z_ret ?_
  | with_reducible refine z_drop ?_
  | with_reducible refine z_cb ?_
  | with_reducible refine z_call ?_
  | with_reducible refine z_bm ?_
  | with_reducible refine z_bm0 ?_
  | with_reducible refine z_lst ?_
  | with_reducible refine z_tup ?_
  | with_reducible refine z_un ?_
  | with_reducible refine r_U ?_
  | with_reducible refine z_par ?_
  | with_reducible refine z_par3 ?_
  | with_reducible refine z_two ?_
  | with_reducible refine z_three ?_
  | with_reducible refine z_sub ?_
  | with_reducible refine z_for ?_
  | with_reducible refine z_lc ?_
  | with_reducible refine z_ifE ?_
  | with_reducible refine z_and ?_
  | with_reducible refine z_or ?_
  | with_reducible refine z_not ?_
  | with_reducible refine z_yes ?_
  | with_reducible refine z_andV ?_
  | with_reducible refine z_orV ?_
  | with_reducible refine z_notV ?_
  | with_reducible refine z_sl ?_
  | with_reducible refine z_noP ?_
  | with_reducible refine z_part ?_
  | with_reducible refine z_int ?_
  | with_reducible refine z_revL ?_
  | with_reducible refine z_next ?_
  | with_reducible refine z_sf ?_
  | with_reducible refine z_f ?_
  | with_reducible refine z_tf ?_
  | with_reducible refine z_disp ?_
  | with_reducible refine z_pc ?_
  | with_reducible refine z_pn ?_
  | with_reducible refine z_i1 ?_
  | with_reducible refine i_rng3 ?_
  | with_reducible refine z_chain ?_
  | with_reducible refine z_nT ?_
  | with_reducible refine z_nF ?_
  | with_reducible refine z_sfld ?_
  | with_reducible refine i_rng1 ?_
  | with_reducible refine i_rng2 ?_
  | with_reducible refine i_list ?_
  | with_reducible refine i_zip ?_
  | with_reducible refine i_enum ?_
  | with_reducible refine z_tt ?_
  | with_reducible refine z_ff ?_)
local macro_rules | `(tactic| walk_at "zz") => `(tactic| repeat walk_at "z")
set_option hygiene false in
local macro_rules | `(tactic| walk_at "len") => `(tactic| first | (obtain ⟨rfl, _⟩ := h; rfl) | (obtain ⟨_, rfl, _⟩ := h; rfl) | (obtain ⟨_, _, rfl, _⟩ := h; rfl) | (obtain ⟨_, _, _, rfl, _⟩ := h; rfl) | (obtain ⟨_, _, _, _, rfl, _⟩ := h; rfl) | (obtain ⟨_, _, _, _, _, rfl, _⟩ := h; rfl) | (obtain ⟨_, _, _, _, _, _, rfl, _⟩ := h; rfl) | (obtain ⟨_, _, _, _, _, _, _, rfl, _⟩ := h; rfl) | (obtain ⟨_, _, _, _, _, _, _, _, rfl, _⟩ := h; rfl) | (obtain ⟨_, _, _, _, _, _, _, _, _, rfl, _⟩ := h; rfl) | (obtain ⟨_, _, _, _, _, _, _, _, _, _, rfl, _⟩ := h; rfl) | (obtain ⟨_, _, _, _, _, _, _, _, _, _, _, rfl, _⟩ := h; rfl) | (obtain ⟨_, _, _, _, _, _, _, _, _, _, _, _, rfl, _⟩ := h; rfl) | (obtain ⟨_, _, _, _, _, _, _, _, _, _, _, _, _, rfl, _⟩ := h; rfl) | (obtain ⟨_, _, _, _, _, _, _, _, _, _, _, _, _, _, rfl, _⟩ := h; rfl) | (obtain ⟨_, _, _, _, _, _, _, _, _, _, _, _, _, _, _, rfl, _⟩ := h; rfl) | (obtain ⟨_, _, _, _, _, _, _, _, _, _, _, _, _, _, _, _, rfl, _⟩ := h; rfl))
local macro_rules | `(tactic| walk_at "small") => `(tactic| first | exact Nat.zero_le _ | exact (by decide : 1 ≤ sizeLine) | exact (by decide : 2 ≤ sizeLine) | exact (by decide : 3 ≤ sizeLine) | exact (by decide : 4 ≤ sizeLine) | exact (by decide : 5 ≤ sizeLine) | exact (by decide : 6 ≤ sizeLine))
local macro_rules | `(tactic| walk_at "dn") => `(tactic| dsimp only [cxOf, L2.start, List.map, List.length, List.replicate, List.cons_append, List.nil_append, Nat.reduceAdd, Nat.reduceSub, Nat.zero_add])
local macro_rules | `(tactic| walk_at "ar") => `(tactic| first | assumption | (show _ < _; omega) | (show _ < _ ∧ _ < _; omega) | (left; show _ < _ ∧ _ < _; constructor <;> omega) | (right; show _ < _ ∧ _ < _; constructor <;> omega))
local macro_rules | `(tactic| walk_at "sz") => `(tactic| first | omega | (simp only [vN_len, List.length_append, List.length_cons, List.length_nil, List.length_map, List.length_range, List.length_replicate, List.length_set, List.length_take, List.length_drop, List.length_reverse]; omega))
local macro_rules | `(tactic| walk_at "ds") => `(tactic| try dsimp only [List.set])
set_option hygiene false in
local macro_rules | `(tactic| walk_at "endL") => `(tactic| (refine' ⟨_, ?e1, ?e2, ?e3, k p hp⟩; (case e1 => walk_at "same"); (case e2 => walk_at "wl"); (case e3 => exact Prs.same (by walk_at "same"))))
set_option hygiene false in
local macro_rules | `(tactic| walk_at "endS") => `(tactic| exact ⟨H, by walk_at "same", wl, Prs.refl _, k⟩)
set_option hygiene false in
local macro_rules | `(tactic| walk_at "endQ") => `(tactic| (refine' ⟨_, ?e1, ?e2, ?e3, k q hp⟩; (case e1 => walk_at "same"); (case e2 => walk_at "wl"); (case e3 => exact Prs.same (by walk_at "same"))))
local macro_rules | `(tactic| walk_at "f5") => `(tactic| (walk_at "f1"; walk_at "f4"))
local macro_rules | `(tactic| walk_at "f6") => `(tactic| (walk_at "f2"; walk_at "f4"))
local macro_rules | `(tactic| walk_at "f7") => `(tactic| (walk_at "f3"; walk_at "f4"))
set_option hygiene false in
local macro_rules | `(tactic| walk_at "fd") => `(tactic| first
  | ((with_reducible refine' z_w_prime ?hv ?hh ?_); (case hv => exact rfl); (case hh => assumption))
  | ((with_reducible refine' z_w_turns ?hv ?hh ?_); (case hv => exact rfl); (case hh => assumption))
  | ((with_reducible refine' z_w_size ?hv ?hh ?_); (case hv => exact rfl); (case hh => assumption))
  | ((with_reducible refine' z_w_powers ?hv ?hh ?_); (case hv => exact rfl); (case hh => assumption))
  | ((with_reducible refine' z_w_places ?hv ?hh ?_); (case hv => exact rfl); (case hh => assumption))
  | ((with_reducible refine' z_t_prime ?hv ?hh ?_); (case hv => exact rfl); (case hh => assumption))
  | ((with_reducible refine' z_t_modulus ?hv ?hh ?_); (case hv => exact rfl); (case hh => assumption))
  | ((with_reducible refine' z_t_world ?hv ?hh ?_); (case hv => exact rfl); (case hh => assumption))
  | ((with_reducible refine' z_t_points ?hv ?hh ?_); (case hv => exact rfl); (case hh => assumption))
  | ((with_reducible refine' z_t_many ?hv ?hh ?_); (case hv => exact rfl); (case hh => assumption))
  | ((with_reducible refine' z_t_reach ?hv ?hh ?_); (case hv => exact rfl); (case hh => assumption)))
section
variable {P : Program} {w : World} {K : PySem.W.Frag} {mg : Str → Option Value} {base : Heap}
theorem sc__law_pick : FnScope ["_law_pot_here", "_law_some_here"] ["_law_pot_here", "_law_some_here"] (defScope s__law_pick) := ⟨rfl, rfl, rfl, by decide +kernel, rfl, by decide +kernel, by decide +kernel⟩
def sp__law_pick (K : PySem.W.Frag) : Sp := fun vs H Q _ => ∃ (a b : Addr) (xs : List V) (H0 : Hp), vs = [.ref a, .ref b] ∧ Fz H0 a H ∧ H0 b = some (.lst xs) ∧ 0 < xs.length ∧ xs.length < 1000 ∧ ∀ i H', i < xs.length → Rz H0 a H H' → Q (xs.getD i .non) H'
theorem ok__law_pick (T : Txt K mg) : FnAt P w K mg base 2 "_law_pick" ["_law_pot_here", "_law_some_here"] (sp__law_pick K) := by
  refine FnAt.of T 67 65 (d := d__law_pick) (k := 1) rfl rfl rfl rfl rfl sc__law_pick (fun _ _ _ _ _ _ us hl => match us, hl with | [_, _], _ => rfl) (fun vs H Q E h => by walk_at "len") (fun f_ cdv A outer s H vs Q E hr h => ?_)
  obtain ⟨a, b, xs, H0, rfl, f, hb, h1, h2, k⟩ := h
  have hbH := f.s _ _ hb
  refine ⟨_, (pss_one (ps_ret (pe_ix (ix_listK (K := K) rfl) (pv 1) (pe_callF (ok__law_draw T) (by decide) hr (by rfl) (pa_cons (pv 0) (pa_cons (pe_callB (call_lenK (K := K) rfl) (by rfl) T.n_len (by decide +kernel) (pa_cons (pv 1) pa_nil)) pa_nil))) (fun _ _ => rfl)))), ?_⟩
  walk_at "dn"
  walk_at "zz"
  refine ⟨a, xs.length, H0, rfl, f, h1, h2, fun d A hd r => ?_⟩
  refine r_ixL (SqL.of (r.f.s _ _ hb)) (v := xs.getD d .non) (atI_nat ?_) ?_
  · rw [List.getElem?_eq_getElem hd, List.getD_eq_getElem?_getD, List.getElem?_eq_getElem hd]
    rfl
  · exact ⟨A, Same.refl _, r.f.w, r.k, k d A hd r⟩
theorem sc__law_some : FnScope ["_law_pot_here", "_law_world_here", "_law_many", "_law_turn"] ["_law_pot_here", "_law_world_here", "_law_many"] (defScope s__law_some) := ⟨rfl, rfl, rfl, by decide +kernel, rfl, by decide +kernel, by decide +kernel⟩
def sp__law_some (K : PySem.W.Frag) : Sp := fun vs H Q _ => ∃ (a d : Addr) (F : Fd) (m : Nat) (H0 : Hp), vs = [.ref a, .ref d, .int m] ∧ Fz H0 a H ∧ WorldAt H0 d F ∧ FOK F ∧ m ≤ 10 ∧ ∀ p ns H', Rz H0 a H H' → H' p = some (.lst (vN ns)) → p ≠ a → ns.length = m → El F ns → Q (.ref p) H'
theorem ok__law_some (T : Txt K mg) : FnAt P w K mg base 2 "_law_some" ["_law_pot_here", "_law_world_here", "_law_many"] (sp__law_some K) := by
  refine FnAt.of T 82 80 (d := d__law_some) (k := 1) rfl rfl rfl rfl rfl sc__law_some (fun _ _ _ _ _ _ us hl => match us, hl with | [_, _, _], _ => rfl) (fun vs H Q E h => by walk_at "len") (fun f_ cdv A outer s H vs Q E hr h => ?_)
  obtain ⟨a, d, F, m, H0, rfl, f, hW, ok, hm, k⟩ := h
  have hq := ok.q
  obtain ⟨a0, b0, hW1, hW2, hW3⟩ := hW.ex
  refine ⟨_, (pss_one (ps_ret (pe_lc (own := [("_law_turn", 3)]) rfl sc__law_some.nd (pi_range1 (by rfl) T.n_range (pa_cons (pv 2) pa_nil)) (blkOk_by (N := ["_law_pot_here", "_law_world_here", "_law_many", "_law_turn"]) (sc := (defScope s__law_some)) (own := [("_law_turn", 3)]) (by decide +kernel)) (fun _ _ _ _ _ => (pg_name (i := 3) sc__law_some.nd rfl (Or.inl rfl))) (fun _ _ _ _ _ => pts_nil) (fun _ _ _ _ _ => (pe_callF (ok__law_draw T) (by decide) hr (by rfl) (pa_cons (pv 0) (pa_cons (pe_dget (hu_of hr) (pv 1) pe_str (fun _ _ => rfl)) pa_nil))))))), ?_⟩
  walk_at "dn"
  walk_at "zz"
  refine e_rng1 m rfl (by omega) ?_
  refine lcl_of (jw_range (n := m)) (fun D i A => ∃ ns, Fz H0 a A ∧ Prs H A ∧ D ≠ a ∧ H0 D = none ∧ A D = some (.lst (vN ns)) ∧ ns.length = i ∧ El F ns) (fun D nD => ⟨[], f.skip nD trivial, Prs.same (Same.new (Same.refl _) nD), f.nea nD, f.s.free nD, upd_same, rfl, fun x m => by cases m⟩) (fun _ _ _ _ _ _ => trivial) (fun _ _ => rfl) ?_ ?_
  · rintro D i A nD hi ⟨ns, fA, pA, hDa, nD0, hD, hl, he⟩
    have hdA := fA.s _ _ hW1
    walk_at "ds"
    walk_at "zz"
    refine ⟨a, F.q, upd H0 D (.lst (vN ns)), rfl, fA.add hD hDa, by omega, by omega, fun y A2 hy r => ?_⟩
    have hD2 := r.f.s _ _ (show (upd H0 D (.lst (vN ns))) D = _ from upd_same)
    have fA2 : Fz H0 a A2 := r.f.less (Same.new (Same.refl _) nD0) f.n
    refine ⟨vN ns, hD2, Nat.lt_of_lt_of_le (show (vN ns).length < 1000 by rw [vN_len]; omega) (by decide), ns ++ [y], fA2.mut hD2 trivial nD0 hDa trivial, Prs.trans pA (Prs.trans r.k (Prs.mut hD2 (fun z => z))), hDa, nD0, by rw [vN_snoc]; exact upd_same, by rw [List.length_append, List.length_singleton, hl], fun x mx => ?_⟩
    rcases List.mem_append.mp mx with mx | mx
    · exact he x mx
    · rw [List.mem_singleton.mp mx]
      exact hy
  · rintro D A nD ⟨ns, fA, pA, hDa, nD0, hD, hl, he⟩
    exact ⟨A, Same.refl _, fA.w, pA, k D ns A ⟨fA, pA⟩ hD hDa hl he⟩
theorem sc__law_within : FnScope ["_law_pot_here", "_law_world_here", "_law_given", "_law_many", "_law_span_here", "_law_turn"] ["_law_pot_here", "_law_world_here", "_law_given", "_law_many"] (defScope s__law_within) := ⟨rfl, rfl, rfl, by decide +kernel, rfl, by decide +kernel, by decide +kernel⟩
def sp__law_within (K : PySem.W.Frag) : Sp := fun vs H Q _ => ∃ (a d g : Addr) (F : Fd) (gs : List Nat) (m : Nat) (H0 : Hp), vs = [.ref a, .ref d, .ref g, .int m] ∧ Fz H0 a H ∧ WorldAt H0 d F ∧ FOK F ∧ H0 g = some (.lst (vN gs)) ∧ gs.length ≤ 4 ∧ El F gs ∧ m ≤ 10 ∧ (spanL F gs).length < 1000 ∧ 0 < (spanL F gs).length ∧ ∀ p ns H', Rz H0 a H H' → H' p = some (.lst (vN ns)) → p ≠ a → ns.length = m → El F ns → Q (.ref p) H'
theorem ok__law_within (T : Txt K mg) : FnAt P w K mg base 4 "_law_within" ["_law_pot_here", "_law_world_here", "_law_given", "_law_many"] (sp__law_within K) := by
  refine FnAt.of T 85 83 (d := d__law_within) (k := 3) rfl rfl rfl rfl rfl sc__law_within (fun _ _ _ _ _ _ us hl => match us, hl with | [_, _, _, _], _ => rfl) (fun vs H Q E h => by walk_at "len") (fun f_ cdv A outer s H vs Q E hr h => ?_)
  obtain ⟨a, d, g, F, gs, m, H0, rfl, f, hW, ok, hg, hgl, hge, hm, hsl, hs0, k⟩ := h
  have hq := ok.q
  refine ⟨_, (pss_cons (ps_set (i := 4) sc__law_within.nd rfl (Or.inr rfl) (pe_callF (ok__law_span T) (by decide) hr (by rfl) (pa_cons (pv 1) (pa_cons (pv 2) pa_nil))))
    (pss_one (ps_ret (pe_lc (own := [("_law_turn", 5)]) rfl sc__law_within.nd (pi_range1 (by rfl) T.n_range (pa_cons (pv 3) pa_nil)) (blkOk_by (N := ["_law_pot_here", "_law_world_here", "_law_given", "_law_many", "_law_span_here", "_law_turn"]) (sc := (defScope s__law_within)) (own := [("_law_turn", 5)]) (by decide +kernel)) (fun _ _ _ _ _ => (pg_name (i := 5) sc__law_within.nd rfl (Or.inl rfl))) (fun _ _ _ _ _ => pts_nil) (fun _ _ _ _ _ => (pe_callF (ok__law_pick T) (by decide) hr (by rfl) (pa_cons (pv 0) (pa_cons (pv 4) pa_nil)))))))), ?_⟩
  walk_at "dn"
  walk_at "zz"
  refine ⟨d, g, F, gs, rfl, f.w, hW.mono f.s, ok, f.s _ _ hg, by omega, hge, fun sp nsp => ?_⟩
  have fs := f.new (o := .lst (vN (spanL F gs))) nsp trivial
  have nsp0 := f.s.free nsp
  have hspa := f.nea nsp
  have prs : Prs H (upd H sp (.lst (vN (spanL F gs)))) := Prs.same (Same.new (Same.refl _) nsp)
  have nn : H0 a = none := f.n
  have sH : Same H0 (upd H0 sp (.lst (vN (spanL F gs)))) := Same.new (Same.refl _) nsp0
  have hsp : (upd H0 sp (.lst (vN (spanL F gs)))) sp = some (.lst (vN (spanL F gs))) := upd_same
  have hse : El F (spanL F gs) := spanTo_el ok gs _
  generalize upd H0 sp (.lst (vN (spanL F gs))) = G0 at fs sH hsp
  generalize upd H sp (.lst (vN (spanL F gs))) = G at fs prs ⊢
  walk_at "zz"
  refine e_rng1 m rfl (by omega) ?_
  walk_at "ds"
  refine lcl_of (jw_range (n := m)) (fun D i A => ∃ ns, Fz G0 a A ∧ Prs H A ∧ D ≠ a ∧ G0 D = none ∧ A D = some (.lst (vN ns)) ∧ ns.length = i ∧ El F ns) (fun D nD => ⟨[], fs.skip nD trivial, Prs.trans prs (Prs.same (Same.new (Same.refl _) nD)), fs.nea nD, fs.s.free nD, upd_same, rfl, fun x m => by cases m⟩) (fun _ _ _ _ _ _ => trivial) (fun _ _ => rfl) ?_ ?_
  · rintro D i A nD hi ⟨ns, fA, pA, hDa, nD0, hD, hl, he⟩
    walk_at "ds"
    walk_at "zz"
    refine ⟨a, sp, vN (spanL F gs), upd G0 D (.lst (vN ns)), rfl, fA.add hD hDa, upd_at (ne_of_none hsp nD0) hsp, by rw [vN_len]; exact hs0, by rw [vN_len]; exact hsl, fun j A2 hj r => ?_⟩
    rw [vN_len] at hj
    rw [vN_getD hj]
    have hD2 := r.f.s _ _ (show (upd G0 D (.lst (vN ns))) D = _ from upd_same)
    have fA2 : Fz G0 a A2 := r.f.less (Same.new (Same.refl _) nD0) fs.n
    refine ⟨vN ns, hD2, Nat.lt_of_lt_of_le (show (vN ns).length < 1000 by rw [vN_len]; omega) (by decide), ns ++ [(spanL F gs).getD j 0], fA2.mut hD2 trivial nD0 hDa trivial, Prs.trans pA (Prs.trans r.k (Prs.mut hD2 (fun z => z))), hDa, nD0, by rw [vN_snoc]; exact upd_same, by rw [List.length_append, List.length_singleton, hl], fun x mx => ?_⟩
    rcases List.mem_append.mp mx with mx | mx
    · exact he x mx
    · rw [List.mem_singleton.mp mx]
      exact hse.at hj
  · rintro D A nD ⟨ns, fA, pA, hDa, nD0, hD, hl, he⟩
    have fA' : Fz H0 a A := fA.less sH nn
    exact ⟨A, Same.refl _, fA.w, pA, k D ns A ⟨fA', pA⟩ hD hDa hl he⟩
theorem sc__law_free : FnScope ["_law_pot_here", "_law_world_here", "_law_many", "_law_found", "_law_turn", "_law_span_here", "_law_one"] ["_law_pot_here", "_law_world_here", "_law_many"] (defScope s__law_free) := ⟨rfl, rfl, rfl, by decide +kernel, rfl, by decide +kernel, by decide +kernel⟩
def sp__law_free (K : PySem.W.Frag) : Sp := fun vs H Q _ => ∃ (a d : Addr) (F : Fd) (m : Nat) (H0 : Hp), vs = [.ref a, .ref d, .int m] ∧ Fz H0 a H ∧ WorldAt H0 d F ∧ FOK F ∧ m ≤ F.n ∧ ∀ p ns H', Rz H0 a H H' → H' p = some (.lst (vN ns)) → p ≠ a → ns.length = m → El F ns → FreeL F ns → Q (.ref p) H'
theorem spanTo_app (F : Fd) (g : List Nat) (x : Nat) : ∀ i, i ≤ g.length → spanTo F (g ++ [x]) i = spanTo F g i
  | 0, _ => rfl
  | i + 1, h => by
    show spanStep F (spanTo F (g ++ [x]) i) ((g ++ [x]).getD i 0) = spanStep F (spanTo F g i) (g.getD i 0)
    rw [spanTo_app F g x i (by omega), List.getD_eq_getElem?_getD, List.getElem?_append_left (by omega), List.getD_eq_getElem?_getD]
theorem FreeL.snoc {F : Fd} {g : List Nat} {x : Nat} (h : FreeL F g) (n : x ∉ spanL F g) : FreeL F (g ++ [x]) := fun i hi => by
  rw [List.length_append, List.length_singleton] at hi
  rw [spanTo_app F g x i (by omega)]
  by_cases hl : i < g.length
  · rw [List.getD_eq_getElem?_getD, List.getElem?_append_left hl, ← List.getD_eq_getElem?_getD]
    exact h i hl
  · have e : i = g.length := by omega
    subst e
    have e2 : (g ++ [x]).getD g.length 0 = x := by rw [List.getD_eq_getElem?_getD, List.getElem?_append_right (Nat.le_refl _), Nat.sub_self]; rfl
    rw [e2]
    exact n
theorem FreeL.rk {F : Fd} {g : List Nat} (h : FreeL F g) : ∀ i, i ≤ g.length → rkTo F g i = i
  | 0, _ => rfl
  | i + 1, hi => by
    have e : rkTo F g (i + 1) = if g.getD i 0 ∈ spanTo F g i then rkTo F g i else rkTo F g i + 1 := rfl
    rw [e, if_neg (h i (by omega)), h.rk i (by omega)]
/-- some element is free as yet -/
theorem free_more {F : Fd} (ok : FOK F) {g : List Nat} (hl : g.length < F.n) : ∃ x rest, freeF F.q (spanL F g) = x :: rest := by
  have h1 : (spanL F g).length < F.q := by
    unfold spanL
    rw [spanTo_len, ok.qpn]
    refine Nat.pow_lt_pow_right ?_ (Nat.lt_of_le_of_lt (rkTo_le g _) hl)
    have := ok.p
    omega
  obtain ⟨x, rest, e, _, _⟩ := freeF_some h1
  exact ⟨x, rest, e⟩
theorem ok__law_free (T : Txt K mg) : FnAt P w K mg base 4 "_law_free" ["_law_pot_here", "_law_world_here", "_law_many"] (sp__law_free K) := by
  refine FnAt.of T 81 79 (d := d__law_free) (k := 3) rfl rfl rfl rfl rfl sc__law_free (fun _ _ _ _ _ _ us hl => match us, hl with | [_, _, _], _ => rfl) (fun vs H Q E h => by walk_at "len") (fun f_ cdv A outer s H vs Q E hr h => ?_)
  obtain ⟨a, d, F, m, H0, rfl, f, hW, ok, hm, k⟩ := h
  have hq := ok.q
  have hn := ok.n
  obtain ⟨a0, b0, hW1, hW2, hW3⟩ := hW.ex
  refine ⟨_, (pss_cons (ps_set (i := 3) sc__law_free.nd rfl (Or.inl rfl) (pe_lst pa_nil))
    (pss_cons (ps_for PassesOwn.never rfl (pi_range1 (by rfl) T.n_range (pa_cons (pv 2) pa_nil)) (pg_name (i := 4) sc__law_free.nd rfl (Or.inl rfl))
      (pss_f (pss_cons (ps_set (i := 5) sc__law_free.nd rfl (Or.inr rfl) (pe_callF (ok__law_span T) (by decide) hr (by rfl) (pa_cons (pv 1) (pa_cons (pv 3) pa_nil))))
    (pss_one (ps_expr (pe_bm PySem.F.plainAttrs_list PySem.F.slot_list_append PySem.F.type_list_append mt_append (pv 3) (pa_cons (pe_callF (ok__law_pick T) (by decide) hr (by rfl) (pa_cons (pv 0) (pa_cons (pe_lc (own := [("_law_one", 6)]) rfl sc__law_free.nd (pi_range1 (by rfl) T.n_range (pa_cons (pe_dget (hu_of hr) (pv 1) pe_str (fun _ _ => rfl)) pa_nil)) (blkOk_by (N := ["_law_pot_here", "_law_world_here", "_law_many", "_law_found", "_law_turn", "_law_span_here", "_law_one"]) (sc := (defScope s__law_free)) (own := [("_law_one", 6)]) (by decide +kernel)) (fun _ _ _ _ _ => (pg_name (i := 6) sc__law_free.nd rfl (Or.inl rfl))) (fun _ _ _ _ _ => (pts_one (pt_cmpR (op_notInK (K := K) rfl) (pv 6) (pv 5) (by rfl)))) (fun _ _ _ _ _ => (pv 6))) pa_nil))) pa_nil)))))))
    (pss_one (ps_ret (pv 3))))), ?_⟩
  walk_at "dn"
  walk_at "zz"
  refine ⟨by walk_at "small", fun l nl => ?_⟩
  walk_at "zz"
  refine e_rng1 m rfl (by omega) ?_
  walk_at "ds"
  refine lp_of (jw_range (n := m)) (fun i st A => ∃ ns y4 y5, st = [some (.ref a), some (.ref d), some (.int m), some (.ref l), y4, y5, none] ∧ Fz H0 a A ∧ Prs H A ∧ l ≠ a ∧ H0 l = none ∧ A l = some (.lst (vN ns)) ∧ ns.length = i ∧ El F ns ∧ FreeL F ns)
    ⟨[], _, _, rfl, f.skip nl trivial, Prs.same (Same.new (Same.refl _) nl), f.nea nl, f.s.free nl, upd_same, rfl, fun x m => (by cases m), fun i hi => absurd hi (Nat.not_lt_zero _)⟩ (fun _ _ _ _ _ => trivial) ?_ ?_
  · rintro i _ A hi ⟨ns, y4, y5, rfl, fA, pA, hla, nl0, hlA, hlen, hel, hfr⟩
    walk_at "ds"
    walk_at "zz"
    refine ⟨d, l, F, ns, rfl, fA.w, hW.mono fA.s, ok, hlA, by omega, hel, fun sp nsp => ?_⟩
    have s1 : Same A (upd A sp (.lst (vN (spanL F ns)))) := Same.new (Same.refl _) nsp
    have f1 : Fz H0 a (upd A sp (.lst (vN (spanL F ns)))) := fA.skip nsp trivial
    have hsp : (upd A sp (.lst (vN (spanL F ns)))) sp = some (.lst (vN (spanL F ns))) := upd_same
    generalize upd A sp (.lst (vN (spanL F ns))) = B at s1 f1 hsp ⊢
    have hlB := s1 _ _ hlA
    have hdB := f1.s _ _ hW1
    walk_at "zz"
    refine e_rng1 F.q rfl (by omega) ?_
    walk_at "ds"
    refine lcl_val (jw_range (n := F.q)) (fun c => decide (c ∉ spanL F ns)) (fun c => .int (c : Nat)) (by omega) (fun D acc nD => trivial) (fun _ _ => rfl) (fun D acc c nD hc R q => ?_) (fun D acc c nD hc hx R q => ?_) (fun D nD => ?_)
    · walk_at "ds"
      rw [show ((0 : Int) + (c : Nat)) = (c : Nat) from Int.zero_add _]
      walk_at "zz"
      refine r_inN (SqL.of (upd_at (ne_of_none hsp nD) hsp)) ?_
      rw [decide_not] at q
      exact ⟨_, rfl, q⟩
    · walk_at "ds"
      rw [show ((0 : Int) + (c : Nat)) = (c : Nat) from Int.zero_add _]
      walk_at "zz"
      exact q
    · have eu : upto F.q (fun c => decide (c ∉ spanL F ns)) (fun c => .int (c : Nat)) = vN (freeF F.q (spanL F ns)) := rfl
      rw [eu]
      obtain ⟨x0, rest, efr⟩ := free_more ok (g := ns) (by omega)
      have hfl : (freeF F.q (spanL F ns)).length ≤ F.q := Nat.le_trans (List.length_filter_le _ _) (by rw [List.length_range]; exact Nat.le_refl _)
      have hf0 : 0 < (freeF F.q (spanL F ns)).length := by rw [efr]; exact Nat.succ_pos _
      have s2 : Same B (upd B D (.lst (vN (freeF F.q (spanL F ns))))) := Same.new (Same.refl _) nD
      have f2 : Fz H0 a (upd B D (.lst (vN (freeF F.q (spanL F ns))))) := f1.skip nD trivial
      have hD2 : (upd B D (.lst (vN (freeF F.q (spanL F ns))))) D = some (.lst (vN (freeF F.q (spanL F ns)))) := upd_same
      have hDa : D ≠ a := f1.nea nD
      have hDl : l ≠ D := ne_of_none hlB nD
      generalize upd B D (.lst (vN (freeF F.q (spanL F ns)))) = C at s2 f2 hD2 ⊢
      have hlC := s2 _ _ hlB
      walk_at "zz"
      have f3 : Fz (upd (upd H0 l (.lst (vN ns))) D (.lst (vN (freeF F.q (spanL F ns))))) a C := (f2.add hlC hla).add hD2 hDa
      refine ⟨a, D, vN (freeF F.q (spanL F ns)), _, rfl, f3, upd_same, by rw [vN_len]; exact hf0, by rw [vN_len]; omega, fun j A2 hj r => ?_⟩
      rw [vN_len] at hj
      rw [vN_getD hj]
      have hl2 : A2 l = some (.lst (vN ns)) := r.f.s _ _ (upd_at hDl upd_same)
      have f4 : Fz H0 a A2 := r.f.less (Same.new (Same.new (Same.refl _) nl0) (fA.s.free (s1.free nD))) f.n
      have hxm : (freeF F.q (spanL F ns)).getD j 0 ∈ freeF F.q (spanL F ns) := by
        rw [List.getD_eq_getElem?_getD, List.getElem?_eq_getElem hj]
        exact List.getElem_mem hj
      obtain ⟨hx1, hx2⟩ := List.mem_filter.mp hxm
      walk_at "zz"
      rw [vN_snoc]
      have f5 : Fz H0 a (upd A2 l (.lst (vN (ns ++ [(freeF F.q (spanL F ns)).getD j 0])))) := f4.mut hl2 trivial nl0 hla trivial
      have pr : Prs A (upd A2 l (.lst (vN (ns ++ [(freeF F.q (spanL F ns)).getD j 0])))) := Prs.trans (Prs.same (fun a o e => s2 _ _ (s1 _ _ e))) (Prs.trans r.k (Prs.mut hl2 (fun z => z)))
      refine ⟨_, Same.refl _, f5.w, pr, ns ++ [(freeF F.q (spanL F ns)).getD j 0], _, _, rfl, f5, Prs.trans pA pr, hla, nl0, upd_same, by rw [List.length_append, List.length_singleton, hlen], fun x mx => ?_, hfr.snoc (of_decide_eq_true hx2)⟩
      rcases List.mem_append.mp mx with mx | mx
      · exact hel x mx
      · rw [List.mem_singleton.mp mx]
        exact List.mem_range.mp hx1
  · rintro _ A ⟨ns, y4, y5, rfl, fA, pA, hla, nl0, hlA, hlen, hel, hfr⟩
    walk_at "zz"
    exact ⟨A, Same.refl _, fA.w, pA, k l ns A ⟨fA, pA⟩ hlA hla hlen hel hfr⟩
end
end TP
/-! part L7 -/
set_option maxHeartbeats 1000000
namespace TP
open PySem PySem.Spec PyProof.Rows L2
set_option hygiene false in
local macro_rules | `(tactic| walk_at "ne") => `(tactic| first | assumption | exact Ne.symm (by assumption) | exact ne_of_none (H := H) (by assumption) (by assumption) | exact (ne_of_none (H := H) (by assumption) (by assumption)).symm | exact ne_of_none (H := A) (by assumption) (by assumption) | exact (ne_of_none (H := A) (by assumption) (by assumption)).symm)
local macro_rules | `(tactic| walk_at "get") => `(tactic| first | assumption | exact upd_same | (refine upd_at ?_ ?_; (focus walk_at "ne"); (walk_at "get")))
local macro_rules | `(tactic| walk_at "nn") => `(tactic| first | assumption | (refine none_upd ?_ ?_; (focus walk_at "ne"); (walk_at "nn")))
local macro_rules | `(tactic| walk_at "same") => `(tactic| first | exact Same.refl _ | assumption | (refine Same.both ?_; walk_at "same") | (refine TP.Same.new ?_ ?_; (focus walk_at "same"); (walk_at "nn")) | (refine Same.put ?_ ?_; (focus walk_at "same"); (walk_at "get")))
local macro_rules | `(tactic| walk_at "noown") => `(tactic| first | exact NoOwn.none (by assumption) | (refine NoOwn.upd ?_ True.intro; walk_at "noown"))
local macro_rules | `(tactic| walk_at "wl") => `(tactic| first | assumption | (refine Wl.put ?_ ?_ True.intro; (focus walk_at "wl"); (walk_at "noown")))
local macro_rules | `(tactic| walk_at "sq") => `(tactic| first | assumption | exact SqL.of (by walk_at "get"))
set_option hygiene false in
local macro_rules | `(tactic| walk_at "f1") => `(tactic| obtain ⟨_, hp⟩ := upd_none hp)
set_option hygiene false in
local macro_rules | `(tactic| walk_at "f2") => `(tactic| (obtain ⟨_, hp⟩ := upd_none hp; obtain ⟨_, hp⟩ := upd_none hp))
set_option hygiene false in
local macro_rules | `(tactic| walk_at "f3") => `(tactic| (obtain ⟨_, hp⟩ := upd_none hp; obtain ⟨_, hp⟩ := upd_none hp; obtain ⟨_, hp⟩ := upd_none hp))
set_option hygiene false in
local macro_rules | `(tactic| walk_at "f4") => `(tactic| (obtain ⟨_, hp⟩ := upd_none hp; obtain ⟨_, hp⟩ := upd_none hp; obtain ⟨_, hp⟩ := upd_none hp; obtain ⟨_, hp⟩ := upd_none hp))
set_option hygiene false in
local macro_rules | `(tactic| walk_at "fa") => `(tactic| first
  | ((with_reducible refine' z_own_prime T ?hv ?hh ?_); (case hv => exact rfl); (case hh => walk_at "get"))
  | ((with_reducible refine' z_own_turns T ?hv ?hh ?_); (case hv => exact rfl); (case hh => walk_at "get"))
  | ((with_reducible refine' z_own_size T ?hv ?hh ?_); (case hv => exact rfl); (case hh => walk_at "get"))
  | ((with_reducible refine' z_own_powers T ?hv ?hh ?_); (case hv => exact rfl); (case hh => walk_at "get"))
  | ((with_reducible refine' z_own_logs T ?hv ?hh ?_); (case hv => exact rfl); (case hh => walk_at "get"))
  | ((with_reducible refine' z_own_field T ?hv ?hh ?_); (case hv => exact rfl); (case hh => walk_at "get"))
  | ((with_reducible refine' z_own_points T ?hv ?hh ?_); (case hv => exact rfl); (case hh => walk_at "get"))
  | ((with_reducible refine' z_own_many T ?hv ?hh ?_); (case hv => exact rfl); (case hh => walk_at "get")))
local macro_rules | `(tactic| walk_at "z") => `(tactic| first
  | with_reducible refine z_seq ?_
  | with_reducible refine z_asg ?_
  | with_reducible refine z_name ?_
  | ((with_reducible refine' z_var ?hv ?_); (case hv => exact rfl))
  | with_reducible refine z_c ?_
  | with_reducible refine z_op ?_
  | with_reducible refine r_I0 ?_
  | ((with_reducible refine r_I ?hc ?_); (case hc => walk_at "ar"))
  | ((with_reducible refine' r_app ?ha ?hz ?_); (case ha => walk_at "get"); (case hz => walk_at "sz"))
  | ((with_reducible refine' z_tyl ?ha ?_); (case ha => walk_at "get"))
  | with_reducible refine z_cons ?_
  | ((with_reducible refine' r_len ?ha ?_); (case ha => walk_at "sq"))
  | with_reducible refine z_nil ?_
  | walk_at "fa"
  | walk_at "fd"
  | with_reducible refine z_test ?_
  | with_reducible refine z_bl ?_
  | with_reducible refine z_tB ?_
  | with_reducible refine r_eq ?_
  | with_reducible refine r_ne ?_
  | with_reducible refine z_ifS ?_
  | with_reducible refine z_ret ?_
  | with_reducible refine z_drop ?_
  | with_reducible refine z_cb ?_
  | with_reducible refine z_call ?_
  | with_reducible refine z_bm ?_
  | with_reducible refine z_bm0 ?_
  | with_reducible refine z_lst ?_
  | with_reducible refine z_tup ?_
  | with_reducible refine z_un ?_
  | with_reducible refine r_U ?_
  | with_reducible refine z_par ?_
  | with_reducible refine z_par3 ?_
  | with_reducible refine z_two ?_
  | with_reducible refine z_three ?_
  | with_reducible refine z_sub ?_
  | with_reducible refine z_for ?_
  | with_reducible refine z_lc ?_
  | with_reducible refine z_ifE ?_
  | with_reducible refine z_and ?_
  | with_reducible refine z_or ?_
  | with_reducible refine z_not ?_
  | with_reducible refine z_yes ?_
  | with_reducible refine z_andV ?_
  | with_reducible refine z_orV ?_
  | with_reducible refine z_notV ?_
  | with_reducible refine z_sl ?_
  | with_reducible refine z_noP ?_
  | with_reducible refine z_part ?_
  | with_reducible refine z_int ?_
  | with_reducible refine z_revL ?_
  | with_reducible refine z_next ?_
  | with_reducible refine z_sf ?_
  | with_reducible refine z_f ?_
  | with_reducible refine z_tf ?_
  | with_reducible refine z_disp ?_
  | with_reducible refine z_pc ?_
  | with_reducible refine z_pn ?_
  | with_reducible refine z_i1 ?_
  | with_reducible refine i_rng3 ?_
  | with_reducible refine z_chain ?_
  | with_reducible refine z_nT ?_
  | with_reducible refine z_nF ?_
  | with_reducible refine z_sfld ?_
  | with_reducible refine i_rng1 ?_
  | with_reducible refine i_rng2 ?_
  | with_reducible refine i_list ?_
  | with_reducible refine i_zip ?_
  | with_reducible refine i_enum ?_
  | with_reducible refine z_tt ?_
  | with_reducible refine z_ff ?_)
local macro_rules | `(tactic| walk_at "zz") => `(tactic| repeat walk_at "z")
set_option hygiene false in
local macro_rules | `(tactic| walk_at "len") => `(tactic| first | (obtain ⟨rfl, _⟩ := h; rfl) | (obtain ⟨_, rfl, _⟩ := h; rfl) | (obtain ⟨_, _, rfl, _⟩ := h; rfl) | (obtain ⟨_, _, _, rfl, _⟩ := h; rfl) | (obtain ⟨_, _, _, _, rfl, _⟩ := h; rfl) | (obtain ⟨_, _, _, _, _, rfl, _⟩ := h; rfl) | (obtain ⟨_, _, _, _, _, _, rfl, _⟩ := h; rfl) | (obtain ⟨_, _, _, _, _, _, _, rfl, _⟩ := h; rfl) | (obtain ⟨_, _, _, _, _, _, _, _, rfl, _⟩ := h; rfl) | (obtain ⟨_, _, _, _, _, _, _, _, _, rfl, _⟩ := h; rfl) | (obtain ⟨_, _, _, _, _, _, _, _, _, _, rfl, _⟩ := h; rfl) | (obtain ⟨_, _, _, _, _, _, _, _, _, _, _, rfl, _⟩ := h; rfl) | (obtain ⟨_, _, _, _, _, _, _, _, _, _, _, _, rfl, _⟩ := h; rfl) | (obtain ⟨_, _, _, _, _, _, _, _, _, _, _, _, _, rfl, _⟩ := h; rfl) | (obtain ⟨_, _, _, _, _, _, _, _, _, _, _, _, _, _, rfl, _⟩ := h; rfl) | (obtain ⟨_, _, _, _, _, _, _, _, _, _, _, _, _, _, _, rfl, _⟩ := h; rfl) | (obtain ⟨_, _, _, _, _, _, _, _, _, _, _, _, _, _, _, _, rfl, _⟩ := h; rfl))
local macro_rules | `(tactic| walk_at "small") => `(tactic| first | exact Nat.zero_le _ | exact (by decide : 1 ≤ sizeLine) | exact (by decide : 2 ≤ sizeLine) | exact (by decide : 3 ≤ sizeLine) | exact (by decide : 4 ≤ sizeLine) | exact (by decide : 5 ≤ sizeLine) | exact (by decide : 6 ≤ sizeLine))
local macro_rules | `(tactic| walk_at "dn") => `(tactic| dsimp only [cxOf, L2.start, List.map, List.length, List.replicate, List.cons_append, List.nil_append, Nat.reduceAdd, Nat.reduceSub, Nat.zero_add])
local macro_rules | `(tactic| walk_at "ar") => `(tactic| first | assumption | (show _ < _; omega) | (show _ < _ ∧ _ < _; omega) | (left; show _ < _ ∧ _ < _; constructor <;> omega) | (right; show _ < _ ∧ _ < _; constructor <;> omega))
local macro_rules | `(tactic| walk_at "sz") => `(tactic| first | omega | (simp only [vN_len, List.length_append, List.length_cons, List.length_nil, List.length_map, List.length_range, List.length_replicate, List.length_set, List.length_take, List.length_drop, List.length_reverse]; omega))
local macro_rules | `(tactic| walk_at "ds") => `(tactic| try dsimp only [List.set])
set_option hygiene false in
local macro_rules | `(tactic| walk_at "endL") => `(tactic| (refine' ⟨_, ?e1, ?e2, ?e3, k p hp⟩; (case e1 => walk_at "same"); (case e2 => walk_at "wl"); (case e3 => exact Prs.same (by walk_at "same"))))
set_option hygiene false in
local macro_rules | `(tactic| walk_at "endS") => `(tactic| exact ⟨H, by walk_at "same", wl, Prs.refl _, k⟩)
set_option hygiene false in
local macro_rules | `(tactic| walk_at "endQ") => `(tactic| (refine' ⟨_, ?e1, ?e2, ?e3, k q hp⟩; (case e1 => walk_at "same"); (case e2 => walk_at "wl"); (case e3 => exact Prs.same (by walk_at "same"))))
local macro_rules | `(tactic| walk_at "f5") => `(tactic| (walk_at "f1"; walk_at "f4"))
local macro_rules | `(tactic| walk_at "f6") => `(tactic| (walk_at "f2"; walk_at "f4"))
local macro_rules | `(tactic| walk_at "f7") => `(tactic| (walk_at "f3"; walk_at "f4"))
set_option hygiene false in
local macro_rules | `(tactic| walk_at "fd") => `(tactic| first
  | ((with_reducible refine' z_w_prime ?hv ?hh ?_); (case hv => exact rfl); (case hh => assumption))
  | ((with_reducible refine' z_w_turns ?hv ?hh ?_); (case hv => exact rfl); (case hh => assumption))
  | ((with_reducible refine' z_w_size ?hv ?hh ?_); (case hv => exact rfl); (case hh => assumption))
  | ((with_reducible refine' z_w_powers ?hv ?hh ?_); (case hv => exact rfl); (case hh => assumption))
  | ((with_reducible refine' z_w_places ?hv ?hh ?_); (case hv => exact rfl); (case hh => assumption))
  | ((with_reducible refine' z_t_prime ?hv ?hh ?_); (case hv => exact rfl); (case hh => assumption))
  | ((with_reducible refine' z_t_modulus ?hv ?hh ?_); (case hv => exact rfl); (case hh => assumption))
  | ((with_reducible refine' z_t_world ?hv ?hh ?_); (case hv => exact rfl); (case hh => assumption))
  | ((with_reducible refine' z_t_points ?hv ?hh ?_); (case hv => exact rfl); (case hh => assumption))
  | ((with_reducible refine' z_t_many ?hv ?hh ?_); (case hv => exact rfl); (case hh => assumption))
  | ((with_reducible refine' z_t_reach ?hv ?hh ?_); (case hv => exact rfl); (case hh => assumption)))
section
variable {P : Program} {w : World} {K : PySem.W.Frag} {mg : Str → Option Value} {base : Heap}
theorem z_make {C : Addr} {sp : Sp} {t : TA} {st : L2.St} {H : Hp} {Q : VK} (q : t st H fun vs H1 => ∀ y dy, H1 y = none → H1 dy = none → dy ≠ y → sp (.ref y :: vs) (upd (upd H1 dy (.own y)) y (.ins C dy [])) (fun v H2 => v = .non ∧ Q (.ref y) H2) E0) : tM0 C sp t st H Q := q
theorem sc__law_kind : FnScope ["_law_pot_here"] ["_law_pot_here"] (defScope s__law_kind) := ⟨rfl, rfl, rfl, by decide +kernel, rfl, by decide +kernel, by decide +kernel⟩
def sp__law_kind (K : PySem.W.Frag) : Sp := fun vs H Q _ => ∃ (a : Addr) (H0 : Hp), vs = [.ref a] ∧ Fz H0 a H ∧ ∀ t md F H', Rz H0 a H H' → FOK F → H' t = some (.tup [.int F.p, .ref md]) → H' md = some (.lst (vN F.md)) → t ≠ a → md ≠ a → Q (.ref t) H'
theorem ok__law_kind (T : Txt K mg) : FnAt P w K mg base 3 "_law_kind" ["_law_pot_here"] (sp__law_kind K) := by
  refine FnAt.of T 80 78 (d := d__law_kind) (k := 2) rfl rfl rfl rfl rfl sc__law_kind (fun _ _ _ _ _ _ us hl => match us, hl with | [_], _ => rfl) (fun vs H Q E h => by walk_at "len") (fun f_ cdv A outer s H vs Q E hr h => ?_)
  obtain ⟨a, H0, rfl, f, k⟩ := h
  have hn0 : H0 a = none := f.n
  have S : Same H0 H0 := Same.refl _
  have pr : Prs H H := Prs.refl _
  refine ⟨_, (pss_one (ps_ret (pe_callF (ok__law_pick T) (by decide) hr (by rfl) (pa_cons (pv 0) (pa_cons (pe_lst (pa_cons (pe_tup (pa_cons pe_int (pa_cons (pe_lst (pa_cons pe_int (pa_cons pe_int (pa_cons pe_int (pa_cons pe_int pa_nil))))) pa_nil))) (pa_cons (pe_tup (pa_cons pe_int (pa_cons (pe_lst (pa_cons pe_int (pa_cons pe_int (pa_cons pe_int (pa_cons pe_int pa_nil))))) pa_nil))) (pa_cons (pe_tup (pa_cons pe_int (pa_cons (pe_lst (pa_cons pe_int (pa_cons pe_int (pa_cons pe_int (pa_cons pe_int (pa_cons pe_int pa_nil)))))) pa_nil))) (pa_cons (pe_tup (pa_cons pe_int (pa_cons (pe_lst (pa_cons pe_int (pa_cons pe_int (pa_cons pe_int (pa_cons pe_int (pa_cons pe_int pa_nil)))))) pa_nil))) (pa_cons (pe_tup (pa_cons pe_int (pa_cons (pe_lst (pa_cons pe_int (pa_cons pe_int (pa_cons pe_int (pa_cons pe_int pa_nil))))) pa_nil))) (pa_cons (pe_tup (pa_cons pe_int (pa_cons (pe_lst (pa_cons pe_int (pa_cons pe_int (pa_cons pe_int (pa_cons pe_int (pa_cons pe_int (pa_cons pe_int pa_nil))))))) pa_nil))) pa_nil))))))) pa_nil))))), ?_⟩
  walk_at "dn"
  walk_at "zz"
  have f0 := f
  have S0 : Same H0 H0 := Same.refl _
  have pr0 : Same H H := Same.refl _
  refine ⟨by walk_at "small", fun q0 nq0 => ?_⟩
  have fa0 := f0.new (o := .lst [.int 1, .int 1, .int 0, .int 1]) nq0 trivial
  have sa0 : Same H0 (upd H0 q0 (.lst [.int 1, .int 1, .int 0, .int 1])) := Same.new (Same.refl _) (f0.s.free nq0)
  have sb0 : Same H (upd H q0 (.lst [.int 1, .int 1, .int 0, .int 1])) := Same.new (Same.refl _) nq0
  have hq0 : (upd H0 q0 (.lst [.int 1, .int 1, .int 0, .int 1])) q0 = some (.lst (vN F8.md)) := upd_same
  generalize upd H0 q0 (.lst [.int 1, .int 1, .int 0, .int 1]) = X0 at fa0 sa0 hq0
  generalize upd H q0 (.lst [.int 1, .int 1, .int 0, .int 1]) = Y0 at fa0 sb0 ⊢
  walk_at "zz"
  refine ⟨by walk_at "small", fun t0 nt0 => ?_⟩
  have f1 := fa0.new (o := .tup [.int 2, .ref q0]) nt0 trivial
  have sc0 : Same X0 (upd X0 t0 (.tup [.int 2, .ref q0])) := Same.new (Same.refl _) (fa0.s.free nt0)
  have sd0 : Same Y0 (upd Y0 t0 (.tup [.int 2, .ref q0])) := Same.new (Same.refl _) nt0
  have T0 : TupOk (upd X0 t0 (.tup [.int 2, .ref q0])) t0 F8 := ⟨q0, upd_same, sc0 _ _ hq0⟩
  generalize upd X0 t0 (.tup [.int 2, .ref q0]) = U0 at f1 sc0 T0
  generalize upd Y0 t0 (.tup [.int 2, .ref q0]) = W0 at f1 sd0 ⊢
  have S1 : Same H0 U0 := fun x o e => sc0 _ _ (sa0 _ _ (S0 _ _ e))
  have pr1 : Same H W0 := fun x o e => sd0 _ _ (sb0 _ _ (pr0 _ _ e))
  walk_at "zz"
  refine ⟨by walk_at "small", fun q1 nq1 => ?_⟩
  have fa1 := f1.new (o := .lst [.int 1, .int 1, .int 0, .int 1]) nq1 trivial
  have sa1 : Same U0 (upd U0 q1 (.lst [.int 1, .int 1, .int 0, .int 1])) := Same.new (Same.refl _) (f1.s.free nq1)
  have sb1 : Same W0 (upd W0 q1 (.lst [.int 1, .int 1, .int 0, .int 1])) := Same.new (Same.refl _) nq1
  have hq1 : (upd U0 q1 (.lst [.int 1, .int 1, .int 0, .int 1])) q1 = some (.lst (vN F8.md)) := upd_same
  generalize upd U0 q1 (.lst [.int 1, .int 1, .int 0, .int 1]) = X1 at fa1 sa1 hq1
  generalize upd W0 q1 (.lst [.int 1, .int 1, .int 0, .int 1]) = Y1 at fa1 sb1 ⊢
  walk_at "zz"
  refine ⟨by walk_at "small", fun t1 nt1 => ?_⟩
  have f2 := fa1.new (o := .tup [.int 2, .ref q1]) nt1 trivial
  have sc1 : Same X1 (upd X1 t1 (.tup [.int 2, .ref q1])) := Same.new (Same.refl _) (fa1.s.free nt1)
  have sd1 : Same Y1 (upd Y1 t1 (.tup [.int 2, .ref q1])) := Same.new (Same.refl _) nt1
  have T1 : TupOk (upd X1 t1 (.tup [.int 2, .ref q1])) t1 F8 := ⟨q1, upd_same, sc1 _ _ hq1⟩
  generalize upd X1 t1 (.tup [.int 2, .ref q1]) = U1 at f2 sc1 T1
  generalize upd Y1 t1 (.tup [.int 2, .ref q1]) = W1 at f2 sd1 ⊢
  have S2 : Same H0 U1 := fun x o e => sc1 _ _ (sa1 _ _ (S1 _ _ e))
  have pr2 : Same H W1 := fun x o e => sd1 _ _ (sb1 _ _ (pr1 _ _ e))
  replace T0 := T0.mono (fun x o e => sc1 _ _ (sa1 _ _ e))
  walk_at "zz"
  refine ⟨by walk_at "small", fun q2 nq2 => ?_⟩
  have fa2 := f2.new (o := .lst [.int 1, .int 1, .int 0, .int 0, .int 1]) nq2 trivial
  have sa2 : Same U1 (upd U1 q2 (.lst [.int 1, .int 1, .int 0, .int 0, .int 1])) := Same.new (Same.refl _) (f2.s.free nq2)
  have sb2 : Same W1 (upd W1 q2 (.lst [.int 1, .int 1, .int 0, .int 0, .int 1])) := Same.new (Same.refl _) nq2
  have hq2 : (upd U1 q2 (.lst [.int 1, .int 1, .int 0, .int 0, .int 1])) q2 = some (.lst (vN F16.md)) := upd_same
  generalize upd U1 q2 (.lst [.int 1, .int 1, .int 0, .int 0, .int 1]) = X2 at fa2 sa2 hq2
  generalize upd W1 q2 (.lst [.int 1, .int 1, .int 0, .int 0, .int 1]) = Y2 at fa2 sb2 ⊢
  walk_at "zz"
  refine ⟨by walk_at "small", fun t2 nt2 => ?_⟩
  have f3 := fa2.new (o := .tup [.int 2, .ref q2]) nt2 trivial
  have sc2 : Same X2 (upd X2 t2 (.tup [.int 2, .ref q2])) := Same.new (Same.refl _) (fa2.s.free nt2)
  have sd2 : Same Y2 (upd Y2 t2 (.tup [.int 2, .ref q2])) := Same.new (Same.refl _) nt2
  have T2 : TupOk (upd X2 t2 (.tup [.int 2, .ref q2])) t2 F16 := ⟨q2, upd_same, sc2 _ _ hq2⟩
  generalize upd X2 t2 (.tup [.int 2, .ref q2]) = U2 at f3 sc2 T2
  generalize upd Y2 t2 (.tup [.int 2, .ref q2]) = W2 at f3 sd2 ⊢
  have S3 : Same H0 U2 := fun x o e => sc2 _ _ (sa2 _ _ (S2 _ _ e))
  have pr3 : Same H W2 := fun x o e => sd2 _ _ (sb2 _ _ (pr2 _ _ e))
  replace T0 := T0.mono (fun x o e => sc2 _ _ (sa2 _ _ e))
  replace T1 := T1.mono (fun x o e => sc2 _ _ (sa2 _ _ e))
  walk_at "zz"
  refine ⟨by walk_at "small", fun q3 nq3 => ?_⟩
  have fa3 := f3.new (o := .lst [.int 1, .int 1, .int 0, .int 0, .int 1]) nq3 trivial
  have sa3 : Same U2 (upd U2 q3 (.lst [.int 1, .int 1, .int 0, .int 0, .int 1])) := Same.new (Same.refl _) (f3.s.free nq3)
  have sb3 : Same W2 (upd W2 q3 (.lst [.int 1, .int 1, .int 0, .int 0, .int 1])) := Same.new (Same.refl _) nq3
  have hq3 : (upd U2 q3 (.lst [.int 1, .int 1, .int 0, .int 0, .int 1])) q3 = some (.lst (vN F16.md)) := upd_same
  generalize upd U2 q3 (.lst [.int 1, .int 1, .int 0, .int 0, .int 1]) = X3 at fa3 sa3 hq3
  generalize upd W2 q3 (.lst [.int 1, .int 1, .int 0, .int 0, .int 1]) = Y3 at fa3 sb3 ⊢
  walk_at "zz"
  refine ⟨by walk_at "small", fun t3 nt3 => ?_⟩
  have f4 := fa3.new (o := .tup [.int 2, .ref q3]) nt3 trivial
  have sc3 : Same X3 (upd X3 t3 (.tup [.int 2, .ref q3])) := Same.new (Same.refl _) (fa3.s.free nt3)
  have sd3 : Same Y3 (upd Y3 t3 (.tup [.int 2, .ref q3])) := Same.new (Same.refl _) nt3
  have T3 : TupOk (upd X3 t3 (.tup [.int 2, .ref q3])) t3 F16 := ⟨q3, upd_same, sc3 _ _ hq3⟩
  generalize upd X3 t3 (.tup [.int 2, .ref q3]) = U3 at f4 sc3 T3
  generalize upd Y3 t3 (.tup [.int 2, .ref q3]) = W3 at f4 sd3 ⊢
  have S4 : Same H0 U3 := fun x o e => sc3 _ _ (sa3 _ _ (S3 _ _ e))
  have pr4 : Same H W3 := fun x o e => sd3 _ _ (sb3 _ _ (pr3 _ _ e))
  replace T0 := T0.mono (fun x o e => sc3 _ _ (sa3 _ _ e))
  replace T1 := T1.mono (fun x o e => sc3 _ _ (sa3 _ _ e))
  replace T2 := T2.mono (fun x o e => sc3 _ _ (sa3 _ _ e))
  walk_at "zz"
  refine ⟨by walk_at "small", fun q4 nq4 => ?_⟩
  have fa4 := f4.new (o := .lst [.int 1, .int 2, .int 0, .int 1]) nq4 trivial
  have sa4 : Same U3 (upd U3 q4 (.lst [.int 1, .int 2, .int 0, .int 1])) := Same.new (Same.refl _) (f4.s.free nq4)
  have sb4 : Same W3 (upd W3 q4 (.lst [.int 1, .int 2, .int 0, .int 1])) := Same.new (Same.refl _) nq4
  have hq4 : (upd U3 q4 (.lst [.int 1, .int 2, .int 0, .int 1])) q4 = some (.lst (vN F27.md)) := upd_same
  generalize upd U3 q4 (.lst [.int 1, .int 2, .int 0, .int 1]) = X4 at fa4 sa4 hq4
  generalize upd W3 q4 (.lst [.int 1, .int 2, .int 0, .int 1]) = Y4 at fa4 sb4 ⊢
  walk_at "zz"
  refine ⟨by walk_at "small", fun t4 nt4 => ?_⟩
  have f5 := fa4.new (o := .tup [.int 3, .ref q4]) nt4 trivial
  have sc4 : Same X4 (upd X4 t4 (.tup [.int 3, .ref q4])) := Same.new (Same.refl _) (fa4.s.free nt4)
  have sd4 : Same Y4 (upd Y4 t4 (.tup [.int 3, .ref q4])) := Same.new (Same.refl _) nt4
  have T4 : TupOk (upd X4 t4 (.tup [.int 3, .ref q4])) t4 F27 := ⟨q4, upd_same, sc4 _ _ hq4⟩
  generalize upd X4 t4 (.tup [.int 3, .ref q4]) = U4 at f5 sc4 T4
  generalize upd Y4 t4 (.tup [.int 3, .ref q4]) = W4 at f5 sd4 ⊢
  have S5 : Same H0 U4 := fun x o e => sc4 _ _ (sa4 _ _ (S4 _ _ e))
  have pr5 : Same H W4 := fun x o e => sd4 _ _ (sb4 _ _ (pr4 _ _ e))
  replace T0 := T0.mono (fun x o e => sc4 _ _ (sa4 _ _ e))
  replace T1 := T1.mono (fun x o e => sc4 _ _ (sa4 _ _ e))
  replace T2 := T2.mono (fun x o e => sc4 _ _ (sa4 _ _ e))
  replace T3 := T3.mono (fun x o e => sc4 _ _ (sa4 _ _ e))
  walk_at "zz"
  refine ⟨by walk_at "small", fun q5 nq5 => ?_⟩
  have fa5 := f5.new (o := .lst [.int 1, .int 0, .int 1, .int 0, .int 0, .int 1]) nq5 trivial
  have sa5 : Same U4 (upd U4 q5 (.lst [.int 1, .int 0, .int 1, .int 0, .int 0, .int 1])) := Same.new (Same.refl _) (f5.s.free nq5)
  have sb5 : Same W4 (upd W4 q5 (.lst [.int 1, .int 0, .int 1, .int 0, .int 0, .int 1])) := Same.new (Same.refl _) nq5
  have hq5 : (upd U4 q5 (.lst [.int 1, .int 0, .int 1, .int 0, .int 0, .int 1])) q5 = some (.lst (vN F32.md)) := upd_same
  generalize upd U4 q5 (.lst [.int 1, .int 0, .int 1, .int 0, .int 0, .int 1]) = X5 at fa5 sa5 hq5
  generalize upd W4 q5 (.lst [.int 1, .int 0, .int 1, .int 0, .int 0, .int 1]) = Y5 at fa5 sb5 ⊢
  walk_at "zz"
  refine ⟨by walk_at "small", fun t5 nt5 => ?_⟩
  have f6 := fa5.new (o := .tup [.int 2, .ref q5]) nt5 trivial
  have sc5 : Same X5 (upd X5 t5 (.tup [.int 2, .ref q5])) := Same.new (Same.refl _) (fa5.s.free nt5)
  have sd5 : Same Y5 (upd Y5 t5 (.tup [.int 2, .ref q5])) := Same.new (Same.refl _) nt5
  have T5 : TupOk (upd X5 t5 (.tup [.int 2, .ref q5])) t5 F32 := ⟨q5, upd_same, sc5 _ _ hq5⟩
  generalize upd X5 t5 (.tup [.int 2, .ref q5]) = U5 at f6 sc5 T5
  generalize upd Y5 t5 (.tup [.int 2, .ref q5]) = W5 at f6 sd5 ⊢
  have S6 : Same H0 U5 := fun x o e => sc5 _ _ (sa5 _ _ (S5 _ _ e))
  have pr6 : Same H W5 := fun x o e => sd5 _ _ (sb5 _ _ (pr5 _ _ e))
  replace T0 := T0.mono (fun x o e => sc5 _ _ (sa5 _ _ e))
  replace T1 := T1.mono (fun x o e => sc5 _ _ (sa5 _ _ e))
  replace T2 := T2.mono (fun x o e => sc5 _ _ (sa5 _ _ e))
  replace T3 := T3.mono (fun x o e => sc5 _ _ (sa5 _ _ e))
  replace T4 := T4.mono (fun x o e => sc5 _ _ (sa5 _ _ e))
  walk_at "zz"
  refine ⟨by walk_at "small", fun b nb => ?_⟩
  have fb := f6.new (o := .lst [.ref t0, .ref t1, .ref t2, .ref t3, .ref t4, .ref t5]) nb trivial
  have sU : Same U5 (upd U5 b (.lst [.ref t0, .ref t1, .ref t2, .ref t3, .ref t4, .ref t5])) := Same.new (Same.refl _) (f6.s.free nb)
  have sW : Same W5 (upd W5 b (.lst [.ref t0, .ref t1, .ref t2, .ref t3, .ref t4, .ref t5])) := Same.new (Same.refl _) nb
  have hb : (upd U5 b (.lst [.ref t0, .ref t1, .ref t2, .ref t3, .ref t4, .ref t5])) b = some (.lst [.ref t0, .ref t1, .ref t2, .ref t3, .ref t4, .ref t5]) := upd_same
  generalize upd U5 b (.lst [.ref t0, .ref t1, .ref t2, .ref t3, .ref t4, .ref t5]) = Z0 at fb sU hb
  generalize upd W5 b (.lst [.ref t0, .ref t1, .ref t2, .ref t3, .ref t4, .ref t5]) = Z at fb sW ⊢
  walk_at "zz"
  refine ⟨a, b, [.ref t0, .ref t1, .ref t2, .ref t3, .ref t4, .ref t5], Z0, rfl, fb, hb, (by decide : 0 < 6), (by decide : 6 < 1000), fun i A hi r => ?_⟩
  have fin : ∀ t F, FOK F → TupOk U5 t F → Fg H A (Q (.ref t)) := fun t F ok T => by
    obtain ⟨md, h1, h2⟩ := T
    have e1 := sU _ _ h1
    have e2 := sU _ _ h2
    have pk : Prs H A := Prs.trans (Prs.same (fun x o e => sW _ _ (pr6 _ _ e))) r.k
    exact ⟨A, Same.refl _, r.f.w, pk, k t md F A ⟨r.f.less (fun x o e => sU _ _ (S6 _ _ e)) hn0, pk⟩ ok (r.f.s _ _ e1) (r.f.s _ _ e2) (fb.ne e1) (fb.ne e2)⟩
  match i, hi with
  | 0, _ => exact fin t0 F8 (.inl rfl) T0
  | 1, _ => exact fin t1 F8 (.inl rfl) T1
  | 2, _ => exact fin t2 F16 (.inr (.inl rfl)) T2
  | 3, _ => exact fin t3 F16 (.inr (.inl rfl)) T3
  | 4, _ => exact fin t4 F27 (.inr (.inr (.inl rfl))) T4
  | 5, _ => exact fin t5 F32 (.inr (.inr (.inr rfl))) T5
  | n + 6, h => exact absurd h (by simp)
theorem sc__law_rank_off : FnScope ["_law_told", "_law_word_here", "_law_turner"] ["_law_told", "_law_word_here", "_law_turner"] (defScope s__law_rank_off) := ⟨rfl, rfl, rfl, by decide +kernel, rfl, by decide +kernel, by decide +kernel⟩
def sp__law_rank_off (K : PySem.W.Frag) : Sp := fun vs H Q _ => ∃ (t wd a : Addr) (F : Fd) (ps : List Nat) (m r : Nat) (word ns : List Nat), vs = [.ref t, .ref wd, .ref a] ∧ Wl H ∧ ToldAt H t F ps m r ∧ FOK F ∧ H wd = some (.lst (vN word)) ∧ H a = some (.lst (vN ns)) ∧ El F word ∧ El F ns ∧ El F ps ∧ ps.length ≤ 4 ∧ word.length = ps.length ∧ Q (.int (lrk F (difF F word (wordF F ns ps)) : Nat)) H
theorem ok__law_rank_off (T : Txt K mg) : FnAt P w K mg base 6 "_law_rank_off" ["_law_told", "_law_word_here", "_law_turner"] (sp__law_rank_off K) := by
  refine FnAt.of T 90 88 (d := d__law_rank_off) (k := 5) rfl rfl rfl rfl rfl sc__law_rank_off (fun _ _ _ _ _ _ us hl => match us, hl with | [_, _, _], _ => rfl) (fun vs H Q E h => by walk_at "len") (fun f_ cdv A outer s H vs Q E hr h => ?_)
  obtain ⟨t, wd, a, F, ps, m, r, word, ns, rfl, wl, hT, ok, hw, ha, hwe, hne, hpe, hl, hwl, k⟩ := h
  obtain ⟨md, wo, pl, h1, h2, h3, h4⟩ := hT.ex
  refine ⟨_, (pss_one (ps_ret (pe_callF (ok__law_rank T) (by decide) hr (by rfl) (pa_cons (pe_dget (hu_of hr) (pv 0) pe_str (fun _ _ => rfl)) (pa_cons (pe_callF (ok__law_differences T) (by decide) hr (by rfl) (pa_cons (pe_dget (hu_of hr) (pv 0) pe_str (fun _ _ => rfl)) (pa_cons (pv 1) (pa_cons (pv 2) (pa_cons (pe_dget (hu_of hr) (pv 0) pe_str (fun _ _ => rfl)) pa_nil))))) pa_nil))))), ?_⟩
  walk_at "dn"
  walk_at "zz"
  refine ⟨wo, wd, a, pl, F, word, ns, ps, rfl, wl, h3, ok, hw, ha, h4, hwe, hne, hpe, by omega, hwl, fun p hp => ?_⟩
  walk_at "zz"
  refine ⟨wo, p, F, _, rfl, by walk_at "wl", h3.mono (by walk_at "same"), ok, upd_same, ?_, difF_el ok hwe, ?_⟩
  · rw [difF_len (by unfold wordF; rw [List.length_map, hwl])]
    omega
  · exact ⟨H, by walk_at "same", wl, Prs.refl _, k⟩
theorem sc__law_made : FnScope ["_law_told"] ["_law_told"] (defScope s__law_made) := ⟨rfl, rfl, rfl, by decide +kernel, rfl, by decide +kernel, by decide +kernel⟩
def sp__law_made (K : PySem.W.Frag) : Sp := fun vs H Q _ => ∃ (t : Addr) (F : Fd) (ps : List Nat) (m r : Nat), vs = [.ref t] ∧ Wl H ∧ ToldAt H t F ps m r ∧ FOK F ∧ 1 ≤ ps.length ∧ ps.length ≤ F.n ∧ El F ps ∧ ps.length ≤ rkF F ps ∧ 1 ≤ m ∧ m ≤ ps.length ∧ ∀ b H', Same H H' → Wl H' → BookAt K H' b F ps m → Q (.ref b) H'
theorem ok__law_made (T : Txt K mg) : FnAt P w K mg base 9 "_law_made" ["_law_told"] (sp__law_made K) := by
  refine FnAt.of T 88 86 (d := d__law_made) (k := 8) rfl rfl rfl rfl rfl sc__law_made (fun _ _ _ _ _ _ us hl => match us, hl with | [_], _ => rfl) (fun vs H Q E h => by walk_at "len") (fun f_ cdv A outer s H vs Q E hr h => ?_)
  obtain ⟨t, F, ps, m, r, rfl, wl, hT, ok, hl1, hl2, hpe, hrk, hm1, hm2, k⟩ := h
  obtain ⟨md, wo, pl, h1, h2, h3, h4⟩ := hT.ex
  refine ⟨_, (pss_one (ps_ret (pe_makeF (ok_Book_init T) (by decide) hr (by rfl) (pa_cons (pe_makeF (ok_Field_init T) (by decide) hr (by rfl) (pa_cons (pe_dget (hu_of hr) (pv 0) pe_str (fun _ _ => rfl)) (pa_cons (pe_dget (hu_of hr) (pv 0) pe_str (fun _ _ => rfl)) pa_nil))) (pa_cons (pe_dget (hu_of hr) (pv 0) pe_str (fun _ _ => rfl)) (pa_cons (pe_dget (hu_of hr) (pv 0) pe_str (fun _ _ => rfl)) pa_nil)))))), ?_⟩
  walk_at "dn"
  walk_at "zz"
  refine z_make ?_
  walk_at "zz"
  refine z_make ?_
  walk_at "zz"
  intro y dy ny nd hne
  refine ⟨F, y, dy, md, H, rfl, rfl, ny, nd, hne, wl, ok, h2, fun A s1 w1 hF => ⟨rfl, ?_⟩⟩
  have h1A := s1 _ _ h1
  walk_at "zz"
  intro y2 dy2 n2 nd2 hne2
  refine ⟨F, y2, dy2, y, pl, m, ps, A, rfl, rfl, n2, nd2, hne2, w1, ok, hF, s1 _ _ h4, hl1, hl2, hpe, hrk, hm1, hm2, fun A2 s2 w2 hB => ⟨rfl, ?_⟩⟩
  have sH : Same H A2 := fun x o e => s2 _ _ (s1 _ _ e)
  exact ⟨A2, Same.refl _, w2, Prs.same sH, k y2 A2 sH w2 hB⟩
theorem sc__law_book : FnScope ["_law_pot_here", "_law_least", "_law_most", "_law_prime", "_law_modulus", "_law_world_here", "_law_length", "_law_points", "_law_many"] ["_law_pot_here", "_law_least", "_law_most"] (defScope s__law_book) := ⟨rfl, rfl, rfl, by decide +kernel, rfl, by decide +kernel, by decide +kernel⟩
def sp__law_book (K : PySem.W.Frag) : Sp := fun vs H Q _ => ∃ (a : Addr) (H0 : Hp), vs = [.ref a, .int 3, .int 4] ∧ Fz H0 a H ∧ ∀ t F ps m G0 H', Same H0 G0 → Rz G0 a H H' → ToldAt G0 t F ps m ((ps.length - m) / 2) → FOK F → 3 ≤ ps.length → ps.length ≤ 4 → ps.length ≤ F.n → El F ps → FreeL F ps → 1 ≤ m → m ≤ 2 → Q (.ref t) H'
theorem ok__law_book (T : Txt K mg) : FnAt P w K mg base 5 "_law_book" ["_law_pot_here", "_law_least", "_law_most"] (sp__law_book K) := by
  refine FnAt.of T 87 85 (d := d__law_book) (k := 4) rfl rfl rfl rfl rfl sc__law_book (fun _ _ _ _ _ _ us hl => match us, hl with | [_, _, _], _ => rfl) (fun vs H Q E h => by walk_at "len") (fun f_ cdv A outer s H vs Q E hr h => ?_)
  obtain ⟨a, H0, rfl, f, k⟩ := h
  refine ⟨_, (pss_cons (ps_f (ps_asg (pe_callF (ok__law_kind T) (by decide) hr (by rfl) (pa_cons (pv 0) pa_nil)) (pg_tup (n := 2) rfl (pgs_cons (pg_name (i := 3) sc__law_book.nd rfl (Or.inl rfl)) (pgs_cons (pg_name (i := 4) sc__law_book.nd rfl (Or.inl rfl)) pgs_nil)))))
    (pss_cons (ps_set (i := 5) sc__law_book.nd rfl (Or.inl rfl) (pe_callF (ok__law_world T) (by decide) hr (by rfl) (pa_cons (pv 3) (pa_cons (pv 4) pa_nil))))
    (pss_cons (ps_set (i := 6) sc__law_book.nd rfl (Or.inl rfl) (pe_op op_add (pv 1) (pe_callF (ok__law_draw T) (by decide) hr (by rfl) (pa_cons (pv 0) (pa_cons (pe_op op_add (pe_op op_sub (pe_callB (call_min2 rfl) (by rfl) T.n_min (by decide +kernel) (pa_cons (pv 2) (pa_cons (pe_dget (hu_of hr) (pv 5) pe_str (fun _ _ => rfl)) pa_nil))) (pv 1)) pe_int) pa_nil)))))
    (pss_cons (ps_set (i := 7) sc__law_book.nd rfl (Or.inl rfl) (pe_callF (ok__law_free T) (by decide) hr (by rfl) (pa_cons (pv 0) (pa_cons (pv 5) (pa_cons (pv 6) pa_nil)))))
    (pss_cons (ps_set (i := 8) sc__law_book.nd rfl (Or.inl rfl) (pe_op op_add pe_int (pe_callF (ok__law_draw T) (by decide) hr (by rfl) (pa_cons (pv 0) (pa_cons (pe_callB (call_min2 rfl) (by rfl) T.n_min (by decide +kernel) (pa_cons pe_int (pa_cons (pe_op op_sub (pv 6) pe_int) pa_nil))) pa_nil)))))
    (pss_one (ps_ret (pe_disp (pps_cons pe_str (pv 3) (pps_cons pe_str (pv 4) (pps_cons pe_str (pv 5) (pps_cons pe_str (pv 7) (pps_cons pe_str (pv 8) (pps_cons pe_str (pe_op op_fdiv (pe_op op_sub (pv 6) (pv 8)) pe_int) pps_nil)))))) (by rfl) (by rfl) (fun z => by cases z) (by decide))))))))), ?_⟩
  walk_at "dn"
  walk_at "zz"
  refine ⟨a, H0, rfl, f, fun t md F A r1 ok ht hmd hta hma => ?_⟩
  have hp := ok.p
  have hn := ok.n
  walk_at "zz"
  refine z_gt2 (SqT.of ht) ?_
  refine ⟨A, Same.refl _, r1.f.w, r1.k, ?_⟩
  walk_at "ds"
  walk_at "zz"
  refine ⟨F, md, rfl, r1.f.w, ok, hmd, fun wo B s2 w2 p2 hW => ?_⟩
  have f2 : Fz H0 a B := r1.f.same s2 w2
  have pB : Prs H B := Prs.trans r1.k p2
  have hmdB := s2 _ _ hmd
  have hWz := hW.frz f2 ok
  obtain ⟨a0, b0, hW1, hW2, hW3⟩ := hW.ex
  have fz2 := f2.frz
  have le2 : Same H0 (frz B a) := f2.le
  have hmd2 : frz B a md = some (.lst (vN F.md)) := frz_at hma hmdB
  walk_at "zz"
  walk_at "ds"
  refine ⟨_, _, rfl, ?_⟩
  walk_at "zz"
  obtain ⟨c, hc, hc1, hc2⟩ : ∃ c : Nat, (if (F.n : Int) < 4 then (F.n : Int) else 4) - 3 + 1 = (c : Nat) ∧ 1 ≤ c ∧ c + 2 ≤ F.n ∧ c ≤ 2 := by
    by_cases h : F.n < 4
    · exact ⟨1, by rw [if_pos (by omega)]; omega, by omega, by omega, by omega⟩
    · exact ⟨2, by rw [if_neg (by omega)]; omega, by omega, by omega, by omega⟩
  rw [hc]
  refine ⟨a, c, frz B a, rfl, fz2, hc1, by omega, fun d C hd r3 => ?_⟩
  walk_at "zz"
  walk_at "ds"
  have e3 : (3 : Int) + (d : Nat) = ((3 + d : Nat) : Int) := rfl
  rw [e3]
  refine ⟨a, wo, F, 3 + d, frz B a, rfl, r3.f, hWz, ok, by omega, fun pl ps D r4 hpl hpa hplen hpel hpfr => ?_⟩
  walk_at "zz"
  refine ⟨_, _, rfl, ?_⟩
  have e4 : (if ((3 + d : Nat) : Int) - 1 < 2 then ((3 + d : Nat) : Int) - 1 else 2) = ((2 : Nat) : Int) := by rw [if_neg (by omega)]; rfl
  rw [e4]
  have hmdD : D md = some (.lst (vN F.md)) := r4.f.s _ _ hmd2
  have hWD : WorldAt D wo F := hWz.mono r4.f.s
  have fD := r4.f.frz
  have hplz : frz D a pl = some (.lst (vN ps)) := frz_at hpa hpl
  have hmdz : frz D a md = some (.lst (vN F.md)) := frz_at hma hmdD
  have hWz2 := hWD.frz r4.f ok
  refine ⟨a, 2, frz D a, rfl, fD, by omega, by omega, fun d2 E hd2 r5 => ?_⟩
  walk_at "zz"
  walk_at "ds"
  intro t2 nt2
  walk_at "zz"
  have e5 : ((((3 + d : Nat) : Int)) - (1 + (d2 : Nat) : Int)) / 2 = (((ps.length - (1 + d2)) / 2 : Nat) : Int) := by rw [hplen]; omega
  rw [e5]
  refine ⟨upd_same, tKV F md wo pl (1 + d2) ((ps.length - (1 + d2)) / 2), rfl, (by decide : 6 ≤ 15), ?_⟩
  have em : mergeK [] (tKV F md wo pl (1 + d2) ((ps.length - (1 + d2)) / 2)) = tKV F md wo pl (1 + d2) ((ps.length - (1 + d2)) / 2) := rfl
  rw [em, upd_put]
  have f6 : Fz (frz D a) a (upd E t2 (.dK (tKV F md wo pl (1 + d2) ((ps.length - (1 + d2)) / 2)))) := r5.f.skip nt2 trivial
  have f7 := f6.frz
  have le : Same (frz D a) (frz (upd E t2 (.dK (tKV F md wo pl (1 + d2) ((ps.length - (1 + d2)) / 2)))) a) := f6.le
  have hs0 : Same H0 (frz (upd E t2 (.dK (tKV F md wo pl (1 + d2) ((ps.length - (1 + d2)) / 2)))) a) := fun x o e => le _ _ (r4.f.le _ _ (le2 _ _ e))
  have pE : Prs H (upd E t2 (.dK (tKV F md wo pl (1 + d2) ((ps.length - (1 + d2)) / 2)))) := Prs.trans pB (Prs.trans r3.k (Prs.trans r4.k (Prs.trans r5.k (Prs.same (Same.new (Same.refl _) nt2)))))
  refine ⟨_, Same.refl _, f6.w, pE, k t2 F ps (1 + d2) _ _ hs0 ⟨f7, pE⟩ ⟨md, wo, pl, frz_at (r5.f.nea nt2) upd_same, le _ _ hmdz, hWz2.mono le, le _ _ hplz⟩ ok (by omega) (by omega) (by omega) hpel hpfr (by omega) (by omega)⟩
end
end TP
/-! part TPh2 -/
/-! comprehensions whose lists are new -/
namespace TP
open PySem PySem.Spec PyProof.Rows L2
/-- what is in A and was not in B -/
def nw (A B : Hp) : Hp := fun l => if B l = none then A l else none
theorem nw_le {A B : Hp} : Same (nw A B) A := fun l o h => by
  unfold nw at h
  by_cases e : B l = none
  · rw [if_pos e] at h
    exact h
  · rw [if_neg e] at h
    cases h
theorem nw_at {A B : Hp} {l : Addr} {o : HO} (n : B l = none) (h : A l = some o) : nw A B l = some o := by
  unfold nw
  rw [if_pos n]
  exact h
theorem nw_none {A B : Hp} {l : Addr} {o : HO} (h : nw A B l = some o) : B l = none := by
  unfold nw at h
  by_cases e : B l = none
  · exact e
  · rw [if_neg e] at h
    cases h
theorem nw_mono {A A' B B' : Hp} (s : Same A A') (t : Same B' B) : Same (nw A B) (nw A' B') := fun l o h => nw_at (t.free (nw_none h)) (s _ _ (nw_le _ _ h))
theorem nw_upd {A B : Hp} {l : Addr} {o : HO} (n : B l = none) : Same (upd (nw A B) l o) (nw (upd A l o) B) := fun x u h => by
  by_cases e : x = l
  · rw [e, upd_same] at h
    rw [e]
    exact nw_at n (by rw [upd_same]; exact h)
  · rw [upd_ne e] at h
    exact nw_at (nw_none h) (by rw [upd_ne e]; exact nw_le _ _ h)
section
variable {g : TG} {st : L2.St} {B : Hp} {J : It} {tt : TT} {te : TE} {vs : List Nat} {Q : VK} {n : Nat} {f : Nat → L2.St → L2.St} {Ok : Hp → Prop}
theorem lcl_rowsN (w : JW J g n f Ok) (r : Nat → List Nat) (hn : n ≤ 100000) (wl : Wl B) (ok : ∀ A, Same B A → Wl A → Ok A) (hw : ∀ i, i < n → wipe (f i (wipe st vs)) vs = wipe st vs)
    (he : ∀ A i, i < n → Same B A → Wl A → ∀ R : VK, (∀ q A', A q = none → Same A A' → Wl A' → A' q = some (.lst (vN (r i))) → R (.ref q) A') → te (f i (wipe st vs)) A R)
    (hd : ∀ D A, B D = none → Same B A → Wl A → LL (nw A B) D ((List.range n).map r) → Q (.ref D) A) : Lcl J g tYes te vs st Q B := by
  refine lcl_of w (fun D i A => B D = none ∧ Same B A ∧ Wl A ∧ ∃ ws, A D = some (.lst ws) ∧ ws.length ≤ i ∧ Rows (nw A B) ws ((List.range i).map r)) (fun D nD => ⟨nD, Same.new (Same.refl _) nD, Wl.put wl (NoOwn.none nD) trivial, [], upd_same, Nat.le_refl _, True.intro⟩)
    (fun D i A nD hi h => ok A h.2.1 h.2.2.1) hw ?_ (fun D A nD h => by
      obtain ⟨_, se, wl2, ws, h1, _, h2⟩ := h
      exact hd D A nD se wl2 ⟨ws, nw_at nD h1, h2⟩)
  rintro D i A nD hi ⟨_, se, wl2, ws, h1, hl, h2⟩
  refine z_yes (z_tt ?_)
  refine he A i hi se wl2 _ fun q A' nq se2 wl3 hq => ?_
  have hne : q ≠ D := fun e => by
    rw [e, h1] at nq
    cases nq
  have hD := se2 _ _ h1
  refine ⟨ws, hD, Nat.lt_of_le_of_lt (show ws.length ≤ 100000 by omega) (by decide), nD, Same.new (fun a o e => se2 _ _ (se _ _ e)) nD, Wl.put wl3 (NoOwn.flat hD trivial) trivial, ws ++ [.ref q], upd_same, by rw [List.length_append, List.length_singleton]; omega, ?_⟩
  rw [List.range_succ, List.map_append]
  refine Rows.mono (nw_upd nD) ?_
  refine Rows.snoc (upd_at hne (nw_at (se.free nq) hq)) (Rows.put (h2.mono (nw_mono se2 (Same.refl _))) (nw_at nD hD))
end
end TP
/-! part L8 -/
set_option maxHeartbeats 1000000
namespace TP
open PySem PySem.Spec PyProof.Rows L2
set_option hygiene false in
local macro_rules | `(tactic| walk_at "ne") => `(tactic| first | assumption | exact Ne.symm (by assumption) | exact ne_of_none (H := H) (by assumption) (by assumption) | exact (ne_of_none (H := H) (by assumption) (by assumption)).symm | exact ne_of_none (H := A) (by assumption) (by assumption) | exact (ne_of_none (H := A) (by assumption) (by assumption)).symm)
local macro_rules | `(tactic| walk_at "get") => `(tactic| first | assumption | exact upd_same | (refine upd_at ?_ ?_; (focus walk_at "ne"); (walk_at "get")))
local macro_rules | `(tactic| walk_at "nn") => `(tactic| first | assumption | (refine none_upd ?_ ?_; (focus walk_at "ne"); (walk_at "nn")))
local macro_rules | `(tactic| walk_at "same") => `(tactic| first | exact Same.refl _ | assumption | (refine Same.both ?_; walk_at "same") | (refine TP.Same.new ?_ ?_; (focus walk_at "same"); (walk_at "nn")) | (refine Same.put ?_ ?_; (focus walk_at "same"); (walk_at "get")))
local macro_rules | `(tactic| walk_at "noown") => `(tactic| first | exact NoOwn.none (by assumption) | (refine NoOwn.upd ?_ True.intro; walk_at "noown"))
local macro_rules | `(tactic| walk_at "wl") => `(tactic| first | assumption | (refine Wl.put ?_ ?_ True.intro; (focus walk_at "wl"); (walk_at "noown")))
local macro_rules | `(tactic| walk_at "sq") => `(tactic| first | assumption | exact SqL.of (by walk_at "get"))
set_option hygiene false in
local macro_rules | `(tactic| walk_at "f1") => `(tactic| obtain ⟨_, hp⟩ := upd_none hp)
set_option hygiene false in
local macro_rules | `(tactic| walk_at "f2") => `(tactic| (obtain ⟨_, hp⟩ := upd_none hp; obtain ⟨_, hp⟩ := upd_none hp))
set_option hygiene false in
local macro_rules | `(tactic| walk_at "f3") => `(tactic| (obtain ⟨_, hp⟩ := upd_none hp; obtain ⟨_, hp⟩ := upd_none hp; obtain ⟨_, hp⟩ := upd_none hp))
set_option hygiene false in
local macro_rules | `(tactic| walk_at "f4") => `(tactic| (obtain ⟨_, hp⟩ := upd_none hp; obtain ⟨_, hp⟩ := upd_none hp; obtain ⟨_, hp⟩ := upd_none hp; obtain ⟨_, hp⟩ := upd_none hp))
set_option hygiene false in
local macro_rules | `(tactic| walk_at "fa") => `(tactic| first
  | ((with_reducible refine' z_own_prime T ?hv ?hh ?_); (case hv => exact rfl); (case hh => walk_at "get"))
  | ((with_reducible refine' z_own_turns T ?hv ?hh ?_); (case hv => exact rfl); (case hh => walk_at "get"))
  | ((with_reducible refine' z_own_size T ?hv ?hh ?_); (case hv => exact rfl); (case hh => walk_at "get"))
  | ((with_reducible refine' z_own_powers T ?hv ?hh ?_); (case hv => exact rfl); (case hh => walk_at "get"))
  | ((with_reducible refine' z_own_logs T ?hv ?hh ?_); (case hv => exact rfl); (case hh => walk_at "get"))
  | ((with_reducible refine' z_own_field T ?hv ?hh ?_); (case hv => exact rfl); (case hh => walk_at "get"))
  | ((with_reducible refine' z_own_points T ?hv ?hh ?_); (case hv => exact rfl); (case hh => walk_at "get"))
  | ((with_reducible refine' z_own_many T ?hv ?hh ?_); (case hv => exact rfl); (case hh => walk_at "get")))
local macro_rules | `(tactic| walk_at "z") => `(tactic| first
  | with_reducible refine z_seq ?_
  | with_reducible refine z_asg ?_
  | with_reducible refine z_name ?_
  | ((with_reducible refine' z_var ?hv ?_); (case hv => exact rfl))
  | with_reducible refine z_c ?_
  | with_reducible refine z_op ?_
  | with_reducible refine r_I0 ?_
  | ((with_reducible refine r_I ?hc ?_); (case hc => walk_at "ar"))
  | ((with_reducible refine' r_app ?ha ?hz ?_); (case ha => walk_at "get"); (case hz => walk_at "sz"))
  | ((with_reducible refine' z_tyl ?ha ?_); (case ha => walk_at "get"))
  | with_reducible refine z_cons ?_
  | ((with_reducible refine' r_len ?ha ?_); (case ha => walk_at "sq"))
  | with_reducible refine z_nil ?_
  | walk_at "fa"
  | walk_at "fd"
  | with_reducible refine z_test ?_
  | with_reducible refine z_bl ?_
  | with_reducible refine z_tB ?_
  | with_reducible refine r_eq ?_
  | with_reducible refine r_ne ?_
  | with_reducible refine z_ifS ?_
  | with_reducible refine z_ret ?_
  | with_reducible refine z_drop ?_
  | with_reducible refine z_cb ?_
  | with_reducible refine z_call ?_
  | with_reducible refine z_bm ?_
  | with_reducible refine z_bm0 ?_
  | with_reducible refine z_lst ?_
  | with_reducible refine z_tup ?_
  | with_reducible refine z_un ?_
  | with_reducible refine r_U ?_
  | with_reducible refine z_par ?_
  | with_reducible refine z_par3 ?_
  | with_reducible refine z_two ?_
  | with_reducible refine z_three ?_
  | with_reducible refine z_sub ?_
  | with_reducible refine z_for ?_
  | with_reducible refine z_lc ?_
  | with_reducible refine z_ifE ?_
  | with_reducible refine z_and ?_
  | with_reducible refine z_or ?_
  | with_reducible refine z_not ?_
  | with_reducible refine z_yes ?_
  | with_reducible refine z_andV ?_
  | with_reducible refine z_orV ?_
  | with_reducible refine z_notV ?_
  | with_reducible refine z_sl ?_
  | with_reducible refine z_noP ?_
  | with_reducible refine z_part ?_
  | with_reducible refine z_int ?_
  | with_reducible refine z_revL ?_
  | with_reducible refine z_next ?_
  | with_reducible refine z_sf ?_
  | with_reducible refine z_f ?_
  | with_reducible refine z_tf ?_
  | with_reducible refine z_disp ?_
  | with_reducible refine z_pc ?_
  | with_reducible refine z_pn ?_
  | with_reducible refine z_i1 ?_
  | with_reducible refine i_rng3 ?_
  | with_reducible refine z_chain ?_
  | with_reducible refine z_nT ?_
  | with_reducible refine z_nF ?_
  | with_reducible refine z_sfld ?_
  | with_reducible refine i_rng1 ?_
  | with_reducible refine i_rng2 ?_
  | with_reducible refine i_list ?_
  | with_reducible refine i_zip ?_
  | with_reducible refine i_enum ?_
  | with_reducible refine z_tt ?_
  | with_reducible refine z_ff ?_)
local macro_rules | `(tactic| walk_at "zz") => `(tactic| repeat walk_at "z")
set_option hygiene false in
local macro_rules | `(tactic| walk_at "len") => `(tactic| first | (obtain ⟨rfl, _⟩ := h; rfl) | (obtain ⟨_, rfl, _⟩ := h; rfl) | (obtain ⟨_, _, rfl, _⟩ := h; rfl) | (obtain ⟨_, _, _, rfl, _⟩ := h; rfl) | (obtain ⟨_, _, _, _, rfl, _⟩ := h; rfl) | (obtain ⟨_, _, _, _, _, rfl, _⟩ := h; rfl) | (obtain ⟨_, _, _, _, _, _, rfl, _⟩ := h; rfl) | (obtain ⟨_, _, _, _, _, _, _, rfl, _⟩ := h; rfl) | (obtain ⟨_, _, _, _, _, _, _, _, rfl, _⟩ := h; rfl) | (obtain ⟨_, _, _, _, _, _, _, _, _, rfl, _⟩ := h; rfl) | (obtain ⟨_, _, _, _, _, _, _, _, _, _, rfl, _⟩ := h; rfl) | (obtain ⟨_, _, _, _, _, _, _, _, _, _, _, rfl, _⟩ := h; rfl) | (obtain ⟨_, _, _, _, _, _, _, _, _, _, _, _, rfl, _⟩ := h; rfl) | (obtain ⟨_, _, _, _, _, _, _, _, _, _, _, _, _, rfl, _⟩ := h; rfl) | (obtain ⟨_, _, _, _, _, _, _, _, _, _, _, _, _, _, rfl, _⟩ := h; rfl) | (obtain ⟨_, _, _, _, _, _, _, _, _, _, _, _, _, _, _, rfl, _⟩ := h; rfl) | (obtain ⟨_, _, _, _, _, _, _, _, _, _, _, _, _, _, _, _, rfl, _⟩ := h; rfl))
local macro_rules | `(tactic| walk_at "small") => `(tactic| first | exact Nat.zero_le _ | exact (by decide : 1 ≤ sizeLine) | exact (by decide : 2 ≤ sizeLine) | exact (by decide : 3 ≤ sizeLine) | exact (by decide : 4 ≤ sizeLine) | exact (by decide : 5 ≤ sizeLine) | exact (by decide : 6 ≤ sizeLine))
local macro_rules | `(tactic| walk_at "dn") => `(tactic| dsimp only [cxOf, L2.start, List.map, List.length, List.replicate, List.cons_append, List.nil_append, Nat.reduceAdd, Nat.reduceSub, Nat.zero_add])
local macro_rules | `(tactic| walk_at "ar") => `(tactic| first | assumption | (show _ < _; omega) | (show _ < _ ∧ _ < _; omega) | (left; show _ < _ ∧ _ < _; constructor <;> omega) | (right; show _ < _ ∧ _ < _; constructor <;> omega))
local macro_rules | `(tactic| walk_at "sz") => `(tactic| first | omega | (simp only [vN_len, List.length_append, List.length_cons, List.length_nil, List.length_map, List.length_range, List.length_replicate, List.length_set, List.length_take, List.length_drop, List.length_reverse]; omega))
local macro_rules | `(tactic| walk_at "ds") => `(tactic| try dsimp only [List.set])
set_option hygiene false in
local macro_rules | `(tactic| walk_at "endL") => `(tactic| (refine' ⟨_, ?e1, ?e2, ?e3, k p hp⟩; (case e1 => walk_at "same"); (case e2 => walk_at "wl"); (case e3 => exact Prs.same (by walk_at "same"))))
set_option hygiene false in
local macro_rules | `(tactic| walk_at "endS") => `(tactic| exact ⟨H, by walk_at "same", wl, Prs.refl _, k⟩)
set_option hygiene false in
local macro_rules | `(tactic| walk_at "endQ") => `(tactic| (refine' ⟨_, ?e1, ?e2, ?e3, k q hp⟩; (case e1 => walk_at "same"); (case e2 => walk_at "wl"); (case e3 => exact Prs.same (by walk_at "same"))))
local macro_rules | `(tactic| walk_at "f5") => `(tactic| (walk_at "f1"; walk_at "f4"))
local macro_rules | `(tactic| walk_at "f6") => `(tactic| (walk_at "f2"; walk_at "f4"))
local macro_rules | `(tactic| walk_at "f7") => `(tactic| (walk_at "f3"; walk_at "f4"))
set_option hygiene false in
local macro_rules | `(tactic| walk_at "fd") => `(tactic| first
  | ((with_reducible refine' z_w_prime ?hv ?hh ?_); (case hv => exact rfl); (case hh => assumption))
  | ((with_reducible refine' z_w_turns ?hv ?hh ?_); (case hv => exact rfl); (case hh => assumption))
  | ((with_reducible refine' z_w_size ?hv ?hh ?_); (case hv => exact rfl); (case hh => assumption))
  | ((with_reducible refine' z_w_powers ?hv ?hh ?_); (case hv => exact rfl); (case hh => assumption))
  | ((with_reducible refine' z_w_places ?hv ?hh ?_); (case hv => exact rfl); (case hh => assumption))
  | ((with_reducible refine' z_t_prime ?hv ?hh ?_); (case hv => exact rfl); (case hh => assumption))
  | ((with_reducible refine' z_t_modulus ?hv ?hh ?_); (case hv => exact rfl); (case hh => assumption))
  | ((with_reducible refine' z_t_world ?hv ?hh ?_); (case hv => exact rfl); (case hh => assumption))
  | ((with_reducible refine' z_t_points ?hv ?hh ?_); (case hv => exact rfl); (case hh => assumption))
  | ((with_reducible refine' z_t_many ?hv ?hh ?_); (case hv => exact rfl); (case hh => assumption))
  | ((with_reducible refine' z_t_reach ?hv ?hh ?_); (case hv => exact rfl); (case hh => assumption)))
section
variable {P : Program} {w : World} {K : PySem.W.Frag} {mg : Str → Option Value} {base : Heap}
theorem sc__law_all : FnScope ["_law_world_here", "_law_many", "_law_found", "_law_turn", "_law_more", "_law_old", "_law_one"] ["_law_world_here", "_law_many"] (defScope s__law_all) := ⟨rfl, rfl, rfl, by decide +kernel, rfl, by decide +kernel, by decide +kernel⟩
def sp__law_all (K : PySem.W.Frag) : Sp := fun vs H Q _ => ∃ (d : Addr) (F : Fd) (m : Nat), vs = [.ref d, .int m] ∧ Wl H ∧ WorldAt H d F ∧ FOK F ∧ m ≤ 2 ∧ ∀ q H', Same H H' → Wl H' → LL (nw H' H) q (allF F m) → Q (.ref q) H'
theorem ok__law_all (T : Txt K mg) : FnAt P w K mg base 2 "_law_all" ["_law_world_here", "_law_many"] (sp__law_all K) := by
  refine FnAt.of T 89 87 (d := d__law_all) (k := 1) rfl rfl rfl rfl rfl sc__law_all (fun _ _ _ _ _ _ us hl => match us, hl with | [_, _], _ => rfl) (fun vs H Q E h => by walk_at "len") (fun f_ cdv A outer s H vs Q E hr h => ?_)
  obtain ⟨d, F, m, rfl, wl, hW, ok, hm, k⟩ := h
  have hq := ok.q
  obtain ⟨a0, b0, hW1, hW2, hW3⟩ := hW.ex
  refine ⟨_, (pss_cons (ps_set (i := 2) sc__law_all.nd rfl (Or.inl rfl) (pe_lst (pa_cons (pe_lst pa_nil) pa_nil)))
    (pss_cons (ps_for PassesOwn.never rfl (pi_range1 (by rfl) T.n_range (pa_cons (pv 1) pa_nil)) (pg_name (i := 3) sc__law_all.nd rfl (Or.inl rfl))
      (pss_f (pss_cons (ps_set (i := 4) sc__law_all.nd rfl (Or.inl rfl) (pe_lst pa_nil))
    (pss_cons (ps_for PassesOwn.never rfl (pi_list (pv 2)) (pg_name (i := 5) sc__law_all.nd rfl (Or.inr rfl))
      (pss_f (pss_one (ps_expr (pe_bm PySem.F.plainAttrs_list PySem.F.slot_list_extend PySem.F.type_list_extend mt_extend (pv 4) (pa_cons (pe_lc (own := [("_law_one", 6)]) rfl sc__law_all.nd (pi_range1 (by rfl) T.n_range (pa_cons (pe_dget (hu_of hr) (pv 0) pe_str (fun _ _ => rfl)) pa_nil)) (blkOk_by (N := ["_law_world_here", "_law_many", "_law_found", "_law_turn", "_law_more", "_law_old", "_law_one"]) (sc := (defScope s__law_all)) (own := [("_law_one", 6)]) (by decide +kernel)) (fun _ _ _ _ _ => (pg_name (i := 6) sc__law_all.nd rfl (Or.inl rfl))) (fun _ _ _ _ _ => pts_nil) (fun _ _ _ _ _ => (pe_f (pe_op op_cat (pv 5) (pe_lst (pa_cons (pv 6) pa_nil)))))) pa_nil))))))
    (pss_one (ps_set (i := 2) sc__law_all.nd rfl (Or.inl rfl) (pv 4)))))))
    (pss_one (ps_ret (pe_lc (own := [("_law_one", 6)]) rfl sc__law_all.nd (pi_list (pv 2)) (blkOk_by (N := ["_law_world_here", "_law_many", "_law_found", "_law_turn", "_law_more", "_law_old", "_law_one"]) (sc := (defScope s__law_all)) (own := [("_law_one", 6)]) (by decide +kernel)) (fun _ _ _ _ _ => (pg_name (i := 6) sc__law_all.nd rfl (Or.inl rfl))) (fun _ _ _ _ _ => pts_nil) (fun _ _ _ _ _ => (pe_f (pe_callF (ok__law_trimmed T) (by decide) hr (by rfl) (pa_cons (pv 6) pa_nil))))))))), ?_⟩
  walk_at "dn"
  walk_at "zz"
  refine ⟨by walk_at "small", fun l1 n1 => ?_⟩
  walk_at "zz"
  refine ⟨by walk_at "small", fun l2 n2 => ?_⟩
  have n2' := (upd_none n2).2
  walk_at "zz"
  refine e_rng1 m rfl (by omega) ?_
  walk_at "ds"
  have w2 : Wl (upd (upd H l1 (.lst [])) l2 (.lst [.ref l1])) := Wl.put (Wl.put wl (NoOwn.none n1) trivial) (NoOwn.none n2) trivial
  have s2 : Same H (upd (upd H l1 (.lst [])) l2 (.lst [.ref l1])) := Same.new (Same.new (Same.refl _) n1) n2'
  refine lp_of (jw_range (n := m)) (fun i st A => ∃ l vs y3 y4 y5, st = [some (.ref d), some (.int m), some (.ref l), y3, y4, y5, none] ∧ Same H A ∧ Wl A ∧ A l = some (.lst vs) ∧ Rows A vs (allTo F i))
    ⟨l2, [.ref l1], _, _, _, rfl, s2, w2, upd_same, ⟨⟨l1, rfl, upd_at (ne_of_none upd_same n2) upd_same⟩, True.intro⟩⟩ (fun _ _ _ _ _ => trivial) ?_ ?_
  · rintro i _ A hi ⟨l, vs, y3, y4, y5, rfl, se, wlA, hl, hr2⟩
    have hlen := allTo_len F i
    have hsz : F.q ^ i ≤ 32 := by
      have : i = 0 ∨ i = 1 := by omega
      rcases this with h | h
      · rw [h, Nat.pow_zero]; omega
      · rw [h, Nat.pow_one]; omega
    have est : allTo F (i + 1) = allMore F (allTo F i) (allTo F i).length := rfl
    rw [est]
    have hrowL : ∀ j, j < (allTo F i).length → ((allTo F i).getD j []).length ≤ 2 := fun j hj => by
      rw [List.getD_eq_getElem?_getD, List.getElem?_eq_getElem hj]
      have := (allTo_row F i _ (List.getElem_mem hj)).1
      show (allTo F i)[j].length ≤ 2
      omega
    generalize allTo F i = L at hr2 hlen hrowL ⊢
    walk_at "ds"
    walk_at "zz"
    refine ⟨by walk_at "small", fun lm nlm => ?_⟩
    walk_at "zz"
    have nmH := se.free nlm
    refine e_list (SqL.of (upd_at (ne_of_none hl nlm) hl)) ?_
    walk_at "ds"
    refine lp_of (jw_list (n := L.length) hr2.len) (fun j st B => ∃ mv y5, st = [some (.ref d), some (.int m), some (.ref l), some (.int (0 + (i : Nat))), some (.ref lm), y5, none] ∧ Same A B ∧ Wl B ∧ B lm = some (.lst mv) ∧ Rows B mv (allMore F L j))
      ⟨[], _, rfl, Same.new (Same.refl _) nlm, Wl.put wlA (NoOwn.none nlm) trivial, upd_same, True.intro⟩ (fun j st B _ h => ?_) ?_ ?_
    · obtain ⟨mv, y5, rfl, sAB, _, _, _⟩ := h
      exact SqL.of (sAB _ _ hl)
    · rintro j _ B hj ⟨mv, y5, rfl, sAB, wlB, hlm, hrm⟩
      obtain ⟨b, eb, hb⟩ := hr2.atD hj
      rw [eb]
      have hbB := sAB _ _ hb
      have hdB := sAB _ _ (se _ _ hW1)
      have hml := hrm.len
      rw [allMore_len] at hml
      have hjq : j * F.q ≤ 32 * 32 := Nat.mul_le_mul (by omega) (by omega)
      walk_at "ds"
      walk_at "zz"
      refine e_rng1 F.q rfl (by omega) ?_
      refine lcl_rows (jw_range (n := F.q)) (fun x => L.getD j [] ++ [x]) (by omega) wlB (fun _ _ _ => trivial) (fun _ _ => rfl) (fun A2 x hx s3 w3 R q => ?_) (fun D A2 nD s3 w3 hL => ?_)
      · walk_at "ds"
        rw [show ((0 : Int) + (x : Nat)) = (x : Nat) from Int.zero_add _]
        walk_at "zz"
        refine ⟨by walk_at "small", fun l6 n6 => ?_⟩
        have hbA := s3 _ _ hbB
        have hrl := hrowL j hj
        refine r_cat (xs := vN (L.getD j [])) (ys := [.int x]) (upd_at (ne_of_none hbA n6) hbA) upd_same (by rw [vN_len, List.length_singleton]; omega) fun l7 n7 => ?_
        have n7' := (upd_none n7).2
        rw [vN_snoc]
        have s7 : Same A2 (upd (upd A2 l6 (.lst [.int x])) l7 (.lst (vN (L.getD j [] ++ [x])))) := Same.new (Same.new (Same.refl _) n6) n7'
        have w7 : Wl (upd (upd A2 l6 (.lst [.int x])) l7 (.lst (vN (L.getD j [] ++ [x])))) := Wl.put (Wl.put w3 (NoOwn.none n6) trivial) (NoOwn.none n7) trivial
        exact ⟨_, Same.refl _, w7, Prs.same s7, q l7 _ n7' s7 w7 upd_same⟩
      · obtain ⟨dv, hD, hrD⟩ := hL
        have hdl := hrD.len
        rw [List.length_map, List.length_range] at hdl
        have hlm2 := s3 _ _ hlm
        have hrm2 := hrm.mono s3
        walk_at "zz"
        refine ⟨lm, D, mv, dv, rfl, rfl, hlm2, hD, Nat.le_trans (show mv.length + dv.length ≤ 100000 by omega) (by decide), ?_⟩
        have wE : Wl (upd A2 lm (.lst (mv ++ dv))) := Wl.put w3 (NoOwn.flat hlm2 trivial) trivial
        refine ⟨_, Same.refl _, wE, Prs.trans (Prs.same s3) (Prs.mut hlm2 (fun z => z)), _, _, rfl, Same.new (fun a o e => s3 _ _ (sAB _ _ e)) nlm, wE, upd_same, ?_⟩
        refine Rows.app (Rows.put hrm2 hlm2) (Rows.keepR hlm2 hrm2 (fun xs m => ?_) hrD)
        obtain ⟨x, _, e⟩ := List.mem_map.mp m
        rw [← e]
        simp
    · rintro _ B ⟨mv, y5, rfl, sAB, wlB, hlm, hrm⟩
      walk_at "zz"
      exact ⟨B, Same.refl _, wlB, Prs.same sAB, lm, mv, _, _, _, rfl, fun a o e => sAB _ _ (se _ _ e), wlB, hlm, hrm⟩
  · rintro _ A ⟨l, vs, y3, y4, y5, rfl, se, wlA, hl, hr2⟩
    have hlen := allTo_len F m
    have hsz : F.q ^ m ≤ 1024 := by
      have : m = 0 ∨ m = 1 ∨ m = 2 := by omega
      rcases this with h | h | h
      · rw [h, Nat.pow_zero]; omega
      · rw [h, Nat.pow_one]; omega
      · rw [h]
        exact Nat.le_trans (Nat.pow_le_pow_left (show F.q ≤ 32 by omega) 2) (by decide)
    walk_at "zz"
    refine e_list (SqL.of hl) ?_
    refine lcl_rowsN (jw_list (n := (allTo F m).length) hr2.len) (fun i => trim ((allTo F m).getD i [])) (by omega) wlA (fun A2 s3 _ => SqL.of (s3 _ _ hl)) (fun _ _ => rfl) (fun A2 i hi s3 w3 R q => ?_) (fun D A2 nD s3 w3 hL => ?_)
    · obtain ⟨b, eb, hb⟩ := hr2.atD hi
      rw [eb]
      walk_at "ds"
      walk_at "zz"
      refine ⟨b, _, rfl, w3, s3 _ _ hb, fun p np => ?_⟩
      have w4 : Wl (upd A2 p (.lst (vN (trim ((allTo F m).getD i []))))) := Wl.put w3 (NoOwn.none np) trivial
      exact ⟨_, Same.refl _, w4, Prs.same (Same.new (Same.refl _) np), q p _ np (Same.new (Same.refl _) np) w4 upd_same⟩
    · rw [map_range_getD [] trim] at hL
      have sH : Same H A2 := fun a o e => s3 _ _ (se _ _ e)
      exact ⟨_, Same.refl _, w3, Prs.same sH, k D A2 sH w3 (hL.mono (nw_mono (Same.refl _) se))⟩
end
end TP
/-! part TPn -/
/-! what the law asks of one word -/
namespace TP
open PySem PySem.Spec PyProof.Rows L2
def offF (F : Fd) (ps word t : List Nat) : Nat := lrk F (difF F word (wordF F t ps))
def nearF (F : Fd) (ps : List Nat) (m : Nat) (word : List Nat) : List (List Nat) := (allF F m).filter fun t => decide (offF F ps word t ≤ rch ps m)
structure WordOk (F : Fd) (ps : List Nat) (m : Nat) (word : List Nat) : Prop where
  one : (nearF F ps m word).length ≤ 1
  mend : mendF F ps m word = some (nearF F ps m word).head?
  wi : ∀ t ∈ allF F m, within F ps m word t = decide (offF F ps word t ≤ rch ps m)
theorem endOf_hi (xs : List Nat) : ∀ m, m ≤ xs.length → endOf xs m = 0 ∨ xs.getD (endOf xs m - 1) 0 ≠ 0
  | 0, _ => .inl rfl
  | m + 1, h => by
    have e : endOf xs (m + 1) = if xs.getD m 0 = 0 then endOf xs m else m + 1 := rfl
    rw [e]
    by_cases hx : xs.getD m 0 = 0
    · rw [if_pos hx]
      exact endOf_hi xs m (by omega)
    · rw [if_neg hx]
      exact .inr hx
/-- no 0 at the end -/
theorem trim_end (xs : List Nat) : (trim xs) = [] ∨ (trim xs).getD ((trim xs).length - 1) 0 ≠ 0 := by
  rcases endOf_hi xs xs.length (Nat.le_refl _) with h | h
  · left
    unfold trim
    rw [h, List.take_zero]
  · by_cases h0 : endOf xs xs.length = 0
    · left
      unfold trim
      rw [h0, List.take_zero]
    · right
      rw [trim_len]
      unfold trim
      rw [List.getD_eq_getElem?_getD, List.getElem?_take_of_lt (by omega), ← List.getD_eq_getElem?_getD]
      exact h
theorem trim_id {xs : List Nat} (h : xs = [] ∨ xs.getD (xs.length - 1) 0 ≠ 0) : trim xs = xs := by
  rcases h with h | h
  · rw [h]; rfl
  · have hl : 0 < xs.length := by
      cases xs with
      | nil => exact absurd rfl h
      | cons x xs => exact Nat.succ_pos _
    have e : endOf xs xs.length = xs.length := by
      obtain ⟨j, hj⟩ : ∃ j, xs.length = j + 1 := ⟨xs.length - 1, by omega⟩
      rw [hj] at h ⊢
      exact if_neg h
    unfold trim
    rw [e, List.take_length]
theorem trim_trim (xs : List Nat) : trim (trim xs) = trim xs := trim_id (trim_end xs)
theorem allF_mem {F : Fd} {m : Nat} {t : List Nat} (h : t ∈ allF F m) : trim t = t ∧ t.length ≤ m ∧ El F t := by
  obtain ⟨r, hr, e⟩ := List.mem_map.mp h
  obtain ⟨h1, h2⟩ := allTo_row F m r hr
  rw [← e]
  exact ⟨trim_trim r, by have := trim_le r; omega, h2.trim⟩
theorem hu65 {k : Nat} {A : Around} (r : Room k A) : A.units + 65 < cLine := by
  have := r.un
  omega
theorem r_neS {x y : Str} {H : Hp} {Q : VK} (q : Q (.bl (!decide (x = y))) H) : rNe (.str x) (.str y) H Q := ⟨rfl, by
  have e : decide (V.str x = V.str y) = decide (x = y) := by simp
  rw [e]
  exact q⟩
theorem any_eqv (ns : List Nat) : ∀ xss : List (List Nat), ((xss.map dN).any fun z => PyData.eqv z (dN ns)) = decide (ns ∈ xss)
  | [] => rfl
  | xs :: xss => by
    rw [List.map_cons, List.any_cons, any_eqv ns xss, eqv_dN, ← Bool.decide_or]
    refine decide_eq_decide.mpr ?_
    rw [List.mem_cons]
    constructor
    · rintro (h | h)
      · exact .inl h.symm
      · exact .inr h
    · rintro (h | h)
      · exact .inl h.symm
      · exact .inr h
theorem r_inR {K : PySem.W.Frag} {H : Hp} {Q : VK} {a b : Addr} {ns : List Nat} {vs : List V} {xss : List (List Nat)} (h1 : SqL K H a (vN ns)) (h2 : SqL K H b vs) (hr : Rows H vs xss) (q : Q (.bl (decide (ns ∈ xss))) H) : rInD K (.ref a) (.ref b) H Q :=
  ⟨dN ns, xss.map dN, dp_vN h1, .lst h2 (dpAll_rows hr), sh_dN ns, sh_dNN xss, by rw [any_eqv]; exact q⟩
end TP
/-! part L9 -/
set_option maxHeartbeats 1000000
namespace TP
open PySem PySem.Spec PyProof.Rows L2
set_option hygiene false in
local macro_rules | `(tactic| walk_at "ne") => `(tactic| first | assumption | exact Ne.symm (by assumption) | exact ne_of_none (H := H) (by assumption) (by assumption) | exact (ne_of_none (H := H) (by assumption) (by assumption)).symm | exact ne_of_none (H := A) (by assumption) (by assumption) | exact (ne_of_none (H := A) (by assumption) (by assumption)).symm)
local macro_rules | `(tactic| walk_at "get") => `(tactic| first | assumption | exact upd_same | (refine upd_at ?_ ?_; (focus walk_at "ne"); (walk_at "get")))
local macro_rules | `(tactic| walk_at "nn") => `(tactic| first | assumption | (refine none_upd ?_ ?_; (focus walk_at "ne"); (walk_at "nn")))
local macro_rules | `(tactic| walk_at "same") => `(tactic| first | exact Same.refl _ | assumption | (refine Same.both ?_; walk_at "same") | (refine TP.Same.new ?_ ?_; (focus walk_at "same"); (walk_at "nn")) | (refine Same.put ?_ ?_; (focus walk_at "same"); (walk_at "get")))
local macro_rules | `(tactic| walk_at "noown") => `(tactic| first | exact NoOwn.none (by assumption) | (refine NoOwn.upd ?_ True.intro; walk_at "noown"))
local macro_rules | `(tactic| walk_at "wl") => `(tactic| first | assumption | (refine Wl.put ?_ ?_ True.intro; (focus walk_at "wl"); (walk_at "noown")))
local macro_rules | `(tactic| walk_at "sq") => `(tactic| first | assumption | exact SqL.of (by walk_at "get"))
set_option hygiene false in
local macro_rules | `(tactic| walk_at "f1") => `(tactic| obtain ⟨_, hp⟩ := upd_none hp)
set_option hygiene false in
local macro_rules | `(tactic| walk_at "f2") => `(tactic| (obtain ⟨_, hp⟩ := upd_none hp; obtain ⟨_, hp⟩ := upd_none hp))
set_option hygiene false in
local macro_rules | `(tactic| walk_at "f3") => `(tactic| (obtain ⟨_, hp⟩ := upd_none hp; obtain ⟨_, hp⟩ := upd_none hp; obtain ⟨_, hp⟩ := upd_none hp))
set_option hygiene false in
local macro_rules | `(tactic| walk_at "f4") => `(tactic| (obtain ⟨_, hp⟩ := upd_none hp; obtain ⟨_, hp⟩ := upd_none hp; obtain ⟨_, hp⟩ := upd_none hp; obtain ⟨_, hp⟩ := upd_none hp))
set_option hygiene false in
local macro_rules | `(tactic| walk_at "fa") => `(tactic| first
  | ((with_reducible refine' z_own_prime T ?hv ?hh ?_); (case hv => exact rfl); (case hh => walk_at "get"))
  | ((with_reducible refine' z_own_turns T ?hv ?hh ?_); (case hv => exact rfl); (case hh => walk_at "get"))
  | ((with_reducible refine' z_own_size T ?hv ?hh ?_); (case hv => exact rfl); (case hh => walk_at "get"))
  | ((with_reducible refine' z_own_powers T ?hv ?hh ?_); (case hv => exact rfl); (case hh => walk_at "get"))
  | ((with_reducible refine' z_own_logs T ?hv ?hh ?_); (case hv => exact rfl); (case hh => walk_at "get"))
  | ((with_reducible refine' z_own_field T ?hv ?hh ?_); (case hv => exact rfl); (case hh => walk_at "get"))
  | ((with_reducible refine' z_own_points T ?hv ?hh ?_); (case hv => exact rfl); (case hh => walk_at "get"))
  | ((with_reducible refine' z_own_many T ?hv ?hh ?_); (case hv => exact rfl); (case hh => walk_at "get")))
local macro_rules | `(tactic| walk_at "z") => `(tactic| first
  | with_reducible refine z_seq ?_
  | with_reducible refine z_asg ?_
  | with_reducible refine z_name ?_
  | ((with_reducible refine' z_var ?hv ?_); (case hv => exact rfl))
  | with_reducible refine z_c ?_
  | with_reducible refine z_op ?_
  | with_reducible refine r_I0 ?_
  | ((with_reducible refine r_I ?hc ?_); (case hc => walk_at "ar"))
  | ((with_reducible refine' r_app ?ha ?hz ?_); (case ha => walk_at "get"); (case hz => walk_at "sz"))
  | ((with_reducible refine' z_tyl ?ha ?_); (case ha => walk_at "get"))
  | with_reducible refine z_cons ?_
  | ((with_reducible refine' r_len ?ha ?_); (case ha => walk_at "sq"))
  | with_reducible refine z_nil ?_
  | walk_at "fa"
  | walk_at "fd"
  | with_reducible refine z_test ?_
  | with_reducible refine z_bl ?_
  | with_reducible refine z_tB ?_
  | with_reducible refine r_eq ?_
  | with_reducible refine r_ne ?_
  | with_reducible refine z_ifS ?_
  | with_reducible refine z_ret ?_
  | with_reducible refine z_drop ?_
  | with_reducible refine z_cb ?_
  | with_reducible refine z_call ?_
  | with_reducible refine z_bm ?_
  | with_reducible refine z_bm0 ?_
  | with_reducible refine z_lst ?_
  | with_reducible refine z_tup ?_
  | with_reducible refine z_un ?_
  | with_reducible refine r_U ?_
  | with_reducible refine z_par ?_
  | with_reducible refine z_par3 ?_
  | with_reducible refine z_two ?_
  | with_reducible refine z_three ?_
  | with_reducible refine z_sub ?_
  | with_reducible refine z_for ?_
  | with_reducible refine z_lc ?_
  | with_reducible refine z_ifE ?_
  | with_reducible refine z_and ?_
  | with_reducible refine z_or ?_
  | with_reducible refine z_not ?_
  | with_reducible refine z_yes ?_
  | with_reducible refine z_andV ?_
  | with_reducible refine z_orV ?_
  | with_reducible refine z_notV ?_
  | with_reducible refine z_sl ?_
  | with_reducible refine z_noP ?_
  | with_reducible refine z_part ?_
  | with_reducible refine z_int ?_
  | with_reducible refine z_revL ?_
  | with_reducible refine z_next ?_
  | with_reducible refine z_sf ?_
  | with_reducible refine z_f ?_
  | with_reducible refine z_tf ?_
  | with_reducible refine z_disp ?_
  | with_reducible refine z_pc ?_
  | with_reducible refine z_pn ?_
  | with_reducible refine z_i1 ?_
  | with_reducible refine i_rng3 ?_
  | with_reducible refine z_chain ?_
  | with_reducible refine z_nT ?_
  | with_reducible refine z_nF ?_
  | with_reducible refine z_sfld ?_
  | with_reducible refine i_rng1 ?_
  | with_reducible refine i_rng2 ?_
  | with_reducible refine i_list ?_
  | with_reducible refine i_zip ?_
  | with_reducible refine i_enum ?_
  | with_reducible refine z_tt ?_
  | with_reducible refine z_ff ?_)
local macro_rules | `(tactic| walk_at "zz") => `(tactic| repeat walk_at "z")
set_option hygiene false in
local macro_rules | `(tactic| walk_at "len") => `(tactic| first | (obtain ⟨rfl, _⟩ := h; rfl) | (obtain ⟨_, rfl, _⟩ := h; rfl) | (obtain ⟨_, _, rfl, _⟩ := h; rfl) | (obtain ⟨_, _, _, rfl, _⟩ := h; rfl) | (obtain ⟨_, _, _, _, rfl, _⟩ := h; rfl) | (obtain ⟨_, _, _, _, _, rfl, _⟩ := h; rfl) | (obtain ⟨_, _, _, _, _, _, rfl, _⟩ := h; rfl) | (obtain ⟨_, _, _, _, _, _, _, rfl, _⟩ := h; rfl) | (obtain ⟨_, _, _, _, _, _, _, _, rfl, _⟩ := h; rfl) | (obtain ⟨_, _, _, _, _, _, _, _, _, rfl, _⟩ := h; rfl) | (obtain ⟨_, _, _, _, _, _, _, _, _, _, rfl, _⟩ := h; rfl) | (obtain ⟨_, _, _, _, _, _, _, _, _, _, _, rfl, _⟩ := h; rfl) | (obtain ⟨_, _, _, _, _, _, _, _, _, _, _, _, rfl, _⟩ := h; rfl) | (obtain ⟨_, _, _, _, _, _, _, _, _, _, _, _, _, rfl, _⟩ := h; rfl) | (obtain ⟨_, _, _, _, _, _, _, _, _, _, _, _, _, _, rfl, _⟩ := h; rfl) | (obtain ⟨_, _, _, _, _, _, _, _, _, _, _, _, _, _, _, rfl, _⟩ := h; rfl) | (obtain ⟨_, _, _, _, _, _, _, _, _, _, _, _, _, _, _, _, rfl, _⟩ := h; rfl))
local macro_rules | `(tactic| walk_at "small") => `(tactic| first | exact Nat.zero_le _ | exact (by decide : 1 ≤ sizeLine) | exact (by decide : 2 ≤ sizeLine) | exact (by decide : 3 ≤ sizeLine) | exact (by decide : 4 ≤ sizeLine) | exact (by decide : 5 ≤ sizeLine) | exact (by decide : 6 ≤ sizeLine))
local macro_rules | `(tactic| walk_at "dn") => `(tactic| dsimp only [cxOf, L2.start, List.map, List.length, List.replicate, List.cons_append, List.nil_append, Nat.reduceAdd, Nat.reduceSub, Nat.zero_add])
local macro_rules | `(tactic| walk_at "ar") => `(tactic| first | assumption | (show _ < _; omega) | (show _ < _ ∧ _ < _; omega) | (left; show _ < _ ∧ _ < _; constructor <;> omega) | (right; show _ < _ ∧ _ < _; constructor <;> omega))
local macro_rules | `(tactic| walk_at "sz") => `(tactic| first | omega | (simp only [vN_len, List.length_append, List.length_cons, List.length_nil, List.length_map, List.length_range, List.length_replicate, List.length_set, List.length_take, List.length_drop, List.length_reverse]; omega))
local macro_rules | `(tactic| walk_at "ds") => `(tactic| try dsimp only [List.set])
set_option hygiene false in
local macro_rules | `(tactic| walk_at "endL") => `(tactic| (refine' ⟨_, ?e1, ?e2, ?e3, k p hp⟩; (case e1 => walk_at "same"); (case e2 => walk_at "wl"); (case e3 => exact Prs.same (by walk_at "same"))))
set_option hygiene false in
local macro_rules | `(tactic| walk_at "endS") => `(tactic| exact ⟨H, by walk_at "same", wl, Prs.refl _, k⟩)
set_option hygiene false in
local macro_rules | `(tactic| walk_at "endQ") => `(tactic| (refine' ⟨_, ?e1, ?e2, ?e3, k q hp⟩; (case e1 => walk_at "same"); (case e2 => walk_at "wl"); (case e3 => exact Prs.same (by walk_at "same"))))
local macro_rules | `(tactic| walk_at "f5") => `(tactic| (walk_at "f1"; walk_at "f4"))
local macro_rules | `(tactic| walk_at "f6") => `(tactic| (walk_at "f2"; walk_at "f4"))
local macro_rules | `(tactic| walk_at "f7") => `(tactic| (walk_at "f3"; walk_at "f4"))
set_option hygiene false in
local macro_rules | `(tactic| walk_at "fd") => `(tactic| first
  | ((with_reducible refine' z_w_prime ?hv ?hh ?_); (case hv => exact rfl); (case hh => assumption))
  | ((with_reducible refine' z_w_turns ?hv ?hh ?_); (case hv => exact rfl); (case hh => assumption))
  | ((with_reducible refine' z_w_size ?hv ?hh ?_); (case hv => exact rfl); (case hh => assumption))
  | ((with_reducible refine' z_w_powers ?hv ?hh ?_); (case hv => exact rfl); (case hh => assumption))
  | ((with_reducible refine' z_w_places ?hv ?hh ?_); (case hv => exact rfl); (case hh => assumption))
  | ((with_reducible refine' z_t_prime ?hv ?hh ?_); (case hv => exact rfl); (case hh => assumption))
  | ((with_reducible refine' z_t_modulus ?hv ?hh ?_); (case hv => exact rfl); (case hh => assumption))
  | ((with_reducible refine' z_t_world ?hv ?hh ?_); (case hv => exact rfl); (case hh => assumption))
  | ((with_reducible refine' z_t_points ?hv ?hh ?_); (case hv => exact rfl); (case hh => assumption))
  | ((with_reducible refine' z_t_many ?hv ?hh ?_); (case hv => exact rfl); (case hh => assumption))
  | ((with_reducible refine' z_t_reach ?hv ?hh ?_); (case hv => exact rfl); (case hh => assumption)))
section
variable {P : Program} {w : World} {K : PySem.W.Frag} {mg : Str → Option Value} {base : Heap}
theorem sc__law_word_right : FnScope ["_law_pot_here", "_law_told", "_law_book_here", "_law_word_here", "_law_some_here", "_law_near", "_law_turner"] ["_law_pot_here", "_law_told", "_law_book_here", "_law_word_here", "_law_some_here"] (defScope s__law_word_right) := ⟨rfl, rfl, rfl, by decide +kernel, rfl, by decide +kernel, by decide +kernel⟩
def sp__law_word_right (K : PySem.W.Frag) : Sp := fun vs H Q _ => ∃ (a t b wd sm : Addr) (F : Fd) (ps : List Nat) (m : Nat) (word : List Nat) (G0 : Hp), vs = [.ref a, .ref t, .ref b, .ref wd, .ref sm] ∧ Fz G0 a H ∧ ToldAt G0 t F ps m (rch ps m) ∧ BookAt K G0 b F ps m ∧ Bk F ps m ∧ G0 wd = some (.lst (vN word)) ∧ LL G0 sm (allF F m) ∧ word.length = ps.length ∧ El F word ∧ ps.length ≤ 4 ∧ m ≤ 2 ∧ (allF F m).length < 1000 ∧ WordOk F ps m word ∧ ∀ H', Rz G0 a H H' → Q (.bl true) H'
theorem getD_memL {xs : List (List Nat)} {i : Nat} (h : i < xs.length) : xs.getD i [] ∈ xs := by
  rw [List.getD_eq_getElem?_getD, List.getElem?_eq_getElem h]
  exact List.getElem_mem h
theorem optN {H : Hp} {Q : VK} (q : Q .non H) : OptAt H (([] : List (List Nat)).head?) Q := q
theorem optS {H : Hp} {Q : VK} {t : List Nat} {r : List (List Nat)} (q : ∀ p H', Same H H' → Wl H' → H' p = some (.lst (vN t)) → Q (.ref p) H') : OptAt H ((t :: r).head?) Q := q
theorem allF_pos (F : Fd) (m : Nat) (h : FOK F) : 0 < (allF F m).length := by
  have := h.q
  unfold allF
  rw [List.length_map, allTo_len]
  exact Nat.pow_pos (by omega)
theorem ok__law_word_right (T : Txt K mg) : FnAt P w K mg base 9 "_law_word_right" ["_law_pot_here", "_law_told", "_law_book_here", "_law_word_here", "_law_some_here"] (sp__law_word_right K) := by
  refine FnAt.of T 91 89 (d := d__law_word_right) (k := 8) rfl rfl rfl rfl rfl sc__law_word_right (fun _ _ _ _ _ _ us hl => match us, hl with | [_, _, _, _, _], _ => rfl) (fun vs H Q E h => by walk_at "len") (fun f_ cdv A outer s H vs Q E hr h => ?_)
  obtain ⟨a, t, b, wd, sm, F, ps, m, word, G0, rfl, f, hT, hB, bk, hw, ⟨sv, hsm, hsr⟩, hwl, hwe, hpl, hm2, hal, wok, k⟩ := h
  have hTt := hT
  obtain ⟨md, wo, pl, hT1, hT2, hT3, hT4⟩ := hT.ex
  have hsl := hsr.len
  refine ⟨_, (pss_cons (ps_setLc (i := 5) (own := [("_law_turner", 6)]) rfl sc__law_word_right.nd rfl rfl (sw_true rfl rfl rfl (by decide +kernel)) (pi_list (pv 4)) (blkOk_by (N := ["_law_pot_here", "_law_told", "_law_book_here", "_law_word_here", "_law_some_here", "_law_near", "_law_turner"]) (sc := (defScope s__law_word_right)) (own := [("_law_turner", 6)]) (by decide +kernel)) (fun _ _ _ _ _ => (pg_name (i := 6) sc__law_word_right.nd rfl (Or.inl rfl))) (fun _ _ _ _ _ => (pts_one (pt_cmpR op_le (pe_callF (ok__law_rank_off T) (by decide) hr (by rfl) (pa_cons (pv 1) (pa_cons (pv 3) (pa_cons (pv 6) pa_nil)))) (pe_dget (hu_of hr) (pv 1) pe_str (fun _ _ => rfl)) (nomark _)))) (fun _ _ _ _ _ => (pv 6)))
    (pss_cons (ps_if (PW.pt (pw_or (pt_cmpR op_gt (pe_callB (call_lenK (K := K) rfl) (by rfl) T.n_len (by decide +kernel) (pa_cons (pv 5) pa_nil)) pe_int (nomark _)) (pw_or1 (pt_cmpR (op_neDK (K := K) rfl hr.units) (pe_callF (ok_mended T) (by decide) hr (by rfl) (pa_cons (pv 2) (pa_cons (pv 3) pa_nil))) (pe_ifExp (pt_cmpR (op_neDK (K := K) rfl hr.units) (pv 5) (pe_lst pa_nil) (nomark _)) (pe_ix (ix_listK (K := K) rfl) (pv 5) pe_int (fun _ _ => rfl)) pe_non) (nomark _))))) (pss_one (ps_ret pe_bl)) pss_nil)
    (pss_cons (ps_for PassesOwn.never rfl (pi_list (pe_op op_cat (pv 5) (pe_lst (pa_cons (pe_callF (ok__law_pick T) (by decide) hr (by rfl) (pa_cons (pv 0) (pa_cons (pv 4) pa_nil))) pa_nil)))) (pg_name (i := 6) sc__law_word_right.nd rfl (Or.inl rfl))
      (pss_one (ps_if (pt_cmpR op_ne (pe_callB call_reprB (by rfl) T.n_repr (by decide +kernel) (pa_cons (pe_callF (ok_is_near T) (by decide) hr (by rfl) (pa_cons (pv 2) (pa_cons (pv 3) (pa_cons (pv 6) pa_nil)))) pa_nil)) (pe_callB call_reprB (by rfl) T.n_repr (by decide +kernel) (pa_cons (pe_cmpR (op_inDK (K := K) rfl (hu65 hr)) (pv 6) (pv 5) (by rfl)) pa_nil)) (nomark _)) (pss_one (ps_ret pe_bl)) pss_nil)))
    (pss_one (ps_ret pe_bl))))), ?_⟩
  walk_at "dn"
  walk_at "zz"
  have hsmH := f.s _ _ hsm
  refine e_list (SqL.of hsmH) ?_
  refine lcl_val (jw_list (n := (allF F m).length) hsl) (fun i => decide (offF F ps word ((allF F m).getD i []) ≤ rch ps m)) (fun i => sv.getD i .non) (by omega) (fun D acc nD => SqL.of (upd_at (ne_of_none hsmH nD) hsmH)) (fun _ _ => rfl) (fun D acc i nD hi R q => ?_) (fun D acc i nD hi hx R q => ?_) (fun D nD => ?_)
  · obtain ⟨ta, eb, hb⟩ := hsr.atD hi
    rw [eb]
    have sD : Same G0 (upd H D (.lst acc)) := Same.new f.s (f.s.free nD)
    have hTD := sD _ _ hT1
    have hmem : (allF F m).getD i [] ∈ allF F m := by
      rw [List.getD_eq_getElem?_getD, List.getElem?_eq_getElem hi]
      exact List.getElem_mem hi
    walk_at "ds"
    walk_at "zz"
    refine ⟨t, wd, ta, F, ps, m, rch ps m, word, _, rfl, Wl.put f.w (NoOwn.none nD) trivial, hTt.mono sD, bk.ok, sD _ _ hw, sD _ _ hb, hwe, (allF_mem hmem).2.2, bk.el, hpl, hwl, ?_⟩
    walk_at "zz"
    rw [ge_len]
    exact q
  · walk_at "zz"
    exact q
  · have hnr : Rows G0 (upto (allF F m).length (fun i => decide (offF F ps word ((allF F m).getD i []) ≤ rch ps m)) (fun i => sv.getD i .non)) (nearF F ps m word) := hsr.pick fun t => decide (offF F ps word t ≤ rch ps m)
    have fN := f.new (o := .lst (upto (allF F m).length (fun i => decide (offF F ps word ((allF F m).getD i []) ≤ rch ps m)) (fun i => sv.getD i .non))) nD trivial
    have sN : Same G0 (upd G0 D (.lst (upto (allF F m).length (fun i => decide (offF F ps word ((allF F m).getD i []) ≤ rch ps m)) (fun i => sv.getD i .non)))) := Same.new (Same.refl _) (f.s.free nD)
    have hDN : (upd G0 D (.lst (upto (allF F m).length (fun i => decide (offF F ps word ((allF F m).getD i []) ≤ rch ps m)) (fun i => sv.getD i .non)))) D = some (.lst (upto (allF F m).length (fun i => decide (offF F ps word ((allF F m).getD i []) ≤ rch ps m)) (fun i => sv.getD i .non))) := upd_same
    have pN : Same H (upd H D (.lst (upto (allF F m).length (fun i => decide (offF F ps word ((allF F m).getD i []) ≤ rch ps m)) (fun i => sv.getD i .non)))) := Same.new (Same.refl _) nD
    generalize upto (allF F m).length (fun i => decide (offF F ps word ((allF F m).getD i []) ≤ rch ps m)) (fun i => sv.getD i .non) = nv at hnr fN sN hDN pN ⊢
    generalize upd G0 D (.lst nv) = G1 at fN sN hDN
    generalize upd H D (.lst nv) = A at fN pN ⊢
    have hnl := hnr.len
    have h1 := wok.one
    have hDA := fN.s _ _ hDN
    have sGA : Same G0 A := fun x o e => fN.s _ _ (sN _ _ e)
    have hnrA : Rows A nv (nearF F ps m word) := hnr.mono sGA
    have tst : ∀ R : Bool → Hp → Prop, (∀ B, Same A B → Wl B → R false B) → tTest (tOp (rNeD K) (tC0 (sp_mended K) (tCons (tVar 2) (tCons (tVar 3) tNil))) (tIf (tTest (tOp (rNeD K) (tVar 5) (tLst tNil))) (tOp (rIxL K) (tVar 5) (tC (V.int 0))) (tC V.non)))
        [some (V.ref a), some (V.ref t), some (V.ref b), some (V.ref wd), some (V.ref sm), some (V.ref D), none] A R := fun R hR => by
      walk_at "zz"
      refine ⟨b, wd, F, ps, m, word, _, rfl, fN.w, hB.mono sGA, bk, sGA _ _ hw, hwl, hwe, wok.mend, ?_⟩
      cases hn : nearF F ps m word with
      | nil =>
        refine optN ?_
        walk_at "zz"
        refine ⟨by walk_at "small", fun l6 n6 => ?_⟩
        have s6 : Same A (upd A l6 (.lst [])) := Same.new (Same.refl _) n6
        refine r_neR (SqL.of (s6 _ _ hDA)) (hnrA.mono s6) (SqL.of upd_same) ?_
        rw [hn, decide_eq_true rfl]
        walk_at "zz"
        refine r_neNN ?_
        exact ⟨_, rfl, hR _ s6 (Wl.put fN.w (NoOwn.none n6) trivial)⟩
      | cons t0 rest =>
        refine optS fun p A' s1 w1 hp => ?_
        walk_at "zz"
        refine ⟨by walk_at "small", fun l6 n6 => ?_⟩
        have s6 : Same A' (upd A' l6 (.lst [])) := Same.new (Same.refl _) n6
        have sA6 : Same A (upd A' l6 (.lst [])) := fun x o e => s6 _ _ (s1 _ _ e)
        refine r_neR (SqL.of (sA6 _ _ hDA)) (hnrA.mono sA6) (SqL.of upd_same) ?_
        rw [hn, decide_eq_false (by simp)]
        walk_at "zz"
        rw [hn] at hnrA
        obtain ⟨c0, ec0, hc0⟩ := (hnrA.mono sA6).at 0 (by simp)
        refine r_ixL (SqL.of (sA6 _ _ hDA)) (k := ((0 : Nat) : Int)) (atI_nat ec0) ?_
        refine r_neL (ns := t0) (ms := t0) (SqL.of (s6 _ _ hp)) (SqL.of hc0) ?_
        rw [decide_eq_true rfl]
        exact ⟨_, rfl, hR _ sA6 (Wl.put w1 (NoOwn.none n6) trivial)⟩
    walk_at "zz"
    rw [decide_eq_false (by omega)]
    refine z_ff ?_
    walk_at "ds"
    refine tst _ fun B sAB wB => ?_
    have fB : Fz G1 a B := fN.same sAB wB
    walk_at "zz"
    refine ⟨a, sm, sv, G1, rfl, fB, sN _ _ hsm, by rw [hsl]; exact allF_pos F m bk.ok, by omega, fun j A2 hj r => ?_⟩
    obtain ⟨ta, eta, hta⟩ := hsr.atD (show j < (allF F m).length by omega)
    have hmt : (allF F m).getD j [] ∈ allF F m := by
      rw [List.getD_eq_getElem?_getD, List.getElem?_eq_getElem (by omega)]
      exact List.getElem_mem _
    rw [eta]
    have sG2 : Same G0 A2 := fun x o e => r.f.s _ _ (sN _ _ e)
    have hD2 := r.f.s _ _ hDN
    walk_at "zz"
    refine ⟨by walk_at "small", fun l7 n7 => ?_⟩
    refine r_cat (xs := nv) (ys := [.ref ta]) (upd_at (ne_of_none hD2 n7) hD2) upd_same (by rw [hnl, List.length_singleton]; omega) fun l8 n8 => ?_
    have n8' := (upd_none n8).2
    have s8 : Same A2 (upd (upd A2 l7 (.lst [.ref ta])) l8 (.lst (nv ++ [.ref ta]))) := Same.new (Same.new (Same.refl _) n7) n8'
    have w8 : Wl (upd (upd A2 l7 (.lst [.ref ta])) l8 (.lst (nv ++ [.ref ta]))) := Wl.put (Wl.put r.f.w (NoOwn.none n7) trivial) (NoOwn.none n8) trivial
    have h8 : (upd (upd A2 l7 (.lst [.ref ta])) l8 (.lst (nv ++ [.ref ta]))) l8 = some (.lst (nv ++ [.ref ta])) := upd_same
    generalize upd (upd A2 l7 (.lst [.ref ta])) l8 (.lst (nv ++ [.ref ta])) = C at s8 w8 h8 ⊢
    have sGC : Same G0 C := fun x o e => s8 _ _ (sG2 _ _ e)
    have hrC : Rows C (nv ++ [.ref ta]) (nearF F ps m word ++ [(allF F m).getD j []]) := Rows.snoc (sGC _ _ hta) (hnr.mono sGC)
    have hDC := s8 _ _ hD2
    have fC : Fz G1 a C := r.f.same s8 w8
    have pC : Prs H C := Prs.trans (Prs.same (fun x o e => sAB _ _ (pN _ _ e))) (Prs.trans r.k (Prs.same s8))
    have hall : ∀ u ∈ nearF F ps m word ++ [(allF F m).getD j []], u ∈ allF F m := fun u hu => by
      rcases List.mem_append.mp hu with h | h
      · exact (List.mem_filter.mp h).1
      · rw [List.mem_singleton.mp h]
        exact hmt
    refine e_list (SqL.of h8) ?_
    refine lp_of (jw_list (xs := nv ++ [.ref ta]) rfl) (fun i st A3 => ∃ y6, st = [some (V.ref a), some (V.ref t), some (V.ref b), some (V.ref wd), some (V.ref sm), some (V.ref D), y6] ∧ C = A3) ⟨_, rfl, rfl⟩ (fun i st A3 _ h => ?_) ?_ ?_
    · obtain ⟨_, _, rfl⟩ := h
      exact SqL.of h8
    · rintro i _ _ hi ⟨y6, rfl, rfl⟩
      have hil : i < (nearF F ps m word ++ [(allF F m).getD j []]).length := by rw [← hrC.len]; exact hi
      obtain ⟨ua, eu, hu⟩ := hrC.atD hil
      have hum : (nearF F ps m word ++ [(allF F m).getD j []]).getD i [] ∈ allF F m := hall _ (getD_memL hil)
      rw [eu]
      generalize (nearF F ps m word ++ [(allF F m).getD j []]).getD i [] = u at hu hum
      obtain ⟨ht1, ht2, ht3⟩ := allF_mem hum
      walk_at "ds"
      walk_at "zz"
      refine ⟨b, wd, ua, F, ps, m, word, u, rfl, w8, hB.mono sGC, bk, sGC _ _ hw, hu, hwl, hwe, ht3, by omega, by rw [ht1]; exact ht2, ?_⟩
      rw [ht1, wok.wi u hum]
      walk_at "zz"
      refine ⟨_, rfl, ?_⟩
      walk_at "zz"
      refine r_inR (SqL.of hu) (SqL.of hDC) (hnr.mono sGC) ?_
      walk_at "zz"
      refine ⟨_, rfl, ?_⟩
      have e : decide (u ∈ nearF F ps m word) = decide (offF F ps word u ≤ rch ps m) := decide_eq_decide.mpr ⟨fun h => of_decide_eq_true (List.mem_filter.mp h).2, fun h => List.mem_filter.mpr ⟨hum, decide_eq_true h⟩⟩
      rw [e]
      refine r_neS ?_
      rw [decide_eq_true rfl]
      walk_at "zz"
      exact ⟨_, rfl, rfl⟩
    · rintro _ _ ⟨y6, rfl, rfl⟩
      walk_at "zz"
      have fC0 : Fz G0 a C := fC.less sN f.n
      exact ⟨C, Same.refl _, w8, pC, k C ⟨fC0, pC⟩⟩
end
end TP
/-! part L10 -/
set_option maxHeartbeats 1000000
namespace TP
open PySem PySem.Spec PyProof.Rows L2
set_option hygiene false in
local macro_rules | `(tactic| walk_at "ne") => `(tactic| first | assumption | exact Ne.symm (by assumption) | exact ne_of_none (H := H) (by assumption) (by assumption) | exact (ne_of_none (H := H) (by assumption) (by assumption)).symm | exact ne_of_none (H := A) (by assumption) (by assumption) | exact (ne_of_none (H := A) (by assumption) (by assumption)).symm)
local macro_rules | `(tactic| walk_at "get") => `(tactic| first | assumption | exact upd_same | (refine upd_at ?_ ?_; (focus walk_at "ne"); (walk_at "get")))
local macro_rules | `(tactic| walk_at "nn") => `(tactic| first | assumption | (refine none_upd ?_ ?_; (focus walk_at "ne"); (walk_at "nn")))
local macro_rules | `(tactic| walk_at "same") => `(tactic| first | exact Same.refl _ | assumption | (refine Same.both ?_; walk_at "same") | (refine TP.Same.new ?_ ?_; (focus walk_at "same"); (walk_at "nn")) | (refine Same.put ?_ ?_; (focus walk_at "same"); (walk_at "get")))
local macro_rules | `(tactic| walk_at "noown") => `(tactic| first | exact NoOwn.none (by assumption) | (refine NoOwn.upd ?_ True.intro; walk_at "noown"))
local macro_rules | `(tactic| walk_at "wl") => `(tactic| first | assumption | (refine Wl.put ?_ ?_ True.intro; (focus walk_at "wl"); (walk_at "noown")))
local macro_rules | `(tactic| walk_at "sq") => `(tactic| first | assumption | exact SqL.of (by walk_at "get"))
set_option hygiene false in
local macro_rules | `(tactic| walk_at "f1") => `(tactic| obtain ⟨_, hp⟩ := upd_none hp)
set_option hygiene false in
local macro_rules | `(tactic| walk_at "f2") => `(tactic| (obtain ⟨_, hp⟩ := upd_none hp; obtain ⟨_, hp⟩ := upd_none hp))
set_option hygiene false in
local macro_rules | `(tactic| walk_at "f3") => `(tactic| (obtain ⟨_, hp⟩ := upd_none hp; obtain ⟨_, hp⟩ := upd_none hp; obtain ⟨_, hp⟩ := upd_none hp))
set_option hygiene false in
local macro_rules | `(tactic| walk_at "f4") => `(tactic| (obtain ⟨_, hp⟩ := upd_none hp; obtain ⟨_, hp⟩ := upd_none hp; obtain ⟨_, hp⟩ := upd_none hp; obtain ⟨_, hp⟩ := upd_none hp))
set_option hygiene false in
local macro_rules | `(tactic| walk_at "fa") => `(tactic| first
  | ((with_reducible refine' z_own_prime T ?hv ?hh ?_); (case hv => exact rfl); (case hh => walk_at "get"))
  | ((with_reducible refine' z_own_turns T ?hv ?hh ?_); (case hv => exact rfl); (case hh => walk_at "get"))
  | ((with_reducible refine' z_own_size T ?hv ?hh ?_); (case hv => exact rfl); (case hh => walk_at "get"))
  | ((with_reducible refine' z_own_powers T ?hv ?hh ?_); (case hv => exact rfl); (case hh => walk_at "get"))
  | ((with_reducible refine' z_own_logs T ?hv ?hh ?_); (case hv => exact rfl); (case hh => walk_at "get"))
  | ((with_reducible refine' z_own_field T ?hv ?hh ?_); (case hv => exact rfl); (case hh => walk_at "get"))
  | ((with_reducible refine' z_own_points T ?hv ?hh ?_); (case hv => exact rfl); (case hh => walk_at "get"))
  | ((with_reducible refine' z_own_many T ?hv ?hh ?_); (case hv => exact rfl); (case hh => walk_at "get")))
local macro_rules | `(tactic| walk_at "z") => `(tactic| first
  | with_reducible refine z_seq ?_
  | with_reducible refine z_asg ?_
  | with_reducible refine z_name ?_
  | ((with_reducible refine' z_var ?hv ?_); (case hv => exact rfl))
  | with_reducible refine z_c ?_
  | with_reducible refine z_op ?_
  | with_reducible refine r_I0 ?_
  | ((with_reducible refine r_I ?hc ?_); (case hc => walk_at "ar"))
  | ((with_reducible refine' r_app ?ha ?hz ?_); (case ha => walk_at "get"); (case hz => walk_at "sz"))
  | ((with_reducible refine' z_tyl ?ha ?_); (case ha => walk_at "get"))
  | with_reducible refine z_cons ?_
  | ((with_reducible refine' r_len ?ha ?_); (case ha => walk_at "sq"))
  | with_reducible refine z_nil ?_
  | walk_at "fa"
  | walk_at "fd"
  | with_reducible refine z_test ?_
  | with_reducible refine z_bl ?_
  | with_reducible refine z_tB ?_
  | with_reducible refine r_eq ?_
  | with_reducible refine r_ne ?_
  | with_reducible refine z_ifS ?_
  | with_reducible refine z_ret ?_
  | with_reducible refine z_drop ?_
  | with_reducible refine z_cb ?_
  | with_reducible refine z_call ?_
  | with_reducible refine z_bm ?_
  | with_reducible refine z_bm0 ?_
  | with_reducible refine z_lst ?_
  | with_reducible refine z_tup ?_
  | with_reducible refine z_un ?_
  | with_reducible refine r_U ?_
  | with_reducible refine z_par ?_
  | with_reducible refine z_par3 ?_
  | with_reducible refine z_two ?_
  | with_reducible refine z_three ?_
  | with_reducible refine z_sub ?_
  | with_reducible refine z_for ?_
  | with_reducible refine z_lc ?_
  | with_reducible refine z_ifE ?_
  | with_reducible refine z_and ?_
  | with_reducible refine z_or ?_
  | with_reducible refine z_not ?_
  | with_reducible refine z_yes ?_
  | with_reducible refine z_andV ?_
  | with_reducible refine z_orV ?_
  | with_reducible refine z_notV ?_
  | with_reducible refine z_sl ?_
  | with_reducible refine z_noP ?_
  | with_reducible refine z_part ?_
  | with_reducible refine z_int ?_
  | with_reducible refine z_revL ?_
  | with_reducible refine z_next ?_
  | with_reducible refine z_sf ?_
  | with_reducible refine z_f ?_
  | with_reducible refine z_tf ?_
  | with_reducible refine z_disp ?_
  | with_reducible refine z_pc ?_
  | with_reducible refine z_pn ?_
  | with_reducible refine z_i1 ?_
  | with_reducible refine i_rng3 ?_
  | with_reducible refine z_chain ?_
  | with_reducible refine z_nT ?_
  | with_reducible refine z_nF ?_
  | with_reducible refine z_sfld ?_
  | with_reducible refine i_rng1 ?_
  | with_reducible refine i_rng2 ?_
  | with_reducible refine i_list ?_
  | with_reducible refine i_zip ?_
  | with_reducible refine i_enum ?_
  | with_reducible refine z_tt ?_
  | with_reducible refine z_ff ?_)
local macro_rules | `(tactic| walk_at "zz") => `(tactic| repeat walk_at "z")
set_option hygiene false in
local macro_rules | `(tactic| walk_at "len") => `(tactic| first | (obtain ⟨rfl, _⟩ := h; rfl) | (obtain ⟨_, rfl, _⟩ := h; rfl) | (obtain ⟨_, _, rfl, _⟩ := h; rfl) | (obtain ⟨_, _, _, rfl, _⟩ := h; rfl) | (obtain ⟨_, _, _, _, rfl, _⟩ := h; rfl) | (obtain ⟨_, _, _, _, _, rfl, _⟩ := h; rfl) | (obtain ⟨_, _, _, _, _, _, rfl, _⟩ := h; rfl) | (obtain ⟨_, _, _, _, _, _, _, rfl, _⟩ := h; rfl) | (obtain ⟨_, _, _, _, _, _, _, _, rfl, _⟩ := h; rfl) | (obtain ⟨_, _, _, _, _, _, _, _, _, rfl, _⟩ := h; rfl) | (obtain ⟨_, _, _, _, _, _, _, _, _, _, rfl, _⟩ := h; rfl) | (obtain ⟨_, _, _, _, _, _, _, _, _, _, _, rfl, _⟩ := h; rfl) | (obtain ⟨_, _, _, _, _, _, _, _, _, _, _, _, rfl, _⟩ := h; rfl) | (obtain ⟨_, _, _, _, _, _, _, _, _, _, _, _, _, rfl, _⟩ := h; rfl) | (obtain ⟨_, _, _, _, _, _, _, _, _, _, _, _, _, _, rfl, _⟩ := h; rfl) | (obtain ⟨_, _, _, _, _, _, _, _, _, _, _, _, _, _, _, rfl, _⟩ := h; rfl) | (obtain ⟨_, _, _, _, _, _, _, _, _, _, _, _, _, _, _, _, rfl, _⟩ := h; rfl))
local macro_rules | `(tactic| walk_at "small") => `(tactic| first | exact Nat.zero_le _ | exact (by decide : 1 ≤ sizeLine) | exact (by decide : 2 ≤ sizeLine) | exact (by decide : 3 ≤ sizeLine) | exact (by decide : 4 ≤ sizeLine) | exact (by decide : 5 ≤ sizeLine) | exact (by decide : 6 ≤ sizeLine))
local macro_rules | `(tactic| walk_at "dn") => `(tactic| dsimp only [cxOf, L2.start, List.map, List.length, List.replicate, List.cons_append, List.nil_append, Nat.reduceAdd, Nat.reduceSub, Nat.zero_add])
local macro_rules | `(tactic| walk_at "ar") => `(tactic| first | assumption | (show _ < _; omega) | (show _ < _ ∧ _ < _; omega) | (left; show _ < _ ∧ _ < _; constructor <;> omega) | (right; show _ < _ ∧ _ < _; constructor <;> omega))
local macro_rules | `(tactic| walk_at "sz") => `(tactic| first | omega | (simp only [vN_len, List.length_append, List.length_cons, List.length_nil, List.length_map, List.length_range, List.length_replicate, List.length_set, List.length_take, List.length_drop, List.length_reverse]; omega))
local macro_rules | `(tactic| walk_at "ds") => `(tactic| try dsimp only [List.set])
set_option hygiene false in
local macro_rules | `(tactic| walk_at "endL") => `(tactic| (refine' ⟨_, ?e1, ?e2, ?e3, k p hp⟩; (case e1 => walk_at "same"); (case e2 => walk_at "wl"); (case e3 => exact Prs.same (by walk_at "same"))))
set_option hygiene false in
local macro_rules | `(tactic| walk_at "endS") => `(tactic| exact ⟨H, by walk_at "same", wl, Prs.refl _, k⟩)
set_option hygiene false in
local macro_rules | `(tactic| walk_at "endQ") => `(tactic| (refine' ⟨_, ?e1, ?e2, ?e3, k q hp⟩; (case e1 => walk_at "same"); (case e2 => walk_at "wl"); (case e3 => exact Prs.same (by walk_at "same"))))
local macro_rules | `(tactic| walk_at "f5") => `(tactic| (walk_at "f1"; walk_at "f4"))
local macro_rules | `(tactic| walk_at "f6") => `(tactic| (walk_at "f2"; walk_at "f4"))
local macro_rules | `(tactic| walk_at "f7") => `(tactic| (walk_at "f3"; walk_at "f4"))
set_option hygiene false in
local macro_rules | `(tactic| walk_at "fd") => `(tactic| first
  | ((with_reducible refine' z_w_prime ?hv ?hh ?_); (case hv => exact rfl); (case hh => assumption))
  | ((with_reducible refine' z_w_turns ?hv ?hh ?_); (case hv => exact rfl); (case hh => assumption))
  | ((with_reducible refine' z_w_size ?hv ?hh ?_); (case hv => exact rfl); (case hh => assumption))
  | ((with_reducible refine' z_w_powers ?hv ?hh ?_); (case hv => exact rfl); (case hh => assumption))
  | ((with_reducible refine' z_w_places ?hv ?hh ?_); (case hv => exact rfl); (case hh => assumption))
  | ((with_reducible refine' z_t_prime ?hv ?hh ?_); (case hv => exact rfl); (case hh => assumption))
  | ((with_reducible refine' z_t_modulus ?hv ?hh ?_); (case hv => exact rfl); (case hh => assumption))
  | ((with_reducible refine' z_t_world ?hv ?hh ?_); (case hv => exact rfl); (case hh => assumption))
  | ((with_reducible refine' z_t_points ?hv ?hh ?_); (case hv => exact rfl); (case hh => assumption))
  | ((with_reducible refine' z_t_many ?hv ?hh ?_); (case hv => exact rfl); (case hh => assumption))
  | ((with_reducible refine' z_t_reach ?hv ?hh ?_); (case hv => exact rfl); (case hh => assumption)))
theorem z_dd {st : L2.St} {H : Hp} {Q : VK} {i : Nat} {d d2 : Addr} {kvs kvs2 : List (Key × V)} {k k2 : Str} {v : V} (hv : st[i]? = some (some (.ref d))) (h : H d = some (.dK kvs)) (l : valV kvs (.inr k) = some (.ref d2)) (h2 : H d2 = some (.dK kvs2)) (l2 : valV kvs2 (.inr k2) = some v) (q : Q v H) : tDGet (tDGet (tVar i) (tC (.str k))) (tC (.str k2)) st H Q :=
  z_dg hv h l ⟨d2, v, rfl, by rw [← l2]; exact DGet.k (k := .inr k2) h2, q⟩
/-- the mathematics -/
structure Maths : Prop where
  word : ∀ F ps m word, Bk F ps m → FreeL F ps → 3 ≤ ps.length → ps.length ≤ 4 → m ≤ 2 → (F.q = 8 ∨ m = 1) → El F word → word.length = ps.length → WordOk F ps m word
  free : ∀ F ps, FOK F → El F ps → FreeL F ps → ps.length ≤ F.n → ps.length ≤ rkF F ps
theorem allF_len {F : Fd} (ok : FOK F) {m : Nat} (h1 : 1 ≤ m) (h2 : m ≤ 2) (h8 : F.q = 8 ∨ m = 1) : 8 ≤ (allF F m).length ∧ (allF F m).length ≤ 64 := by
  have hq := ok.q
  have e : (allF F m).length = F.q ^ m := by
    unfold allF
    rw [List.length_map, allTo_len]
  rw [e]
  have : m = 1 ∨ m = 2 := by omega
  rcases this with h | h
  · rw [h, Nat.pow_one]
    omega
  · rcases h8 with h8 | h8
    · rw [h, h8]
      decide
    · omega
theorem Fz.neI {H0 B : Hp} {a l C dx : Addr} {fs : List (Str × V)} (f : Fz H0 a B) (h : B l = some (.ins C dx fs)) : l ≠ a := fun e => by
  obtain ⟨x, y, hp, _⟩ := f.p
  rw [e, hp] at h
  cases h
theorem BookAt.frz {K : PySem.W.Frag} {H0 B : Hp} {a b : Addr} {F : Fd} {ps : List Nat} {m : Nat} (f : Fz H0 a B) (ok : FOK F) (hl : 3 ≤ ps.length) (h : BookAt K B b F ps m) : BookAt K (frz B a) b F ps m := by
  obtain ⟨dx, fl, l, h1, h2, h3⟩ := h.ex
  obtain ⟨dx2, m2, a2, b2, g1, g2, g3, g4⟩ := h2.ex
  have hq := ok.q
  have hn := ok.n
  have hp := ok.pwl
  have hml := ok.mdl
  have hll := ok.lgl
  exact ⟨dx, fl, l, frz_at (f.neI h1) h1, ⟨dx2, m2, a2, b2, frz_at (f.neI g1) g1, frz_at (f.neL g2 (by rw [vN_len]; omega)) g2, frz_at (f.neL g3 (by rw [vN_len]; omega)) g3, frz_at (f.neL g4 (by unfold vL; rw [List.length_cons, vN_len, List.length_tail]; omega)) g4⟩, frz_at (f.neL h3 (by rw [vN_len]; omega)) h3⟩
section
variable {P : Program} {w : World} {K : PySem.W.Frag} {mg : Str → Option Value} {base : Heap}
theorem sc__law_right : FnScope ["_law_pot_here", "_law_told", "_law_world_here", "_law_book_here", "_law_some_here", "_law_length", "_law_own", "_law_many", "_law_errors"] ["_law_pot_here"] (defScope s__law_right) := ⟨rfl, rfl, rfl, by decide +kernel, rfl, by decide +kernel, by decide +kernel⟩
def sp__law_right (K : PySem.W.Frag) : Sp := fun vs H Q _ => ∃ (a : Addr) (H0 : Hp), vs = [.ref a] ∧ Fz H0 a H ∧ Maths ∧ ∀ H', Wl H' → Prs H H' → Q (.bl true) H'
theorem ok__law_right (T : Txt K mg) : FnAt P w K mg base 10 "_law_right" ["_law_pot_here"] (sp__law_right K) := by
  refine FnAt.of T 92 90 (d := d__law_right) (k := 9) rfl rfl rfl rfl rfl sc__law_right (fun _ _ _ _ _ _ us hl => match us, hl with | [_], _ => rfl) (fun vs H Q E h => by walk_at "len") (fun f_ cdv A outer s H vs Q E hr h => ?_)
  obtain ⟨a, H0, rfl, f, M, k⟩ := h
  refine ⟨_, (pss_cons (ps_set (i := 1) sc__law_right.nd rfl (Or.inl rfl) (pe_callF (ok__law_book T) (by decide) hr (by rfl) (pa_cons (pv 0) (pa_cons pe_int (pa_cons pe_int pa_nil)))))
    (pss_cons (ps_if (pt_cmpR op_gt (pe_dget (hu_of hr) (pe_dget (hu_of hr) (pv 1) pe_str (fun _ _ => rfl)) pe_str (fun _ _ => rfl)) pe_int (nomark _)) (pss_one (ps_f (ps_asg (pe_tup (pa_cons pe_int (pa_cons (pe_op op_fdiv (pe_op op_sub (pe_callB (call_lenK (K := K) rfl) (by rfl) T.n_len (by decide +kernel) (pa_cons (pe_dget (hu_of hr) (pv 1) pe_str (fun _ _ => rfl)) pa_nil)) pe_int) pe_int) pa_nil))) (pg_tup (n := 2) rfl (pgs_cons (pg_sub (pv 1) pe_str (set_dict (hu_of hr))) (pgs_cons (pg_sub (pv 1) pe_str (set_dict (hu_of hr))) pgs_nil)))))) pss_nil)
    (pss_cons (ps_par (i := 2) (j := 3) rfl sc__law_right.nd rfl rfl (by decide) rfl rfl (pa_cons (pe_dget (hu_of hr) (pv 1) pe_str (fun _ _ => rfl)) (pa_cons (pe_callF (ok__law_made T) (by decide) hr (by rfl) (pa_cons (pv 1) pa_nil)) pa_nil)) (by rfl))
    (pss_cons (ps_par (i := 4) (j := 5) rfl sc__law_right.nd rfl rfl (by decide) rfl rfl (pa_cons (pe_callF (ok__law_all T) (by decide) hr (by rfl) (pa_cons (pv 2) (pa_cons (pe_dget (hu_of hr) (pv 1) pe_str (fun _ _ => rfl)) pa_nil))) (pa_cons (pe_callB (call_lenK (K := K) rfl) (by rfl) T.n_len (by decide +kernel) (pa_cons (pe_dget (hu_of hr) (pv 1) pe_str (fun _ _ => rfl)) pa_nil)) pa_nil)) (by rfl))
    (pss_cons (ps_set (i := 6) sc__law_right.nd rfl (Or.inl rfl) (pe_callF (ok__law_word T) (by decide) hr (by rfl) (pa_cons (pv 2) (pa_cons (pe_callF (ok__law_pick T) (by decide) hr (by rfl) (pa_cons (pv 0) (pa_cons (pv 4) pa_nil))) (pa_cons (pe_dget (hu_of hr) (pv 1) pe_str (fun _ _ => rfl)) pa_nil)))))
    (pss_cons (ps_set (i := 7) sc__law_right.nd rfl (Or.inl rfl) (pe_op op_add (pe_dget (hu_of hr) (pv 1) pe_str (fun _ _ => rfl)) (pe_callF (ok__law_draw T) (by decide) hr (by rfl) (pa_cons (pv 0) (pa_cons pe_int pa_nil)))))
    (pss_cons (ps_set (i := 8) sc__law_right.nd rfl (Or.inl rfl) (pe_callF (ok__law_within T) (by decide) hr (by rfl) (pa_cons (pv 0) (pa_cons (pv 2) (pa_cons (pe_callF (ok__law_free T) (by decide) hr (by rfl) (pa_cons (pv 0) (pa_cons (pv 2) (pa_cons (pv 7) pa_nil)))) (pa_cons (pv 5) pa_nil))))))
    (pss_cons (ps_if (pt_not (pt_val (pe_callF (ok__law_word_right T) (by decide) hr (by rfl) (pa_cons (pv 0) (pa_cons (pv 1) (pa_cons (pv 3) (pa_cons (pe_callF (ok__law_spoilt T) (by decide) hr (by rfl) (pa_cons (pv 2) (pa_cons (pv 6) (pa_cons (pv 8) pa_nil)))) (pa_cons (pv 4) pa_nil)))))))) (pss_one (ps_ret pe_bl)) pss_nil)
    (pss_one (ps_ret (pe_callF (ok__law_word_right T) (by decide) hr (by rfl) (pa_cons (pv 0) (pa_cons (pv 1) (pa_cons (pv 3) (pa_cons (pe_callF (ok__law_some T) (by decide) hr (by rfl) (pa_cons (pv 0) (pa_cons (pv 2) (pa_cons (pv 5) pa_nil)))) (pa_cons (pv 4) pa_nil)))))))))))))))), ?_⟩
  walk_at "dn"
  walk_at "zz"
  refine ⟨a, H0, rfl, f, fun t F ps m G0 A s0 r hT ok hl3 hl4 hln hel hfr hm1 hm2 => ?_⟩
  have hq := ok.q
  obtain ⟨md, wo, pl, hT1, hT2, hT3, hT4⟩ := hT.ex
  obtain ⟨a0, b0, hW1, hW2, hW3⟩ := hT3.ex
  have gT := r.f.s _ _ hT1
  have gW := r.f.s _ _ hW1
  have gP := r.f.s _ _ hT4
  walk_at "zz"
  refine z_dd rfl gT t_world gW w_size ?_
  have tail : ∀ (mm : Nat) (G B : Hp), Fz G a B → ToldAt G t F ps mm (rch ps mm) → Prs H B → (F.q = 8 ∨ mm = 1) → 1 ≤ mm → mm ≤ 2 → tSeq
          (tPar 2 3
            (tCons (tDGet (tVar 1) (tC (V.str (Str.ofString "world"))))
              (tCons (tC0 (sp__law_made K) (tCons (tVar 1) tNil)) tNil)))
          (tSeq
            (tPar 4 5
              (tCons
                (tC0 (sp__law_all K) (tCons (tVar 2) (tCons (tDGet (tVar 1) (tC (V.str (Str.ofString "many")))) tNil)))
                (tCons (tCB (rLenK K) (tCons (tDGet (tVar 1) (tC (V.str (Str.ofString "points")))) tNil)) tNil)))
            (tSeq
              (tAsg
                (tC0 (sp__law_word K)
                  (tCons (tVar 2)
                    (tCons (tC0 (sp__law_pick K) (tCons (tVar 0) (tCons (tVar 4) tNil)))
                      (tCons (tDGet (tVar 1) (tC (V.str (Str.ofString "points")))) tNil))))
                (gName 6))
              (tSeq
                (tAsg
                  (tOp (rI0 fun i j => V.int (i + j)) (tDGet (tVar 1) (tC (V.str (Str.ofString "reach"))))
                    (tC0 (sp__law_draw K) (tCons (tVar 0) (tCons (tC (V.int 2)) tNil))))
                  (gName 7))
                (tSeq
                  (tAsg
                    (tC0 (sp__law_within K)
                      (tCons (tVar 0)
                        (tCons (tVar 2)
                          (tCons (tC0 (sp__law_free K) (tCons (tVar 0) (tCons (tVar 2) (tCons (tVar 7) tNil))))
                            (tCons (tVar 5) tNil)))))
                    (gName 8))
                  (tSeq
                    (tIfS
                      (tNot
                        (tB
                          (tC0 (sp__law_word_right K)
                            (tCons (tVar 0)
                              (tCons (tVar 1)
                                (tCons (tVar 3)
                                  (tCons
                                    (tC0 (sp__law_spoilt K) (tCons (tVar 2) (tCons (tVar 6) (tCons (tVar 8) tNil))))
                                    (tCons (tVar 4) tNil))))))))
                      (tRet (tC (V.bl false))) tNext)
                    (tRet
                      (tC0 (sp__law_word_right K)
                        (tCons (tVar 0)
                          (tCons (tVar 1)
                            (tCons (tVar 3)
                              (tCons (tC0 (sp__law_some K) (tCons (tVar 0) (tCons (tVar 2) (tCons (tVar 5) tNil))))
                                (tCons (tVar 4) tNil))))))))))))
          { nx := fun st' H' => Fg H H' fun H' => Q V.non H', rt := fun v H' => Fg H H' (Q v),
            bk := fun st' H' => Fg H H' fun x => False, ct := fun st' H' => Fg H H' fun x => False }
          [some (V.ref a), some (V.ref t), none, none, none, none, none, none, none] B := by
    clear hT1 hT2 hT3 hT4 hW1 hW2 hW3 gT gW gP
    clear md wo pl a0 b0
    intro mm G B fB tell pB h8 hm1 hmm
    have bk : Bk F ps mm := ⟨ok, hel, by omega, by omega, hln⟩
    obtain ⟨md, wo, pl, hT1, hT2, hT3, hT4⟩ := tell.ex
    obtain ⟨a0, b0, hW1, hW2, hW3⟩ := hT3.ex
    have hta : t ≠ a := fB.ne hT1
    have hpla : pl ≠ a := fB.ne hT4
    have gT := fB.s _ _ hT1
    have gW := fB.s _ _ hW1
    have gP := fB.s _ _ hT4
    walk_at "zz"
    refine ⟨t, F, ps, mm, _, rfl, fB.w, tell.mono fB.s, ok, by omega, hln, hel, M.free F ps ok hel hfr hln, by omega, by omega, fun bo B2 s2 w2 hBo => ?_⟩
    have f2 : Fz _ a B2 := fB.same s2 w2
    have gT2 := s2 _ _ gT
    have gP2 := s2 _ _ gP
    walk_at "zz"
    walk_at "ds"
    refine ⟨wo, F, mm, rfl, w2, hT3.mono f2.s, ok, by omega, fun sm B3 s3 w3 hLL => ?_⟩
    have f3 : Fz _ a B3 := f2.same s3 w3
    have gP3 := s3 _ _ gP2
    have gT3 := s3 _ _ gT2
    walk_at "zz"
    walk_at "ds"
    rw [vN_len]
    have nea : ∀ l o, nw B3 B2 l = some o → l ≠ a := fun l o h => f2.nea (nw_none h)
    have sNW : Same (nw B3 B2) (frz B3 a) := fun l o h => frz_at (nea l o h) (nw_le _ _ h)
    have fz3 : Fz (frz B3 a) a B3 := f3.frz
    have bo3 : BookAt K (frz B3 a) bo F ps mm := BookAt.frz f3 ok hl3 (hBo.mono s3)
    have ll3 : LL (frz B3 a) sm (allF F mm) := hLL.mono sNW
    have tl3 : ToldAt (frz B3 a) t F ps mm (rch ps mm) := tell.mono f3.le
    have wd3 : WorldAt (frz B3 a) wo F := hT3.mono f3.le
    have gt3 : frz B3 a t = some (.dK (tKV F md wo pl mm (rch ps mm))) := frz_at hta gT3
    have gp3 : frz B3 a pl = some (.lst (vN ps)) := frz_at hpla gP3
    have p3 : Prs H B3 := Prs.trans pB (Prs.same (fun x o e => s3 _ _ (s2 _ _ e)))
    obtain ⟨sv, hsm, hsr⟩ := ll3
    have hsl := hsr.len
    have hal : 8 ≤ (allF F mm).length ∧ (allF F mm).length ≤ 64 := allF_len ok (by omega) hmm h8
    generalize frz B3 a = G3 at fz3 bo3 tl3 wd3 gt3 gp3 hsm hsr
    refine ⟨a, sm, sv, G3, rfl, fz3, hsm, by omega, by omega, fun j A4 hj r4 => ?_⟩
    obtain ⟨ta, eta, hta4⟩ := hsr.atD (show j < (allF F mm).length by omega)
    have hmt : (allF F mm).getD j [] ∈ allF F mm := getD_memL (by omega)
    rw [eta]
    have gT4 := r4.f.s _ _ gt3
    walk_at "zz"
    refine ⟨wo, ta, pl, F, _, ps, rfl, r4.f.w, wd3.mono r4.f.s, ok, r4.f.s _ _ hta4, r4.f.s _ _ gp3, (allF_mem hmt).2.2, hel, by omega, fun ow now => ?_⟩
    have f5 := r4.f.new (o := .lst (vN (wordF F ((allF F mm).getD j []) ps))) now trivial
    have s35 : Same G3 (upd G3 ow (.lst (vN (wordF F ((allF F mm).getD j []) ps)))) := Same.new (Same.refl _) (r4.f.s.free now)
    have how : (upd G3 ow (.lst (vN (wordF F ((allF F mm).getD j []) ps)))) ow = some (.lst (vN (wordF F ((allF F mm).getD j []) ps))) := upd_same
    have p5 : Prs H (upd A4 ow (.lst (vN (wordF F ((allF F mm).getD j []) ps)))) := Prs.trans p3 (Prs.trans r4.k (Prs.same (Same.new (Same.refl _) now)))
    have wl5 : (wordF F ((allF F mm).getD j []) ps).length = ps.length := by unfold wordF; rw [List.length_map]
    generalize wordF F ((allF F mm).getD j []) ps = own at f5 s35 how p5 wl5 ⊢
    generalize upd G3 ow (.lst (vN own)) = G5 at f5 s35 how
    generalize upd A4 ow (.lst (vN own)) = A5 at f5 p5 ⊢
    have gT5 := f5.s _ _ (s35 _ _ gt3)
    walk_at "zz"
    walk_at "ds"
    refine ⟨a, 2, G5, rfl, f5, by omega, by omega, fun d A6 hd r6 => ?_⟩
    walk_at "zz"
    walk_at "ds"
    have e6 : ((rch ps mm : Nat) : Int) + ((d : Nat) : Int) = ((rch ps mm + d : Nat) : Int) := rfl
    rw [e6]
    have hrn : rch ps mm + d ≤ F.n := by
      have : rch ps mm ≤ 1 := by unfold rch; omega
      have := ok.n
      omega
    have hr4 : rch ps mm + d ≤ 2 := by
      have : rch ps mm ≤ 1 := by unfold rch; omega
      omega
    refine ⟨a, wo, F, rch ps mm + d, G5, rfl, r6.f, wd3.mono s35, ok, hrn, fun g gs A7 r7 hg hga hgl hgel hgfr => ?_⟩
    walk_at "zz"
    have s57 : Same G5 (frz A7 a) := r7.f.le
    have hsp : (spanL F gs).length ≤ 9 ∧ 0 < (spanL F gs).length := by
      have hp := ok.p
      have z := spanTo_len (F := F) gs gs.length
      have z2 := rkTo_le (F := F) gs gs.length
      have z3 : F.p ^ rkTo F gs gs.length ≤ 3 ^ 2 := Nat.le_trans (Nat.pow_le_pow_left hp.2 _) (Nat.pow_le_pow_right (by omega) (by omega))
      have z4 : 0 < F.p ^ rkTo F gs gs.length := Nat.pow_pos (by omega)
      unfold spanL
      omega
    refine ⟨a, wo, g, F, gs, ps.length, frz A7 a, rfl, r7.f.frz, wd3.mono (fun x o e => s57 _ _ (s35 _ _ e)), ok, frz_at hga hg, by omega, hgel, by omega, by omega, by omega, fun er es A8 r8 her hera herl herel => ?_⟩
    have s78 : Same (frz A7 a) (frz A8 a) := r8.f.le
    have hera8 : frz A8 a er = some (.lst (vN es)) := frz_at hera her
    have p8 : Prs H A8 := Prs.trans p5 (Prs.trans r6.k (Prs.trans r7.k r8.k))
    have f8 := r8.f.frz
    have s38 : Same G3 (frz A8 a) := fun x o e => s78 _ _ (s57 _ _ (s35 _ _ e))
    have how8 : frz A8 a ow = some (.lst (vN own)) := s78 _ _ (s57 _ _ how)
    generalize frz A8 a = G8 at f8 s38 how8 hera8
    walk_at "zz"
    walk_at "ds"
    refine ⟨wo, ow, er, F, own, es, rfl, f8.w, (wd3.mono s38).mono f8.s, ok, f8.s _ _ how8, f8.s _ _ hera8, by omega, by omega, fun sp rs nsp hrl hrel => ?_⟩
    have f9 := f8.new (o := .lst (vN rs)) nsp trivial
    have s89 : Same G8 (upd G8 sp (.lst (vN rs))) := Same.new (Same.refl _) (f8.s.free nsp)
    have hsp9 : (upd G8 sp (.lst (vN rs))) sp = some (.lst (vN rs)) := upd_same
    have p9 : Prs H (upd A8 sp (.lst (vN rs))) := Prs.trans p8 (Prs.same (Same.new (Same.refl _) nsp))
    generalize upd G8 sp (.lst (vN rs)) = G9 at f9 s89 hsp9
    generalize upd A8 sp (.lst (vN rs)) = A9 at f9 p9 ⊢
    have s39 : Same G3 G9 := fun x o e => s89 _ _ (s38 _ _ e)
    walk_at "zz"
    refine ⟨a, t, bo, sp, sm, F, ps, mm, rs, G9, rfl, f9, tl3.mono s39, bo3.mono s39, bk, hsp9, ⟨sv, s39 _ _ hsm, hsr.mono s39⟩, by omega, hrel, hl4, hmm, by omega, M.word F ps mm rs bk hfr hl3 hl4 hmm h8 hrel (by omega), fun A10 r10 => ?_⟩
    walk_at "zz"
    refine ⟨a, wo, F, ps.length, G9, rfl, r10.f, wd3.mono s39, ok, by omega, fun so ss A11 r11 hso hsoa hsol hsoel => ?_⟩
    have f11 := r11.f.frz
    have s311 : Same G3 (frz A11 a) := fun x o e => r11.f.le _ _ (s39 _ _ e)
    walk_at "zz"
    refine ⟨a, t, bo, so, sm, F, ps, mm, ss, frz A11 a, rfl, f11, tl3.mono s311, bo3.mono s311, bk, frz_at hsoa hso, ⟨sv, s311 _ _ hsm, hsr.mono s311⟩, by omega, hsoel, hl4, hmm, by omega, M.word F ps mm ss bk hfr hl3 hl4 hmm h8 hsoel (by omega), fun A12 r12 => ?_⟩
    have p12 : Prs H A12 := Prs.trans p9 (Prs.trans r10.k (Prs.trans r11.k r12.k))
    exact ⟨A12, Same.refl _, r12.f.w, p12, k A12 r12.f.w p12⟩
  walk_at "zz"
  refine z_dec (fun hc => ?_) (fun hc => ?_)
  · walk_at "zz"
    have hta0 : t ≠ a := r.f.ne hT1
    refine ⟨by walk_at "small", fun tp ntp => ?_⟩
    have htp : t ≠ tp := ne_of_none gT ntp
    have gT' : (upd A tp (.tup [.int 1, .int ((((vN ps).length : Nat) - 1 : Int) / 2)])) t = some (.dK (tKV F md wo pl m ((ps.length - m) / 2))) := upd_at htp gT
    refine ⟨tp, _, rfl, SqT.of upd_same, rfl, _, _, rfl, ?_⟩
    refine z_sub ?_
    refine z_var rfl ?_
    refine z_c ?_
    refine ⟨t, _, rfl, DPut.k (k := .inr "many") gT' (by decide : 6 < sizeLine), ?_⟩
    refine ⟨_, _, rfl, ?_⟩
    refine z_sub ?_
    refine z_var rfl ?_
    refine z_c ?_
    refine ⟨t, _, rfl, DPut.k (k := .inr "reach") upd_same (by decide : 6 < sizeLine), ?_⟩
    refine ⟨rfl, ?_⟩
    have e1 : putK (putK (tKV F md wo pl m ((ps.length - m) / 2)) (.inr "many") (.int 1)) (.inr "reach") (.int ((((vN ps).length : Nat) - 1 : Int) / 2)) = tKV F md wo pl 1 (rch ps 1) := by
      have e2 : ((((vN ps).length : Nat) - 1 : Int) / 2) = ((rch ps 1 : Nat) : Int) := by
        rw [vN_len]
        unfold rch
        omega
      rw [e2]
      rfl
    rw [upd_put, e1]
    have wC : Wl (upd A t (.dK (tKV F md wo pl 1 (rch ps 1)))) := Wl.put r.f.w (NoOwn.flat gT trivial) trivial
    have pC : Prs A (upd A t (.dK (tKV F md wo pl 1 (rch ps 1)))) := Prs.mut gT (fun z => z)
    refine ⟨upd A t (.dK (tKV F md wo pl 1 (rch ps 1))), Same.both (Same.new (Same.refl _) ntp), wC, pC, ?_⟩
    have fB0 : Fz (frz (upd A t (.dK (tKV F md wo pl 1 (rch ps 1)))) a) a (upd A t (.dK (tKV F md wo pl 1 (rch ps 1)))) := by
      obtain ⟨x, y, hp, hv⟩ := r.f.p
      exact ⟨frz_none, frz_le, wC, x, y, upd_at (Ne.symm hta0) hp, hv⟩
    have hnw : wo ≠ t := fun e => by
      rw [e, hT1] at hW1
      have z := congrArg List.length (HO.dK.inj (Option.some.inj hW1))
      exact absurd z (by decide : ¬ (6 : Nat) = 5)
    have hnl : ∀ (l : Addr) (xs : List V), G0 l = some (.lst xs) → l ≠ t := fun l xs hl e => by
      rw [e, hT1] at hl
      cases hl
    have tell : ToldAt (frz (upd A t (.dK (tKV F md wo pl 1 (rch ps 1)))) a) t F ps 1 (rch ps 1) :=
      ⟨md, wo, pl, frz_at hta0 upd_same, frz_at (r.f.ne hT2) (upd_at (hnl _ _ hT2) (r.f.s _ _ hT2)), ⟨a0, b0, frz_at (r.f.ne hW1) (upd_at hnw gW), frz_at (r.f.ne hW2) (upd_at (hnl _ _ hW2) (r.f.s _ _ hW2)), frz_at (r.f.ne hW3) (upd_at (hnl _ _ hW3) (r.f.s _ _ hW3))⟩, frz_at (r.f.ne hT4) (upd_at (hnl _ _ hT4) gP)⟩
    have fB := fB0
    have pB : Prs H (upd A t (.dK (tKV F md wo pl 1 (rch ps 1)))) := Prs.trans r.k pC
    exact tail 1 _ _ fB tell pB (.inr rfl) (by omega) (by omega)
  · refine z_next ?_
    exact tail m _ _ r.f.frz (hT.mono r.f.le) r.k (.inl (by omega)) hm1 hm2
end
end TP
/-! part L11 -/
set_option maxHeartbeats 1000000
namespace TP
open PySem PySem.Spec PyProof.Rows L2
set_option hygiene false in
local macro_rules | `(tactic| walk_at "ne") => `(tactic| first | assumption | exact Ne.symm (by assumption) | exact ne_of_none (H := H) (by assumption) (by assumption) | exact (ne_of_none (H := H) (by assumption) (by assumption)).symm | exact ne_of_none (H := A) (by assumption) (by assumption) | exact (ne_of_none (H := A) (by assumption) (by assumption)).symm)
local macro_rules | `(tactic| walk_at "get") => `(tactic| first | assumption | exact upd_same | (refine upd_at ?_ ?_; (focus walk_at "ne"); (walk_at "get")))
local macro_rules | `(tactic| walk_at "nn") => `(tactic| first | assumption | (refine none_upd ?_ ?_; (focus walk_at "ne"); (walk_at "nn")))
local macro_rules | `(tactic| walk_at "same") => `(tactic| first | exact Same.refl _ | assumption | (refine Same.both ?_; walk_at "same") | (refine TP.Same.new ?_ ?_; (focus walk_at "same"); (walk_at "nn")) | (refine Same.put ?_ ?_; (focus walk_at "same"); (walk_at "get")))
local macro_rules | `(tactic| walk_at "noown") => `(tactic| first | exact NoOwn.none (by assumption) | (refine NoOwn.upd ?_ True.intro; walk_at "noown"))
local macro_rules | `(tactic| walk_at "wl") => `(tactic| first | assumption | (refine Wl.put ?_ ?_ True.intro; (focus walk_at "wl"); (walk_at "noown")))
local macro_rules | `(tactic| walk_at "sq") => `(tactic| first | assumption | exact SqL.of (by walk_at "get"))
set_option hygiene false in
local macro_rules | `(tactic| walk_at "f1") => `(tactic| obtain ⟨_, hp⟩ := upd_none hp)
set_option hygiene false in
local macro_rules | `(tactic| walk_at "f2") => `(tactic| (obtain ⟨_, hp⟩ := upd_none hp; obtain ⟨_, hp⟩ := upd_none hp))
set_option hygiene false in
local macro_rules | `(tactic| walk_at "f3") => `(tactic| (obtain ⟨_, hp⟩ := upd_none hp; obtain ⟨_, hp⟩ := upd_none hp; obtain ⟨_, hp⟩ := upd_none hp))
set_option hygiene false in
local macro_rules | `(tactic| walk_at "f4") => `(tactic| (obtain ⟨_, hp⟩ := upd_none hp; obtain ⟨_, hp⟩ := upd_none hp; obtain ⟨_, hp⟩ := upd_none hp; obtain ⟨_, hp⟩ := upd_none hp))
set_option hygiene false in
local macro_rules | `(tactic| walk_at "fa") => `(tactic| first
  | ((with_reducible refine' z_own_prime T ?hv ?hh ?_); (case hv => exact rfl); (case hh => walk_at "get"))
  | ((with_reducible refine' z_own_turns T ?hv ?hh ?_); (case hv => exact rfl); (case hh => walk_at "get"))
  | ((with_reducible refine' z_own_size T ?hv ?hh ?_); (case hv => exact rfl); (case hh => walk_at "get"))
  | ((with_reducible refine' z_own_powers T ?hv ?hh ?_); (case hv => exact rfl); (case hh => walk_at "get"))
  | ((with_reducible refine' z_own_logs T ?hv ?hh ?_); (case hv => exact rfl); (case hh => walk_at "get"))
  | ((with_reducible refine' z_own_field T ?hv ?hh ?_); (case hv => exact rfl); (case hh => walk_at "get"))
  | ((with_reducible refine' z_own_points T ?hv ?hh ?_); (case hv => exact rfl); (case hh => walk_at "get"))
  | ((with_reducible refine' z_own_many T ?hv ?hh ?_); (case hv => exact rfl); (case hh => walk_at "get")))
local macro_rules | `(tactic| walk_at "z") => `(tactic| first
  | with_reducible refine z_seq ?_
  | with_reducible refine z_asg ?_
  | with_reducible refine z_name ?_
  | ((with_reducible refine' z_var ?hv ?_); (case hv => exact rfl))
  | with_reducible refine z_c ?_
  | with_reducible refine z_op ?_
  | with_reducible refine r_I0 ?_
  | ((with_reducible refine r_I ?hc ?_); (case hc => walk_at "ar"))
  | ((with_reducible refine' r_app ?ha ?hz ?_); (case ha => walk_at "get"); (case hz => walk_at "sz"))
  | ((with_reducible refine' z_tyl ?ha ?_); (case ha => walk_at "get"))
  | with_reducible refine z_cons ?_
  | ((with_reducible refine' r_len ?ha ?_); (case ha => walk_at "sq"))
  | with_reducible refine z_nil ?_
  | walk_at "fa"
  | walk_at "fd"
  | with_reducible refine z_test ?_
  | with_reducible refine z_bl ?_
  | with_reducible refine z_tB ?_
  | with_reducible refine r_eq ?_
  | with_reducible refine r_ne ?_
  | with_reducible refine z_ifS ?_
  | with_reducible refine z_ret ?_
  | with_reducible refine z_drop ?_
  | with_reducible refine z_cb ?_
  | with_reducible refine z_call ?_
  | with_reducible refine z_bm ?_
  | with_reducible refine z_bm0 ?_
  | with_reducible refine z_lst ?_
  | with_reducible refine z_tup ?_
  | with_reducible refine z_un ?_
  | with_reducible refine r_U ?_
  | with_reducible refine z_par ?_
  | with_reducible refine z_par3 ?_
  | with_reducible refine z_two ?_
  | with_reducible refine z_three ?_
  | with_reducible refine z_sub ?_
  | with_reducible refine z_for ?_
  | with_reducible refine z_lc ?_
  | with_reducible refine z_ifE ?_
  | with_reducible refine z_and ?_
  | with_reducible refine z_or ?_
  | with_reducible refine z_not ?_
  | with_reducible refine z_yes ?_
  | with_reducible refine z_andV ?_
  | with_reducible refine z_orV ?_
  | with_reducible refine z_notV ?_
  | with_reducible refine z_sl ?_
  | with_reducible refine z_noP ?_
  | with_reducible refine z_part ?_
  | with_reducible refine z_int ?_
  | with_reducible refine z_revL ?_
  | with_reducible refine z_next ?_
  | with_reducible refine z_sf ?_
  | with_reducible refine z_f ?_
  | with_reducible refine z_tf ?_
  | with_reducible refine z_disp ?_
  | with_reducible refine z_pc ?_
  | with_reducible refine z_pn ?_
  | with_reducible refine z_i1 ?_
  | with_reducible refine i_rng3 ?_
  | with_reducible refine z_chain ?_
  | with_reducible refine z_nT ?_
  | with_reducible refine z_nF ?_
  | with_reducible refine z_sfld ?_
  | with_reducible refine i_rng1 ?_
  | with_reducible refine i_rng2 ?_
  | with_reducible refine i_list ?_
  | with_reducible refine i_zip ?_
  | with_reducible refine i_enum ?_
  | with_reducible refine z_tt ?_
  | with_reducible refine z_ff ?_)
local macro_rules | `(tactic| walk_at "zz") => `(tactic| repeat walk_at "z")
set_option hygiene false in
local macro_rules | `(tactic| walk_at "len") => `(tactic| first | (obtain ⟨rfl, _⟩ := h; rfl) | (obtain ⟨_, rfl, _⟩ := h; rfl) | (obtain ⟨_, _, rfl, _⟩ := h; rfl) | (obtain ⟨_, _, _, rfl, _⟩ := h; rfl) | (obtain ⟨_, _, _, _, rfl, _⟩ := h; rfl) | (obtain ⟨_, _, _, _, _, rfl, _⟩ := h; rfl) | (obtain ⟨_, _, _, _, _, _, rfl, _⟩ := h; rfl) | (obtain ⟨_, _, _, _, _, _, _, rfl, _⟩ := h; rfl) | (obtain ⟨_, _, _, _, _, _, _, _, rfl, _⟩ := h; rfl) | (obtain ⟨_, _, _, _, _, _, _, _, _, rfl, _⟩ := h; rfl) | (obtain ⟨_, _, _, _, _, _, _, _, _, _, rfl, _⟩ := h; rfl) | (obtain ⟨_, _, _, _, _, _, _, _, _, _, _, rfl, _⟩ := h; rfl) | (obtain ⟨_, _, _, _, _, _, _, _, _, _, _, _, rfl, _⟩ := h; rfl) | (obtain ⟨_, _, _, _, _, _, _, _, _, _, _, _, _, rfl, _⟩ := h; rfl) | (obtain ⟨_, _, _, _, _, _, _, _, _, _, _, _, _, _, rfl, _⟩ := h; rfl) | (obtain ⟨_, _, _, _, _, _, _, _, _, _, _, _, _, _, _, rfl, _⟩ := h; rfl) | (obtain ⟨_, _, _, _, _, _, _, _, _, _, _, _, _, _, _, _, rfl, _⟩ := h; rfl))
local macro_rules | `(tactic| walk_at "small") => `(tactic| first | exact Nat.zero_le _ | exact (by decide : 1 ≤ sizeLine) | exact (by decide : 2 ≤ sizeLine) | exact (by decide : 3 ≤ sizeLine) | exact (by decide : 4 ≤ sizeLine) | exact (by decide : 5 ≤ sizeLine) | exact (by decide : 6 ≤ sizeLine))
local macro_rules | `(tactic| walk_at "dn") => `(tactic| dsimp only [cxOf, L2.start, List.map, List.length, List.replicate, List.cons_append, List.nil_append, Nat.reduceAdd, Nat.reduceSub, Nat.zero_add])
local macro_rules | `(tactic| walk_at "ar") => `(tactic| first | assumption | (show _ < _; omega) | (show _ < _ ∧ _ < _; omega) | (left; show _ < _ ∧ _ < _; constructor <;> omega) | (right; show _ < _ ∧ _ < _; constructor <;> omega))
local macro_rules | `(tactic| walk_at "sz") => `(tactic| first | omega | (simp only [vN_len, List.length_append, List.length_cons, List.length_nil, List.length_map, List.length_range, List.length_replicate, List.length_set, List.length_take, List.length_drop, List.length_reverse]; omega))
local macro_rules | `(tactic| walk_at "ds") => `(tactic| try dsimp only [List.set])
set_option hygiene false in
local macro_rules | `(tactic| walk_at "endL") => `(tactic| (refine' ⟨_, ?e1, ?e2, ?e3, k p hp⟩; (case e1 => walk_at "same"); (case e2 => walk_at "wl"); (case e3 => exact Prs.same (by walk_at "same"))))
set_option hygiene false in
local macro_rules | `(tactic| walk_at "endS") => `(tactic| exact ⟨H, by walk_at "same", wl, Prs.refl _, k⟩)
set_option hygiene false in
local macro_rules | `(tactic| walk_at "endQ") => `(tactic| (refine' ⟨_, ?e1, ?e2, ?e3, k q hp⟩; (case e1 => walk_at "same"); (case e2 => walk_at "wl"); (case e3 => exact Prs.same (by walk_at "same"))))
local macro_rules | `(tactic| walk_at "f5") => `(tactic| (walk_at "f1"; walk_at "f4"))
local macro_rules | `(tactic| walk_at "f6") => `(tactic| (walk_at "f2"; walk_at "f4"))
local macro_rules | `(tactic| walk_at "f7") => `(tactic| (walk_at "f3"; walk_at "f4"))
set_option hygiene false in
local macro_rules | `(tactic| walk_at "fd") => `(tactic| first
  | ((with_reducible refine' z_w_prime ?hv ?hh ?_); (case hv => exact rfl); (case hh => assumption))
  | ((with_reducible refine' z_w_turns ?hv ?hh ?_); (case hv => exact rfl); (case hh => assumption))
  | ((with_reducible refine' z_w_size ?hv ?hh ?_); (case hv => exact rfl); (case hh => assumption))
  | ((with_reducible refine' z_w_powers ?hv ?hh ?_); (case hv => exact rfl); (case hh => assumption))
  | ((with_reducible refine' z_w_places ?hv ?hh ?_); (case hv => exact rfl); (case hh => assumption))
  | ((with_reducible refine' z_t_prime ?hv ?hh ?_); (case hv => exact rfl); (case hh => assumption))
  | ((with_reducible refine' z_t_modulus ?hv ?hh ?_); (case hv => exact rfl); (case hh => assumption))
  | ((with_reducible refine' z_t_world ?hv ?hh ?_); (case hv => exact rfl); (case hh => assumption))
  | ((with_reducible refine' z_t_points ?hv ?hh ?_); (case hv => exact rfl); (case hh => assumption))
  | ((with_reducible refine' z_t_many ?hv ?hh ?_); (case hv => exact rfl); (case hh => assumption))
  | ((with_reducible refine' z_t_reach ?hv ?hh ?_); (case hv => exact rfl); (case hh => assumption)))
section
variable {P : Program} {w : World} {K : PySem.W.Frag} {mg : Str → Option Value}
theorem sc_law : FnScope ["_law_script"] ["_law_script"] (defScope s_law) := ⟨rfl, rfl, rfl, by decide +kernel, rfl, by decide +kernel, by decide +kernel⟩
def sp_law (K : PySem.W.Frag) : Sp := fun vs H Q _ => ∃ (a : Addr) (ns : List Int), vs = [.ref a] ∧ Wl H ∧ SqL K H a (ns.map V.int) ∧ Maths ∧ ∀ H', Q (.bl true) H'
theorem ok_law (T : Txt K mg) : FnAll P w K mg 11 "law" ["_law_script"] (sp_law K) := by
  refine FnAll.of T 93 91 (d := d_law) (k := 10) rfl rfl rfl rfl rfl sc_law (fun _ _ _ _ _ _ us hl => match us, hl with | [_], _ => rfl) (fun vs H Q E h => by walk_at "len") (fun base f_ cdv A outer s H vs Q E hr h => ?_)
  obtain ⟨a, ns, rfl, wl, hS, M, k⟩ := h
  refine ⟨_, (pss_one (ps_ret (pe_callF (ok__law_right T) (by decide) hr (by rfl) (pa_cons (pe_callF (ok__law_pot T) (by decide) hr (by rfl) (pa_cons (pv 0) (pa_cons pe_int pa_nil))) pa_nil)))), ?_⟩
  walk_at "dn"
  walk_at "zz"
  refine ⟨a, ns, rfl, wl, hS, fun p x y np hv => ?_⟩
  have f : Fz H p (upd H p (.lst [.int x, .int y])) := ⟨np, Same.new (Same.refl _) np, Wl.put wl (NoOwn.none np) trivial, x, y, upd_same, hv⟩
  walk_at "zz"
  refine ⟨p, H, rfl, f, M, fun H' w2 p2 => ?_⟩
  exact ⟨H', Same.refl _, w2, Prs.trans (Prs.same f.s) p2, k H'⟩
end
end TP
/-! part M1 -/
/-! the field, as a commutative ring -/
namespace TP
theorem digs_lplus {F : Fd} (h : FOK F) (x y c : Nat) : digs F.p F.n (lplus F x y c) = List.zipWith (fun l r => (l + c * r) % F.p) (digs F.p F.n x) (digs F.p F.n y) := by
  have hp := h.p
  have hl : (List.zipWith (fun l r => (l + c * r) % F.p) (digs F.p F.n x) (digs F.p F.n y)).length = F.n := by rw [List.length_zipWith, digs_len, digs_len, Nat.min_self]
  have z := digs_num (p := F.p) (by omega) (zipW_lt (f := fun l r => (l + c * r) % F.p) (fun x y => Nat.mod_lt _ (by omega)) (digs F.p F.n x) (digs F.p F.n y))
  rw [hl] at z
  exact z
theorem digs_inj {F : Fd} (h : FOK F) {x y : Nat} (hx : x < F.q) (hy : y < F.q) (e : digs F.p F.n x = digs F.p F.n y) : x = y := by
  have hp := h.p
  rw [← num_digs (p := F.p) (by omega) F.n x (by rw [← h.qpn]; exact hx), e, num_digs (by omega) F.n y (by rw [← h.qpn]; exact hy)]
theorem zipW_assoc {f : Nat → Nat → Nat} (hf : ∀ a b c, f (f a b) c = f a (f b c)) : ∀ xs ys zs : List Nat, List.zipWith f (List.zipWith f xs ys) zs = List.zipWith f xs (List.zipWith f ys zs)
  | [], _, _ => by simp
  | _ :: _, [], _ => by simp
  | _ :: _, _ :: _, [] => by simp
  | x :: xs, y :: ys, z :: zs => by
    rw [List.zipWith_cons_cons, List.zipWith_cons_cons, List.zipWith_cons_cons, List.zipWith_cons_cons, zipW_assoc hf xs ys zs, hf]
theorem addF_assoc {F : Fd} (h : FOK F) {a b c : Nat} (ha : a < F.q) (hb : b < F.q) (hc : c < F.q) : addF F (addF F a b) c = addF F a (addF F b c) := by
  rw [← lplus_add h a ha b hb, ← lplus_add h b hb c hc, ← lplus_add h _ (lplus_lt h _ _ _) c hc, ← lplus_add h a ha _ (lplus_lt h _ _ _)]
  refine digs_inj h (lplus_lt h _ _ _) (lplus_lt h _ _ _) ?_
  rw [digs_lplus h, digs_lplus h, digs_lplus h, digs_lplus h]
  refine zipW_assoc (fun a b c => ?_) _ _ _
  simp only [Nat.one_mul, Nat.mod_add_mod, Nat.add_mod_mod, Nat.add_assoc]
theorem addF_comm {F : Fd} (h : FOK F) : ∀ a, a < F.q → ∀ b, b < F.q → addF F a b = addF F b a :=
  h.all (C := fun F => ∀ a, a < F.q → ∀ b, b < F.q → addF F a b = addF F b a) (by decide +kernel) (by decide +kernel) (by decide +kernel) (by decide +kernel)
theorem negF_add {F : Fd} (h : FOK F) : ∀ a, a < F.q → addF F (subF F 0 a) a = 0 :=
  h.all (C := fun F => ∀ a, a < F.q → addF F (subF F 0 a) a = 0) (by decide +kernel) (by decide +kernel) (by decide +kernel) (by decide +kernel)
theorem subF_neg {F : Fd} (h : FOK F) : ∀ a, a < F.q → ∀ b, b < F.q → subF F a b = addF F a (subF F 0 b) :=
  h.all (C := fun F => ∀ a, a < F.q → ∀ b, b < F.q → subF F a b = addF F a (subF F 0 b)) (by decide +kernel) (by decide +kernel) (by decide +kernel) (by decide +kernel)
theorem mulF_comm (F : Fd) (a b : Nat) : mulF F a b = mulF F b a := by
  unfold mulF
  rw [Nat.add_comm (F.L a)]
  simp only [or_comm]
theorem mulF_zero (F : Fd) (a : Nat) : mulF F a 0 = 0 := if_pos (.inr rfl)
theorem mulF_one {F : Fd} (h : FOK F) : ∀ a, a < F.q → mulF F a 1 = a :=
  h.all (C := fun F => ∀ a, a < F.q → mulF F a 1 = a) (by decide +kernel) (by decide +kernel) (by decide +kernel) (by decide +kernel)
theorem mulF_pos {F : Fd} (h : FOK F) {a b : Nat} (ha : 0 < a) (hb : 0 < b) : mulF F a b = F.P ((F.L a + F.L b) % (F.q - 1)) ∧ 0 < mulF F a b := by
  have e : mulF F a b = F.P ((F.L a + F.L b) % (F.q - 1)) := if_neg (by omega)
  have hq := h.q
  exact ⟨e, by rw [e]; exact (h.P _ (Nat.mod_lt _ (by omega))).1⟩
theorem mulF_L {F : Fd} (h : FOK F) {a b : Nat} (ha : 0 < a) (hb : 0 < b) : F.L (mulF F a b) = (F.L a + F.L b) % (F.q - 1) := by
  have hq := h.q
  rw [(mulF_pos h ha hb).1, h.LP _ (Nat.mod_lt _ (by omega))]
theorem mulF_assoc {F : Fd} (h : FOK F) (a b c : Nat) : mulF F (mulF F a b) c = mulF F a (mulF F b c) := by
  by_cases ha : a = 0
  · rw [ha, mulF_comm F 0 b, mulF_zero, mulF_comm F 0 c, mulF_zero, mulF_comm F 0, mulF_zero]
  by_cases hb : b = 0
  · rw [hb, mulF_zero, mulF_comm F 0 c, mulF_zero, mulF_zero]
  by_cases hc : c = 0
  · rw [hc, mulF_zero, mulF_zero, mulF_zero]
  rw [(mulF_pos h (mulF_pos h (a := a) (b := b) (by omega) (by omega)).2 (b := c) (by omega)).1, (mulF_pos h (a := a) (by omega) (mulF_pos h (a := b) (b := c) (by omega) (by omega)).2).1, mulF_L h (by omega) (by omega), mulF_L h (by omega) (by omega), Nat.mod_add_mod, Nat.add_mod_mod, Nat.add_assoc]
/-- by the letter first -/
theorem gdist {F : Fd} (h : FOK F) : ∀ b, b < F.q → ∀ c, c < F.q → mulF F (F.P 1) (addF F b c) = addF F (mulF F (F.P 1) b) (mulF F (F.P 1) c) :=
  h.all (C := fun F => ∀ b, b < F.q → ∀ c, c < F.q → mulF F (F.P 1) (addF F b c) = addF F (mulF F (F.P 1) b) (mulF F (F.P 1) c)) (by decide +kernel) (by decide +kernel) (by decide +kernel) (by decide +kernel)
theorem Psucc {F : Fd} (h : FOK F) : ∀ i, i < F.q - 2 → F.P (i + 1) = mulF F (F.P i) (F.P 1) :=
  h.all (C := fun F => ∀ i, i < F.q - 2 → F.P (i + 1) = mulF F (F.P i) (F.P 1)) (by decide +kernel) (by decide +kernel) (by decide +kernel) (by decide +kernel)
theorem P0eq {F : Fd} (h : FOK F) : F.P 0 = 1 := h.all (C := fun F => F.P 0 = 1) (by decide +kernel) (by decide +kernel) (by decide +kernel) (by decide +kernel)
theorem pdist {F : Fd} (h : FOK F) {b c : Nat} (hb : b < F.q) (hc : c < F.q) : ∀ i, i < F.q - 1 → mulF F (F.P i) (addF F b c) = addF F (mulF F (F.P i) b) (mulF F (F.P i) c)
  | 0, _ => by rw [P0eq h, mulF_comm, mulF_one h _ (addF_lt h hb hc), mulF_comm, mulF_one h _ hb, mulF_comm, mulF_one h _ hc]
  | i + 1, hi => by
    rw [Psucc h i (by omega), mulF_assoc h, gdist h b hb c hc, mulF_assoc h, mulF_assoc h]
    have ih : ∀ b c, b < F.q → c < F.q → mulF F (F.P i) (addF F b c) = addF F (mulF F (F.P i) b) (mulF F (F.P i) c) := fun b c hb hc => pdist h hb hc i (by omega)
    exact ih _ _ (mulF_lt h _ _) (mulF_lt h _ _)
theorem mulF_dist {F : Fd} (h : FOK F) {a b c : Nat} (ha : a < F.q) (hb : b < F.q) (hc : c < F.q) : mulF F a (addF F b c) = addF F (mulF F a b) (mulF F a c) := by
  by_cases h0 : a = 0
  · rw [h0, mulF_comm, mulF_zero, mulF_comm, mulF_zero, mulF_comm, mulF_zero]
    rfl
  · have e := h.PL a ha (by omega)
    have z := pdist h hb hc (F.L a) (h.L a ha)
    rw [e] at z
    exact z
theorem divF_mul {F : Fd} (h : FOK F) : ∀ a, a < F.q → ∀ b, b < F.q → 0 < b → mulF F (divF F a b) b = a :=
  h.all (C := fun F => ∀ a, a < F.q → ∀ b, b < F.q → 0 < b → mulF F (divF F a b) b = a) (by decide +kernel) (by decide +kernel) (by decide +kernel) (by decide +kernel)
theorem fr_add {F : Fd} (h : FOK F) : ∀ a, a < F.q → ∀ b, b < F.q → tn F 1 (addF F a b) = addF F (tn F 1 a) (tn F 1 b) :=
  h.all (C := fun F => ∀ a, a < F.q → ∀ b, b < F.q → tn F 1 (addF F a b) = addF F (tn F 1 a) (tn F 1 b)) (by decide +kernel) (by decide +kernel) (by decide +kernel) (by decide +kernel)
theorem fr_mul {F : Fd} (h : FOK F) : ∀ a, a < F.q → ∀ b, b < F.q → tn F 1 (mulF F a b) = mulF F (tn F 1 a) (tn F 1 b) :=
  h.all (C := fun F => ∀ a, a < F.q → ∀ b, b < F.q → tn F 1 (mulF F a b) = mulF F (tn F 1 a) (tn F 1 b)) (by decide +kernel) (by decide +kernel) (by decide +kernel) (by decide +kernel)
theorem fr_base {F : Fd} (h : FOK F) : ∀ c, c < F.p → tn F 1 c = c :=
  h.all (C := fun F => ∀ c, c < F.p → tn F 1 c = c) (by decide +kernel) (by decide +kernel) (by decide +kernel) (by decide +kernel)
theorem fr_zero {F : Fd} (h : FOK F) (a : Nat) : tn F 0 a = a := by
  unfold tn
  rw [Nat.zero_mod]
  rfl
/-- two free ones: the small table is not nought -/
theorem moore2 {F : Fd} (h : FOK F) : ∀ a, a < F.q → 0 < a → ∀ b, b < F.q → mulF F (tn F 1 a) b = mulF F (tn F 1 b) a → ∃ c, c < F.p ∧ b = mulF F c a :=
  h.all (C := fun F => ∀ a, a < F.q → 0 < a → ∀ b, b < F.q → mulF F (tn F 1 a) b = mulF F (tn F 1 b) a → ∃ c, c < F.p ∧ b = mulF F c a) (by decide +kernel) (by decide +kernel) (by decide +kernel) (by decide +kernel)
theorem lplus_mul {F : Fd} (h : FOK F) : ∀ c, c < F.p → ∀ x, x < F.q → ∀ y, y < F.q → lplus F x y c = addF F x (mulF F c y) :=
  h.all (C := fun F => ∀ c, c < F.p → ∀ x, x < F.q → ∀ y, y < F.q → lplus F x y c = addF F x (mulF F c y)) (by decide +kernel) (by decide +kernel) (by decide +kernel) (by decide +kernel)
theorem base_inv {F : Fd} (h : FOK F) : ∀ c, c < F.p → 0 < c → mulF F c c = 1 :=
  h.all (C := fun F => ∀ c, c < F.p → 0 < c → mulF F c c = 1) (by decide +kernel) (by decide +kernel) (by decide +kernel) (by decide +kernel)
theorem base_mul {F : Fd} (h : FOK F) : ∀ c, c < F.p → ∀ d, d < F.p → mulF F c d < F.p :=
  h.all (C := fun F => ∀ c, c < F.p → ∀ d, d < F.p → mulF F c d < F.p) (by decide +kernel) (by decide +kernel) (by decide +kernel) (by decide +kernel)
theorem base_sub {F : Fd} (h : FOK F) : ∀ c, c < F.p → ∀ d, d < F.p → subF F c d < F.p :=
  h.all (C := fun F => ∀ c, c < F.p → ∀ d, d < F.p → subF F c d < F.p) (by decide +kernel) (by decide +kernel) (by decide +kernel) (by decide +kernel)
theorem base_add {F : Fd} (h : FOK F) : ∀ c, c < F.p → ∀ d, d < F.p → addF F c d < F.p :=
  h.all (C := fun F => ∀ c, c < F.p → ∀ d, d < F.p → addF F c d < F.p) (by decide +kernel) (by decide +kernel) (by decide +kernel) (by decide +kernel)
/-! ### the ring -/
structure EF (F : Fd) (h : FOK F) where
  v : Nat
  lt : v < F.q
theorem EF.ext {F : Fd} {h : FOK F} : ∀ {a b : EF F h}, a.v = b.v → a = b
  | ⟨_, _⟩, ⟨_, _⟩, rfl => rfl
section
variable {F : Fd} {h : FOK F}
instance : Add (EF F h) := ⟨fun a b => ⟨addF F a.v b.v, addF_lt h a.lt b.lt⟩⟩
instance : Mul (EF F h) := ⟨fun a b => ⟨mulF F a.v b.v, mulF_lt h _ _⟩⟩
instance : Neg (EF F h) := ⟨fun a => ⟨subF F 0 a.v, subF_lt h (by have := h.q; omega)⟩⟩
instance : Sub (EF F h) := ⟨fun a b => ⟨subF F a.v b.v, subF_lt h a.lt⟩⟩
instance : Zero (EF F h) := ⟨⟨0, by have := h.q; omega⟩⟩
instance : One (EF F h) := ⟨⟨1, by have := h.q; omega⟩⟩
def EF.nat : Nat → EF F h
  | 0 => 0
  | n + 1 => EF.nat n + 1
def EF.pow (a : EF F h) : Nat → EF F h
  | 0 => 1
  | n + 1 => EF.pow a n * a
instance : NatCast (EF F h) := ⟨EF.nat⟩
instance (n : Nat) : OfNat (EF F h) n := ⟨EF.nat n⟩
instance : HPow (EF F h) Nat (EF F h) := ⟨EF.pow⟩
def EF.int : Int → EF F h
  | .ofNat n => EF.nat n
  | .negSucc n => -(EF.nat (n + 1))
instance : IntCast (EF F h) := ⟨EF.int⟩
instance : SMul Nat (EF F h) := ⟨fun n a => EF.nat n * a⟩
instance : SMul Int (EF F h) := ⟨fun n a => EF.int n * a⟩
theorem EF.zero_add' (a : EF F h) : a + 0 = a := EF.ext (by
  show addF F a.v 0 = a.v
  unfold addF
  rw [if_pos (.inr rfl)]
  rfl)
theorem EF.one_add' : (0 : EF F h) + 1 = ⟨1, by have := h.q; omega⟩ := EF.ext rfl
theorem EF.v_one : (1 : EF F h).v = 1 := rfl
theorem EF.v_zero : (0 : EF F h).v = 0 := rfl
theorem EF.add_comm' (a b : EF F h) : a + b = b + a := EF.ext (addF_comm h _ a.lt _ b.lt)
theorem EF.add_assoc' (a b c : EF F h) : a + b + c = a + (b + c) := EF.ext (addF_assoc h a.lt b.lt c.lt)
theorem EF.mul_comm' (a b : EF F h) : a * b = b * a := EF.ext (mulF_comm F _ _)
theorem EF.mul_assoc' (a b c : EF F h) : a * b * c = a * (b * c) := EF.ext (mulF_assoc h _ _ _)
theorem EF.mul_one' (a : EF F h) : a * 1 = a := EF.ext (mulF_one h _ a.lt)
theorem EF.zero_mul' (a : EF F h) : 0 * a = 0 := EF.ext (by
  show mulF F 0 a.v = 0
  rw [mulF_comm, mulF_zero])
theorem EF.dist' (a b c : EF F h) : a * (b + c) = a * b + a * c := EF.ext (mulF_dist h a.lt b.lt c.lt)
theorem EF.neg' (a : EF F h) : -a + a = 0 := EF.ext (negF_add h _ a.lt)
theorem EF.sub' (a b : EF F h) : a - b = a + -b := EF.ext (subF_neg h _ a.lt _ b.lt)
theorem EF.neg_neg' (a : EF F h) : -(-a) = a := by
  have e := EF.neg' (-a)
  have e2 : -(-a) + -a + a = 0 + a := by rw [e]
  rw [EF.add_assoc', EF.neg', EF.zero_add', EF.add_comm', EF.zero_add'] at e2
  exact e2
theorem EF.neg_uniq {a b : EF F h} (e : b + a = 0) : b = -a := by
  have e2 : b + a + -a = 0 + -a := by rw [e]
  rw [EF.add_assoc', EF.add_comm' a, EF.neg', EF.zero_add', EF.add_comm', EF.zero_add'] at e2
  exact e2
theorem EF.neg_mul' (a b : EF F h) : -a * b = -(a * b) := EF.neg_uniq (by rw [EF.mul_comm', EF.mul_comm' a, ← EF.dist', EF.neg', EF.mul_comm', EF.zero_mul'])
theorem EF.neg_zero' : -(0 : EF F h) = 0 := (EF.neg_uniq (by rw [EF.zero_add'])).symm
theorem EF.int_neg (i : Int) : EF.int (-i) = -(EF.int i : EF F h) := by
  cases i with
  | ofNat n =>
    cases n with
    | zero => exact EF.neg_zero'.symm
    | succ n => rfl
  | negSucc n => exact (EF.neg_neg' _).symm
instance : Lean.Grind.CommRing (EF F h) where
  add_zero := EF.zero_add'
  add_comm := EF.add_comm'
  add_assoc := EF.add_assoc'
  mul_assoc := EF.mul_assoc'
  mul_one := EF.mul_one'
  one_mul := fun a => by rw [EF.mul_comm', EF.mul_one']
  left_distrib := EF.dist'
  right_distrib := fun a b c => by rw [EF.mul_comm', EF.dist', EF.mul_comm' c, EF.mul_comm' c]
  zero_mul := EF.zero_mul'
  mul_zero := fun a => by rw [EF.mul_comm', EF.zero_mul']
  pow_zero := fun a => rfl
  pow_succ := fun a n => rfl
  ofNat_succ := fun a => rfl
  ofNat_eq_natCast := fun n => rfl
  nsmul_eq_natCast_mul := fun n a => rfl
  neg_add_cancel := EF.neg'
  sub_eq_add_neg := EF.sub'
  neg_zsmul := fun i a => by
    show EF.int (-i) * a = -(EF.int i * a)
    rw [EF.int_neg, EF.neg_mul']
  zsmul_natCast_eq_nsmul := fun n a => rfl
  intCast_ofNat := fun n => rfl
  intCast_neg := fun i => EF.int_neg i
  mul_comm := EF.mul_comm'
example (a b c : EF F h) (e : a = b + c) : (a - b) * c = c * c := by grind
end
end TP
/-! part M2 -/
/-! spans and ranks -/
namespace TP
section
variable {F : Fd} {h : FOK F}
def kE (h : FOK F) (x : Nat) : EF F h := ⟨x % F.q, Nat.mod_lt _ (by have := h.q; omega)⟩
theorem kE_v {x : Nat} (hx : x < F.q) : (kE h x).v = x := Nat.mod_eq_of_lt hx
theorem kE_of (a : EF F h) : kE h a.v = a := EF.ext (Nat.mod_eq_of_lt a.lt)
theorem kE_inj {x y : Nat} (hx : x < F.q) (hy : y < F.q) (e : kE h x = kE h y) : x = y := by
  have z := congrArg EF.v e
  rw [kE_v hx, kE_v hy] at z
  exact z
theorem kE_add {x y : Nat} (hx : x < F.q) (hy : y < F.q) : kE h (addF F x y) = kE h x + kE h y := EF.ext (by
  rw [kE_v (addF_lt h hx hy)]
  show _ = addF F (kE h x).v (kE h y).v
  rw [kE_v hx, kE_v hy])
theorem kE_sub {x y : Nat} (hx : x < F.q) (hy : y < F.q) : kE h (subF F x y) = kE h x - kE h y := EF.ext (by
  rw [kE_v (subF_lt h hx)]
  show _ = subF F (kE h x).v (kE h y).v
  rw [kE_v hx, kE_v hy])
theorem kE_mul {x y : Nat} (hx : x < F.q) (hy : y < F.q) : kE h (mulF F x y) = kE h x * kE h y := EF.ext (by
  rw [kE_v (mulF_lt h x y)]
  show _ = mulF F (kE h x).v (kE h y).v
  rw [kE_v hx, kE_v hy])
theorem kE_zero : kE h 0 = 0 := EF.ext (kE_v (by have := h.q; omega))
theorem kE_one : kE h 1 = 1 := EF.ext (kE_v (by have := h.q; omega))
/-- base figures -/
def Bs (c : EF F h) : Prop := c.v < F.p
theorem Bs.zero : Bs (0 : EF F h) := by have := h.p; show 0 < F.p; omega
theorem Bs.one : Bs (1 : EF F h) := by have := h.p; show 1 < F.p; omega
theorem Bs.mul {c d : EF F h} (a : Bs c) (b : Bs d) : Bs (c * d) := base_mul h _ a _ b
theorem Bs.add {c d : EF F h} (a : Bs c) (b : Bs d) : Bs (c + d) := base_add h _ a _ b
theorem Bs.sub {c d : EF F h} (a : Bs c) (b : Bs d) : Bs (c - d) := base_sub h _ a _ b
theorem Bs.neg {c : EF F h} (a : Bs c) : Bs (-c) := base_sub h _ (by have := h.p; omega) _ a
theorem Bs.sq {c : EF F h} (a : Bs c) (n : c ≠ 0) : c * c = 1 := EF.ext (base_inv h _ a (by
  have : c.v ≠ 0 := fun e => n (EF.ext e)
  omega))
theorem p_lt_q (h : FOK F) : F.p < F.q := by
  have := h.p
  have := h.q
  omega
theorem Bs.kE {c : Nat} (hc : c < F.p) : Bs (kE h c) := by
  show (TP.kE h c).v < F.p
  rw [kE_v (by have := p_lt_q h; omega)]
  exact hc
/-- the mixtures -/
inductive Spn (S : EF F h → Prop) : EF F h → Prop
  | zero : Spn S 0
  | step {x s c : EF F h} : Spn S x → S s → Bs c → Spn S (x + c * s)
theorem Spn.add {S : EF F h → Prop} {x y : EF F h} (a : Spn S x) (b : Spn S y) : Spn S (x + y) := by
  induction b with
  | zero =>
    have e : x + 0 = x := by grind
    rw [e]
    exact a
  | step _ hs hc ih =>
    rename_i y s c _
    have e : x + (y + c * s) = (x + y) + c * s := by grind
    rw [e]
    exact .step ih hs hc
theorem Spn.mul {S : EF F h → Prop} {x c : EF F h} (hc : Bs c) (a : Spn S x) : Spn S (c * x) := by
  induction a with
  | zero =>
    have e : c * 0 = 0 := by grind
    rw [e]
    exact .zero
  | step _ hs hd ih =>
    rename_i y s d _
    have e : c * (y + d * s) = c * y + (c * d) * s := by grind
    rw [e]
    exact .step ih hs (hc.mul hd)
theorem Spn.of {S : EF F h → Prop} {s : EF F h} (a : S s) : Spn S s := by
  have e : s = 0 + 1 * s := by grind
  rw [e]
  exact .step .zero a Bs.one
theorem Spn.neg {S : EF F h → Prop} {x : EF F h} (a : Spn S x) : Spn S (-x) := by
  have e : -x = (-1) * x := by grind
  rw [e]
  exact a.mul Bs.one.neg
theorem Spn.sub {S : EF F h → Prop} {x y : EF F h} (a : Spn S x) (b : Spn S y) : Spn S (x - y) := by
  have e : x - y = x + -y := by grind
  rw [e]
  exact a.add b.neg
theorem Spn.via {S T : EF F h → Prop} (st : ∀ s, S s → Spn T s) {x : EF F h} (a : Spn S x) : Spn T x := by
  induction a with
  | zero => exact .zero
  | step _ hs hd ih => exact ih.add ((st _ hs).mul hd)
theorem Spn.more {S T : EF F h → Prop} {y : EF F h} (st : ∀ s, S s → T s ∨ s = y) {x : EF F h} (a : Spn S x) : ∃ c o, Bs c ∧ Spn T o ∧ x = o + c * y := by
  induction a with
  | zero => exact ⟨0, 0, Bs.zero, .zero, by grind⟩
  | step _ hs hd ih =>
    rename_i x s d _
    obtain ⟨c, o, h1, h2, h3⟩ := ih
    rcases st s hs with t | e
    · exact ⟨c, o + d * s, h1, h2.step t hd, by rw [h3]; grind⟩
    · exact ⟨c + d, o, h1.add hd, h2, by rw [h3, e]; grind⟩
/-- the first i of a list -/
def fstE (h : FOK F) (g : List Nat) (i : Nat) (s : EF F h) : Prop := ∃ j, j < i ∧ s = kE h (g.getD j 0)
theorem spanMore_mem (S : List Nat) (y : Nat) : ∀ k x, x ∈ spanMore F S y k ↔ ∃ c, c < k ∧ ∃ o, o ∈ S ∧ x = lplus F o y c
  | 0, x => by
    constructor
    · intro z; cases z
    · rintro ⟨c, z, _⟩
      omega
  | k + 1, x => by
    show x ∈ spanMore F S y k ++ S.map (fun o => lplus F o y k) ↔ _
    rw [List.mem_append, spanMore_mem S y k x, List.mem_map]
    constructor
    · rintro (⟨c, hc, o, ho, e⟩ | ⟨o, ho, e⟩)
      · exact ⟨c, by omega, o, ho, e⟩
      · exact ⟨k, by omega, o, ho, e.symm⟩
    · rintro ⟨c, hc, o, ho, e⟩
      by_cases hk : c = k
      · subst hk
        exact .inr ⟨o, ho, e.symm⟩
      · exact .inl ⟨c, by omega, o, ho, e⟩
theorem kE_lplus {o y c : Nat} (ho : o < F.q) (hy : y < F.q) (hc : c < F.p) : kE h (lplus F o y c) = kE h o + kE h c * kE h y := by
  have hcq : c < F.q := by have := p_lt_q h; omega
  rw [lplus_mul h c hc o ho y hy, kE_add ho (mulF_lt h _ _), kE_mul hcq hy]
theorem spanTo_mem {g : List Nat} (hg : El F g) : ∀ i x, x < F.q → (x ∈ spanTo F g i ↔ Spn (fstE h g i) (kE h x))
  | 0, x, hx => by
    show x ∈ [0] ↔ _
    rw [List.mem_singleton]
    constructor
    · intro e
      rw [e, kE_zero]
      exact .zero
    · intro a
      have z : ∀ y : EF F h, Spn (fstE h g 0) y → y = 0 := fun y b => by
        cases b with
        | zero => rfl
        | step _ hs _ =>
          obtain ⟨j, hj, _⟩ := hs
          omega
      have e := z _ a
      rw [← kE_zero] at e
      exact kE_inj hx (by have := h.q; omega) e
  | i + 1, x, hx => by
    have hy : g.getD i 0 < F.q := hg.atD h i
    have ih := fun x hx => spanTo_mem hg i x hx
    have up : ∀ z : EF F h, Spn (fstE h g i) z → Spn (fstE h g (i + 1)) z := fun z a => a.via fun s hs => .of (by
      obtain ⟨j, hj, e⟩ := hs
      exact ⟨j, by omega, e⟩)
    have dn : ∀ s : EF F h, fstE h g (i + 1) s → fstE h g i s ∨ s = kE h (g.getD i 0) := fun s hs => by
      obtain ⟨j, hj, e⟩ := hs
      by_cases hji : j = i
      · exact .inr (by rw [e, hji])
      · exact .inl ⟨j, by omega, e⟩
    show x ∈ spanStep F (spanTo F g i) (g.getD i 0) ↔ _
    unfold spanStep
    by_cases hm : g.getD i 0 ∈ spanTo F g i
    · rw [if_pos hm, ih x hx]
      constructor
      · exact up _
      · intro a
        exact a.via fun s hs => by
          rcases dn s hs with t | e
          · exact .of t
          · rw [e]
            exact (ih _ hy).mp hm
    · rw [if_neg hm, spanMore_mem]
      constructor
      · rintro ⟨c, hc, o, ho, e⟩
        have hoq : o < F.q := spanTo_el h g i o ho
        rw [e, kE_lplus hoq hy hc]
        exact .step (up _ ((ih o hoq).mp ho)) ⟨i, by omega, rfl⟩ (Bs.kE hc)
      · intro a
        obtain ⟨c, o, h1, h2, h3⟩ := a.more dn
        refine ⟨c.v, h1, o.v, (ih o.v o.lt).mpr (by rw [kE_of]; exact h2), ?_⟩
        refine kE_inj (h := h) hx (lplus_lt h _ _ _) ?_
        rw [kE_lplus o.lt hy h1, kE_of, kE_of]
        exact h3
theorem nodup_map_in {α β : Type} {f : α → β} : ∀ {l : List α}, (∀ a ∈ l, ∀ b ∈ l, f a = f b → a = b) → l.Nodup → (l.map f).Nodup
  | [], _, _ => List.nodup_nil
  | a :: l, hf, hn => by
    rw [List.nodup_cons] at hn
    rw [List.map_cons, List.nodup_cons]
    refine ⟨fun hm => ?_, nodup_map_in (fun a ha b hb => hf a (List.mem_cons_of_mem _ ha) b (List.mem_cons_of_mem _ hb)) hn.2⟩
    obtain ⟨b, hb, e⟩ := List.mem_map.mp hm
    have z := hf b (List.mem_cons_of_mem _ hb) a (List.mem_cons_self ..) e
    rw [z] at hb
    exact hn.1 hb
theorem spanMore_nodup {g : List Nat} (h : FOK F) (hg : El F g) {i : Nat} (hn : (spanTo F g i).Nodup) {y : Nat} (hy : y < F.q) (hm : y ∉ spanTo F g i) : ∀ k, k ≤ F.p → (spanMore F (spanTo F g i) y k).Nodup
  | 0, _ => List.nodup_nil
  | k + 1, hk => by
    show (spanMore F (spanTo F g i) y k ++ (spanTo F g i).map (fun o => lplus F o y k)).Nodup
    have el := spanTo_el h g i
    rw [List.nodup_append]
    refine ⟨spanMore_nodup h hg hn hy hm k (by omega), nodup_map_in (fun a ha b hb e => ?_) hn, fun a ha b hb e => ?_⟩
    · have z := congrArg (kE h) e
      rw [kE_lplus (el a ha) hy (by omega), kE_lplus (el b hb) hy (by omega)] at z
      exact kE_inj (h := h) (el a ha) (el b hb) (by grind)
    · obtain ⟨c, hc, o, ho, e1⟩ := (spanMore_mem _ y k a).mp ha
      obtain ⟨o2, ho2, e2⟩ := List.mem_map.mp hb
      have z : lplus F o y c = lplus F o2 y k := by rw [← e1, e, e2]
      have z2 := congrArg (kE h) z
      rw [kE_lplus (el o ho) hy (by omega), kE_lplus (el o2 ho2) hy (by omega)] at z2
      have m1 := (spanTo_mem (h := h) hg i o (el o ho)).mp ho
      have m2 := (spanTo_mem (h := h) hg i o2 (el o2 ho2)).mp ho2
      have hb1 : Bs (kE h k - kE h c) := (Bs.kE (by omega)).sub (Bs.kE (by omega))
      have hne : kE h k - kE h c ≠ 0 := fun q => by
        have e3 : kE h k = kE h c := by grind
        have := p_lt_q h
        have := kE_inj (h := h) (x := k) (y := c) (by omega) (by omega) e3
        omega
      have e4 : kE h y = (kE h k - kE h c) * (kE h o - kE h o2) := by
        have s := hb1.sq hne
        have e5 : (kE h k - kE h c) * kE h y = kE h o - kE h o2 := by grind
        rw [← e5, ← EF.mul_assoc', s]
        grind
      exact hm ((spanTo_mem (h := h) hg i y hy).mpr (by rw [e4]; exact (m1.sub m2).mul hb1))
theorem spanTo_nodup {g : List Nat} (h : FOK F) (hg : El F g) : ∀ i, (spanTo F g i).Nodup
  | 0 => by
    show [0].Nodup
    simp
  | i + 1 => by
    show (spanStep F (spanTo F g i) (g.getD i 0)).Nodup
    unfold spanStep
    split
    · exact spanTo_nodup h hg i
    · rename_i hm
      exact spanMore_nodup h hg (spanTo_nodup h hg i) (hg.atD h i) hm F.p (Nat.le_refl _)
theorem nodup_sub_len {α : Type} [DecidableEq α] : ∀ {l m : List α}, l.Nodup → (∀ x ∈ l, x ∈ m) → l.length ≤ m.length
  | [], _, _, _ => Nat.zero_le _
  | a :: l, m, hn, hs => by
    rw [List.nodup_cons] at hn
    have ha := hs a (List.mem_cons_self ..)
    have z := nodup_sub_len (l := l) (m := m.erase a) hn.2 fun x hx => by
      have ne : x ≠ a := fun e => hn.1 (by rw [← e]; exact hx)
      exact (List.mem_erase_of_ne ne).mpr (hs x (List.mem_cons_of_mem _ hx))
    rw [List.length_erase_of_mem ha] at z
    have := List.length_pos_of_mem ha
    rw [List.length_cons]
    omega
/-- the rank is the span's -/
theorem lrk_le {g g' : List Nat} (h : FOK F) (hg : El F g) (hg' : El F g') (s : ∀ x : EF F h, Spn (fstE h g g.length) x → Spn (fstE h g' g'.length) x) : lrk F g ≤ lrk F g' := by
  have z := nodup_sub_len (spanTo_nodup h hg g.length) (m := spanTo F g' g'.length) fun x hx => by
    have hq := spanTo_el h g _ x hx
    exact (spanTo_mem (h := h) hg' _ x hq).mpr (s _ ((spanTo_mem (h := h) hg _ x hq).mp hx))
  rw [spanTo_len, spanTo_len] at z
  have hp := h.p
  exact (Nat.pow_le_pow_iff_right (by omega)).mp z
theorem lrk_free {g : List Nat} (f : FreeL F g) : lrk F g = g.length := by
  have z : ∀ i, i ≤ g.length → rkTo F g i = i := by
    intro i
    induction i with
    | zero => intro _; rfl
    | succ i ih =>
      intro hi
      have e : rkTo F g (i + 1) = if g.getD i 0 ∈ spanTo F g i then rkTo F g i else rkTo F g i + 1 := rfl
      rw [e, if_neg (f i (by omega)), ih (by omega)]
  exact z _ (Nat.le_refl _)
end
end TP
/-! part M3 -/
/-! the program's rank is the law's -/
namespace TP
theorem sm_fact {F : Fd} (h : FOK F) : ∀ x, x < F.p → ∀ d, d < F.p → ∀ y, y < F.p → sm F.p x (d * y) = (x + (F.p - 1) * ((0 + d * y) % F.p)) % F.p :=
  h.all (C := fun F => ∀ x, x < F.p → ∀ d, d < F.p → ∀ y, y < F.p → sm F.p x (d * y) = (x + (F.p - 1) * ((0 + d * y) % F.p)) % F.p) (by decide +kernel) (by decide +kernel) (by decide +kernel) (by decide +kernel)
theorem sm_zero {F : Fd} (h : FOK F) : ∀ x, x < F.p → sm F.p x 0 = x :=
  h.all (C := fun F => ∀ x, x < F.p → sm F.p x 0 = x) (by decide +kernel) (by decide +kernel) (by decide +kernel) (by decide +kernel)
theorem sm_self {F : Fd} (h : FOK F) : ∀ x, x < F.p → sm F.p x x = 0 :=
  h.all (C := fun F => ∀ x, x < F.p → sm F.p x x = 0) (by decide +kernel) (by decide +kernel) (by decide +kernel) (by decide +kernel)
theorem sq_one {F : Fd} (h : FOK F) : ∀ x, x < F.p → x ≠ 0 → x * x % F.p = 1 :=
  h.all (C := fun F => ∀ x, x < F.p → x ≠ 0 → x * x % F.p = 1) (by decide +kernel) (by decide +kernel) (by decide +kernel) (by decide +kernel)
theorem digs_zero_at (p : Nat) : ∀ n i, (digs p n 0).getD i 0 = 0
  | 0, i => by simp [digs]
  | n + 1, 0 => by simp [digs]
  | n + 1, i + 1 => by
    have e : digs p (n + 1) 0 = 0 % p :: digs p n (0 / p) := rfl
    rw [e, Nat.zero_div]
    exact digs_zero_at p n i
section
variable {F : Fd} {h : FOK F}
/-- a number's figure -/
def coE (a : EF F h) (c : Nat) : Nat := (digs F.p F.n a.v).getD c 0
theorem co_lt (a : EF F h) (c : Nat) : coE a c < F.p := by
  have hp := h.p
  exact (digs_row (p := F.p) (by omega) F.n a.v).lt c
theorem co_zero (c : Nat) : coE (0 : EF F h) c = 0 := digs_zero_at _ _ _
theorem co_ext {a b : EF F h} (e : ∀ c, c < F.n → coE a c = coE b c) : a = b := by
  refine EF.ext (digs_inj h a.lt b.lt (List.ext_getElem (by rw [digs_len, digs_len]) fun i h1 h2 => ?_))
  have z := e i (by rw [digs_len] at h1; exact h1)
  unfold coE at z
  rw [List.getD_eq_getElem?_getD, List.getElem?_eq_getElem h1, List.getD_eq_getElem?_getD, List.getElem?_eq_getElem h2] at z
  exact z
theorem zipW_getD {f : Nat → Nat → Nat} {xs ys : List Nat} {i : Nat} (h1 : i < xs.length) (h2 : i < ys.length) : (List.zipWith f xs ys).getD i 0 = f (xs.getD i 0) (ys.getD i 0) := by
  rw [List.getD_eq_getElem?_getD, List.getElem?_zipWith, List.getD_eq_getElem?_getD, List.getD_eq_getElem?_getD, List.getElem?_eq_getElem h1, List.getElem?_eq_getElem h2]
  rfl
theorem co_lin {a b c : EF F h} (hc : Bs c) {i : Nat} (hi : i < F.n) : coE (a + c * b) i = (coE a i + c.v * coE b i) % F.p := by
  have e : a + c * b = ⟨lplus F a.v b.v c.v, lplus_lt h _ _ _⟩ := EF.ext (by
    show addF F a.v (mulF F c.v b.v) = lplus F a.v b.v c.v
    exact (lplus_mul h c.v hc a.v a.lt b.v b.lt).symm)
  rw [e]
  show (digs F.p F.n (lplus F a.v b.v c.v)).getD i 0 = _
  rw [digs_lplus h, zipW_getD (by rw [digs_len]; exact hi) (by rw [digs_len]; exact hi)]
  rfl
/-- the number of a row -/
def rE (h : FOK F) (r : List Nat) : EF F h := kE h (num F.p r)
theorem num_row {r : List Nat} (h : FOK F) (g : Row F.p F.n r) : num F.p r < F.q := by
  have hp := h.p
  have z := num_lt (p := F.p) (by omega) (ds := r) fun d hd => by
    obtain ⟨i, hi, e⟩ := List.getElem_of_mem hd
    have := g.lt i
    rw [List.getD_eq_getElem?_getD, List.getElem?_eq_getElem hi] at this
    rw [← e]
    exact this
  rw [g.len, ← h.qpn] at z
  exact z
theorem rE_digs {r : List Nat} (g : Row F.p F.n r) : digs F.p F.n (rE h r).v = r := by
  have hp := h.p
  have z := digs_num (p := F.p) (by omega) (ds := r) fun d hd => by
    obtain ⟨i, hi, e⟩ := List.getElem_of_mem hd
    have := g.lt i
    rw [List.getD_eq_getElem?_getD, List.getElem?_eq_getElem hi] at this
    rw [← e]
    exact this
  rw [g.len] at z
  unfold rE
  rw [kE_v (num_row h g)]
  exact z
theorem rE_co {r : List Nat} (g : Row F.p F.n r) (c : Nat) : coE (rE h r) c = r.getD c 0 := by
  unfold coE
  rw [rE_digs g]
theorem neg_one_v : (-1 : EF F h).v = F.p - 1 :=
  h.all (C := fun F => subF F 0 1 = F.p - 1) (by decide +kernel) (by decide +kernel) (by decide +kernel) (by decide +kernel)
theorem rE_less {r s : List Nat} {c : Nat} (a : Row F.p F.n r) (b : Row F.p F.n s) : rE h (lessRow F.p r s c) = rE h r - kE h (r.getD c 0) * rE h s := by
  have hp := h.p
  have e : rE h r - kE h (r.getD c 0) * rE h s = rE h r + (-1) * (0 + kE h (r.getD c 0) * rE h s) := by grind
  rw [e]
  have hb : Bs (kE h (r.getD c 0)) := Bs.kE (a.lt c)
  have hv : (kE h (r.getD c 0)).v = r.getD c 0 := kE_v (by have := a.lt c; have := p_lt_q h; omega)
  refine co_ext fun i hi => ?_
  rw [rE_co (a.less (by omega) b), lessRow_at a.len b.len hi, co_lin Bs.one.neg hi, co_lin hb hi, hv, rE_co a, rE_co b, co_zero, neg_one_v]
  exact sm_fact h _ (a.lt i) _ (a.lt c) _ (b.lt i)
theorem rE_scale {t : Nat} {r : List Nat} (ht : t < F.p) (a : Row F.p F.n r) : rE h (scaleRow F.p t r) = kE h t * rE h r := by
  have hp := h.p
  have hv : (kE h t).v = t := kE_v (by have := p_lt_q h; omega)
  have e : kE h t * rE h r = 0 + kE h t * rE h r := by grind
  rw [e]
  refine co_ext fun i hi => ?_
  rw [rE_co (a.scale (by omega)), scaleRow_at, co_lin (Bs.kE ht) hi, hv, rE_co a, co_zero, Nat.zero_add, Nat.mul_comm]
/-! ### the steps keep the span -/
def inL (h : FOK F) (L : List (List Nat)) (x : EF F h) : Prop := ∃ r, r ∈ L ∧ x = rE h r
structure StOk (h : FOK F) (rows : List (List Nat)) (c : Nat) (s : List (List Nat) × List (List Nat)) : Prop where
  up : ∀ x : EF F h, Spn (inL h rows) x → Spn (inL h (s.1 ++ s.2)) x
  zer : ∀ r ∈ s.1, ∀ j, j < c → r.getD j 0 = 0
  piv : ∀ i, i < s.2.length → ∃ k, k < c ∧ (s.2.getD i []).getD k 0 ≠ 0 ∧ ∀ j, j < s.2.length → j ≠ i → (s.2.getD j []).getD k 0 = 0
  dn : ∀ x : EF F h, Spn (inL h (s.1 ++ s.2)) x → Spn (inL h rows) x
theorem mem_split {L : List (List Nat)} {i : Nat} (hi : i < L.length) {r : List Nat} (hr : r ∈ L) : r = L.getD i [] ∨ r ∈ L.eraseIdx i := by
  obtain ⟨j, hj, e⟩ := List.getElem_of_mem hr
  by_cases hji : j = i
  · left
    rw [List.getD_eq_getElem?_getD, List.getElem?_eq_getElem hi, ← e]
    subst hji
    rfl
  · right
    rw [List.mem_eraseIdx_iff_getElem]
    exact ⟨j, hj, hji, e⟩
theorem getD_mapL {f : List Nat → List Nat} {L : List (List Nat)} {i : Nat} (hi : i < L.length) : (L.map f).getD i [] = f (L.getD i []) := by
  rw [List.getD_eq_getElem?_getD, List.getElem?_map, List.getElem?_eq_getElem hi, List.getD_eq_getElem?_getD, List.getElem?_eq_getElem hi]
  rfl
theorem stepAt_st {rows : List (List Nat)} {c : Nat} (hc : c < F.n) {s : List (List Nat) × List (List Nat)} (g1 : Good F.p F.n s.1) (g2 : Good F.p F.n s.2) (o : StOk h rows c s) : StOk h rows (c + 1) (stepAt F.p c s) := by
  have hp := h.p
  unfold stepAt
  cases e : spots c s.1 with
  | nil =>
    refine ⟨o.up, fun r hr j hj => ?_, fun i hi => ?_, o.dn⟩
    · by_cases hjc : j < c
      · exact o.zer r hr j hjc
      · have ej : j = c := by omega
        subst ej
        obtain ⟨i, hi, er⟩ := List.getElem_of_mem hr
        by_cases hz : r.getD j 0 = 0
        · exact hz
        · have : i ∈ spots j s.1 := by
            refine List.mem_filter.mpr ⟨List.mem_range.mpr hi, decide_eq_true ?_⟩
            have e2 : s.1.getD i [] = r := by
              rw [List.getD_eq_getElem?_getD, List.getElem?_eq_getElem hi]
              exact er
            rw [e2]
            exact hz
          rw [e] at this
          cases this
    · obtain ⟨k, h1, h2⟩ := o.piv i hi
      exact ⟨k, by omega, h2⟩
  | cons i is =>
    have hi := spots_mem (show i ∈ spots c s.1 by rw [e]; exact List.mem_cons_self ..)
    have g0 : Row F.p F.n (s.1.getD i []) := g1.at hi.1
    have m0 : s.1.getD i [] ∈ s.1 := by
      rw [List.getD_eq_getElem?_getD, List.getElem?_eq_getElem hi.1]
      exact List.getElem_mem _
    have z0 := o.zer _ m0
    have hh : Row F.p F.n (headOf F.p c i s.1) := g0.scale (by omega)
    have ht := g0.lt c
    have hhat : ∀ j, (headOf F.p c i s.1).getD j 0 = (s.1.getD i []).getD j 0 * (s.1.getD i []).getD c 0 % F.p := fun j => scaleRow_at _ _ _ _
    have hhE : rE h (headOf F.p c i s.1) = kE h ((s.1.getD i []).getD c 0) * rE h (s.1.getD i []) := rE_scale ht g0
    have hh0 : ∀ j, j < c → (headOf F.p c i s.1).getD j 0 = 0 := fun j hj => by
      rw [hhat, z0 j hj, Nat.zero_mul, Nat.zero_mod]
    have hh1 : (headOf F.p c i s.1).getD c 0 = 1 := by
      rw [hhat]
      exact sq_one h _ ht hi.2
    have hk2 : kE h ((s.1.getD i []).getD c 0) * kE h ((s.1.getD i []).getD c 0) = 1 := (Bs.kE ht).sq fun q => hi.2 (by
      have := p_lt_q h
      rw [← kE_zero] at q
      exact kE_inj (h := h) (by omega) (by omega) q)
    dsimp only
    generalize headOf F.p c i s.1 = hd at hh hhat hhE hh0 hh1 ⊢
    have lessAt : ∀ r, Row F.p F.n r → ∀ j, j < F.n → (lessRow F.p r hd c).getD j 0 = sm F.p (r.getD j 0) (r.getD c 0 * hd.getD j 0) := fun r hr j hj => lessRow_at hr.len hh.len hj
    have less0 : ∀ r, Row F.p F.n r → ∀ j, j < F.n → hd.getD j 0 = 0 → (lessRow F.p r hd c).getD j 0 = r.getD j 0 := fun r hr j hj hz => by
      rw [lessAt r hr j hj, hz, Nat.mul_zero, sm_zero h _ (hr.lt j)]
    have lessc : ∀ r, Row F.p F.n r → (lessRow F.p r hd c).getD c 0 = 0 := fun r hr => by
      rw [lessAt r hr c hc, hh1, Nat.mul_one, sm_self h _ (hr.lt c)]
    have mHd : inL h ((s.1.eraseIdx i).map (fun r => lessRow F.p r hd c) ++ (s.2.map (fun r => lessRow F.p r hd c) ++ [hd])) (rE h hd) :=
      ⟨hd, List.mem_append_right _ (List.mem_append_right _ (List.mem_singleton.mpr rfl)), rfl⟩
    have oHd : Spn (inL h (s.1 ++ s.2)) (rE h hd) := by
      rw [hhE]
      exact (Spn.of ⟨_, List.mem_append_left _ m0, rfl⟩).mul (Bs.kE ht)
    have back : ∀ r, Row F.p F.n r → inL h ((s.1.eraseIdx i).map (fun r => lessRow F.p r hd c) ++ (s.2.map (fun r => lessRow F.p r hd c) ++ [hd])) (rE h (lessRow F.p r hd c)) → Spn (inL h ((s.1.eraseIdx i).map (fun r => lessRow F.p r hd c) ++ (s.2.map (fun r => lessRow F.p r hd c) ++ [hd]))) (rE h r) := fun r hr m => by
      have z := (Spn.of m).add ((Spn.of mHd).mul (Bs.kE (hr.lt c)))
      rw [rE_less hr hh] at z
      have e2 : rE h r - kE h (r.getD c 0) * rE h hd + kE h (r.getD c 0) * rE h hd = rE h r := by grind
      rw [e2] at z
      exact z
    refine ⟨fun x a => ?_, fun r hr j hj => ?_, fun k hk => ?_, fun x a => ?_⟩
    · refine (o.up x a).via fun y hy => ?_
      obtain ⟨r, hr, rfl⟩ := hy
      rcases List.mem_append.mp hr with hr | hr
      · rcases mem_split hi.1 hr with er | hr'
        · rw [er]
          have e3 : rE h (s.1.getD i []) = kE h ((s.1.getD i []).getD c 0) * rE h hd := by
            rw [hhE, ← EF.mul_assoc', hk2]
            grind
          rw [e3]
          exact (Spn.of mHd).mul (Bs.kE ht)
        · exact back r (g1 r hr) ⟨_, List.mem_append_left _ (List.mem_map.mpr ⟨r, hr', rfl⟩), rfl⟩
      · exact back r (g2 r hr) ⟨_, List.mem_append_right _ (List.mem_append_left _ (List.mem_map.mpr ⟨r, hr, rfl⟩)), rfl⟩
    · obtain ⟨r', hr', rfl⟩ := List.mem_map.mp hr
      have hm := List.mem_of_mem_eraseIdx hr'
      by_cases hjc : j < c
      · rw [less0 r' (g1 r' hm) j (by omega) (hh0 j hjc)]
        exact o.zer r' hm j hjc
      · have ej : j = c := by omega
        rw [ej]
        exact lessc r' (g1 r' hm)
    · have at1 : ∀ j, j < s.2.length → (s.2.map (fun r => lessRow F.p r hd c) ++ [hd]).getD j [] = lessRow F.p (s.2.getD j []) hd c := fun j hj => by
        rw [List.getD_eq_getElem?_getD, List.getElem?_append_left (by rw [List.length_map]; exact hj), ← List.getD_eq_getElem?_getD, getD_mapL hj]
      have at2 : (s.2.map (fun r => lessRow F.p r hd c) ++ [hd]).getD s.2.length [] = hd := by
        rw [List.getD_eq_getElem?_getD, List.getElem?_append_right (by rw [List.length_map]; exact Nat.le_refl _), List.length_map, Nat.sub_self]
        rfl
      have hlen : (s.2.map (fun r => lessRow F.p r hd c) ++ [hd]).length = s.2.length + 1 := by
        rw [List.length_append, List.length_map]
        rfl
      rw [hlen] at hk ⊢
      by_cases hks : k < s.2.length
      · obtain ⟨col, h1, h2, h3⟩ := o.piv k hks
        refine ⟨col, by omega, ?_, fun j hj hjk => ?_⟩
        · rw [at1 k hks, less0 _ (g2.at hks) col (by omega) (hh0 col h1)]
          exact h2
        · by_cases hjs : j < s.2.length
          · rw [at1 j hjs, less0 _ (g2.at hjs) col (by omega) (hh0 col h1)]
            exact h3 j hjs hjk
          · have ej : j = s.2.length := by omega
            rw [ej, at2]
            exact hh0 col h1
      · have ek : k = s.2.length := by omega
        refine ⟨c, by omega, ?_, fun j hj hjk => ?_⟩
        · rw [ek, at2, hh1]
          exact Nat.one_ne_zero
        · rw [at1 j (by omega)]
          exact lessc _ (g2.at (by omega))
    · refine o.dn x (a.via fun y hy => ?_)
      obtain ⟨r, hr, rfl⟩ := hy
      rcases List.mem_append.mp hr with hr | hr
      · obtain ⟨r', hr', rfl⟩ := List.mem_map.mp hr
        have hm := List.mem_of_mem_eraseIdx hr'
        rw [rE_less (g1 r' hm) hh]
        exact (Spn.of ⟨r', List.mem_append_left _ hm, rfl⟩).sub (oHd.mul (Bs.kE ((g1 r' hm).lt c)))
      · rcases List.mem_append.mp hr with hr | hr
        · obtain ⟨r', hr', rfl⟩ := List.mem_map.mp hr
          rw [rE_less (g2 r' hr') hh]
          exact (Spn.of ⟨r', List.mem_append_right _ hr', rfl⟩).sub (oHd.mul (Bs.kE ((g2 r' hr').lt c)))
        · rw [List.mem_singleton.mp hr]
          exact oHd
theorem stepsTo_st {rows : List (List Nat)} (g : Good F.p F.n rows) : ∀ c, c ≤ F.n → StOk h rows c (stepsTo F.p rows c)
  | 0, _ => ⟨fun x a => by
      show Spn (inL h (rows ++ [])) x
      rw [List.append_nil]
      exact a, fun r _ j hj => by omega, fun i hi => absurd hi (Nat.not_lt_zero _), fun x a => by
      have z : Spn (inL h (rows ++ [])) x := a
      rw [List.append_nil] at z
      exact z⟩
  | c + 1, hc => by
    have hp := h.p
    have z := stepsTo_good (p := F.p) (by omega) g c
    exact stepAt_st (by omega) z.1 z.2 (stepsTo_st g c (by omega))
theorem getD_mapN {f : List Nat → Nat} {L : List (List Nat)} {i : Nat} (hi : i < L.length) : (L.map f).getD i 0 = f (L.getD i []) := by
  rw [List.getD_eq_getElem?_getD, List.getElem?_map, List.getElem?_eq_getElem hi, List.getD_eq_getElem?_getD, List.getElem?_eq_getElem hi]
  rfl
theorem fst_inL {L : List (List Nat)} (x : EF F h) : fstE h (L.map (num F.p)) (L.map (num F.p)).length x ↔ inL h L x := by
  constructor
  · rintro ⟨j, hj, e⟩
    rw [List.length_map] at hj
    rw [getD_mapN hj] at e
    exact ⟨L.getD j [], by rw [List.getD_eq_getElem?_getD, List.getElem?_eq_getElem hj]; exact List.getElem_mem _, e⟩
  · rintro ⟨r, hr, e⟩
    obtain ⟨j, hj, er⟩ := List.getElem_of_mem hr
    refine ⟨j, by rw [List.length_map]; exact hj, ?_⟩
    rw [getD_mapN hj, List.getD_eq_getElem?_getD, List.getElem?_eq_getElem hj]
    rw [e, ← er]
    rfl
/-- free by their pivots -/
theorem free_piv {R : List (List Nat)} (h : FOK F) (g : Good F.p F.n R) (pv : ∀ i, i < R.length → ∃ k, k < F.n ∧ (R.getD i []).getD k 0 ≠ 0 ∧ ∀ j, j < R.length → j ≠ i → (R.getD j []).getD k 0 = 0) : FreeL F (R.map (num F.p)) := fun i hi hm => by
  rw [List.length_map] at hi
  have hel : El F (R.map (num F.p)) := El.map fun r hr => num_row h (g r hr)
  obtain ⟨k, hk, h1, h2⟩ := pv i hi
  have z := (spanTo_mem (h := h) hel i _ (hel.atD h i)).mp hm
  have q : ∀ x : EF F h, Spn (fstE h (R.map (num F.p)) i) x → coE x k = 0 := fun x a => by
    induction a with
    | zero => exact co_zero k
    | step _ hs hc ih =>
      obtain ⟨j, hj, e⟩ := hs
      rw [co_lin hc hk, ih, e, getD_mapN (by omega)]
      have e2 : coE (kE h (num F.p (R.getD j []))) k = (R.getD j []).getD k 0 := rE_co (g.at (by omega)) k
      rw [e2, h2 j (by omega) (by omega), Nat.mul_zero, Nat.zero_add, Nat.zero_mod]
  have z2 := q _ z
  rw [getD_mapN hi] at z2
  have e2 : coE (kE h (num F.p (R.getD i []))) k = (R.getD i []).getD k 0 := rE_co (g.at hi) k
  rw [e2] at z2
  exact h1 z2
theorem rk_eq (h : FOK F) {xs : List Nat} (hx : El F xs) : rkF F xs = lrk F xs := by
  have hp := h.p
  unfold rkF rkRows steps
  have gr : Good F.p F.n (xs.map fun x => digs F.p F.n x) := fun r m => by
    obtain ⟨x, _, rfl⟩ := List.mem_map.mp m
    exact digs_row (by omega) F.n x
  cases xs with
  | nil => rfl
  | cons x0 xs0 =>
  have e0 : (((x0 :: xs0).map fun x => digs F.p F.n x).getD 0 []).length = F.n := by
    show (digs F.p F.n x0).length = F.n
    rw [digs_len]
  rw [e0]
  generalize x0 :: xs0 = xs at *
  have st := stepsTo_st (h := h) gr F.n (Nat.le_refl _)
  have gd := stepsTo_good (p := F.p) (by omega) gr F.n
  have emap : (xs.map fun x => digs F.p F.n x).map (num F.p) = xs := by
    rw [List.map_map]
    have : ∀ l : List Nat, El F l → l.map (num F.p ∘ fun x => digs F.p F.n x) = l := by
      intro l hl
      induction l with
      | nil => rfl
      | cons a l ih =>
        rw [List.map_cons, ih fun y hy => hl y (List.mem_cons_of_mem _ hy)]
        show num F.p (digs F.p F.n a) :: l = a :: l
        rw [num_digs (by omega) F.n a (by rw [← h.qpn]; exact hl a (List.mem_cons_self ..))]
    exact this xs hx
  have sx : ∀ x : EF F h, fstE h xs xs.length x ↔ inL h (xs.map fun x => digs F.p F.n x) x := fun x => by
    have z := fst_inL (h := h) (L := xs.map fun x => digs F.p F.n x) x
    rw [emap] at z
    exact z
  generalize xs.map (fun x => digs F.p F.n x) = rows at *
  generalize stepsTo F.p rows F.n = s at *
  have fr := free_piv h gd.2 st.piv
  have hel : El F (s.2.map (num F.p)) := El.map fun r hr => num_row h (gd.2 r hr)
  have e1 := lrk_free fr
  rw [List.length_map] at e1
  rw [← e1]
  have zr : ∀ r ∈ s.1, rE h r = 0 := fun r hr => co_ext fun c hc => by
    rw [rE_co (gd.1 r hr), co_zero]
    exact st.zer r hr c hc
  have a1 : ∀ x : EF F h, Spn (inL h (s.1 ++ s.2)) x → Spn (fstE h (s.2.map (num F.p)) (s.2.map (num F.p)).length) x := fun x a => a.via fun y hy => by
    obtain ⟨r, hr, rfl⟩ := hy
    rcases List.mem_append.mp hr with hr | hr
    · rw [zr r hr]
      exact .zero
    · exact .of ((fst_inL _).mpr ⟨r, hr, rfl⟩)
  have a2 : ∀ x : EF F h, Spn (fstE h (s.2.map (num F.p)) (s.2.map (num F.p)).length) x → Spn (inL h (s.1 ++ s.2)) x := fun x a => a.via fun y hy => by
    obtain ⟨r, hr, rfl⟩ := (fst_inL _).mp hy
    exact .of ⟨r, List.mem_append_right _ hr, rfl⟩
  refine Nat.le_antisymm (lrk_le h hel hx fun x a => ?_) (lrk_le h hx hel fun x a => ?_)
  · exact (st.dn x (a2 x a)).via fun y hy => .of ((sx y).mpr hy)
  · exact a1 x (st.up x (a.via fun y hy => .of ((sx y).mp hy)))
end
end TP
/-! part M4 -/
/-! a lone solution solves -/
namespace TP
section
variable {F : Fd} {h : FOK F}
def sumE (f : Nat → EF F h) : Nat → EF F h
  | 0 => 0
  | n + 1 => sumE f n + f n
theorem sumE_congr {f g : Nat → EF F h} : ∀ n, (∀ i, i < n → f i = g i) → sumE f n = sumE g n
  | 0, _ => rfl
  | n + 1, e => by
    show sumE f n + f n = sumE g n + g n
    rw [sumE_congr n fun i hi => e i (by omega), e n (by omega)]
theorem sumE_lin {f g : Nat → EF F h} (k : EF F h) : ∀ n, sumE (fun i => f i - k * g i) n = sumE f n - k * sumE g n
  | 0 => by
    show (0 : EF F h) = 0 - k * 0
    grind
  | n + 1 => by
    show sumE (fun i => f i - k * g i) n + (f n - k * g n) = (sumE f n + f n) - k * (sumE g n + g n)
    rw [sumE_lin k n]
    grind
theorem sumE_mul {f : Nat → EF F h} (k : EF F h) : ∀ n, sumE (fun i => k * f i) n = k * sumE f n
  | 0 => by
    show (0 : EF F h) = k * 0
    grind
  | n + 1 => by
    show sumE (fun i => k * f i) n + k * f n = k * (sumE f n + f n)
    rw [sumE_mul k n]
    grind
theorem sumE_zero {f : Nat → EF F h} : ∀ n, (∀ i, i < n → f i = 0) → sumE f n = 0
  | 0, _ => rfl
  | n + 1, e => by
    show sumE f n + f n = 0
    rw [sumE_zero n fun i hi => e i (by omega), e n (by omega)]
    grind
/-- one place is changed -/
theorem sumE_at {f g : Nat → EF F h} {j : Nat} {d : EF F h} (e1 : ∀ i, i ≠ j → f i = g i) (e2 : f j = g j + d) : ∀ n, j < n → sumE f n = sumE g n + d
  | 0, hj => absurd hj (Nat.not_lt_zero _)
  | n + 1, hj => by
    show sumE f n + f n = (sumE g n + g n) + d
    by_cases hn : j = n
    · subst hn
      rw [sumE_congr j fun i hi => e1 i (by omega), e2]
      grind
    · rw [sumE_at e1 e2 n (by omega), e1 n (by omega)]
      grind
def kAt (h : FOK F) (v : List Nat) (i : Nat) : EF F h := kE h (v.getD i 0)
def dotE (h : FOK F) (n : Nat) (r v : List Nat) : EF F h := sumE (fun i => kAt h r i * kAt h v i) n
theorem noz {a b : EF F h} (e : a * b = 0) : a = 0 ∨ b = 0 := by
  by_cases ha : a.v = 0
  · exact .inl (EF.ext ha)
  · by_cases hb : b.v = 0
    · exact .inr (EF.ext hb)
    · have z := (mulF_pos h (a := a.v) (b := b.v) (by omega) (by omega)).2
      have e2 : mulF F a.v b.v = 0 := congrArg EF.v e
      omega
theorem dot_clr {n c : Nat} {r s v : List Nat} (a : RowF F n r) (b : RowF F n s) : dotE h n (clr F c r s) v = dotE h n r v - kAt h r c * dotE h n s v := by
  unfold dotE
  rw [← sumE_lin]
  refine sumE_congr n fun i hi => ?_
  have e : kAt h (clr F c r s) i = kAt h r i - kAt h r c * kAt h s i := by
    unfold kAt
    rw [clr_at a.len b.len hi, kE_sub (a.el.atD h i) (mulF_lt h _ _), kE_mul (a.el.atD h c) (b.el.atD h i)]
  rw [e]
  grind
theorem headF_at {c : Nat} {s : List Nat} {i : Nat} (h : FOK F) (el : El F s) (hc : s.getD c 0 ≠ 0) : kAt h s c * kAt h (headF F c s) i = kAt h s i := by
  unfold kAt headF
  by_cases hi : i < s.length
  · have e : (s.map fun x => divF F x (s.getD c 0)).getD i 0 = divF F (s.getD i 0) (s.getD c 0) := by
      rw [List.getD_eq_getElem?_getD, List.getElem?_map, List.getElem?_eq_getElem hi, List.getD_eq_getElem?_getD (l := s) (i := i), List.getElem?_eq_getElem hi]
      rfl
    rw [e, ← kE_mul (el.atD h c) (divF_lt h _ _), mulF_comm, divF_mul h _ (el.atD h i) _ (el.atD h c) (by omega)]
  · have e : (s.map fun x => divF F x (s.getD c 0)).getD i 0 = 0 := by
      rw [List.getD_eq_getElem?_getD, List.getElem?_map, List.getElem?_eq_none (by omega)]
      rfl
    have e2 : s.getD i 0 = 0 := by
      rw [List.getD_eq_getElem?_getD, List.getElem?_eq_none (by omega)]
      rfl
    rw [e, e2, kE_zero]
    grind
theorem dot_head {n c : Nat} {s v : List Nat} (b : RowF F n s) (hc : s.getD c 0 ≠ 0) : dotE h n s v = kAt h s c * dotE h n (headF F c s) v := by
  unfold dotE
  rw [← sumE_mul]
  refine sumE_congr n fun i _ => ?_
  rw [← headF_at h b.el hc (i := i)]
  grind
theorem kAt_ne {h : FOK F} {s : List Nat} {c : Nat} (el : El F s) (hc : s.getD c 0 ≠ 0) : kAt h s c ≠ 0 := fun e => by
  unfold kAt at e
  rw [← kE_zero] at e
  exact hc (kE_inj (h := h) (el.atD h c) (by have := h.q; omega) e)
structure LIn (h : FOK F) (wide : Nat) (rows0 : List (List Nat)) (c : Nat) (s : LS) : Prop where
  sol : ∀ v, (∀ r ∈ s.rows, dotE h wide r v = 0) → (∀ r ∈ s.left, dotE h wide r v = 0) → ∀ r ∈ rows0, dotE h wide r v = 0
  zer : ∀ r ∈ s.rows, ∀ j, j < c → kAt h r j = 0
  piv : ∀ i, i < s.left.length → kAt h (s.left.getD i []) (s.heads.getD i 0) = 1 ∧ ∀ j, j < s.left.length → j ≠ i → kAt h (s.left.getD j []) (s.heads.getD i 0) = 0
theorem clr_kAt {n c i : Nat} {r s : List Nat} (a : RowF F n r) (b : RowF F n s) (hi : i < n) : kAt h (clr F c r s) i = kAt h r i - kAt h r c * kAt h s i := by
  unfold kAt
  rw [clr_at a.len b.len hi, kE_sub (a.el.atD h i) (mulF_lt h _ _), kE_mul (a.el.atD h c) (b.el.atD h i)]
theorem lsAt_in {wide m c : Nat} {rows0 : List (List Nat)} {s : LS} (hc : c < wide) (o : LSOk F wide m c s) (l : LIn h wide rows0 c s) : LIn h wide rows0 (c + 1) (lsAt F c s) := by
  unfold lsAt
  cases e : pickF c s.rows with
  | nil =>
    refine ⟨l.sol, fun r hr j hj => ?_, l.piv⟩
    by_cases hjc : j < c
    · exact l.zer r hr j hjc
    · have ej : j = c := by omega
      subst ej
      by_cases hz : r.getD j 0 = 0
      · unfold kAt
        rw [hz, kE_zero]
      · have : r ∈ pickF j s.rows := List.mem_filter.mpr ⟨hr, decide_eq_true hz⟩
        rw [e] at this
        cases this
  | cons s0 rest =>
    have hm := pickF_mem (show s0 ∈ pickF c s.rows by rw [e]; exact List.mem_cons_self ..)
    have g0 := o.rows s0 hm.1
    have hh : RowF F wide (headF F c s0) := headF_row h g0
    have hat : ∀ i, kAt h s0 c * kAt h (headF F c s0) i = kAt h s0 i := fun i => headF_at h g0.el hm.2
    have hdot : ∀ v, dotE h wide s0 v = kAt h s0 c * dotE h wide (headF F c s0) v := fun v => dot_head g0 hm.2
    have hne := kAt_ne (h := h) g0.el hm.2
    have canc : ∀ a b : EF F h, kAt h s0 c * a = kAt h s0 c * b → a = b := fun a b q => by
      have z : kAt h s0 c * (a - b) = 0 := by grind
      rcases noz z with z | z
      · exact (hne z).elim
      · grind
    have hc1 : kAt h (headF F c s0) c = 1 := canc _ _ (by rw [hat]; grind)
    have hz0 : ∀ j, j < c → kAt h (headF F c s0) j = 0 := fun j hj => canc _ _ (by rw [hat, l.zer s0 hm.1 j hj]; grind)
    dsimp only
    generalize headF F c s0 = hd at hh hat hdot hc1 hz0 ⊢
    have hlen := o.len
    refine ⟨fun v h1 h2 => ?_, fun r hr j hj => ?_, fun i hi => ?_⟩
    · dsimp only at h1 h2
      have hd0 : dotE h wide hd v = 0 := h2 hd (List.mem_append_right _ (List.mem_singleton.mpr rfl))
      refine l.sol v (fun r hr => ?_) (fun r hr => ?_)
      · by_cases hrs : r = s0
        · rw [hrs, hdot, hd0]
          grind
        · have z := h1 (clr F c r hd) (List.mem_map.mpr ⟨r, List.mem_filter.mpr ⟨hr, decide_eq_true hrs⟩, rfl⟩)
          rw [dot_clr (o.rows r hr) hh, hd0] at z
          grind
      · have z := h2 (clr F c r hd) (List.mem_append_left _ (List.mem_map.mpr ⟨r, hr, rfl⟩))
        rw [dot_clr (o.left r hr) hh, hd0] at z
        grind
    · obtain ⟨r', hr', rfl⟩ := List.mem_map.mp hr
      have hr2 := (List.mem_filter.mp hr').1
      rw [clr_kAt (o.rows r' hr2) hh (by omega)]
      by_cases hjc : j < c
      · rw [l.zer r' hr2 j hjc, hz0 j hjc]
        grind
      · have ej : j = c := by omega
        rw [ej, hc1]
        grind
    · dsimp only at hi ⊢
      have at1 : ∀ j, j < s.left.length → (s.left.map (fun r => clr F c r hd) ++ [hd]).getD j [] = clr F c (s.left.getD j []) hd := fun j hj => by
        rw [List.getD_eq_getElem?_getD, List.getElem?_append_left (by rw [List.length_map]; exact hj), ← List.getD_eq_getElem?_getD, getD_mapL hj]
      have at2 : (s.left.map (fun r => clr F c r hd) ++ [hd]).getD s.left.length [] = hd := by
        rw [List.getD_eq_getElem?_getD, List.getElem?_append_right (by rw [List.length_map]; exact Nat.le_refl _), List.length_map, Nat.sub_self]
        rfl
      have hd1 : ∀ j, j < s.left.length → (s.heads ++ [c]).getD j 0 = s.heads.getD j 0 := fun j hj => by
        rw [List.getD_eq_getElem?_getD, List.getElem?_append_left (by omega), ← List.getD_eq_getElem?_getD]
      have hd2 : (s.heads ++ [c]).getD s.left.length 0 = c := by
        rw [List.getD_eq_getElem?_getD, List.getElem?_append_right (by omega), hlen, Nat.sub_self]
        rfl
      have hlt : ∀ j, j < s.left.length → s.heads.getD j 0 < c := fun j hj => by
        rw [List.getD_eq_getElem?_getD, List.getElem?_eq_getElem (by omega)]
        exact o.hlt _ (List.getElem_mem _)
      have ll : (s.left.map (fun r => clr F c r hd) ++ [hd]).length = s.left.length + 1 := by
        rw [List.length_append, List.length_map]
        rfl
      rw [ll] at hi ⊢
      by_cases his : i < s.left.length
      · have hk := hlt i his
        rw [hd1 i his, at1 i his, clr_kAt (o.left.at his) hh (by omega), (l.piv i his).1, hz0 _ hk]
        refine ⟨by grind, fun j hj hji => ?_⟩
        by_cases hjs : j < s.left.length
        · rw [at1 j hjs, clr_kAt (o.left.at hjs) hh (by omega), (l.piv i his).2 j hjs hji, hz0 _ hk]
          grind
        · have ej : j = s.left.length := by omega
          rw [ej, at2]
          exact hz0 _ hk
      · have ei : i = s.left.length := by omega
        rw [ei, hd2, at2]
        refine ⟨hc1, fun j hj hji => ?_⟩
        rw [at1 j (by omega), clr_kAt (o.left.at (by omega)) hh hc, hc1]
        grind
theorem lsTo_in {wide : Nat} {rows : List (List Nat)} (g : GoodF F wide rows) : ∀ c, c ≤ wide → LIn h wide rows c (lsTo F rows c)
  | 0, _ => ⟨fun v h1 _ => h1, fun r _ j hj => by omega, fun i hi => absurd hi (Nat.not_lt_zero _)⟩
  | c + 1, hc => lsAt_in (by omega) (lsTo_ok h g c) (lsTo_in g c (by omega))
theorem getD_set_eq {xs : List Nat} {j x : Nat} (hj : j < xs.length) : (xs.set j x).getD j 0 = x := by
  rw [List.getD_eq_getElem?_getD, List.getElem?_set_self hj]
  rfl
theorem getD_set_ne {xs : List Nat} {i j x : Nat} (n : i ≠ j) : (xs.set j x).getD i 0 = xs.getD i 0 := by
  rw [List.getD_eq_getElem?_getD, List.getElem?_set_ne (Ne.symm n), ← List.getD_eq_getElem?_getD]
theorem fillN_at (F : Fd) (free : Nat) (heads : List Nat) (left : List (List Nat)) (base : List Nat) {j : Nat} : ∀ i, (∀ k, k < i → heads.getD k 0 ≠ j) → (fillN F free heads left base i).getD j 0 = base.getD j 0
  | 0, _ => rfl
  | i + 1, n => by
    show ((fillN F free heads left base i).set _ _).getD j 0 = _
    rw [getD_set_ne (Ne.symm (n i (by omega)))]
    exact fillN_at F free heads left base i fun k hk => n k (by omega)
theorem dot_set {n j x : Nat} {r v : List Nat} (hj : j < n) (hl : v.length = n) (hz : v.getD j 0 = 0) : dotE h n r (v.set j x) = dotE h n r v + kAt h r j * kE h x := by
  unfold dotE
  refine sumE_at (j := j) (fun i hi => ?_) ?_ n hj
  · unfold kAt
    rw [getD_set_ne hi]
  · unfold kAt
    rw [getD_set_eq (by omega), hz, kE_zero]
    grind
theorem lone_sol {wide : Nat} {rows : List (List Nat)} (h : FOK F) (g : GoodF F wide rows) (hl : rows.length < wide) : (∀ r ∈ rows, dotE h wide r (lone F rows wide) = 0) ∧ ∃ f, f < wide ∧ (lone F rows wide).getD f 0 = 1 := by
  have o := lsTo_ok h g wide
  have l := lsTo_in (h := h) g wide (Nat.le_refl _)
  unfold lone
  generalize lsTo F rows wide = s at o l ⊢
  have hlen := o.len
  have hsum := o.sum
  obtain ⟨f, rest, e1, e2, e3⟩ := freeF_some (wide := wide) (heads := s.heads) (by omega)
  rw [e1]
  show (∀ r ∈ rows, dotE h wide r (fillN F f s.heads s.left _ s.heads.length) = 0) ∧ ∃ g, g < wide ∧ (fillN F f s.heads s.left _ s.heads.length).getD g 0 = 1
  generalize hb : (List.range wide).map (fun c => if c = (f :: rest).getD 0 0 then 1 else 0) = base
  have hbl : base.length = wide := by rw [← hb, List.length_map, List.length_range]
  have hbat : ∀ i, i < wide → base.getD i 0 = if i = f then 1 else 0 := fun i hi => by
    rw [← hb, List.getD_eq_getElem?_getD, List.getElem?_map, List.getElem?_range hi]
    rfl
  have hmem : ∀ i, i < s.left.length → s.heads.getD i 0 ∈ s.heads ∧ s.heads.getD i 0 < wide := fun i hi => by
    have m : s.heads.getD i 0 ∈ s.heads := by
      rw [List.getD_eq_getElem?_getD, List.getElem?_eq_getElem (by omega)]
      exact List.getElem_mem _
    exact ⟨m, o.hlt _ m⟩
  have hdis : ∀ i j, i < s.left.length → j < s.left.length → i ≠ j → s.heads.getD i 0 ≠ s.heads.getD j 0 := fun i j hi hj n e => by
    have z1 := (l.piv i hi).1
    have z2 := (l.piv j hj).2 i hi n
    rw [← e] at z2
    rw [z1] at z2
    have z3 : kE h 1 = kE h 0 := by rw [kE_one, kE_zero]; exact z2
    have := kE_inj (h := h) (by have := h.q; omega) (by have := h.q; omega) z3
    omega
  have hz : ∀ i, i < s.left.length → (fillN F f s.heads s.left base i).getD (s.heads.getD i 0) 0 = 0 := fun i hi => by
    rw [fillN_at F f s.heads s.left base i fun k hk => hdis k i (by omega) hi (by omega), hbat _ (hmem i hi).2, if_neg fun e => e3 (by rw [← e]; exact (hmem i hi).1)]
  have dots : ∀ k, k < s.left.length → ∀ i, i ≤ s.left.length → dotE h wide (s.left.getD k []) (fillN F f s.heads s.left base i) = if i ≤ k then kAt h (s.left.getD k []) f else 0 := fun k hk i => by
    induction i with
    | zero =>
      intro _
      rw [if_pos (Nat.zero_le _)]
      show dotE h wide _ base = _
      have z : dotE h wide (s.left.getD k []) base = sumE (fun _ => 0) wide + kAt h (s.left.getD k []) f := by
        unfold dotE
        have e0 : sumE (fun i => kAt h (s.left.getD k []) i * kAt h base i) wide = sumE (fun i => if i = f then kAt h (s.left.getD k []) f else 0) wide := sumE_congr wide fun i hi => by
          show _ * kE h (base.getD i 0) = _
          rw [hbat i hi]
          by_cases hif : i = f
          · rw [if_pos hif, if_pos hif, kE_one, hif]
            grind
          · rw [if_neg hif, if_neg hif, kE_zero]
            grind
        rw [e0]
        refine sumE_at (j := f) (fun i hi => if_neg hi) ?_ wide e2
        rw [if_pos rfl]
        grind
      rw [z, sumE_zero wide fun _ _ => rfl]
      grind
    | succ i ih =>
      intro hi
      have ih := ih (by omega)
      show dotE h wide _ ((fillN F f s.heads s.left base i).set (s.heads.getD i 0) (subF F 0 ((s.left.getD i []).getD f 0))) = _
      rw [dot_set (hmem i (by omega)).2 (by rw [fillN_len]; exact hbl) (hz i (by omega)), ih]
      by_cases hik : i = k
      · subst hik
        rw [(l.piv i hk).1, if_pos (Nat.le_refl _), if_neg (by omega), kE_sub (by have := h.q; omega) ((o.left.at hk).el.atD h f), kE_zero]
        show kE h _ + _ = _
        grind
      · rw [(l.piv i (by omega)).2 k hk (Ne.symm hik)]
        by_cases hle : i ≤ k
        · rw [if_pos hle, if_pos (by omega)]
          grind
        · rw [if_neg hle, if_neg (by omega)]
          grind
  refine ⟨l.sol _ (fun r hr => ?_) (fun r hr => ?_), f, e2, ?_⟩
  · unfold dotE
    refine sumE_zero wide fun i hi => ?_
    rw [l.zer r hr i hi]
    grind
  · obtain ⟨k, hk, e⟩ := List.getElem_of_mem hr
    have z := dots k hk s.heads.length (by omega)
    rw [if_neg (by omega), List.getD_eq_getElem?_getD, List.getElem?_eq_getElem hk] at z
    rw [← e]
    exact z
  · rw [fillN_at F f s.heads s.left base _ fun k hk e => e3 (by rw [← e]; exact (hmem k (by omega)).1), hbat f e2, if_pos rfl]
end
end TP
/-! part M5 -/
/-! words mended: the pair, the roots, the near ones -/
namespace TP
theorem tb_one (F : Fd) (x : Nat) : tb F 1 x = x := by
  unfold tb
  have e : ((1 - ((1 : Nat) : Int)) % (F.n : Int)).toNat = 0 := by simp
  rw [e]
  rfl
theorem tb_two {F : Fd} (h : FOK F) : ∀ x, x < F.q → tb F 2 (tn F 1 x) = x :=
  h.all (C := fun F => ∀ x, x < F.q → tb F 2 (tn F 1 x) = x) (by decide +kernel) (by decide +kernel) (by decide +kernel) (by decide +kernel)
theorem tn_tb {F : Fd} (h : FOK F) : ∀ x, x < F.q → tn F 1 (tb F 2 x) = x :=
  h.all (C := fun F => ∀ x, x < F.q → tn F 1 (tb F 2 x) = x) (by decide +kernel) (by decide +kernel) (by decide +kernel) (by decide +kernel)
theorem tb_lt {F : Fd} (h : FOK F) {x : Nat} (hx : x < F.q) (k : Nat) : tb F k x < F.q := turF_lt h hx _
/-! ### trimmed lists by their entries -/
theorem endOf_zero (xs : List Nat) : ∀ m, m ≤ xs.length → ∀ i, endOf xs m ≤ i → i < m → xs.getD i 0 = 0
  | 0, _, i, _, h => absurd h (Nat.not_lt_zero _)
  | m + 1, hm, i, h1, h2 => by
    have e : endOf xs (m + 1) = if xs.getD m 0 = 0 then endOf xs m else m + 1 := rfl
    rw [e] at h1
    by_cases hx : xs.getD m 0 = 0
    · rw [if_pos hx] at h1
      by_cases him : i = m
      · rw [him]
        exact hx
      · exact endOf_zero xs m (by omega) i h1 (by omega)
    · rw [if_neg hx] at h1
      omega
theorem getD_out {xs : List Nat} {i : Nat} (h : xs.length ≤ i) : xs.getD i 0 = 0 := by
  rw [List.getD_eq_getElem?_getD, List.getElem?_eq_none h]
  rfl
theorem trim_getD (xs : List Nat) (i : Nat) : (trim xs).getD i 0 = xs.getD i 0 := by
  by_cases hi : i < endOf xs xs.length
  · unfold trim
    rw [List.getD_eq_getElem?_getD, List.getElem?_take_of_lt hi, ← List.getD_eq_getElem?_getD]
  · rw [getD_out (by rw [trim_len]; omega)]
    by_cases hl : i < xs.length
    · exact (endOf_zero xs xs.length (Nat.le_refl _) i (by omega) hl).symm
    · exact (getD_out (by omega)).symm
def Trm (xs : List Nat) : Prop := xs = [] ∨ xs.getD (xs.length - 1) 0 ≠ 0
theorem Trm.len {xs : List Nat} (t : Trm xs) {k : Nat} (h1 : xs.getD k 0 ≠ 0) (h2 : ∀ i, k < i → xs.getD i 0 = 0) : xs.length = k + 1 := by
  have hk : k < xs.length := by
    by_cases hk : k < xs.length
    · exact hk
    · exact (h1 (getD_out (by omega))).elim
  rcases t with e | e
  · rw [e] at hk
    cases hk
  · by_cases hl : k < xs.length - 1
    · exact (e (h2 _ hl)).elim
    · omega
theorem Trm.nil {xs : List Nat} (t : Trm xs) (h : ∀ i, xs.getD i 0 = 0) : xs = [] := by
  rcases t with e | e
  · exact e
  · exact (e (h _)).elim
theorem Trm.le {xs : List Nat} (t : Trm xs) {k : Nat} (h : ∀ i, k ≤ i → xs.getD i 0 = 0) : xs.length ≤ k := by
  rcases t with e | e
  · rw [e]
    exact Nat.zero_le _
  · by_cases hl : k ≤ xs.length - 1
    · exact (e (h _ hl)).elim
    · omega
theorem Trm.ext {xs ys : List Nat} (t : Trm xs) (u : Trm ys) (h : ∀ i, xs.getD i 0 = ys.getD i 0) : xs = ys := by
  have l1 : xs.length ≤ ys.length := t.le fun i hi => by rw [h, getD_out hi]
  have l2 : ys.length ≤ xs.length := u.le fun i hi => by rw [← h, getD_out hi]
  refine List.ext_getElem (by omega) fun i h1 h2 => ?_
  have z := h i
  rw [List.getD_eq_getElem?_getD, List.getElem?_eq_getElem h1, List.getD_eq_getElem?_getD, List.getElem?_eq_getElem h2] at z
  exact z
theorem Trm.trim (xs : List Nat) : Trm (trim xs) := trim_end xs
theorem trm_of {xs : List Nat} (e : trim xs = xs) : Trm xs := by
  rw [← e]
  exact Trm.trim xs
/-! ### all turn sums -/
theorem allTo_of (F : Fd) : ∀ i r, r.length = i → El F r → r ∈ allTo F i
  | 0, r, hl, _ => by
    rw [List.length_eq_zero_iff.mp hl]
    exact List.mem_singleton.mpr rfl
  | i + 1, r, hl, el => by
    have hne : r ≠ [] := fun e => by
      rw [e] at hl
      cases hl
    refine (allMore_mem F (allTo F i) _ (Nat.le_refl _) r).mpr ⟨r.dropLast, r.getLast hne, ?_, el _ (List.getLast_mem hne), (List.dropLast_concat_getLast hne).symm⟩
    rw [List.take_length]
    exact allTo_of F i _ (by rw [List.length_dropLast]; omega) fun x hx => el x (List.dropLast_subset _ hx)
theorem allF_of {F : Fd} (h : FOK F) {m : Nat} {t : List Nat} (e : trim t = t) (hl : t.length ≤ m) (el : El F t) : t ∈ allF F m := by
  refine List.mem_map.mpr ⟨t ++ List.replicate (m - t.length) 0, allTo_of F m _ (by rw [List.length_append, List.length_replicate]; omega) (el.app (El.rep h _)), ?_⟩
  refine (Trm.trim _).ext (trm_of e) fun i => ?_
  rw [trim_getD]
  by_cases hi : i < t.length
  · rw [List.getD_eq_getElem?_getD, List.getElem?_append_left hi, ← List.getD_eq_getElem?_getD]
  · rw [getD_out (xs := t) (by omega), List.getD_eq_getElem?_getD, List.getElem?_append_right (by omega), ← List.getD_eq_getElem?_getD]
    by_cases h2 : i - t.length < m - t.length
    · rw [List.getD_eq_getElem?_getD, List.getElem?_replicate_of_lt h2]
      rfl
    · exact getD_out (by rw [List.length_replicate]; omega)
theorem allF_nodup {F : Fd} (h : FOK F) : (allF F 1).Nodup :=
  h.all (C := fun F => (allF F 1).Nodup) (by decide +kernel) (by decide +kernel) (by decide +kernel) (by decide +kernel)
theorem allF8_nodup : (allF F8 2).Nodup := by decide +kernel
section
variable {F : Fd} {h : FOK F}
/-! ### turned once -/
def phi (a : EF F h) : EF F h := ⟨tn F 1 a.v, tn_lt h a.lt 1⟩
theorem phi_add (a b : EF F h) : phi (a + b) = phi a + phi b := EF.ext (fr_add h _ a.lt _ b.lt)
theorem phi_mul (a b : EF F h) : phi (a * b) = phi a * phi b := EF.ext (fr_mul h _ a.lt _ b.lt)
theorem phi_base {c : EF F h} (hc : Bs c) : phi c = c := EF.ext (fr_base h _ hc)
theorem phi_zero : phi (0 : EF F h) = 0 := phi_base Bs.zero
theorem phi_neg (a : EF F h) : phi (-a) = -phi a := by
  have e : -a = (-1) * a := by grind
  rw [e, phi_mul, phi_base Bs.one.neg]
  grind
theorem phi_sub (a b : EF F h) : phi (a - b) = phi a - phi b := by
  have e : a - b = a + -b := by grind
  rw [e, phi_add, phi_neg]
  grind
theorem kE_tn1 {x : Nat} (hx : x < F.q) : kE h (tn F 1 x) = phi (kE h x) := EF.ext (by
  rw [kE_v (tn_lt h hx 1)]
  show _ = tn F 1 (kE h x).v
  rw [kE_v hx])
theorem phi_inj0 {a : EF F h} (e : phi a = 0) : a = 0 := by
  have e2 : tn F 1 a.v = 0 := congrArg EF.v e
  have z := tb_two h a.v a.lt
  rw [e2] at z
  have z2 : tb F 2 0 = 0 := h.all (C := fun F => tb F 2 0 = 0) (by decide +kernel) (by decide +kernel) (by decide +kernel) (by decide +kernel)
  exact EF.ext (by rw [← z, z2]; rfl)
/-- two free roots: nought -/
theorem two_roots {a b x y : EF F h} (hx : x ≠ 0) (hy : ∀ c, Bs c → y ≠ c * x) (e1 : a * x + b * phi x = 0) (e2 : a * y + b * phi y = 0) : a = 0 ∧ b = 0 := by
  have hd : phi x * y - phi y * x ≠ 0 := fun z => by
    have z2 : phi x * y = phi y * x := by grind
    obtain ⟨c, hc, e⟩ := moore2 h x.v x.lt (by
      have : x.v ≠ 0 := fun q => hx (EF.ext q)
      omega) y.v y.lt (congrArg EF.v z2)
    have hb := Bs.kE (h := h) hc
    refine hy _ hb (EF.ext ?_)
    show y.v = mulF F (kE h c).v x.v
    rw [kE_v (by have := p_lt_q h; omega)]
    exact e
  have z : b * (phi x * y - phi y * x) = 0 := by grind
  have hb : b = 0 := by
    rcases noz z with z | z
    · exact z
    · exact (hd z).elim
  refine ⟨?_, hb⟩
  have z2 : a * x = 0 := by grind
  rcases noz z2 with z | z
  · exact z
  · exact (hx z).elim
/-! ### free points -/
theorem free_at {ps : List Nat} (f : FreeL F ps) (el : El F ps) {i : Nat} (hi : i < ps.length) : ¬ Spn (fstE h ps i) (kAt h ps i) := fun a => f i hi ((spanTo_mem (h := h) el i _ (el.atD h i)).mpr a)
structure Fr3 (x : Nat → EF F h) : Prop where
  a : x 0 ≠ 0
  b : ∀ c, Bs c → x 1 ≠ c * x 0
  c : ∀ c d, Bs c → Bs d → x 2 ≠ c * x 0 + d * x 1
theorem fr3 {ps : List Nat} (f : FreeL F ps) (el : El F ps) (hl : 3 ≤ ps.length) : Fr3 (kAt h ps) := by
  refine ⟨fun e => ?_, fun c hc e => ?_, fun c d hc hd e => ?_⟩
  · refine free_at (h := h) f el (i := 0) (by omega) ?_
    rw [e]
    exact .zero
  · refine free_at (h := h) f el (i := 1) (by omega) ?_
    rw [e]
    exact (Spn.of ⟨0, by omega, rfl⟩).mul hc
  · refine free_at (h := h) f el (i := 2) (by omega) ?_
    rw [e]
    exact ((Spn.of ⟨0, by omega, rfl⟩).mul hc).add ((Spn.of ⟨1, by omega, rfl⟩).mul hd)
/-- what is a multiple of one thing at three free points: nought -/
theorem kill {a b W : EF F h} {x l : Nat → EF F h} (f : Fr3 x) (hl : ∀ i, i < 3 → Bs (l i)) (e : ∀ i, i < 3 → a * x i + b * phi (x i) = l i * W) : a = 0 ∧ b = 0 := by
  have e0 := e 0 (by omega)
  have e1 := e 1 (by omega)
  have e2 := e 2 (by omega)
  have b0 := hl 0 (by omega)
  have b1 := hl 1 (by omega)
  have b2 := hl 2 (by omega)
  by_cases h0 : l 0 = 0
  · by_cases h1 : l 1 = 0
    · exact two_roots f.a f.b (by rw [e0, h0]; grind) (by rw [e1, h1]; grind)
    · have s := b1.sq h1
      have bc : Bs (l 2 * l 1) := b2.mul b1
      refine two_roots (x := x 0) (y := x 2 - (l 2 * l 1) * x 1) f.a (fun c hc q => f.c c (l 2 * l 1) hc bc (by grind)) (by rw [e0, h0]; grind) ?_
      rw [phi_sub, phi_mul, phi_base bc]
      grind
  · have s := b0.sq h0
    have bc : Bs (l 1 * l 0) := b1.mul b0
    have bd : Bs (l 2 * l 0) := b2.mul b0
    refine two_roots (x := x 1 - (l 1 * l 0) * x 0) (y := x 2 - (l 2 * l 0) * x 0) (fun q => f.b _ bc (by grind)) (fun c hc q => f.c (l 2 * l 0 - c * (l 1 * l 0)) c (bd.sub (hc.mul bc)) hc (by grind)) ?_ ?_
    · rw [phi_sub, phi_mul, phi_base bc]
      grind
    · rw [phi_sub, phi_mul, phi_base bd]
      grind
/-! ### ranks 0 and 1 -/
theorem rk0 {g : List Nat} : ∀ i, rkTo F g i = 0 → spanTo F g i = [0]
  | 0, _ => rfl
  | i + 1, e => by
    have e1 : rkTo F g (i + 1) = if g.getD i 0 ∈ spanTo F g i then rkTo F g i else rkTo F g i + 1 := rfl
    rw [e1] at e
    by_cases hm : g.getD i 0 ∈ spanTo F g i
    · rw [if_pos hm] at e
      show spanStep F (spanTo F g i) (g.getD i 0) = _
      unfold spanStep
      rw [if_pos hm]
      exact rk0 i e
    · rw [if_neg hm] at e
      omega
theorem rk1 {g : List Nat} (h : FOK F) (el : El F g) : ∀ i, rkTo F g i ≤ 1 → ∃ y : EF F h, ∀ x, x ∈ spanTo F g i → ∃ c, Bs c ∧ kE h x = c * y
  | 0, _ => ⟨0, fun x hx => ⟨0, Bs.zero, by rw [List.mem_singleton.mp hx, kE_zero]; grind⟩⟩
  | i + 1, e => by
    have e1 : rkTo F g (i + 1) = if g.getD i 0 ∈ spanTo F g i then rkTo F g i else rkTo F g i + 1 := rfl
    rw [e1] at e
    show ∃ y : EF F h, ∀ x, x ∈ spanStep F (spanTo F g i) (g.getD i 0) → _
    unfold spanStep
    by_cases hm : g.getD i 0 ∈ spanTo F g i
    · rw [if_pos hm] at e
      rw [if_pos hm]
      exact rk1 h el i e
    · rw [if_neg hm] at e
      rw [if_neg hm, rk0 i (by omega)]
      refine ⟨kE h (g.getD i 0), fun x hx => ?_⟩
      obtain ⟨c, hc, o, ho, ex⟩ := (spanMore_mem _ _ _ _).mp hx
      rw [List.mem_singleton.mp ho] at ex
      refine ⟨kE h c, Bs.kE hc, ?_⟩
      rw [ex, kE_lplus (by have := h.q; omega) (el.atD h i) hc, kE_zero]
      grind
theorem mem_span {g : List Nat} (h : FOK F) (el : El F g) {i : Nat} (hi : i < g.length) : g.getD i 0 ∈ spanTo F g g.length :=
  (spanTo_mem (h := h) el _ _ (el.atD h i)).mpr (.of ⟨i, hi, rfl⟩)
/-! ### worths -/
theorem wor2 {t : List Nat} {x : Nat} (el : El F t) (hl : t.length ≤ 2) (hx : x < F.q) : kE h (worF F t x) = kAt h t 0 * kE h x + kAt h t 1 * phi (kE h x) := by
  have q := h.q
  unfold worF
  match t, el, hl with
  | [], _, _ =>
    show kE h 0 = kE h 0 * _ + kE h 0 * _
    rw [kE_zero]
    grind
  | [a], el, _ =>
    have ha := el a (List.mem_cons_self ..)
    show kE h (addF F 0 (mulF F a (tn F 0 x))) = kE h a * _ + kE h 0 * _
    rw [kE_add (by omega) (mulF_lt h _ _), fr_zero h, kE_mul ha hx, kE_zero]
    grind
  | [a, b], el, _ =>
    have ha := el a (List.mem_cons_self ..)
    have hb := el b (List.mem_cons_of_mem _ (List.mem_cons_self ..))
    show kE h (addF F (addF F 0 (mulF F a (tn F 0 x))) (mulF F b (tn F 1 x))) = kE h a * _ + kE h b * _
    rw [kE_add (addF_lt h (by omega) (mulF_lt h _ _)) (mulF_lt h _ _), kE_add (by omega) (mulF_lt h _ _), fr_zero h, kE_mul ha hx, kE_mul hb (tn_lt h hx 1), kE_tn1 hx, kE_zero]
    grind
  | a :: b :: c :: t, _, hl => exact absurd hl (by simp)
theorem dif_at {w t ps : List Nat} (hw : El F w) (ht : El F t) (hl : t.length ≤ 2) (hp : El F ps) (hlen : w.length = ps.length) {i : Nat} (hi : i < ps.length) : kAt h (difF F w (wordF F t ps)) i = kAt h w i - (kAt h t 0 * kAt h ps i + kAt h t 1 * phi (kAt h ps i)) := by
  have e : (wordF F t ps).getD i 0 = worF F t (ps.getD i 0) := by
    unfold wordF
    rw [List.getD_eq_getElem?_getD, List.getElem?_map, List.getElem?_eq_getElem hi, List.getD_eq_getElem?_getD, List.getElem?_eq_getElem hi]
    rfl
  have e2 : (difF F w (wordF F t ps)).getD i 0 = subF F (w.getD i 0) ((wordF F t ps).getD i 0) := zipW_getD (f := fun x y => subF F x y) (by omega) (by unfold wordF; rw [List.length_map]; exact hi)
  show kE h _ = _
  rw [e2, e, kE_sub (hw.atD h i) (worF_lt h _ _), wor2 ht hl (hp.atD h i)]
  rfl
end
end TP
/-! part M6 -/
/-! dividing from the outside; the near ones -/
namespace TP
section
variable {F : Fd} {h : FOK F}
theorem kAt_getD0 {xs : List Nat} {i : Nat} (el : El F xs) : kAt h xs i = 0 ↔ xs.getD i 0 = 0 := by
  constructor
  · intro e
    unfold kAt at e
    rw [← kE_zero] at e
    exact kE_inj (h := h) (el.atD h i) (by have := h.q; omega) e
  · intro e
    unfold kAt
    rw [e, kE_zero]
theorem kAt_out {xs : List Nat} {i : Nat} (hi : xs.length ≤ i) : kAt h xs i = 0 := by
  unfold kAt
  rw [getD_out hi, kE_zero]
theorem kAt_trim (xs : List Nat) (i : Nat) : kAt h (trim xs) i = kAt h xs i := by
  unfold kAt
  rw [trim_getD]
theorem ext_kAt {xs ys : List Nat} (ex : El F xs) (ey : El F ys) (tx : Trm xs) (ty : Trm ys) (e : ∀ i, kAt h xs i = kAt h ys i) : xs = ys :=
  tx.ext ty fun i => kE_inj (h := h) (ex.atD h i) (ey.atD h i) (e i)
/-- the next rest, by entries -/
theorem nextR_at {rest V : List Nat} (er : El F rest) (hl : V.length ≤ rest.length) (i : Nat) : kAt h (nextR F rest V) i = kAt h rest i - (if i < rest.length - V.length then 0 else kE h ((takenF F V (factF F rest V)).getD (i - (rest.length - V.length)) 0)) := by
  have hq := h.q
  have hd : (List.replicate (rest.length - V.length) 0 ++ takenF F V (factF F rest V)).length = rest.length := by
    rw [List.length_append, List.length_replicate, takenF_len]
    omega
  have el0 : El F (List.replicate (rest.length - V.length) 0 ++ takenF F V (factF F rest V)) := (El.rep h _).app (takenF_el h _ _)
  have hat : ∀ j, (List.replicate (rest.length - V.length) 0 ++ takenF F V (factF F rest V)).getD j 0 = if j < rest.length - V.length then 0 else (takenF F V (factF F rest V)).getD (j - (rest.length - V.length)) 0 := fun j => by
    by_cases hj : j < rest.length - V.length
    · rw [if_pos hj, List.getD_eq_getElem?_getD, List.getElem?_append_left (by rw [List.length_replicate]; exact hj), List.getElem?_replicate_of_lt hj]
      rfl
    · rw [if_neg hj, List.getD_eq_getElem?_getD, List.getElem?_append_right (by rw [List.length_replicate]; omega), List.length_replicate, ← List.getD_eq_getElem?_getD]
  have ek : kE h ((List.replicate (rest.length - V.length) 0 ++ takenF F V (factF F rest V)).getD i 0) = (if i < rest.length - V.length then 0 else kE h ((takenF F V (factF F rest V)).getD (i - (rest.length - V.length)) 0)) := by
    rw [hat]
    split
    · exact kE_zero
    · rfl
  rw [← ek]
  unfold nextR lessT sumT
  generalize List.replicate (rest.length - V.length) 0 ++ takenF F V (factF F rest V) = o at hd el0
  have hnl : (negT F o).length = o.length := List.length_map ..
  rw [if_pos (by omega)]
  unfold sumL
  rw [kAt_trim]
  have hng : ∀ j, j < o.length → (negT F o).getD j 0 = subF F 0 (o.getD j 0) := fun j hj => by
    unfold negT
    rw [List.getD_eq_getElem?_getD, List.getElem?_map, List.getElem?_eq_getElem hj, List.getD_eq_getElem?_getD, List.getElem?_eq_getElem hj]
    rfl
  have hdr : rest.drop (negT F o).length = [] := List.drop_eq_nil_of_le (by omega)
  rw [hdr, List.append_nil]
  by_cases hi : i < rest.length
  · have e1 : ((List.range (negT F o).length).map fun i => addF F (rest.getD i 0) ((negT F o).getD i 0)).getD i 0 = addF F (rest.getD i 0) (subF F 0 (o.getD i 0)) := by
      rw [← hng i (by omega), List.getD_eq_getElem?_getD, List.getElem?_map, List.getElem?_range (by omega)]
      rfl
    show kE h _ = kE h _ - _
    rw [e1, kE_add (er.atD h i) (subF_lt h (by omega)), kE_sub (by omega) (el0.atD h i), kE_zero]
    grind
  · rw [kAt_out (by rw [List.length_map, List.length_range]; omega), kAt_out (xs := rest) (by omega), getD_out (xs := o) (by omega), kE_zero]
    grind
theorem taken0 {V : List Nat} {f : Nat} (ev : El F V) (hf : f < F.q) (hl : 1 ≤ V.length) : kE h ((takenF F V f).getD 0 0) = kAt h V 0 * kE h f := by
  unfold takenF
  rw [List.getD_eq_getElem?_getD, List.getElem?_map, List.getElem?_range (by omega)]
  show kE h (mulF F (V.getD 0 0) (tn F 0 f)) = _
  rw [fr_zero h, kE_mul (ev.atD h 0) hf]
  rfl
theorem taken1 {V : List Nat} {f : Nat} (ev : El F V) (hf : f < F.q) (hl : 2 ≤ V.length) : kE h ((takenF F V f).getD 1 0) = kAt h V 1 * phi (kE h f) := by
  unfold takenF
  rw [List.getD_eq_getElem?_getD, List.getElem?_map, List.getElem?_range (by omega)]
  show kE h (mulF F (V.getD 1 0) (tn F 1 f)) = _
  rw [kE_mul (ev.atD h 1) (tn_lt h hf 1), kE_tn1 hf]
  rfl
theorem takenX {V : List Nat} {f i : Nat} (hi : V.length ≤ i) : kE h ((takenF F V f).getD i 0) = 0 := by
  rw [getD_out (by rw [takenF_len]; exact hi), kE_zero]
theorem divF_kE {a b : Nat} (ha : a < F.q) (hb : b < F.q) (n : b ≠ 0) : kE h (divF F a b) * kE h b = kE h a := by
  rw [← kE_mul (divF_lt h a b) hb, divF_mul h a ha b hb (by omega)]
theorem factF_lt {rest V : List Nat} (h : FOK F) : factF F rest V < F.q := tb_lt h (divF_lt h _ _) _
theorem cancel {a b c : EF F h} (n : c ≠ 0) (e : a * c = b * c) : a = b := by
  have z : (a - b) * c = 0 := by grind
  rcases noz z with z | z
  · grind
  · exact (n z).elim
theorem fact1 {rest V : List Nat} (er : El F rest) (ev : El F V) (hl : V.length = 1) (n : V.getD 0 0 ≠ 0) : kE h (factF F rest V) * kAt h V 0 = kAt h rest (rest.length - 1) := by
  unfold factF
  rw [hl, tb_one]
  exact divF_kE (er.atD h _) (ev.atD h 0) n
theorem fact2 {rest V : List Nat} (er : El F rest) (ev : El F V) (hl : V.length = 2) (n : V.getD 1 0 ≠ 0) : phi (kE h (factF F rest V)) * kAt h V 1 = kAt h rest (rest.length - 1) := by
  unfold factF
  rw [hl, ← kE_tn1 (tb_lt h (divF_lt h _ _) _), tn_tb h _ (divF_lt h _ _)]
  exact divF_kE (er.atD h _) (ev.atD h 1) n
/-- a divisor of one or two elements -/
structure Dv (F : Fd) (V : List Nat) : Prop where
  el : El F V
  l1 : 1 ≤ V.length
  l2 : V.length ≤ 2
  tp : V.getD (V.length - 1) 0 ≠ 0
theorem nextR_trm (F : Fd) (rest V : List Nat) : Trm (nextR F rest V) := by
  unfold nextR lessT sumT
  split
  · exact Trm.trim _
  · exact Trm.trim _
theorem nextR_el {rest V : List Nat} (h : FOK F) (er : El F rest) : El F (nextR F rest V) := lessT_el h er
/-- the head goes -/
theorem nextR_len {rest V : List Nat} (h : FOK F) (er : El F rest) (dv : Dv F V) (hl : V.length ≤ rest.length) : (nextR F rest V).length ≤ rest.length - 1 := by
  refine (nextR_trm F rest V).le fun i hi => ?_
  refine (kAt_getD0 (h := h) (nextR_el h er)).mp ?_
  rw [nextR_at er hl i]
  have d1 := dv.l1
  have d2 := dv.l2
  rw [if_neg (by omega)]
  by_cases hi2 : rest.length ≤ i
  · rw [kAt_out hi2, takenX (by omega)]
    grind
  · have ei : i = rest.length - 1 := by omega
    have ej : i - (rest.length - V.length) = V.length - 1 := by omega
    rw [ej, ei]
    have tp := dv.tp
    have : V.length = 1 ∨ V.length = 2 := by omega
    rcases this with z | z
    · rw [z] at tp
      have e1 : V.length - 1 = 0 := by omega
      rw [e1, taken0 dv.el (factF_lt h) d1]
      have q := fact1 (h := h) er dv.el z tp
      grind
    · rw [z] at tp
      have e1 : V.length - 1 = 1 := by omega
      rw [e1, taken1 dv.el (factF_lt h) (by omega)]
      have q := fact2 (h := h) er dv.el z tp
      grind
theorem fact_ne {rest V : List Nat} (h : FOK F) (er : El F rest) (dv : Dv F V) (n : rest.getD (rest.length - 1) 0 ≠ 0) : factF F rest V ≠ 0 := fun e => by
  have d1 := dv.l1
  have d2 := dv.l2
  have tp := dv.tp
  have nz : kAt h rest (rest.length - 1) ≠ 0 := fun z => n ((kAt_getD0 er).mp z)
  have : V.length = 1 ∨ V.length = 2 := by omega
  rcases this with z | z
  · rw [z] at tp
    have q := fact1 (h := h) er dv.el z tp
    rw [e, kE_zero] at q
    exact nz (by rw [← q]; grind)
  · rw [z] at tp
    have q := fact2 (h := h) er dv.el z tp
    rw [e, kE_zero, phi_zero] at q
    exact nz (by rw [← q]; grind)
/-- it ends; the quotient's far elements stay -/
theorem outGo_end {V : List Nat} (h : FOK F) (dv : Dv F V) : ∀ n rest quot, rest.length < n → El F rest → ∃ q r, outGo F V n rest quot = some (q, r) ∧ q.length = quot.length ∧ ∀ i, rest.length + 1 - V.length ≤ i → q.getD i 0 = quot.getD i 0
  | 0, _, _, hn, _ => absurd hn (Nat.not_lt_zero _)
  | n + 1, rest, quot, hn, er => by
    unfold outGo
    by_cases hl : V.length ≤ rest.length
    · rw [if_pos hl]
      have d1 := dv.l1
      have z := nextR_len h er dv hl
      obtain ⟨q, r, e1, e2, e3⟩ := outGo_end h dv n (nextR F rest V) (quot.set (rest.length - V.length) (factF F rest V)) (by omega) (nextR_el h er)
      refine ⟨q, r, e1, by rw [e2, List.length_set], fun i hi => ?_⟩
      rw [e3 i (by omega), getD_set_ne (by omega)]
    · rw [if_neg hl]
      exact ⟨quot, rest, rfl, rfl, fun _ _ => rfl⟩
/-- what is told is trimmed -/
theorem outF_trm {N V : List Nat} (h : FOK F) (dv : Dv F V) (en : El F N) (tN : Trm N) (hN : N.length ≤ 13) : ∃ q r, outF F N V = some (q, r) ∧ Trm q := by
  have d1 := dv.l1
  have d2 := dv.l2
  have tp := dv.tp
  have hc : 0 < V.length ∧ V.length ≤ 13 ∧ N.length ≤ 13 ∧ 0 < V.getD (V.length - 1) 0 := ⟨by omega, by omega, hN, by omega⟩
  unfold outF
  rw [if_pos hc]
  by_cases hl : V.length ≤ N.length
  · have z := nextR_len h en dv hl
    obtain ⟨q, r, e1, e2, e3⟩ := outGo_end h dv 19 (nextR F N V) ((List.replicate (N.length + 1 - V.length) 0).set (N.length - V.length) (factF F N V)) (by omega) (nextR_el h en)
    refine ⟨q, r, ?_, .inr ?_⟩
    · unfold outGo
      rw [if_pos hl]
      exact e1
    · rw [e2, List.length_set, List.length_replicate, e3 _ (by omega)]
      have ei : N.length + 1 - V.length - 1 = N.length - V.length := by omega
      rw [ei, getD_set_eq (by rw [List.length_replicate]; omega)]
      refine fact_ne h en dv ?_
      rcases tN with t | t
      · rw [t] at hl
        have : ([] : List Nat).length = 0 := rfl
        omega
      · exact t
  · refine ⟨List.replicate (N.length + 1 - V.length) 0, N, ?_, .inl ?_⟩
    · unfold outGo
      rw [if_neg hl]
    · have : N.length + 1 - V.length = 0 := by omega
      rw [this]
      rfl
/-- a divisor of one element -/
theorem div_one {V : List Nat} (h : FOK F) (dv : Dv F V) (hV : V.length = 1) {rest t : List Nat} (er : El F rest) (et : El F t) (tr : Trm rest) (tt : Trm t) (hl : t.length ≤ 1) (e : ∀ i, kAt h rest i = kAt h V 0 * kAt h t i) (n : Nat) (quot : List Nat) :
    outGo F V (n + 2) rest quot = some (if t = [] then quot else quot.set 0 (t.getD 0 0), []) := by
  have tp := dv.tp
  rw [hV] at tp
  have hv0 : kAt h V 0 ≠ 0 := fun z => tp ((kAt_getD0 dv.el).mp z)
  have zer : ∀ i, kAt h t i = 0 → rest.getD i 0 = 0 := fun i z => (kAt_getD0 (h := h) er).mp (by rw [e, z]; grind)
  by_cases ht : t = []
  · have hr : rest = [] := tr.nil fun i => zer i (by rw [ht]; exact kAt_out (Nat.zero_le _))
    rw [if_pos ht, hr]
    unfold outGo
    rw [if_neg (by rw [hV]; exact Nat.not_succ_le_zero 0)]
  · have tl : t.length = 1 := by
      have : t.length ≠ 0 := fun z => ht (List.length_eq_zero_iff.mp z)
      omega
    have t0 : t.getD 0 0 ≠ 0 := by
      rcases tt with z | z
      · exact (ht z).elim
      · rw [tl] at z
        exact z
    have kt0 : kAt h t 0 ≠ 0 := fun z => t0 ((kAt_getD0 et).mp z)
    have r0 : rest.getD 0 0 ≠ 0 := fun z => by
      have z2 := (kAt_getD0 (h := h) er).mpr z
      rw [e] at z2
      rcases noz z2 with z3 | z3
      · exact hv0 z3
      · exact kt0 z3
    have rl : rest.length = 1 := tr.len r0 fun i hi => zer i (kAt_out (by omega))
    have hf : factF F rest V = t.getD 0 0 := by
      refine kE_inj (h := h) (factF_lt h) (et.atD h 0) (cancel hv0 ?_)
      rw [fact1 er dv.el hV tp, rl, e]
      show _ * kE h _ = kE h _ * _
      grind
    have hn : nextR F rest V = [] := by
      refine (nextR_trm F rest V).nil fun i => (kAt_getD0 (h := h) (nextR_el h er)).mp ?_
      rw [nextR_at er (by omega) i, if_neg (by omega), hf, e]
      by_cases hi : i = 0
      · have ei : i - (rest.length - V.length) = 0 := by omega
        rw [ei, taken0 dv.el (et.atD h 0) (by omega), hi]
        show _ * kE h _ - _ = _
        grind
      · rw [kAt_out (xs := t) (by omega), takenX (by omega)]
        grind
    rw [if_neg ht]
    unfold outGo
    rw [if_pos (by omega), hn, hf]
    have e0 : rest.length - V.length = 0 := by omega
    rw [e0]
    unfold outGo
    rw [if_neg (by rw [hV]; exact Nat.not_succ_le_zero 0)]
/-- N is V of t: t is told -/
theorem outF_of {N V t : List Nat} (h : FOK F) (dv : Dv F V) (en : El F N) (tN : Trm N) (et : El F t) (tt : Trm t) (hl : t.length ≤ 2) (hv : V.length = 1 ∨ t.length ≤ 1)
    (e0 : kAt h N 0 = kAt h V 0 * kAt h t 0) (e1 : kAt h N 1 = kAt h V 0 * kAt h t 1 + kAt h V 1 * phi (kAt h t 0)) (eX : ∀ i, 2 ≤ i → kAt h N i = 0) : outF F N V = some (t, []) := by
  have d1 := dv.l1
  have d2 := dv.l2
  have tp := dv.tp
  have nN : ∀ i, kAt h N i = 0 → N.getD i 0 = 0 := fun i z => (kAt_getD0 (h := h) en).mp z
  have hNl : N.length ≤ 2 := tN.le fun i hi => nN i (eX i hi)
  have hc : 0 < V.length ∧ V.length ≤ 13 ∧ N.length ≤ 13 ∧ 0 < V.getD (V.length - 1) 0 := ⟨by omega, by omega, by omega, by omega⟩
  unfold outF
  rw [if_pos hc]
  by_cases hV : V.length = 1
  · rw [hV] at tp
    have hv0 : kAt h V 0 ≠ 0 := fun z => tp ((kAt_getD0 dv.el).mp z)
    have hv1 : kAt h V 1 = 0 := kAt_out (by omega)
    have e1' : kAt h N 1 = kAt h V 0 * kAt h t 1 := by rw [e1, hv1]; grind
    by_cases ht : t.length ≤ 1
    · have eA : ∀ i, kAt h N i = kAt h V 0 * kAt h t i := fun i => by
        by_cases hi0 : i = 0
        · rw [hi0, e0]
        · by_cases hi1 : i = 1
          · rw [hi1, e1']
          · rw [eX i (by omega), kAt_out (xs := t) (by omega)]
            grind
      rw [div_one h dv hV en et tN tt ht eA 18]
      by_cases hn : t = []
      · rw [if_pos hn, hn]
        have nl : N.length = 0 := by
          have : N = [] := tN.nil fun i => nN i (by rw [eA, hn, kAt_out (xs := []) (Nat.zero_le _)]; grind)
          rw [this]
          rfl
        have : N.length + 1 - V.length = 0 := by omega
        rw [this]
        rfl
      · rw [if_neg hn]
        have tl : t.length = 1 := by
          have : t.length ≠ 0 := fun z => hn (List.length_eq_zero_iff.mp z)
          omega
        match t, tl with
        | [a], _ =>
          have a0 : a ≠ 0 := by
            rcases tt with z | z
            · cases z
            · exact z
          have nl : N.length = 1 := tN.len (k := 0) (fun z => by
            have z2 := (kAt_getD0 (h := h) en).mpr z
            rw [e0] at z2
            rcases noz z2 with z3 | z3
            · exact hv0 z3
            · exact a0 ((kAt_getD0 (h := h) (xs := [a]) et).mp z3)) fun i hi => nN i (by
              by_cases hi1 : i = 1
              · rw [hi1, e1', kAt_out (xs := [a]) (i := 1) (Nat.le_refl _)]
                grind
              · exact eX i (by omega))
          have : N.length + 1 - V.length = 1 := by omega
          rw [this]
          rfl
    · have tl : t.length = 2 := by omega
      match t, tl with
      | [a, b], _ =>
        have b0 : b ≠ 0 := by
          rcases tt with z | z
          · cases z
          · exact z
        have ea : a < F.q := et a (List.mem_cons_self ..)
        have eb : b < F.q := et b (List.mem_cons_of_mem _ (List.mem_cons_self ..))
        have ka : kAt h [a, b] 0 = kE h a := rfl
        have kb : kAt h [a, b] 1 = kE h b := rfl
        have nl : N.length = 2 := tN.len (k := 1) (fun z => by
          have z2 := (kAt_getD0 (h := h) en).mpr z
          rw [e1'] at z2
          rcases noz z2 with z3 | z3
          · exact hv0 z3
          · exact b0 ((kAt_getD0 (h := h) (xs := [a, b]) et).mp z3)) fun i hi => nN i (eX i (by omega))
        have hf : factF F N V = b := by
          refine kE_inj (h := h) (factF_lt h) eb (cancel hv0 ?_)
          rw [fact1 en dv.el hV tp, nl, e1', kb]
          grind
        have enx := nextR_el (V := V) h en
        have hnx : ∀ i, kAt h (nextR F N V) i = kAt h V 0 * kAt h (trim [a]) i := fun i => by
          rw [nextR_at en (by omega) i, hf, kAt_trim]
          by_cases hi0 : i = 0
          · rw [hi0, if_pos (by omega), e0, ka]
            show _ - 0 = kAt h V 0 * kE h a
            grind
          · rw [if_neg (by omega), kAt_out (xs := [a]) (by show 1 ≤ i; omega)]
            by_cases hi1 : i = 1
            · have ei : i - (N.length - V.length) = 0 := by omega
              rw [ei, taken0 dv.el eb d1, hi1, e1', kb]
              grind
            · rw [eX i (by omega), takenX (by omega)]
              grind
        have e00 : N.length - V.length = 1 := by omega
        have e01 : N.length + 1 - V.length = 2 := by omega
        unfold outGo
        rw [if_pos (by omega), hf, e00, e01, div_one h dv hV enx (El.trim (fun x hx => by rw [List.mem_singleton.mp hx]; exact ea)) (nextR_trm F N V) (Trm.trim _) (trim_le [a]) hnx 17]
        by_cases ha : a = 0
        · rw [ha]
          rfl
        · have et1 : trim [a] = [a] := trim_id (.inr ha)
          rw [et1, if_neg (List.cons_ne_nil _ _)]
          rfl
  · have hV2 : V.length = 2 := by omega
    rw [hV2] at tp
    have ht : t.length ≤ 1 := by omega
    have hv1 : kAt h V 1 ≠ 0 := fun z => tp ((kAt_getD0 dv.el).mp z)
    have ht1 : kAt h t 1 = 0 := kAt_out ht
    have e1' : kAt h N 1 = kAt h V 1 * phi (kAt h t 0) := by rw [e1, ht1]; grind
    by_cases hn : t = []
    · have hNn : N = [] := tN.nil fun i => nN i (by
        have z0 : kAt h t 0 = 0 := by rw [hn]; exact kAt_out (Nat.le_refl _)
        by_cases hi0 : i = 0
        · rw [hi0, e0, z0]
          grind
        · by_cases hi1 : i = 1
          · rw [hi1, e1', z0, phi_zero]
            grind
          · exact eX i (by omega))
      rw [hNn, hn, hV2]
      unfold outGo
      rw [if_neg (by rw [hV2]; exact Nat.not_succ_le_zero 1)]
      rfl
    · have tl : t.length = 1 := by
        have : t.length ≠ 0 := fun z => hn (List.length_eq_zero_iff.mp z)
        omega
      match t, tl with
      | [a], _ =>
        have a0 : a ≠ 0 := by
          rcases tt with z | z
          · cases z
          · exact z
        have ea : a < F.q := et a (List.mem_cons_self ..)
        have ka : kAt h [a] 0 = kE h a := rfl
        have ka0 : kE h a ≠ 0 := fun z => a0 ((kAt_getD0 (h := h) (xs := [a]) (i := 0) et).mp z)
        have nl : N.length = 2 := tN.len (k := 1) (fun z => by
          have z2 := (kAt_getD0 (h := h) en).mpr z
          rw [e1'] at z2
          rcases noz z2 with z3 | z3
          · exact hv1 z3
          · exact ka0 (phi_inj0 z3)) fun i hi => nN i (eX i (by omega))
        have hf : factF F N V = a := by
          refine kE_inj (h := h) (factF_lt h) ea ?_
          have z : phi (kE h (factF F N V)) = phi (kE h a) := cancel hv1 (by
            rw [fact2 en dv.el hV2 tp, nl, e1', ka]
            grind)
          have z2 : kE h (factF F N V) - kE h a = 0 := phi_inj0 (by rw [phi_sub, z]; grind)
          grind
        have hnx : nextR F N V = [] := by
          refine (nextR_trm F N V).nil fun i => (kAt_getD0 (h := h) (nextR_el h en)).mp ?_
          rw [nextR_at en (by omega) i, if_neg (by omega), hf]
          have ei : i - (N.length - V.length) = i := by omega
          rw [ei]
          by_cases hi0 : i = 0
          · rw [hi0, taken0 dv.el ea d1, e0, ka]
            grind
          · by_cases hi1 : i = 1
            · rw [hi1, taken1 dv.el ea (by omega), e1', ka]
              grind
            · rw [eX i (by omega), takenX (by omega)]
              grind
        have e00 : N.length - V.length = 0 := by omega
        have e01 : N.length + 1 - V.length = 1 := by omega
        unfold outGo
        rw [if_pos (by omega), hf, e00, e01, hnx]
        unfold outGo
        rw [if_neg (by rw [hV2]; exact Nat.not_succ_le_zero 1)]
        rfl
end
end TP
/-! part M7 -/
/-! what the law asks of one word -/
namespace TP
section
variable {F : Fd} {h : FOK F}
/-- a pair's four numbers -/
structure Pr (h : FOK F) (ps : List Nat) (m : Nat) (word V N : List Nat) : Prop where
  ev : El F V
  en : El F N
  tv : Trm V
  tn : Trm N
  vl : V.length ≤ rch ps m + 1
  nl : N.length ≤ 2
  eq : ∀ j, j < mrows ps m → kAt h V 0 * kAt h word j + kAt h V 1 * phi (kAt h word j) = kAt h N 0 * kAt h ps j + kAt h N 1 * phi (kAt h ps j)
  nz : ¬ (kAt h V 0 = 0 ∧ kAt h V 1 = 0 ∧ kAt h N 0 = 0 ∧ kAt h N 1 = 0)
theorem getD_take {xs : List Nat} {k i : Nat} (hi : i < k) : (xs.take k).getD i 0 = xs.getD i 0 := by
  rw [List.getD_eq_getElem?_getD, List.getElem?_take_of_lt hi, ← List.getD_eq_getElem?_getD]
theorem getD_drop {xs : List Nat} {k i : Nat} : (xs.drop k).getD i 0 = xs.getD (k + i) 0 := by
  rw [List.getD_eq_getElem?_getD, List.getElem?_drop, ← List.getD_eq_getElem?_getD]
theorem neg_tn {x i : Nat} (hx : x < F.q) : kE h (subF F 0 (tn F i x)) = -(kE h (tn F i x)) := by
  rw [kE_sub (by have := h.q; omega) (tn_lt h hx i), kE_zero]
  grind
theorem pair_ok {ps : List Nat} {m : Nat} {word : List Nat} (b : Bk F ps m) (hw : El F word) (hlen : word.length = ps.length) (hr : (m = 1 ∧ rch ps m = 1) ∨ (m = 2 ∧ rch ps m = 0)) : Pr b.ok ps m word (pV F ps m word) (pN F ps m word) := by
  have h := b.ok
  have hle := mrows_le b.ml
  have hrow := lone_row h (prows F ps m word) (mrows ps m + 1)
  have good : GoodF F (mrows ps m + 1) (prows F ps m word) := fun r hr => by
    obtain ⟨i, hi, rfl⟩ := List.mem_map.mp hr
    exact prow_row b _ (hw.atD h i)
  have hpl : (prows F ps m word).length = mrows ps m := by unfold prows; rw [List.length_map, List.length_range]
  obtain ⟨s1, f, hf, s2⟩ := lone_sol h good (by omega)
  have sol : ∀ j, j < mrows ps m → dotE h (mrows ps m + 1) (prow F ps m (ps.getD j 0) (word.getD j 0)) (lone F (prows F ps m word) (mrows ps m + 1)) = 0 := fun j hj => s1 _ (List.mem_map.mpr ⟨j, List.mem_range.mpr hj, rfl⟩)
  unfold pV pN psol
  generalize lone F (prows F ps m word) (mrows ps m + 1) = v at hrow sol s2
  have hvl := hrow.len
  have one_ne : kAt h v f = 0 → False := fun z => by
    unfold kAt at z
    rw [s2, ← kE_zero] at z
    have := kE_inj (h := h) (x := 1) (y := 0) (by have := h.q; omega) (by have := h.q; omega) z
    omega
  have atV : ∀ i, i < rch ps m + 1 → kAt h (trim (v.take (rch ps m + 1))) i = kAt h v i := fun i hi => by
    rw [kAt_trim]
    unfold kAt
    rw [getD_take hi]
  have atN : ∀ i, kAt h (trim (v.drop (rch ps m + 1))) i = kAt h v (rch ps m + 1 + i) := fun i => by
    rw [kAt_trim]
    unfold kAt
    rw [getD_drop]
  have lv : (trim (v.take (rch ps m + 1))).length ≤ rch ps m + 1 := Nat.le_trans (trim_le _) (by rw [List.length_take]; omega)
  have mr : mrows ps m = m + 2 * rch ps m := rfl
  have ln : (trim (v.drop (rch ps m + 1))).length ≤ 2 := Nat.le_trans (trim_le _) (by rw [List.length_drop]; omega)
  refine ⟨(hrow.el.take _).trim, (hrow.el.drop _).trim, Trm.trim _, Trm.trim _, lv, ln, fun j hj => ?_, fun z => ?_⟩
  · have q := sol j hj
    have hx : ps.getD j 0 < F.q := b.el.atD h j
    have hy : word.getD j 0 < F.q := hw.atD h j
    show _ * kE h (word.getD j 0) + _ * phi (kE h (word.getD j 0)) = _ * kE h (ps.getD j 0) + _ * phi (kE h (ps.getD j 0))
    rcases hr with ⟨hm, hr⟩ | ⟨hm, hr⟩
    · have ep : prow F ps m (ps.getD j 0) (word.getD j 0) = [tn F 0 (word.getD j 0), tn F 1 (word.getD j 0), subF F 0 (tn F 0 (ps.getD j 0)), subF F 0 (tn F 1 (ps.getD j 0))] := by
        unfold prow
        rw [hr, hm]
        rfl
      have e4 : mrows ps m + 1 = 4 := by omega
      rw [ep, e4] at q
      have q2 : (((0 + kE h (tn F 0 (word.getD j 0)) * kAt h v 0) + kE h (tn F 1 (word.getD j 0)) * kAt h v 1) + kE h (subF F 0 (tn F 0 (ps.getD j 0))) * kAt h v 2) + kE h (subF F 0 (tn F 1 (ps.getD j 0))) * kAt h v 3 = 0 := q
      rw [neg_tn hx, neg_tn hx, fr_zero h, fr_zero h, kE_tn1 hx, kE_tn1 hy] at q2
      rw [atV 0 (by omega), atV 1 (by omega), atN 0, atN 1, hr]
      show kAt h v 0 * _ + kAt h v 1 * _ = kAt h v 2 * _ + kAt h v 3 * _
      grind
    · have ep : prow F ps m (ps.getD j 0) (word.getD j 0) = [tn F 0 (word.getD j 0), subF F 0 (tn F 0 (ps.getD j 0)), subF F 0 (tn F 1 (ps.getD j 0))] := by
        unfold prow
        rw [hr, hm]
        rfl
      have e4 : mrows ps m + 1 = 3 := by omega
      rw [ep, e4] at q
      have q2 : ((0 + kE h (tn F 0 (word.getD j 0)) * kAt h v 0) + kE h (subF F 0 (tn F 0 (ps.getD j 0))) * kAt h v 1) + kE h (subF F 0 (tn F 1 (ps.getD j 0))) * kAt h v 2 = 0 := q
      rw [neg_tn hx, neg_tn hx, fr_zero h, fr_zero h, kE_tn1 hx] at q2
      have v1 : kAt h (trim (v.take (rch ps m + 1))) 1 = 0 := kAt_out (by omega)
      rw [atV 0 (by omega), v1, atN 0, atN 1, hr]
      show kAt h v 0 * _ + 0 * _ = kAt h v 1 * _ + kAt h v 2 * _
      grind
  · obtain ⟨z0, z1, z2, z3⟩ := z
    rw [atN 0] at z2
    rw [atN 1] at z3
    rw [atV 0 (by omega)] at z0
    by_cases f0 : f = 0
    · exact one_ne (by rw [f0]; exact z0)
    by_cases fa : f = rch ps m + 1
    · exact one_ne (by rw [fa]; exact z2)
    by_cases fb : f = rch ps m + 2
    · exact one_ne (by rw [fb]; exact z3)
    have f1 : f = 1 := by omega
    rw [atV 1 (by omega)] at z1
    exact one_ne (by rw [f1]; exact z1)
/-- the first of a pair is not nought -/
theorem pair_dv {ps : List Nat} {m : Nat} {word V N : List Nat} (p : Pr h ps m word V N) (f3 : Fr3 (kAt h ps)) (hm : 2 ≤ mrows ps m) (hr : rch ps m ≤ 1) : Dv F V := by
  have vl := p.vl
  have ne : V ≠ [] := fun e => by
    have v0 : kAt h V 0 = 0 := by rw [e]; exact kAt_out (Nat.le_refl _)
    have v1 : kAt h V 1 = 0 := by rw [e]; exact kAt_out (Nat.zero_le _)
    have q0 := p.eq 0 (by omega)
    have q1 := p.eq 1 (by omega)
    rw [v0, v1] at q0 q1
    obtain ⟨z2, z3⟩ := two_roots (a := kAt h N 0) (b := kAt h N 1) f3.a f3.b (by grind) (by grind)
    exact p.nz ⟨v0, v1, z2, z3⟩
  refine ⟨p.ev, ?_, by omega, ?_⟩
  · have : V.length ≠ 0 := fun z => ne (List.length_eq_zero_iff.mp z)
    omega
  · rcases p.tv with z | z
    · exact (ne z).elim
    · exact z
/-- a near one is told by each pair -/
theorem near_out {ps : List Nat} {m : Nat} {word V N t : List Nat} (b : Bk F ps m) (hw : El F word) (hlen : word.length = ps.length) (fr : FreeL F ps) (hl : 3 ≤ ps.length) (hr : (m = 1 ∧ rch ps m = 1) ∨ (m = 2 ∧ rch ps m = 0)) (p : Pr h ps m word V N) (ht : t ∈ allF F m) (ho : offF F ps word t ≤ rch ps m) : outF F N V = some (t, []) := by
  obtain ⟨t1, t2, t3⟩ := allF_mem ht
  have f3 : Fr3 (kAt h ps) := fr3 fr b.el hl
  have vl := p.vl
  have mr : mrows ps m = m + 2 * rch ps m := rfl
  have dv := pair_dv p f3 (by omega) (by omega)
  have el : El F (difF F word (wordF F t ps)) := difF_el h hw
  have dl : (difF F word (wordF F t ps)).length = ps.length := by
    rw [difF_len (by unfold wordF; rw [List.length_map, hlen]), hlen]
  have dat : ∀ i, i < ps.length → kAt h (difF F word (wordF F t ps)) i = kAt h word i - (kAt h t 0 * kAt h ps i + kAt h t 1 * phi (kAt h ps i)) := fun i hi => dif_at hw t3 (by omega) b.el hlen hi
  have nX : ∀ i, 2 ≤ i → kAt h N i = 0 := fun i hi => kAt_out (by have := p.nl; omega)
  unfold offF lrk at ho
  rcases hr with ⟨hm, hr⟩ | ⟨hm, hr⟩
  · rw [hr] at ho
    obtain ⟨y, hy⟩ := rk1 h el _ ho
    have hc : ∀ i, i < ps.length → ∃ c, Bs c ∧ kAt h (difF F word (wordF F t ps)) i = c * y := fun i hi => hy _ (mem_span h el (by omega))
    have hT1 : kAt h t 1 = 0 := kAt_out (by omega)
    have hex : ∀ i, ∃ c : EF F h, i < 3 → Bs c ∧ kAt h (difF F word (wordF F t ps)) i = c * y := fun i => by
      by_cases hi : i < 3
      · obtain ⟨c, h1, h2⟩ := hc i (by omega)
        exact ⟨c, fun _ => ⟨h1, h2⟩⟩
      · exact ⟨0, fun z => (hi z).elim⟩
    have k2 := kill (a := kAt h N 0 - kAt h V 0 * kAt h t 0) (b := kAt h N 1 - kAt h V 1 * phi (kAt h t 0)) (W := kAt h V 0 * y + kAt h V 1 * phi y) (x := kAt h ps) (l := fun i => Classical.choose (hex i)) f3 (fun i hi => (Classical.choose_spec (hex i) hi).1) (fun i hi => by
      obtain ⟨hb, he⟩ := Classical.choose_spec (hex i) hi
      generalize Classical.choose (hex i) = c at hb he ⊢
      have q := p.eq i (by omega)
      have d := dat i (by omega)
      rw [he, hT1] at d
      have ey : kAt h word i = c * y + kAt h t 0 * kAt h ps i := by grind
      rw [ey, phi_add, phi_mul, phi_mul, phi_base hb] at q
      grind)
    obtain ⟨k0, k1⟩ := k2
    refine outF_of h dv p.en p.tn t3 (trm_of t1) (by omega) (.inr (by omega)) (by grind) ?_ nX
    rw [hT1]
    grind
  · rw [hr] at ho
    have hz : ∀ i, i < ps.length → kAt h (difF F word (wordF F t ps)) i = 0 := fun i hi => by
      have z := mem_span h el (i := i) (by omega)
      rw [rk0 _ (Nat.le_zero.mp ho)] at z
      unfold kAt
      rw [List.mem_singleton.mp z, kE_zero]
    have hV1 : kAt h V 1 = 0 := kAt_out (by omega)
    have hq : ∀ i, i < 2 → (kAt h N 0 - kAt h V 0 * kAt h t 0) * kAt h ps i + (kAt h N 1 - kAt h V 0 * kAt h t 1) * phi (kAt h ps i) = 0 := fun i hi => by
      have q := p.eq i (by omega)
      have d := dat i (by omega)
      rw [hz i (by omega)] at d
      have ey : kAt h word i = kAt h t 0 * kAt h ps i + kAt h t 1 * phi (kAt h ps i) := by grind
      rw [hV1, ey] at q
      grind
    obtain ⟨k0, k1⟩ := two_roots f3.a f3.b (hq 0 (by omega)) (hq 1 (by omega))
    refine outF_of h dv p.en p.tn t3 (trm_of t1) (by omega) (.inl (by have := dv.l1; omega)) (by grind) ?_ nX
    rw [hV1]
    grind
end
theorem one_of {α : Type} : ∀ {l : List α}, l.Nodup → (∀ a ∈ l, ∀ b ∈ l, a = b) → l.length ≤ 1
  | [], _, _ => Nat.zero_le _
  | [_], _, _ => Nat.le_refl _
  | a :: b :: l, hn, h => by
    rw [List.nodup_cons] at hn
    have e := h a (List.mem_cons_self ..) b (List.mem_cons_of_mem _ (List.mem_cons_self ..))
    exact absurd (by rw [e]; exact List.mem_cons_self ..) hn.1
theorem q8_F {F : Fd} (h : FOK F) : F.q = 8 → F = F8 := by
  rcases h with e | e | e | e
  · exact fun _ => e
  · rw [e]; intro z; exact absurd z (by decide)
  · rw [e]; intro z; exact absurd z (by decide)
  · rw [e]; intro z; exact absurd z (by decide)
theorem word_ok (F : Fd) (ps : List Nat) (m : Nat) (word : List Nat) (b : Bk F ps m) (fr : FreeL F ps) (hl3 : 3 ≤ ps.length) (hl4 : ps.length ≤ 4) (hm2 : m ≤ 2) (h8 : F.q = 8 ∨ m = 1) (hw : El F word) (hlen : word.length = ps.length) : WordOk F ps m word := by
  have h := b.ok
  have hm1 := b.m1
  have hln := b.ln
  have hr : (m = 1 ∧ rch ps m = 1) ∨ (m = 2 ∧ rch ps m = 0) := by
    have : m = 1 ∨ m = 2 := by omega
    rcases this with hm | hm
    · left
      refine ⟨hm, ?_⟩
      unfold rch
      omega
    · right
      refine ⟨hm, ?_⟩
      have e8 : F.q = 8 := by
        rcases h8 with z | z
        · exact z
        · omega
      have hn : F.n = 3 := by rw [q8_F h e8]; rfl
      unfold rch
      omega
  have nd : (allF F m).Nodup := by
    rcases hr with ⟨hm, _⟩ | ⟨hm, _⟩
    · rw [hm]
      exact allF_nodup h
    · have e8 : F.q = 8 := by
        rcases h8 with z | z
        · exact z
        · omega
      rw [hm, q8_F h e8]
      exact allF8_nodup
  have f3 : Fr3 (kAt h ps) := fr3 fr b.el hl3
  have p := pair_ok b hw hlen hr
  have mr : mrows ps m = m + 2 * rch ps m := rfl
  have dv := pair_dv p f3 (by omega) (by omega)
  have out : ∀ t ∈ nearF F ps m word, outF F (pN F ps m word) (pV F ps m word) = some (t, []) := fun t ht => by
    obtain ⟨h1, h2⟩ := List.mem_filter.mp ht
    exact near_out b hw hlen fr hl3 hr p h1 (of_decide_eq_true h2)
  have wi : ∀ t ∈ allF F m, within F ps m word t = decide (offF F ps word t ≤ rch ps m) := fun t _ => by
    unfold within offF
    rw [rk_eq h (difF_el h hw)]
  refine ⟨one_of (nd.filter _) fun t ht u hu => ?_, ?_, wi⟩
  · have e := (out t ht).symm.trans (out u hu)
    exact (Prod.mk.inj (Option.some.inj e)).1
  · unfold mendF
    cases hn : nearF F ps m word with
    | cons t rest =>
      have mt : t ∈ nearF F ps m word := by rw [hn]; exact List.mem_cons_self ..
      obtain ⟨h1, h2⟩ := List.mem_filter.mp mt
      rw [out t mt]
      show some (tellP F ps m word (t, [])) = some (some t)
      unfold tellP
      rw [if_pos ⟨rfl, (allF_mem h1).2.1, by rw [wi t h1]; exact h2⟩]
    | nil =>
      obtain ⟨q, r, e, tq⟩ := outF_trm h dv p.en p.tn (by have := p.nl; omega)
      rw [e]
      show some (tellP F ps m word (q, r)) = some none
      unfold tellP
      rw [if_neg]
      rintro ⟨c1, c2, c3⟩
      have hq : q ∈ allF F m := allF_of h (trim_id tq) c2 (outF_el h p.en e).1
      rw [wi q hq] at c3
      have : q ∈ nearF F ps m word := List.mem_filter.mpr ⟨hq, c3⟩
      rw [hn] at this
      cases this
theorem free_ok (F : Fd) (ps : List Nat) (h : FOK F) (el : El F ps) (fr : FreeL F ps) : ps.length ≤ rkF F ps := by
  rw [rk_eq h el, lrk_free fr]
  exact Nat.le_refl _
end TP
/-! part Z1 -/
set_option maxHeartbeats 0
/-! the law, given the mathematics -/
namespace TP
open PySem PySem.Spec PyProof.Rows L2
theorem only_wl {H : Hp} (h : Only H) : Wl H := fun a o e => by
  rcases h a with z | ⟨u, xs, z⟩
  · rw [z] at e
    cases e
  · rw [z] at e
    cases e
    exact True.intro
theorem holds_of (M : Maths) : PySem.Challenge.rw_turnpowers_k82_whole_near_ones_by_all_wo.Holds :=
  head_end sp_law (fun K H a ns hO hS => ⟨a, ns, rfl, only_wl hO, hS, M, fun _ => rfl⟩) fun P w K mg T => ok_law T
end TP
theorem TP.maths : TP.Maths := ⟨TP.word_ok, fun F ps h el fr _ => TP.free_ok F ps h el fr⟩
theorem PySem.Challenge.cw_turnpowers_k82_whole_near_ones_by_all_wo_holds : PySem.Challenge.rw_turnpowers_k82_whole_near_ones_by_all_wo.Holds := by
  exact TP.holds_of TP.maths
