import PyProof.Rows.All
import Wide.All
import OpenK.AllK
import Wide.FinOn
import KE.KStateDown
import Lean
import KE.OsHead
import KE.OsGo
import KE.KExcInit
import HandS.ForSpec
import HandS.Comp
import HandS.Dict
import HandS.Iter
import HandS.Text
import HandS.More
import HandS.Defaults
import HandS.Evl
import HandS.Walk
import HandS.Wide
import HandS.FStr
import HandS.NoneIn
import HandS.SortInts
import HandS.CallLocal
import HandS.ExcInit
import HandS.Head0
import HandS.Head1
import HandS.Head2
import HandS.Head3
import HandS.Head4
import HandS.HeadHook1
import HandS.HeadHook2
import PyProof.AutoSeq1
import PySem.Challenge.RW_legtraverse_s01_answers
set_option Elab.async false
set_option linter.all false
set_option maxRecDepth 100000
set_option maxHeartbeats 4000000
namespace Trav
open PySem PySem.Spec PyProof.Rows L2
/-! ## The text by its places -/
def top (i : Nat) : Stmt := PySem.Challenge.pw_legtraverse_s01_answers.main.body.getD i (.Pass ⟨0, 0, 0, 0⟩)
abbrev s_spelled : Stmt := top 23
abbrev s_is_letter : Stmt := top 24
abbrev s_is_digit : Stmt := top 25
abbrev s_is_word_code : Stmt := top 26
abbrev s_is_blank : Stmt := top 27
abbrev s_is_quotable : Stmt := top 28
abbrev s_behind_blanks : Stmt := top 29
abbrev s_behind_digits : Stmt := top 30
abbrev s_behind_word : Stmt := top 31
abbrev s_word_at : Stmt := top 32
abbrev s_worth : Stmt := top 33
abbrev s_number_at : Stmt := top 34
abbrev s_quoted_at : Stmt := top 35
abbrev s_sign_at : Stmt := top 36
abbrev s_token_at : Stmt := top 37
abbrev s_tokens_of : Stmt := top 38
abbrev s_Leg_init : Stmt := inClass (top 47) 0
abbrev s_Run_init : Stmt := inClass (top 48) 0
abbrev s_Book_init : Stmt := inClass (top 49) 0
abbrev s_is_within : Stmt := top 50
abbrev s_is_point : Stmt := top 51
abbrev s_is_step : Stmt := top 52
abbrev s_is_reached : Stmt := top 53
abbrev s_has_arrived : Stmt := top 54
abbrev s_may_reach : Stmt := top 55
abbrev s_passes_by : Stmt := top 56
abbrev s_leg_count : Stmt := top 57
abbrev s_known_line : Stmt := top 58
abbrev s_run_line : Stmt := top 59
abbrev s_leg_line : Stmt := top 60
abbrev s_printed : Stmt := top 61
abbrev s_Fault_init : Stmt := inClass (top 70) 0
abbrev s_Reader_init : Stmt := inClass (top 71) 0
abbrev s_Reader_is_done : Stmt := inClass (top 71) 1
abbrev s_Reader_is_next : Stmt := inClass (top 71) 2
abbrev s_Reader_take : Stmt := inClass (top 71) 3
abbrev s_Reader_take_written : Stmt := inClass (top 71) 4
abbrev s_Reader_take_number : Stmt := inClass (top 71) 5
abbrev s_Reader_take_point : Stmt := inClass (top 71) 6
abbrev s_Reader_take_step : Stmt := inClass (top 71) 7
abbrev s_Reader_take_known : Stmt := inClass (top 71) 8
abbrev s_read_known : Stmt := top 72
abbrev s_read_run : Stmt := top 73
abbrev s_read_leg : Stmt := top 74
abbrev s_read_book : Stmt := top 75
abbrev s_greatest_divisor : Stmt := top 77
abbrev s_fraction : Stmt := top 78
abbrev s_plus : Stmt := top 79
abbrev s_minus : Stmt := top 80
abbrev s_through : Stmt := top 81
abbrev s_is_above : Stmt := top 82
abbrev s_lengths_together : Stmt := top 85
abbrev s_miss_of : Stmt := top 86
abbrev s_square : Stmt := top 87
abbrev s_shared_leg : Stmt := top 88
abbrev s_places_of : Stmt := top 89
abbrev s_turn_of : Stmt := top 90
abbrev s_place_by : Stmt := top 91
abbrev s_leg_shared : Stmt := top 92
abbrev s_place_between : Stmt := top 93
abbrev s_mean_place : Stmt := top 94
abbrev s_double_area : Stmt := top 95
abbrev s_greatest_ratio : Stmt := top 96
abbrev s_along : Stmt := top 97
abbrev s_most_along : Stmt := top 98
abbrev s_digit_at : Stmt := top 109
abbrev s_exchanged : Stmt := top 110
abbrev s_digit_pairs : Stmt := top 111
abbrev s_all_readings : Stmt := top 112
abbrev s_readings_of : Stmt := top 113
abbrev s_find_reading : Stmt := top 114
abbrev s_slip_of : Stmt := top 115
abbrev s_slips_of : Stmt := top 116
abbrev s_missed_with : Stmt := top 117
abbrev s_best_single : Stmt := top 118
abbrev s_pairs_behind : Stmt := top 119
abbrev s_best_pair : Stmt := top 120
abbrev s_explains : Stmt := top 121
abbrev s_slips_told : Stmt := top 122
abbrev s_Office_init : Stmt := inClass (top 132) 0
abbrev s_has_run : Stmt := top 133
abbrev s_has_leg : Stmt := top 134
abbrev s_has_point : Stmt := top 135
abbrev s_arrived_error : Stmt := top 136
abbrev s_add_known : Stmt := top 137
abbrev s_add_run : Stmt := top 138
abbrev s_add_leg : Stmt := top 139
abbrev s_take_back : Stmt := top 140
abbrev s_tell_miss : Stmt := top 141
abbrev s_tell_point : Stmt := top 142
abbrev s_tell_part : Stmt := top 143
abbrev s_tell_ratio : Stmt := top 144
abbrev s_tell_area : Stmt := top 145
abbrev s_tell_most : Stmt := top 146
abbrev s_tell_readings : Stmt := top 147
abbrev s_explain : Stmt := top 148
abbrev s_reading_told : Stmt := top 149
abbrev s_tell_with : Stmt := top 150
abbrev s_mend : Stmt := top 151
abbrev s_tell_apart : Stmt := top 152
abbrev s_tell_passes : Stmt := top 153
abbrev s_tell_mean : Stmt := top 154
abbrev s_take_book : Stmt := top 155
abbrev s_tell_text : Stmt := top 156
abbrev s_tell_sizes : Stmt := top 157
abbrev s_behind_call : Stmt := top 162
abbrev s_answer_of : Stmt := top 163
abbrev s_answers : Stmt := top 164
def d_spelled : He.DefD := ⟨("spelled", none), "spelled", "spelled", defArgs s_spelled, defBody s_spelled, defScope s_spelled, [], []⟩
def d_is_letter : He.DefD := ⟨("is_letter", none), "is_letter", "is_letter", defArgs s_is_letter, defBody s_is_letter, defScope s_is_letter, [], []⟩
def d_is_digit : He.DefD := ⟨("is_digit", none), "is_digit", "is_digit", defArgs s_is_digit, defBody s_is_digit, defScope s_is_digit, [], []⟩
def d_is_word_code : He.DefD := ⟨("is_word_code", none), "is_word_code", "is_word_code", defArgs s_is_word_code, defBody s_is_word_code, defScope s_is_word_code, [], []⟩
def d_is_blank : He.DefD := ⟨("is_blank", none), "is_blank", "is_blank", defArgs s_is_blank, defBody s_is_blank, defScope s_is_blank, [], []⟩
def d_is_quotable : He.DefD := ⟨("is_quotable", none), "is_quotable", "is_quotable", defArgs s_is_quotable, defBody s_is_quotable, defScope s_is_quotable, [], []⟩
def d_behind_blanks : He.DefD := ⟨("behind_blanks", none), "behind_blanks", "behind_blanks", defArgs s_behind_blanks, defBody s_behind_blanks, defScope s_behind_blanks, [], []⟩
def d_behind_digits : He.DefD := ⟨("behind_digits", none), "behind_digits", "behind_digits", defArgs s_behind_digits, defBody s_behind_digits, defScope s_behind_digits, [], []⟩
def d_behind_word : He.DefD := ⟨("behind_word", none), "behind_word", "behind_word", defArgs s_behind_word, defBody s_behind_word, defScope s_behind_word, [], []⟩
def d_word_at : He.DefD := ⟨("word_at", none), "word_at", "word_at", defArgs s_word_at, defBody s_word_at, defScope s_word_at, [], []⟩
def d_worth : He.DefD := ⟨("worth", none), "worth", "worth", defArgs s_worth, defBody s_worth, defScope s_worth, [], []⟩
def d_number_at : He.DefD := ⟨("number_at", none), "number_at", "number_at", defArgs s_number_at, defBody s_number_at, defScope s_number_at, [], []⟩
def d_quoted_at : He.DefD := ⟨("quoted_at", none), "quoted_at", "quoted_at", defArgs s_quoted_at, defBody s_quoted_at, defScope s_quoted_at, [], []⟩
def d_sign_at : He.DefD := ⟨("sign_at", none), "sign_at", "sign_at", defArgs s_sign_at, defBody s_sign_at, defScope s_sign_at, [], []⟩
def d_token_at : He.DefD := ⟨("token_at", none), "token_at", "token_at", defArgs s_token_at, defBody s_token_at, defScope s_token_at, [], []⟩
def d_tokens_of : He.DefD := ⟨("tokens_of", none), "tokens_of", "tokens_of", defArgs s_tokens_of, defBody s_tokens_of, defScope s_tokens_of, [], []⟩
def d_Leg_init : He.DefD := ⟨("Leg", some "__init__"), "__init__", "Leg.__init__", defArgs s_Leg_init, defBody s_Leg_init, defScope s_Leg_init, [], []⟩
def d_Run_init : He.DefD := ⟨("Run", some "__init__"), "__init__", "Run.__init__", defArgs s_Run_init, defBody s_Run_init, defScope s_Run_init, [], []⟩
def d_Book_init : He.DefD := ⟨("Book", some "__init__"), "__init__", "Book.__init__", defArgs s_Book_init, defBody s_Book_init, defScope s_Book_init, [], []⟩
def d_is_within : He.DefD := ⟨("is_within", none), "is_within", "is_within", defArgs s_is_within, defBody s_is_within, defScope s_is_within, [], []⟩
def d_is_point : He.DefD := ⟨("is_point", none), "is_point", "is_point", defArgs s_is_point, defBody s_is_point, defScope s_is_point, [], []⟩
def d_is_step : He.DefD := ⟨("is_step", none), "is_step", "is_step", defArgs s_is_step, defBody s_is_step, defScope s_is_step, [], []⟩
def d_is_reached : He.DefD := ⟨("is_reached", none), "is_reached", "is_reached", defArgs s_is_reached, defBody s_is_reached, defScope s_is_reached, [], []⟩
def d_has_arrived : He.DefD := ⟨("has_arrived", none), "has_arrived", "has_arrived", defArgs s_has_arrived, defBody s_has_arrived, defScope s_has_arrived, [], []⟩
def d_may_reach : He.DefD := ⟨("may_reach", none), "may_reach", "may_reach", defArgs s_may_reach, defBody s_may_reach, defScope s_may_reach, [], []⟩
def d_passes_by : He.DefD := ⟨("passes_by", none), "passes_by", "passes_by", defArgs s_passes_by, defBody s_passes_by, defScope s_passes_by, [], []⟩
def d_leg_count : He.DefD := ⟨("leg_count", none), "leg_count", "leg_count", defArgs s_leg_count, defBody s_leg_count, defScope s_leg_count, [], []⟩
def d_known_line : He.DefD := ⟨("known_line", none), "known_line", "known_line", defArgs s_known_line, defBody s_known_line, defScope s_known_line, [], []⟩
def d_run_line : He.DefD := ⟨("run_line", none), "run_line", "run_line", defArgs s_run_line, defBody s_run_line, defScope s_run_line, [], []⟩
def d_leg_line : He.DefD := ⟨("leg_line", none), "leg_line", "leg_line", defArgs s_leg_line, defBody s_leg_line, defScope s_leg_line, [], []⟩
def d_printed : He.DefD := ⟨("printed", none), "printed", "printed", defArgs s_printed, defBody s_printed, defScope s_printed, [], []⟩
def d_Fault_init : He.DefD := ⟨("Fault", some "__init__"), "__init__", "Fault.__init__", defArgs s_Fault_init, defBody s_Fault_init, defScope s_Fault_init, [], []⟩
def d_Reader_init : He.DefD := ⟨("Reader", some "__init__"), "__init__", "Reader.__init__", defArgs s_Reader_init, defBody s_Reader_init, defScope s_Reader_init, [], []⟩
def d_Reader_is_done : He.DefD := ⟨("Reader", some "is_done"), "is_done", "Reader.is_done", defArgs s_Reader_is_done, defBody s_Reader_is_done, defScope s_Reader_is_done, [], []⟩
def d_Reader_is_next : He.DefD := ⟨("Reader", some "is_next"), "is_next", "Reader.is_next", defArgs s_Reader_is_next, defBody s_Reader_is_next, defScope s_Reader_is_next, [], []⟩
def d_Reader_take : He.DefD := ⟨("Reader", some "take"), "take", "Reader.take", defArgs s_Reader_take, defBody s_Reader_take, defScope s_Reader_take, [], []⟩
def d_Reader_take_written : He.DefD := ⟨("Reader", some "take_written"), "take_written", "Reader.take_written", defArgs s_Reader_take_written, defBody s_Reader_take_written, defScope s_Reader_take_written, [], []⟩
def d_Reader_take_number : He.DefD := ⟨("Reader", some "take_number"), "take_number", "Reader.take_number", defArgs s_Reader_take_number, defBody s_Reader_take_number, defScope s_Reader_take_number, [], []⟩
def d_Reader_take_point : He.DefD := ⟨("Reader", some "take_point"), "take_point", "Reader.take_point", defArgs s_Reader_take_point, defBody s_Reader_take_point, defScope s_Reader_take_point, [], []⟩
def d_Reader_take_step : He.DefD := ⟨("Reader", some "take_step"), "take_step", "Reader.take_step", defArgs s_Reader_take_step, defBody s_Reader_take_step, defScope s_Reader_take_step, [], []⟩
def d_Reader_take_known : He.DefD := ⟨("Reader", some "take_known"), "take_known", "Reader.take_known", defArgs s_Reader_take_known, defBody s_Reader_take_known, defScope s_Reader_take_known, [], []⟩
def d_read_known : He.DefD := ⟨("read_known", none), "read_known", "read_known", defArgs s_read_known, defBody s_read_known, defScope s_read_known, [], []⟩
def d_read_run : He.DefD := ⟨("read_run", none), "read_run", "read_run", defArgs s_read_run, defBody s_read_run, defScope s_read_run, [], []⟩
def d_read_leg : He.DefD := ⟨("read_leg", none), "read_leg", "read_leg", defArgs s_read_leg, defBody s_read_leg, defScope s_read_leg, [], []⟩
def d_read_book : He.DefD := ⟨("read_book", none), "read_book", "read_book", defArgs s_read_book, defBody s_read_book, defScope s_read_book, [], []⟩
def d_greatest_divisor : He.DefD := ⟨("greatest_divisor", none), "greatest_divisor", "greatest_divisor", defArgs s_greatest_divisor, defBody s_greatest_divisor, defScope s_greatest_divisor, [], []⟩
def d_fraction : He.DefD := ⟨("fraction", none), "fraction", "fraction", defArgs s_fraction, defBody s_fraction, defScope s_fraction, [], []⟩
def d_plus : He.DefD := ⟨("plus", none), "plus", "plus", defArgs s_plus, defBody s_plus, defScope s_plus, [], []⟩
def d_minus : He.DefD := ⟨("minus", none), "minus", "minus", defArgs s_minus, defBody s_minus, defScope s_minus, [], []⟩
def d_through : He.DefD := ⟨("through", none), "through", "through", defArgs s_through, defBody s_through, defScope s_through, [], []⟩
def d_is_above : He.DefD := ⟨("is_above", none), "is_above", "is_above", defArgs s_is_above, defBody s_is_above, defScope s_is_above, [], []⟩
def d_lengths_together : He.DefD := ⟨("lengths_together", none), "lengths_together", "lengths_together", defArgs s_lengths_together, defBody s_lengths_together, defScope s_lengths_together, [], []⟩
def d_miss_of : He.DefD := ⟨("miss_of", none), "miss_of", "miss_of", defArgs s_miss_of, defBody s_miss_of, defScope s_miss_of, [], []⟩
def d_square : He.DefD := ⟨("square", none), "square", "square", defArgs s_square, defBody s_square, defScope s_square, [], []⟩
def d_shared_leg : He.DefD := ⟨("shared_leg", none), "shared_leg", "shared_leg", defArgs s_shared_leg, defBody s_shared_leg, defScope s_shared_leg, [], []⟩
def d_places_of : He.DefD := ⟨("places_of", none), "places_of", "places_of", defArgs s_places_of, defBody s_places_of, defScope s_places_of, [], []⟩
def d_turn_of : He.DefD := ⟨("turn_of", none), "turn_of", "turn_of", defArgs s_turn_of, defBody s_turn_of, defScope s_turn_of, [], []⟩
def d_place_by : He.DefD := ⟨("place_by", none), "place_by", "place_by", defArgs s_place_by, defBody s_place_by, defScope s_place_by, [], []⟩
def d_leg_shared : He.DefD := ⟨("leg_shared", none), "leg_shared", "leg_shared", defArgs s_leg_shared, defBody s_leg_shared, defScope s_leg_shared, [], []⟩
def d_place_between : He.DefD := ⟨("place_between", none), "place_between", "place_between", defArgs s_place_between, defBody s_place_between, defScope s_place_between, [], []⟩
def d_mean_place : He.DefD := ⟨("mean_place", none), "mean_place", "mean_place", defArgs s_mean_place, defBody s_mean_place, defScope s_mean_place, [], []⟩
def d_double_area : He.DefD := ⟨("double_area", none), "double_area", "double_area", defArgs s_double_area, defBody s_double_area, defScope s_double_area, [], []⟩
def d_greatest_ratio : He.DefD := ⟨("greatest_ratio", none), "greatest_ratio", "greatest_ratio", defArgs s_greatest_ratio, defBody s_greatest_ratio, defScope s_greatest_ratio, [], []⟩
def d_along : He.DefD := ⟨("along", none), "along", "along", defArgs s_along, defBody s_along, defScope s_along, [], []⟩
def d_most_along : He.DefD := ⟨("most_along", none), "most_along", "most_along", defArgs s_most_along, defBody s_most_along, defScope s_most_along, [], []⟩
def d_digit_at : He.DefD := ⟨("digit_at", none), "digit_at", "digit_at", defArgs s_digit_at, defBody s_digit_at, defScope s_digit_at, [], []⟩
def d_exchanged : He.DefD := ⟨("exchanged", none), "exchanged", "exchanged", defArgs s_exchanged, defBody s_exchanged, defScope s_exchanged, [], []⟩
def d_digit_pairs : He.DefD := ⟨("digit_pairs", none), "digit_pairs", "digit_pairs", defArgs s_digit_pairs, defBody s_digit_pairs, defScope s_digit_pairs, [], []⟩
def d_all_readings : He.DefD := ⟨("all_readings", none), "all_readings", "all_readings", defArgs s_all_readings, defBody s_all_readings, defScope s_all_readings, [], []⟩
def d_readings_of : He.DefD := ⟨("readings_of", none), "readings_of", "readings_of", defArgs s_readings_of, defBody s_readings_of, defScope s_readings_of, [], []⟩
def d_find_reading : He.DefD := ⟨("find_reading", none), "find_reading", "find_reading", defArgs s_find_reading, defBody s_find_reading, defScope s_find_reading, [], []⟩
def d_slip_of : He.DefD := ⟨("slip_of", none), "slip_of", "slip_of", defArgs s_slip_of, defBody s_slip_of, defScope s_slip_of, [], []⟩
def d_slips_of : He.DefD := ⟨("slips_of", none), "slips_of", "slips_of", defArgs s_slips_of, defBody s_slips_of, defScope s_slips_of, [], []⟩
def d_missed_with : He.DefD := ⟨("missed_with", none), "missed_with", "missed_with", defArgs s_missed_with, defBody s_missed_with, defScope s_missed_with, [], []⟩
def d_best_single : He.DefD := ⟨("best_single", none), "best_single", "best_single", defArgs s_best_single, defBody s_best_single, defScope s_best_single, [], []⟩
def d_pairs_behind : He.DefD := ⟨("pairs_behind", none), "pairs_behind", "pairs_behind", defArgs s_pairs_behind, defBody s_pairs_behind, defScope s_pairs_behind, [], []⟩
def d_best_pair : He.DefD := ⟨("best_pair", none), "best_pair", "best_pair", defArgs s_best_pair, defBody s_best_pair, defScope s_best_pair, [], []⟩
def d_explains : He.DefD := ⟨("explains", none), "explains", "explains", defArgs s_explains, defBody s_explains, defScope s_explains, [], []⟩
def d_slips_told : He.DefD := ⟨("slips_told", none), "slips_told", "slips_told", defArgs s_slips_told, defBody s_slips_told, defScope s_slips_told, [], []⟩
def d_Office_init : He.DefD := ⟨("Office", some "__init__"), "__init__", "Office.__init__", defArgs s_Office_init, defBody s_Office_init, defScope s_Office_init, [], []⟩
def d_has_run : He.DefD := ⟨("has_run", none), "has_run", "has_run", defArgs s_has_run, defBody s_has_run, defScope s_has_run, [], []⟩
def d_has_leg : He.DefD := ⟨("has_leg", none), "has_leg", "has_leg", defArgs s_has_leg, defBody s_has_leg, defScope s_has_leg, [], []⟩
def d_has_point : He.DefD := ⟨("has_point", none), "has_point", "has_point", defArgs s_has_point, defBody s_has_point, defScope s_has_point, [], []⟩
def d_arrived_error : He.DefD := ⟨("arrived_error", none), "arrived_error", "arrived_error", defArgs s_arrived_error, defBody s_arrived_error, defScope s_arrived_error, [], []⟩
def d_add_known : He.DefD := ⟨("add_known", none), "add_known", "add_known", defArgs s_add_known, defBody s_add_known, defScope s_add_known, [], []⟩
def d_add_run : He.DefD := ⟨("add_run", none), "add_run", "add_run", defArgs s_add_run, defBody s_add_run, defScope s_add_run, [], []⟩
def d_add_leg : He.DefD := ⟨("add_leg", none), "add_leg", "add_leg", defArgs s_add_leg, defBody s_add_leg, defScope s_add_leg, [], []⟩
def d_take_back : He.DefD := ⟨("take_back", none), "take_back", "take_back", defArgs s_take_back, defBody s_take_back, defScope s_take_back, [], []⟩
def d_tell_miss : He.DefD := ⟨("tell_miss", none), "tell_miss", "tell_miss", defArgs s_tell_miss, defBody s_tell_miss, defScope s_tell_miss, [], []⟩
def d_tell_point : He.DefD := ⟨("tell_point", none), "tell_point", "tell_point", defArgs s_tell_point, defBody s_tell_point, defScope s_tell_point, [], []⟩
def d_tell_part : He.DefD := ⟨("tell_part", none), "tell_part", "tell_part", defArgs s_tell_part, defBody s_tell_part, defScope s_tell_part, [], []⟩
def d_tell_ratio : He.DefD := ⟨("tell_ratio", none), "tell_ratio", "tell_ratio", defArgs s_tell_ratio, defBody s_tell_ratio, defScope s_tell_ratio, [], []⟩
def d_tell_area : He.DefD := ⟨("tell_area", none), "tell_area", "tell_area", defArgs s_tell_area, defBody s_tell_area, defScope s_tell_area, [], []⟩
def d_tell_most : He.DefD := ⟨("tell_most", none), "tell_most", "tell_most", defArgs s_tell_most, defBody s_tell_most, defScope s_tell_most, [], []⟩
def d_tell_readings : He.DefD := ⟨("tell_readings", none), "tell_readings", "tell_readings", defArgs s_tell_readings, defBody s_tell_readings, defScope s_tell_readings, [], []⟩
def d_explain : He.DefD := ⟨("explain", none), "explain", "explain", defArgs s_explain, defBody s_explain, defScope s_explain, [], []⟩
def d_reading_told : He.DefD := ⟨("reading_told", none), "reading_told", "reading_told", defArgs s_reading_told, defBody s_reading_told, defScope s_reading_told, [], []⟩
def d_tell_with : He.DefD := ⟨("tell_with", none), "tell_with", "tell_with", defArgs s_tell_with, defBody s_tell_with, defScope s_tell_with, [], []⟩
def d_mend : He.DefD := ⟨("mend", none), "mend", "mend", defArgs s_mend, defBody s_mend, defScope s_mend, [], []⟩
def d_tell_apart : He.DefD := ⟨("tell_apart", none), "tell_apart", "tell_apart", defArgs s_tell_apart, defBody s_tell_apart, defScope s_tell_apart, [], []⟩
def d_tell_passes : He.DefD := ⟨("tell_passes", none), "tell_passes", "tell_passes", defArgs s_tell_passes, defBody s_tell_passes, defScope s_tell_passes, [], []⟩
def d_tell_mean : He.DefD := ⟨("tell_mean", none), "tell_mean", "tell_mean", defArgs s_tell_mean, defBody s_tell_mean, defScope s_tell_mean, [], []⟩
def d_take_book : He.DefD := ⟨("take_book", none), "take_book", "take_book", defArgs s_take_book, defBody s_take_book, defScope s_take_book, [], []⟩
def d_tell_text : He.DefD := ⟨("tell_text", none), "tell_text", "tell_text", defArgs s_tell_text, defBody s_tell_text, defScope s_tell_text, [], []⟩
def d_tell_sizes : He.DefD := ⟨("tell_sizes", none), "tell_sizes", "tell_sizes", defArgs s_tell_sizes, defBody s_tell_sizes, defScope s_tell_sizes, [], []⟩
def d_behind_call : He.DefD := ⟨("behind_call", none), "behind_call", "behind_call", defArgs s_behind_call, defBody s_behind_call, defScope s_behind_call, [], []⟩
def d_answer_of : He.DefD := ⟨("answer_of", none), "answer_of", "answer_of", defArgs s_answer_of, defBody s_answer_of, defScope s_answer_of, [], []⟩
def d_answers : He.DefD := ⟨("answers", none), "answers", "answers", defArgs s_answers, defBody s_answers, defScope s_answers, [], []⟩
def fn0 : List He.DefD := [d_spelled, d_is_letter, d_is_digit, d_is_word_code, d_is_blank, d_is_quotable, d_behind_blanks, d_behind_digits, d_behind_word, d_word_at, d_worth, d_number_at]
def fn1 : List He.DefD := [d_quoted_at, d_sign_at, d_token_at, d_tokens_of, d_Leg_init, d_Run_init, d_Book_init, d_is_within, d_is_point, d_is_step, d_is_reached, d_has_arrived]
def fn2 : List He.DefD := [d_may_reach, d_passes_by, d_leg_count, d_known_line, d_run_line, d_leg_line, d_printed, d_Fault_init, d_Reader_init, d_Reader_is_done, d_Reader_is_next, d_Reader_take]
def fn3 : List He.DefD := [d_Reader_take_written, d_Reader_take_number, d_Reader_take_point, d_Reader_take_step, d_Reader_take_known, d_read_known, d_read_run, d_read_leg, d_read_book, d_greatest_divisor, d_fraction, d_plus]
def fn4 : List He.DefD := [d_minus, d_through, d_is_above, d_lengths_together, d_miss_of, d_square, d_shared_leg, d_places_of, d_turn_of, d_place_by, d_leg_shared, d_place_between]
def fn5 : List He.DefD := [d_mean_place, d_double_area, d_greatest_ratio, d_along, d_most_along, d_digit_at, d_exchanged, d_digit_pairs, d_all_readings, d_readings_of, d_find_reading, d_slip_of]
def fn6 : List He.DefD := [d_slips_of, d_missed_with, d_best_single, d_pairs_behind, d_best_pair, d_explains, d_slips_told, d_Office_init, d_has_run, d_has_leg, d_has_point, d_arrived_error]
def fn7 : List He.DefD := [d_add_known, d_add_run, d_add_leg, d_take_back, d_tell_miss, d_tell_point, d_tell_part, d_tell_ratio, d_tell_area, d_tell_most, d_tell_readings, d_explain]
def fn8 : List He.DefD := [d_reading_told, d_tell_with, d_mend, d_tell_apart, d_tell_passes, d_tell_mean, d_take_book, d_tell_text, d_tell_sizes, d_behind_call, d_answer_of, d_answers]
def fn : List He.DefD := fn0 ++ (fn1 ++ (fn2 ++ (fn3 ++ (fn4 ++ (fn5 ++ (fn6 ++ (fn7 ++ (fn8))))))))
def fa0 : List He.Fa := [.glo "spelled", .glo "is_letter", .glo "is_digit", .glo "is_word_code", .glo "is_blank", .glo "is_quotable", .glo "behind_blanks", .glo "behind_digits", .glo "behind_word", .glo "word_at", .glo "worth", .glo "number_at"]
def fa1 : List He.Fa := [.glo "quoted_at", .glo "sign_at", .glo "token_at", .glo "tokens_of", .glo "is_within", .glo "is_point", .glo "is_step", .glo "is_reached", .glo "has_arrived", .glo "may_reach", .glo "passes_by", .glo "leg_count"]
def fa2 : List He.Fa := [.glo "known_line", .glo "run_line", .glo "leg_line", .glo "printed", .glo "read_known", .glo "read_run", .glo "read_leg", .glo "read_book", .glo "greatest_divisor", .glo "fraction", .glo "plus", .glo "minus"]
def fa3 : List He.Fa := [.glo "through", .glo "is_above", .glo "lengths_together", .glo "miss_of", .glo "square", .glo "shared_leg", .glo "places_of", .glo "turn_of", .glo "place_by", .glo "leg_shared", .glo "place_between", .glo "mean_place"]
def fa4 : List He.Fa := [.glo "double_area", .glo "greatest_ratio", .glo "along", .glo "most_along", .glo "digit_at", .glo "exchanged", .glo "digit_pairs", .glo "all_readings", .glo "readings_of", .glo "find_reading", .glo "slip_of", .glo "slips_of"]
def fa5 : List He.Fa := [.glo "missed_with", .glo "best_single", .glo "pairs_behind", .glo "best_pair", .glo "explains", .glo "slips_told", .glo "has_run", .glo "has_leg", .glo "has_point", .glo "arrived_error", .glo "add_known", .glo "add_run"]
def fa6 : List He.Fa := [.glo "add_leg", .glo "take_back", .glo "tell_miss", .glo "tell_point", .glo "tell_part", .glo "tell_ratio", .glo "tell_area", .glo "tell_most", .glo "tell_readings", .glo "explain", .glo "reading_told", .glo "tell_with"]
def fa7 : List He.Fa := [.glo "mend", .glo "tell_apart", .glo "tell_passes", .glo "tell_mean", .glo "take_book", .glo "tell_text", .glo "tell_sizes", .glo "behind_call", .glo "answer_of", .glo "answers", .glo "Leg", .glo "Run"]
def fa8 : List He.Fa := [.glo "Book", .glo "Fault", .glo "Reader", .glo "Office", .int "TAB" (9), .int "NEWLINE" (10), .int "RETURN" (13), .int "BLANK" (32), .int "QUOTE" (34), .int "REMARK" (37), .int "NOUGHT" (48), .int "NINE" (57)]
def fa9 : List He.Fa := [.int "BACKSLASH" (92), .int "UNDERSCORE" (95), .int "FIRST_SHOWN" (32), .int "LAST_SHOWN" (126), .int "NONE" (0), .int "WORD" (1), .int "NUMBER" (2), .int "QUOTED" (3), .int "SIGN" (4), .int "END" (5), .int "LONGEST_WORD" (31), .int "LONGEST_NUMBER" (9)]
def fa10 : List He.Fa := [.int "LONGEST_QUOTED" (40), .str "SIGNS" "()+,-/:;=", .int "LEAST_POINT" (1), .int "MOST_POINT" (99), .int "MOST_PLACE" (999999), .int "MOST_RUNS" (16), .int "MOST_LEGS" (24), .int "MOST_STEP" (99999), .int "MOST_LENGTH" (999999), .int "NO_TOKEN" (1), .int "OUT_OF_PLACE" (2), .int "OUT_OF_BOUNDS_reader" (3)]
def fa11 : List He.Fa := [.int "NOT_ABOVE" (4), .int "NOT_KNOWN" (5), .int "NOT_REACHED" (6), .int "TOO_MANY" (7), .int "NOT_PASSED" (-1), .int "TURNED" (1), .int "EAST_SIGN" (2), .int "NORTH_SIGN" (3), .int "EXCHANGED" (4), .int "TWICE" (5), .int "LEFT_OUT" (6), .int "EAST_DIGITS" (7)]
def fa12 : List He.Fa := [.int "NORTH_DIGITS" (8), .glo "POWERS", .int "LONGEST_TEXT" (16384), .int "MOST_WIDE" (100000), .int "OUT_OF_BOUNDS_requests" (-1), .int "TOO_LONG" (-2), .int "NO_SUCH" (-4), .int "NOT_NOW" (-5), .int "FAULTY" (-6), .int "FULL" (-7), .int "BOOK" (18), .glo "DEEDS"]
def fa13 : List He.Fa := [.glo "NUMBERS", .free "Exception", .free "abs", .free "enumerate", .free "len", .free "list", .free "min", .free "ord", .free "range", .free "sorted", .free "str", .free "sum"]
def fa14 : List He.Fa := [.free "tuple", .cls "Leg", .mkr "Leg", .noat "Leg" "east", .noat "Leg" "length", .noat "Leg" "north", .noat "Leg" "point", .cls "Run", .mkr "Run", .noat "Run" "begin", .noat "Run" "goal", .noat "Run" "legs"]
def fa15 : List He.Fa := [.cls "Book", .mkr "Book", .noat "Book" "known", .noat "Book" "runs", .cls "Reader", .mkr "Reader", .noat "Reader" "tokens", .noat "Reader" "turn", .meth "Reader" "is_done", .meth "Reader" "is_next", .meth "Reader" "take", .meth "Reader" "take_written"]
def fa16 : List He.Fa := [.meth "Reader" "take_number", .meth "Reader" "take_point", .meth "Reader" "take_step", .meth "Reader" "take_known", .cls "Office", .mkr "Office", .noat "Office" "book"]
def fa : List He.Fa := fa0 ++ (fa1 ++ (fa2 ++ (fa3 ++ (fa4 ++ (fa5 ++ (fa6 ++ (fa7 ++ (fa8 ++ (fa9 ++ (fa10 ++ (fa11 ++ (fa12 ++ (fa13 ++ (fa14 ++ (fa15 ++ (fa16))))))))))))))))
def loose0 : List PySem.Str := ["TAB", "NEWLINE", "RETURN", "BLANK", "QUOTE", "REMARK", "NOUGHT", "NINE", "BACKSLASH", "UNDERSCORE", "FIRST_SHOWN", "LAST_SHOWN"]
def loose1 : List PySem.Str := ["NONE", "WORD", "NUMBER", "QUOTED", "SIGN", "END", "LONGEST_WORD", "LONGEST_NUMBER", "LONGEST_QUOTED", "SIGNS", "spelled", "is_letter"]
def loose2 : List PySem.Str := ["is_digit", "is_word_code", "is_blank", "is_quotable", "behind_blanks", "behind_digits", "behind_word", "word_at", "worth", "number_at", "quoted_at", "sign_at"]
def loose3 : List PySem.Str := ["token_at", "tokens_of", "LEAST_POINT", "MOST_POINT", "MOST_PLACE", "MOST_RUNS", "MOST_LEGS", "MOST_STEP", "MOST_LENGTH", "Leg", "Run", "Book"]
def loose4 : List PySem.Str := ["is_within", "is_point", "is_step", "is_reached", "has_arrived", "may_reach", "passes_by", "leg_count", "known_line", "run_line", "leg_line", "printed"]
def loose5 : List PySem.Str := ["NO_TOKEN", "OUT_OF_PLACE", "OUT_OF_BOUNDS_reader", "NOT_ABOVE", "NOT_KNOWN", "NOT_REACHED", "TOO_MANY", "Fault", "Reader", "read_known", "read_run", "read_leg"]
def loose6 : List PySem.Str := ["read_book", "greatest_divisor", "fraction", "plus", "minus", "through", "is_above", "NOT_PASSED", "lengths_together", "miss_of", "square", "shared_leg"]
def loose7 : List PySem.Str := ["places_of", "turn_of", "place_by", "leg_shared", "place_between", "mean_place", "double_area", "greatest_ratio", "along", "most_along", "TURNED", "EAST_SIGN"]
def loose8 : List PySem.Str := ["NORTH_SIGN", "EXCHANGED", "TWICE", "LEFT_OUT", "EAST_DIGITS", "NORTH_DIGITS", "POWERS", "digit_at", "exchanged", "digit_pairs", "all_readings", "readings_of"]
def loose9 : List PySem.Str := ["find_reading", "slip_of", "slips_of", "missed_with", "best_single", "pairs_behind", "best_pair", "explains", "slips_told", "LONGEST_TEXT", "MOST_WIDE", "OUT_OF_BOUNDS_requests"]
def loose10 : List PySem.Str := ["TOO_LONG", "NO_SUCH", "NOT_NOW", "FAULTY", "FULL", "Office", "has_run", "has_leg", "has_point", "arrived_error", "add_known", "add_run"]
def loose11 : List PySem.Str := ["add_leg", "take_back", "tell_miss", "tell_point", "tell_part", "tell_ratio", "tell_area", "tell_most", "tell_readings", "explain", "reading_told", "tell_with"]
def loose12 : List PySem.Str := ["mend", "tell_apart", "tell_passes", "tell_mean", "take_book", "tell_text", "tell_sizes", "BOOK", "DEEDS", "NUMBERS", "behind_call", "answer_of"]
def loose : List PySem.Str := loose0 ++ (loose1 ++ (loose2 ++ (loose3 ++ (loose4 ++ (loose5 ++ (loose6 ++ (loose7 ++ (loose8 ++ (loose9 ++ (loose10 ++ (loose11 ++ (loose12))))))))))))
def kv_DEEDS : List (Int × He.Dv) := [(1, .glo "add_known"), (2, .glo "add_run"), (3, .glo "add_leg"), (4, .glo "take_back"), (5, .glo "tell_miss"), (6, .glo "tell_point"), (7, .glo "tell_part"), (8, .glo "tell_ratio"), (9, .glo "tell_area"), (10, .glo "tell_most"), (11, .glo "tell_readings"), (12, .glo "explain"), (13, .glo "tell_with"), (14, .glo "mend"), (15, .glo "tell_apart"), (16, .glo "tell_passes"), (17, .glo "tell_mean"), (19, .glo "tell_text"), (20, .glo "tell_sizes")]
def kv_NUMBERS : List (Int × He.Dv) := [(1, .int 3), (2, .int 2), (3, .int 5), (4, .int 1), (5, .int 1), (6, .int 2), (7, .int 2), (8, .int 1), (9, .int 1), (10, .int 1), (11, .int 2), (12, .int 2), (13, .int 4), (14, .int 4), (15, .int 3), (16, .int 1), (17, .int 1), (19, .int 0), (20, .int 0)]
def powers : List He.Dv := [.int 1, .int 10, .int 100, .int 1000, .int 10000]
abbrev exBase : List Value := [.type "Exception", .type "BaseException", .type "object"]
/-- a written dict with whole numbers for keys: its form, its values at some keys -/
def idicB (K : PySem.W.Frag) (a : Addr) (kvs : List (Int × He.Dv)) : Bool := match K.lookup a with
  | some ⟨.type c, none, .dict es _, sl⟩ => decide (c = "dict") && (sl.isEmpty && ((es.toList.all fun e => match e.key with
    | .int k _ => decide (e.hash = hashInt k)
    | _ => false) && kvs.all fun q => match findBy Value.isInt es q.1 with
      | some u => He.relB (q.2.v K) u
      | none => false))
  | _ => false
/-- what is asked of Fault besides -/
def faultB (K : PySem.W.Frag) : Bool :=
  PySem.W.excInitIn K (He.ga K "Fault") exBase "Exception.__new__" && (PySem.W.excOver K (He.ga K "Fault") exBase && (PySem.W.hasDictIn K (He.ga K "Fault") && (PySem.W.keepIn K (.ref (He.ga K "Fault")) &&
  (decide (PySem.W.subIn K (.ref (He.ga K "Fault")) (.type "BaseException") = some true) && (decide (PySem.W.typeIn K (.ref (He.ga K "Fault")) = some (.type "type")) &&
  (He.eqO (PySem.W.findIn K (.ref (He.ga K "Fault")) "__setattr__") (some (some (.builtin "object.__setattr__"))) && (He.eqO (PySem.W.findIn K (.ref (He.ga K "Fault")) "__getattribute__") (some (some (.builtin "BaseException.__getattribute__"))) &&
  (He.eqO (PySem.W.findIn K (.ref (He.ga K "Fault")) "__getattr__") (some none) && (He.eqO (PySem.W.findIn K (.ref (He.ga K "Fault")) "kind") (some none) && (He.eqO (PySem.W.findIn K (.ref (He.ga K "Fault")) "place") (some none) &&
  (He.eqO (PySem.W.findIn K (.ref (He.ga K "Fault")) "__init__") (some (some (.ref (He.ma K (He.ga K "Fault") "__init__")))) && (decide (PySem.W.typeIn K (.ref (He.ma K (He.ga K "Fault") "__init__")) = some (.type "function")) &&
  (decide (PySem.W.exmOne K (.ref (He.ga K "Fault")) (.ref (He.ga K "Fault")) = some true))))))))))))))
def exB (K : PySem.W.Frag) : Bool := faultB K && (He.tupB K "POWERS" powers && (idicB K (He.ga K "DEEDS") kv_DEEDS && idicB K (He.ga K "NUMBERS") kv_NUMBERS))
/-- the objects that are looked at -/
def adrs : List Addr := mainGlobals :: List.range 841
abbrev R : PySem.W.OpenSpec := PySem.Challenge.rw_legtraverse_s01_answers
abbrev AlT : Type := He.AlD × Bool
def obsT (g : Addr → Option Obj) : AlT := (He.obsD fa fn (He.frG g adrs), exB (He.frG g adrs))
def hk : PySem.W.Hook where
  α := AlT
  obs := fun s => obsT s.heap.get?
  val := fun _ => (He.valD fn, true)
  says := fun _ h => ∃ K : PySem.W.Frag, K.In h ∧ He.SaysD fa fn K ∧ exB K = true
  of := fun _ _ e => ⟨_, He.frG_in, congrArg (fun z : AlT => z.1) e, congrArg (fun z : AlT => z.2) e⟩
  keeps := fun _ _ _ ⟨K, hK, c⟩ k => ⟨K, PySem.W.Frag.In.keeps hK k, c⟩
def ob (s : PySem.W.SharedT) : AlT := obsT (HandSHeadRun.getT s)
theorem ob_eq (s : PySem.W.SharedT) : ob s = hk.obs s.abs := by
  have e : HandSHeadRun.getT s = s.abs.heap.get? := funext (HandSHeadRun.getT_eq s)
  unfold ob
  rw [e]
  rfl
end Trav
section
open PySem.W PySem.Calls
namespace Trav
open PySem PySem.Spec PyProof.Rows L2
/-! ## The run of the top, looked at in parts (each part runs it anew: the memory) -/
abbrev View : Program := PySem.W.view R.prog [164]
noncomputable abbrev behind (w : World) (os : OsState) : Option PySem.W.SharedT := HandSHeadRun.endF (HandSHeadRun.stepQ (HandSHeadRun.denQ HandSHeadRun.tabQ) R.prog w) 6400 R.prog w os
def ob1 (s : PySem.W.SharedT) : Bool := (fa.all fun f => f.ok (He.frG (HandSHeadRun.getT s) adrs)) && exB (He.frG (HandSHeadRun.getT s) adrs)
def ob2 (s : PySem.W.SharedT) : Bool × List He.FnW := ((fn.all fun d => d.ok (He.frG (HandSHeadRun.getT s) adrs)), fn.map fun d => He.fnW (He.frG (HandSHeadRun.getT s) adrs) d.at_)
abbrev Part0 (w : World) : Prop := ∀ os : OsState, (behind w os).map (fun s => (HandSHeadRun.looksF R.prog (PySem.W.boot_heap w.params) s.abs,
    HandSHeadRun.seenQ View loose (importedModules R.prog.main.body) (fun s => PySem.W.xlAt View [] s && PySem.W.recOk [] s) s.abs)) = some (true, PySem.W.openGood View loose)
abbrev Part1 (w : World) : Prop := ∀ os : OsState, (behind w os).map ob1 = some true
abbrev Part2 (w : World) : Prop := ∀ os : OsState, (behind w os).map ob2 = some (true, fn.map He.DefD.val)
theorem part0f (w : World) : Part0 (w.withFollow "special-get-raises" false) := fun os => by kernel_rfl
theorem part0t (w : World) : Part0 (w.withFollow "special-get-raises" true) := fun os => by kernel_rfl
theorem part1f (w : World) : Part1 (w.withFollow "special-get-raises" false) := fun os => by kernel_rfl
theorem part1t (w : World) : Part1 (w.withFollow "special-get-raises" true) := fun os => by kernel_rfl
theorem part2f (w : World) : Part2 (w.withFollow "special-get-raises" false) := fun os => by kernel_rfl
theorem part2t (w : World) : Part2 (w.withFollow "special-get-raises" true) := fun os => by kernel_rfl
theorem run_one {w : World} (p0 : Part0 w) (p1 : Part1 w) (p2 : Part2 w) : HandSHeadRun.RunEqS R View hk ob 6400 loose w := by
  intro os
  obtain ⟨s, e0, h0⟩ := Option.map_eq_some_iff.mp (p0 os)
  have h1 := p1 os
  have h2 := p2 os
  rw [e0] at h1 h2
  have q1 : ob1 s = true := Option.some.inj h1
  have q2 : ob2 s = (true, fn.map He.DefD.val) := Option.some.inj h2
  have a1 := Bool.and_eq_true_iff.mp q1
  have a2 : (fn.all fun d => d.ok (He.frG (HandSHeadRun.getT s) adrs)) = true := congrArg (fun z : Bool × List He.FnW => z.1) q2
  have a3 : (fn.map fun d => He.fnW (He.frG (HandSHeadRun.getT s) adrs) d.at_) = fn.map He.DefD.val := congrArg (fun z : Bool × List He.FnW => z.2) q2
  have q : ob s = (He.valD fn, true) := by
    show (((fa.all fun f => f.ok (He.frG (HandSHeadRun.getT s) adrs)) && fn.all fun d => d.ok (He.frG (HandSHeadRun.getT s) adrs), fn.map fun d => He.fnW (He.frG (HandSHeadRun.getT s) adrs) d.at_), exB (He.frG (HandSHeadRun.getT s) adrs)) = ((true, fn.map He.DefD.val), true)
    rw [a1.1, a1.2, a2, a3] <;> rfl
  show (behind w os).map _ = _
  rw [e0]
  show some _ = some _
  have z1 := congrArg (fun z => z.1) h0
  have z2 := congrArg (fun z => z.2) h0
  exact congrArg some (Prod.ext z1 (Prod.ext z2 q))
theorem run (w : World) : HandSHeadRun.RunEqS R View hk ob 6400 loose w :=
  PySem.W.byRow2 "special-get-raises" (P := fun w => HandSHeadRun.RunEqS R View hk ob 6400 loose w) (fun w => run_one (part0f w) (part1f w) (part2f w)) (fun w => run_one (part0t w) (part1t w) (part2t w)) w
end Trav
end
namespace Trav
open PySem PySem.Spec PyProof.Rows L2 Evl
/-! ## What the head gives -/
structure Txt (K : PySem.W.Frag) (mg : Str → Option Value) : Prop where
  says : He.SaysD fa fn K
  ex : exB K = true
  h : ∃ h : Heap, K.In h ∧ h.Ns mainGlobals mg
/-- a def of the top, as its callers take it -/
structure Def (P : Program) (w : World) (K : PySem.W.Frag) (mg : Str → Option Value) (base : Heap) (CX : CXT) (k : Nat) (x : Str) (ps : List Str) (sp : Sp) : Prop where
  ex : ∃ fd : FuncData, FnOk P w K mg base CX k (He.ga K x) fd ps sp ∧ Binds K fd ps []
  kp : PySem.W.keepIn K (.ref (He.ga K x)) = true
  gl : mg x = some (.ref (He.ga K x))
/-- a method of a class of the top -/
structure MDef (P : Program) (w : World) (K : PySem.W.Frag) (mg : Str → Option Value) (base : Heap) (CX : CXT) (k : Nat) (C m : Str) (ps : List Str) (sp : Sp) : Prop where
  ex : ∃ fd : FuncData, FnOk P w K mg base CX k (He.ma K (He.ga K C) m) fd ps sp ∧ Binds K fd ps []
section
variable {P : Program} {w : World} {K : PySem.W.Frag} {mg : Str → Option Value} {base : Heap} {CX : CXT}
theorem Txt.glo (T : Txt K mg) (i : Nat) {x : Str} (h : fa[i]? = some (.glo x)) : mg x = some (.ref (He.ga K x)) :=
  let ⟨_, X, G⟩ := T.h; He.glo_ok X G (T.says.fact i h)
theorem Txt.free (T : Txt K mg) (i : Nat) {x : Str} (h : fa[i]? = some (.free x)) : mg x = none :=
  let ⟨_, X, G⟩ := T.h; He.free_ok X G (T.says.fact i h)
theorem Txt.int (T : Txt K mg) (i : Nat) {x : Str} {v : Int} (h : fa[i]? = some (.int x v)) : ∃ t, mg x = some (.int v t) :=
  let ⟨_, X, G⟩ := T.h; He.int_ok X G (T.says.fact i h)
theorem Txt.str (T : Txt K mg) (i : Nat) {x v : Str} (h : fa[i]? = some (.str x v)) : ∃ t, mg x = some (.str v t) :=
  let ⟨_, X, G⟩ := T.h; He.str_ok X G (T.says.fact i h)
theorem Txt.cls (T : Txt K mg) (i : Nat) {x : Str} (h : fa[i]? = some (.cls x)) : Cls K (He.ga K x) := He.cls_ok (T.says.fact i h)
theorem Txt.noat (T : Txt K mg) (i : Nat) {x f : Str} (h : fa[i]? = some (.noat x f)) : NoAttr K (He.ga K x) f := He.noat_ok (T.says.fact i h)
theorem Txt.meth (T : Txt K mg) (i : Nat) {x m : Str} (h : fa[i]? = some (.meth x m)) : Meth K (He.ga K x) m (He.ma K (He.ga K x) m) := He.meth_ok (T.says.fact i h)
theorem Txt.mkr (T : Txt K mg) (i : Nat) {x : Str} (h : fa[i]? = some (.mkr x)) : Mk K (He.ga K x) (He.ma K (He.ga K x) "__init__") := He.mkr_ok (T.says.fact i h)
/-- a def keeps its promise, by its body -/
theorem Txt.def_ (T : Txt K mg) (i j : Nat) {d : He.DefD} {x : Str} (h : fn[i]? = some d) (hj : fa[j]? = some (.glo x)) (ha : d.at_ = (x, none)) (h0 : d.dfl = []) (h1 : d.kwd = [])
    {N ps : List Str} {k : Nat} {sp : Sp} (S : FnScope N ps d.scope)
    (hb : ∀ (kV doc pm : Value) (an : Option Addr) (cdv ct : Value) (us : List Value), us.length = ps.length → bindArgs (PySem.W.fnOf d.name d.qual d.params d.body d.scope .none kV doc pm an cdv ct) ⟨us, []⟩ = pure (ps.zip us))
    (len : ∀ vs H Q E, sp vs H Q E → vs.length = ps.length)
    (hbody : ∀ (f : Addr) (cdv : Value) (A : Around) (outer : List Env) (s : Shared) (H : Hp) (vs : List V) (Q : VK) (E : XK), Room k (A.deeper (envOfC d.qual d.scope s.heap.objs.size f cdv)) → sp vs H Q E →
      ∃ t, PSs (cxOf CX P w K mg base N d.qual d.scope f cdv A outer s H E) d.body t ∧ t { nx := fun _ H' => Q .non H', rt := Q } (start N vs) H) : Def P w K mg base CX (k + 1) x ps sp := by
  obtain ⟨fd, F⟩ := T.says.def_ i h
  have e0 : d.dvs K = [] := by unfold He.DefD.dvs; rw [h0]; rfl
  have e1 : d.kws K = [] := by unfold He.DefD.kws; rw [h1]; rfl
  rw [e0, e1] at F
  have ea : He.fAd K d.at_ = He.ga K x := by rw [ha]; rfl
  rw [ea] at F
  exact ⟨⟨fd, F.ok S len (hbody (He.ga K x)), F.bindsN hb⟩, F.kp, T.glo j hj⟩
theorem Txt.mdef (T : Txt K mg) (i : Nat) {d : He.DefD} {C m : Str} (h : fn[i]? = some d) (ha : d.at_ = (C, some m)) (h0 : d.dfl = []) (h1 : d.kwd = [])
    {N ps : List Str} {k : Nat} {sp : Sp} (S : FnScope N ps d.scope)
    (hb : ∀ (kV doc pm : Value) (an : Option Addr) (cdv ct : Value) (us : List Value), us.length = ps.length → bindArgs (PySem.W.fnOf d.name d.qual d.params d.body d.scope .none kV doc pm an cdv ct) ⟨us, []⟩ = pure (ps.zip us))
    (len : ∀ vs H Q E, sp vs H Q E → vs.length = ps.length)
    (hbody : ∀ (f : Addr) (cdv : Value) (A : Around) (outer : List Env) (s : Shared) (H : Hp) (vs : List V) (Q : VK) (E : XK), Room k (A.deeper (envOfC d.qual d.scope s.heap.objs.size f cdv)) → sp vs H Q E →
      ∃ t, PSs (cxOf CX P w K mg base N d.qual d.scope f cdv A outer s H E) d.body t ∧ t { nx := fun _ H' => Q .non H', rt := Q } (start N vs) H) : MDef P w K mg base CX (k + 1) C m ps sp := by
  obtain ⟨fd, F⟩ := T.says.def_ i h
  have e0 : d.dvs K = [] := by unfold He.DefD.dvs; rw [h0]; rfl
  have e1 : d.kws K = [] := by unfold He.DefD.kws; rw [h1]; rfl
  rw [e0, e1] at F
  have ea : He.fAd K d.at_ = He.ma K (He.ga K C) m := by rw [ha]; rfl
  rw [ea] at F
  exact ⟨⟨fd, F.ok S len (hbody _), F.bindsN hb⟩⟩
end
/-! ## Rules in short -/
section
variable {X : Cx} {CX : CXT} {k j : Nat} {ps : List Str} {sp : Sp} {E : XK} {x m C : Str} {p pos apos : Pos} {e o : Expr} {es : List Expr} {ta : TE} {t : TA}
/-- a whole number of the top -/
theorem pe_gi {i : Int} (h : ∃ t, X.mg x = some (.int i t)) (hg : Gl X x := by rfl) (hd : (x == ("__debug__" : Str)) = false := by decide) : PE X (.Name x pos) (tC (.int i)) := by
  obtain ⟨t, h⟩ := h
  exact pe_glob hg h ⟨t, rfl⟩ hd
/-- a text of the top -/
theorem pe_gs {z : Str} (h : ∃ t, X.mg x = some (.str z t)) (hg : Gl X x := by rfl) (hd : (x == ("__debug__" : Str)) = false := by decide) : PE X (.Name x pos) (tC (.str z)) := by
  obtain ⟨t, h⟩ := h
  exact pe_glob hg h ⟨t, rfl⟩ hd
/-- an object of the top -/
theorem pe_gr {a : Addr} (h : X.mg x = some (.ref a)) (hg : Gl X x := by rfl) (hd : (x == ("__debug__" : Str)) = false := by decide) : PE X (.Name x pos) (tC (.ref a)) := pe_glob hg h rfl hd
theorem pe_cd (D : Def X.prog X.w X.K X.mg X.base CX k x ps sp) (hr : Room j X.A) (hx : Passes CX X E) (ha : PA X (e :: es) t) (hk : k ≤ j := by decide) (hg : Gl X x := by rfl)
    (hdb : (x == ("__debug__" : Str)) = false := by decide) (he : starEach (e :: es) X.env = (false, eval e X.env) :: starEach es X.env := by rfl) (hpl : (backTo pos (starEach es X.env)).any (·.1) = false := by rfl) :
    PE X (.Call (.Name x p) (e :: es) [] pos) (tCall sp [] E t) := by
  obtain ⟨fd, F, B⟩ := D.ex
  exact pe_call F (hr.mono hk) hg D.gl D.kp B .nil hx ha hdb he hpl
theorem pe_md {pl : Sem Bool} (D : MDef X.prog X.w X.K X.mg X.base CX k C m ps sp) (he : PE X o ta) (c : Cls X.K (He.ga X.K C)) (hm : Meth X.K (He.ga X.K C) m (He.ma X.K (He.ga X.K C) m)) (hr : Room j X.A) (hx : Passes CX X E) (ha : PA X (e :: es) t) (hk : k ≤ j := by decide)
    (hst : starEach (e :: es) X.env = (false, eval e X.env) :: starEach es X.env := by rfl) (hpl : (backTo pos (starEach es X.env)).any (·.1) = false := by rfl)
    (ht : eval (.Call (.Attribute o m apos) (e :: es) [] pos) X.env = (do
      let ov ← eval o X.env
      standAt apos.atName
      let (f, first) ← holding [ov] (getMethod ov m pl)
      callWith pos f first (backTo pos (starEach (e :: es) X.env)) (backToKw pos (keywordEach [] X.env))) := by rfl) :
    PE X (.Call (.Attribute o m apos) (e :: es) [] pos) (tMeth (He.ga X.K C) m sp [] E ta t) := by
  obtain ⟨fd, F, B⟩ := D.ex
  exact pe_meth he c hm F (hr.mono hk) B .nil hx ha hst hpl ht
theorem pe_md0 {pl : Sem Bool} (D : MDef X.prog X.w X.K X.mg X.base CX k C m ps sp) (he : PE X o ta) (c : Cls X.K (He.ga X.K C)) (hm : Meth X.K (He.ga X.K C) m (He.ma X.K (He.ga X.K C) m)) (hr : Room j X.A) (hx : Passes CX X E) (hk : k ≤ j := by decide)
    (ht : eval (.Call (.Attribute o m apos) [] [] pos) X.env = (do
      let ov ← eval o X.env
      standAt apos.atName
      let (f, first) ← holding [ov] (getMethod ov m pl)
      callWith pos f first (backTo pos (starEach [] X.env)) (backToKw pos (keywordEach [] X.env))) := by rfl) :
    PE X (.Call (.Attribute o m apos) [] [] pos) (tMeth (He.ga X.K C) m sp [] E ta tNil) := by
  obtain ⟨fd, F, B⟩ := D.ex
  exact pe_meth0 he c hm F (hr.mono hk) B .nil hx ht
theorem pe_mk (D : MDef X.prog X.w X.K X.mg X.base CX k x "__init__" ps sp) (M : Mk X.K (He.ga X.K x) (He.ma X.K (He.ga X.K x) "__init__")) (hm : X.mg x = some (.ref (He.ga X.K x))) (hr : Room j X.A) (hx : Passes CX X E) (ha : PA X (e :: es) t) (hk : k + 1 ≤ j := by decide) (hg : Gl X x := by rfl)
    (hdb : (x == ("__debug__" : Str)) = false := by decide) (he : starEach (e :: es) X.env = (false, eval e X.env) :: starEach es X.env := by rfl) (hpl : (backTo pos (starEach es X.env)).any (·.1) = false := by rfl) :
    PE X (.Call (.Name x p) (e :: es) [] pos) (tMake (He.ga X.K x) sp [] E t) := by
  obtain ⟨fd, F, B⟩ := D.ex
  exact pe_make M F (hr.mono hk) hg hm B .nil hx ha hdb he hpl
theorem pe_mk0 (D : MDef X.prog X.w X.K X.mg X.base CX k x "__init__" ps sp) (M : Mk X.K (He.ga X.K x) (He.ma X.K (He.ga X.K x) "__init__")) (hm : X.mg x = some (.ref (He.ga X.K x))) (hr : Room j X.A) (hx : Passes CX X E) (hk : k + 1 ≤ j := by decide) (hg : Gl X x := by rfl)
    (hdb : (x == ("__debug__" : Str)) = false := by decide) :
    PE X (.Call (.Name x p) [] [] pos) (tMake (He.ga X.K x) sp [] E tNil) := by
  obtain ⟨fd, F, B⟩ := D.ex
  exact pe_make0 M F (hr.mono hk) hg hm B .nil hx hdb
end
end Trav
namespace Trav
open PySem PySem.Spec PyProof.Rows L2 Evl
/-! ## Readings whose value may be new: P tells of the value and of the heap behind it -/
def EvP (te : TE) (σ : L2.St) (H : Hp) (P : V → Hp → Prop) : Prop := ∀ H1, Ex H H1 → ∀ Q : VK, (∀ v H2, Ex H1 H2 → P v H2 → Q v H2) → te σ H1 Q
/-- a new tuple of these, a new list of these -/
def NewT (xs : List V) : V → Hp → Prop := fun v H => ∃ p, v = .ref p ∧ H p = some (.tup xs)
/-- what a def hands back -/
def Ret (P : V → Hp → Prop) (H : Hp) (Q : VK) : Prop := ∀ v H2, Ex H H2 → P v H2 → Q v H2
section
variable {K : PySem.W.Frag} {σ : L2.St} {H H' H0 : Hp} {ta tb te : TE} {t u : TT} {x y z v : V} {r : R2} {P : V → Hp → Prop}
theorem EvP.mono (e : Ex H H') (h : EvP te σ H P) : EvP te σ H' P := fun H1 a Q q => h H1 (e.trans a) Q q
theorem EvP.imp {P' : V → Hp → Prop} (h : EvP te σ H P) (f : ∀ v H1, Ex H H1 → P v H1 → P' v H1) : EvP te σ H P' := fun H1 a Q q => h H1 a Q fun v H2 e p => q v H2 e (f v H2 (a.trans e) p)
theorem ev_p (h : Ev te σ H v) : EvP te σ H (fun v' _ => v' = v) := fun H1 e Q q => h H1 e Q fun H2 e2 => q v H2 e2 rfl
theorem evp_of (h : Ev te σ H v) (hp : ∀ H1, Ex H H1 → P v H1) : EvP te σ H P := fun H1 e Q q => h H1 e Q fun H2 e2 => q v H2 e2 (hp H2 (e.trans e2))
theorem ev_fld {a C dx : Addr} {fs : List (Str × V)} {f : Str} (h : Ev ta σ H (.ref a)) (ho : H a = some (.ins C dx fs)) (hc : Cls K C) (hn : NoAttr K C f) (hl : fs.lookup f = some v) : Ev (tFld K ta f) σ H v := fun H1 e Q q =>
  h H1 e _ fun H2 e2 => ⟨a, C, dx, fs, v, rfl, e2 a _ (e a _ ho), hc, hn, hl, q H2 e2⟩
theorem ev_chain {r r' : R2} {tc : TE} {a b : Bool} (ha : Ev ta σ H x) (hb : Ev tb σ H y) (hr : RV r x y H (.bl a)) (hc : a = true → Ev tc σ H z) (hr' : a = true → RV r' y z H (.bl b)) (h0 : a = false → b = false) : Ev (tChain r r' ta tb tc) σ H (.bl b) := fun H1 e Q q =>
  ha H1 e _ fun H2 e2 => hb H2 (e.trans e2) _ fun H3 e3 => hr H3 ((e.trans e2).trans e3) _ fun H4 e4 => ⟨a, rfl, by
    cases a with
    | true =>
      rw [if_pos rfl]
      exact hc rfl H4 (((e.trans e2).trans e3).trans e4) _ fun H5 e5 => hr' rfl H5 ((((e.trans e2).trans e3).trans e4).trans e5) Q fun H6 e6 => q H6 ((((e2.trans e3).trans e4).trans e5).trans e6)
    | false =>
      rw [if_neg Bool.false_ne_true]
      have e0 := h0 rfl
      subst e0
      exact q H4 ((e2.trans e3).trans e4)⟩
/-- 65 <= c <= 90 -/
theorem ev_within {tc : TE} {i j k : Int} (ha : Ev ta σ H (.int i)) (hb : Ev tb σ H (.int j)) (hc : Ev tc σ H (.int k)) :
    Ev (tChain (rI0 fun i j => .bl (decide (i ≤ j))) (rI0 fun i j => .bl (decide (i ≤ j))) ta tb tc) σ H (.bl (decide (i ≤ j) && decide (j ≤ k))) := by
  refine ev_chain (a := decide (i ≤ j)) ha hb rv_I0 (fun _ => hc) (fun h => ?_) (fun h => by rw [h]; rfl)
  rw [h, Bool.true_and]
  exact rv_I0
/-- a def's call -/
theorem evp_call {sp : Sp} {vs : List V} {E : XK} {ta : TA} (h : EvA ta σ H vs) (hs : ∀ H1, Ex H H1 → ∀ Q : VK, Ret P H1 Q → sp vs H1 Q E) : EvP (tCall sp [] E ta) σ H P := fun H1 e Q q =>
  h H1 e _ fun H2 e2 => by
    show sp (vs ++ []) H2 Q E
    rw [List.append_nil]
    exact hs H2 (e.trans e2) Q fun v H3 e3 p => q v H3 (e2.trans e3) p
theorem ev_callV {sp : Sp} {vs : List V} {E : XK} {ta : TA} (h : EvA ta σ H vs) (hs : ∀ H1, Ex H H1 → ∀ Q : VK, RetV z H1 Q → sp vs H1 Q E) : Ev (tCall sp [] E ta) σ H z := fun H1 e Q q =>
  h H1 e _ fun H2 e2 => by
    show sp (vs ++ []) H2 Q E
    rw [List.append_nil]
    exact hs H2 (e.trans e2) Q fun H3 e3 => q H3 (e2.trans e3)
theorem evp_tup {ta : TA} {xs : List V} (h : EvA ta σ H xs) (hl : xs.length ≤ 100000) : EvP (tTup ta) σ H (NewT xs) := fun H1 e Q q =>
  h H1 e _ fun H2 e2 => ⟨sz_of hl, fun p hp => q _ _ (e2.trans (Ex.new hp)) ⟨p, rfl, upd_same⟩⟩
theorem ev_retP {D : Ends} (h : EvP te σ H P) (k : ∀ v H1, Ex H H1 → P v H1 → D.rt v H1) : ∀ H1, Ex H H1 → tRet te D σ H1 := fun H1 e => h H1 e _ fun v H2 e2 p => k v H2 (e.trans e2) p

/-! ## Statements from a heap on: t goes from any heap that holds what H holds -/
def Sv (t : TS) (D : Ends) (σ : L2.St) (H : Hp) : Prop := ∀ H1, Ex H H1 → t D σ H1
variable {D : Ends} {tz ts tu : TS}
theorem Sv.go (h : Sv ts D σ H) : ts D σ H := h H (Ex.refl H)
theorem Sv.mono (e : Ex H H') (h : Sv ts D σ H) : Sv ts D σ H' := fun H1 a => h H1 (e.trans a)
theorem sv_set {i : Nat} (h : Ev te σ H v) (k : Sv tz D (σ.set i (some v)) H) : Sv (tSeq (tAsg te (gName i)) tz) D σ H := fun H1 e =>
  h H1 e _ fun H2 e2 => k H2 (e.trans e2)
theorem sv_setP {i : Nat} (h : EvP te σ H P) (k : ∀ v H2, Ex H H2 → P v H2 → Sv tz D (σ.set i (some v)) H2) : Sv (tSeq (tAsg te (gName i)) tz) D σ H := fun H1 e =>
  h H1 e _ fun v H2 e2 p => (k v H2 (e.trans e2) p).go
theorem sv_ret (h : Ev te σ H v) (k : ∀ H1, Ex H H1 → D.rt v H1) : Sv (tRet te) D σ H := fun H1 e => h H1 e _ fun H2 e2 => k H2 (e.trans e2)
theorem sv_retP (h : EvP te σ H P) (k : ∀ v H1, Ex H H1 → P v H1 → D.rt v H1) : Sv (tRet te) D σ H := ev_retP h k
/-- an if without else -/
theorem sv_when {b : Bool} (h : EvT t σ H b) (h1 : b = true → Sv tu { D with nx := tz D } σ H) (h2 : b = false → Sv tz D σ H) : Sv (tSeq (tIfS t tu tNext) tz) D σ H := fun H1 e =>
  h H1 e _ fun H2 e2 => by
    cases b with
    | true => exact h1 rfl H2 (e.trans e2)
    | false => exact h2 rfl H2 (e.trans e2)
theorem sv_if {b : Bool} (h : EvT t σ H b) (h1 : b = true → Sv tu D σ H) (h2 : b = false → Sv ts D σ H) : Sv (tIfS t tu ts) D σ H := fun H1 e =>
  h H1 e _ fun H2 e2 => by
    cases b with
    | true => exact h1 rfl H2 (e.trans e2)
    | false => exact h2 rfl H2 (e.trans e2)
theorem sv_ifs {b : Bool} (h : EvT t σ H b) (h1 : b = true → Sv tu { D with nx := tz D } σ H) (h2 : b = false → Sv ts { D with nx := tz D } σ H) : Sv (tSeq (tIfS t tu ts) tz) D σ H := fun H1 e =>
  h H1 e _ fun H2 e2 => by
    cases b with
    | true => exact h1 rfl H2 (e.trans e2)
    | false => exact h2 rfl H2 (e.trans e2)
theorem sv_next (k : ∀ H1, Ex H H1 → D.nx σ H1) : Sv tNext D σ H := k
theorem sv_last {i : Nat} (h : Ev te σ H v) (k : ∀ H1, Ex H H1 → D.nx (σ.set i (some v)) H1) : Sv (tAsg te (gName i)) D σ H := fun H1 e => h H1 e _ fun H2 e2 => k H2 (e.trans e2)
/-- for i in range(a, b): the slots tell, the heap only grows -/
theorem sv_forR {ta : TA} {j : Nat} {lo hi : Int} (h : EvA ta σ H [.int lo, .int hi]) (hb : -1000000 ≤ lo ∧ lo ≤ 1000000 ∧ -1000000 ≤ hi ∧ hi ≤ 1000000) (Pv : Nat → L2.St → Prop) (h0 : Pv 0 σ)
    (hs : ∀ (i : Nat) σ', lo + (i : Int) < hi → Pv i σ' → Sv tu { D with nx := fun σ2 H2 => Pv (i + 1) σ2 ∧ Ex H H2, ct := fun σ2 H2 => Pv (i + 1) σ2 ∧ Ex H H2, bk := tz D } (σ'.set j (some (.int (lo + (i : Int))))) H)
    (hd : ∀ σ', Pv (hi - lo).toNat σ' → Sv tz D σ' H) : Sv (tSeq (tFor (iRng2 ta) (gName j) tu) tz) D σ H := fun H1 e =>
  h H1 e _ fun H2 e2 => ⟨lo, hi, rfl, ⟨by omega, by omega, by omega, by omega⟩, for_range (lo := lo) (n := (hi - lo).toNat) (fun i σ2 H3 => Pv i σ2 ∧ Ex H H3) ⟨h0, e.trans e2⟩
    (fun i σ2 H3 hi p => hs i σ2 (by omega) p.1 H3 p.2) fun σ2 H3 p => hd σ2 p.1 H3 p.2⟩

/-! ## Lists, tuples, built-ins -/
def NewL (xs : List V) : V → Hp → Prop := fun v H => ∃ p, v = .ref p ∧ H p = some (.lst xs)
theorem evp_newL {xs : List V} (h : EvL te σ H xs) : EvP te σ H (NewL xs) := fun H1 e Q q => h H1 e Q fun p H2 _ e2 h2 => q _ H2 e2 ⟨p, rfl, h2⟩
theorem evp_lst {ta : TA} {xs : List V} (h : EvA ta σ H xs) (hl : xs.length ≤ 100000) : EvP (tLst ta) σ H (NewL xs) := fun H1 e Q q =>
  h H1 e _ fun H2 e2 => ⟨sz_of hl, fun p hp => q _ _ (e2.trans (Ex.new hp)) ⟨p, rfl, upd_same⟩⟩
theorem ev_len1 {a : Addr} {xs : List V} (h : Ev ta σ H (.ref a)) (hx : SqL K H a xs) :
    Ev (tCB (fun xs H Q => ∃ x n, xs = [x] ∧ LenV K x H n ∧ Q (.int n) H) (tCons ta tNil)) σ H (.int (xs.length : Int)) := fun H1 e Q q =>
  h H1 e _ fun H2 e2 => ⟨.ref a, xs.length, rfl, .inl ⟨xs, ex_l (e.trans e2) hx, rfl⟩, q H2 e2⟩
theorem ev_lenP {xs : List V} (h : EvP ta σ H (NewL xs)) :
    Ev (tCB (fun xs H Q => ∃ x n, xs = [x] ∧ LenV K x H n ∧ Q (.int n) H) (tCons ta tNil)) σ H (.int (xs.length : Int)) := fun H1 e Q q =>
  h H1 e _ fun v H2 e2 ⟨p, ev, hp⟩ => ⟨v, xs.length, rfl, by subst ev; exact .inl ⟨xs, sq_of hp, rfl⟩, q H2 e2⟩
theorem ev_ix {a : Addr} {xs : List V} {i : Int} (ha : Ev ta σ H (.ref a)) (hb : Ev tb σ H (.int i)) (hx : SqL K H a xs) (hi : atI xs i = some v) : Ev (tOp (rIxL K) ta tb) σ H v := ev_op ha hb (rv_ixL hx hi)
theorem ev_ixT {a : Addr} {xs : List V} {i : Int} (ha : Ev ta σ H (.ref a)) (hb : Ev tb σ H (.int i)) (hx : SqT K H a xs) (hi : atI xs i = some v) : Ev (tOp (rIxT K) ta tb) σ H v := ev_op ha hb (rv_ixT hx hi)
/-- sum([..]) -/
theorem ev_sumP {ns : List Int} {xs : List V} (h : EvP ta σ H (NewL xs)) (hx : xs = ns.map V.int) : Ev (tCB (rSum K) (tCons ta tNil)) σ H (.int ns.sum) := fun H1 e Q q =>
  h H1 e _ fun v H2 e2 ⟨p, ev, hp⟩ => ⟨p, ns, by rw [ev] <;> rfl, by rw [hx] at hp; exact sq_of hp, q H2 e2⟩
/-- tuple(a new list) -/
theorem evp_tupL {xs : List V} (h : EvP ta σ H (NewL xs)) :
    EvP (tCB (fun xs H Q => ∃ p ys, xs = [.ref p] ∧ ((SqL K H p ys ∧ ∀ l, H l = none → Q (.ref l) (upd H l (.tup ys))) ∨ (SqT K H p ys ∧ Q (.ref p) H))) (tCons ta tNil)) σ H (NewT xs) := fun H1 e Q q =>
  h H1 e _ fun v H2 e2 ⟨p, ev, hp⟩ => ⟨p, xs, by rw [ev] <;> rfl, .inl ⟨sq_of hp, fun l hl => q _ _ (e2.trans (Ex.new hl)) ⟨l, rfl, upd_same⟩⟩⟩
/-- list(a tuple) -/
theorem evp_listT {xs : List V} (h : EvP ta σ H (fun v H => ∃ p, v = .ref p ∧ SqT K H p xs)) :
    EvP (tCB (fun xs H Q => ∃ p ys, xs = [.ref p] ∧ (SqL K H p ys ∨ SqT K H p ys) ∧ ∀ l, H l = none → Q (.ref l) (upd H l (.lst ys))) (tCons ta tNil)) σ H (NewL xs) := fun H1 e Q q =>
  h H1 e _ fun v H2 e2 ⟨p, ev, hp⟩ => ⟨p, xs, by rw [ev] <;> rfl, .inr hp, fun l hl => q _ _ (e2.trans (Ex.new hl)) ⟨l, rfl, upd_same⟩⟩
theorem newT_sq {xs : List V} (h : EvP ta σ H (NewT xs)) : EvP ta σ H (fun v H => ∃ p, v = .ref p ∧ SqT K H p xs) := h.imp fun v H1 _ ⟨p, e, hp⟩ => ⟨p, e, st_of hp⟩
theorem ev_sqT {a : Addr} {xs : List V} (h : Ev ta σ H (.ref a)) (hx : SqT K H a xs) : EvP ta σ H (fun v H => ∃ p, v = .ref p ∧ SqT K H p xs) := evp_of h fun H1 e => ⟨a, rfl, ex_t e hx⟩
/-- two new lists, one behind the other -/
theorem evp_cat {xs ys : List V} (ha : EvP ta σ H (NewL xs)) (hb : EvP tb σ H (NewL ys)) (hz : xs.length + ys.length ≤ 100000) : EvP (tOp rCat ta tb) σ H (NewL (xs ++ ys)) := fun H1 e Q q =>
  ha H1 e _ fun v H2 e2 ⟨p, ev, hp⟩ => hb H2 (e.trans e2) _ fun u H3 e3 ⟨r, eu, hr⟩ => ⟨p, r, xs, ys, ev, eu, e3 p _ hp, hr, sz_of hz, fun l hl => q _ _ ((e2.trans e3).trans (Ex.new hl)) ⟨l, rfl, upd_same⟩⟩
/-- a slot that holds a list of ours -/
theorem evp_own {i : Nat} {p : Addr} {xs : List V} (h : σ[i]? = some (some (.ref p))) (hp : H p = some (.lst xs)) : EvP (tVar i) σ H (NewL xs) := fun H1 e Q q => ⟨.ref p, h, q _ H1 (Ex.refl H1) ⟨p, rfl, e p _ hp⟩⟩
theorem evp_slice {tl th : TO} {a : Addr} {xs : List V} {lo hi : Option Int} (h : Ev te σ H (.ref a)) (h1 : EvO tl σ H lo) (h2 : EvO th σ H hi) (hs : SqL K H a xs) : EvP (tSl (rSlL K) te tl th) σ H (NewL (cutV xs lo hi)) := evp_newL (el_sl h h1 h2 hs)
theorem cutV_nat {xs : List V} {i j : Nat} (h : i ≤ j) (hj : j ≤ xs.length) : cutV xs (some (i : Int)) (some (j : Int)) = (xs.drop i).take (j - i) := by
  have e : ∀ (k d : Nat), k ≤ xs.length → HT.sIx xs.length d (some (k : Int)) = k := by
    intro k d hk
    unfold HT.sIx
    simp only
    rw [if_neg (by omega)]
    omega
  unfold cutV
  rw [e i 0 (by omega), e j xs.length hj]

/-! ## What is walked -/
def ItOk (wi : TI) (σ : L2.St) (H : Hp) (n : Nat) (Y : Nat → Hp → V → Hp → Prop) : Prop :=
  ∀ H1, Ex H H1 → ∀ R : It → Hp → Prop, (∀ J H2 G, Ex H1 H2 → Walk J n G Y → (∀ H3, Ex H2 H3 → G H3) → R J H2) → wi σ H1 R
theorem it_list {a : Addr} {xs : List V} (h : Ev ta σ H (.ref a)) (hx : SqL K H a xs) : ItOk (iList K ta) σ H xs.length (YAt xs) := fun H1 e R q =>
  h H1 e _ fun H2 e2 => ⟨a, rfl, ⟨xs, ex_l (e.trans e2) hx⟩, q _ H2 _ e2 walk_list fun H3 e3 => ex_l ((e.trans e2).trans e3) hx⟩
theorem it_listP {P : V → Hp → Prop} {xs : List V} (h : EvP ta σ H P) (hx : ∀ v H1, P v H1 → ∃ a, v = .ref a ∧ SqL K H1 a xs) : ItOk (iList K ta) σ H xs.length (YAt xs) := fun H1 e R q =>
  h H1 e _ fun v H2 e2 p => by
    obtain ⟨a, ev, hs⟩ := hx v H2 p
    exact ⟨a, ev, ⟨xs, hs⟩, q _ H2 _ e2 walk_list fun H3 e3 => ex_l e3 hs⟩
theorem it_str {z : Str} (h : Ev ta σ H (.str z)) : ItOk (iStr ta) σ H z.cps.size (fun i H v H' => H' = H ∧ ∃ c, z.cps[i]? = some c ∧ v = .str ⟨#[c]⟩) := fun H1 e R q =>
  h H1 e _ fun H2 e2 => ⟨z, rfl, q _ H2 _ e2 walk_str fun _ _ => trivial⟩
theorem it_enum {a : Addr} {xs : List V} (h : Ev ta σ H (.ref a)) (hx : SqL K H a xs) : ItOk (iEnum K (tCons ta tNil)) σ H xs.length (YPair (fun i => some (.int (i : Nat))) (fun i => xs[i]?)) := fun H1 e R q =>
  h H1 e _ fun H2 e2 => ⟨a, xs, rfl, ex_l (e.trans e2) hx, q _ H2 _ e2 walk_enum fun H3 e3 => ex_l ((e.trans e2).trans e3) hx⟩
theorem it_range2 {tb : TE} {lo hi : Int} (ha : Ev ta σ H (.int lo)) (hb : Ev tb σ H (.int hi)) (hz : -1000000 ≤ lo ∧ lo ≤ 1000000 ∧ -1000000 ≤ hi ∧ hi ≤ 1000000) :
    ItOk (iRng2 (tCons ta (tCons tb tNil))) σ H (hi - lo).toNat (YFn fun i => .int (lo + i)) := fun H1 e R q =>
  ha H1 e _ fun H2 e2 => hb H2 (e.trans e2) _ fun H3 e3 => ⟨lo, hi, rfl, ⟨by omega, by omega, by omega, by omega⟩, q _ H3 _ (e2.trans e3) walk_range fun _ _ => trivial⟩
theorem it_range1 {n : Int} (ha : Ev ta σ H (.int n)) (hz : -1000000 ≤ n ∧ n ≤ 1000000) : ItOk (iRng1 (tCons ta tNil)) σ H n.toNat (YFn fun i => .int (0 + i)) := fun H1 e R q =>
  ha H1 e _ fun H2 e2 => ⟨n, rfl, by omega, by omega, q _ H2 _ e2 walk_range fun _ _ => trivial⟩
/-- a for over a list that stands at a from the start -/
theorem sv_forL {g : TG} {a : Addr} {xs : List V} (h : Ev ta σ H (.ref a)) (hx : SqL K H a xs) (Pv : Nat → L2.St → Hp → Prop) (hE : ∀ i σ' H', Pv i σ' H' → Ex H H') (h0 : ∀ H1, Ex H H1 → Pv 0 σ H1)
    (hs : ∀ i x σ' H1, xs[i]? = some x → Pv i σ' H1 → g x σ' H1 fun σ2 H3 => tu { D with nx := Pv (i + 1), ct := Pv (i + 1), bk := tz D } σ2 H3)
    (hd : ∀ σ' H', Pv xs.length σ' H' → tz D σ' H') : Sv (tSeq (tFor (iList K ta) g tu) tz) D σ H := fun H1 e =>
  h H1 e _ fun H2 e2 => ⟨a, rfl, ⟨xs, ex_l (e.trans e2) hx⟩, for_list (D := { D with nx := tz D }) Pv (h0 H2 (e.trans e2)) (fun i σ' H' _ p => ex_l (hE i σ' H' p) hx) (fun i x σ' H' hi p => hs i x σ' H' hi p) hd⟩
/-- the same as the block's end -/
theorem sv_forLe {g : TG} {a : Addr} {xs : List V} (h : Ev ta σ H (.ref a)) (hx : SqL K H a xs) (Pv : Nat → L2.St → Hp → Prop) (hE : ∀ i σ' H', Pv i σ' H' → Ex H H') (h0 : ∀ H1, Ex H H1 → Pv 0 σ H1)
    (hs : ∀ i x σ' H1, xs[i]? = some x → Pv i σ' H1 → g x σ' H1 fun σ2 H3 => tu { D with nx := Pv (i + 1), ct := Pv (i + 1), bk := D.nx } σ2 H3)
    (hd : ∀ σ' H', Pv xs.length σ' H' → D.nx σ' H') : Sv (tFor (iList K ta) g tu) D σ H := fun H1 e =>
  h H1 e _ fun H2 e2 => ⟨a, rfl, ⟨xs, ex_l (e.trans e2) hx⟩, for_list Pv (h0 H2 (e.trans e2)) (fun i σ' H' _ p => ex_l (hE i σ' H' p) hx) (fun i x σ' H' hi p => hs i x σ' H' hi p) hd⟩
/-- a for over a list that is made on the way: what is shown starts from its heap -/
theorem sv_forN {g : TG} {xs : List V} {P : V → Hp → Prop} (h : EvP ta σ H P) (hx : ∀ v H1, P v H1 → ∃ a, v = .ref a ∧ SqL K H1 a xs)
    (go : ∀ a H2, Ex H H2 → P (.ref a) H2 → SqL K H2 a xs → ∃ Pv : Nat → L2.St → Hp → Prop, (∀ i σ' H', Pv i σ' H' → SqL K H' a xs) ∧ Pv 0 σ H2 ∧
      (∀ i x σ' H1, xs[i]? = some x → Pv i σ' H1 → g x σ' H1 fun σ2 H3 => tu { D with nx := Pv (i + 1), ct := Pv (i + 1), bk := tz D } σ2 H3) ∧ ∀ σ' H', Pv xs.length σ' H' → tz D σ' H') : Sv (tSeq (tFor (iList K ta) g tu) tz) D σ H := fun H1 e =>
  h H1 e _ fun v H2 e2 p => by
    obtain ⟨a, rfl, hs⟩ := hx v H2 p
    obtain ⟨Pv, q1, q2, q3, q4⟩ := go a H2 (e.trans e2) p hs
    exact ⟨a, rfl, ⟨xs, hs⟩, for_list (D := { D with nx := tz D }) Pv q2 (fun i σ' H' _ p => q1 i σ' H' p) q3 q4⟩
/-- for i, x in enumerate(a list that stands) -/
theorem sv_forE {i0 j0 : Nat} {a : Addr} {xs : List V} (h : Ev ta σ H (.ref a)) (hx : SqL K H a xs) (Pv : Nat → L2.St → Hp → Prop) (hE : ∀ i σ' H', Pv i σ' H' → Ex H H') (h0 : ∀ H1, Ex H H1 → Pv 0 σ H1)
    (hP : ∀ i σ' H1 H2, Ex H1 H2 → Pv i σ' H1 → Pv i σ' H2)
    (hs : ∀ i x σ' H1, xs[i]? = some x → Pv i σ' H1 → tu { D with nx := Pv (i + 1), ct := Pv (i + 1), bk := tz D } ((σ'.set i0 (some (.int (i : Nat)))).set j0 (some x)) H1)
    (hd : ∀ σ' H', Pv xs.length σ' H' → tz D σ' H') : Sv (tSeq (tFor (iEnum K (tCons ta tNil)) (gTup K 2 (gCons (gName i0) (gCons (gName j0) gNil))) tu) tz) D σ H := fun H1 e =>
  h H1 e _ fun H2 e2 => ⟨a, xs, rfl, ex_l (e.trans e2) hx, for_it (D := { D with nx := tz D }) (walk_enum (K := K) (xs := xs)) Pv (h0 H2 (e.trans e2)) (fun i σ' H' _ p => ex_l (hE i σ' H' p) hx) (fun i v σ' H3 H4 hi p y => by
    obtain ⟨T, x, y, rfl, hT, rfl, e1, e2⟩ := y
    obtain rfl := Option.some.inj e1
    exact ⟨T, _, rfl, st_of upd_same, rfl, _, _, rfl, _, _, rfl, rfl, hs i y σ' _ e2 (hP i σ' _ _ (Ex.new hT) p)⟩) hd⟩
/-- a comprehension: which turns give, and what -/
theorem evp_lc {wi : TI} {g : TG} {tt : TT} {vs : List Nat} {n : Nat} {Y : Nat → Hp → V → Hp → Prop} (hi : ItOk wi σ H n Y) (hY : ∀ i H x H', Y i H x H' → Ex H H') (hn : n ≤ 40000) (f : Nat → Bool) (v : Nat → V)
    (hb : ∀ i x H1 H2, i < n → Ex H H1 → Y i H1 x H2 → ∃ σ2, (∀ Q : L2.St → Hp → Prop, ∀ H3, Ex H2 H3 → Q σ2 H3 → g x (wipe σ vs) H3 Q) ∧ wipe σ2 vs = wipe σ vs ∧ EvT tt σ2 H2 (f i) ∧ (f i = true → Ev te σ2 H2 (v i))) :
    EvP (tLc wi g tt te vs) σ H (NewL (given n f v)) := fun H0 e Q q => hi H0 e _ fun J H1 G e1 w hG => fun Dl hD =>
  lc_it w (fun i H' => H1 Dl = none ∧ Ex H1 H' ∧ H' Dl = some (.lst (given i f v))) ⟨hD, Ex.new hD, upd_same⟩ (fun i H' _ p => hG H' p.2.1) (fun i x H3 H4 hi p y => by
    obtain ⟨p1, p2, p3⟩ := p
    obtain ⟨σ2, hg, hw, ht, he⟩ := hb i x H3 H4 hi ((e.trans e1).trans p2) y
    have e4 := hY i H3 x H4 y
    refine hg _ H4 (Ex.refl H4) ⟨hw, ht H4 (Ex.refl H4) _ fun H5 e5 => ?_⟩
    cases hf : f i with
    | true =>
      show te σ2 H5 fun y H6 => ∃ acc, H6 Dl = some (.lst acc) ∧ acc.length < sizeLine ∧ (H1 Dl = none ∧ Ex H1 (upd H6 Dl (.lst (acc ++ [y]))) ∧ upd H6 Dl (.lst (acc ++ [y])) Dl = some (.lst (given (i + 1) f v)))
      refine he hf H5 e5 _ fun H6 e6 => ⟨given i f v, e6 Dl _ (e5 Dl _ (e4 Dl _ p3)), sz_lt (by have := given_len i f v; omega), p1, Ex.mut (((p2.trans e4).trans e5).trans e6) p1, ?_⟩
      rw [given_yes hf]
      exact upd_same
    | false =>
      show H1 Dl = none ∧ Ex H1 H5 ∧ H5 Dl = some (.lst (given (i + 1) f v))
      rw [given_no hf]
      exact ⟨p1, (p2.trans e4).trans e5, e5 Dl _ (e4 Dl _ p3)⟩) fun H' p => q _ H' (e1.trans p.2.1) ⟨Dl, rfl, p.2.2⟩
theorem given_all {n : Nat} {v : Nat → V} {ys : List V} (hl : ys.length = n) (h : ∀ i y, ys[i]? = some y → v i = y) : given n (fun _ => true) v = ys := by
  unfold given
  rw [List.filter_eq_self.mpr (by simp)]
  apply List.ext_getElem
  · simp [hl]
  · intro i h1 h2
    simp only [List.getElem_map, List.getElem_range]
    exact h i _ (List.getElem?_eq_getElem h2)
/-- [e for x in a list that stands]: the values told -/
theorem evp_map {j : Nat} {vs : List Nat} {a : Addr} {xs ys : List V} (h : Ev ta σ H (.ref a)) (hx : SqL K H a xs) (hl : ys.length = xs.length) (hn : xs.length ≤ 40000)
    (hw : ∀ x, wipe ((wipe σ vs).set j (some x)) vs = wipe σ vs) (he : ∀ (i : Nat) (x y : V), xs[i]? = some x → ys[i]? = some y → Ev te ((wipe σ vs).set j (some x)) H y) :
    EvP (tLc (iList K ta) (gName j) tYes te vs) σ H (NewL ys) := by
  have e := evp_lc (g := gName j) (tt := tYes) (te := te) (vs := vs) (it_list h hx) (fun i H x H' y => by rw [y.1]; exact Ex.refl H) hn (fun _ => true) (fun i => (ys[i]?).getD .non) (fun i x H1 H2 hi e y => by
    obtain ⟨rfl, hx⟩ := y
    refine ⟨_, fun Q H3 _ q => q, hw x, fun H1 _ Q q => q H1 (Ex.refl H1), fun _ => ?_⟩
    obtain ⟨z, hz⟩ : ∃ z, ys[i]? = some z := ⟨ys[i], List.getElem?_eq_getElem (by omega)⟩
    show Ev te _ _ ((ys[i]?).getD .non)
    rw [hz]
    exact (he i x z hx hz).mono e)
  rwa [given_all (ys := ys) hl (fun i y hy => by rw [hy]; rfl)] at e
/-- xs.append(e), the list ours -/
theorem sv_app {l : Addr} {xs : List V} (hl : H l = some (.lst xs)) (ha : Ev ta σ H (.ref l)) (h : Ev te σ H v) (hz : xs.length < 100000) (k : ∀ H1, Ex H H1 → tz D σ (upd H1 l (.lst (xs ++ [v])))) :
    tSeq (tDrop (tBM K "list" rAppend ta (tCons te tNil))) tz D σ H := q_app hl ha h hz k
theorem sv_appP {l : Addr} {xs : List V} {P : V → Hp → Prop} (hl : H l = some (.lst xs)) (ha : Ev ta σ H (.ref l)) (h : EvP te σ H P) (hz : xs.length < 100000) (k : ∀ v H1, Ex H H1 → P v H1 → D.nx σ (upd H1 l (.lst (xs ++ [v])))) :
    tDrop (tBM K "list" rAppend ta (tCons te tNil)) D σ H := ha H (Ex.refl H) _ fun H1 e1 =>
  ⟨.inl ⟨rfl, xs, sq_of (e1 l _ hl)⟩, h H1 e1 _ fun v H2 e2 p => ⟨l, xs, v, rfl, rfl, e2 l _ (e1 l _ hl), sz_lt hz, k v H2 (e1.trans e2) p⟩⟩
theorem q_appP {l : Addr} {xs : List V} {P : V → Hp → Prop} (hl : H l = some (.lst xs)) (ha : Ev ta σ H (.ref l)) (h : EvP te σ H P) (hz : xs.length < 100000) (k : ∀ v H1, Ex H H1 → P v H1 → tz D σ (upd H1 l (.lst (xs ++ [v])))) :
    tSeq (tDrop (tBM K "list" rAppend ta (tCons te tNil))) tz D σ H := sv_appP (D := { D with nx := tz D }) hl ha h hz k
/-- xs.extend(a new list) -/
theorem sv_ext {l : Addr} {xs ys : List V} (hl : H l = some (.lst xs)) (ha : Ev ta σ H (.ref l)) (h : EvP te σ H (NewL ys)) (hz : xs.length + ys.length ≤ sizeLine) (k : ∀ H1, Ex H H1 → D.nx σ (upd H1 l (.lst (xs ++ ys)))) :
    tDrop (tBM K "list" rExtend ta (tCons te tNil)) D σ H := ha H (Ex.refl H) _ fun H1 e1 =>
  ⟨.inl ⟨rfl, xs, sq_of (e1 l _ hl)⟩, h H1 e1 _ fun v H2 e2 ⟨p, ev, hp⟩ => ⟨l, p, xs, ys, rfl, by rw [ev] <;> rfl, e2 l _ (e1 l _ hl), hp, hz, k H2 (e1.trans e2)⟩⟩

/-! ## Argument lists with new objects among them -/
def Stay (P : V → Hp → Prop) : Prop := ∀ v H H', Ex H H' → P v H → P v H'
def StayL (P : List V → Hp → Prop) : Prop := ∀ v H H', Ex H H' → P v H → P v H'
def EvAP (ta : TA) (σ : L2.St) (H : Hp) (P : List V → Hp → Prop) : Prop := ∀ H1, Ex H H1 → ∀ Q : List V → Hp → Prop, (∀ vs H2, Ex H1 H2 → P vs H2 → Q vs H2) → ta σ H1 Q
/-- each value by its own word -/
def Each : List (V → Hp → Prop) → List V → Hp → Prop
  | [], vs, _ => vs = []
  | P :: Ps, vs, H => ∃ v r, vs = v :: r ∧ P v H ∧ Each Ps r H
theorem each_stay : ∀ {Ps : List (V → Hp → Prop)}, (∀ P ∈ Ps, Stay P) → StayL (Each Ps)
  | [], _, _, _, _, _, h => h
  | P :: Ps, hs, vs, H, H', e, ⟨v, r, ev, hp, hr⟩ => ⟨v, r, ev, hs P (List.mem_cons_self ..) v H H' e hp, each_stay (fun Q hq => hs Q (List.mem_cons_of_mem _ hq)) r H H' e hr⟩
theorem each_len : ∀ {Ps : List (V → Hp → Prop)} {vs : List V} {H : Hp}, Each Ps vs H → vs.length = Ps.length
  | [], _, _, h => by
    have h1 : _ = [] := h
    rw [h1] <;> rfl
  | P :: Ps, vs, H, ⟨v, r, ev, _, hr⟩ => by
    rw [ev, List.length_cons, List.length_cons, each_len hr]
theorem eap_nil : EvAP tNil σ H (Each []) := fun H1 _ Q q => q [] H1 (Ex.refl H1) rfl
theorem eap_cons {tr : TA} {P : V → Hp → Prop} {Ps : List (V → Hp → Prop)} (h : EvP te σ H P) (hr : EvAP tr σ H (Each Ps)) (hs : Stay P) : EvAP (tCons te tr) σ H (Each (P :: Ps)) := fun H1 e Q q =>
  h H1 e _ fun v H2 e2 p => hr H2 (e.trans e2) _ fun vs H3 e3 ps => q (v :: vs) H3 (e2.trans e3) ⟨v, vs, rfl, hs v H2 H3 e3 p, ps⟩
theorem stay_eq {x : V} : Stay (fun v _ => v = x) := fun _ _ _ _ h => h
theorem stay_newT {xs : List V} : Stay (NewT xs) := fun _ _ _ e ⟨p, ev, hp⟩ => ⟨p, ev, e p _ hp⟩
theorem stay_newL {xs : List V} : Stay (NewL xs) := fun _ _ _ e ⟨p, ev, hp⟩ => ⟨p, ev, e p _ hp⟩
/-- a tuple of these -/
def TupOf (Ps : List (V → Hp → Prop)) : V → Hp → Prop := fun v H => ∃ q vs, v = .ref q ∧ H q = some (.tup vs) ∧ Each Ps vs H
def LstOf (Ps : List (V → Hp → Prop)) : V → Hp → Prop := fun v H => ∃ q vs, v = .ref q ∧ H q = some (.lst vs) ∧ Each Ps vs H
theorem evp_tupOf {ta : TA} {Ps : List (V → Hp → Prop)} (h : EvAP ta σ H (Each Ps)) (hs : ∀ P ∈ Ps, Stay P) (hl : Ps.length ≤ 100000) : EvP (tTup ta) σ H (TupOf Ps) := fun H1 e Q q =>
  h H1 e _ fun vs H2 e2 p => ⟨sz_of (by rw [each_len p]; exact hl), fun a ha => q _ _ (e2.trans (Ex.new ha)) ⟨a, vs, rfl, upd_same, each_stay hs _ _ _ (Ex.new ha) p⟩⟩
theorem evp_lstOf {ta : TA} {Ps : List (V → Hp → Prop)} (h : EvAP ta σ H (Each Ps)) (hs : ∀ P ∈ Ps, Stay P) (hl : Ps.length ≤ 100000) : EvP (tLst ta) σ H (LstOf Ps) := fun H1 e Q q =>
  h H1 e _ fun vs H2 e2 p => ⟨sz_of (by rw [each_len p]; exact hl), fun a ha => q _ _ (e2.trans (Ex.new ha)) ⟨a, vs, rfl, upd_same, each_stay hs _ _ _ (Ex.new ha) p⟩⟩
/-- a def's call, arguments new -/
theorem evp_callP {sp : Sp} {R : List V → Hp → Prop} {P : V → Hp → Prop} {E : XK} {ta : TA} (h : EvAP ta σ H R) (hs : ∀ vs H1, Ex H H1 → R vs H1 → ∀ Q : VK, Ret P H1 Q → sp vs H1 Q E) : EvP (tCall sp [] E ta) σ H P := fun H1 e Q q =>
  h H1 e _ fun vs H2 e2 p => by
    show sp (vs ++ []) H2 Q E
    rw [List.append_nil]
    exact hs vs H2 (e.trans e2) p Q fun v H3 e3 p3 => q v H3 (e2.trans e3) p3

/-! ## All but lists stays -/
def NotL : HO → Prop
  | .lst _ => False
  | .frz _ (.lst _) => True
  | _ => True
def ExN (H H' : Hp) : Prop := ∀ a o, NotL o → H a = some o → H' a = some o
theorem ex_n {H H' : Hp} (e : Ex H H') : ExN H H' := fun a o _ h => e a o h
theorem ExN.trans {H H1 H2 : Hp} (a : ExN H H1) (b : ExN H1 H2) : ExN H H2 := fun x o n h => b x o n (a x o n h)
theorem exN_upd {H : Hp} {l : Addr} {xs ys : List V} (h : H l = some (.lst xs)) : ExN H (upd H l (.lst ys)) := fun a o n ha => by
  rw [upd_ne fun z => by
    rw [z, h] at ha
    rw [← Option.some.inj ha] at n
    exact n]
  exact ha
theorem exN_t {K : PySem.W.Frag} {H H' : Hp} {a : Addr} {xs : List V} (e : ExN H H') (h : SqT K H a xs) : SqT K H' a xs := by
  rcases h with (h | ⟨o, h⟩) | h
  · exact .inl (.inl (e _ _ trivial h))
  · exact .inl (.inr ⟨o, e _ _ (by trivial) h⟩)
  · exact .inr h
def StayN (P : V → Hp → Prop) : Prop := ∀ v H H', ExN H H' → P v H → P v H'
theorem StayN.s {P : V → Hp → Prop} (h : StayN P) : Stay P := fun v H H' e => h v H H' fun a o _ => e a o
theorem each_stayN : ∀ {Ps : List (V → Hp → Prop)}, (∀ P ∈ Ps, StayN P) → ∀ {v : List V} {H H' : Hp}, ExN H H' → Each Ps v H → Each Ps v H'
  | [], _, _, _, _, _, h => h
  | P :: Ps, hs, vs, H, H', e, ⟨v, r, ev, hp, hr⟩ => ⟨v, r, ev, hs P (List.mem_cons_self ..) v H H' e hp, each_stayN (fun Q hq => hs Q (List.mem_cons_of_mem _ hq)) e hr⟩
theorem stayN_eq {x : V} : StayN (fun v _ => v = x) := fun _ _ _ _ h => h
/-- a tuple of these values -/
def Tp (K : PySem.W.Frag) (xs : List V) : V → Hp → Prop := fun v H => ∃ a, v = .ref a ∧ SqT K H a xs
theorem stayN_Tp {K : PySem.W.Frag} {xs : List V} : StayN (Tp K xs) := fun _ _ _ e ⟨a, ev, h⟩ => ⟨a, ev, exN_t e h⟩
theorem stay_Tp {K : PySem.W.Frag} {xs : List V} : Stay (Tp K xs) := fun _ _ _ e ⟨a, ev, h⟩ => ⟨a, ev, ex_t e h⟩
theorem newT_Tp {K : PySem.W.Frag} {xs : List V} {te : TE} {σ : L2.St} {H : Hp} (h : EvP te σ H (NewT xs)) : EvP te σ H (Tp K xs) := h.imp fun _ _ _ ⟨p, e, hp⟩ => ⟨p, e, st_of hp⟩
theorem ev_Tp {K : PySem.W.Frag} {xs : List V} {te : TE} {σ : L2.St} {H : Hp} {a : Addr} (h : Ev te σ H (.ref a)) (hx : SqT K H a xs) : EvP te σ H (Tp K xs) := evp_of h fun _ e => ⟨a, rfl, ex_t e hx⟩
theorem each_append : ∀ {Ps : List (V → Hp → Prop)} {P : V → Hp → Prop} {vs : List V} {v : V} {H : Hp}, Each Ps vs H → P v H → Each (Ps ++ [P]) (vs ++ [v]) H
  | [], P, vs, v, H, h, hv => by
    have h1 : vs = [] := h
    subst h1
    exact ⟨v, [], rfl, hv, rfl⟩
  | Q :: Ps, P, vs, v, H, ⟨x, r, ev, hx, hr⟩, hv => ⟨x, r ++ [v], by rw [ev] <;> rfl, hx, each_append hr hv⟩
theorem each_get : ∀ {Ps : List (V → Hp → Prop)} {vs : List V} {H : Hp} {i : Nat} {P : V → Hp → Prop}, Each Ps vs H → Ps[i]? = some P → ∃ v, vs[i]? = some v ∧ P v H
  | [], _, _, i, _, _, h => by simp at h
  | Q :: Ps, vs, H, 0, P, ⟨x, r, ev, hx, hr⟩, h => by
    have e : Q = P := by simpa using h
    subst e
    exact ⟨x, by rw [ev] <;> rfl, hx⟩
  | Q :: Ps, vs, H, i + 1, P, ⟨x, r, ev, hx, hr⟩, h => by
    obtain ⟨v, h1, h2⟩ := each_get (i := i) hr (by simpa using h)
    exact ⟨v, by rw [ev]; simpa using h1, h2⟩
end
end Trav
namespace Trav
open PySem PySem.Spec PyProof.Rows L2 Evl
section
variable {K : PySem.W.Frag} {σ : L2.St} {H H' H0 : Hp} {ta tb te : TE} {t u : TT} {x y z v : V} {r : R2} {P : V → Hp → Prop} {D : Ends} {tz ts tu : TS}
/-- a tuple whose values are told one by one -/
def TpE (K : PySem.W.Frag) (Ps : List (V → Hp → Prop)) : V → Hp → Prop := fun v H => ∃ a vs, v = .ref a ∧ SqT K H a vs ∧ Each Ps vs H
theorem stay_TpE {Ps : List (V → Hp → Prop)} (hs : ∀ P ∈ Ps, Stay P) : Stay (TpE K Ps) := fun _ _ _ e ⟨a, vs, ev, h, hv⟩ => ⟨a, vs, ev, ex_t e h, each_stay hs _ _ _ e hv⟩
theorem tpE_of {Ps : List (V → Hp → Prop)} (h : TupOf Ps v H) : TpE K Ps v H := let ⟨q, vs, e, hq, hv⟩ := h; ⟨q, vs, e, st_of hq, hv⟩
theorem sv_unp2 {i j : Nat} (h : EvP te σ H (Tp K [x, y])) (k : Sv tz D ((σ.set i (some x)).set j (some y)) H) : Sv (tSeq (tAsg te (gTup K 2 (gCons (gName i) (gCons (gName j) gNil)))) tz) D σ H := fun H1 e =>
  h H1 e _ fun v H2 e2 ⟨a, ev, hs⟩ => ⟨a, _, ev, hs, rfl, _, _, rfl, _, _, rfl, rfl, k H2 (e.trans e2)⟩
theorem sv_unpE2 {i j : Nat} {P1 P2 : V → Hp → Prop} (h : EvP te σ H (TpE K [P1, P2])) (k : ∀ x y H2, Ex H H2 → P1 x H2 → P2 y H2 → Sv tz D ((σ.set i (some x)).set j (some y)) H2) : Sv (tSeq (tAsg te (gTup K 2 (gCons (gName i) (gCons (gName j) gNil)))) tz) D σ H := fun H1 e =>
  h H1 e _ fun v H2 e2 ⟨a, vs, ev, hs, x, r, e3, hx, y, r2, e4, hy, e5⟩ => by
    have e5 : r2 = [] := e5
    subst e5 e4 e3
    exact ⟨a, _, ev, hs, rfl, _, _, rfl, _, _, rfl, rfl, k x y H2 (e.trans e2) hx hy H2 (Ex.refl H2)⟩
theorem sv_unp3 {i j l : Nat} (h : EvP te σ H (Tp K [x, y, z])) (k : Sv tz D (((σ.set i (some x)).set j (some y)).set l (some z)) H) : Sv (tSeq (tAsg te (gTup K 3 (gCons (gName i) (gCons (gName j) (gCons (gName l) gNil))))) tz) D σ H := fun H1 e =>
  h H1 e _ fun v H2 e2 ⟨a, ev, hs⟩ => ⟨a, _, ev, hs, rfl, _, _, rfl, _, _, rfl, _, _, rfl, rfl, k H2 (e.trans e2)⟩
theorem sv_unp4 {i j l m : Nat} {q : V} (h : EvP te σ H (Tp K [x, y, z, q])) (k : Sv tz D ((((σ.set i (some x)).set j (some y)).set l (some z)).set m (some q)) H) : Sv (tSeq (tAsg te (gTup K 4 (gCons (gName i) (gCons (gName j) (gCons (gName l) (gCons (gName m) gNil)))))) tz) D σ H := fun H1 e =>
  h H1 e _ fun v H2 e2 ⟨a, ev, hs⟩ => ⟨a, _, ev, hs, rfl, _, _, rfl, _, _, rfl, _, _, rfl, _, _, rfl, rfl, k H2 (e.trans e2)⟩
/-- x op= e -/
theorem sv_aug {i : Nat} {f : Int → Int → Int} {a b : Int} (hx : σ[i]? = some (some (.int a))) (h : Ev te σ H (.int b)) (k : Sv tz D (σ.set i (some (.int (f a b)))) H) : Sv (tSeq (tAug i te (ipI f)) tz) D σ H := fun H1 e =>
  s_aug (D := { D with nx := tz D }) hx (h.mono e) fun H2 e2 => k H2 (e.trans e2)
theorem sv_augL {i : Nat} {f : Int → Int → Int} {a b : Int} (hx : σ[i]? = some (some (.int a))) (h : Ev te σ H (.int b)) (k : ∀ H1, Ex H H1 → D.nx (σ.set i (some (.int (f a b)))) H1) : Sv (tAug i te (ipI f)) D σ H := fun H1 e =>
  s_aug hx (h.mono e) fun H2 e2 => k H2 (e.trans e2)
/-- one of a list's values -/
theorem evp_ixL {Ps : List (V → Hp → Prop)} {i : Nat} (ha : EvP ta σ H (LstOf Ps)) (hb : Ev tb σ H (.int (i : Int))) (hi : Ps[i]? = some P) (hs : ∀ P ∈ Ps, Stay P) : EvP (tOp (rIxL K) ta tb) σ H P := fun H1 e Q q =>
  ha H1 e _ fun v H2 e2 ⟨a, vs, ev, hv, hE⟩ => hb H2 (e.trans e2) _ fun H3 e3 => by
    obtain ⟨x, hx, hp⟩ := each_get (each_stay hs _ _ _ e3 hE) hi
    exact ⟨a, vs, i, x, ev, rfl, sq_of (e3 a _ hv), by
      have hl := (List.getElem?_eq_some_iff.mp hx).1
      unfold atI
      rw [ixN_nat hl]
      exact hx, q x H3 (e2.trans e3) hp⟩
theorem atI_nat {xs : List V} {i : Nat} : atI xs (i : Int) = xs[i]? := by
  unfold atI
  by_cases h : i < xs.length
  · rw [ixN_nat h]
    rfl
  · have e : ixN xs.length (i : Int) = none := by
      unfold ixN
      rw [if_pos (by omega), if_neg (by omega)]
    rw [e, List.getElem?_eq_none (by omega)]
    rfl
/-- [e for x in a list whose values are told] -/
theorem evp_mapE {α : Type} {L : List α} {Pr : α → V → Hp → Prop} {f : α → V} {j : Nat} {vs : List Nat} {a : Addr} {xs : List V} (h : Ev ta σ H (.ref a)) (hx : SqL K H a xs) (hE : Each (L.map Pr) xs H) (hn : L.length ≤ 40000)
    (hw : ∀ x, wipe ((wipe σ vs).set j (some x)) vs = wipe σ vs) (he : ∀ g x, g ∈ L → Pr g x H → Ev te ((wipe σ vs).set j (some x)) H (f g)) : EvP (tLc (iList K ta) (gName j) tYes te vs) σ H (NewL (L.map f)) := by
  have hl := each_len hE
  rw [List.length_map] at hl
  refine evp_map h hx (by rw [List.length_map, hl]) (by omega) hw fun i x y hi hy => ?_
  rw [List.getElem?_map, Option.map_eq_some_iff] at hy
  obtain ⟨g, hg, rfl⟩ := hy
  obtain ⟨x', hx', hp⟩ := each_get hE (i := i) (P := Pr g) (by rw [List.getElem?_map, hg]; rfl)
  rw [hi] at hx'
  obtain rfl := Option.some.inj hx'
  exact he g x (List.mem_of_getElem? hg) hp
theorem evp_dget {td ty : TE} {a : Addr} {kvs : List (Key × V)} {k : Key} (hd : Ev td σ H (.ref a)) (hy : Ev ty σ H (kV k)) (hk : H a = some (.dK kvs)) (hv : valV kvs k = some v) : Ev (tDGet td ty) σ H v := fun H1 e Q q =>
  hd H1 e _ fun H2 e2 => hy H2 (e.trans e2) _ fun H3 e3 => ⟨a, v, rfl, by
    rw [← hv]
    exact DGet.k (e3 a _ (e2 a _ (e a _ hk))), q H3 (e2.trans e3)⟩
theorem ev_din {td ty : TE} {a : Addr} {kvs : List (Key × V)} {k : Key} (hd : Ev td σ H (.ref a)) (hy : Ev ty σ H (kV k)) (hk : H a = some (.dK kvs)) : Ev (tDIn ty td) σ H (.bl (valV kvs k).isSome) := fun H1 e Q q =>
  hy H1 e _ fun H2 e2 => hd H2 (e.trans e2) _ fun H3 e3 => ⟨a, _, rfl, DGet.k (e3 a _ (e2 a _ (e a _ hk))), q H3 (e2.trans e3)⟩
theorem ev_dnotin {td ty : TE} {a : Addr} {kvs : List (Key × V)} {k : Key} (hd : Ev td σ H (.ref a)) (hy : Ev ty σ H (kV k)) (hk : H a = some (.dK kvs)) : Ev (tDNotIn ty td) σ H (.bl (!(valV kvs k).isSome)) := fun H1 e Q q =>
  hy H1 e _ fun H2 e2 => hd H2 (e.trans e2) _ fun H3 e3 => ⟨a, _, rfl, DGet.k (e3 a _ (e2 a _ (e a _ hk))), q H3 (e2.trans e3)⟩
theorem each_mem {α : Type} {L : List α} {Pr : α → V → Hp → Prop} {xs : List V} {H : Hp} {i : Nat} {x : V} (hE : Each (L.map Pr) xs H) (hi : xs[i]? = some x) : ∃ g, L[i]? = some g ∧ Pr g x H := by
  have hl := each_len hE
  rw [List.length_map] at hl
  have h1 := (List.getElem?_eq_some_iff.mp hi).1
  obtain ⟨g, hg⟩ : ∃ g, L[i]? = some g := ⟨_, List.getElem?_eq_getElem (by omega)⟩
  obtain ⟨x', hx', hp⟩ := each_get hE (i := i) (P := Pr g) (by rw [List.getElem?_map, hg]; rfl)
  rw [hi] at hx'
  obtain rfl := Option.some.inj hx'
  exact ⟨g, hg, hp⟩
theorem each_imp {α : Type} {Pr Pr' : α → V → Hp → Prop} {H H' : Hp} : ∀ {L : List α} {xs : List V}, (∀ g ∈ L, ∀ v, Pr g v H → Pr' g v H') → Each (L.map Pr) xs H → Each (L.map Pr') xs H'
  | [], _, _, h => h
  | g :: L, xs, f, ⟨v, r, e, hv, hr⟩ => ⟨v, r, e, f g (List.mem_cons_self ..) v hv, each_imp (fun g' h' => f g' (List.mem_cons_of_mem _ h')) hr⟩
theorem stay_map {α : Type} {L : List α} {Pr : α → V → Hp → Prop} (h : ∀ g, Stay (Pr g)) : ∀ P ∈ L.map Pr, Stay P := fun P hP => by
  obtain ⟨g, _, rfl⟩ := List.mem_map.mp hP
  exact h g
theorem stayN_map {α : Type} {L : List α} {Pr : α → V → Hp → Prop} (h : ∀ g, StayN (Pr g)) : ∀ P ∈ L.map Pr, StayN P := fun P hP => by
  obtain ⟨g, _, rfl⟩ := List.mem_map.mp hP
  exact h g
theorem ev_neg {i : Int} (h : Ev ta σ H (.int i)) : Ev (tUn (rU fun i => .int (-i)) ta) σ H (.int (-i)) := ev_un h ru_neg
theorem ev_sub {i j : Int} (ha : Ev ta σ H (.int i)) (hb : Ev tb σ H (.int j)) : Ev (tOp (rI0 fun i j => .int (i - j)) ta tb) σ H (.int (i - j)) := ev_op ha hb rv_I0
theorem ev_add {i j : Int} (ha : Ev ta σ H (.int i)) (hb : Ev tb σ H (.int j)) : Ev (tOp (rI0 fun i j => .int (i + j)) ta tb) σ H (.int (i + j)) := ev_op ha hb rv_I0
theorem ev_mul {i j : Int} (ha : Ev ta σ H (.int i)) (hb : Ev tb σ H (.int j)) (hi : i.natAbs < 2 ^ 100) (hj : j.natAbs < 2 ^ 100) : Ev (tOp (rI CMulW fun i j => .int (i * j)) ta tb) σ H (.int (i * j)) := ev_op ha hb (rv_I (wide_mul hi hj (by decide) (by decide) (by decide)))
theorem ev_ixT0 {a : Addr} {xs : List V} {i : Nat} (ha : Ev ta σ H (.ref a)) (hb : Ev tb σ H (.int (i : Int))) (hx : SqT K H a xs) (hi : xs[i]? = some v) : Ev (tOp (rIxT K) ta tb) σ H v := ev_ixT ha hb hx (by rw [atI_nat, hi])
/-- x = [..], the list new -/
theorem sv_lstOf {i : Nat} {ta : TA} {Ps : List (V → Hp → Prop)} (h : EvAP ta σ H (Each Ps)) (hs : ∀ P ∈ Ps, Stay P) (hl : Ps.length ≤ 100000) (k : ∀ l vs H2, H l = none → Ex H H2 → H2 l = some (.lst vs) → Each Ps vs H2 → Sv tz D (σ.set i (some (.ref l))) H2) :
    Sv (tSeq (tAsg (tLst ta) (gName i)) tz) D σ H := fun H1 e => h H1 e _ fun vs H2 e2 p => ⟨sz_of (by rw [each_len p]; exact hl), fun a ha => k a vs _ (fresh_back (e.trans e2) ha) ((e.trans e2).trans (Ex.new ha)) upd_same (each_stay hs _ _ _ (Ex.new ha) p) _ (Ex.refl _)⟩
/-- a for over a list that the turns leave alone -/
theorem sv_forM {g : TG} {a : Addr} {xs : List V} (h : Ev ta σ H (.ref a)) (hx : SqL K H a xs) (Pv : Nat → L2.St → Hp → Prop) (hE : ∀ i σ' H', Pv i σ' H' → SqL K H' a xs) (h0 : ∀ H1, Ex H H1 → Pv 0 σ H1)
    (hs : ∀ i x σ' H1, xs[i]? = some x → Pv i σ' H1 → g x σ' H1 fun σ2 H3 => tu { D with nx := Pv (i + 1), ct := Pv (i + 1), bk := tz D } σ2 H3)
    (hd : ∀ σ' H', Pv xs.length σ' H' → tz D σ' H') : Sv (tSeq (tFor (iList K ta) g tu) tz) D σ H := fun H1 e =>
  h H1 e _ fun H2 e2 => ⟨a, rfl, ⟨xs, ex_l (e.trans e2) hx⟩, for_list (D := { D with nx := tz D }) Pv (h0 H2 (e.trans e2)) (fun i σ' H' _ p => hE i σ' H' p) (fun i x σ' H' hi p => hs i x σ' H' hi p) hd⟩
/-- for i, x in enumerate(a list that the turns leave alone) -/
theorem sv_forEM {i0 j0 : Nat} {a : Addr} {xs : List V} (h : Ev ta σ H (.ref a)) (hx : SqL K H a xs) (Pv : Nat → L2.St → Hp → Prop) (hE : ∀ i σ' H', Pv i σ' H' → SqL K H' a xs) (h0 : ∀ H1, Ex H H1 → Pv 0 σ H1)
    (hP : ∀ i σ' H1 H2, Ex H1 H2 → Pv i σ' H1 → Pv i σ' H2)
    (hs : ∀ i x σ' H1, xs[i]? = some x → Pv i σ' H1 → tu { D with nx := Pv (i + 1), ct := Pv (i + 1), bk := tz D } ((σ'.set i0 (some (.int (i : Nat)))).set j0 (some x)) H1)
    (hd : ∀ σ' H', Pv xs.length σ' H' → tz D σ' H') : Sv (tSeq (tFor (iEnum K (tCons ta tNil)) (gTup K 2 (gCons (gName i0) (gCons (gName j0) gNil))) tu) tz) D σ H := fun H1 e =>
  h H1 e _ fun H2 e2 => ⟨a, xs, rfl, ex_l (e.trans e2) hx, for_it (D := { D with nx := tz D }) (walk_enum (K := K) (xs := xs)) Pv (h0 H2 (e.trans e2)) (fun i σ' H' _ p => hE i σ' H' p) (fun i v σ' H3 H4 hi p y => by
    obtain ⟨T, x, y, rfl, hT, rfl, e1, e2⟩ := y
    obtain rfl := Option.some.inj e1
    exact ⟨T, _, rfl, st_of upd_same, rfl, _, _, rfl, _, _, rfl, rfl, hs i y σ' _ e2 (hP i σ' _ _ (Ex.new hT) p)⟩) hd⟩
theorem ev_eqI {i j : Int} (ha : Ev ta σ H (.int i)) (hb : Ev tb σ H (.int j)) : Ev (tOp rEq ta tb) σ H (.bl (decide (i = j))) := ev_is (ev_op ha hb (rv_eq rfl)) (by simp)
theorem ev_neI {i j : Int} (ha : Ev ta σ H (.int i)) (hb : Ev tb σ H (.int j)) : Ev (tOp rNe ta tb) σ H (.bl (!decide (i = j))) := ev_is (ev_op ha hb (rv_ne rfl)) (by simp)
theorem ev_eqN {m n : Nat} (ha : Ev ta σ H (.int (m : Int))) (hb : Ev tb σ H (.int (n : Int))) : Ev (tOp rEq ta tb) σ H (.bl (decide (m = n))) := ev_is (ev_eqI ha hb) (by congr 1; rw [Bool.eq_iff_iff]; simp only [decide_eq_true_eq]; omega)
theorem ev_neN {m n : Nat} (ha : Ev ta σ H (.int (m : Int))) (hb : Ev tb σ H (.int (n : Int))) : Ev (tOp rNe ta tb) σ H (.bl (!decide (m = n))) := ev_is (ev_neI ha hb) (by congr 2; rw [Bool.eq_iff_iff]; simp only [decide_eq_true_eq]; omega)
theorem ev_rel {i j : Int} {f : Int → Int → Bool} {b : Bool} (ha : Ev ta σ H (.int i)) (hb : Ev tb σ H (.int j)) (h : f i j = b) : Ev (tOp (rI0 fun i j => .bl (f i j)) ta tb) σ H (.bl b) := ev_is (ev_op ha hb rv_I0) (by rw [h])
theorem sv_forR1 {ta : TA} {j : Nat} {n : Int} (h : EvA ta σ H [.int n]) (hn : 0 ≤ n ∧ n ≤ 100000) (Pv : Nat → L2.St → Hp → Prop) (h0 : ∀ H1, Ex H H1 → Pv 0 σ H1)
    (hs : ∀ (i : Nat) σ' H', (i : Int) < n → Pv i σ' H' → tu { D with nx := Pv (i + 1), ct := Pv (i + 1), bk := tz D } (σ'.set j (some (.int (i : Int)))) H') (hd : ∀ σ' H', Pv n.toNat σ' H' → tz D σ' H') : Sv (tSeq (tFor (iRng1 ta) (gName j) tu) tz) D σ H := fun H1 e =>
  s_forR1 (D := { D with nx := tz D }) (h.mono e) hn Pv (fun H2 e2 => h0 H2 (e.trans e2)) hs hd
end
end Trav
namespace Trav
section
open PySem Sem
open AutoSeq1
theorem list_extend_tup (l : Addr) (items : Array Value) (n : Nat) (b : Addr) (items2 : Array Value) (n2 : Nat) (od : Option Addr) (sl : Array (Option Value)) (hs0 : ¬(!items.isEmpty && Builtin.List.listTooLong (items.size + items2.size)) = true) (hs1 : items.size ≤ sizeLine) (hs2 : items.size + items2.size ≤ sizeLine + 1) :
    Meets (Builtin.«list.extend» ⟨[.ref l, .ref b], []⟩) (fun _ R s => s.heap.get? l = some { cls := .type "list", dict := none, data := .seq items n, slots := #[] } ∧ s.heap.get? b = some { cls := .type "tuple", dict := od, data := .seq items2 n2, slots := sl } ∧ R (.ok (.ret Value.none)) { s with heap := s.heap.update l (Obj.mapSeq fun x => x ++ items2), toks := s.toks }) :=
  .of_wp fun prog w A R s h => by
    obtain ⟨hp, g, d, tk, os⟩ := s; obtain ⟨hl, hb, h⟩ := h; have f1 := idx_int; have f2 := sub_tuple_tuple; have f3 := sub_list_list; have f4 := sub_tuple_list; have f5 := sub_list_tuple;
    have hz' : (items ++ items2).size ≤ sizeLine + 1 := by rw [Array.size_append]; exact hs2
    wp_walk using (wpAny_updateSeq hl rfl (hz := hs1) (_hz' := hz')), wpAny_loadPart' hl, wpAny_loadPart' hb; exact ⟨_, rfl, h⟩
end
open PySem PySem.Spec PyProof.Rows L2 Evl
section
variable {X : Cx}
/-- sorted(d) of a dict whose keys are ints -/
theorem call_sortedK (hcalm : X.calm = true) : CallR X (.builtin "sorted") (fun xs H Q => ∃ (a : Addr) (kvs : List (Key × V)) (ks : List Int), xs = [.ref a] ∧ Rd H a (.dK kvs) ∧ kvs.map (·.1) = ks.map Sum.inl ∧ ks.length < 1000 ∧
    ∀ (ys : List Int) (p : Addr), ys.Perm ks → ys.Pairwise (· ≤ ·) → H p = none → Q (.ref p) (upd H p (.lst (ys.map V.int)))) := by
  intro pins s σ H xs us Q I r q
  obtain ⟨a, kvs, ks, ex, hd, hks, h64, q⟩ := q
  subst ex
  obtain ⟨u, eu, rx⟩ := vals1 r
  subst eu
  cases rx
  obtain ⟨z, lo, vs, rel, dd⟩ := dk_rd I.hok hd
  obtain ⟨ep, hat⟩ := dd.dictAt
  have hkeys : vs.map (·.1) = ks.map Sum.inl := rel.keys.symm.trans hks
  have hl : vs.length = ks.length := by
    have e := congrArg List.length hkeys
    rw [List.length_map, List.length_map] at e
    exact e
  have h16 : vs.length ≤ sizeLine := by rw [hl, sizeLine_eq]; omega
  refine Calls.call_function_entry PyProof.Rows.kind_sorted PyProof.Rows.plain_sorted PyProof.Rows.entry_sorted (PyProof.Rows.args_sorted1 _) ?_
  unfold Builtin.«sorted»
  refine wpAny_bind (m := checkCount "sorted" 1 1 _) (wpAny_pure ?_)
  refine wpAny_bind (PySem.W.kdu_collect (A := X.A.in1) (PySem.W.kdl_dict (knd := mixKind X.prog X.w) (kvs := vs) (ep := ep) lo) (I.ok.hd hcalm) hat h16 fun h' tk acc hk hacc => ?_)
  have hal : acc.toList.length = ks.length := by rw [Array.length_toList, hacc.1, hl]
  have hS : IntsAre acc.toList ks := ints_each hal fun j v e => by
    obtain ⟨k, x, e1, e2⟩ := hacc.2 j v (by rw [← Array.getElem?_toList]; exact e)
    have e3 : (vs.map (·.1))[j]? = some k := by rw [List.getElem?_map, e1]; rfl
    rw [hkeys, List.getElem?_map] at e3
    cases e4 : ks[j]? with
    | none => rw [e4] at e3; cases e3
    | some y =>
      rw [e4] at e3
      have e5 : Sum.inl y = k := Option.some.inj e3
      subst e5
      rcases keyIs_shape (show keyIs (Sum.inl y) v = true from e2) with ⟨i, t, ek, ev⟩ | ⟨z, t, ek, ev⟩
      · cases ek
        exact ⟨y, t, rfl, ev⟩
      · cases ek
  have I1 : Inv X pins σ H { s with heap := h', toks := tk } := I.kept hk
  refine wpAny_bind (wpAny_newList ?_ (by rw [hal, sizeLine_eq]; omega))
  have hoL : (h'.push (seqObj "list" acc.toList.toArray 0)).get? h'.objs.size = some (seqObj "list" acc.toList.toArray 0) := Heap.get?_push_size _ rfl
  show wpAny _ _ _ _ _ { s with heap := h'.push (seqObj "list" acc.toList.toArray 0), toks := tk }
  refine wpAny_bind (wpAny_holding (wpAny_call_entry PyProof.Rows.slot_list_sort ⟨_, hoL, rfl⟩ PyProof.Rows.entry_list_sort
    (SrtO.list_sort_ord (s := { s with heap := h'.push (seqObj "list" acc.toList.toArray 0), toks := tk }) SrtO.swo_int hoL (by rw [hal, sizeLine_eq]; omega) (fun h2 => SrtO.ints_sortable hS h2) fun out h1 h2 => ⟨_, rfl, ?_⟩) (PyProof.Rows.args_list_sort _)))
  obtain ⟨g1, g2, g3⟩ := SrtO.ints_out hS h1 h2
  obtain ⟨e', he'⟩ := PyProof.Rows.sortedHeap_at (vs := acc.toList) (out := out.toArray) hoL
  have hlen : ((out.map SrtO.iv).map V.int).length ≤ sizeLine := by
    rw [List.length_map, g2.length_eq, sizeLine_eq]
    omega
  refine wpAny_pure ⟨_, rfl, .ref h'.objs.size, upd H h'.objs.size (.lst ((out.map SrtO.iv).map V.int)), I1.laid (t' := tk) (fun b u e => ?_) (Nat.le_refl _)
    (show ObjOk X.prog X.w _ _ _ (.lst ((out.map SrtO.iv).map V.int)) from ⟨hlen, out, e', vals_of_ints g1, he'⟩), rfl, q _ _ g2 g3 (I1.hok.fresh (Nat.le_refl _))⟩
  have hb : b < h'.objs.size := Heap.lt_size e
  rw [PyProof.Rows.sortedHeap_old (Nat.ne_of_lt hb) (by rw [size_push']; exact Nat.lt_succ_of_lt hb)]
  exact Heap.get?_push_of_some _ e
/-- a written dict whose keys are ints -/
def IDct (K : PySem.W.Frag) (a : Addr) (i : Int) (v : V) : Prop :=
  ∃ es n u, K.lookup a = some ⟨.type "dict", none, .dict es n, #[]⟩ ∧ (∀ e ∈ es, ∃ k t, e.key = Value.int k t ∧ e.hash = hashInt k) ∧ findBy Value.isInt es i = some u ∧ RelV v u
def rIxI (K : PySem.W.Frag) : R2 := fun x y H Q => ∃ p i v, x = .ref p ∧ y = .int i ∧ IDct K p i v ∧ Q v H
theorem ix_idic : IxR X (rIxI X.K) := by
  intro value slice pins s σ H x y v u Q I rx ry h hs
  obtain ⟨p, z, r, rfl, rfl, ⟨es, n, u0, hl, hk, e, ru⟩, q⟩ := h
  obtain rfl : v = Value.ref p := rx
  obtain ⟨t, rfl⟩ := ry
  have hm : s.heap.MapOf (PySem.intKind X.prog X.w) p (fun k => findBy Value.isInt es k) := ⟨_, es, n, I.kIn p _ hl, ⟨rfl, rfl, rfl⟩, rfl, fun e he => by
    obtain ⟨k, t, h1, h2⟩ := hk e he
    exact ⟨k, by rw [h1]; exact PySem.intKind_is X.prog X.w k t, h2⟩, fun _ => rfl⟩
  exact tail_any hm.typeIs slot_dict_getitem.lookup (wpAny_getItem_of (PySem.intKind_is X.prog X.w z t) hm e ⟨r, H, I.tok _, ru, q⟩) hs
theorem idicB_ok {K : PySem.W.Frag} {a : Addr} {kvs : List (Int × He.Dv)} (h : idicB K a kvs = true) : ∀ q ∈ kvs, IDct K a q.1 (q.2.v K) := by
  unfold idicB at h
  cases q : K.lookup a with
  | none =>
    rw [q] at h
    cases h
  | some o =>
    obtain ⟨oc, od, dt, osl⟩ := o
    rw [q] at h
    cases oc with
    | type c =>
      cases od with
      | none =>
        cases dt with
        | dict es n =>
          have h1 : (decide (c = "dict") && (osl.isEmpty && ((es.toList.all fun e => match e.key with
            | .int k _ => decide (e.hash = hashInt k)
            | _ => false) && kvs.all fun q => match findBy Value.isInt es q.1 with
              | some u => He.relB (q.2.v K) u
              | none => false))) = true := h
          rw [Bool.and_eq_true, Bool.and_eq_true, Bool.and_eq_true] at h1
          obtain ⟨h1, h2, h3, h4⟩ := h1
          have h1 := of_decide_eq_true h1
          subst h1
          have h2 : osl = #[] := by simpa using h2
          subst h2
          intro p hp
          have h5 := List.all_eq_true.mp h4 p hp
          cases e : findBy Value.isInt es p.1 with
          | none =>
            rw [e] at h5
            cases h5
          | some u =>
            rw [e] at h5
            refine ⟨es, n, u, q, fun x hx => ?_, e, He.relB_ok h5⟩
            have h6 := List.all_eq_true.mp h3 x (by simpa using hx)
            cases ek : x.key with
            | int k t =>
              rw [ek] at h6
              exact ⟨k, t, rfl, of_decide_eq_true h6⟩
            | _ =>
              rw [ek] at h6
              cases h6
        | _ => cases h
      | some a => cases dt <;> cases h
    | _ => cases od <;> cases dt <;> cases h
theorem ev_ixI {K : PySem.W.Frag} {σ : L2.St} {H : Hp} {ta tb : TE} {p : Addr} {i : Int} {v : V} (ha : Ev ta σ H (.ref p)) (hb : Ev tb σ H (.int i)) (h : IDct K p i v) : Ev (tOp (rIxI K) ta tb) σ H v := ev_op ha hb fun H1 _ Q q => ⟨p, i, v, rfl, rfl, h, q H1 (Ex.refl H1)⟩
/-- xs.extend(a tuple) -/
def rExtendT (K : PySem.W.Frag) : V → List V → Hp → VK → Prop := fun x vs H Q => ∃ l b xs zs, x = .ref l ∧ vs = [.ref b] ∧ H l = some (.lst xs) ∧ SqT K H b zs ∧ xs.length + zs.length ≤ sizeLine ∧ Q .non (upd H l (.lst (xs ++ zs)))
theorem mt_extendT : MtM X "list.extend" (rExtendT X.K) := by
  intro pins s σ H x vs v us Q I rx rv h
  obtain ⟨l, b, xs, zs, rfl, rfl, hH, hB, hz, q⟩ := h
  cases rx
  obtain ⟨u, rfl, ru⟩ := rv.one
  cases ru
  obtain ⟨z, its, n, r, hl, e⟩ := I.lstM hH
  obtain ⟨its2, r2, ⟨o, ho, hc, n2, hd⟩, z2⟩ := I.tuple hB
  have hl2 := r2.length
  obtain ⟨oc, od, dt, sl⟩ := o
  have hc : oc = .type "tuple" := hc
  have hd : dt = .seq its2.toArray n2 := hd
  subst hc hd
  have hsz : its.toArray.size + its2.toArray.size ≤ sizeLine := by rw [List.size_toArray, List.size_toArray]; omega
  have hlong : ¬ (!its.toArray.isEmpty && Builtin.List.listTooLong (its.toArray.size + its2.toArray.size)) = true := by
    rw [notLongL hsz, Bool.and_false]
    exact Bool.false_ne_true
  refine call_meets F.slot_list_extend ⟨_, e, rfl⟩ F.entry_list_extend (F.args_list_extend_2 _ _)
    (list_extend_tup l its.toArray n b its2.toArray n2 od sl hlong (by rw [List.size_toArray]; omega) (by omega)) ⟨e, ho, ?_⟩
  refine ⟨.non, _, I.lset (its' := its ++ its2) hH e (by simp) (r.append r2) ?_, rfl, q⟩
  rw [List.length_append]
  omega
theorem ev_extT {K : PySem.W.Frag} {σ : L2.St} {H : Hp} {ta te : TE} {D : Ends} {l : Addr} {xs ys : List V} {P : V → Hp → Prop} (hl : H l = some (.lst xs)) (ha : Ev ta σ H (.ref l)) (h : EvP te σ H P) (hP : ∀ v H1, P v H1 → ∃ p, v = .ref p ∧ SqT K H1 p ys) (hz : xs.length + ys.length ≤ sizeLine) (k : ∀ H1, Ex H H1 → D.nx σ (upd H1 l (.lst (xs ++ ys)))) :
    tDrop (tBM K "list" (rExtendT K) ta (tCons te tNil)) D σ H := ha H (Ex.refl H) _ fun H1 e1 =>
  ⟨.inl ⟨rfl, xs, sq_of (e1 l _ hl)⟩, h H1 e1 _ fun v H2 e2 p => by
    obtain ⟨p, ev, hp⟩ := hP v H2 p
    exact ⟨l, p, xs, ys, rfl, by rw [ev] <;> rfl, e2 l _ (e1 l _ hl), hp, hz, k H2 (e1.trans e2)⟩⟩
/-- len(d) -/
def rLenK : List V → Hp → VK → Prop := fun xs H Q => ∃ (a : Addr) (kvs : List (Key × V)), xs = [V.ref a] ∧ H a = some (.dK kvs) ∧ Q (.int kvs.length) H
theorem call_lenK : CallR X (.builtin "len") rLenK := by
  intro pins s σ H xs us Q I r h
  obtain ⟨a, kvs, rfl, hd, q⟩ := h
  rw [Vals.ref1 r]
  exact d_len I (.inl hd) fun t s' I' => ⟨.int kvs.length, H, I', ⟨t, rfl⟩, q⟩
theorem ev_lenK {σ : L2.St} {H : Hp} {ta : TE} {a : Addr} {kvs : List (Key × V)} (h : Ev ta σ H (.ref a)) (hd : H a = some (.dK kvs)) : Ev (tCB rLenK (tCons ta tNil)) σ H (.int (kvs.length : Int)) := fun H1 e Q q =>
  h H1 e _ fun H2 e2 => ⟨a, kvs, rfl, e2 _ _ (e _ _ hd), q H2 e2⟩
end
end Trav
namespace Trav
section
open PySem PySem.W PySem.Calls PyProof.Rows PySem.HandSPX
/-! ## Fault: made, raised, read -/
section
variable {prog : Program} {w : World} {A : Around} {R : Result → Shared → Prop} {hp : Heap} {g : Array GenState} {d : Drawn} {t : Nat} {os : OsState} {K : Frag}
/-- the first field of a Fault that is being made -/
theorem flt_put1 {C x t0 : Addr} {name : Str} {tk : Tok} {v : Value} (X : K.In hp) (hx : hp.get? x = some (excO C t0)) (ho : excOver K C exBase = true) (hd : hasDictIn K C = true) (ha : findIn K (.ref C) name = some none)
    (hq : ∀ h' tk' dx, (∀ b o, b ≠ x → hp.get? b = some o → h'.get? b = some o) → hp.objs.size ≤ dx → dx ≠ x → h'.get? x = some { cls := .ref C, dict := some dx, data := .fields #[.ref t0, .none, .none, .none, .bool false, .none] } →
      h'.Ns1 dx (fun y => if y = name then some v else none) → R (.ok (.ret .none)) ⟨h', g, d, tk', os⟩) :
    codeAny (model prog w) A (.call (.builtin "object.__setattr__") ⟨[.ref x, .str name tk, v], []⟩) R ⟨hp, g, d, t, os⟩ := by
  have hxs : x ≠ hp.objs.size := Nat.ne_of_lt (Heap.lt_size hx)
  refine osa_openX (s := ⟨hp, g, d, t, os⟩) (od := none) (r := none) PySem.F.store_Exception X ⟨hx, rfl, rfl, trivial⟩ ho (by unfold takerIn; rw [ha] <;> rfl) fun b => ?_
  obtain ⟨cd, hc, hd'⟩ := any_some hd
  refine wpAny_bind (wpAny_pure (wpAny_bind (instanceDict_exc (s := ⟨hp, g, d, t, os⟩) hx (looks_clsIn X hc) hd' ?_)))
  refine PySem.HandSPX.store_in_new (dx := hp.objs.size) ?_ fun h' tk' hn' hs => ?_
  · exact ⟨_, #[], 0, (Heap.get?_update_ne _ _ _ _ hxs.symm).trans (Heap.get?_push_at rfl rfl), rfl, fun e he => absurd he (by simp), fun _ => rfl⟩
  · have hx1 : (hp.push (dictOf [] 0)).get? x = some (excO C t0) := Heap.get?_push_of_some _ hx
    refine hq h' tk' hp.objs.size (fun b o hb ho => ?_) (Nat.le_refl _) hxs.symm ?_ hn'
    · have e1 := hs.2 b (Nat.ne_of_lt (Heap.lt_size ho))
      exact e1.trans ((Heap.get?_update_ne _ _ _ _ hb).trans (Heap.get?_push_of_some _ ho))
    · have e1 := hs.2 x hxs
      exact e1.trans (Heap.get?_update_self _ hx1 rfl)
/-- the second one -/
theorem flt_put2 {C x t0 dx : Addr} {name : Str} {tk : Tok} {v : Value} {m0 : Str → Option Value} {ns : List Str} (X : K.In hp) (hx : hp.get? x = some { cls := .ref C, dict := some dx, data := .fields #[.ref t0, .none, .none, .none, .bool false, .none] }) (hn : hp.Ns1 dx m0)
    (hw : Within m0 ns) (hz : ns.length ≤ 1000) (ho : excOver K C exBase = true) (hd : hasDictIn K C = true) (ha : findIn K (.ref C) name = some none)
    (hq : ∀ h' tk', (∀ b o, b ≠ dx → hp.get? b = some o → h'.get? b = some o) → h'.Ns1 dx (fun y => if y = name then some v else m0 y) → R (.ok (.ret .none)) ⟨h', g, d, tk', os⟩) :
    codeAny (model prog w) A (.call (.builtin "object.__setattr__") ⟨[.ref x, .str name tk, v], []⟩) R ⟨hp, g, d, t, os⟩ := by
  obtain ⟨oD, esD, epD, hoD, hdD, hcD⟩ := hn.count hw
  refine osa_openX (s := ⟨hp, g, d, t, os⟩) (od := some oD) (r := none) PySem.F.store_Exception X ⟨hx, rfl, rfl, hoD⟩ ho (by unfold takerIn; rw [ha] <;> rfl) fun b => ?_
  obtain ⟨cd, hc, hd'⟩ := any_some hd
  refine wpAny_bind (wpAny_pure (wpAny_bind (wpAny_bind (wpAny_loadPart hx (wpAny_bind ((looks_clsIn X hc).here ?_))))))
  rw [hd']
  refine wpAny_pure (a := some dx) ?_
  exact PySem.OEX.store_in_old hn hw hz fun h' tk' hn' hs => hq h' tk' (fun b o hb e => (hs.2 b hb).trans e) hn'
end
/-- what the written part says of Fault -/
structure Flt (K : Frag) : Prop where
  ini : excInitIn K (He.ga K "Fault") exBase "Exception.__new__" = true
  over : excOver K (He.ga K "Fault") exBase = true
  hd : hasDictIn K (He.ga K "Fault") = true
  kp : keepIn K (.ref (He.ga K "Fault")) = true
  ex : subIn K (.ref (He.ga K "Fault")) (.type "BaseException") = some true
  ty : typeIn K (.ref (He.ga K "Fault")) = some (.type "type")
  sa : findIn K (.ref (He.ga K "Fault")) "__setattr__" = some (some (.builtin "object.__setattr__"))
  gt : findIn K (.ref (He.ga K "Fault")) "__getattribute__" = some (some (.builtin "BaseException.__getattribute__"))
  gg : findIn K (.ref (He.ga K "Fault")) "__getattr__" = some none
  nk : findIn K (.ref (He.ga K "Fault")) "kind" = some none
  np : findIn K (.ref (He.ga K "Fault")) "place" = some none
  iC : findIn K (.ref (He.ga K "Fault")) "__init__" = some (some (.ref (He.ma K (He.ga K "Fault") "__init__")))
  tI : typeIn K (.ref (He.ma K (He.ga K "Fault") "__init__")) = some (.type "function")
  te : exmOne K (.ref (He.ga K "Fault")) (.ref (He.ga K "Fault")) = some true
theorem Txt.flt {K : Frag} {mg : Str → Option Value} (T : Txt K mg) : Flt K := by
  have h := T.ex
  unfold exB faultB at h
  simp only [Bool.and_eq_true, decide_eq_true_eq] at h
  obtain ⟨⟨h1, h2, h3, h4, h5, h6, h7, h8, h9, h10, h11, h12, h13, h14⟩, _⟩ := h
  exact ⟨h1, h2, h3, h4, h5, h6, He.eqO_ok h7, He.eqO_ok h8, He.eqO_ok h9, He.eqO_ok h10, He.eqO_ok h11, He.eqO_ok h12, h13, h14⟩
end
end Trav
namespace Trav
section
open PySem PySem.W PySem.Calls PyProof.Rows PySem.HandSPX L2
/-- the text of Fault's __init__ -/
theorem flt_text : ∃ q1 q2 q3 q4 r1 r2 r3 r4 : Pos, defBody s_Fault_init = [.Assign [.Attribute (.Name "self" q1) "kind" q2] (.Name "kind" q3) q4, .Assign [.Attribute (.Name "self" r1) "place" r2] (.Name "place" r3) r4] :=
  ⟨_, _, _, _, _, _, _, _, rfl⟩
/-- a made Fault: e, its own dict at d -/
structure FltMade (K : Frag) (h h' : Heap) (e d : Addr) (vk vp : Value) : Prop where
  keep : ∀ b o, h.get? b = some o → h'.get? b = some o
  new : h.objs.size ≤ e
  obj : ∃ oe vs, h'.get? e = some oe ∧ oe.cls = .ref (He.ga K "Fault") ∧ oe.dict = some d ∧ oe.data = .fields vs ∧ vs[1]? = some .none
  dbig : h.objs.size ≤ d
  dne : d ≠ e
  ns : h'.Ns1 d (fun y => if y = "place" then some vp else if y = "kind" then some vk else none)
section
variable {prog : Program} {w : World} {A : Around} {E : Value → Shared → Prop} {R : Result → Shared → Prop} {s : Shared} {K : Frag} {mg : Str → Option Value}
/-- a local name's value -/
theorem flt_ld {M : Model} {name : Str} {scope : Scope} {L a : Addr} {cd : Value} {m : Str → Option Value} {x : Str} {pos : Pos} {v : Value} {Q : Value → Shared → Prop} (hn : s.heap.Ns L m) (hv : m x = some v) (h : Q v s)
    (hk : scope.kind = .function) (hl : (envOfC name scope L a cd).kindOf x = some .local) (hd : (x == ("__debug__" : Str)) = false := by decide) :
    wpAny M A (eval (.Name x pos) (envOfC name scope L a cd)) Q E s := wpAny_Name (wpAny_loadName_local hk hl hn hv h) hd
theorem flt_init (T : Txt K mg) {x t0 : Addr} {vk vp : Value} (X : K.In s.heap) (hlim : s.heap.NoLimit) (hx : s.heap.get? x = some (excO (He.ga K "Fault") t0)) (hnx : K.lookup x = none) (hroom : A.depth < recursionLimit)
    (hq : ∀ h' tk dx, (∀ b o, b ≠ x → s.heap.get? b = some o → h'.get? b = some o) → h'.get? x = some { cls := .ref (He.ga K "Fault"), dict := some dx, data := .fields #[.ref t0, .none, .none, .none, .bool false, .none] } → s.heap.objs.size ≤ dx → dx ≠ x →
      h'.Ns1 dx (fun y => if y = "place" then some vp else if y = "kind" then some vk else none) → R (.ok (.ret .none)) { s with heap := h', toks := tk }) :
    codeAny (model prog w) A (.call (.ref (He.ma K (He.ga K "Fault") "__init__")) ⟨[.ref x, vk, vp], []⟩) R s := by
  have F := T.flt
  obtain ⟨fd, FD⟩ := T.says.def_ 31 (d := d_Fault_init) rfl
  obtain ⟨oc, od, dV, kV, doc, pm, an, cdv, ct, osl, rfl, ho, hcd, hD, hK⟩ := FD.ex
  have hdv : dV = .none := by
    rcases hD with ⟨_, e⟩ | ⟨e, _⟩
    · exact e
    · exact absurd rfl e
  subst hdv
  obtain ⟨q1, q2, q3, q4, r1, r2, r3, r4, hbody⟩ := flt_text
  refine Att.call_fn (binds := [("self", .ref x), ("kind", vk), ("place", vp)]) X hlim ho hcd hroom (BindsTo.of_eq (by first | rfl | with_unfolding_all rfl)) (by first | rfl | decide | with_unfolding_all rfl) (fun s₁ IC => ?_) rfl rfl rfl
  obtain ⟨h₁, tk₁, rfl⟩ := IC.toInCall.same
  have k : ∀ b o, s.heap.get? b = some o → h₁.get? b = some o := IC.toInCall.keep
  have hn := IC.toInCall.ns
  have X₁ : K.In h₁ := X.keeps k
  have hx₁ := k _ _ hx
  have z0 : s.heap.objs.size < h₁.objs.size := hn.lt
  show wpAny _ _ (execs (defBody s_Fault_init) _) _ _ _
  rw [hbody]
  refine wpAny_execs_cons (plainObj_wpAny_Assign_Attribute ?_)
  refine flt_ld (v := vk) hn (by first | rfl | with_unfolding_all rfl | kernel_rfl) (flt_ld (v := .ref x) hn (by first | rfl | with_unfolding_all rfl | kernel_rfl) ?_ rfl (by first | rfl | with_unfolding_all rfl | kernel_rfl)) rfl (by first | rfl | with_unfolding_all rfl | kernel_rfl)
  refine set_plain X₁ (ox := excO (He.ga K "Fault") t0) (od := none) ⟨hx₁, rfl, rfl, trivial⟩ F.sa ?_
  refine flt_put1 X₁ hx₁ F.over F.hd F.nk fun h₃ tk₃ dx k₃ dn dne hx₃ hn₃ => ?_
  have dn : h₁.objs.size ≤ dx := dn
  have hnL := IC.toInCall.ns
  have hLx : s.heap.objs.size ≠ x := Nat.ne_of_gt (Heap.lt_size hx)
  have hn3 : h₃.Ns s.heap.objs.size _ := hnL.at fun o q => k₃ _ o hLx q
  have X₃ : K.In h₃ := fun a o e => k₃ a o (fun z => by rw [z, hnx] at e; cases e) (X₁ a o e)
  show wpAny _ _ (execs _ _) _ _ _
  refine wpAny_execs_cons (plainObj_wpAny_Assign_Attribute ?_)
  refine flt_ld (v := vp) hn3 (by first | rfl | with_unfolding_all rfl | kernel_rfl) (flt_ld (v := .ref x) hn3 (by first | rfl | with_unfolding_all rfl | kernel_rfl) ?_ rfl (by first | rfl | with_unfolding_all rfl | kernel_rfl)) rfl (by first | rfl | with_unfolding_all rfl | kernel_rfl)
  obtain ⟨oD, esD, epD, hoD, hdD, hcD⟩ := hn₃.count (Within.cons "kind" vk Within.nil)
  refine set_plain X₃ (ox := { cls := .ref (He.ga K "Fault"), dict := some dx, data := .fields #[.ref t0, .none, .none, .none, .bool false, .none] }) (od := some oD) ⟨hx₃, rfl, rfl, hoD⟩ F.sa ?_
  refine flt_put2 X₃ hx₃ hn₃ (Within.cons "kind" vk Within.nil) (by decide) F.over F.hd F.np fun h₄ tk₄ k₄ hn₄ => ?_
  show wpAny _ _ (execs _ _) _ _ _
  exact wpAny_execs_nil (hq h₄ tk₄ dx (fun b o hb e => k₄ b o (fun z => by
    rw [z] at e
    have z3 : dx < s.heap.objs.size := Heap.lt_size e
    omega) (k₃ b o hb (k b o e))) (k₄ x _ dne.symm hx₃) (by omega) dne hn₄)
end
end
end Trav
namespace Trav
section
open PySem PySem.W PySem.Calls PyProof.Rows PySem.HandSPX L2
theorem flt_made {prog : Program} {w : World} {A : Around} {R : Result → Shared → Prop} {s : Shared} {K : Frag} {mg : Str → Option Value} (T : Txt K mg) {vk vp : Value} (X : K.In s.heap) (hlim : s.heap.NoLimit) (hroom : A.depth + 1 < recursionLimit)
    (hq : ∀ h' tk e d, FltMade K s.heap h' e d vk vp → R (.ok (.ret (.ref e))) { s with heap := h', toks := tk }) : codeAny (model prog w) A (.call (.ref (He.ga K "Fault")) ⟨[vk, vp], []⟩) R s := by
  have F := T.flt
  obtain ⟨nm, N, qn, bs, bm, hdct, sn, sub, ab, col, dd, k0, k1, k2, k3, k5, hC, hT⟩ := excInit_of X F.ini
  obtain ⟨hp, g, dr, tk, os⟩ := s
  have k : ∀ b o, hp.get? b = some o → ((hp.push (kdv_tup [vk, vp])).push (excO (He.ga K "Fault") hp.objs.size)).get? b = some o := fun b o e => Heap.get?_push_of_some _ (Heap.get?_push_of_some _ e)
  have hget : ((hp.push (kdv_tup [vk, vp])).push (excO (He.ga K "Fault") hp.objs.size)).get? (hp.objs.size + 1) = some (excO (He.ga K "Fault") hp.objs.size) := by heap_get
  have hnx : K.lookup (hp.objs.size + 1) = none := by
    cases e : K.lookup (hp.objs.size + 1) with
    | none => rfl
    | some o =>
      have z := Heap.lt_size (X _ _ e)
      have z : hp.objs.size + 1 < hp.objs.size := z
      omega
  refine call_own PySem.F.excBase_Exception hT hC (looks_findIn X F.iC) (fun self => bind_fn X self F.tI) (by rw [sizeLine_eq]; show 2 ≤ 16777216; decide) ?_
  refine flt_init (s := ⟨(hp.push (kdv_tup [vk, vp])).push (excO (He.ga K "Fault") hp.objs.size), g, dr, tk, os⟩) T (X.keeps k) (hlim.keeps k) hget hnx ?_ fun h' tk' dx k' hx dn dne hns => ?_
  · show A.depth + 1 < recursionLimit
    exact hroom
  · have sz : ((hp.push (kdv_tup [vk, vp])).push (excO (He.ga K "Fault") hp.objs.size)).objs.size = hp.objs.size + 1 + 1 := by rw [Heap.size_push, Heap.size_push]
    have dn : ((hp.push (kdv_tup [vk, vp])).push (excO (He.ga K "Fault") hp.objs.size)).objs.size ≤ dx := dn
    rw [sz] at dn
    exact ⟨rfl, hq h' tk' (hp.objs.size + 1) dx ⟨fun b o e => k' b o (Nat.ne_of_lt (Nat.lt_succ_of_lt (Heap.lt_size e))) (k b o e), Nat.le_succ _, ⟨_, _, hx, rfl, rfl, rfl, rfl⟩, by show hp.objs.size ≤ dx; omega, dne, hns⟩⟩
end
section
open PySem PySem.Spec PyProof.Rows L2 Evl
/-- what a Fault carries -/
def fltF (k p : V) : List (Str × V) := [("place", p), ("kind", k)]
theorem flt_rel {vk vp : V} {uk up : Value} (rk : RelV vk uk) (rp : RelV vp up) (f : Str) : RelO (List.lookup f (fltF vk vp)) (if f = "place" then some up else if f = "kind" then some uk else none) := by
  unfold fltF
  by_cases h1 : f = "place"
  · subst h1
    rw [if_pos rfl]
    have q : List.lookup ("place" : Str) [(("place" : Str), vp), (("kind" : Str), vk)] = some vp := by simp [List.lookup]
    rw [q]
    exact rp
  · rw [if_neg h1]
    have q1 : (f == ("place" : Str)) = false := by simpa using h1
    by_cases h2 : f = "kind"
    · subst h2
      rw [if_pos rfl]
      have q : List.lookup ("kind" : Str) [(("place" : Str), vp), (("kind" : Str), vk)] = some vk := by simp [List.lookup, q1]
      rw [q]
      exact rk
    · rw [if_neg h2]
      have q2 : (f == ("kind" : Str)) = false := by simpa using h2
      have q : List.lookup f [(("place" : Str), vp), (("kind" : Str), vk)] = none := by simp [List.lookup, q1, q2]
      rw [q]
      trivial
section
variable {X : Cx} {K : PySem.W.Frag}
/-- Fault(k, p) -/
def tMkF (K : PySem.W.Frag) (ta : TA) : L2.St → Hp → XK → Prop := fun σ H Q => ta σ H fun vs H1 => ∃ vk vp, vs = [vk, vp] ∧ ∀ d, H1 d = none → Q (.ref (He.ga K "Fault")) (some d) (upd H1 d (.xd (fltF vk vp)))
theorem pmk_flt {a b : Expr} {ta : TA} {p pos : Pos} {k : Nat} (T : Txt X.K X.mg) (hr : Room k X.A) (ha : PA X [a, b] ta) (hg : Gl X "Fault" := by rfl)
    (he : starEach (a :: b :: []) X.env = (false, eval a X.env) :: starEach (b :: []) X.env := by rfl) (hpl : (backTo pos (starEach (b :: []) X.env)).any (·.1) = false := by rfl) :
    PMk X (.Call (.Name "Fault" p) [a, b] [] pos) (tMkF X.K ta) := by
  have F := T.flt
  intro pins s σ H Q I h
  refine wpAny_Call_Name_kw (ld_glob I hg (T.glo 97 rfl) ?_)
  refine PySem.W.callWith_K (h₀ := X.base) I.ok.mod.kin F.kp (thn (ha.run pos pins s σ H _ I h) fun us s1 hh => ?_) he hpl
  obtain ⟨vs, H1, I1, r1, vk, vp, ev, q1⟩ := hh
  subst ev
  refine ⟨I1.kIn, ?_⟩
  cases r1 with
  | cons rk rn =>
    rename_i uk us'
    cases rn with
    | cons rp rn =>
      rename_i up us2
      cases rn
      show wpAny _ _ (call (.ref (He.ga X.K "Fault")) [uk, up]) _ _ _
      have hlim := I1.nolimit
      obtain ⟨hp, g, dr, tk, os⟩ := s1
      refine wpAny_call (flt_made T I1.kIn hlim (by have := hr.dp; omega) fun h' tk' e d M => ?_)
      show MkP X pins σ Q (.ref e) ⟨h', g, dr, tk', os⟩
      obtain ⟨oe, fv, hoe, hc, hd, hdat, h1⟩ := M.obj
      have hns := M.ns
      obtain ⟨G', g1, g2⟩ := restrict h' fun b => decide (b ≠ e)
      have gk : ∀ b, b ≠ e → G'.get? b = h'.get? b := fun b hb => g1 b (decide_eq_true hb)
      have ge : G'.get? e = none := g2 e (by simp)
      have old : ∀ b o, hp.get? b = some o → G'.get? b = some o := fun b o q => (gk b (Nat.ne_of_lt (Nat.lt_of_lt_of_le (Heap.lt_size q) M.new))).trans (M.keep b o q)
      have ob : ObjOk X.prog X.w (upd H1 d (.xd (fltF vk vp))) G' d (.xd (fltF vk vp)) :=
        ⟨_, hns.at (fun o q => (gk d M.dne).trans q), fun f => flt_rel rk rp f⟩
      have J : Inv X pins σ (upd H1 d (.xd (fltF vk vp))) ⟨G', g, dr, tk', os⟩ := I1.laid (t' := tk') old M.dbig ob
      refine ⟨e, oe, fv, ⟨G', g, dr, tk', os⟩, _, .ref (He.ga X.K "Fault"), some d, rfl, J, fun b o q => ?_, ge, hoe, ⟨hc, hd⟩, hdat, h1, ?_, rfl, I1.bare, raises_own F.ex F.ty, q1 d (I1.hok.fresh M.dbig)⟩
      · by_cases hb : b = e
        · have q' : G'.get? b = some o := q
          rw [hb, ge] at q'
          cases q'
        · exact (gk b hb).symm.trans q
      · rw [upd_ne (Ne.symm M.dne)]
        exact I1.hok.fresh M.new
/-- raise Fault(k, p) -/
def tRaiseF (K : PySem.W.Frag) (W : WX) (ta : TA) : TS := fun _ σ H => tMkF K ta σ H fun cls d H' => W cls d σ H'
theorem ps_fault {a b : Expr} {ta : TA} {W : WX} {p pos pos2 : Pos} {k : Nat} (T : Txt X.K X.mg) (hr : Room k X.A) (tk : Takes X W) (ha : PA X [a, b] ta) (hc : X.calm = true := by rfl) (hg : Gl X "Fault" := by rfl)
    (he : starEach (a :: b :: []) X.env = (false, eval a X.env) :: starEach (b :: []) X.env := by rfl) (hpl : (backTo pos (starEach (b :: []) X.env)).any (·.1) = false := by rfl) :
    PS X (.Raise (some (.Call (.Name "Fault" p) [a, b] [] pos)) none pos2) (tRaiseF X.K W ta) := ps_raise hc tk (pmk_flt T hr ha hg he hpl)
/-- fault.f, fault the exception that the suite holds (at a; its class cls, its dict d) -/
def tOfF (K : PySem.W.Frag) (f : Str) (a : Addr) (cls : Value) (d : Option Addr) (te : TE) : TE := fun σ H Q => te σ H fun x H1 => x = .ref a ∧ cls = .ref (He.ga K "Fault") ∧ ∃ (dd : Addr) (vk vp v : V), d = some dd ∧ H1 dd = some (.xd (fltF vk vp)) ∧ (fltF vk vp).lookup f = some v ∧ Q v H1
theorem pe_ofF {a : Addr} {oe : Obj} {cls : Value} {d : Option Addr} {pn : List (Addr × Obj)} {e : Expr} {te : TE} {f : Str} {pos : Pos} (T : Txt X.K X.mg) (hno : PySem.W.findIn X.K (.ref (He.ga X.K "Fault")) f = some none) (hz : Zc cls d oe) (hf : ∃ vs, oe.data = .fields vs) (he : PE (X.suite a ((a, oe) :: pn)) e te)
    (hb : attributeBase e f X.env (eval e X.env) = eval e X.env := by rfl) :
    PE (X.suite a ((a, oe) :: pn)) (.Attribute e f pos) (tOfF X.K f a cls d te) := by
  have F := T.flt
  refine ⟨fun pins s σ H Q I h => ?_⟩
  refine attr_of hb (thn (he.run pins s σ H _ I h) fun u s1 hh => ?_)
  obtain ⟨x, H1, I1, rx, ex, ec, dd, vk, vp, v, ed, ea, l, q⟩ := hh
  subst ex
  obtain rfl : u = Value.ref a := rx
  subst ec
  subst ed
  obtain ⟨ha, _⟩ := I1.pin (a, oe) (List.mem_append_left _ List.mem_cons_self)
  obtain ⟨vs, hd⟩ := hf
  have hx : ObjOk X.prog X.w H1 s1.heap dd (.xd (fltF vk vp)) := I1.hok dd _ ea
  obtain ⟨mA, hns, hr⟩ := hx
  obtain ⟨od, ho, hl⟩ := lookIn_ns hns
  obtain ⟨u, hu, ru⟩ := RelO.some_of (v := v) (o := mA f) (by rw [← l]; exact hr f)
  have J : PySem.W.InstAt s1.heap a oe (He.ga X.K "Fault") (some od) := ⟨ha, hz.1, by unfold PySem.W.notCls; rw [hd] <;> rfl, by rw [hz.2]; exact ho⟩
  exact HandSPX.exc_get I1.kIn J F.gt F.gg F.ex (PySem.W.findObj_own F.hd hno rfl (by rw [hl, hu])) (handed_of ru) ⟨v, H1, I1.tok _, ru, q⟩
end
end
end Trav
section
open PySem PySem.Spec PyProof.Rows L2 Evl Trav
local macro_rules | `(tactic| walk_at "rv") => `(tactic| first
  | exact rv_I0
  | exact rv_eq rfl
  | exact rv_ne rfl
  | (apply rv_I; first | assumption | decide | omega))
local macro_rules | `(tactic| walk_at "ev") => `(tactic| first
  | exact ev_var rfl
  | exact ev_c
  | ((with_reducible apply ev_op); walk_at "ev"; walk_at "ev"; walk_at "rv")
  | ((with_reducible apply ev_un (hr := ru_neg)); walk_at "ev")
  | ((with_reducible apply ev_within); walk_at "ev"; walk_at "ev"; walk_at "ev")
  | ((with_reducible apply ev_andV); walk_at "ev"; intro _; walk_at "ev")
  | ((with_reducible apply ev_orV); walk_at "ev"; intro _; walk_at "ev")
  | ((with_reducible apply ev_notV); walk_at "ev"))
local macro_rules | `(tactic| walk_at "ea") => `(tactic| first
  | exact ea_nil
  | ((with_reducible apply ea_cons); walk_at "ev"; walk_at "ea"))
local macro_rules | `(tactic| walk_at "et") => `(tactic| first
  | ((with_reducible apply et_test); walk_at "ev")
  | ((with_reducible apply et_B); walk_at "ev")
  | ((with_reducible apply et_not); walk_at "et")
  | ((with_reducible apply et_and); walk_at "et"; intro _; walk_at "et")
  | ((with_reducible apply et_or); walk_at "et"; intro _; walk_at "et"))
namespace Trav
/-! ## tokens -/
abbrev b2 (c : UInt8) : V := .int (c.toNat : Int)
abbrev bs (l : List UInt8) : List V := l.map b2
theorem u8_dec (c : UInt8) (n : Nat) (h : n < 256) : decide (V.int (c.toNat : Int) = V.int (n : Int)) = (c == UInt8.ofNat n) := by
  have e : (c == UInt8.ofNat n) = decide (c.toNat = n) := by
    rw [Bool.eq_iff_iff]
    simp only [beq_iff_eq, decide_eq_true_eq]
    constructor
    · intro h1
      rw [h1]
      simp [UInt8.toNat_ofNat, Nat.mod_eq_of_lt h]
    · intro h1
      apply UInt8.toNat_inj.mp
      rw [h1]
      simp [UInt8.toNat_ofNat, Nat.mod_eq_of_lt h]
  rw [e]
  simp only [V.int.injEq]
  rw [Bool.eq_iff_iff]
  simp only [decide_eq_true_eq]
  omega
theorem nat_within (a b : Nat) (c : Nat) : (decide ((a : Int) ≤ (c : Int)) && decide ((c : Int) ≤ (b : Int))) = (decide (a ≤ c) && decide (c ≤ b)) := by
  congr 1 <;> (rw [Bool.eq_iff_iff]; simp only [decide_eq_true_eq]; omega)
theorem bs_get {b : List UInt8} {i : Nat} {c : UInt8} (h : b[i]? = some c) : atI (bs b) (i : Int) = some (b2 c) := L2.atI_nat (by rw [List.getElem?_map, h]; rfl)
def spByte (f : UInt8 → Bool) : Sp := fun vs H Q _ => ∃ c : UInt8, vs = [b2 c] ∧ RetV (.bl (f c)) H Q
section
variable {σ : L2.St} {H : Hp} {ta : TE} {c : UInt8} {f : UInt8 → Bool} {E : XK}
theorem c_byte (h : Ev ta σ H (b2 c)) : Ev (tCall (spByte f) [] E (tCons ta tNil)) σ H (.bl (f c)) := ev_callV (ea_cons h ea_nil) fun _ _ _ k => ⟨c, rfl, k⟩
end
local macro_rules | `(tactic| walk_at "ev") => `(tactic| ((with_reducible apply c_byte); walk_at "ev"))
section
variable {P : Program} {w : World} {K : PySem.W.Frag} {mg : Str → Option Value} {base : Heap}
theorem sc_is_letter : FnScope ["code"] ["code"] (defScope s_is_letter) := ⟨rfl, rfl, rfl, by decide +kernel, rfl, by decide +kernel, by decide +kernel⟩
theorem ok_is_letter (T : Txt K mg) : Def P w K mg base CX0 1 "is_letter" ["code"] (spByte LsText.isLetter) := by
  refine T.def_ 1 1 rfl rfl rfl rfl rfl sc_is_letter (fun _ _ _ _ _ _ us hl => match us, hl with | [_], _ => rfl) (fun vs H Q E h => by first | (obtain ⟨_, rfl, _⟩ := h; rfl) | (obtain ⟨_, _, rfl, _⟩ := h; rfl) | (obtain ⟨_, _, _, rfl, _⟩ := h; rfl) | (obtain ⟨_, _, _, _, rfl, _⟩ := h; rfl) | (obtain ⟨_, _, _, _, _, rfl, _⟩ := h; rfl) | (obtain ⟨_, _, _, _, _, _, rfl, _⟩ := h; rfl) | (obtain ⟨_, _, _, _, _, _, _, rfl, _⟩ := h; rfl) | (obtain ⟨_, _, _, _, _, _, _, _, rfl, _⟩ := h; rfl) | (obtain ⟨_, _, _, _, _, _, _, _, _, rfl, _⟩ := h; rfl) | (obtain ⟨_, _, _, _, _, _, _, _, _, _, rfl, _⟩ := h; rfl) | (obtain ⟨_, _, _, _, _, _, _, _, _, _, _, rfl, _⟩ := h; rfl) | (obtain ⟨_, _, _, _, _, _, _, _, _, _, _, _, rfl, _⟩ := h; rfl) | (obtain ⟨_, _, _, _, _, _, _, _, _, _, _, _, _, rfl, _⟩ := h; rfl) | (obtain ⟨_, _, _, _, _, _, _, _, _, _, _, _, _, _, rfl, _⟩ := h; rfl) | (obtain ⟨_, _, _, _, _, _, _, _, _, _, _, _, _, _, _, rfl, _⟩ := h; rfl) | (obtain ⟨_, _, _, _, _, _, _, _, _, _, _, _, _, _, _, _, rfl, _⟩ := h; rfl) | (obtain ⟨_, _, _, _, _, _, _, _, _, _, _, _, _, _, _, _, _, rfl, _⟩ := h; rfl) | (obtain ⟨_, _, _, _, _, _, _, _, _, _, _, _, _, _, _, _, _, _, rfl, _⟩ := h; rfl) | (obtain ⟨_, _, _, _, _, _, _, _, _, _, _, _, _, _, _, _, _, _, _, rfl, _⟩ := h; rfl)) (fun f cdv A outer s H vs Q E hr h => ⟨_, PSs.nox (pss_one (ps_ret (pe_or (pe_chain op_le op_le pe_int (pv 0) pe_int) (pe_one (pe_chain op_le op_le pe_int (pv 0) pe_int))))), ?_⟩)
  obtain ⟨c, rfl, k⟩ := h
  refine (sv_ret (v := .bl (LsText.isLetter c)) (ev_is (by walk_at "ev") ?_) fun H1 e => k H1 e).go
  unfold LsText.isLetter LsText.isSmall LsText.isLarge
  rw [← nat_within, ← nat_within, Bool.or_comm]
  rfl
theorem sc_is_digit : FnScope ["code"] ["code"] (defScope s_is_digit) := ⟨rfl, rfl, rfl, by decide +kernel, rfl, by decide +kernel, by decide +kernel⟩
theorem ok_is_digit (T : Txt K mg) : Def P w K mg base CX0 1 "is_digit" ["code"] (spByte LsText.isDigit) := by
  refine T.def_ 2 2 rfl rfl rfl rfl rfl sc_is_digit (fun _ _ _ _ _ _ us hl => match us, hl with | [_], _ => rfl) (fun vs H Q E h => by first | (obtain ⟨_, rfl, _⟩ := h; rfl) | (obtain ⟨_, _, rfl, _⟩ := h; rfl) | (obtain ⟨_, _, _, rfl, _⟩ := h; rfl) | (obtain ⟨_, _, _, _, rfl, _⟩ := h; rfl) | (obtain ⟨_, _, _, _, _, rfl, _⟩ := h; rfl) | (obtain ⟨_, _, _, _, _, _, rfl, _⟩ := h; rfl) | (obtain ⟨_, _, _, _, _, _, _, rfl, _⟩ := h; rfl) | (obtain ⟨_, _, _, _, _, _, _, _, rfl, _⟩ := h; rfl) | (obtain ⟨_, _, _, _, _, _, _, _, _, rfl, _⟩ := h; rfl) | (obtain ⟨_, _, _, _, _, _, _, _, _, _, rfl, _⟩ := h; rfl) | (obtain ⟨_, _, _, _, _, _, _, _, _, _, _, rfl, _⟩ := h; rfl) | (obtain ⟨_, _, _, _, _, _, _, _, _, _, _, _, rfl, _⟩ := h; rfl) | (obtain ⟨_, _, _, _, _, _, _, _, _, _, _, _, _, rfl, _⟩ := h; rfl) | (obtain ⟨_, _, _, _, _, _, _, _, _, _, _, _, _, _, rfl, _⟩ := h; rfl) | (obtain ⟨_, _, _, _, _, _, _, _, _, _, _, _, _, _, _, rfl, _⟩ := h; rfl) | (obtain ⟨_, _, _, _, _, _, _, _, _, _, _, _, _, _, _, _, rfl, _⟩ := h; rfl) | (obtain ⟨_, _, _, _, _, _, _, _, _, _, _, _, _, _, _, _, _, rfl, _⟩ := h; rfl) | (obtain ⟨_, _, _, _, _, _, _, _, _, _, _, _, _, _, _, _, _, _, rfl, _⟩ := h; rfl) | (obtain ⟨_, _, _, _, _, _, _, _, _, _, _, _, _, _, _, _, _, _, _, rfl, _⟩ := h; rfl)) (fun f cdv A outer s H vs Q E hr h => ⟨_, PSs.nox (pss_one (ps_ret (pe_chain op_le op_le (pe_gi (T.int 106 rfl)) (pv 0) (pe_gi (T.int 107 rfl))))), ?_⟩)
  obtain ⟨c, rfl, k⟩ := h
  refine (sv_ret (v := .bl (LsText.isDigit c)) (ev_is (by walk_at "ev") ?_) fun H1 e => k H1 e).go
  unfold LsText.isDigit
  rw [← nat_within]
  rfl
theorem sc_is_word_code : FnScope ["code"] ["code"] (defScope s_is_word_code) := ⟨rfl, rfl, rfl, by decide +kernel, rfl, by decide +kernel, by decide +kernel⟩
theorem ok_is_word_code (T : Txt K mg) : Def P w K mg base CX0 2 "is_word_code" ["code"] (spByte LsText.isPart) := by
  refine T.def_ 3 3 rfl rfl rfl rfl rfl sc_is_word_code (fun _ _ _ _ _ _ us hl => match us, hl with | [_], _ => rfl) (fun vs H Q E h => by first | (obtain ⟨_, rfl, _⟩ := h; rfl) | (obtain ⟨_, _, rfl, _⟩ := h; rfl) | (obtain ⟨_, _, _, rfl, _⟩ := h; rfl) | (obtain ⟨_, _, _, _, rfl, _⟩ := h; rfl) | (obtain ⟨_, _, _, _, _, rfl, _⟩ := h; rfl) | (obtain ⟨_, _, _, _, _, _, rfl, _⟩ := h; rfl) | (obtain ⟨_, _, _, _, _, _, _, rfl, _⟩ := h; rfl) | (obtain ⟨_, _, _, _, _, _, _, _, rfl, _⟩ := h; rfl) | (obtain ⟨_, _, _, _, _, _, _, _, _, rfl, _⟩ := h; rfl) | (obtain ⟨_, _, _, _, _, _, _, _, _, _, rfl, _⟩ := h; rfl) | (obtain ⟨_, _, _, _, _, _, _, _, _, _, _, rfl, _⟩ := h; rfl) | (obtain ⟨_, _, _, _, _, _, _, _, _, _, _, _, rfl, _⟩ := h; rfl) | (obtain ⟨_, _, _, _, _, _, _, _, _, _, _, _, _, rfl, _⟩ := h; rfl) | (obtain ⟨_, _, _, _, _, _, _, _, _, _, _, _, _, _, rfl, _⟩ := h; rfl) | (obtain ⟨_, _, _, _, _, _, _, _, _, _, _, _, _, _, _, rfl, _⟩ := h; rfl) | (obtain ⟨_, _, _, _, _, _, _, _, _, _, _, _, _, _, _, _, rfl, _⟩ := h; rfl) | (obtain ⟨_, _, _, _, _, _, _, _, _, _, _, _, _, _, _, _, _, rfl, _⟩ := h; rfl) | (obtain ⟨_, _, _, _, _, _, _, _, _, _, _, _, _, _, _, _, _, _, rfl, _⟩ := h; rfl) | (obtain ⟨_, _, _, _, _, _, _, _, _, _, _, _, _, _, _, _, _, _, _, rfl, _⟩ := h; rfl)) (fun f cdv A outer s H vs Q E hr h => ⟨_, PSs.nox (pss_one (ps_ret (pe_or (pe_cd (ok_is_letter T) hr pass0 (pa_cons (pv 0) pa_nil)) (pe_or (pe_cd (ok_is_digit T) hr pass0 (pa_cons (pv 0) pa_nil)) (pe_one (pe_cmpR op_eq (pv 0) (pe_gi (T.int 109 rfl)) (nomark _))))))), ?_⟩)
  obtain ⟨c, rfl, k⟩ := h
  refine (sv_ret (v := .bl (LsText.isPart c)) (ev_is (by walk_at "ev") ?_) fun H1 e => k H1 e).go
  rw [show (95 : Int) = ((95 : Nat) : Int) from rfl, u8_dec _ 95 (by decide)]
  rfl
theorem sc_is_blank : FnScope ["code"] ["code"] (defScope s_is_blank) := ⟨rfl, rfl, rfl, by decide +kernel, rfl, by decide +kernel, by decide +kernel⟩
theorem ok_is_blank (T : Txt K mg) : Def P w K mg base CX0 1 "is_blank" ["code"] (spByte LsText.isBlank) := by
  refine T.def_ 4 4 rfl rfl rfl rfl rfl sc_is_blank (fun _ _ _ _ _ _ us hl => match us, hl with | [_], _ => rfl) (fun vs H Q E h => by first | (obtain ⟨_, rfl, _⟩ := h; rfl) | (obtain ⟨_, _, rfl, _⟩ := h; rfl) | (obtain ⟨_, _, _, rfl, _⟩ := h; rfl) | (obtain ⟨_, _, _, _, rfl, _⟩ := h; rfl) | (obtain ⟨_, _, _, _, _, rfl, _⟩ := h; rfl) | (obtain ⟨_, _, _, _, _, _, rfl, _⟩ := h; rfl) | (obtain ⟨_, _, _, _, _, _, _, rfl, _⟩ := h; rfl) | (obtain ⟨_, _, _, _, _, _, _, _, rfl, _⟩ := h; rfl) | (obtain ⟨_, _, _, _, _, _, _, _, _, rfl, _⟩ := h; rfl) | (obtain ⟨_, _, _, _, _, _, _, _, _, _, rfl, _⟩ := h; rfl) | (obtain ⟨_, _, _, _, _, _, _, _, _, _, _, rfl, _⟩ := h; rfl) | (obtain ⟨_, _, _, _, _, _, _, _, _, _, _, _, rfl, _⟩ := h; rfl) | (obtain ⟨_, _, _, _, _, _, _, _, _, _, _, _, _, rfl, _⟩ := h; rfl) | (obtain ⟨_, _, _, _, _, _, _, _, _, _, _, _, _, _, rfl, _⟩ := h; rfl) | (obtain ⟨_, _, _, _, _, _, _, _, _, _, _, _, _, _, _, rfl, _⟩ := h; rfl) | (obtain ⟨_, _, _, _, _, _, _, _, _, _, _, _, _, _, _, _, rfl, _⟩ := h; rfl) | (obtain ⟨_, _, _, _, _, _, _, _, _, _, _, _, _, _, _, _, _, rfl, _⟩ := h; rfl) | (obtain ⟨_, _, _, _, _, _, _, _, _, _, _, _, _, _, _, _, _, _, rfl, _⟩ := h; rfl) | (obtain ⟨_, _, _, _, _, _, _, _, _, _, _, _, _, _, _, _, _, _, _, rfl, _⟩ := h; rfl)) (fun f cdv A outer s H vs Q E hr h => ⟨_, PSs.nox (pss_one (ps_ret (pe_or (pe_cmpR op_eq (pv 0) (pe_gi (T.int 103 rfl)) (nomark _)) (pe_or (pe_cmpR op_eq (pv 0) (pe_gi (T.int 100 rfl)) (nomark _)) (pe_or (pe_cmpR op_eq (pv 0) (pe_gi (T.int 101 rfl)) (nomark _)) (pe_one (pe_cmpR op_eq (pv 0) (pe_gi (T.int 102 rfl)) (nomark _)))))))), ?_⟩)
  obtain ⟨c, rfl, k⟩ := h
  refine (sv_ret (v := .bl (LsText.isBlank c)) (ev_is (by walk_at "ev") ?_) fun H1 e => k H1 e).go
  rw [show (32 : Int) = ((32 : Nat) : Int) from rfl, show (9 : Int) = ((9 : Nat) : Int) from rfl, show (10 : Int) = ((10 : Nat) : Int) from rfl, show (13 : Int) = ((13 : Nat) : Int) from rfl, u8_dec _ 32 (by decide), u8_dec _ 9 (by decide), u8_dec _ 10 (by decide), u8_dec _ 13 (by decide)]
  rfl
theorem sc_is_quotable : FnScope ["code"] ["code"] (defScope s_is_quotable) := ⟨rfl, rfl, rfl, by decide +kernel, rfl, by decide +kernel, by decide +kernel⟩
theorem ok_is_quotable (T : Txt K mg) : Def P w K mg base CX0 1 "is_quotable" ["code"] (spByte LsText.isShown) := by
  refine T.def_ 5 5 rfl rfl rfl rfl rfl sc_is_quotable (fun _ _ _ _ _ _ us hl => match us, hl with | [_], _ => rfl) (fun vs H Q E h => by first | (obtain ⟨_, rfl, _⟩ := h; rfl) | (obtain ⟨_, _, rfl, _⟩ := h; rfl) | (obtain ⟨_, _, _, rfl, _⟩ := h; rfl) | (obtain ⟨_, _, _, _, rfl, _⟩ := h; rfl) | (obtain ⟨_, _, _, _, _, rfl, _⟩ := h; rfl) | (obtain ⟨_, _, _, _, _, _, rfl, _⟩ := h; rfl) | (obtain ⟨_, _, _, _, _, _, _, rfl, _⟩ := h; rfl) | (obtain ⟨_, _, _, _, _, _, _, _, rfl, _⟩ := h; rfl) | (obtain ⟨_, _, _, _, _, _, _, _, _, rfl, _⟩ := h; rfl) | (obtain ⟨_, _, _, _, _, _, _, _, _, _, rfl, _⟩ := h; rfl) | (obtain ⟨_, _, _, _, _, _, _, _, _, _, _, rfl, _⟩ := h; rfl) | (obtain ⟨_, _, _, _, _, _, _, _, _, _, _, _, rfl, _⟩ := h; rfl) | (obtain ⟨_, _, _, _, _, _, _, _, _, _, _, _, _, rfl, _⟩ := h; rfl) | (obtain ⟨_, _, _, _, _, _, _, _, _, _, _, _, _, _, rfl, _⟩ := h; rfl) | (obtain ⟨_, _, _, _, _, _, _, _, _, _, _, _, _, _, _, rfl, _⟩ := h; rfl) | (obtain ⟨_, _, _, _, _, _, _, _, _, _, _, _, _, _, _, _, rfl, _⟩ := h; rfl) | (obtain ⟨_, _, _, _, _, _, _, _, _, _, _, _, _, _, _, _, _, rfl, _⟩ := h; rfl) | (obtain ⟨_, _, _, _, _, _, _, _, _, _, _, _, _, _, _, _, _, _, rfl, _⟩ := h; rfl) | (obtain ⟨_, _, _, _, _, _, _, _, _, _, _, _, _, _, _, _, _, _, _, rfl, _⟩ := h; rfl)) (fun f cdv A outer s H vs Q E hr h => ⟨_, PSs.nox (pss_one (ps_ret (pe_and (pe_chain op_le op_le (pe_gi (T.int 110 rfl)) (pv 0) (pe_gi (T.int 111 rfl))) (pe_and (pe_cmpR op_ne (pv 0) (pe_gi (T.int 104 rfl)) (nomark _)) (pe_one (pe_cmpR op_ne (pv 0) (pe_gi (T.int 108 rfl)) (nomark _))))))), ?_⟩)
  obtain ⟨c, rfl, k⟩ := h
  refine (sv_ret (v := .bl (LsText.isShown c)) (ev_is (by walk_at "ev") ?_) fun H1 e => k H1 e).go
  rw [show (32 : Int) = ((32 : Nat) : Int) from rfl, show (126 : Int) = ((126 : Nat) : Int) from rfl, show (34 : Int) = ((34 : Nat) : Int) from rfl, show (92 : Int) = ((92 : Nat) : Int) from rfl, nat_within, u8_dec _ 34 (by decide), u8_dec _ 92 (by decide)]
  unfold LsText.isShown bne
  rw [Bool.and_assoc]
  rfl
end
end Trav
namespace Trav
/-! ## where blanks, digits, words end -/
/-- what is asked of a text and a place in it -/
def TxtAt (K : PySem.W.Frag) (H : Hp) (a : Addr) (b : List UInt8) : Prop := SqL K H a (bs b) ∧ b.length ≤ 20000
theorem TxtAt.mono {K : PySem.W.Frag} {H H' : Hp} {a : Addr} {b : List UInt8} (h : TxtAt K H a b) (e : Ex H H') : TxtAt K H' a b := ⟨ex_l e h.1, h.2⟩
/-- a def of a text and a place: a number -/
def spTP (K : PySem.W.Frag) (f : List UInt8 → Nat → Nat) : Sp := fun vs H Q _ => ∃ (a : Addr) (b : List UInt8) (p : Nat), vs = [.ref a, .int (p : Int)] ∧ TxtAt K H a b ∧ p ≤ b.length ∧ RetV (.int (f b p : Int)) H Q
def blanksEnd (b : List UInt8) (p : Nat) : Nat := p + LsText.gap false (b.drop p)
def digitsEnd (b : List UInt8) (p : Nat) : Nat := p + ((b.drop p).takeWhile LsText.isDigit).length
def wordEnd (b : List UInt8) (p : Nat) : Nat := p + ((b.drop p).takeWhile LsText.isPart).length
section
variable {K : PySem.W.Frag} {σ : L2.St} {H : Hp} {ta tb : TE} {f : List UInt8 → Nat → Nat} {E : XK}
theorem c_tp {a : Addr} {b : List UInt8} {p : Nat} (hT : TxtAt K H a b) (hp : p ≤ b.length) (ha : Ev ta σ H (.ref a)) (hb : Ev tb σ H (.int (p : Int))) : Ev (tCall (spTP K f) [] E (tCons ta (tCons tb tNil))) σ H (.int (f b p : Int)) :=
  ev_callV (ea_cons ha (ea_cons hb ea_nil)) fun H1 e _ k => ⟨a, b, p, rfl, hT.mono e, hp, k⟩
theorem ev_txlen {a : Addr} {b : List UInt8} (hT : TxtAt K H a b) (h : Ev ta σ H (.ref a)) :
    Ev (tCB (fun xs H Q => ∃ x n, xs = [x] ∧ LenV K x H n ∧ Q (.int n) H) (tCons ta tNil)) σ H (.int (b.length : Int)) := by
  have e := ev_len1 h hT.1
  rwa [List.length_map] at e
theorem ev_txat {a : Addr} {b : List UInt8} {i : Nat} {c : UInt8} (hT : TxtAt K H a b) (hc : b[i]? = some c) (ha : Ev ta σ H (.ref a)) (hb : Ev tb σ H (.int (i : Int))) : Ev (tOp (rIxL K) ta tb) σ H (b2 c) := ev_ix ha hb hT.1 (bs_get hc)
end
theorem drop_at {α : Type} {b : List α} {i : Nat} {c : α} (h : b[i]? = some c) : b.drop i = c :: b.drop (i + 1) := by
  obtain ⟨h1, h2⟩ := List.getElem?_eq_some_iff.mp h
  rw [List.drop_eq_getElem_cons h1, h2]
theorem drop_all {α : Type} {b : List α} {i : Nat} (h : b.length ≤ i) : b.drop i = [] := List.drop_eq_nil_iff.mpr h
local macro_rules | `(tactic| walk_at "ev") => `(tactic| ((with_reducible apply c_byte); walk_at "ev"))
section
variable {P : Program} {w : World} {K : PySem.W.Frag} {mg : Str → Option Value} {base : Heap}
theorem sc_behind_blanks : FnScope ["text", "place", "in_remark", "at", "code"] ["text", "place"] (defScope s_behind_blanks) := ⟨rfl, rfl, rfl, by decide +kernel, rfl, by decide +kernel, by decide +kernel⟩
theorem ok_behind_blanks (T : Txt K mg) : Def P w K mg base CX0 2 "behind_blanks" ["text", "place"] (spTP K blanksEnd) := by
  refine T.def_ 6 6 rfl rfl rfl rfl rfl sc_behind_blanks (fun _ _ _ _ _ _ us hl => match us, hl with | [_, _], _ => rfl) (fun vs H Q E h => by first | (obtain ⟨_, rfl, _⟩ := h; rfl) | (obtain ⟨_, _, rfl, _⟩ := h; rfl) | (obtain ⟨_, _, _, rfl, _⟩ := h; rfl) | (obtain ⟨_, _, _, _, rfl, _⟩ := h; rfl) | (obtain ⟨_, _, _, _, _, rfl, _⟩ := h; rfl) | (obtain ⟨_, _, _, _, _, _, rfl, _⟩ := h; rfl) | (obtain ⟨_, _, _, _, _, _, _, rfl, _⟩ := h; rfl) | (obtain ⟨_, _, _, _, _, _, _, _, rfl, _⟩ := h; rfl) | (obtain ⟨_, _, _, _, _, _, _, _, _, rfl, _⟩ := h; rfl) | (obtain ⟨_, _, _, _, _, _, _, _, _, _, rfl, _⟩ := h; rfl) | (obtain ⟨_, _, _, _, _, _, _, _, _, _, _, rfl, _⟩ := h; rfl) | (obtain ⟨_, _, _, _, _, _, _, _, _, _, _, _, rfl, _⟩ := h; rfl) | (obtain ⟨_, _, _, _, _, _, _, _, _, _, _, _, _, rfl, _⟩ := h; rfl) | (obtain ⟨_, _, _, _, _, _, _, _, _, _, _, _, _, _, rfl, _⟩ := h; rfl) | (obtain ⟨_, _, _, _, _, _, _, _, _, _, _, _, _, _, _, rfl, _⟩ := h; rfl) | (obtain ⟨_, _, _, _, _, _, _, _, _, _, _, _, _, _, _, _, rfl, _⟩ := h; rfl) | (obtain ⟨_, _, _, _, _, _, _, _, _, _, _, _, _, _, _, _, _, rfl, _⟩ := h; rfl) | (obtain ⟨_, _, _, _, _, _, _, _, _, _, _, _, _, _, _, _, _, _, rfl, _⟩ := h; rfl) | (obtain ⟨_, _, _, _, _, _, _, _, _, _, _, _, _, _, _, _, _, _, _, rfl, _⟩ := h; rfl)) (fun f cdv A outer s H vs Q E hr h => ⟨_, PSs.nox (pss_cons (ps_set (i := 2) sc_behind_blanks.nd rfl (Or.inl rfl) pe_bl) (pss_cons (ps_for PassesOwn.never rfl (pi_range2 (by rfl) (T.free 164 rfl) (pa_cons (pv 1) (pa_cons (pe_callB call_len (by rfl) (T.free 160 rfl) (by decide +kernel) (pa_cons (pv 0) pa_nil)) pa_nil))) (pg_name (i := 3) sc_behind_blanks.nd rfl (Or.inl rfl)) (pss_cons (ps_set (i := 4) sc_behind_blanks.nd rfl (Or.inl rfl) (pe_ix ix_list (pv 0) (pv 3) (fun _ _ => rfl))) (pss_one (ps_if (pt_cmpR op_eq (pv 4) (pe_gi (T.int 101 rfl)) (nomark _)) (pss_one (ps_set (i := 2) sc_behind_blanks.nd rfl (Or.inl rfl) pe_bl)) (pss_one (ps_if (pt_cmpR op_eq (pv 4) (pe_gi (T.int 105 rfl)) (nomark _)) (pss_one (ps_set (i := 2) sc_behind_blanks.nd rfl (Or.inl rfl) pe_bl)) (pss_one (ps_if (PW.pt (pw_and (pt_not (pt_val (pv 2))) (pw_and1 (pt_not (pt_val (pe_cd (ok_is_blank T) hr pass0 (pa_cons (pv 4) pa_nil))))))) (pss_one (ps_ret (pv 3))) pss_nil)))))))) (pss_one (ps_ret (pe_callB call_len (by rfl) (T.free 160 rfl) (by decide +kernel) (pa_cons (pv 0) pa_nil)))))), ?_⟩)
  obtain ⟨a, b, p, rfl, hT, hp, k⟩ := h
  have hl := hT.2
  refine (sv_set (v := .bl false) ev_c ?_).go
  refine sv_forR (lo := p) (hi := b.length) (ea_cons (ev_var rfl) (ea_cons (ev_txlen hT (ev_var rfl)) ea_nil)) (by omega)
    (fun i σ => ∃ (r : Bool) (x y : Option V), σ = [some (.ref a), some (.int (p : Int)), some (.bl r), x, y] ∧ LsText.gap false (b.drop p) = i + LsText.gap r (b.drop (p + i))) ⟨false, none, none, rfl, by simp⟩ ?_ ?_
  · rintro i σ hi ⟨r, x, y, rfl, hg⟩
    obtain ⟨c, hc⟩ : ∃ c, b[p + i]? = some c := ⟨_, List.getElem?_eq_getElem (by omega)⟩
    have e0 : ((p : Int) + (i : Int)) = ((p + i : Nat) : Int) := by omega
    rw [e0]
    rw [drop_at hc] at hg
    have ea : p + (i + 1) = p + i + 1 := by omega
    simp only [ea]
    refine sv_set (v := b2 c) (ev_txat hT hc (ev_var rfl) (ev_var rfl)) ?_
    refine sv_if (b := c == 10) (et_is (by walk_at "et") (u8_dec c 10 (by decide))) (fun h1 => ?_) fun h1 => ?_
    · have h1 := beq_iff_eq.mp h1
      refine sv_last (v := .bl false) ev_c fun H1 e => ⟨⟨false, _, _, rfl, ?_⟩, e⟩
      rw [hg, h1]
      cases r <;> simp [LsText.gap, LsText.isBlank] <;> omega
    refine sv_if (b := c == 37) (et_is (by walk_at "et") (u8_dec c 37 (by decide))) (fun h2 => ?_) fun h2 => ?_
    · have h2 := beq_iff_eq.mp h2
      refine sv_last (v := .bl true) ev_c fun H1 e => ⟨⟨true, _, _, rfl, ?_⟩, e⟩
      rw [hg, h2]
      cases r <;> simp [LsText.gap, LsText.isBlank] <;> omega
    refine sv_if (b := !r && !LsText.isBlank c) (by walk_at "et") (fun h3 => ?_) fun h3 => ?_
    · rw [Bool.and_eq_true] at h3
      refine sv_ret (v := .int ((p + i : Nat) : Int)) (ev_var rfl) fun H1 e => ?_
      have h4 : r = false := by simpa using h3.1
      have h5 : LsText.isBlank c = false := by simpa using h3.2
      have e1 : blanksEnd b p = p + i := by
        unfold blanksEnd
        rw [hg, h4]
        simp [LsText.gap, h5, beq_eq_false_iff_ne.mp h2]
      rw [← e1]
      exact k H1 e
    · refine sv_next fun H1 e => ⟨⟨r, _, _, rfl, ?_⟩, e⟩
      rw [hg]
      have n1 := beq_eq_false_iff_ne.mp h1
      have n2 := beq_eq_false_iff_ne.mp h2
      cases r with
      | true => simp [LsText.gap, n1] <;> omega
      | false =>
        have h5 : LsText.isBlank c = true := by simpa using h3
        simp [LsText.gap, n2, h5] <;> omega
  · rintro σ ⟨r, x, y, rfl, hg⟩
    refine sv_ret (v := .int (b.length : Int)) (ev_txlen hT (ev_var rfl)) fun H1 e => ?_
    have e1 : blanksEnd b p = b.length := by
      unfold blanksEnd
      rw [hg, drop_all (by omega)]
      simp [LsText.gap]
      omega
    rw [← e1]
    exact k H1 e
theorem sc_behind_digits : FnScope ["text", "place", "at"] ["text", "place"] (defScope s_behind_digits) := ⟨rfl, rfl, rfl, by decide +kernel, rfl, by decide +kernel, by decide +kernel⟩
theorem ok_behind_digits (T : Txt K mg) : Def P w K mg base CX0 2 "behind_digits" ["text", "place"] (spTP K digitsEnd) := by
  refine T.def_ 7 7 rfl rfl rfl rfl rfl sc_behind_digits (fun _ _ _ _ _ _ us hl => match us, hl with | [_, _], _ => rfl) (fun vs H Q E h => by first | (obtain ⟨_, rfl, _⟩ := h; rfl) | (obtain ⟨_, _, rfl, _⟩ := h; rfl) | (obtain ⟨_, _, _, rfl, _⟩ := h; rfl) | (obtain ⟨_, _, _, _, rfl, _⟩ := h; rfl) | (obtain ⟨_, _, _, _, _, rfl, _⟩ := h; rfl) | (obtain ⟨_, _, _, _, _, _, rfl, _⟩ := h; rfl) | (obtain ⟨_, _, _, _, _, _, _, rfl, _⟩ := h; rfl) | (obtain ⟨_, _, _, _, _, _, _, _, rfl, _⟩ := h; rfl) | (obtain ⟨_, _, _, _, _, _, _, _, _, rfl, _⟩ := h; rfl) | (obtain ⟨_, _, _, _, _, _, _, _, _, _, rfl, _⟩ := h; rfl) | (obtain ⟨_, _, _, _, _, _, _, _, _, _, _, rfl, _⟩ := h; rfl) | (obtain ⟨_, _, _, _, _, _, _, _, _, _, _, _, rfl, _⟩ := h; rfl) | (obtain ⟨_, _, _, _, _, _, _, _, _, _, _, _, _, rfl, _⟩ := h; rfl) | (obtain ⟨_, _, _, _, _, _, _, _, _, _, _, _, _, _, rfl, _⟩ := h; rfl) | (obtain ⟨_, _, _, _, _, _, _, _, _, _, _, _, _, _, _, rfl, _⟩ := h; rfl) | (obtain ⟨_, _, _, _, _, _, _, _, _, _, _, _, _, _, _, _, rfl, _⟩ := h; rfl) | (obtain ⟨_, _, _, _, _, _, _, _, _, _, _, _, _, _, _, _, _, rfl, _⟩ := h; rfl) | (obtain ⟨_, _, _, _, _, _, _, _, _, _, _, _, _, _, _, _, _, _, rfl, _⟩ := h; rfl) | (obtain ⟨_, _, _, _, _, _, _, _, _, _, _, _, _, _, _, _, _, _, _, rfl, _⟩ := h; rfl)) (fun f cdv A outer s H vs Q E hr h => ⟨_, PSs.nox (pss_cons (ps_for PassesOwn.never rfl (pi_range2 (by rfl) (T.free 164 rfl) (pa_cons (pv 1) (pa_cons (pe_callB call_len (by rfl) (T.free 160 rfl) (by decide +kernel) (pa_cons (pv 0) pa_nil)) pa_nil))) (pg_name (i := 2) sc_behind_digits.nd rfl (Or.inl rfl)) (pss_one (ps_if (pt_not (pt_val (pe_cd (ok_is_digit T) hr pass0 (pa_cons (pe_ix ix_list (pv 0) (pv 2) (fun _ _ => rfl)) pa_nil)))) (pss_one (ps_ret (pv 2))) pss_nil))) (pss_one (ps_ret (pe_callB call_len (by rfl) (T.free 160 rfl) (by decide +kernel) (pa_cons (pv 0) pa_nil))))), ?_⟩)
  obtain ⟨a, b, p, rfl, hT, hp, k⟩ := h
  have hl := hT.2
  refine Sv.go (sv_forR (lo := p) (hi := b.length) (ea_cons (ev_var rfl) (ea_cons (ev_txlen hT (ev_var rfl)) ea_nil)) (by omega)
    (fun i σ => ∃ (x : Option V), σ = [some (.ref a), some (.int (p : Int)), x] ∧ ((b.drop p).takeWhile LsText.isDigit).length = i + ((b.drop (p + i)).takeWhile LsText.isDigit).length) ⟨none, rfl, by simp⟩ ?_ ?_)
  · rintro i σ hi ⟨x, rfl, hg⟩
    obtain ⟨c, hc⟩ : ∃ c, b[p + i]? = some c := ⟨_, List.getElem?_eq_getElem (by omega)⟩
    have e0 : ((p : Int) + (i : Int)) = ((p + i : Nat) : Int) := by omega
    rw [e0]
    rw [drop_at hc] at hg
    have ea : p + (i + 1) = p + i + 1 := by omega
    simp only [ea]
    refine sv_if (b := !LsText.isDigit c) (et_not (et_B (c_byte (ev_txat hT hc (ev_var rfl) (ev_var rfl))))) (fun h1 => ?_) fun h1 => ?_
    · refine sv_ret (v := .int ((p + i : Nat) : Int)) (ev_var rfl) fun H1 e => ?_
      have h1 : LsText.isDigit c = false := by simpa using h1
      have e1 : digitsEnd b p = p + i := by
        unfold digitsEnd
        rw [hg, List.takeWhile_cons, h1]
        simp
      rw [← e1]
      exact k H1 e
    · refine sv_next fun H1 e => ⟨⟨_, rfl, ?_⟩, e⟩
      have h1 : LsText.isDigit c = true := by simpa using h1
      rw [hg, List.takeWhile_cons, h1]
      simp
      omega
  · rintro σ ⟨x, rfl, hg⟩
    refine sv_ret (v := .int (b.length : Int)) (ev_txlen hT (ev_var rfl)) fun H1 e => ?_
    have e1 : digitsEnd b p = b.length := by
      unfold digitsEnd
      rw [hg, drop_all (by omega)]
      simp
      omega
    rw [← e1]
    exact k H1 e
theorem sc_behind_word : FnScope ["text", "place", "at"] ["text", "place"] (defScope s_behind_word) := ⟨rfl, rfl, rfl, by decide +kernel, rfl, by decide +kernel, by decide +kernel⟩
theorem ok_behind_word (T : Txt K mg) : Def P w K mg base CX0 3 "behind_word" ["text", "place"] (spTP K wordEnd) := by
  refine T.def_ 8 8 rfl rfl rfl rfl rfl sc_behind_word (fun _ _ _ _ _ _ us hl => match us, hl with | [_, _], _ => rfl) (fun vs H Q E h => by first | (obtain ⟨_, rfl, _⟩ := h; rfl) | (obtain ⟨_, _, rfl, _⟩ := h; rfl) | (obtain ⟨_, _, _, rfl, _⟩ := h; rfl) | (obtain ⟨_, _, _, _, rfl, _⟩ := h; rfl) | (obtain ⟨_, _, _, _, _, rfl, _⟩ := h; rfl) | (obtain ⟨_, _, _, _, _, _, rfl, _⟩ := h; rfl) | (obtain ⟨_, _, _, _, _, _, _, rfl, _⟩ := h; rfl) | (obtain ⟨_, _, _, _, _, _, _, _, rfl, _⟩ := h; rfl) | (obtain ⟨_, _, _, _, _, _, _, _, _, rfl, _⟩ := h; rfl) | (obtain ⟨_, _, _, _, _, _, _, _, _, _, rfl, _⟩ := h; rfl) | (obtain ⟨_, _, _, _, _, _, _, _, _, _, _, rfl, _⟩ := h; rfl) | (obtain ⟨_, _, _, _, _, _, _, _, _, _, _, _, rfl, _⟩ := h; rfl) | (obtain ⟨_, _, _, _, _, _, _, _, _, _, _, _, _, rfl, _⟩ := h; rfl) | (obtain ⟨_, _, _, _, _, _, _, _, _, _, _, _, _, _, rfl, _⟩ := h; rfl) | (obtain ⟨_, _, _, _, _, _, _, _, _, _, _, _, _, _, _, rfl, _⟩ := h; rfl) | (obtain ⟨_, _, _, _, _, _, _, _, _, _, _, _, _, _, _, _, rfl, _⟩ := h; rfl) | (obtain ⟨_, _, _, _, _, _, _, _, _, _, _, _, _, _, _, _, _, rfl, _⟩ := h; rfl) | (obtain ⟨_, _, _, _, _, _, _, _, _, _, _, _, _, _, _, _, _, _, rfl, _⟩ := h; rfl) | (obtain ⟨_, _, _, _, _, _, _, _, _, _, _, _, _, _, _, _, _, _, _, rfl, _⟩ := h; rfl)) (fun f cdv A outer s H vs Q E hr h => ⟨_, PSs.nox (pss_cons (ps_for PassesOwn.never rfl (pi_range2 (by rfl) (T.free 164 rfl) (pa_cons (pv 1) (pa_cons (pe_callB call_len (by rfl) (T.free 160 rfl) (by decide +kernel) (pa_cons (pv 0) pa_nil)) pa_nil))) (pg_name (i := 2) sc_behind_word.nd rfl (Or.inl rfl)) (pss_one (ps_if (pt_not (pt_val (pe_cd (ok_is_word_code T) hr pass0 (pa_cons (pe_ix ix_list (pv 0) (pv 2) (fun _ _ => rfl)) pa_nil)))) (pss_one (ps_ret (pv 2))) pss_nil))) (pss_one (ps_ret (pe_callB call_len (by rfl) (T.free 160 rfl) (by decide +kernel) (pa_cons (pv 0) pa_nil))))), ?_⟩)
  obtain ⟨a, b, p, rfl, hT, hp, k⟩ := h
  have hl := hT.2
  refine Sv.go (sv_forR (lo := p) (hi := b.length) (ea_cons (ev_var rfl) (ea_cons (ev_txlen hT (ev_var rfl)) ea_nil)) (by omega)
    (fun i σ => ∃ (x : Option V), σ = [some (.ref a), some (.int (p : Int)), x] ∧ ((b.drop p).takeWhile LsText.isPart).length = i + ((b.drop (p + i)).takeWhile LsText.isPart).length) ⟨none, rfl, by simp⟩ ?_ ?_)
  · rintro i σ hi ⟨x, rfl, hg⟩
    obtain ⟨c, hc⟩ : ∃ c, b[p + i]? = some c := ⟨_, List.getElem?_eq_getElem (by omega)⟩
    have e0 : ((p : Int) + (i : Int)) = ((p + i : Nat) : Int) := by omega
    rw [e0]
    rw [drop_at hc] at hg
    have ea : p + (i + 1) = p + i + 1 := by omega
    simp only [ea]
    refine sv_if (b := !LsText.isPart c) (et_not (et_B (c_byte (ev_txat hT hc (ev_var rfl) (ev_var rfl))))) (fun h1 => ?_) fun h1 => ?_
    · refine sv_ret (v := .int ((p + i : Nat) : Int)) (ev_var rfl) fun H1 e => ?_
      have h1 : LsText.isPart c = false := by simpa using h1
      have e1 : wordEnd b p = p + i := by
        unfold wordEnd
        rw [hg, List.takeWhile_cons, h1]
        simp
      rw [← e1]
      exact k H1 e
    · refine sv_next fun H1 e => ⟨⟨_, rfl, ?_⟩, e⟩
      have h1 : LsText.isPart c = true := by simpa using h1
      rw [hg, List.takeWhile_cons, h1]
      simp
      omega
  · rintro σ ⟨x, rfl, hg⟩
    refine sv_ret (v := .int (b.length : Int)) (ev_txlen hT (ev_var rfl)) fun H1 e => ?_
    have e1 : wordEnd b p = b.length := by
      unfold wordEnd
      rw [hg, drop_all (by omega)]
      simp
      omega
    rw [← e1]
    exact k H1 e
end
end Trav
namespace Trav
/-! ## tokens, one at a time -/
def kindOf : LsText.Tok → Int
  | .word _ => 1
  | .num _ => 2
  | .text _ => 3
  | .sign _ => 4
  | .none_ => 0
  | .over => 5
/-- a token's value -/
def TokV (K : PySem.W.Frag) : LsText.Tok → V → Hp → Prop
  | .word b => Tp K (bs b)
  | .num n => fun v _ => v = .int (n : Int)
  | .sign c => Tp K (bs [c])
  | _ => Tp K []
theorem stayN_TokV {K : PySem.W.Frag} : ∀ t : LsText.Tok, StayN (TokV K t)
  | .word _ => stayN_Tp
  | .num _ => stayN_eq
  | .sign _ => stayN_Tp
  | .text _ => stayN_Tp
  | .none_ => stayN_Tp
  | .over => stayN_Tp
theorem stay_TokV {K : PySem.W.Frag} (t : LsText.Tok) : Stay (TokV K t) := (stayN_TokV t).s
/-- what a def of one token hands back -/
def TokOut (K : PySem.W.Frag) (x : LsText.Tok × Nat) (p : Nat) : V → Hp → Prop := fun v H => ∃ (q : Addr) (u : V) (z : Nat), v = .ref q ∧ SqT K H q [.int (kindOf x.1), u, .int (z : Int)] ∧ TokV K x.1 u H ∧ (x.1 ≠ .none_ → z = p + x.2)
def spTok (K : PySem.W.Frag) (ok : UInt8 → Bool) : Sp := fun vs H Q _ => ∃ (a : Addr) (b : List UInt8) (p : Nat) (c : UInt8), vs = [.ref a, .int (p : Int)] ∧ TxtAt K H a b ∧ b[p]? = some c ∧ ok c = true ∧ Ret (TokOut K (LsText.first (b.drop p)) p) H Q
theorem evp_tok {K : PySem.W.Frag} {σ : L2.St} {H : Hp} {ta tb tc : TE} {x : LsText.Tok × Nat} {p z : Nat} (ha : Ev ta σ H (.int (kindOf x.1))) (hb : EvP tb σ H (TokV K x.1)) (hc : Ev tc σ H (.int (z : Int))) (hz : x.1 ≠ .none_ → z = p + x.2) :
    EvP (tTup (tCons ta (tCons tb (tCons tc tNil)))) σ H (TokOut K x p) := by
  refine (evp_tupOf (eap_cons (ev_p ha) (eap_cons hb (eap_cons (ev_p hc) eap_nil stay_eq) (stay_TokV _)) stay_eq) ?_ (by show 3 ≤ 100000; decide)).imp fun v H1 _ h => ?_
  · intro P hP
    simp only [List.mem_cons, List.not_mem_nil, or_false] at hP
    rcases hP with rfl | rfl | rfl
    · exact stay_eq
    · exact stay_TokV _
    · exact stay_eq
  · obtain ⟨q, vs, rfl, hq, v1, r1, rfl, rfl, v2, r2, rfl, h2, v3, r3, rfl, rfl, h4⟩ := h
    have e4 : r3 = [] := h4
    subst e4
    exact ⟨q, v2, z, rfl, st_of hq, h2, hz⟩
theorem evp_empty {K : PySem.W.Frag} {σ : L2.St} {H : Hp} : EvP (tTup tNil) σ H (Tp K []) := (evp_tup ea_nil (by decide)).imp fun _ _ _ ⟨p, e, h⟩ => ⟨p, e, st_of h⟩
theorem first_letter {c : UInt8} {r : List UInt8} (h : LsText.isLetter c = true) :
    LsText.first (c :: r) = if ((c :: r).takeWhile LsText.isPart).length ≤ 31 then (.word ((c :: r).takeWhile LsText.isPart), ((c :: r).takeWhile LsText.isPart).length) else (.none_, ((c :: r).takeWhile LsText.isPart).length) := by
  have e : (c :: r).takeWhile LsText.isPart = c :: r.takeWhile LsText.isPart := by
    rw [List.takeWhile_cons, if_pos (by unfold LsText.isPart; rw [h, Bool.true_or])]
  rw [e]
  show (if LsText.isLetter c = true then _ else _) = _
  rw [if_pos h]
  rfl
theorem take_while_len {α : Type} (f : α → Bool) : ∀ l : List α, l.take (l.takeWhile f).length = l.takeWhile f
  | [] => rfl
  | x :: r => by
    rw [List.takeWhile_cons]
    split
    · rw [List.length_cons, List.take_succ_cons, take_while_len f r]
    · rfl
theorem takeWhile_le {α : Type} (f : α → Bool) (l : List α) : (l.takeWhile f).length ≤ l.length := (List.takeWhile_sublist f).length_le
theorem wordEnd_le {b : List UInt8} {p : Nat} (hp : p ≤ b.length) : wordEnd b p ≤ b.length := by
  have := takeWhile_le LsText.isPart (b.drop p)
  rw [List.length_drop] at this
  unfold wordEnd
  omega
theorem digitsEnd_le {b : List UInt8} {p : Nat} (hp : p ≤ b.length) : digitsEnd b p ≤ b.length := by
  have := takeWhile_le LsText.isDigit (b.drop p)
  rw [List.length_drop] at this
  unfold digitsEnd
  omega
theorem cutV_bs {b : List UInt8} {i j : Nat} (h : i ≤ j) (hj : j ≤ b.length) : cutV (bs b) (some (i : Int)) (some (j : Int)) = bs ((b.drop i).take (j - i)) := by
  rw [cutV_nat h (by rw [List.length_map]; exact hj), ← List.map_drop, ← List.map_take]
/-- what the digits of a part are worth -/
def worthOf (b : List UInt8) (p q : Nat) : Int := ((b.drop p).take (q - p)).foldl (fun (n : Int) (c : UInt8) => n * 10 + (c.toNat : Int) - 48) 0
def spWorth (K : PySem.W.Frag) : Sp := fun vs H Q _ => ∃ (a : Addr) (b : List UInt8) (p q : Nat), vs = [.ref a, .int (p : Int), .int (q : Int)] ∧ TxtAt K H a b ∧ p ≤ q ∧ q ≤ b.length ∧ q ≤ p + 9 ∧ (∀ c ∈ (b.drop p).take (q - p), LsText.isDigit c = true) ∧ RetV (.int (worthOf b p q)) H Q
theorem digit_bounds {c : UInt8} (h : LsText.isDigit c = true) : 48 ≤ c.toNat ∧ c.toNat ≤ 57 := by
  unfold LsText.isDigit at h
  simpa using h
theorem fold_bound : ∀ (l : List UInt8) (n : Int) (k : Nat), (∀ c ∈ l, LsText.isDigit c = true) → 0 ≤ n → n < 10 ^ k → 0 ≤ l.foldl (fun (n : Int) (c : UInt8) => n * 10 + (c.toNat : Int) - 48) n ∧ l.foldl (fun (n : Int) (c : UInt8) => n * 10 + (c.toNat : Int) - 48) n < 10 ^ (k + l.length)
  | [], n, k, _, h0, h1 => ⟨h0, h1⟩
  | c :: r, n, k, h, h0, h1 => by
    have hc := digit_bounds (h c (List.mem_cons_self ..))
    have e : k + (c :: r).length = (k + 1) + r.length := by rw [List.length_cons]; omega
    rw [e]
    have e2 : (10 : Int) ^ (k + 1) = 10 ^ k * 10 := Int.pow_succ 10 k
    exact fold_bound r (n * 10 + (c.toNat : Int) - 48) (k + 1) (fun d hd => h d (List.mem_cons_of_mem _ hd)) (by omega) (by rw [e2]; omega)
theorem fold_numberOf : ∀ (l : List UInt8) (n : Nat), (∀ c ∈ l, LsText.isDigit c = true) → l.foldl (fun (n : Int) (c : UInt8) => n * 10 + (c.toNat : Int) - 48) (n : Int) = ((l.foldl (fun (n : Nat) (c : UInt8) => 10 * n + (c.toNat - 48)) n : Nat) : Int)
  | [], n, _ => rfl
  | c :: r, n, h => by
    have hc := digit_bounds (h c (List.mem_cons_self ..))
    have e : (n : Int) * 10 + (c.toNat : Int) - 48 = ((10 * n + (c.toNat - 48) : Nat) : Int) := by omega
    rw [List.foldl_cons, List.foldl_cons, e]
    exact fold_numberOf r _ fun d hd => h d (List.mem_cons_of_mem _ hd)
theorem letter_not_digit {c : UInt8} (h : LsText.isDigit c = true) : LsText.isLetter c = false := by
  have hc := digit_bounds h
  unfold LsText.isLetter LsText.isSmall LsText.isLarge
  simp
  omega
theorem mem_takeWhile {α : Type} {f : α → Bool} : ∀ {l : List α} {x : α}, x ∈ l.takeWhile f → f x = true
  | [], x, h => by simp at h
  | y :: r, x, h => by
    rw [List.takeWhile_cons] at h
    split at h
    · rename_i hy
      rcases List.mem_cons.mp h with rfl | h
      · exact hy
      · exact mem_takeWhile h
    · simp at h
theorem first_digit {c : UInt8} {r : List UInt8} (h : LsText.isDigit c = true) :
    LsText.first (c :: r) = if 9 < ((c :: r).takeWhile LsText.isDigit).length ∨ (((c :: r).drop ((c :: r).takeWhile LsText.isDigit).length).head?.any LsText.isPart) = true then (.none_, ((c :: r).takeWhile LsText.isDigit).length)
      else (.num (LsText.numberOf ((c :: r).takeWhile LsText.isDigit)), ((c :: r).takeWhile LsText.isDigit).length) := by
  have e : (c :: r).takeWhile LsText.isDigit = c :: r.takeWhile LsText.isDigit := by rw [List.takeWhile_cons, if_pos h]
  rw [e]
  show (if LsText.isLetter c = true then _ else _) = _
  rw [if_neg (by rw [letter_not_digit h]; decide)]
  show (if LsText.isDigit c = true then _ else _) = _
  rw [if_pos h]
  rfl
/-- a part's head goes on -/
theorem part_more (l : List UInt8) : (0 < (l.takeWhile LsText.isPart).length) ↔ l.head?.any LsText.isPart = true := by
  cases l with
  | nil => simp
  | cons c r =>
    rw [List.takeWhile_cons]
    cases h : LsText.isPart c <;> simp [h]
local macro_rules | `(tactic| walk_at "ev") => `(tactic| ((with_reducible apply c_byte); walk_at "ev"))
section
variable {P : Program} {w : World} {K : PySem.W.Frag} {mg : Str → Option Value} {base : Heap}
theorem sc_word_at : FnScope ["text", "place", "behind"] ["text", "place"] (defScope s_word_at) := ⟨rfl, rfl, rfl, by decide +kernel, rfl, by decide +kernel, by decide +kernel⟩
theorem ok_word_at (T : Txt K mg) : Def P w K mg base CX0 4 "word_at" ["text", "place"] (spTok K LsText.isLetter) := by
  refine T.def_ 9 9 rfl rfl rfl rfl rfl sc_word_at (fun _ _ _ _ _ _ us hl => match us, hl with | [_, _], _ => rfl) (fun vs H Q E h => by first | (obtain ⟨_, rfl, _⟩ := h; rfl) | (obtain ⟨_, _, rfl, _⟩ := h; rfl) | (obtain ⟨_, _, _, rfl, _⟩ := h; rfl) | (obtain ⟨_, _, _, _, rfl, _⟩ := h; rfl) | (obtain ⟨_, _, _, _, _, rfl, _⟩ := h; rfl) | (obtain ⟨_, _, _, _, _, _, rfl, _⟩ := h; rfl) | (obtain ⟨_, _, _, _, _, _, _, rfl, _⟩ := h; rfl) | (obtain ⟨_, _, _, _, _, _, _, _, rfl, _⟩ := h; rfl) | (obtain ⟨_, _, _, _, _, _, _, _, _, rfl, _⟩ := h; rfl) | (obtain ⟨_, _, _, _, _, _, _, _, _, _, rfl, _⟩ := h; rfl) | (obtain ⟨_, _, _, _, _, _, _, _, _, _, _, rfl, _⟩ := h; rfl) | (obtain ⟨_, _, _, _, _, _, _, _, _, _, _, _, rfl, _⟩ := h; rfl) | (obtain ⟨_, _, _, _, _, _, _, _, _, _, _, _, _, rfl, _⟩ := h; rfl) | (obtain ⟨_, _, _, _, _, _, _, _, _, _, _, _, _, _, rfl, _⟩ := h; rfl) | (obtain ⟨_, _, _, _, _, _, _, _, _, _, _, _, _, _, _, rfl, _⟩ := h; rfl) | (obtain ⟨_, _, _, _, _, _, _, _, _, _, _, _, _, _, _, _, rfl, _⟩ := h; rfl) | (obtain ⟨_, _, _, _, _, _, _, _, _, _, _, _, _, _, _, _, _, rfl, _⟩ := h; rfl) | (obtain ⟨_, _, _, _, _, _, _, _, _, _, _, _, _, _, _, _, _, _, rfl, _⟩ := h; rfl) | (obtain ⟨_, _, _, _, _, _, _, _, _, _, _, _, _, _, _, _, _, _, _, rfl, _⟩ := h; rfl)) (fun f cdv A outer s H vs Q E hr h => ⟨_, PSs.nox (pss_cons (ps_set (i := 2) sc_word_at.nd rfl (Or.inl rfl) (pe_cd (ok_behind_word T) hr pass0 (pa_cons (pv 0) (pa_cons (pv 1) pa_nil)))) (pss_cons (ps_if (pt_cmpR op_gt (pe_op op_sub (pv 2) (pv 1)) (pe_gi (T.int 118 rfl)) (nomark _)) (pss_one (ps_ret (pe_tup (pa_cons (pe_gi (T.int 112 rfl)) (pa_cons (pe_tup pa_nil) (pa_cons (pv 2) pa_nil)))))) pss_nil) (pss_one (ps_ret (pe_tup (pa_cons (pe_gi (T.int 113 rfl)) (pa_cons (pe_callTy call_tuple_of (by rfl) (T.free 168 rfl) (by decide +kernel) (pa_cons (pe_slice sl_list (pv 0) (po_some (pv 1)) (po_some (pv 2))) pa_nil)) (pa_cons (pv 2) pa_nil)))))))), ?_⟩)
  obtain ⟨a, b, p, c, rfl, hT, hc, hok, k⟩ := h
  have hl := hT.2
  have hp : p < b.length := (List.getElem?_eq_some_iff.mp hc).1
  have hd := drop_at hc
  have hw := wordEnd_le (b := b) (p := p) (by omega)
  have hz : wordEnd b p = p + ((c :: b.drop (p + 1)).takeWhile LsText.isPart).length := by
    unfold wordEnd
    rw [hd]
  rw [hd, first_letter hok] at k
  refine (sv_set (c_tp hT (by omega) (ev_var rfl) (ev_var rfl)) ?_).go
  refine sv_when (b := decide ((31 : Int) < (wordEnd b p : Int) - (p : Int))) (by walk_at "et") (fun h1 => ?_) fun h1 => ?_
  · have h1 := of_decide_eq_true h1
    rw [if_neg (by omega)] at k
    exact sv_retP (evp_tok (z := wordEnd b p) ev_c evp_empty (ev_var rfl) (fun h => absurd rfl h)) fun v H1 e h => k v H1 e h
  · have h1 := of_decide_eq_false h1
    rw [if_pos (by omega)] at k
    refine sv_retP (evp_tok (z := wordEnd b p) ev_c ?_ (ev_var rfl) (fun _ => hz)) fun v H1 e h => k v H1 e h
    refine (evp_tupL (evp_slice (ev_var rfl) (eo_some (ev_var rfl)) (eo_some (ev_var rfl)) hT.1)).imp fun v H1 _ ⟨q, e, hq⟩ => ⟨q, e, st_of ?_⟩
    rw [hq, cutV_bs (by unfold wordEnd; omega) hw, hz, hd, Nat.add_sub_cancel_left, take_while_len]
theorem sc_worth : FnScope ["text", "place", "behind", "number", "at"] ["text", "place", "behind"] (defScope s_worth) := ⟨rfl, rfl, rfl, by decide +kernel, rfl, by decide +kernel, by decide +kernel⟩
theorem ok_worth (T : Txt K mg) : Def P w K mg base CX0 1 "worth" ["text", "place", "behind"] (spWorth K) := by
  refine T.def_ 10 10 rfl rfl rfl rfl rfl sc_worth (fun _ _ _ _ _ _ us hl => match us, hl with | [_, _, _], _ => rfl) (fun vs H Q E h => by first | (obtain ⟨_, rfl, _⟩ := h; rfl) | (obtain ⟨_, _, rfl, _⟩ := h; rfl) | (obtain ⟨_, _, _, rfl, _⟩ := h; rfl) | (obtain ⟨_, _, _, _, rfl, _⟩ := h; rfl) | (obtain ⟨_, _, _, _, _, rfl, _⟩ := h; rfl) | (obtain ⟨_, _, _, _, _, _, rfl, _⟩ := h; rfl) | (obtain ⟨_, _, _, _, _, _, _, rfl, _⟩ := h; rfl) | (obtain ⟨_, _, _, _, _, _, _, _, rfl, _⟩ := h; rfl) | (obtain ⟨_, _, _, _, _, _, _, _, _, rfl, _⟩ := h; rfl) | (obtain ⟨_, _, _, _, _, _, _, _, _, _, rfl, _⟩ := h; rfl) | (obtain ⟨_, _, _, _, _, _, _, _, _, _, _, rfl, _⟩ := h; rfl) | (obtain ⟨_, _, _, _, _, _, _, _, _, _, _, _, rfl, _⟩ := h; rfl) | (obtain ⟨_, _, _, _, _, _, _, _, _, _, _, _, _, rfl, _⟩ := h; rfl) | (obtain ⟨_, _, _, _, _, _, _, _, _, _, _, _, _, _, rfl, _⟩ := h; rfl) | (obtain ⟨_, _, _, _, _, _, _, _, _, _, _, _, _, _, _, rfl, _⟩ := h; rfl) | (obtain ⟨_, _, _, _, _, _, _, _, _, _, _, _, _, _, _, _, rfl, _⟩ := h; rfl) | (obtain ⟨_, _, _, _, _, _, _, _, _, _, _, _, _, _, _, _, _, rfl, _⟩ := h; rfl) | (obtain ⟨_, _, _, _, _, _, _, _, _, _, _, _, _, _, _, _, _, _, rfl, _⟩ := h; rfl) | (obtain ⟨_, _, _, _, _, _, _, _, _, _, _, _, _, _, _, _, _, _, _, rfl, _⟩ := h; rfl)) (fun f cdv A outer s H vs Q E hr h => ⟨_, PSs.nox (pss_cons (ps_set (i := 3) sc_worth.nd rfl (Or.inl rfl) pe_int) (pss_cons (ps_for PassesOwn.never rfl (pi_range2 (by rfl) (T.free 164 rfl) (pa_cons (pv 1) (pa_cons (pv 2) pa_nil))) (pg_name (i := 4) sc_worth.nd rfl (Or.inl rfl)) (pss_one (ps_set (i := 3) sc_worth.nd rfl (Or.inl rfl) (pe_op op_sub (pe_op op_add (pe_op op_mulW (pv 3) pe_int) (pe_ix ix_list (pv 0) (pv 4) (fun _ _ => rfl))) (pe_gi (T.int 106 rfl)))))) (pss_one (ps_ret (pv 3))))), ?_⟩)
  obtain ⟨a, b, p, q, rfl, hT, hpq, hq, h9, hdig, k⟩ := h
  have hl := hT.2
  refine (sv_set (v := .int 0) ev_c ?_).go
  refine sv_forR (lo := p) (hi := q) (by walk_at "ea") (by omega)
    (fun i σ => ∃ (x : Option V), σ = [some (.ref a), some (.int (p : Int)), some (.int (q : Int)), some (.int (worthOf b p (p + i))), x]) ⟨none, by unfold worthOf; simp; rfl⟩ ?_ ?_
  · rintro i σ hi ⟨x, rfl⟩
    obtain ⟨c, hc⟩ : ∃ c, b[p + i]? = some c := ⟨_, List.getElem?_eq_getElem (by omega)⟩
    have e0 : ((p : Int) + (i : Int)) = ((p + i : Nat) : Int) := by omega
    rw [e0]
    have hs : ∀ c ∈ (b.drop p).take i, LsText.isDigit c = true := fun d hd => hdig d (by
      have h1 : (b.drop p).take i = ((b.drop p).take (q - p)).take i := by rw [List.take_take]; congr 1; omega
      rw [h1] at hd
      exact List.mem_of_mem_take hd)
    have hb := fold_bound ((b.drop p).take i) 0 0 hs (by omega) (by omega)
    have hlt : ((b.drop p).take i).length ≤ 9 := by rw [List.length_take]; omega
    have hp10 : (10 : Int) ^ (0 + ((b.drop p).take i).length) ≤ 10 ^ 9 := by
      have := Nat.pow_le_pow_right (n := 10) (by decide) (show 0 + ((b.drop p).take i).length ≤ 9 by omega)
      exact_mod_cast this
    have ew : worthOf b p (p + i) = ((b.drop p).take i).foldl (fun (n : Int) (c : UInt8) => n * 10 + (c.toNat : Int) - 48) 0 := by unfold worthOf; rw [Nat.add_sub_cancel_left]
    have e1 : worthOf b p (p + (i + 1)) = worthOf b p (p + i) * 10 + (c.toNat : Int) - 48 := by
      unfold worthOf
      rw [show p + (i + 1) - p = i + 1 by omega, Nat.add_sub_cancel_left, List.take_add_one, List.getElem?_drop, hc]
      simp
    refine sv_last (v := .int (worthOf b p (p + (i + 1)))) ?_ fun H1 e => ⟨⟨_, rfl⟩, e⟩
    rw [e1]
    refine ev_op (ev_op (ev_op (ev_var rfl) ev_c (rv_I (wide_mul (a := 30) (b := 4) ?_ (by decide) (by decide) (by decide) (by decide)))) (ev_txat hT hc (ev_var rfl) (ev_var rfl)) rv_I0) ev_c rv_I0
    rw [ew]
    omega
  · rintro σ ⟨x, rfl⟩
    have e1 : p + ((q : Int) - (p : Int)).toNat = q := by omega
    rw [e1]
    exact sv_ret (ev_var rfl) fun H1 e => k H1 e
theorem sc_number_at : FnScope ["text", "place", "behind"] ["text", "place"] (defScope s_number_at) := ⟨rfl, rfl, rfl, by decide +kernel, rfl, by decide +kernel, by decide +kernel⟩
theorem ok_number_at (T : Txt K mg) : Def P w K mg base CX0 4 "number_at" ["text", "place"] (spTok K LsText.isDigit) := by
  refine T.def_ 11 11 rfl rfl rfl rfl rfl sc_number_at (fun _ _ _ _ _ _ us hl => match us, hl with | [_, _], _ => rfl) (fun vs H Q E h => by first | (obtain ⟨_, rfl, _⟩ := h; rfl) | (obtain ⟨_, _, rfl, _⟩ := h; rfl) | (obtain ⟨_, _, _, rfl, _⟩ := h; rfl) | (obtain ⟨_, _, _, _, rfl, _⟩ := h; rfl) | (obtain ⟨_, _, _, _, _, rfl, _⟩ := h; rfl) | (obtain ⟨_, _, _, _, _, _, rfl, _⟩ := h; rfl) | (obtain ⟨_, _, _, _, _, _, _, rfl, _⟩ := h; rfl) | (obtain ⟨_, _, _, _, _, _, _, _, rfl, _⟩ := h; rfl) | (obtain ⟨_, _, _, _, _, _, _, _, _, rfl, _⟩ := h; rfl) | (obtain ⟨_, _, _, _, _, _, _, _, _, _, rfl, _⟩ := h; rfl) | (obtain ⟨_, _, _, _, _, _, _, _, _, _, _, rfl, _⟩ := h; rfl) | (obtain ⟨_, _, _, _, _, _, _, _, _, _, _, _, rfl, _⟩ := h; rfl) | (obtain ⟨_, _, _, _, _, _, _, _, _, _, _, _, _, rfl, _⟩ := h; rfl) | (obtain ⟨_, _, _, _, _, _, _, _, _, _, _, _, _, _, rfl, _⟩ := h; rfl) | (obtain ⟨_, _, _, _, _, _, _, _, _, _, _, _, _, _, _, rfl, _⟩ := h; rfl) | (obtain ⟨_, _, _, _, _, _, _, _, _, _, _, _, _, _, _, _, rfl, _⟩ := h; rfl) | (obtain ⟨_, _, _, _, _, _, _, _, _, _, _, _, _, _, _, _, _, rfl, _⟩ := h; rfl) | (obtain ⟨_, _, _, _, _, _, _, _, _, _, _, _, _, _, _, _, _, _, rfl, _⟩ := h; rfl) | (obtain ⟨_, _, _, _, _, _, _, _, _, _, _, _, _, _, _, _, _, _, _, rfl, _⟩ := h; rfl)) (fun f cdv A outer s H vs Q E hr h => ⟨_, PSs.nox (pss_cons (ps_set (i := 2) sc_number_at.nd rfl (Or.inl rfl) (pe_cd (ok_behind_digits T) hr pass0 (pa_cons (pv 0) (pa_cons (pv 1) pa_nil)))) (pss_cons (ps_if (PW.pt (pw_or (pt_cmpR op_gt (pe_op op_sub (pv 2) (pv 1)) (pe_gi (T.int 119 rfl)) (nomark _)) (pw_or1 (pt_cmpR op_gt (pe_cd (ok_behind_word T) hr pass0 (pa_cons (pv 0) (pa_cons (pv 2) pa_nil))) (pv 2) (nomark _))))) (pss_one (ps_ret (pe_tup (pa_cons (pe_gi (T.int 112 rfl)) (pa_cons (pe_tup pa_nil) (pa_cons (pv 2) pa_nil)))))) pss_nil) (pss_one (ps_ret (pe_tup (pa_cons (pe_gi (T.int 114 rfl)) (pa_cons (pe_cd (ok_worth T) hr pass0 (pa_cons (pv 0) (pa_cons (pv 1) (pa_cons (pv 2) pa_nil)))) (pa_cons (pv 2) pa_nil)))))))), ?_⟩)
  obtain ⟨a, b, p, c, rfl, hT, hc, hok, k⟩ := h
  have hl := hT.2
  have hp : p < b.length := (List.getElem?_eq_some_iff.mp hc).1
  have hd := drop_at hc
  have hw := digitsEnd_le (b := b) (p := p) (by omega)
  have hz : digitsEnd b p = p + ((c :: b.drop (p + 1)).takeWhile LsText.isDigit).length := by
    unfold digitsEnd
    rw [hd]
  have hn : ((c :: b.drop (p + 1)).drop ((c :: b.drop (p + 1)).takeWhile LsText.isDigit).length) = b.drop (digitsEnd b p) := by rw [← hd, List.drop_drop, hz, hd]
  rw [hd, first_digit hok, hn] at k
  refine (sv_set (c_tp hT (by omega) (ev_var rfl) (ev_var rfl)) ?_).go
  refine sv_when (b := decide ((9 : Int) < (digitsEnd b p : Int) - (p : Int)) || decide ((digitsEnd b p : Int) < (wordEnd b (digitsEnd b p) : Int)))
    (et_or (by walk_at "et") fun _ => et_test (ev_op (c_tp hT hw (ev_var rfl) (ev_var rfl)) (ev_var rfl) rv_I0)) (fun h1 => ?_) fun h1 => ?_
  · rw [if_pos (by
      rw [Bool.or_eq_true] at h1
      rcases h1 with h1 | h1
      · exact .inl (by have := of_decide_eq_true h1; omega)
      · refine .inr ((part_more _).mp ?_)
        have := of_decide_eq_true h1
        unfold wordEnd at this
        omega)] at k
    exact sv_retP (evp_tok (z := digitsEnd b p) ev_c evp_empty (ev_var rfl) (fun h => absurd rfl h)) fun v H1 e h => k v H1 e h
  · rw [Bool.or_eq_false_iff] at h1
    have h2 := of_decide_eq_false h1.1
    have h3 := of_decide_eq_false h1.2
    rw [if_neg (by
      rintro (q | q)
      · omega
      · have := (part_more _).mpr q
        unfold wordEnd at h3
        omega)] at k
    have hdg : (b.drop p).take (digitsEnd b p - p) = (c :: b.drop (p + 1)).takeWhile LsText.isDigit := by rw [hd, hz, Nat.add_sub_cancel_left, take_while_len]
    have hall : ∀ d ∈ (b.drop p).take (digitsEnd b p - p), LsText.isDigit d = true := fun d hm => by
      rw [hdg] at hm
      exact mem_takeWhile hm
    refine sv_retP (evp_tok (z := digitsEnd b p) ev_c (evp_of (v := .int (worthOf b p (digitsEnd b p))) ?_ fun H1 _ => ?_) (ev_var rfl) (fun _ => hz)) fun v H1 e h => k v H1 e h
    · exact ev_callV (vs := [.ref a, .int (p : Int), .int (digitsEnd b p : Int)]) (by walk_at "ea") fun H1 e Q k => ⟨a, b, p, digitsEnd b p, rfl, hT.mono e, by unfold digitsEnd; omega, hw, by omega, hall, k⟩
    · show V.int _ = V.int _
      congr 1
      unfold worthOf
      rw [hdg]
      exact fold_numberOf _ 0 (by rw [hdg] at hall; exact hall)
end
end Trav
namespace Trav
/-! ## quoted texts, signs, all tokens -/
theorem ev_ord {σ : L2.St} {H : Hp} {ta : TE} {c : Nat} (h : Ev ta σ H (.str ⟨#[c]⟩)) :
    Ev (tCB (fun xs H Q => ∃ x, xs = [.str x] ∧ x.length = 1 ∧ Q (.int (x.cps.getD 0 0 : Nat)) H) (tCons ta tNil)) σ H (.int (c : Int)) := fun H1 e _ q =>
  h H1 e _ fun H2 e2 => ⟨_, rfl, rfl, q H2 e2⟩
def codesV (z : Str) : List V := z.cps.toList.map fun (c : Nat) => V.int (c : Int)
def spSpelled : Sp := fun vs H Q _ => ∃ z : Str, vs = [.str z] ∧ z.cps.size ≤ 40000 ∧ Ret (NewT (codesV z)) H Q
theorem c_spelled {σ : L2.St} {H : Hp} {ta : TE} {z : Str} {E : XK} (h : Ev ta σ H (.str z)) (hz : z.cps.size ≤ 40000) : EvP (tCall spSpelled [] E (tCons ta tNil)) σ H (NewT (codesV z)) :=
  evp_call (ea_cons h ea_nil) fun _ _ _ k => ⟨z, rfl, hz, k⟩
theorem ev_inP {K : PySem.W.Frag} {σ : L2.St} {H : Hp} {ta tb : TE} {x : V} {xs : List V} (ha : Ev ta σ H x) (hb : EvP tb σ H (NewT xs)) (hx : flatV x = true) (hf : xs.all flatV = true) : Ev (tOp (rIn K false) ta tb) σ H (.bl (inV x xs)) := fun H1 e Q q =>
  ha H1 e _ fun H2 e2 => hb H2 (e.trans e2) _ fun v H3 e3 ⟨p, ev, hp⟩ => ⟨p, xs, ev, .inr (st_of hp), hx, hf, q H3 (e2.trans e3)⟩
theorem u8_beq (c : UInt8) (n : Nat) (h : n < 256) : ((n : Int) == (c.toNat : Int)) = (c == UInt8.ofNat n) := by
  rw [← u8_dec c n h]
  rw [Bool.eq_iff_iff]
  simp only [beq_iff_eq, decide_eq_true_eq, V.int.injEq]
  exact eq_comm
theorem sign_in (c : UInt8) : inV (b2 c) (codesV "()+,-/:;=") = LsText.isSign c := by
  have e : codesV "()+,-/:;=" = [.int (40 : Nat), .int (41 : Nat), .int (43 : Nat), .int (44 : Nat), .int (45 : Nat), .int (47 : Nat), .int (58 : Nat), .int (59 : Nat), .int (61 : Nat)] := by decide +kernel
  rw [e]
  unfold inV LsText.isSign
  simp only [List.any_cons, List.any_nil, eqV, List.contains_cons, List.contains_nil]
  rw [u8_beq c 40 (by decide), u8_beq c 41 (by decide), u8_beq c 43 (by decide), u8_beq c 44 (by decide), u8_beq c 45 (by decide), u8_beq c 47 (by decide), u8_beq c 58 (by decide), u8_beq c 59 (by decide), u8_beq c 61 (by decide)]
  rfl
theorem first_quote {c : UInt8} {r : List UInt8} (hc : c = 34) : LsText.first (c :: r) = if (r.takeWhile LsText.isShown).length ≤ 40 ∧ (r.drop (r.takeWhile LsText.isShown).length).head? = some 34 then (.text (r.takeWhile LsText.isShown), (r.takeWhile LsText.isShown).length + 2) else (.none_, 1) := by
  show (if LsText.isLetter c = true then _ else _) = _
  rw [if_neg (by rw [hc]; decide)]
  show (if LsText.isDigit c = true then _ else _) = _
  rw [if_neg (by rw [hc]; decide)]
  show (if c = 34 then _ else _) = _
  rw [if_pos hc]
  rfl
def otherB (c : UInt8) : Bool := !LsText.isLetter c && (!LsText.isDigit c && !(c == 34))
theorem first_other {c : UInt8} {r : List UInt8} (h : otherB c = true) : LsText.first (c :: r) = if LsText.isSign c = true then (.sign c, 1) else (.none_, 1) := by
  unfold otherB at h
  simp only [Bool.and_eq_true, Bool.not_eq_true', beq_eq_false_iff_ne] at h
  show (if LsText.isLetter c = true then _ else _) = _
  rw [if_neg (by rw [h.1]; decide)]
  show (if LsText.isDigit c = true then _ else _) = _
  rw [if_neg (by rw [h.2.1]; decide)]
  show (if c = 34 then _ else _) = _
  rw [if_neg h.2.2]
theorem takeWhile_eq {α : Type} {f : α → Bool} {l : List α} {i : Nat} {m : Nat} (h : (l.takeWhile f).length = i + m) : (l.takeWhile f).length = i + m := h
/-- the length told by a first place where f fails -/
theorem tw_stop {α : Type} (f : α → Bool) : ∀ (l : List α) (i : Nat) (c : α), (∀ j d, j < i → l[j]? = some d → f d = true) → l[i]? = some c → f c = false → (l.takeWhile f).length = i
  | [], i, c, _, h, _ => by simp at h
  | x :: r, 0, c, _, h, hc => by
    have e : x = c := by simpa using h
    subst e
    rw [List.takeWhile_cons, hc]
    rfl
  | x :: r, i + 1, c, ha, h, hc => by
    have hx : f x = true := ha 0 x (by omega) rfl
    rw [List.takeWhile_cons, hx]
    show (r.takeWhile f).length + 1 = i + 1
    rw [tw_stop f r i c (fun j d hj hd => ha (j + 1) d (by omega) hd) h hc]
theorem tw_least {α : Type} (f : α → Bool) : ∀ (l : List α) (i : Nat), i ≤ l.length → (∀ j d, j < i → l[j]? = some d → f d = true) → i ≤ (l.takeWhile f).length
  | _, 0, _, _ => Nat.zero_le _
  | [], i + 1, hl, _ => absurd hl (by simp)
  | x :: r, i + 1, hl, ha => by
    have hx : f x = true := ha 0 x (by omega) rfl
    rw [List.takeWhile_cons, hx]
    show i + 1 ≤ (r.takeWhile f).length + 1
    have := tw_least f r i (by simpa using hl) (fun j d hj hd => ha (j + 1) d (by omega) hd)
    omega
theorem ev_min2 {σ : L2.St} {H : Hp} {ta tb : TE} {i j : Int} (ha : Ev ta σ H (.int i)) (hb : Ev tb σ H (.int j)) :
    Ev (tCB (fun xs H Q => ∃ i j, xs = [.int i, .int j] ∧ Q (.int (if j < i then j else i)) H) (tCons ta (tCons tb tNil))) σ H (.int (if j < i then j else i)) := fun H1 e _ q =>
  ha H1 e _ fun H2 e2 => hb H2 (e.trans e2) _ fun H3 e3 => ⟨i, j, rfl, q H3 (e2.trans e3)⟩
local macro_rules | `(tactic| walk_at "ev") => `(tactic| ((with_reducible apply c_byte); walk_at "ev"))
section
variable {P : Program} {w : World} {K : PySem.W.Frag} {mg : Str → Option Value} {base : Heap}
theorem sc_spelled : FnScope ["text", "sign"] ["text"] (defScope s_spelled) := ⟨rfl, rfl, rfl, by decide +kernel, rfl, by decide +kernel, by decide +kernel⟩
theorem ok_spelled (T : Txt K mg) : Def P w K mg base CX0 1 "spelled" ["text"] spSpelled := by
  refine T.def_ 0 0 rfl rfl rfl rfl rfl sc_spelled (fun _ _ _ _ _ _ us hl => match us, hl with | [_], _ => rfl) (fun vs H Q E h => by first | (obtain ⟨_, rfl, _⟩ := h; rfl) | (obtain ⟨_, _, rfl, _⟩ := h; rfl) | (obtain ⟨_, _, _, rfl, _⟩ := h; rfl) | (obtain ⟨_, _, _, _, rfl, _⟩ := h; rfl) | (obtain ⟨_, _, _, _, _, rfl, _⟩ := h; rfl) | (obtain ⟨_, _, _, _, _, _, rfl, _⟩ := h; rfl) | (obtain ⟨_, _, _, _, _, _, _, rfl, _⟩ := h; rfl) | (obtain ⟨_, _, _, _, _, _, _, _, rfl, _⟩ := h; rfl) | (obtain ⟨_, _, _, _, _, _, _, _, _, rfl, _⟩ := h; rfl) | (obtain ⟨_, _, _, _, _, _, _, _, _, _, rfl, _⟩ := h; rfl) | (obtain ⟨_, _, _, _, _, _, _, _, _, _, _, rfl, _⟩ := h; rfl) | (obtain ⟨_, _, _, _, _, _, _, _, _, _, _, _, rfl, _⟩ := h; rfl) | (obtain ⟨_, _, _, _, _, _, _, _, _, _, _, _, _, rfl, _⟩ := h; rfl) | (obtain ⟨_, _, _, _, _, _, _, _, _, _, _, _, _, _, rfl, _⟩ := h; rfl) | (obtain ⟨_, _, _, _, _, _, _, _, _, _, _, _, _, _, _, rfl, _⟩ := h; rfl) | (obtain ⟨_, _, _, _, _, _, _, _, _, _, _, _, _, _, _, _, rfl, _⟩ := h; rfl) | (obtain ⟨_, _, _, _, _, _, _, _, _, _, _, _, _, _, _, _, _, rfl, _⟩ := h; rfl) | (obtain ⟨_, _, _, _, _, _, _, _, _, _, _, _, _, _, _, _, _, _, rfl, _⟩ := h; rfl) | (obtain ⟨_, _, _, _, _, _, _, _, _, _, _, _, _, _, _, _, _, _, _, rfl, _⟩ := h; rfl)) (fun f cdv A outer s H vs Q E hr h => ⟨_, PSs.nox (pss_one (ps_ret (pe_callTy call_tuple_of (by rfl) (T.free 168 rfl) (by decide +kernel) (pa_cons (pe_lc (own := [("sign", 1)]) (g := gName 1) (tt := tYes) rfl sc_spelled.nd (pi_str (pv 0)) (blkOk_by (own := [("sign", 1)]) (N := ["text", "sign"]) (sc := defScope s_spelled) (by decide +kernel)) (fun _ _ _ _ _ => pg_name (i := 1) sc_spelled.nd rfl (Or.inl rfl)) (fun _ _ _ _ _ => pts_nil) (fun _ _ _ _ _ => by exact (pe_callB call_ord (by rfl) (T.free 163 rfl) (by decide +kernel) (pa_cons (pv 1) pa_nil)))) pa_nil)))), ?_⟩)
  obtain ⟨z, rfl, hz, k⟩ := h
  refine Sv.go (sv_retP (evp_tupL (xs := codesV z) ?_) fun v H1 e h => k v H1 e h)
  have e := evp_lc (wi := iStr (tVar 0)) (g := gName 1) (tt := tYes) (te := tCB (fun xs H Q => ∃ x, xs = [.str x] ∧ x.length = 1 ∧ Q (.int (x.cps.getD 0 0 : Nat)) H) (tCons (tVar 1) tNil)) (vs := [1]) (σ := L2.start ["text", "sign"] [.str z]) (H := H)
    (it_str (z := z) (ev_var rfl)) (fun i H x H' y => by rw [y.1]; exact Ex.refl H) hz (fun _ => true) (fun i => ((codesV z)[i]?).getD .non) (fun i x H1 H2 hi e y => by
      obtain ⟨rfl, c, hc, rfl⟩ := y
      refine ⟨_, fun Q H3 _ q => q, rfl, fun H1 _ Q q => q H1 (Ex.refl H1), fun _ => ?_⟩
      have e1 : (codesV z)[i]? = some (.int (c : Int)) := by
        unfold codesV
        rw [List.getElem?_map, Array.getElem?_toList, hc] <;> rfl
      show Ev _ _ _ (((codesV z)[i]?).getD .non)
      rw [e1]
      exact ev_ord (ev_var rfl))
  rwa [given_all (ys := codesV z) (by unfold codesV; simp) (fun i y hy => by rw [hy]; rfl)] at e
theorem sc_quoted_at : FnScope ["text", "place", "at"] ["text", "place"] (defScope s_quoted_at) := ⟨rfl, rfl, rfl, by decide +kernel, rfl, by decide +kernel, by decide +kernel⟩
theorem ok_quoted_at (T : Txt K mg) : Def P w K mg base CX0 2 "quoted_at" ["text", "place"] (spTok K fun c => c == 34) := by
  refine T.def_ 12 12 rfl rfl rfl rfl rfl sc_quoted_at (fun _ _ _ _ _ _ us hl => match us, hl with | [_, _], _ => rfl) (fun vs H Q E h => by first | (obtain ⟨_, rfl, _⟩ := h; rfl) | (obtain ⟨_, _, rfl, _⟩ := h; rfl) | (obtain ⟨_, _, _, rfl, _⟩ := h; rfl) | (obtain ⟨_, _, _, _, rfl, _⟩ := h; rfl) | (obtain ⟨_, _, _, _, _, rfl, _⟩ := h; rfl) | (obtain ⟨_, _, _, _, _, _, rfl, _⟩ := h; rfl) | (obtain ⟨_, _, _, _, _, _, _, rfl, _⟩ := h; rfl) | (obtain ⟨_, _, _, _, _, _, _, _, rfl, _⟩ := h; rfl) | (obtain ⟨_, _, _, _, _, _, _, _, _, rfl, _⟩ := h; rfl) | (obtain ⟨_, _, _, _, _, _, _, _, _, _, rfl, _⟩ := h; rfl) | (obtain ⟨_, _, _, _, _, _, _, _, _, _, _, rfl, _⟩ := h; rfl) | (obtain ⟨_, _, _, _, _, _, _, _, _, _, _, _, rfl, _⟩ := h; rfl) | (obtain ⟨_, _, _, _, _, _, _, _, _, _, _, _, _, rfl, _⟩ := h; rfl) | (obtain ⟨_, _, _, _, _, _, _, _, _, _, _, _, _, _, rfl, _⟩ := h; rfl) | (obtain ⟨_, _, _, _, _, _, _, _, _, _, _, _, _, _, _, rfl, _⟩ := h; rfl) | (obtain ⟨_, _, _, _, _, _, _, _, _, _, _, _, _, _, _, _, rfl, _⟩ := h; rfl) | (obtain ⟨_, _, _, _, _, _, _, _, _, _, _, _, _, _, _, _, _, rfl, _⟩ := h; rfl) | (obtain ⟨_, _, _, _, _, _, _, _, _, _, _, _, _, _, _, _, _, _, rfl, _⟩ := h; rfl) | (obtain ⟨_, _, _, _, _, _, _, _, _, _, _, _, _, _, _, _, _, _, _, rfl, _⟩ := h; rfl)) (fun f cdv A outer s H vs Q E hr h => ⟨_, PSs.nox (pss_cons (ps_for PassesOwn.never rfl (pi_range2 (by rfl) (T.free 164 rfl) (pa_cons (pe_op op_add (pv 1) pe_int) (pa_cons (pe_callB (call_min2 rfl) (by rfl) (T.free 162 rfl) (by decide +kernel) (pa_cons (pe_callB call_len (by rfl) (T.free 160 rfl) (by decide +kernel) (pa_cons (pv 0) pa_nil)) (pa_cons (pe_op op_add (pe_op op_add (pv 1) (pe_gi (T.int 120 rfl))) pe_int) pa_nil))) pa_nil))) (pg_name (i := 2) sc_quoted_at.nd rfl (Or.inl rfl)) (pss_cons (ps_if (pt_cmpR op_eq (pe_ix ix_list (pv 0) (pv 2) (fun _ _ => rfl)) (pe_gi (T.int 104 rfl)) (nomark _)) (pss_one (ps_ret (pe_tup (pa_cons (pe_gi (T.int 115 rfl)) (pa_cons (pe_tup pa_nil) (pa_cons (pe_op op_add (pv 2) pe_int) pa_nil)))))) pss_nil) (pss_one (ps_if (pt_not (pt_val (pe_cd (ok_is_quotable T) hr pass0 (pa_cons (pe_ix ix_list (pv 0) (pv 2) (fun _ _ => rfl)) pa_nil)))) (pss_one (ps_ret (pe_tup (pa_cons (pe_gi (T.int 112 rfl)) (pa_cons (pe_tup pa_nil) (pa_cons (pv 2) pa_nil)))))) pss_nil)))) (pss_one (ps_ret (pe_tup (pa_cons (pe_gi (T.int 112 rfl)) (pa_cons (pe_tup pa_nil) (pa_cons (pv 1) pa_nil))))))), ?_⟩)
  obtain ⟨a, b, p, c, rfl, hT, hc, hok, k⟩ := h
  have hl := hT.2
  have hp : p < b.length := (List.getElem?_eq_some_iff.mp hc).1
  have hd := drop_at hc
  have hc34 : c = 34 := by simpa using hok
  rw [hd, first_quote hc34] at k
  generalize hr : b.drop (p + 1) = r at k
  have hrl : r.length = b.length - (p + 1) := by rw [← hr, List.length_drop]
  have hget : ∀ i, r[i]? = b[p + 1 + i]? := fun i => by rw [← hr, List.getElem?_drop]
  refine Sv.go (sv_forR (lo := ((p + 1 : Nat) : Int)) (hi := if ((p + 42 : Nat) : Int) < (b.length : Int) then ((p + 42 : Nat) : Int) else (b.length : Int))
    (ea_cons (ev_is (by walk_at "ev") (by congr 1)) (ea_cons (ev_is (ev_min2 (ev_txlen hT (ev_var rfl)) (j := (p : Int) + 40 + 2) (by walk_at "ev")) (by
      have e0 : ((p + 42 : Nat) : Int) = (p : Int) + 40 + 2 := by omega
      rw [e0])) ea_nil)) (by split <;> omega)
    (fun i σ => ∃ (x : Option V), σ = [some (.ref a), some (.int (p : Int)), x] ∧ ∀ j d, j < i → r[j]? = some d → LsText.isShown d = true) ⟨none, rfl, fun j d hj => absurd hj (by omega)⟩ ?_ ?_)
  · rintro i σ hi ⟨x, rfl, hs⟩
    have hi2 : p + 1 + i < b.length ∧ i ≤ 40 := by
      split at hi <;> omega
    obtain ⟨d, hd2⟩ : ∃ d, b[p + 1 + i]? = some d := ⟨_, List.getElem?_eq_getElem hi2.1⟩
    have hrd : r[i]? = some d := (hget i).trans hd2
    have e0 : (((p + 1 : Nat) : Int) + (i : Int)) = ((p + 1 + i : Nat) : Int) := by omega
    rw [e0]
    refine sv_when (b := d == 34) (et_is (et_test (ev_op (ev_txat hT hd2 (ev_var rfl) (ev_var rfl)) ev_c (rv_eq rfl))) (u8_dec d 34 (by decide))) (fun h1 => ?_) fun h1 => ?_
    · have h1 := beq_iff_eq.mp h1
      have hlen := tw_stop LsText.isShown r i d hs hrd (by rw [h1]; decide)
      rw [hlen, if_pos ⟨hi2.2, by rw [List.head?_drop, hrd, h1]⟩] at k
      refine sv_retP (evp_tok (z := p + 1 + i + 1) (x := (.text (r.takeWhile LsText.isShown), i + 2)) ev_c evp_empty (ev_is (by walk_at "ev") (by congr 1)) (fun _ => by show _ = p + (i + 2); omega)) fun v H1 e h => k v H1 e h
    refine sv_when (b := !LsText.isShown d) (et_not (et_B (c_byte (ev_txat hT hd2 (ev_var rfl) (ev_var rfl))))) (fun h2 => ?_) fun h2 => ?_
    · have h2 : LsText.isShown d = false := by simpa using h2
      have hlen := tw_stop LsText.isShown r i d hs hrd h2
      rw [hlen, if_neg (by
        rintro ⟨_, q⟩
        rw [List.head?_drop, hrd] at q
        rw [Option.some.inj q] at h1
        exact absurd h1 (by decide))] at k
      exact sv_retP (evp_tok (z := p + 1 + i) ev_c evp_empty (ev_var rfl) (fun h => absurd rfl h)) fun v H1 e h => k v H1 e h
    · have h2 : LsText.isShown d = true := by simpa using h2
      refine sv_next fun H1 e => ⟨⟨_, rfl, fun j d' hj hjd => ?_⟩, e⟩
      by_cases hji : j = i
      · subst hji
        rw [hrd] at hjd
        rw [← Option.some.inj hjd]
        exact h2
      · exact hs j d' (by omega) hjd
  · rintro σ ⟨x, rfl, hs⟩
    rw [if_neg (by
      rintro ⟨q1, q2⟩
      by_cases hb : ((p + 42 : Nat) : Int) < (b.length : Int)
      · rw [if_pos hb] at hs
        have := tw_least LsText.isShown r 41 (by omega) (fun j d hj hd => hs j d (by omega) hd)
        omega
      · rw [if_neg hb] at hs
        have := tw_least LsText.isShown r r.length (by omega) (fun j d hj hd => hs j d (by omega) hd)
        rw [drop_all this] at q2
        cases q2)] at k
    exact sv_retP (evp_tok (z := p) ev_c evp_empty (ev_var rfl) (fun h => absurd rfl h)) fun v H1 e h => k v H1 e h
theorem sc_sign_at : FnScope ["text", "place"] ["text", "place"] (defScope s_sign_at) := ⟨rfl, rfl, rfl, by decide +kernel, rfl, by decide +kernel, by decide +kernel⟩
theorem ok_sign_at (T : Txt K mg) : Def P w K mg base CX0 2 "sign_at" ["text", "place"] (spTok K otherB) := by
  refine T.def_ 13 13 rfl rfl rfl rfl rfl sc_sign_at (fun _ _ _ _ _ _ us hl => match us, hl with | [_, _], _ => rfl) (fun vs H Q E h => by first | (obtain ⟨_, rfl, _⟩ := h; rfl) | (obtain ⟨_, _, rfl, _⟩ := h; rfl) | (obtain ⟨_, _, _, rfl, _⟩ := h; rfl) | (obtain ⟨_, _, _, _, rfl, _⟩ := h; rfl) | (obtain ⟨_, _, _, _, _, rfl, _⟩ := h; rfl) | (obtain ⟨_, _, _, _, _, _, rfl, _⟩ := h; rfl) | (obtain ⟨_, _, _, _, _, _, _, rfl, _⟩ := h; rfl) | (obtain ⟨_, _, _, _, _, _, _, _, rfl, _⟩ := h; rfl) | (obtain ⟨_, _, _, _, _, _, _, _, _, rfl, _⟩ := h; rfl) | (obtain ⟨_, _, _, _, _, _, _, _, _, _, rfl, _⟩ := h; rfl) | (obtain ⟨_, _, _, _, _, _, _, _, _, _, _, rfl, _⟩ := h; rfl) | (obtain ⟨_, _, _, _, _, _, _, _, _, _, _, _, rfl, _⟩ := h; rfl) | (obtain ⟨_, _, _, _, _, _, _, _, _, _, _, _, _, rfl, _⟩ := h; rfl) | (obtain ⟨_, _, _, _, _, _, _, _, _, _, _, _, _, _, rfl, _⟩ := h; rfl) | (obtain ⟨_, _, _, _, _, _, _, _, _, _, _, _, _, _, _, rfl, _⟩ := h; rfl) | (obtain ⟨_, _, _, _, _, _, _, _, _, _, _, _, _, _, _, _, rfl, _⟩ := h; rfl) | (obtain ⟨_, _, _, _, _, _, _, _, _, _, _, _, _, _, _, _, _, rfl, _⟩ := h; rfl) | (obtain ⟨_, _, _, _, _, _, _, _, _, _, _, _, _, _, _, _, _, _, rfl, _⟩ := h; rfl) | (obtain ⟨_, _, _, _, _, _, _, _, _, _, _, _, _, _, _, _, _, _, _, rfl, _⟩ := h; rfl)) (fun f cdv A outer s H vs Q E hr h => ⟨_, PSs.nox (pss_cons (ps_if (pt_cmpR op_in_seq (pe_ix ix_list (pv 0) (pv 1) (fun _ _ => rfl)) (pe_cd (ok_spelled T) hr pass0 (pa_cons (pe_gs (T.str 121 rfl)) pa_nil)) (by rfl)) (pss_one (ps_ret (pe_tup (pa_cons (pe_gi (T.int 116 rfl)) (pa_cons (pe_tup (pa_cons (pe_ix ix_list (pv 0) (pv 1) (fun _ _ => rfl)) pa_nil)) (pa_cons (pe_op op_add (pv 1) pe_int) pa_nil)))))) pss_nil) (pss_one (ps_ret (pe_tup (pa_cons (pe_gi (T.int 112 rfl)) (pa_cons (pe_tup pa_nil) (pa_cons (pv 1) pa_nil))))))), ?_⟩)
  obtain ⟨a, b, p, c, rfl, hT, hc, hok, k⟩ := h
  have hl := hT.2
  have hp : p < b.length := (List.getElem?_eq_some_iff.mp hc).1
  have hd := drop_at hc
  rw [hd, first_other hok] at k
  refine Sv.go (sv_when (b := LsText.isSign c) (et_is (et_test (ev_inP (ev_txat hT hc (ev_var rfl) (ev_var rfl)) (c_spelled ev_c (by decide +kernel)) rfl (by decide +kernel))) (sign_in c)) (fun h1 => ?_) fun h1 => ?_)
  · rw [if_pos h1] at k
    refine sv_retP (evp_tok (z := p + 1) (x := (.sign c, 1)) ev_c ((evp_tup (ea_cons (ev_txat hT hc (ev_var rfl) (ev_var rfl)) ea_nil) (by show 1 ≤ 100000; decide)).imp fun v H1 _ ⟨q, e, h⟩ => ⟨q, e, st_of h⟩) (ev_is (by walk_at "ev") (by congr 1)) (fun _ => rfl)) fun v H1 e h => k v H1 e h
  · rw [if_neg (by rw [h1]; decide)] at k
    exact sv_retP (evp_tok (z := p) ev_c evp_empty (ev_var rfl) (fun h => absurd rfl h)) fun v H1 e h => k v H1 e h
theorem sc_token_at : FnScope ["text", "place", "code"] ["text", "place"] (defScope s_token_at) := ⟨rfl, rfl, rfl, by decide +kernel, rfl, by decide +kernel, by decide +kernel⟩
theorem ok_token_at (T : Txt K mg) : Def P w K mg base CX0 5 "token_at" ["text", "place"] (spTok K fun _ => true) := by
  refine T.def_ 14 14 rfl rfl rfl rfl rfl sc_token_at (fun _ _ _ _ _ _ us hl => match us, hl with | [_, _], _ => rfl) (fun vs H Q E h => by first | (obtain ⟨_, rfl, _⟩ := h; rfl) | (obtain ⟨_, _, rfl, _⟩ := h; rfl) | (obtain ⟨_, _, _, rfl, _⟩ := h; rfl) | (obtain ⟨_, _, _, _, rfl, _⟩ := h; rfl) | (obtain ⟨_, _, _, _, _, rfl, _⟩ := h; rfl) | (obtain ⟨_, _, _, _, _, _, rfl, _⟩ := h; rfl) | (obtain ⟨_, _, _, _, _, _, _, rfl, _⟩ := h; rfl) | (obtain ⟨_, _, _, _, _, _, _, _, rfl, _⟩ := h; rfl) | (obtain ⟨_, _, _, _, _, _, _, _, _, rfl, _⟩ := h; rfl) | (obtain ⟨_, _, _, _, _, _, _, _, _, _, rfl, _⟩ := h; rfl) | (obtain ⟨_, _, _, _, _, _, _, _, _, _, _, rfl, _⟩ := h; rfl) | (obtain ⟨_, _, _, _, _, _, _, _, _, _, _, _, rfl, _⟩ := h; rfl) | (obtain ⟨_, _, _, _, _, _, _, _, _, _, _, _, _, rfl, _⟩ := h; rfl) | (obtain ⟨_, _, _, _, _, _, _, _, _, _, _, _, _, _, rfl, _⟩ := h; rfl) | (obtain ⟨_, _, _, _, _, _, _, _, _, _, _, _, _, _, _, rfl, _⟩ := h; rfl) | (obtain ⟨_, _, _, _, _, _, _, _, _, _, _, _, _, _, _, _, rfl, _⟩ := h; rfl) | (obtain ⟨_, _, _, _, _, _, _, _, _, _, _, _, _, _, _, _, _, rfl, _⟩ := h; rfl) | (obtain ⟨_, _, _, _, _, _, _, _, _, _, _, _, _, _, _, _, _, _, rfl, _⟩ := h; rfl) | (obtain ⟨_, _, _, _, _, _, _, _, _, _, _, _, _, _, _, _, _, _, _, rfl, _⟩ := h; rfl)) (fun f cdv A outer s H vs Q E hr h => ⟨_, PSs.nox (pss_cons (ps_set (i := 2) sc_token_at.nd rfl (Or.inl rfl) (pe_ix ix_list (pv 0) (pv 1) (fun _ _ => rfl))) (pss_cons (ps_if (pt_val (pe_cd (ok_is_letter T) hr pass0 (pa_cons (pv 2) pa_nil))) (pss_one (ps_ret (pe_cd (ok_word_at T) hr pass0 (pa_cons (pv 0) (pa_cons (pv 1) pa_nil))))) pss_nil) (pss_cons (ps_if (pt_val (pe_cd (ok_is_digit T) hr pass0 (pa_cons (pv 2) pa_nil))) (pss_one (ps_ret (pe_cd (ok_number_at T) hr pass0 (pa_cons (pv 0) (pa_cons (pv 1) pa_nil))))) pss_nil) (pss_cons (ps_if (pt_cmpR op_eq (pv 2) (pe_gi (T.int 104 rfl)) (nomark _)) (pss_one (ps_ret (pe_cd (ok_quoted_at T) hr pass0 (pa_cons (pv 0) (pa_cons (pv 1) pa_nil))))) pss_nil) (pss_one (ps_ret (pe_cd (ok_sign_at T) hr pass0 (pa_cons (pv 0) (pa_cons (pv 1) pa_nil))))))))), ?_⟩)
  obtain ⟨a, b, p, c, rfl, hT, hc, hok, k⟩ := h
  have hl := hT.2
  have hp : p < b.length := (List.getElem?_eq_some_iff.mp hc).1
  have go : ∀ (ok : UInt8 → Bool), ok c = true → EvP (tCall (spTok K ok) [] E0 (tCons (tVar 0) (tCons (tVar 1) tNil))) [some (.ref a), some (.int (p : Int)), some (b2 c)] H (TokOut K (LsText.first (b.drop p)) p) := fun ok h1 =>
    evp_call (vs := [.ref a, .int (p : Int)]) (by walk_at "ea") fun H1 e Q k => ⟨a, b, p, c, rfl, hT.mono e, hc, h1, k⟩
  refine (sv_set (ev_txat hT hc (ev_var rfl) (ev_var rfl)) ?_).go
  refine sv_when (b := LsText.isLetter c) (by walk_at "et") (fun h1 => sv_retP (go _ h1) k) fun h1 => ?_
  refine sv_when (b := LsText.isDigit c) (by walk_at "et") (fun h2 => sv_retP (go _ h2) k) fun h2 => ?_
  refine sv_when (b := c == 34) (et_is (by walk_at "et") (u8_dec c 34 (by decide))) (fun h3 => sv_retP (go _ h3) k) fun h3 => ?_
  exact sv_retP (go _ (by unfold otherB; rw [h1, h2, h3]; rfl)) k
end
end Trav
namespace Trav
/-! ## all tokens of a text -/
open LsText (Token)
def TokenV (K : PySem.W.Frag) (t : Token) : V → Hp → Prop := fun v H => ∃ (q : Addr) (u : V), v = .ref q ∧ SqT K H q [.int (kindOf t.tok), .int (t.at_ : Int), u] ∧ TokV K t.tok u H
theorem stayN_TokenV {K : PySem.W.Frag} (t : Token) : StayN (TokenV K t) := fun _ _ _ e ⟨q, u, ev, h, hu⟩ => ⟨q, u, ev, exN_t e h, stayN_TokV _ _ _ _ e hu⟩
theorem stay_TokenV {K : PySem.W.Frag} (t : Token) : Stay (TokenV K t) := (stayN_TokenV t).s
def TokensV (K : PySem.W.Frag) (ts : List Token) : List V → Hp → Prop := Each (ts.map (TokenV K))
theorem stayN_Tokens {K : PySem.W.Frag} {ts : List Token} {vs : List V} {H H' : Hp} (e : ExN H H') (h : TokensV K ts vs H) : TokensV K ts vs H' := each_stayN (fun P hP => by
  obtain ⟨t, _, rfl⟩ := List.mem_map.mp hP
  exact stayN_TokenV t) e h
theorem tokens_len {K : PySem.W.Frag} {ts : List Token} {vs : List V} {H : Hp} (h : TokensV K ts vs H) : vs.length = ts.length := by
  have := each_len h
  rwa [List.length_map] at this
/-- a list of tokens -/
def ToksOut (K : PySem.W.Frag) (ts : List Token) : V → Hp → Prop := fun v H => ∃ (p : Addr) (vs : List V), v = .ref p ∧ H p = some (.lst vs) ∧ TokensV K ts vs H
def spToks (K : PySem.W.Frag) : Sp := fun vs H Q _ => ∃ (a : Addr) (b : List UInt8), vs = [.ref a] ∧ TxtAt K H a b ∧ Ret (ToksOut K (LsText.tokens b)) H Q
theorem first_cons (c : UInt8) (r : List UInt8) : (LsText.first (c :: r)).1 ≠ .over ∧ ((LsText.first (c :: r)).1 ≠ .none_ → 1 ≤ (LsText.first (c :: r)).2 ∧ (LsText.first (c :: r)).2 ≤ r.length + 1) := by
  by_cases h1 : LsText.isLetter c = true
  · rw [first_letter h1]
    have hl := takeWhile_le LsText.isPart (c :: r)
    have hp : 1 ≤ ((c :: r).takeWhile LsText.isPart).length := by
      rw [List.takeWhile_cons, if_pos (by unfold LsText.isPart; rw [h1, Bool.true_or])]
      simp
    rw [List.length_cons] at hl
    split
    · exact ⟨fun h => (by cases h), fun _ => ⟨hp, hl⟩⟩
    · exact ⟨fun h => (by cases h), fun h => absurd rfl h⟩
  by_cases h2 : LsText.isDigit c = true
  · rw [first_digit h2]
    have hl := takeWhile_le LsText.isDigit (c :: r)
    have hp : 1 ≤ ((c :: r).takeWhile LsText.isDigit).length := by
      rw [List.takeWhile_cons, if_pos h2]
      simp
    rw [List.length_cons] at hl
    split
    · exact ⟨fun h => (by cases h), fun h => absurd rfl h⟩
    · exact ⟨fun h => (by cases h), fun _ => ⟨hp, hl⟩⟩
  by_cases h3 : c = 34
  · rw [first_quote h3]
    split
    · rename_i h
      refine ⟨fun h => (by cases h), fun _ => ⟨by omega, ?_⟩⟩
      have hl := h.2
      rw [List.head?_drop] at hl
      have := (List.getElem?_eq_some_iff.mp hl).1
      show (r.takeWhile LsText.isShown).length + 2 ≤ r.length + 1
      omega
    · exact ⟨fun h => (by cases h), fun h => absurd rfl h⟩
  · have h4 : otherB c = true := by
      unfold otherB
      simp only [Bool.and_eq_true, Bool.not_eq_true', beq_eq_false_iff_ne]
      exact ⟨by simpa using h1, by simpa using h2, h3⟩
    rw [first_other h4]
    split
    · exact ⟨fun h => (by cases h), fun _ => ⟨Nat.le_refl _, by show 1 ≤ r.length + 1; omega⟩⟩
    · exact ⟨fun h => (by cases h), fun h => absurd rfl h⟩
theorem gap_le : ∀ (l : List UInt8) (r : Bool), LsText.gap r l ≤ l.length
  | [], r => by cases r <;> simp [LsText.gap]
  | c :: l, true => by
    show (if c = 10 then 1 + LsText.gap false l else 1 + LsText.gap true l) ≤ l.length + 1
    have h1 := gap_le l false
    have h2 := gap_le l true
    split <;> omega
  | c :: l, false => by
    show (if c = 37 then 1 + LsText.gap true l else if LsText.isBlank c = true then 1 + LsText.gap false l else 0) ≤ l.length + 1
    have h1 := gap_le l false
    have h2 := gap_le l true
    split
    · omega
    · split <;> omega
theorem blanksEnd_le {b : List UInt8} {p : Nat} (hp : p ≤ b.length) : p ≤ blanksEnd b p ∧ blanksEnd b p ≤ b.length := by
  have := gap_le (b.drop p) false
  rw [List.length_drop] at this
  unfold blanksEnd
  omega
theorem kind_none {t : LsText.Tok} : (kindOf t = 0) ↔ t = .none_ := by
  cases t <;> simp [kindOf]
/-- one step of the specification's own -/
theorem toks_step {n q : Nat} {b : List UInt8} {p : Nat} (hp : p = blanksEnd b q) : LsText.tokensFrom (n + 1) q (b.drop q) = match (LsText.first (b.drop p)).1 with
    | .over => [(⟨p, .over⟩ : Token)]
    | .none_ => [(⟨p, .none_⟩ : Token)]
    | t => (⟨p, t⟩ : Token) :: LsText.tokensFrom n (p + (LsText.first (b.drop p)).2) (b.drop (p + (LsText.first (b.drop p)).2)) := by
  subst hp
  show (match (LsText.first ((b.drop q).drop (LsText.gap false (b.drop q)))).1 with
    | .over => [(⟨q + LsText.gap false (b.drop q), .over⟩ : Token)]
    | .none_ => [(⟨q + LsText.gap false (b.drop q), .none_⟩ : Token)]
    | t => (⟨q + LsText.gap false (b.drop q), t⟩ : Token) :: LsText.tokensFrom n (q + LsText.gap false (b.drop q) + (LsText.first ((b.drop q).drop (LsText.gap false (b.drop q)))).2) (((b.drop q).drop (LsText.gap false (b.drop q))).drop (LsText.first ((b.drop q).drop (LsText.gap false (b.drop q)))).2)) = _
  rw [List.drop_drop, List.drop_drop]
  rfl
section
variable {P : Program} {w : World} {K : PySem.W.Frag} {mg : Str → Option Value} {base : Heap}
theorem sc_tokens_of : FnScope ["text", "tokens", "place", "kind", "value", "behind"] ["text"] (defScope s_tokens_of) := ⟨rfl, rfl, rfl, by decide +kernel, rfl, by decide +kernel, by decide +kernel⟩
theorem ok_tokens_of (T : Txt K mg) : Def P w K mg base CX0 6 "tokens_of" ["text"] (spToks K) := by
  refine T.def_ 15 15 rfl rfl rfl rfl rfl sc_tokens_of (fun _ _ _ _ _ _ us hl => match us, hl with | [_], _ => rfl) (fun vs H Q E h => by first | (obtain ⟨_, rfl, _⟩ := h; rfl) | (obtain ⟨_, _, rfl, _⟩ := h; rfl) | (obtain ⟨_, _, _, rfl, _⟩ := h; rfl) | (obtain ⟨_, _, _, _, rfl, _⟩ := h; rfl) | (obtain ⟨_, _, _, _, _, rfl, _⟩ := h; rfl) | (obtain ⟨_, _, _, _, _, _, rfl, _⟩ := h; rfl) | (obtain ⟨_, _, _, _, _, _, _, rfl, _⟩ := h; rfl) | (obtain ⟨_, _, _, _, _, _, _, _, rfl, _⟩ := h; rfl) | (obtain ⟨_, _, _, _, _, _, _, _, _, rfl, _⟩ := h; rfl) | (obtain ⟨_, _, _, _, _, _, _, _, _, _, rfl, _⟩ := h; rfl) | (obtain ⟨_, _, _, _, _, _, _, _, _, _, _, rfl, _⟩ := h; rfl) | (obtain ⟨_, _, _, _, _, _, _, _, _, _, _, _, rfl, _⟩ := h; rfl) | (obtain ⟨_, _, _, _, _, _, _, _, _, _, _, _, _, rfl, _⟩ := h; rfl) | (obtain ⟨_, _, _, _, _, _, _, _, _, _, _, _, _, _, rfl, _⟩ := h; rfl) | (obtain ⟨_, _, _, _, _, _, _, _, _, _, _, _, _, _, _, rfl, _⟩ := h; rfl) | (obtain ⟨_, _, _, _, _, _, _, _, _, _, _, _, _, _, _, _, rfl, _⟩ := h; rfl) | (obtain ⟨_, _, _, _, _, _, _, _, _, _, _, _, _, _, _, _, _, rfl, _⟩ := h; rfl) | (obtain ⟨_, _, _, _, _, _, _, _, _, _, _, _, _, _, _, _, _, _, rfl, _⟩ := h; rfl) | (obtain ⟨_, _, _, _, _, _, _, _, _, _, _, _, _, _, _, _, _, _, _, rfl, _⟩ := h; rfl)) (fun f cdv A outer s H vs Q E hr h => ⟨_, PSs.nox (pss_cons (ps_set (i := 1) sc_tokens_of.nd rfl (Or.inl rfl) (pe_lst pa_nil)) (pss_cons (ps_set (i := 2) sc_tokens_of.nd rfl (Or.inl rfl) (pe_cd (ok_behind_blanks T) hr pass0 (pa_cons (pv 0) (pa_cons pe_int pa_nil)))) (pss_cons (ps_while PassesOwn.never (pt_cmpR op_lt (pv 2) (pe_callB call_len (by rfl) (T.free 160 rfl) (by decide +kernel) (pa_cons (pv 0) pa_nil)) (nomark _)) (pss_cons (ps_asg (pe_cd (ok_token_at T) hr pass0 (pa_cons (pv 0) (pa_cons (pv 2) pa_nil))) (pg_tup rfl (pgs_cons (pg_name (i := 3) sc_tokens_of.nd rfl (Or.inl rfl)) (pgs_cons (pg_name (i := 4) sc_tokens_of.nd rfl (Or.inl rfl)) (pgs_cons (pg_name (i := 5) sc_tokens_of.nd rfl (Or.inl rfl)) pgs_nil))))) (pss_cons (ps_expr (pe_bm PySem.F.plainAttrs_list PySem.F.slot_list_append PySem.F.type_list_append mt_append (pv 1) (pa_cons (pe_tup (pa_cons (pv 3) (pa_cons (pv 2) (pa_cons (pv 4) pa_nil)))) pa_nil))) (pss_cons (ps_if (pt_cmpR op_eq (pv 3) (pe_gi (T.int 112 rfl)) (nomark _)) (pss_one (ps_ret (pv 1))) pss_nil) (pss_one (ps_set (i := 2) sc_tokens_of.nd rfl (Or.inl rfl) (pe_cd (ok_behind_blanks T) hr pass0 (pa_cons (pv 0) (pa_cons (pv 5) pa_nil))))))))) (pss_cons (ps_expr (pe_bm PySem.F.plainAttrs_list PySem.F.slot_list_append PySem.F.type_list_append mt_append (pv 1) (pa_cons (pe_tup (pa_cons (pe_gi (T.int 117 rfl)) (pa_cons (pe_callB call_len (by rfl) (T.free 160 rfl) (by decide +kernel) (pa_cons (pv 0) pa_nil)) (pa_cons (pe_tup pa_nil) pa_nil)))) pa_nil))) (pss_one (ps_ret (pv 1))))))), ?_⟩)
  obtain ⟨a, b, rfl, hT, k⟩ := h
  have hl := hT.2
  -- tokens = []
  refine (q_asgL (xs := []) (el_lst ea_nil (by decide)) fun l H1 hl0 e1 h1 => ?_)
  have hT1 := hT.mono e1
  refine (sv_set (v := .int (blanksEnd b 0 : Int)) (c_tp (f := blanksEnd) (p := 0) hT1 (Nat.zero_le _) (ev_var rfl) ev_c) ?_).go
  intro H2 e2
  -- the loop: behind q bytes the tokens so far and those of the rest are all of them
  refine q_while (fun m σ' H' => ∃ (q n : Nat) (pre : List Token) (vs : List V) (x y z : Option V), σ' = [some (.ref a), some (.ref l), some (.int (blanksEnd b q : Int)), x, y, z] ∧ q ≤ b.length ∧ b.length - q < n ∧ m = b.length - q ∧
    LsText.tokens b = pre ++ LsText.tokensFrom n q (b.drop q) ∧ pre.length ≤ q ∧ Ex H H' ∧ H' l = some (.lst vs) ∧ TokensV K pre vs H') b.length ?_ ?_
  · exact ⟨0, b.length + 1, [], [], none, none, none, rfl, Nat.zero_le _, by omega, by omega, rfl, Nat.le_refl _, e1.trans e2, e2 l _ h1, rfl⟩
  · rintro m σ' H' ⟨q, n, pre, vs, x, y, z, rfl, hq, hn, rfl, heq, hpre, e', hlst, htv⟩
    have hT' := hT.mono e'
    obtain ⟨hb1, hb2⟩ := blanksEnd_le (b := b) hq
    generalize hp : blanksEnd b q = p at hb1 hb2
    obtain ⟨n, rfl⟩ : ∃ n', n = n' + 1 := ⟨n - 1, by omega⟩
    rw [toks_step hp.symm] at heq
    have hvl := tokens_len htv
    refine ⟨decide ((p : Int) < (b.length : Int)), et_test (ev_op (ev_var rfl) (ev_txlen hT' (ev_var rfl)) rv_I0), fun hb H1 e1 => ?_, fun hb H1 e1 => ?_⟩
    · have hb := of_decide_eq_true hb
      obtain ⟨c, hc⟩ : ∃ c, b[p]? = some c := ⟨_, List.getElem?_eq_getElem (by omega)⟩
      have hfc := first_cons c (b.drop (p + 1))
      rw [← drop_at hc] at hfc
      have hT1 := hT'.mono e1
      refine ⟨_, fun σ2 H2 h => h, ?_⟩
      -- kind, value, behind = token_at(text, place)
      refine evp_call (P := TokOut K (LsText.first (b.drop p)) p) (vs := [.ref a, .int (p : Int)]) (ea_cons (ev_var rfl) (ea_cons (ev_var rfl) ea_nil)) (fun H1 e Q k => ⟨a, b, p, c, rfl, hT1.mono e, hc, rfl, k⟩) H1 (Ex.refl H1) _ fun v H2 e2 h2 => ?_
      obtain ⟨r, u, zz, rfl, hr, hu, hz⟩ := h2
      refine ⟨r, _, rfl, hr, rfl, _, _, rfl, _, _, rfl, _, _, rfl, rfl, ?_⟩
      -- tokens.append((kind, place, value))
      refine sv_appP (P := TokenV K ⟨p, (LsText.first (b.drop p)).1⟩) (xs := vs) (e2 l _ (e1 l _ hlst)) (ev_var rfl) ?_ (by omega) fun v H3 e3 h3 => ?_
      · refine (evp_tupOf (eap_cons (ev_p (ev_var rfl)) (eap_cons (ev_p (ev_var rfl)) (eap_cons (evp_of (P := TokV K (LsText.first (b.drop p)).1) (ev_var rfl) fun H4 e4 => stay_TokV _ _ _ _ e4 hu) eap_nil (stay_TokV _)) stay_eq) stay_eq) ?_ (by show 3 ≤ 100000; decide)).imp fun v H4 _ h4 => ?_
        · intro P hP
          simp only [List.mem_cons, List.not_mem_nil, or_false] at hP
          rcases hP with rfl | rfl | rfl
          · exact stay_eq
          · exact stay_eq
          · exact stay_TokV _
        · obtain ⟨qq, ws, rfl, hq4, v1, r1, rfl, rfl, v2, r2, rfl, rfl, v3, r3, rfl, h5, h6⟩ := h4
          have e6 : r3 = [] := h6
          subst e6
          exact ⟨qq, v3, rfl, st_of hq4, h5⟩
      have hl3 : H3 l = some (.lst vs) := e3 l _ (e2 l _ (e1 l _ hlst))
      have hup : ExN H3 (upd H3 l (.lst (vs ++ [v]))) := exN_upd hl3
      have htv2 : TokensV K (pre ++ [⟨p, (LsText.first (b.drop p)).1⟩]) (vs ++ [v]) (upd H3 l (.lst (vs ++ [v]))) := by
        unfold TokensV
        rw [List.map_append]
        exact each_append (stayN_Tokens ((ex_n ((e1.trans e2).trans e3)).trans hup) htv) (stayN_TokenV _ _ _ _ hup h3)
      have hH3 : Ex H (upd H3 l (.lst (vs ++ [v]))) := Ex.mut (((e'.trans e1).trans e2).trans e3) hl0
      generalize hH4 : upd H3 l (.lst (vs ++ [v])) = H4 at hH3 htv2 ⊢
      have hl4 : H4 l = some (.lst (vs ++ [v])) := by rw [← hH4]; exact upd_same
      -- if kind == NONE: return tokens
      refine (sv_when (b := decide (kindOf (LsText.first (b.drop p)).1 = 0)) (et_is (et_test (ev_op (ev_var rfl) ev_c (rv_eq rfl))) (by simp)) (fun hk => ?_) fun hk => ?_).go
      · have hk := kind_none.mp (of_decide_eq_true hk)
        rw [hk] at heq htv2
        refine sv_ret (ev_var rfl) fun H5 e5 => k _ H5 (hH3.trans e5) ⟨l, vs ++ [v], rfl, e5 l _ hl4, ?_⟩
        rw [heq]
        exact stayN_Tokens (ex_n e5) htv2
      · have hk0 : (LsText.first (b.drop p)).1 ≠ .none_ := fun h => (of_decide_eq_false hk) (kind_none.mpr h)
        obtain ⟨hx1, hx2⟩ := hfc.2 hk0
        have hzz := hz hk0
        have hdl : (b.drop (p + 1)).length = b.length - (p + 1) := List.length_drop
        refine sv_last (v := .int (blanksEnd b zz : Int)) (c_tp (f := blanksEnd) (p := zz) (hT.mono hH3) (by omega) (ev_var rfl) (ev_var rfl)) fun H5 e5 => ?_
        refine ⟨b.length - zz, by omega, zz, n, _, vs ++ [v], _, _, _, rfl, by omega, by omega, rfl, ?_, ?_, hH3.trans e5, e5 l _ hl4, stayN_Tokens (ex_n e5) htv2⟩
        · rw [heq, List.append_assoc, hzz]
          congr 1
          have ho := hfc.1
          generalize (LsText.first (b.drop p)) = xx at hk0 ho ⊢
          obtain ⟨t, nn⟩ := xx
          cases t <;> first | rfl | exact absurd rfl ho | exact absurd rfl hk0
        · rw [List.length_append]
          show pre.length + 1 ≤ zz
          omega
    · have hb := of_decide_eq_false hb
      have hpl : p = b.length := by omega
      have hT1 := hT'.mono e1
      rw [drop_all (by omega)] at heq
      refine q_appP (P := TokenV K ⟨p, .over⟩) (xs := vs) (e1 l _ hlst) (ev_var rfl) ?_ (by omega) fun v H3 e3 h3 => ?_
      · refine (evp_tupOf (eap_cons (ev_p ev_c) (eap_cons (ev_p (ev_txlen hT1 (ev_var rfl))) (eap_cons (P := Tp K []) evp_empty eap_nil stay_Tp) stay_eq) stay_eq) ?_ (by show 3 ≤ 100000; decide)).imp fun v H4 _ h4 => ?_
        · intro P hP
          simp only [List.mem_cons, List.not_mem_nil, or_false] at hP
          rcases hP with rfl | rfl | rfl
          · exact stay_eq
          · exact stay_eq
          · exact stay_Tp
        · obtain ⟨qq, ws, rfl, hq4, v1, r1, rfl, rfl, v2, r2, rfl, rfl, v3, r3, rfl, h5, h6⟩ := h4
          have e6 : r3 = [] := h6
          subst e6
          rw [hpl]
          exact ⟨qq, v3, rfl, st_of hq4, h5⟩
      have hl3 : H3 l = some (.lst vs) := e3 l _ (e1 l _ hlst)
      have hup : ExN H3 (upd H3 l (.lst (vs ++ [v]))) := exN_upd hl3
      have htv2 : TokensV K (pre ++ [⟨p, .over⟩]) (vs ++ [v]) (upd H3 l (.lst (vs ++ [v]))) := by
        unfold TokensV
        rw [List.map_append]
        exact each_append (stayN_Tokens ((ex_n (e1.trans e3)).trans hup) htv) (stayN_TokenV _ _ _ _ hup h3)
      have hH3 : Ex H (upd H3 l (.lst (vs ++ [v]))) := Ex.mut ((e'.trans e1).trans e3) hl0
      refine (sv_ret (ev_var rfl) fun H5 e5 => k _ H5 (hH3.trans e5) ⟨l, vs ++ [v], rfl, e5 l _ upd_same, ?_⟩).go
      rw [heq]
      exact stayN_Tokens (ex_n e5) htv2
end
end Trav
namespace Trav
/-! ## fractions -/
def fracV (q : Rat) : List V := [.int q.num, .int (q.den : Int)]
def FracAt (K : PySem.W.Frag) (q : Rat) : V → Hp → Prop := Tp K (fracV q)
/-- of so many bits -/
def FrB (N : Nat) (q : Rat) : Prop := q.num.natAbs < 2 ^ N ∧ q.den < 2 ^ N
def spGcd : Sp := fun vs H Q _ => ∃ (a b : Nat), vs = [.int (a : Int), .int (b : Int)] ∧ RetV (.int (Nat.gcd a b : Int)) H Q
def spFrac (K : PySem.W.Frag) : Sp := fun vs H Q _ => ∃ (n : Int) (d : Nat), vs = [.int n, .int (d : Int)] ∧ 0 < d ∧ d < 2 ^ 8900 ∧ Ret (FracAt K (mkRat n d)) H Q
def spFrac2 (K : PySem.W.Frag) (f : Rat → Rat → Rat) : Sp := fun vs H Q _ => ∃ (a b : Addr) (q r : Rat) (M N : Nat), vs = [.ref a, .ref b] ∧ SqT K H a (fracV q) ∧ SqT K H b (fracV r) ∧ FrB M q ∧ FrB N r ∧ 0 < M ∧ 0 < N ∧ M + N ≤ 8000 ∧ Ret (FracAt K (f q r)) H Q
def spThrough (K : PySem.W.Frag) : Sp := fun vs H Q _ => ∃ (a : Addr) (q : Rat) (M k : Nat), vs = [.ref a, .int (k : Int)] ∧ SqT K H a (fracV q) ∧ FrB M q ∧ 0 < M ∧ M ≤ 8000 ∧ 0 < k ∧ k < 2 ^ 60 ∧ Ret (FracAt K (q / (k : Rat))) H Q
def spAbove (K : PySem.W.Frag) : Sp := fun vs H Q _ => ∃ (a b : Addr) (q r : Rat) (M N : Nat), vs = [.ref a, .ref b] ∧ SqT K H a (fracV q) ∧ SqT K H b (fracV r) ∧ FrB M q ∧ FrB N r ∧ 0 < M ∧ 0 < N ∧ M + N ≤ 8000 ∧ RetV (.bl (decide (r < q))) H Q
theorem mkRat_num {n : Int} {d : Nat} (h : 0 < d) : (mkRat n d).num = n / ((Nat.gcd n.natAbs d : Nat) : Int) ∧ (mkRat n d).den = d / Nat.gcd n.natAbs d := by
  rw [Rat.mkRat_def, dif_neg (by omega), Rat.normalize_eq]
  exact ⟨rfl, rfl⟩
theorem int_abs (n : Int) : (if n < 0 then -n else n) = (n.natAbs : Int) := by split <;> omega
theorem div_through {q : Rat} {k : Nat} : mkRat q.num (q.den * k) = q / (k : Rat) := by
  have e : q = (q.num : Rat) / (q.den : Rat) := by rw [← Rat.mkRat_eq_div, Rat.mkRat_self]
  calc mkRat q.num (q.den * k) = (q.num : Rat) / ((q.den * k : Nat) : Rat) := Rat.mkRat_eq_div _ _
    _ = (q.num : Rat) / (q.den : Rat) / (k : Rat) := by rw [Rat.natCast_mul, Rat.div_def, Rat.div_def, Rat.div_def, Rat.inv_mul_rev, Rat.mul_comm ((k : Rat)⁻¹), Rat.mul_assoc]
    _ = q / (k : Rat) := by rw [← e]
section
variable {P : Program} {w : World} {K : PySem.W.Frag} {mg : Str → Option Value} {base : Heap}
theorem evp_frac {σ : L2.St} {H : Hp} {ta tb : TE} {n : Int} {d : Nat} {E : XK} (ha : Ev ta σ H (.int n)) (hb : Ev tb σ H (.int (d : Int))) (h0 : 0 < d) (h1 : d < 2 ^ 8900) : EvP (tCall (spFrac K) [] E (tCons ta (tCons tb tNil))) σ H (FracAt K (mkRat n d)) :=
  evp_call (ea_cons ha (ea_cons hb ea_nil)) fun _ _ _ k => ⟨n, d, rfl, h0, h1, k⟩
theorem sc_greatest_divisor : FnScope ["one", "other", "larger", "smaller", "rest"] ["one", "other"] (defScope s_greatest_divisor) := ⟨rfl, rfl, rfl, by decide +kernel, rfl, by decide +kernel, by decide +kernel⟩
theorem ok_greatest_divisor (T : Txt K mg) : Def P w K mg base CX0 1 "greatest_divisor" ["one", "other"] spGcd := by
  refine T.def_ 45 32 rfl rfl rfl rfl rfl sc_greatest_divisor (fun _ _ _ _ _ _ us hl => match us, hl with | [_, _], _ => rfl) (fun vs H Q E h => by first | (obtain ⟨_, rfl, _⟩ := h; rfl) | (obtain ⟨_, _, rfl, _⟩ := h; rfl) | (obtain ⟨_, _, _, rfl, _⟩ := h; rfl) | (obtain ⟨_, _, _, _, rfl, _⟩ := h; rfl) | (obtain ⟨_, _, _, _, _, rfl, _⟩ := h; rfl) | (obtain ⟨_, _, _, _, _, _, rfl, _⟩ := h; rfl) | (obtain ⟨_, _, _, _, _, _, _, rfl, _⟩ := h; rfl) | (obtain ⟨_, _, _, _, _, _, _, _, rfl, _⟩ := h; rfl) | (obtain ⟨_, _, _, _, _, _, _, _, _, rfl, _⟩ := h; rfl) | (obtain ⟨_, _, _, _, _, _, _, _, _, _, rfl, _⟩ := h; rfl) | (obtain ⟨_, _, _, _, _, _, _, _, _, _, _, rfl, _⟩ := h; rfl) | (obtain ⟨_, _, _, _, _, _, _, _, _, _, _, _, rfl, _⟩ := h; rfl) | (obtain ⟨_, _, _, _, _, _, _, _, _, _, _, _, _, rfl, _⟩ := h; rfl) | (obtain ⟨_, _, _, _, _, _, _, _, _, _, _, _, _, _, rfl, _⟩ := h; rfl) | (obtain ⟨_, _, _, _, _, _, _, _, _, _, _, _, _, _, _, rfl, _⟩ := h; rfl) | (obtain ⟨_, _, _, _, _, _, _, _, _, _, _, _, _, _, _, _, rfl, _⟩ := h; rfl) | (obtain ⟨_, _, _, _, _, _, _, _, _, _, _, _, _, _, _, _, _, rfl, _⟩ := h; rfl) | (obtain ⟨_, _, _, _, _, _, _, _, _, _, _, _, _, _, _, _, _, _, rfl, _⟩ := h; rfl) | (obtain ⟨_, _, _, _, _, _, _, _, _, _, _, _, _, _, _, _, _, _, _, rfl, _⟩ := h; rfl)) (fun f cdv A outer s H vs Q E hr h => ⟨_, PSs.nox (pss_cons (ps_set (i := 2) sc_greatest_divisor.nd rfl (Or.inl rfl) (pv 0)) (pss_cons (ps_set (i := 3) sc_greatest_divisor.nd rfl (Or.inl rfl) (pv 1)) (pss_cons (ps_while PassesOwn.never (pt_cmpR op_gt (pv 3) pe_int (nomark _)) (pss_cons (ps_set (i := 4) sc_greatest_divisor.nd rfl (Or.inl rfl) (pe_op op_mod (pv 2) (pv 3))) (pss_cons (ps_set (i := 2) sc_greatest_divisor.nd rfl (Or.inl rfl) (pv 3)) (pss_one (ps_set (i := 3) sc_greatest_divisor.nd rfl (Or.inl rfl) (pv 4)))))) (pss_one (ps_ret (pv 2)))))), ?_⟩)
  obtain ⟨a, b, rfl, k⟩ := h
  refine (sv_set (ev_var rfl) (sv_set (ev_var rfl) ?_)).go
  intro H1 e1
  refine q_while (fun m σ' H' => ∃ (x y : Nat) (r : Option V), σ' = [some (.int (a : Int)), some (.int (b : Int)), some (.int (x : Int)), some (.int (y : Int)), r] ∧ Nat.gcd x y = Nat.gcd a b ∧ m = y ∧ Ex H H') b ⟨a, b, none, rfl, rfl, rfl, e1⟩ ?_
  rintro m σ' H' ⟨x, y, r, rfl, hg, hm, e'⟩
  have hm := hm.symm
  subst hm
  refine ⟨decide ((0 : Int) < (y : Int)), by walk_at "et", fun hb H2 e2 => ?_, fun hb H2 e2 => ?_⟩
  · have hb := of_decide_eq_true hb
    refine ⟨_, fun σ2 H2 h => h, ?_⟩
    refine (sv_set (v := .int ((x % y : Nat) : Int)) (ev_is (ev_op (σ := [some (.int (a : Int)), some (.int (b : Int)), some (.int (x : Int)), some (.int (y : Int)), r]) (x := .int (x : Int)) (y := .int (y : Int)) (ev_var rfl) (ev_var rfl) (rv_I hb)) (by simp)) ?_).go
    refine sv_set (ev_var rfl) ?_
    refine sv_last (ev_var rfl) fun H3 e3 => ?_
    refine ⟨x % y, Nat.mod_lt _ (by omega), y, x % y, _, rfl, ?_, rfl, (e'.trans e2).trans e3⟩
    rw [← hg, Nat.gcd_comm x y, Nat.gcd_rec y x, Nat.gcd_comm]
  · have hb := of_decide_eq_false hb
    have hy : y = 0 := by omega
    subst hy
    rw [Nat.gcd_zero_right] at hg
    refine (sv_ret (ev_var rfl) fun H3 e3 => ?_).go
    rw [hg]
    exact k H3 ((e'.trans e2).trans e3)
theorem sc_fraction : FnScope ["above", "below", "divisor"] ["above", "below"] (defScope s_fraction) := ⟨rfl, rfl, rfl, by decide +kernel, rfl, by decide +kernel, by decide +kernel⟩
theorem ok_fraction (T : Txt K mg) : Def P w K mg base CX0 2 "fraction" ["above", "below"] (spFrac K) := by
  refine T.def_ 46 33 rfl rfl rfl rfl rfl sc_fraction (fun _ _ _ _ _ _ us hl => match us, hl with | [_, _], _ => rfl) (fun vs H Q E h => by first | (obtain ⟨_, rfl, _⟩ := h; rfl) | (obtain ⟨_, _, rfl, _⟩ := h; rfl) | (obtain ⟨_, _, _, rfl, _⟩ := h; rfl) | (obtain ⟨_, _, _, _, rfl, _⟩ := h; rfl) | (obtain ⟨_, _, _, _, _, rfl, _⟩ := h; rfl) | (obtain ⟨_, _, _, _, _, _, rfl, _⟩ := h; rfl) | (obtain ⟨_, _, _, _, _, _, _, rfl, _⟩ := h; rfl) | (obtain ⟨_, _, _, _, _, _, _, _, rfl, _⟩ := h; rfl) | (obtain ⟨_, _, _, _, _, _, _, _, _, rfl, _⟩ := h; rfl) | (obtain ⟨_, _, _, _, _, _, _, _, _, _, rfl, _⟩ := h; rfl) | (obtain ⟨_, _, _, _, _, _, _, _, _, _, _, rfl, _⟩ := h; rfl) | (obtain ⟨_, _, _, _, _, _, _, _, _, _, _, _, rfl, _⟩ := h; rfl) | (obtain ⟨_, _, _, _, _, _, _, _, _, _, _, _, _, rfl, _⟩ := h; rfl) | (obtain ⟨_, _, _, _, _, _, _, _, _, _, _, _, _, _, rfl, _⟩ := h; rfl) | (obtain ⟨_, _, _, _, _, _, _, _, _, _, _, _, _, _, _, rfl, _⟩ := h; rfl) | (obtain ⟨_, _, _, _, _, _, _, _, _, _, _, _, _, _, _, _, rfl, _⟩ := h; rfl) | (obtain ⟨_, _, _, _, _, _, _, _, _, _, _, _, _, _, _, _, _, rfl, _⟩ := h; rfl) | (obtain ⟨_, _, _, _, _, _, _, _, _, _, _, _, _, _, _, _, _, _, rfl, _⟩ := h; rfl) | (obtain ⟨_, _, _, _, _, _, _, _, _, _, _, _, _, _, _, _, _, _, _, rfl, _⟩ := h; rfl)) (fun f cdv A outer s H vs Q E hr h => ⟨_, PSs.nox (pss_cons (ps_set (i := 2) sc_fraction.nd rfl (Or.inl rfl) (pe_cd (ok_greatest_divisor T) hr pass0 (pa_cons (pe_callB call_abs (by rfl) (T.free 158 rfl) (by decide +kernel) (pa_cons (pv 0) pa_nil)) (pa_cons (pv 1) pa_nil)))) (pss_one (ps_ret (pe_tup (pa_cons (pe_op op_fdivW (pv 0) (pv 2)) (pa_cons (pe_op op_fdivW (pv 1) (pv 2)) pa_nil)))))), ?_⟩)
  obtain ⟨n, d, rfl, h0, h1, k⟩ := h
  have hg0 : 0 < Nat.gcd n.natAbs d := Nat.gcd_pos_of_pos_right _ h0
  have hgd : Nat.gcd n.natAbs d ≤ d := Nat.gcd_le_right _ h0
  obtain ⟨e1, e2⟩ := mkRat_num (n := n) h0
  have eg : CDivW n (Nat.gcd n.natAbs d : Int) ∧ CDivW (d : Int) (Nat.gcd n.natAbs d : Int) := by
    have h := wide_div (i := n) (j := (Nat.gcd n.natAbs d : Int)) (b := 8900) (by omega) (by rw [Int.natAbs_natCast]; omega) (by decide) (by decide)
    exact ⟨h, h⟩
  have ha : Ev (tCB (fun xs H Q => ∃ i, xs = [.int i] ∧ Q (.int (if i < 0 then -i else i)) H) (tCons (tVar 0) tNil)) [some (.int n), some (.int (d : Int)), none] H (.int (n.natAbs : Int)) := fun H1 e Q q =>
    ⟨.int n, rfl, n, rfl, by rw [int_abs]; exact q H1 (Ex.refl H1)⟩
  refine (sv_set (v := .int (Nat.gcd n.natAbs d : Int)) (ev_callV (ea_cons ha (ea_cons (ev_var rfl) ea_nil)) fun _ _ _ k => ⟨n.natAbs, d, rfl, k⟩) ?_).go
  refine sv_retP (newT_Tp (K := K) (evp_tup (σ := [some (.int n), some (.int (d : Int)), some (.int (Nat.gcd n.natAbs d : Int))]) (ea_cons (ev_op (ev_var rfl) (ev_var rfl) (rv_I eg.1)) (ea_cons (ev_op (ev_var rfl) (ev_var rfl) (rv_I eg.2)) ea_nil)) (by show 2 ≤ 100000; decide))) fun v H1 e h => k v H1 e ?_
  unfold FracAt fracV
  rw [e1, e2]
  exact h
theorem sc_plus : FnScope ["one", "other"] ["one", "other"] (defScope s_plus) := ⟨rfl, rfl, rfl, by decide +kernel, rfl, by decide +kernel, by decide +kernel⟩
theorem ok_plus (T : Txt K mg) : Def P w K mg base CX0 3 "plus" ["one", "other"] (spFrac2 K fun q r => q + r) := by
  refine T.def_ 47 34 rfl rfl rfl rfl rfl sc_plus (fun _ _ _ _ _ _ us hl => match us, hl with | [_, _], _ => rfl) (fun vs H Q E h => by first | (obtain ⟨_, rfl, _⟩ := h; rfl) | (obtain ⟨_, _, rfl, _⟩ := h; rfl) | (obtain ⟨_, _, _, rfl, _⟩ := h; rfl) | (obtain ⟨_, _, _, _, rfl, _⟩ := h; rfl) | (obtain ⟨_, _, _, _, _, rfl, _⟩ := h; rfl) | (obtain ⟨_, _, _, _, _, _, rfl, _⟩ := h; rfl) | (obtain ⟨_, _, _, _, _, _, _, rfl, _⟩ := h; rfl) | (obtain ⟨_, _, _, _, _, _, _, _, rfl, _⟩ := h; rfl) | (obtain ⟨_, _, _, _, _, _, _, _, _, rfl, _⟩ := h; rfl) | (obtain ⟨_, _, _, _, _, _, _, _, _, _, rfl, _⟩ := h; rfl) | (obtain ⟨_, _, _, _, _, _, _, _, _, _, _, rfl, _⟩ := h; rfl) | (obtain ⟨_, _, _, _, _, _, _, _, _, _, _, _, rfl, _⟩ := h; rfl) | (obtain ⟨_, _, _, _, _, _, _, _, _, _, _, _, _, rfl, _⟩ := h; rfl) | (obtain ⟨_, _, _, _, _, _, _, _, _, _, _, _, _, _, rfl, _⟩ := h; rfl) | (obtain ⟨_, _, _, _, _, _, _, _, _, _, _, _, _, _, _, rfl, _⟩ := h; rfl) | (obtain ⟨_, _, _, _, _, _, _, _, _, _, _, _, _, _, _, _, rfl, _⟩ := h; rfl) | (obtain ⟨_, _, _, _, _, _, _, _, _, _, _, _, _, _, _, _, _, rfl, _⟩ := h; rfl) | (obtain ⟨_, _, _, _, _, _, _, _, _, _, _, _, _, _, _, _, _, _, rfl, _⟩ := h; rfl) | (obtain ⟨_, _, _, _, _, _, _, _, _, _, _, _, _, _, _, _, _, _, _, rfl, _⟩ := h; rfl)) (fun f cdv A outer s H vs Q E hr h => ⟨_, PSs.nox (pss_one (ps_ret (pe_cd (ok_fraction T) hr pass0 (pa_cons (pe_op op_add (pe_op op_mulW (pe_ix ix_tup (pv 0) pe_int (fun _ _ => rfl)) (pe_ix ix_tup (pv 1) pe_int (fun _ _ => rfl))) (pe_op op_mulW (pe_ix ix_tup (pv 1) pe_int (fun _ _ => rfl)) (pe_ix ix_tup (pv 0) pe_int (fun _ _ => rfl)))) (pa_cons (pe_op op_mulW (pe_ix ix_tup (pv 0) pe_int (fun _ _ => rfl)) (pe_ix ix_tup (pv 1) pe_int (fun _ _ => rfl))) pa_nil))))), ?_⟩)
  obtain ⟨a, b, q, r, M, N, rfl, ha, hb, hM, hN, m0, n0, hz, k⟩ := h
  have q0 : Ev (tOp (rIxT K) (tVar 0) (tC (.int 0))) [some (.ref a), some (.ref b)] H (.int q.num) := ev_ixT (ev_var rfl) ev_c ha rfl
  have q1 : Ev (tOp (rIxT K) (tVar 0) (tC (.int 1))) [some (.ref a), some (.ref b)] H (.int (q.den : Int)) := ev_ixT (ev_var rfl) ev_c ha rfl
  have r0 : Ev (tOp (rIxT K) (tVar 1) (tC (.int 0))) [some (.ref a), some (.ref b)] H (.int r.num) := ev_ixT (ev_var rfl) ev_c hb rfl
  have r1 : Ev (tOp (rIxT K) (tVar 1) (tC (.int 1))) [some (.ref a), some (.ref b)] H (.int (r.den : Int)) := ev_ixT (ev_var rfl) ev_c hb rfl
  have dq : ((q.den : Int)).natAbs < 2 ^ M := by rw [Int.natAbs_natCast]; exact hM.2
  have dr : ((r.den : Int)).natAbs < 2 ^ N := by rw [Int.natAbs_natCast]; exact hN.2
  dsimp only at k
  rw [Rat.add_def'] at k
  refine Sv.go (sv_retP (evp_frac (ev_op (ev_op q0 r1 (rv_I (wide_mul hM.1 dr m0 n0 (by omega)))) (ev_op r0 q1 (rv_I (wide_mul hN.1 dq n0 m0 (by omega)))) rv_I0) (ev_is (ev_op q1 r1 (rv_I (wide_mul dq dr m0 n0 (by omega)))) (by simp)) (Nat.mul_pos q.den_pos r.den_pos) ?_) k)
  exact Nat.lt_of_lt_of_le (Nat.lt_of_lt_of_le (Nat.mul_lt_mul'' hM.2 hN.2) (by rw [← Nat.pow_add]; exact Nat.le_refl _)) (Nat.pow_le_pow_right (by decide) (by omega))
theorem sc_minus : FnScope ["one", "other"] ["one", "other"] (defScope s_minus) := ⟨rfl, rfl, rfl, by decide +kernel, rfl, by decide +kernel, by decide +kernel⟩
theorem ok_minus (T : Txt K mg) : Def P w K mg base CX0 3 "minus" ["one", "other"] (spFrac2 K fun q r => q - r) := by
  refine T.def_ 48 35 rfl rfl rfl rfl rfl sc_minus (fun _ _ _ _ _ _ us hl => match us, hl with | [_, _], _ => rfl) (fun vs H Q E h => by first | (obtain ⟨_, rfl, _⟩ := h; rfl) | (obtain ⟨_, _, rfl, _⟩ := h; rfl) | (obtain ⟨_, _, _, rfl, _⟩ := h; rfl) | (obtain ⟨_, _, _, _, rfl, _⟩ := h; rfl) | (obtain ⟨_, _, _, _, _, rfl, _⟩ := h; rfl) | (obtain ⟨_, _, _, _, _, _, rfl, _⟩ := h; rfl) | (obtain ⟨_, _, _, _, _, _, _, rfl, _⟩ := h; rfl) | (obtain ⟨_, _, _, _, _, _, _, _, rfl, _⟩ := h; rfl) | (obtain ⟨_, _, _, _, _, _, _, _, _, rfl, _⟩ := h; rfl) | (obtain ⟨_, _, _, _, _, _, _, _, _, _, rfl, _⟩ := h; rfl) | (obtain ⟨_, _, _, _, _, _, _, _, _, _, _, rfl, _⟩ := h; rfl) | (obtain ⟨_, _, _, _, _, _, _, _, _, _, _, _, rfl, _⟩ := h; rfl) | (obtain ⟨_, _, _, _, _, _, _, _, _, _, _, _, _, rfl, _⟩ := h; rfl) | (obtain ⟨_, _, _, _, _, _, _, _, _, _, _, _, _, _, rfl, _⟩ := h; rfl) | (obtain ⟨_, _, _, _, _, _, _, _, _, _, _, _, _, _, _, rfl, _⟩ := h; rfl) | (obtain ⟨_, _, _, _, _, _, _, _, _, _, _, _, _, _, _, _, rfl, _⟩ := h; rfl) | (obtain ⟨_, _, _, _, _, _, _, _, _, _, _, _, _, _, _, _, _, rfl, _⟩ := h; rfl) | (obtain ⟨_, _, _, _, _, _, _, _, _, _, _, _, _, _, _, _, _, _, rfl, _⟩ := h; rfl) | (obtain ⟨_, _, _, _, _, _, _, _, _, _, _, _, _, _, _, _, _, _, _, rfl, _⟩ := h; rfl)) (fun f cdv A outer s H vs Q E hr h => ⟨_, PSs.nox (pss_one (ps_ret (pe_cd (ok_fraction T) hr pass0 (pa_cons (pe_op op_sub (pe_op op_mulW (pe_ix ix_tup (pv 0) pe_int (fun _ _ => rfl)) (pe_ix ix_tup (pv 1) pe_int (fun _ _ => rfl))) (pe_op op_mulW (pe_ix ix_tup (pv 1) pe_int (fun _ _ => rfl)) (pe_ix ix_tup (pv 0) pe_int (fun _ _ => rfl)))) (pa_cons (pe_op op_mulW (pe_ix ix_tup (pv 0) pe_int (fun _ _ => rfl)) (pe_ix ix_tup (pv 1) pe_int (fun _ _ => rfl))) pa_nil))))), ?_⟩)
  obtain ⟨a, b, q, r, M, N, rfl, ha, hb, hM, hN, m0, n0, hz, k⟩ := h
  have q0 : Ev (tOp (rIxT K) (tVar 0) (tC (.int 0))) [some (.ref a), some (.ref b)] H (.int q.num) := ev_ixT (ev_var rfl) ev_c ha rfl
  have q1 : Ev (tOp (rIxT K) (tVar 0) (tC (.int 1))) [some (.ref a), some (.ref b)] H (.int (q.den : Int)) := ev_ixT (ev_var rfl) ev_c ha rfl
  have r0 : Ev (tOp (rIxT K) (tVar 1) (tC (.int 0))) [some (.ref a), some (.ref b)] H (.int r.num) := ev_ixT (ev_var rfl) ev_c hb rfl
  have r1 : Ev (tOp (rIxT K) (tVar 1) (tC (.int 1))) [some (.ref a), some (.ref b)] H (.int (r.den : Int)) := ev_ixT (ev_var rfl) ev_c hb rfl
  have dq : ((q.den : Int)).natAbs < 2 ^ M := by rw [Int.natAbs_natCast]; exact hM.2
  have dr : ((r.den : Int)).natAbs < 2 ^ N := by rw [Int.natAbs_natCast]; exact hN.2
  dsimp only at k
  rw [Rat.sub_def'] at k
  refine Sv.go (sv_retP (evp_frac (ev_op (ev_op q0 r1 (rv_I (wide_mul hM.1 dr m0 n0 (by omega)))) (ev_op r0 q1 (rv_I (wide_mul hN.1 dq n0 m0 (by omega)))) rv_I0) (ev_is (ev_op q1 r1 (rv_I (wide_mul dq dr m0 n0 (by omega)))) (by simp)) (Nat.mul_pos q.den_pos r.den_pos) ?_) k)
  exact Nat.lt_of_lt_of_le (Nat.lt_of_lt_of_le (Nat.mul_lt_mul'' hM.2 hN.2) (by rw [← Nat.pow_add]; exact Nat.le_refl _)) (Nat.pow_le_pow_right (by decide) (by omega))
theorem sc_through : FnScope ["one", "number"] ["one", "number"] (defScope s_through) := ⟨rfl, rfl, rfl, by decide +kernel, rfl, by decide +kernel, by decide +kernel⟩
theorem ok_through (T : Txt K mg) : Def P w K mg base CX0 3 "through" ["one", "number"] (spThrough K) := by
  refine T.def_ 49 36 rfl rfl rfl rfl rfl sc_through (fun _ _ _ _ _ _ us hl => match us, hl with | [_, _], _ => rfl) (fun vs H Q E h => by first | (obtain ⟨_, rfl, _⟩ := h; rfl) | (obtain ⟨_, _, rfl, _⟩ := h; rfl) | (obtain ⟨_, _, _, rfl, _⟩ := h; rfl) | (obtain ⟨_, _, _, _, rfl, _⟩ := h; rfl) | (obtain ⟨_, _, _, _, _, rfl, _⟩ := h; rfl) | (obtain ⟨_, _, _, _, _, _, rfl, _⟩ := h; rfl) | (obtain ⟨_, _, _, _, _, _, _, rfl, _⟩ := h; rfl) | (obtain ⟨_, _, _, _, _, _, _, _, rfl, _⟩ := h; rfl) | (obtain ⟨_, _, _, _, _, _, _, _, _, rfl, _⟩ := h; rfl) | (obtain ⟨_, _, _, _, _, _, _, _, _, _, rfl, _⟩ := h; rfl) | (obtain ⟨_, _, _, _, _, _, _, _, _, _, _, rfl, _⟩ := h; rfl) | (obtain ⟨_, _, _, _, _, _, _, _, _, _, _, _, rfl, _⟩ := h; rfl) | (obtain ⟨_, _, _, _, _, _, _, _, _, _, _, _, _, rfl, _⟩ := h; rfl) | (obtain ⟨_, _, _, _, _, _, _, _, _, _, _, _, _, _, rfl, _⟩ := h; rfl) | (obtain ⟨_, _, _, _, _, _, _, _, _, _, _, _, _, _, _, rfl, _⟩ := h; rfl) | (obtain ⟨_, _, _, _, _, _, _, _, _, _, _, _, _, _, _, _, rfl, _⟩ := h; rfl) | (obtain ⟨_, _, _, _, _, _, _, _, _, _, _, _, _, _, _, _, _, rfl, _⟩ := h; rfl) | (obtain ⟨_, _, _, _, _, _, _, _, _, _, _, _, _, _, _, _, _, _, rfl, _⟩ := h; rfl) | (obtain ⟨_, _, _, _, _, _, _, _, _, _, _, _, _, _, _, _, _, _, _, rfl, _⟩ := h; rfl)) (fun f cdv A outer s H vs Q E hr h => ⟨_, PSs.nox (pss_one (ps_ret (pe_cd (ok_fraction T) hr pass0 (pa_cons (pe_ix ix_tup (pv 0) pe_int (fun _ _ => rfl)) (pa_cons (pe_op op_mulW (pe_ix ix_tup (pv 0) pe_int (fun _ _ => rfl)) (pv 1)) pa_nil))))), ?_⟩)
  obtain ⟨a, q, M, n, rfl, ha, hM, m0, hz, n0, hn, k⟩ := h
  have dq : ((q.den : Int)).natAbs < 2 ^ M := by rw [Int.natAbs_natCast]; exact hM.2
  rw [← div_through] at k
  refine Sv.go (sv_retP (evp_frac (ev_ixT (ev_var rfl) ev_c ha rfl) (ev_is (ev_op (x := .int (q.den : Int)) (ev_ixT (ev_var rfl) ev_c ha rfl) (ev_var rfl) (rv_I (wide_mul dq (b := 60) (by rw [Int.natAbs_natCast]; exact hn) m0 (by decide) (by omega)))) (by simp)) (Nat.mul_pos q.den_pos n0) ?_) k)
  exact Nat.lt_of_lt_of_le (Nat.lt_of_lt_of_le (Nat.mul_lt_mul'' hM.2 hn) (by rw [← Nat.pow_add]; exact Nat.le_refl _)) (Nat.pow_le_pow_right (by decide) (by omega))
theorem sc_is_above : FnScope ["one", "other"] ["one", "other"] (defScope s_is_above) := ⟨rfl, rfl, rfl, by decide +kernel, rfl, by decide +kernel, by decide +kernel⟩
theorem ok_is_above (T : Txt K mg) : Def P w K mg base CX0 1 "is_above" ["one", "other"] (spAbove K) := by
  refine T.def_ 50 37 rfl rfl rfl rfl rfl sc_is_above (fun _ _ _ _ _ _ us hl => match us, hl with | [_, _], _ => rfl) (fun vs H Q E h => by first | (obtain ⟨_, rfl, _⟩ := h; rfl) | (obtain ⟨_, _, rfl, _⟩ := h; rfl) | (obtain ⟨_, _, _, rfl, _⟩ := h; rfl) | (obtain ⟨_, _, _, _, rfl, _⟩ := h; rfl) | (obtain ⟨_, _, _, _, _, rfl, _⟩ := h; rfl) | (obtain ⟨_, _, _, _, _, _, rfl, _⟩ := h; rfl) | (obtain ⟨_, _, _, _, _, _, _, rfl, _⟩ := h; rfl) | (obtain ⟨_, _, _, _, _, _, _, _, rfl, _⟩ := h; rfl) | (obtain ⟨_, _, _, _, _, _, _, _, _, rfl, _⟩ := h; rfl) | (obtain ⟨_, _, _, _, _, _, _, _, _, _, rfl, _⟩ := h; rfl) | (obtain ⟨_, _, _, _, _, _, _, _, _, _, _, rfl, _⟩ := h; rfl) | (obtain ⟨_, _, _, _, _, _, _, _, _, _, _, _, rfl, _⟩ := h; rfl) | (obtain ⟨_, _, _, _, _, _, _, _, _, _, _, _, _, rfl, _⟩ := h; rfl) | (obtain ⟨_, _, _, _, _, _, _, _, _, _, _, _, _, _, rfl, _⟩ := h; rfl) | (obtain ⟨_, _, _, _, _, _, _, _, _, _, _, _, _, _, _, rfl, _⟩ := h; rfl) | (obtain ⟨_, _, _, _, _, _, _, _, _, _, _, _, _, _, _, _, rfl, _⟩ := h; rfl) | (obtain ⟨_, _, _, _, _, _, _, _, _, _, _, _, _, _, _, _, _, rfl, _⟩ := h; rfl) | (obtain ⟨_, _, _, _, _, _, _, _, _, _, _, _, _, _, _, _, _, _, rfl, _⟩ := h; rfl) | (obtain ⟨_, _, _, _, _, _, _, _, _, _, _, _, _, _, _, _, _, _, _, rfl, _⟩ := h; rfl)) (fun f cdv A outer s H vs Q E hr h => ⟨_, PSs.nox (pss_one (ps_ret (pe_cmpR op_gt (pe_op op_mulW (pe_ix ix_tup (pv 0) pe_int (fun _ _ => rfl)) (pe_ix ix_tup (pv 1) pe_int (fun _ _ => rfl))) (pe_op op_mulW (pe_ix ix_tup (pv 1) pe_int (fun _ _ => rfl)) (pe_ix ix_tup (pv 0) pe_int (fun _ _ => rfl))) (nomark _)))), ?_⟩)
  obtain ⟨a, b, q, r, M, N, rfl, ha, hb, hM, hN, m0, n0, hz, k⟩ := h
  have dq : ((q.den : Int)).natAbs < 2 ^ M := by rw [Int.natAbs_natCast]; exact hM.2
  have dr : ((r.den : Int)).natAbs < 2 ^ N := by rw [Int.natAbs_natCast]; exact hN.2
  refine Sv.go (sv_ret (v := .bl (decide (r < q))) (ev_is (ev_op (ev_op (ev_ixT (ev_var rfl) ev_c ha rfl) (ev_ixT (ev_var rfl) ev_c hb rfl) (rv_I (wide_mul hM.1 dr m0 n0 (by omega)))) (ev_op (ev_ixT (ev_var rfl) ev_c hb rfl) (ev_ixT (ev_var rfl) ev_c ha rfl) (rv_I (wide_mul hN.1 dq n0 m0 (by omega)))) rv_I0) ?_) k)
  congr 1
  rw [Bool.eq_iff_iff]
  simp only [decide_eq_true_eq]
  rw [Rat.lt_iff]
end
end Trav
namespace Trav
open LsRun (Leg)
open LsGeo (Pt)
/-! ## legs, runs: how they stand in the heap -/
def legF (g : Leg) : List (Str × V) := [("point", .int (g.to_ : Int)), ("east", .int g.dx), ("north", .int g.dy), ("length", .int (g.long : Int))]
def LegAt (K : PySem.W.Frag) (g : Leg) : V → Hp → Prop := fun v H => ∃ a dx, v = .ref a ∧ H a = some (.ins (He.ga K "Leg") dx (legF g))
def runF (b e : Nat) (l : Addr) : List (Str × V) := [("begin", .int (b : Int)), ("goal", .int (e : Int)), ("legs", .ref l)]
def RunAt (K : PySem.W.Frag) (r : RunBook.Run) : V → Hp → Prop := fun v H => ∃ a dx l vs, v = .ref a ∧ H a = some (.ins (He.ga K "Run") dx (runF r.from_ r.to_ l)) ∧ H l = some (.lst vs) ∧ Each (r.legs.map (LegAt K)) vs H
theorem stay_LegAt {K : PySem.W.Frag} (g : Leg) : Stay (LegAt K g) := fun _ _ _ e ⟨a, dx, ev, h⟩ => ⟨a, dx, ev, e a _ h⟩
theorem stay_RunAt {K : PySem.W.Frag} (r : RunBook.Run) : Stay (RunAt K r) := fun _ _ _ e ⟨a, dx, l, vs, ev, h, hl, hv⟩ => ⟨a, dx, l, vs, ev, e a _ h, e l _ hl, each_stay (stay_map stay_LegAt) _ _ _ e hv⟩
/-- small enough -/
structure SmL (g : Leg) : Prop where
  x : g.dx.natAbs ≤ 99999
  y : g.dy.natAbs ≤ 99999
  l0 : 1 ≤ g.long
  l1 : g.long ≤ 999999
  xy : ¬(g.dx = 0 ∧ g.dy = 0)
structure SmR (r : RunBook.Run) : Prop where
  n : r.legs.length ≤ 24
  l : ∀ g ∈ r.legs, SmL g
structure SmP (p : Pt) : Prop where
  x0 : 0 ≤ p.x
  x1 : p.x ≤ 999999
  y0 : 0 ≤ p.y
  y1 : p.y ≤ 999999
/-- a known point -/
def KnAt (K : PySem.W.Frag) (b : V) (n : Nat) (p : Pt) (H : Hp) : Prop := ∃ a dx d l kvs t, b = .ref a ∧ H a = some (.ins (He.ga K "Book") dx [("known", .ref d), ("runs", .ref l)]) ∧ H d = some (.dK kvs) ∧ valV kvs (.inl (n : Int)) = some (.ref t) ∧ SqT K H t [.int p.x, .int p.y]
theorem KnAt.mono {K : PySem.W.Frag} {b : V} {n : Nat} {p : Pt} {H H' : Hp} (e : Ex H H') : KnAt K b n p H → KnAt K b n p H' := fun ⟨a, dx, d, l, kvs, t, h0, h1, h2, h3, h4⟩ => ⟨a, dx, d, l, kvs, t, h0, e _ _ h1, e _ _ h2, h3, ex_t e h4⟩
section
variable {K : PySem.W.Frag} {mg : Str → Option Value} {σ : L2.St} {H : Hp} {ta te : TE} {v : V} {g : Leg}
theorem ev_leg1 (T : Txt K mg) (h : Ev ta σ H v) (hl : LegAt K g v H) : Ev (tFld K ta "point") σ H (.int (g.to_ : Int)) := by
  obtain ⟨a, dx, rfl, h1⟩ := hl
  exact ev_fld h h1 (T.cls 169 rfl) (T.noat 174 rfl) rfl
theorem ev_leg2 (T : Txt K mg) (h : Ev ta σ H v) (hl : LegAt K g v H) : Ev (tFld K ta "east") σ H (.int g.dx) := by
  obtain ⟨a, dx, rfl, h1⟩ := hl
  exact ev_fld h h1 (T.cls 169 rfl) (T.noat 171 rfl) rfl
theorem ev_leg3 (T : Txt K mg) (h : Ev ta σ H v) (hl : LegAt K g v H) : Ev (tFld K ta "north") σ H (.int g.dy) := by
  obtain ⟨a, dx, rfl, h1⟩ := hl
  exact ev_fld h h1 (T.cls 169 rfl) (T.noat 173 rfl) rfl
theorem ev_leg4 (T : Txt K mg) (h : Ev ta σ H v) (hl : LegAt K g v H) : Ev (tFld K ta "length") σ H (.int (g.long : Int)) := by
  obtain ⟨a, dx, rfl, h1⟩ := hl
  exact ev_fld h h1 (T.cls 169 rfl) (T.noat 172 rfl) rfl
theorem ev_run1 (T : Txt K mg) {a dx l : Addr} {b e : Nat} (h : Ev ta σ H (.ref a)) (h1 : H a = some (.ins (He.ga K "Run") dx (runF b e l))) : Ev (tFld K ta "begin") σ H (.int (b : Int)) := ev_fld h h1 (T.cls 175 rfl) (T.noat 177 rfl) rfl
theorem ev_run2 (T : Txt K mg) {a dx l : Addr} {b e : Nat} (h : Ev ta σ H (.ref a)) (h1 : H a = some (.ins (He.ga K "Run") dx (runF b e l))) : Ev (tFld K ta "goal") σ H (.int (e : Int)) := ev_fld h h1 (T.cls 175 rfl) (T.noat 178 rfl) rfl
theorem ev_run3 (T : Txt K mg) {a dx l : Addr} {b e : Nat} (h : Ev ta σ H (.ref a)) (h1 : H a = some (.ins (He.ga K "Run") dx (runF b e l))) : Ev (tFld K ta "legs") σ H (.ref l) := ev_fld h h1 (T.cls 175 rfl) (T.noat 179 rfl) rfl
theorem ev_book1 (T : Txt K mg) {a dx d l : Addr} (h : Ev ta σ H (.ref a)) (h1 : H a = some (.ins (He.ga K "Book") dx [("known", .ref d), ("runs", .ref l)])) : Ev (tFld K ta "known") σ H (.ref d) := ev_fld h h1 (T.cls 180 rfl) (T.noat 182 rfl) rfl
theorem ev_book2 (T : Txt K mg) {a dx d l : Addr} (h : Ev ta σ H (.ref a)) (h1 : H a = some (.ins (He.ga K "Book") dx [("known", .ref d), ("runs", .ref l)])) : Ev (tFld K ta "runs") σ H (.ref l) := ev_fld h h1 (T.cls 180 rfl) (T.noat 183 rfl) rfl
theorem evp_known (T : Txt K mg) {tb : TE} {n : Nat} {p : Pt} (ha : Ev ta σ H v) (hb : Ev tb σ H (.int (n : Int))) (hk : KnAt K v n p H) : EvP (tDGet (tFld K ta "known") tb) σ H (Tp K [.int p.x, .int p.y]) := by
  obtain ⟨a, dx, d, l, kvs, t, rfl, h1, h2, h3, h4⟩ := hk
  exact ev_Tp (evp_dget (k := .inl (n : Int)) (ev_book1 T ha h1) hb h2 h3) h4
/-- sum([leg.f for leg in run.legs]) -/
theorem ev_sumLegs {j : Nat} {vs : List Nat} {l : Addr} {xs : List V} {L : List Leg} (f : Leg → Int) (hl : Ev ta σ H (.ref l)) (hx : H l = some (.lst xs)) (hE : Each (L.map (LegAt K)) xs H) (hn : L.length ≤ 24)
    (hw : ∀ x, wipe ((wipe σ vs).set j (some x)) vs = wipe σ vs) (he : ∀ g x, LegAt K g x H → Ev te ((wipe σ vs).set j (some x)) H (.int (f g))) :
    Ev (tCB (rSum K) (tCons (tLc (iList K ta) (gName j) tYes te vs) tNil)) σ H (.int (L.map f).sum) :=
  ev_sumP (evp_mapE (f := fun g => .int (f g)) hl (sq_of hx) hE (by omega) hw fun g x _ h => he g x h) (by rw [List.map_map]; rfl)
end
theorem sum_total : ∀ (L : List Leg), (L.map fun g => (g.long : Int)).sum = (LsRun.total L : Int)
  | [] => rfl
  | g :: L => by
    have h := sum_total L
    show (g.long : Int) + (L.map fun g => (g.long : Int)).sum = ((g.long + LsRun.total L : Nat) : Int)
    rw [h]
    omega
theorem sum_int : ∀ (L : List Int), L.sum = LsRun.sumInt L
  | [] => rfl
  | g :: L => by
    show g + L.sum = g + LsRun.sumInt L
    rw [sum_int L]
theorem total_le : ∀ (L : List Leg), (∀ g ∈ L, SmL g) → L.length ≤ LsRun.total L ∧ LsRun.total L ≤ L.length * 999999
  | [], _ => by decide
  | g :: L, h => by
    have h1 := total_le L fun g hg => h g (List.mem_cons_of_mem _ hg)
    have h2 := h g (List.mem_cons_self ..)
    have h3 := h2.l0
    have h4 := h2.l1
    show L.length + 1 ≤ g.long + LsRun.total L ∧ g.long + LsRun.total L ≤ (L.length + 1) * 999999
    omega
theorem sumInt_le (f : Leg → Int) : ∀ (L : List Leg), (∀ g ∈ L, (f g).natAbs ≤ 99999) → (LsRun.sumInt (L.map f)).natAbs ≤ L.length * 99999
  | [], _ => Nat.le_refl 0
  | g :: L, h => by
    have h1 := sumInt_le f L fun g hg => h g (List.mem_cons_of_mem _ hg)
    have h2 := h g (List.mem_cons_self ..)
    show (f g + LsRun.sumInt (L.map f)).natAbs ≤ (L.length + 1) * 99999
    omega
/-- the miss is small -/
structure SmM (m : Int × Int) : Prop where
  x : m.1.natAbs ≤ 3400000
  y : m.2.natAbs ≤ 3400000
theorem smM {a b : Pt} {r : RunBook.Run} (ha : SmP a) (hb : SmP b) (hr : SmR r) : SmM (LsRun.miss a b r.legs) := by
  have h1 := sumInt_le (fun g => g.dx) r.legs fun g hg => (hr.l g hg).x
  have h2 := sumInt_le (fun g => g.dy) r.legs fun g hg => (hr.l g hg).y
  have hn := hr.n
  obtain ⟨a1, a2, a3, a4⟩ := ha
  obtain ⟨b1, b2, b3, b4⟩ := hb
  constructor
  · show (b.x - a.x - LsRun.sumInt (r.legs.map fun g => g.dx)).natAbs ≤ 3400000
    omega
  · show (b.y - a.y - LsRun.sumInt (r.legs.map fun g => g.dy)).natAbs ≤ 3400000
    omega
/-! ## the promises -/
def TpI (K : PySem.W.Frag) (p : Int × Int) : V → Hp → Prop := Tp K [.int p.1, .int p.2]
def spTotal (K : PySem.W.Frag) : Sp := fun vs H Q _ => ∃ (v : V) (r : RunBook.Run), vs = [v] ∧ RunAt K r v H ∧ SmR r ∧ RetV (.int (LsRun.total r.legs : Int)) H Q
def spMiss (K : PySem.W.Frag) : Sp := fun vs H Q _ => ∃ (b v : V) (r : RunBook.Run) (p q : Pt), vs = [b, v] ∧ RunAt K r v H ∧ SmR r ∧ KnAt K b r.from_ p H ∧ KnAt K b r.to_ q H ∧ Ret (TpI K (LsRun.miss p q r.legs)) H Q
def spSquare (K : PySem.W.Frag) : Sp := fun vs H Q _ => ∃ (a : Addr) (m : Int × Int), vs = [.ref a] ∧ SqT K H a [.int m.1, .int m.2] ∧ m.1.natAbs < 2 ^ 100 ∧ m.2.natAbs < 2 ^ 100 ∧ RetV (.int (LsRun.square m)) H Q
/-- a leg with its share, times the sum of the lengths -/
def shI (m : Int × Int) (t : Nat) (g : Leg) : Int × Int := (g.dx * (t : Int) + m.1 * (g.long : Int), g.dy * (t : Int) + m.2 * (g.long : Int))
def spShared (K : PySem.W.Frag) : Sp := fun vs H Q _ => ∃ (v u : V) (a : Addr) (r : RunBook.Run) (g : Leg) (m : Int × Int), vs = [v, .ref a, u] ∧ RunAt K r v H ∧ SmR r ∧ LegAt K g u H ∧ SmL g ∧ SqT K H a [.int m.1, .int m.2] ∧ SmM m ∧ Ret (TpI K (shI m (LsRun.total r.legs) g)) H Q
def plus2 (p q : Int × Int) : Int × Int := (p.1 + q.1, p.2 + q.2)
def plI (m : Int × Int) (t : Nat) : Int × Int → List Leg → List (Int × Int)
  | p, [] => [p]
  | p, g :: r => p :: plI m t (plus2 p (shI m t g)) r
def placesI (a b : Pt) (L : List Leg) : List (Int × Int) := plI (LsRun.miss a b L) (LsRun.total L) (a.x * (LsRun.total L : Int), a.y * (LsRun.total L : Int)) L
def spPlaces (K : PySem.W.Frag) : Sp := fun vs H Q _ => ∃ (b v : V) (r : RunBook.Run) (p q : Pt), vs = [b, v] ∧ RunAt K r v H ∧ SmR r ∧ KnAt K b r.from_ p H ∧ KnAt K b r.to_ q H ∧ SmP p ∧ SmP q ∧ Ret (LstOf ((placesI p q r.legs).map (TpI K))) H Q
def noI (o : Option Nat) : Int := match o with
  | some i => (i : Int)
  | none => -1
def spTurn (K : PySem.W.Frag) : Sp := fun vs H Q _ => ∃ (v : V) (r : RunBook.Run) (n : Nat), vs = [v, .int (n : Int)] ∧ RunAt K r v H ∧ SmR r ∧ RetV (.int (noI (TravSpec.placeNo r n))) H Q
theorem lt100 {n k : Nat} (h : n ≤ k) (hk : k < 2 ^ 60 := by decide) : n < 2 ^ 100 := by omega
section
variable {P : Program} {w : World} {K : PySem.W.Frag} {mg : Str → Option Value} {base : Heap}
theorem sc_lengths_together : FnScope ["run", "leg"] ["run"] (defScope s_lengths_together) := ⟨rfl, rfl, rfl, by decide +kernel, rfl, by decide +kernel, by decide +kernel⟩
theorem ok_lengths_together (T : Txt K mg) : Def P w K mg base CX0 1 "lengths_together" ["run"] (spTotal K) := by
  refine T.def_ 51 38 rfl rfl rfl rfl rfl sc_lengths_together (fun _ _ _ _ _ _ us hl => match us, hl with | [_], _ => rfl) (fun vs H Q E h => by first | (obtain ⟨_, rfl, _⟩ := h; rfl) | (obtain ⟨_, _, rfl, _⟩ := h; rfl) | (obtain ⟨_, _, _, rfl, _⟩ := h; rfl) | (obtain ⟨_, _, _, _, rfl, _⟩ := h; rfl) | (obtain ⟨_, _, _, _, _, rfl, _⟩ := h; rfl) | (obtain ⟨_, _, _, _, _, _, rfl, _⟩ := h; rfl) | (obtain ⟨_, _, _, _, _, _, _, rfl, _⟩ := h; rfl) | (obtain ⟨_, _, _, _, _, _, _, _, rfl, _⟩ := h; rfl) | (obtain ⟨_, _, _, _, _, _, _, _, _, rfl, _⟩ := h; rfl) | (obtain ⟨_, _, _, _, _, _, _, _, _, _, rfl, _⟩ := h; rfl) | (obtain ⟨_, _, _, _, _, _, _, _, _, _, _, rfl, _⟩ := h; rfl) | (obtain ⟨_, _, _, _, _, _, _, _, _, _, _, _, rfl, _⟩ := h; rfl) | (obtain ⟨_, _, _, _, _, _, _, _, _, _, _, _, _, rfl, _⟩ := h; rfl) | (obtain ⟨_, _, _, _, _, _, _, _, _, _, _, _, _, _, rfl, _⟩ := h; rfl) | (obtain ⟨_, _, _, _, _, _, _, _, _, _, _, _, _, _, _, rfl, _⟩ := h; rfl) | (obtain ⟨_, _, _, _, _, _, _, _, _, _, _, _, _, _, _, _, rfl, _⟩ := h; rfl) | (obtain ⟨_, _, _, _, _, _, _, _, _, _, _, _, _, _, _, _, _, rfl, _⟩ := h; rfl) | (obtain ⟨_, _, _, _, _, _, _, _, _, _, _, _, _, _, _, _, _, _, rfl, _⟩ := h; rfl) | (obtain ⟨_, _, _, _, _, _, _, _, _, _, _, _, _, _, _, _, _, _, _, rfl, _⟩ := h; rfl)) (fun f cdv A outer s H vs Q E hr h => ⟨_, PSs.nox (pss_one (ps_ret (pe_callB (cr_sum rfl) (by rfl) (T.free 167 rfl) (by decide +kernel) (pa_cons (pe_lc (own := [("leg", 1)]) (g := gName 1) (tt := tYes) (te := (tFld K (tVar 1) "length")) rfl sc_lengths_together.nd (pi_list (pe_fld (pv 0) rfl)) (blkOk_by (own := [("leg", 1)]) (N := ["run", "leg"]) (sc := defScope s_lengths_together) (by decide +kernel)) (fun _ _ _ _ _ => pg_name (i := 1) sc_lengths_together.nd rfl (Or.inl rfl)) (fun _ _ _ _ _ => pts_nil) (fun _ _ _ _ _ => by exact (pe_fld (pv 1) rfl))) pa_nil)))), ?_⟩)
  obtain ⟨v, r, rfl, ⟨a, dx, l, vs, rfl, hr, hl, hv⟩, hs, k⟩ := h
  refine Sv.go (sv_ret (ev_is (ev_sumLegs (fun g => (g.long : Int)) (ev_run3 T (ev_var rfl) hr) hl hv hs.n (fun x => rfl) fun g x hx => ev_leg4 T (ev_var rfl) hx) ?_) k)
  rw [sum_total]
theorem sc_miss_of : FnScope ["book", "run", "begin_east", "begin_north", "goal_east", "goal_north", "east", "north", "leg"] ["book", "run"] (defScope s_miss_of) := ⟨rfl, rfl, rfl, by decide +kernel, rfl, by decide +kernel, by decide +kernel⟩
theorem ok_miss_of (T : Txt K mg) : Def P w K mg base CX0 1 "miss_of" ["book", "run"] (spMiss K) := by
  refine T.def_ 52 39 rfl rfl rfl rfl rfl sc_miss_of (fun _ _ _ _ _ _ us hl => match us, hl with | [_, _], _ => rfl) (fun vs H Q E h => by first | (obtain ⟨_, rfl, _⟩ := h; rfl) | (obtain ⟨_, _, rfl, _⟩ := h; rfl) | (obtain ⟨_, _, _, rfl, _⟩ := h; rfl) | (obtain ⟨_, _, _, _, rfl, _⟩ := h; rfl) | (obtain ⟨_, _, _, _, _, rfl, _⟩ := h; rfl) | (obtain ⟨_, _, _, _, _, _, rfl, _⟩ := h; rfl) | (obtain ⟨_, _, _, _, _, _, _, rfl, _⟩ := h; rfl) | (obtain ⟨_, _, _, _, _, _, _, _, rfl, _⟩ := h; rfl) | (obtain ⟨_, _, _, _, _, _, _, _, _, rfl, _⟩ := h; rfl) | (obtain ⟨_, _, _, _, _, _, _, _, _, _, rfl, _⟩ := h; rfl) | (obtain ⟨_, _, _, _, _, _, _, _, _, _, _, rfl, _⟩ := h; rfl) | (obtain ⟨_, _, _, _, _, _, _, _, _, _, _, _, rfl, _⟩ := h; rfl) | (obtain ⟨_, _, _, _, _, _, _, _, _, _, _, _, _, rfl, _⟩ := h; rfl) | (obtain ⟨_, _, _, _, _, _, _, _, _, _, _, _, _, _, rfl, _⟩ := h; rfl) | (obtain ⟨_, _, _, _, _, _, _, _, _, _, _, _, _, _, _, rfl, _⟩ := h; rfl) | (obtain ⟨_, _, _, _, _, _, _, _, _, _, _, _, _, _, _, _, rfl, _⟩ := h; rfl) | (obtain ⟨_, _, _, _, _, _, _, _, _, _, _, _, _, _, _, _, _, rfl, _⟩ := h; rfl) | (obtain ⟨_, _, _, _, _, _, _, _, _, _, _, _, _, _, _, _, _, _, rfl, _⟩ := h; rfl) | (obtain ⟨_, _, _, _, _, _, _, _, _, _, _, _, _, _, _, _, _, _, _, rfl, _⟩ := h; rfl)) (fun f cdv A outer s H vs Q E hr h => ⟨_, PSs.nox (pss_cons (ps_asg (pe_dget (hu_of hr) (pe_fld (pv 0) rfl) (pe_fld (pv 1) rfl) (fun _ _ => rfl)) (pg_tup rfl (pgs_cons (pg_name (i := 2) sc_miss_of.nd rfl (Or.inl rfl)) (pgs_cons (pg_name (i := 3) sc_miss_of.nd rfl (Or.inl rfl)) pgs_nil)))) (pss_cons (ps_asg (pe_dget (hu_of hr) (pe_fld (pv 0) rfl) (pe_fld (pv 1) rfl) (fun _ _ => rfl)) (pg_tup rfl (pgs_cons (pg_name (i := 4) sc_miss_of.nd rfl (Or.inl rfl)) (pgs_cons (pg_name (i := 5) sc_miss_of.nd rfl (Or.inl rfl)) pgs_nil)))) (pss_cons (ps_set (i := 6) sc_miss_of.nd rfl (Or.inl rfl) (pe_op op_sub (pe_op op_sub (pv 4) (pv 2)) (pe_callB (cr_sum rfl) (by rfl) (T.free 167 rfl) (by decide +kernel) (pa_cons (pe_lc (own := [("leg", 8)]) (g := gName 8) (tt := tYes) (te := (tFld K (tVar 8) "east")) rfl sc_miss_of.nd (pi_list (pe_fld (pv 1) rfl)) (blkOk_by (own := [("leg", 8)]) (N := ["book", "run", "begin_east", "begin_north", "goal_east", "goal_north", "east", "north", "leg"]) (sc := defScope s_miss_of) (by decide +kernel)) (fun _ _ _ _ _ => pg_name (i := 8) sc_miss_of.nd rfl (Or.inl rfl)) (fun _ _ _ _ _ => pts_nil) (fun _ _ _ _ _ => by exact (pe_fld (pv 8) rfl))) pa_nil)))) (pss_cons (ps_set (i := 7) sc_miss_of.nd rfl (Or.inl rfl) (pe_op op_sub (pe_op op_sub (pv 5) (pv 3)) (pe_callB (cr_sum rfl) (by rfl) (T.free 167 rfl) (by decide +kernel) (pa_cons (pe_lc (own := [("leg", 8)]) (g := gName 8) (tt := tYes) (te := (tFld K (tVar 8) "north")) rfl sc_miss_of.nd (pi_list (pe_fld (pv 1) rfl)) (blkOk_by (own := [("leg", 8)]) (N := ["book", "run", "begin_east", "begin_north", "goal_east", "goal_north", "east", "north", "leg"]) (sc := defScope s_miss_of) (by decide +kernel)) (fun _ _ _ _ _ => pg_name (i := 8) sc_miss_of.nd rfl (Or.inl rfl)) (fun _ _ _ _ _ => pts_nil) (fun _ _ _ _ _ => by exact (pe_fld (pv 8) rfl))) pa_nil)))) (pss_one (ps_ret (pe_tup (pa_cons (pv 6) (pa_cons (pv 7) pa_nil))))))))), ?_⟩)
  obtain ⟨b, v, r, p, q, rfl, hR, hs, hp, hq, k⟩ := h
  obtain ⟨a, dx, l, vs, rfl, hr, hl, hv⟩ := hR
  refine (sv_unp2 (evp_known T (ev_var rfl) (ev_run1 T (ev_var rfl) hr) hp) ?_).go
  refine sv_unp2 (evp_known T (ev_var rfl) (ev_run2 T (ev_var rfl) hr) hq) ?_
  refine sv_set (ev_sub (ev_sub (ev_var rfl) (ev_var rfl)) (ev_sumLegs (fun g => g.dx) (ev_run3 T (ev_var rfl) hr) hl hv hs.n (fun x => rfl) fun g x hx => ev_leg2 T (ev_var rfl) hx)) ?_
  refine sv_set (ev_sub (ev_sub (ev_var rfl) (ev_var rfl)) (ev_sumLegs (fun g => g.dy) (ev_run3 T (ev_var rfl) hr) hl hv hs.n (fun x => rfl) fun g x hx => ev_leg3 T (ev_var rfl) hx)) ?_
  refine sv_retP (newT_Tp (K := K) (evp_tup (ea_cons (ev_var rfl) (ea_cons (ev_var rfl) ea_nil)) (by show 2 ≤ 100000; decide))) fun v H1 e h => k v H1 e ?_
  rw [sum_int, sum_int] at h
  exact h
theorem sc_square : FnScope ["pair", "east", "north"] ["pair"] (defScope s_square) := ⟨rfl, rfl, rfl, by decide +kernel, rfl, by decide +kernel, by decide +kernel⟩
theorem ok_square (T : Txt K mg) : Def P w K mg base CX0 1 "square" ["pair"] (spSquare K) := by
  refine T.def_ 53 40 rfl rfl rfl rfl rfl sc_square (fun _ _ _ _ _ _ us hl => match us, hl with | [_], _ => rfl) (fun vs H Q E h => by first | (obtain ⟨_, rfl, _⟩ := h; rfl) | (obtain ⟨_, _, rfl, _⟩ := h; rfl) | (obtain ⟨_, _, _, rfl, _⟩ := h; rfl) | (obtain ⟨_, _, _, _, rfl, _⟩ := h; rfl) | (obtain ⟨_, _, _, _, _, rfl, _⟩ := h; rfl) | (obtain ⟨_, _, _, _, _, _, rfl, _⟩ := h; rfl) | (obtain ⟨_, _, _, _, _, _, _, rfl, _⟩ := h; rfl) | (obtain ⟨_, _, _, _, _, _, _, _, rfl, _⟩ := h; rfl) | (obtain ⟨_, _, _, _, _, _, _, _, _, rfl, _⟩ := h; rfl) | (obtain ⟨_, _, _, _, _, _, _, _, _, _, rfl, _⟩ := h; rfl) | (obtain ⟨_, _, _, _, _, _, _, _, _, _, _, rfl, _⟩ := h; rfl) | (obtain ⟨_, _, _, _, _, _, _, _, _, _, _, _, rfl, _⟩ := h; rfl) | (obtain ⟨_, _, _, _, _, _, _, _, _, _, _, _, _, rfl, _⟩ := h; rfl) | (obtain ⟨_, _, _, _, _, _, _, _, _, _, _, _, _, _, rfl, _⟩ := h; rfl) | (obtain ⟨_, _, _, _, _, _, _, _, _, _, _, _, _, _, _, rfl, _⟩ := h; rfl) | (obtain ⟨_, _, _, _, _, _, _, _, _, _, _, _, _, _, _, _, rfl, _⟩ := h; rfl) | (obtain ⟨_, _, _, _, _, _, _, _, _, _, _, _, _, _, _, _, _, rfl, _⟩ := h; rfl) | (obtain ⟨_, _, _, _, _, _, _, _, _, _, _, _, _, _, _, _, _, _, rfl, _⟩ := h; rfl) | (obtain ⟨_, _, _, _, _, _, _, _, _, _, _, _, _, _, _, _, _, _, _, rfl, _⟩ := h; rfl)) (fun f cdv A outer s H vs Q E hr h => ⟨_, PSs.nox (pss_cons (ps_asg (pv 0) (pg_tup rfl (pgs_cons (pg_name (i := 1) sc_square.nd rfl (Or.inl rfl)) (pgs_cons (pg_name (i := 2) sc_square.nd rfl (Or.inl rfl)) pgs_nil)))) (pss_one (ps_ret (pe_op op_add (pe_op op_mulW (pv 1) (pv 1)) (pe_op op_mulW (pv 2) (pv 2)))))), ?_⟩)
  obtain ⟨a, m, rfl, ha, hx, hy, k⟩ := h
  refine (sv_unp2 (ev_Tp (ev_var rfl) ha) ?_).go
  exact sv_ret (ev_add (ev_mul (ev_var rfl) (ev_var rfl) hx hx) (ev_mul (ev_var rfl) (ev_var rfl) hy hy)) k
theorem sc_shared_leg : FnScope ["run", "miss", "leg", "whole"] ["run", "miss", "leg"] (defScope s_shared_leg) := ⟨rfl, rfl, rfl, by decide +kernel, rfl, by decide +kernel, by decide +kernel⟩
theorem ok_shared_leg (T : Txt K mg) : Def P w K mg base CX0 2 "shared_leg" ["run", "miss", "leg"] (spShared K) := by
  refine T.def_ 54 41 rfl rfl rfl rfl rfl sc_shared_leg (fun _ _ _ _ _ _ us hl => match us, hl with | [_, _, _], _ => rfl) (fun vs H Q E h => by first | (obtain ⟨_, rfl, _⟩ := h; rfl) | (obtain ⟨_, _, rfl, _⟩ := h; rfl) | (obtain ⟨_, _, _, rfl, _⟩ := h; rfl) | (obtain ⟨_, _, _, _, rfl, _⟩ := h; rfl) | (obtain ⟨_, _, _, _, _, rfl, _⟩ := h; rfl) | (obtain ⟨_, _, _, _, _, _, rfl, _⟩ := h; rfl) | (obtain ⟨_, _, _, _, _, _, _, rfl, _⟩ := h; rfl) | (obtain ⟨_, _, _, _, _, _, _, _, rfl, _⟩ := h; rfl) | (obtain ⟨_, _, _, _, _, _, _, _, _, rfl, _⟩ := h; rfl) | (obtain ⟨_, _, _, _, _, _, _, _, _, _, rfl, _⟩ := h; rfl) | (obtain ⟨_, _, _, _, _, _, _, _, _, _, _, rfl, _⟩ := h; rfl) | (obtain ⟨_, _, _, _, _, _, _, _, _, _, _, _, rfl, _⟩ := h; rfl) | (obtain ⟨_, _, _, _, _, _, _, _, _, _, _, _, _, rfl, _⟩ := h; rfl) | (obtain ⟨_, _, _, _, _, _, _, _, _, _, _, _, _, _, rfl, _⟩ := h; rfl) | (obtain ⟨_, _, _, _, _, _, _, _, _, _, _, _, _, _, _, rfl, _⟩ := h; rfl) | (obtain ⟨_, _, _, _, _, _, _, _, _, _, _, _, _, _, _, _, rfl, _⟩ := h; rfl) | (obtain ⟨_, _, _, _, _, _, _, _, _, _, _, _, _, _, _, _, _, rfl, _⟩ := h; rfl) | (obtain ⟨_, _, _, _, _, _, _, _, _, _, _, _, _, _, _, _, _, _, rfl, _⟩ := h; rfl) | (obtain ⟨_, _, _, _, _, _, _, _, _, _, _, _, _, _, _, _, _, _, _, rfl, _⟩ := h; rfl)) (fun f cdv A outer s H vs Q E hr h => ⟨_, PSs.nox (pss_cons (ps_set (i := 3) sc_shared_leg.nd rfl (Or.inl rfl) (pe_cd (ok_lengths_together T) hr pass0 (pa_cons (pv 0) pa_nil))) (pss_one (ps_ret (pe_tup (pa_cons (pe_op op_add (pe_op op_mulW (pe_fld (pv 2) rfl) (pv 3)) (pe_op op_mulW (pe_ix ix_tup (pv 1) pe_int (fun _ _ => rfl)) (pe_fld (pv 2) rfl))) (pa_cons (pe_op op_add (pe_op op_mulW (pe_fld (pv 2) rfl) (pv 3)) (pe_op op_mulW (pe_ix ix_tup (pv 1) pe_int (fun _ _ => rfl)) (pe_fld (pv 2) rfl))) pa_nil)))))), ?_⟩)
  obtain ⟨v, u, a, r, g, m, rfl, hR, hs, hg, hsg, ha, hm, k⟩ := h
  refine (sv_set (v := .int (LsRun.total r.legs : Int)) (ev_callV (ea_cons (ev_var rfl) ea_nil) fun H1 e Q k => ⟨v, r, rfl, stay_RunAt r _ _ _ e hR, hs, k⟩) ?_).go
  have ht := (total_le r.legs hs.l).2
  have hn := hs.n
  have h1 := hsg.x
  have h2 := hsg.y
  have h3 := hsg.l1
  have h4 := hm.x
  have h5 := hm.y
  refine sv_retP (newT_Tp (K := K) (evp_tup (ea_cons (ev_add (ev_mul (ev_leg2 T (ev_var rfl) hg) (ev_var rfl) (by omega) (by omega)) (ev_mul (ev_ixT0 (i := 0) (ev_var rfl) ev_c ha rfl) (ev_leg4 T (ev_var rfl) hg) (by omega) (by omega)))
    (ea_cons (ev_add (ev_mul (ev_leg3 T (ev_var rfl) hg) (ev_var rfl) (by omega) (by omega)) (ev_mul (ev_ixT0 (i := 1) (ev_var rfl) ev_c ha rfl) (ev_leg4 T (ev_var rfl) hg) (by omega) (by omega))) ea_nil)) (by show 2 ≤ 100000; decide))) fun v H1 e h => k v H1 e h
end
end Trav
namespace Trav
open LsRun (Leg Spot)
open LsGeo (Pt)
/-! ## places -/
/-- two fractions -/
def SpotAt (K : PySem.W.Frag) (s : Spot) : V → Hp → Prop := TupOf [FracAt K s.1, FracAt K s.2]
theorem stay_FracAt {K : PySem.W.Frag} (q : Rat) : Stay (FracAt K q) := stay_Tp
theorem stay_SpotAt {K : PySem.W.Frag} (s : Spot) : Stay (SpotAt K s) := fun _ _ _ e ⟨q, vs, ev, h, hv⟩ => ⟨q, vs, ev, e q _ h, each_stay (fun P hP => by
  simp only [List.mem_cons, List.not_mem_nil, or_false] at hP
  rcases hP with rfl | rfl <;> exact stay_FracAt _) _ _ _ e hv⟩
theorem stay_TpI {K : PySem.W.Frag} (p : Int × Int) : Stay (TpI K p) := stay_Tp
theorem stayN_TpI {K : PySem.W.Frag} (p : Int × Int) : StayN (TpI K p) := stayN_Tp
/-- a place in fractions -/
def spotI (t : Nat) (p : Int × Int) : Spot := (mkRat p.1 t, mkRat p.2 t)
/-- the place of a point by a run -/
def spotBy (p q : Pt) (L : List Leg) (i : Nat) : Spot := spotI (LsRun.total L) ((placesI p q L).getD i (0, 0))
theorem plI_len (m : Int × Int) (t : Nat) : ∀ (L : List Leg) (p : Int × Int), (plI m t p L).length = L.length + 1
  | [], _ => rfl
  | g :: L, p => congrArg (· + 1) (plI_len m t L _)
theorem placesI_len (p q : Pt) (L : List Leg) : (placesI p q L).length = L.length + 1 := plI_len _ _ _ _
/-- places are small -/
theorem plI_le {m : Int × Int} {t : Nat} (hm : SmM m) (ht : t ≤ 24000000) : ∀ (L : List Leg) (p : Int × Int) (B : Nat), (∀ g ∈ L, SmL g) → p.1.natAbs ≤ B → p.2.natAbs ≤ B → ∀ z ∈ plI m t p L, z.1.natAbs ≤ B + L.length * 6000000000000 ∧ z.2.natAbs ≤ B + L.length * 6000000000000
  | [], p, B, _, h1, h2, z, hz => by
    have e : z = p := by simpa [plI] using hz
    subst e
    simp only [List.length_nil]
    omega
  | g :: L, p, B, hL, h1, h2, z, hz => by
    rcases List.mem_cons.mp (show z ∈ p :: plI m t (plus2 p (shI m t g)) L from hz) with e | hz
    · subst e
      simp only [List.length_cons]
      omega
    · have hg := hL g (List.mem_cons_self ..)
      have key : ∀ (d n : Int), d.natAbs ≤ 99999 → n.natAbs ≤ 3400000 → (d * (t : Int) + n * (g.long : Int)).natAbs ≤ 6000000000000 := by
        intro d n hd hn
        have e1 : (d * (t : Int)).natAbs ≤ 99999 * 24000000 := by
          rw [Int.natAbs_mul, Int.natAbs_natCast]
          exact Nat.mul_le_mul hd ht
        have e2 : (n * (g.long : Int)).natAbs ≤ 3400000 * 999999 := by
          rw [Int.natAbs_mul, Int.natAbs_natCast]
          exact Nat.mul_le_mul hn hg.l1
        omega
      have k1 : (shI m t g).1.natAbs ≤ 6000000000000 := key _ _ hg.x hm.x
      have k2 : (shI m t g).2.natAbs ≤ 6000000000000 := key _ _ hg.y hm.y
      have := plI_le hm ht L (plus2 p (shI m t g)) (B + 6000000000000) (fun g' h' => hL g' (List.mem_cons_of_mem _ h')) (by show (p.1 + (shI m t g).1).natAbs ≤ _; omega) (by show (p.2 + (shI m t g).2).natAbs ≤ _; omega) z hz
      simp only [List.length_cons]
      omega
theorem total_le24 {r : RunBook.Run} (hs : SmR r) : LsRun.total r.legs ≤ 24000000 := by
  have h := (total_le r.legs hs.l).2
  have := hs.n
  omega
theorem placesI_le {p q : Pt} {r : RunBook.Run} (hp : SmP p) (hq : SmP q) (hs : SmR r) : ∀ z ∈ placesI p q r.legs, z.1.natAbs < 2 ^ 60 ∧ z.2.natAbs < 2 ^ 60 := by
  intro z hz
  have ht := total_le24 hs
  have hn := hs.n
  have key : ∀ c : Int, 0 ≤ c → c ≤ 999999 → (c * (LsRun.total r.legs : Int)).natAbs ≤ 999999 * 24000000 := by
    intro c h0 h1
    rw [Int.natAbs_mul, Int.natAbs_natCast]
    exact Nat.mul_le_mul (by omega) ht
  have := plI_le (smM hp hq hs) ht r.legs _ (999999 * 24000000) hs.l (key _ hp.x0 hp.x1) (key _ hp.y0 hp.y1) z hz
  omega
theorem frB_mk {n : Int} {d N : Nat} (h0 : 0 < d) (hn : n.natAbs < 2 ^ N) (hd : d < 2 ^ N) : FrB N (mkRat n d) := by
  obtain ⟨e1, e2⟩ := mkRat_num (n := n) h0
  unfold FrB
  rw [e1, e2]
  constructor
  · refine Nat.lt_of_le_of_lt ?_ hn
    rw [Int.natAbs_ediv_of_dvd (Int.ofNat_dvd_left.mpr (Nat.gcd_dvd_left _ _)), Int.natAbs_natCast]
    exact Nat.div_le_self _ _
  · exact Nat.lt_of_le_of_lt (Nat.div_le_self _ _) hd
theorem FrB.mono {M N : Nat} {q : Rat} (h : FrB M q) (hn : M ≤ N) : FrB N q := ⟨Nat.lt_of_lt_of_le h.1 (Nat.pow_le_pow_right (by decide) hn), Nat.lt_of_lt_of_le h.2 (Nat.pow_le_pow_right (by decide) hn)⟩
theorem frB_spot {p q : Pt} {r : RunBook.Run} (hp : SmP p) (hq : SmP q) (hs : SmR r) (h0 : 0 < LsRun.total r.legs) (i : Nat) : FrB 60 (spotBy p q r.legs i).1 ∧ FrB 60 (spotBy p q r.legs i).2 := by
  have hb : ((placesI p q r.legs).getD i (0, 0)).1.natAbs < 2 ^ 60 ∧ ((placesI p q r.legs).getD i (0, 0)).2.natAbs < 2 ^ 60 := by
    rw [List.getD_eq_getElem?_getD]
    cases e : (placesI p q r.legs)[i]? with
    | none => decide
    | some z => exact placesI_le hp hq hs z (List.mem_of_getElem? e)
  have ht := total_le24 hs
  exact ⟨frB_mk h0 hb.1 (by omega), frB_mk h0 hb.2 (by omega)⟩
def spPlaceBy (K : PySem.W.Frag) : Sp := fun vs H Q _ => ∃ (b v : V) (n : Nat) (r : RunBook.Run) (p q : Pt) (i : Nat), vs = [b, v, .int (n : Int)] ∧ RunAt K r v H ∧ SmR r ∧ KnAt K b r.from_ p H ∧ KnAt K b r.to_ q H ∧ SmP p ∧ SmP q ∧ 0 < r.legs.length ∧ TravSpec.placeNo r n = some i ∧ Ret (SpotAt K (spotBy p q r.legs i)) H Q
def spLegShared (K : PySem.W.Frag) : Sp := fun vs H Q _ => ∃ (b v : V) (i : Nat) (g : Leg) (r : RunBook.Run) (p q : Pt), vs = [b, v, .int (i : Int)] ∧ RunAt K r v H ∧ SmR r ∧ KnAt K b r.from_ p H ∧ KnAt K b r.to_ q H ∧ SmP p ∧ SmP q ∧ r.legs[i]? = some g ∧ Ret (SpotAt K (spotI (LsRun.total r.legs) (shI (LsRun.miss p q r.legs) (LsRun.total r.legs) g))) H Q
def spBetween (K : PySem.W.Frag) : Sp := fun vs H Q _ => ∃ (b v u : V) (n : Nat) (r o : RunBook.Run) (p q p' q' : Pt) (i j : Nat), vs = [b, v, u, .int (n : Int)] ∧ RunAt K r v H ∧ SmR r ∧ KnAt K b r.from_ p H ∧ KnAt K b r.to_ q H ∧ SmP p ∧ SmP q ∧ 0 < r.legs.length ∧ TravSpec.placeNo r n = some i ∧
  RunAt K o u H ∧ SmR o ∧ KnAt K b o.from_ p' H ∧ KnAt K b o.to_ q' H ∧ SmP p' ∧ SmP q' ∧ 0 < o.legs.length ∧ TravSpec.placeNo o n = some j ∧
  Ret (SpotAt K ((spotBy p' q' o.legs j).1 - (spotBy p q r.legs i).1, (spotBy p' q' o.legs j).2 - (spotBy p q r.legs i).2)) H Q
theorem total_pos {r : RunBook.Run} (hs : SmR r) (h : 0 < r.legs.length) : 0 < LsRun.total r.legs := Nat.lt_of_lt_of_le h (total_le r.legs hs.l).1
theorem placeNo_lt {r : RunBook.Run} {n i : Nat} (h : TravSpec.placeNo r n = some i) : i < r.legs.length + 1 := by
  unfold TravSpec.placeNo at h
  have := (List.findIdx?_eq_some_iff_findIdx_eq.mp h).1
  simpa using this
section
variable {P : Program} {w : World} {K : PySem.W.Frag} {mg : Str → Option Value} {base : Heap}
theorem evp_pr {σ : L2.St} {H : Hp} {ta tb : TE} {x y : V} (ha : Ev ta σ H x) (hb : Ev tb σ H y) : EvP (tTup (tCons ta (tCons tb tNil))) σ H (Tp K [x, y]) := newT_Tp (evp_tup (ea_cons ha (ea_cons hb ea_nil)) (by show 2 ≤ 100000; decide))
theorem evp_pr2 {σ : L2.St} {H : Hp} {ta tb : TE} {P1 P2 : V → Hp → Prop} (ha : EvP ta σ H P1) (hb : EvP tb σ H P2) (h1 : Stay P1) (h2 : Stay P2) : EvP (tTup (tCons ta (tCons tb tNil))) σ H (TupOf [P1, P2]) :=
  evp_tupOf (eap_cons ha (eap_cons hb eap_nil h2) h1) (fun P hP => by
    simp only [List.mem_cons, List.not_mem_nil, or_false] at hP
    rcases hP with rfl | rfl
    · exact h1
    · exact h2) (by show 2 ≤ 100000; decide)
theorem sc_places_of : FnScope ["book", "run", "miss", "whole", "begin_east", "begin_north", "east", "north", "places", "leg", "shared_east", "shared_north"] ["book", "run"] (defScope s_places_of) := ⟨rfl, rfl, rfl, by decide +kernel, rfl, by decide +kernel, by decide +kernel⟩
theorem ok_places_of (T : Txt K mg) : Def P w K mg base CX0 3 "places_of" ["book", "run"] (spPlaces K) := by
  refine T.def_ 55 42 rfl rfl rfl rfl rfl sc_places_of (fun _ _ _ _ _ _ us hl => match us, hl with | [_, _], _ => rfl) (fun vs H Q E h => by first | (obtain ⟨_, rfl, _⟩ := h; rfl) | (obtain ⟨_, _, rfl, _⟩ := h; rfl) | (obtain ⟨_, _, _, rfl, _⟩ := h; rfl) | (obtain ⟨_, _, _, _, rfl, _⟩ := h; rfl) | (obtain ⟨_, _, _, _, _, rfl, _⟩ := h; rfl) | (obtain ⟨_, _, _, _, _, _, rfl, _⟩ := h; rfl) | (obtain ⟨_, _, _, _, _, _, _, rfl, _⟩ := h; rfl) | (obtain ⟨_, _, _, _, _, _, _, _, rfl, _⟩ := h; rfl) | (obtain ⟨_, _, _, _, _, _, _, _, _, rfl, _⟩ := h; rfl) | (obtain ⟨_, _, _, _, _, _, _, _, _, _, rfl, _⟩ := h; rfl) | (obtain ⟨_, _, _, _, _, _, _, _, _, _, _, rfl, _⟩ := h; rfl) | (obtain ⟨_, _, _, _, _, _, _, _, _, _, _, _, rfl, _⟩ := h; rfl) | (obtain ⟨_, _, _, _, _, _, _, _, _, _, _, _, _, rfl, _⟩ := h; rfl) | (obtain ⟨_, _, _, _, _, _, _, _, _, _, _, _, _, _, rfl, _⟩ := h; rfl) | (obtain ⟨_, _, _, _, _, _, _, _, _, _, _, _, _, _, _, rfl, _⟩ := h; rfl) | (obtain ⟨_, _, _, _, _, _, _, _, _, _, _, _, _, _, _, _, rfl, _⟩ := h; rfl) | (obtain ⟨_, _, _, _, _, _, _, _, _, _, _, _, _, _, _, _, _, rfl, _⟩ := h; rfl) | (obtain ⟨_, _, _, _, _, _, _, _, _, _, _, _, _, _, _, _, _, _, rfl, _⟩ := h; rfl) | (obtain ⟨_, _, _, _, _, _, _, _, _, _, _, _, _, _, _, _, _, _, _, rfl, _⟩ := h; rfl)) (fun f cdv A outer s H vs Q E hr h => ⟨_, PSs.nox (pss_cons (ps_set (i := 2) sc_places_of.nd rfl (Or.inl rfl) (pe_cd (ok_miss_of T) hr pass0 (pa_cons (pv 0) (pa_cons (pv 1) pa_nil)))) (pss_cons (ps_set (i := 3) sc_places_of.nd rfl (Or.inl rfl) (pe_cd (ok_lengths_together T) hr pass0 (pa_cons (pv 1) pa_nil))) (pss_cons (ps_asg (pe_dget (hu_of hr) (pe_fld (pv 0) rfl) (pe_fld (pv 1) rfl) (fun _ _ => rfl)) (pg_tup rfl (pgs_cons (pg_name (i := 4) sc_places_of.nd rfl (Or.inl rfl)) (pgs_cons (pg_name (i := 5) sc_places_of.nd rfl (Or.inl rfl)) pgs_nil)))) (pss_cons (ps_set (i := 6) sc_places_of.nd rfl (Or.inl rfl) (pe_op op_mulW (pv 4) (pv 3))) (pss_cons (ps_set (i := 7) sc_places_of.nd rfl (Or.inl rfl) (pe_op op_mulW (pv 5) (pv 3))) (pss_cons (ps_set (i := 8) sc_places_of.nd rfl (Or.inl rfl) (pe_lst (pa_cons (pe_tup (pa_cons (pv 6) (pa_cons (pv 7) pa_nil))) pa_nil))) (pss_cons (ps_for PassesOwn.never rfl (pi_list (pe_fld (pv 1) rfl)) (pg_name (i := 9) sc_places_of.nd rfl (Or.inl rfl)) (pss_cons (ps_asg (pe_cd (ok_shared_leg T) hr pass0 (pa_cons (pv 1) (pa_cons (pv 2) (pa_cons (pv 9) pa_nil)))) (pg_tup rfl (pgs_cons (pg_name (i := 10) sc_places_of.nd rfl (Or.inl rfl)) (pgs_cons (pg_name (i := 11) sc_places_of.nd rfl (Or.inl rfl)) pgs_nil)))) (pss_cons (ps_aug (i := 6) sc_places_of.nd rfl (Or.inl rfl) (pv 10) ip_add) (pss_cons (ps_aug (i := 7) sc_places_of.nd rfl (Or.inl rfl) (pv 11) ip_add) (pss_one (ps_expr (pe_bm PySem.F.plainAttrs_list PySem.F.slot_list_append PySem.F.type_list_append mt_append (pv 8) (pa_cons (pe_tup (pa_cons (pv 6) (pa_cons (pv 7) pa_nil))) pa_nil)))))))) (pss_one (ps_ret (pv 8)))))))))), ?_⟩)
  obtain ⟨b, v, r, p, q, rfl, hR, hs, hp, hq, hsp, hsq, k⟩ := h
  have ht := total_le24 hs
  have p1 := hsp.x0
  have p2 := hsp.x1
  have p3 := hsp.y0
  have p4 := hsp.y1
  have hm := smM hsp hsq hs
  obtain ⟨a, dx, l, vs, rfl, hr, hl, hv⟩ := id hR
  refine (sv_setP (P := TpI K (LsRun.miss p q r.legs)) (evp_call (ea_cons (ev_var rfl) (ea_cons (ev_var rfl) ea_nil)) fun H1 e Q k => ⟨b, .ref a, r, p, q, rfl, stay_RunAt r _ _ _ e hR, hs, hp.mono e, hq.mono e, k⟩) fun u H2 e2 hu => ?_).go
  obtain ⟨um, rfl, hum⟩ := hu
  refine sv_set (v := .int (LsRun.total r.legs : Int)) (ev_callV (ea_cons (ev_var rfl) ea_nil) fun H1 e Q k => ⟨.ref a, r, rfl, stay_RunAt r _ _ _ (e2.trans e) hR, hs, k⟩) ?_
  refine sv_unp2 (evp_known T (ev_var rfl) (ev_run1 T (ev_var rfl) (e2 _ _ hr)) (hp.mono e2)) ?_
  refine sv_set (ev_mul (ev_var rfl) (ev_var rfl) (by omega) (by omega)) ?_
  refine sv_set (ev_mul (ev_var rfl) (ev_var rfl) (by omega) (by omega)) ?_
  refine sv_lstOf (Ps := [TpI K (p.x * (LsRun.total r.legs : Int), p.y * (LsRun.total r.legs : Int))]) (eap_cons (evp_pr (ev_var rfl) (ev_var rfl)) eap_nil stay_Tp) (fun P hP => by
    rw [List.mem_singleton.mp hP]
    exact stay_Tp) (by show 1 ≤ 100000; decide) fun lp vs0 H3 hlp0 e3 hlp hE0 => ?_
  have hl3 := e3 _ _ (e2 _ _ hl)
  refine sv_forM (xs := vs) (ev_run3 T (ev_var rfl) (e3 _ _ (e2 _ _ hr))) (sq_of hl3) (fun i σ' H' => ∃ (z : Int × Int) (pre : List (Int × Int)) (ws : List V) (x0 x1 x2 : Option V),
    σ' = [some b, some (.ref a), some (.ref um), some (.int (LsRun.total r.legs : Int)), some (.int p.x), some (.int p.y), some (.int z.1), some (.int z.2), some (.ref lp), x0, x1, x2] ∧ Ex H2 H' ∧ H' lp = some (.lst ws) ∧
    Each ((pre ++ [z]).map (TpI K)) ws H' ∧ pre.length ≤ i ∧ placesI p q r.legs = pre ++ plI (LsRun.miss p q r.legs) (LsRun.total r.legs) z (r.legs.drop i)) ?_ ?_ ?_ ?_
  · rintro i σ' H' ⟨z, pre, ws, x0, x1, x2, rfl, e', _⟩
    exact sq_of (e' _ _ (e2 _ _ hl))
  · intro H4 e4
    exact ⟨(p.x * (LsRun.total r.legs : Int), p.y * (LsRun.total r.legs : Int)), [], vs0, none, none, none, rfl, e3.trans e4, e4 _ _ hlp, each_stay (stay_map stay_TpI) _ _ _ e4 hE0, Nat.le_refl _, rfl⟩
  · rintro i x σ' H' hi ⟨z, pre, ws, x0, x1, x2, rfl, e', hw, hE, hpre, heq⟩
    obtain ⟨g, hg, hgx⟩ := each_mem (each_stay (stay_map stay_LegAt) _ _ _ (e2.trans e') hv) hi
    have hgm := List.mem_of_getElem? hg
    refine (sv_unp2 (x := .int (shI (LsRun.miss p q r.legs) (LsRun.total r.legs) g).1) (y := .int (shI (LsRun.miss p q r.legs) (LsRun.total r.legs) g).2) (evp_call (ea_cons (ev_var rfl) (ea_cons (ev_var rfl) (ea_cons (ev_var rfl) ea_nil))) fun H4 e Q k => ⟨.ref a, x, um, r, g, LsRun.miss p q r.legs, rfl, stay_RunAt r _ _ _ ((e2.trans e').trans e) hR, hs, stay_LegAt g _ _ _ e hgx, hs.l g hgm, ex_t (e'.trans e) hum, hm, k⟩) ?_).go
    refine sv_aug rfl (ev_var rfl) ?_
    refine sv_aug rfl (ev_var rfl) ?_
    intro H4 e4
    refine sv_appP (P := TpI K (plus2 z (shI (LsRun.miss p q r.legs) (LsRun.total r.legs) g))) (e4 _ _ hw) (ev_var rfl) (evp_pr (ev_var rfl) (ev_var rfl)) ?_ fun v H5 e5 h5 => ?_
    · have := each_len hE
      rw [List.length_map, List.length_append] at this
      have hn := hs.n
      have hi2 := (List.getElem?_eq_some_iff.mp hg).1
      simp only [List.length_singleton] at this
      omega
    · have hw5 := e5 _ _ (e4 _ _ hw)
      have hup := exN_upd (ys := ws ++ [v]) hw5
      refine ⟨plus2 z (shI (LsRun.miss p q r.legs) (LsRun.total r.legs) g), pre ++ [z], ws ++ [v], some x, _, _, rfl, Ex.mut ((e'.trans e4).trans e5) hlp0, upd_same, ?_, ?_, ?_⟩
      · rw [List.map_append]
        exact each_append (each_stayN (stayN_map stayN_TpI) ((ex_n (e4.trans e5)).trans hup) hE) (stayN_TpI _ _ _ _ hup h5)
      · rw [List.length_append]
        show pre.length + 1 ≤ i + 1
        omega
      · rw [heq, drop_at hg, List.append_assoc]
        rfl
  · rintro σ' H' ⟨z, pre, ws, x0, x1, x2, rfl, e', hw, hE, hpre, heq⟩
    have hln := each_len hv
    rw [List.length_map] at hln
    rw [hln, List.drop_length] at heq
    refine (sv_ret (ev_var rfl) fun H4 e4 => k _ H4 (e2.trans (e'.trans e4)) ⟨lp, ws, rfl, e4 _ _ hw, ?_⟩).go
    rw [heq]
    exact each_stay (stay_map stay_TpI) _ _ _ e4 hE
theorem sc_turn_of : FnScope ["run", "point", "at", "leg"] ["run", "point"] (defScope s_turn_of) := ⟨rfl, rfl, rfl, by decide +kernel, rfl, by decide +kernel, by decide +kernel⟩
theorem ok_turn_of (T : Txt K mg) : Def P w K mg base CX0 1 "turn_of" ["run", "point"] (spTurn K) := by
  refine T.def_ 56 43 rfl rfl rfl rfl rfl sc_turn_of (fun _ _ _ _ _ _ us hl => match us, hl with | [_, _], _ => rfl) (fun vs H Q E h => by first | (obtain ⟨_, rfl, _⟩ := h; rfl) | (obtain ⟨_, _, rfl, _⟩ := h; rfl) | (obtain ⟨_, _, _, rfl, _⟩ := h; rfl) | (obtain ⟨_, _, _, _, rfl, _⟩ := h; rfl) | (obtain ⟨_, _, _, _, _, rfl, _⟩ := h; rfl) | (obtain ⟨_, _, _, _, _, _, rfl, _⟩ := h; rfl) | (obtain ⟨_, _, _, _, _, _, _, rfl, _⟩ := h; rfl) | (obtain ⟨_, _, _, _, _, _, _, _, rfl, _⟩ := h; rfl) | (obtain ⟨_, _, _, _, _, _, _, _, _, rfl, _⟩ := h; rfl) | (obtain ⟨_, _, _, _, _, _, _, _, _, _, rfl, _⟩ := h; rfl) | (obtain ⟨_, _, _, _, _, _, _, _, _, _, _, rfl, _⟩ := h; rfl) | (obtain ⟨_, _, _, _, _, _, _, _, _, _, _, _, rfl, _⟩ := h; rfl) | (obtain ⟨_, _, _, _, _, _, _, _, _, _, _, _, _, rfl, _⟩ := h; rfl) | (obtain ⟨_, _, _, _, _, _, _, _, _, _, _, _, _, _, rfl, _⟩ := h; rfl) | (obtain ⟨_, _, _, _, _, _, _, _, _, _, _, _, _, _, _, rfl, _⟩ := h; rfl) | (obtain ⟨_, _, _, _, _, _, _, _, _, _, _, _, _, _, _, _, rfl, _⟩ := h; rfl) | (obtain ⟨_, _, _, _, _, _, _, _, _, _, _, _, _, _, _, _, _, rfl, _⟩ := h; rfl) | (obtain ⟨_, _, _, _, _, _, _, _, _, _, _, _, _, _, _, _, _, _, rfl, _⟩ := h; rfl) | (obtain ⟨_, _, _, _, _, _, _, _, _, _, _, _, _, _, _, _, _, _, _, rfl, _⟩ := h; rfl)) (fun f cdv A outer s H vs Q E hr h => ⟨_, PSs.nox (pss_cons (ps_if (pt_cmpR op_eq (pe_fld (pv 0) rfl) (pv 1) (nomark _)) (pss_one (ps_ret pe_int)) pss_nil) (pss_cons (ps_for PassesOwn.never rfl (pi_enum (by rfl) (T.free 159 rfl) (pa_cons (pe_fld (pv 0) rfl) pa_nil)) (pg_tup rfl (pgs_cons (pg_name (i := 2) sc_turn_of.nd rfl (Or.inl rfl)) (pgs_cons (pg_name (i := 3) sc_turn_of.nd rfl (Or.inl rfl)) pgs_nil))) (pss_one (ps_if (pt_cmpR op_eq (pe_fld (pv 3) rfl) (pv 1) (nomark _)) (pss_one (ps_ret (pe_op op_add (pv 2) pe_int))) pss_nil))) (pss_one (ps_ret (pe_gi (T.int 136 rfl)))))), ?_⟩)
  obtain ⟨v, r, n, rfl, hR, hs, k⟩ := h
  obtain ⟨a, dx, l, vs, rfl, hr, hl, hv⟩ := hR
  have hn := hs.n
  refine (sv_when (b := decide (r.from_ = n)) (et_test (ev_eqN (ev_run1 T (ev_var rfl) hr) (ev_var rfl))) (fun hb => ?_) fun hb => ?_).go
  · have hb := of_decide_eq_true hb
    refine sv_ret ev_c ?_
    have e : TravSpec.placeNo r n = some 0 := by
      unfold TravSpec.placeNo
      rw [List.findIdx?_cons, if_pos (by simpa using hb)]
    rw [e] at k
    exact k
  · have hb := of_decide_eq_false hb
    have e : TravSpec.placeNo r n = (r.legs.findIdx? fun g => g.to_ == n).map (· + 1) := by
      unfold TravSpec.placeNo
      rw [List.findIdx?_cons, if_neg (by simpa using hb), List.findIdx?_map]
      rfl
    have hln := each_len hv
    rw [List.length_map] at hln
    refine sv_forE (xs := vs) (ev_run3 T (ev_var rfl) hr) (sq_of hl) (fun i σ' H' => ∃ x0 x1, σ' = [some (.ref a), some (.int (n : Int)), x0, x1] ∧ Ex H H' ∧ ∀ g ∈ r.legs.take i, g.to_ ≠ n) ?_ ?_ ?_ ?_ ?_
    · rintro i σ' H' ⟨x0, x1, _, e, _⟩
      exact e
    · intro H1 e1
      exact ⟨none, none, rfl, e1, by simp⟩
    · rintro i σ' H1 H2 e1 ⟨x0, x1, e0, e, h⟩
      exact ⟨x0, x1, e0, e.trans e1, h⟩
    · rintro i x σ' H1 hi ⟨x0, x1, rfl, e1, hnot⟩
      obtain ⟨g, hg, hgx⟩ := each_mem (each_stay (stay_map stay_LegAt) _ _ _ e1 hv) hi
      refine Sv.go (sv_when (b := decide (g.to_ = n)) (et_test (ev_eqN (ev_leg1 T (ev_var rfl) hgx) (ev_var rfl))) (fun hb => ?_) fun hb => ?_)
      · have hb := of_decide_eq_true hb
        refine sv_ret (ev_add (ev_var rfl) ev_c) fun H2 e2 => ?_
        have ef : (r.legs.findIdx? fun g => g.to_ == n) = some i := by
          rw [List.findIdx?_eq_some_iff_getElem]
          have h1 := (List.getElem?_eq_some_iff.mp hg)
          refine ⟨h1.1, by rw [h1.2]; simpa using hb, fun j hj => ?_⟩
          obtain ⟨hlt, _⟩ := h1
          have := hnot (r.legs[j]'(by omega)) (List.mem_take_iff_getElem.mpr ⟨j, by omega, rfl⟩)
          simpa using this
        rw [e, ef] at k
        exact k H2 (e1.trans e2)
      · have hb := of_decide_eq_false hb
        refine sv_next fun H2 e2 => ⟨_, _, rfl, e1.trans e2, fun g' hg' => ?_⟩
        rw [List.take_succ, hg] at hg'
        rcases List.mem_append.mp hg' with h | h
        · exact hnot g' h
        · have : g' = g := by simpa using h
          rw [this]
          exact hb
    · rintro σ' H' ⟨x0, x1, rfl, e1, hnot⟩
      rw [hln, List.take_length] at hnot
      have ef : (r.legs.findIdx? fun g => g.to_ == n) = none := by
        rw [List.findIdx?_eq_none_iff]
        intro g hg
        simpa using hnot g hg
      rw [e, ef] at k
      exact (sv_ret ev_c fun H2 e2 => k H2 (e1.trans e2)).go
theorem sc_place_by : FnScope ["book", "run", "point", "whole", "east", "north"] ["book", "run", "point"] (defScope s_place_by) := ⟨rfl, rfl, rfl, by decide +kernel, rfl, by decide +kernel, by decide +kernel⟩
theorem ok_place_by (T : Txt K mg) : Def P w K mg base CX0 4 "place_by" ["book", "run", "point"] (spPlaceBy K) := by
  refine T.def_ 57 44 rfl rfl rfl rfl rfl sc_place_by (fun _ _ _ _ _ _ us hl => match us, hl with | [_, _, _], _ => rfl) (fun vs H Q E h => by first | (obtain ⟨_, rfl, _⟩ := h; rfl) | (obtain ⟨_, _, rfl, _⟩ := h; rfl) | (obtain ⟨_, _, _, rfl, _⟩ := h; rfl) | (obtain ⟨_, _, _, _, rfl, _⟩ := h; rfl) | (obtain ⟨_, _, _, _, _, rfl, _⟩ := h; rfl) | (obtain ⟨_, _, _, _, _, _, rfl, _⟩ := h; rfl) | (obtain ⟨_, _, _, _, _, _, _, rfl, _⟩ := h; rfl) | (obtain ⟨_, _, _, _, _, _, _, _, rfl, _⟩ := h; rfl) | (obtain ⟨_, _, _, _, _, _, _, _, _, rfl, _⟩ := h; rfl) | (obtain ⟨_, _, _, _, _, _, _, _, _, _, rfl, _⟩ := h; rfl) | (obtain ⟨_, _, _, _, _, _, _, _, _, _, _, rfl, _⟩ := h; rfl) | (obtain ⟨_, _, _, _, _, _, _, _, _, _, _, _, rfl, _⟩ := h; rfl) | (obtain ⟨_, _, _, _, _, _, _, _, _, _, _, _, _, rfl, _⟩ := h; rfl) | (obtain ⟨_, _, _, _, _, _, _, _, _, _, _, _, _, _, rfl, _⟩ := h; rfl) | (obtain ⟨_, _, _, _, _, _, _, _, _, _, _, _, _, _, _, rfl, _⟩ := h; rfl) | (obtain ⟨_, _, _, _, _, _, _, _, _, _, _, _, _, _, _, _, rfl, _⟩ := h; rfl) | (obtain ⟨_, _, _, _, _, _, _, _, _, _, _, _, _, _, _, _, _, rfl, _⟩ := h; rfl) | (obtain ⟨_, _, _, _, _, _, _, _, _, _, _, _, _, _, _, _, _, _, rfl, _⟩ := h; rfl) | (obtain ⟨_, _, _, _, _, _, _, _, _, _, _, _, _, _, _, _, _, _, _, rfl, _⟩ := h; rfl)) (fun f cdv A outer s H vs Q E hr h => ⟨_, PSs.nox (pss_cons (ps_set (i := 3) sc_place_by.nd rfl (Or.inl rfl) (pe_cd (ok_lengths_together T) hr pass0 (pa_cons (pv 1) pa_nil))) (pss_cons (ps_asg (pe_ix ix_list (pe_cd (ok_places_of T) hr pass0 (pa_cons (pv 0) (pa_cons (pv 1) pa_nil))) (pe_cd (ok_turn_of T) hr pass0 (pa_cons (pv 1) (pa_cons (pv 2) pa_nil))) (fun _ _ => rfl)) (pg_tup rfl (pgs_cons (pg_name (i := 4) sc_place_by.nd rfl (Or.inl rfl)) (pgs_cons (pg_name (i := 5) sc_place_by.nd rfl (Or.inl rfl)) pgs_nil)))) (pss_one (ps_ret (pe_tup (pa_cons (pe_cd (ok_fraction T) hr pass0 (pa_cons (pv 4) (pa_cons (pv 3) pa_nil))) (pa_cons (pe_cd (ok_fraction T) hr pass0 (pa_cons (pv 5) (pa_cons (pv 3) pa_nil))) pa_nil))))))), ?_⟩)
  obtain ⟨b, v, n, r, p, q, i, rfl, hR, hs, hp, hq, hsp, hsq, h0, hi, k⟩ := h
  have ht0 := total_pos hs h0
  have ht := total_le24 hs
  refine (sv_set (v := .int (LsRun.total r.legs : Int)) (ev_callV (ea_cons (ev_var rfl) ea_nil) fun H1 e Q k => ⟨v, r, rfl, stay_RunAt r _ _ _ e hR, hs, k⟩) ?_).go
  have hil : i < (placesI p q r.legs).length := by
    rw [placesI_len]
    exact placeNo_lt hi
  refine sv_unp2 (x := .int ((placesI p q r.legs).getD i (0, 0)).1) (y := .int ((placesI p q r.legs).getD i (0, 0)).2) (evp_ixL (P := TpI K ((placesI p q r.legs).getD i (0, 0))) (Ps := (placesI p q r.legs).map (TpI K)) (i := i) (evp_call (ea_cons (ev_var rfl) (ea_cons (ev_var rfl) ea_nil)) fun H1 e Q k => ⟨b, v, r, p, q, rfl, stay_RunAt r _ _ _ e hR, hs, hp.mono e, hq.mono e, hsp, hsq, k⟩)
    (ev_callV (ea_cons (ev_var rfl) (ea_cons (ev_var rfl) ea_nil)) fun H1 e Q k => ⟨v, r, n, rfl, stay_RunAt r _ _ _ e hR, hs, by rw [hi]; exact k⟩) (by rw [List.getElem?_map, List.getElem?_eq_getElem hil, List.getD_eq_getElem?_getD, List.getElem?_eq_getElem hil]; rfl) (stay_map stay_TpI)) ?_
  exact sv_retP (evp_pr2 (evp_frac (ev_var rfl) (ev_var rfl) ht0 (Nat.lt_of_lt_of_le (show LsRun.total r.legs < 2 ^ 100 by omega) (Nat.pow_le_pow_right (by decide) (by decide)))) (evp_frac (ev_var rfl) (ev_var rfl) ht0 (Nat.lt_of_lt_of_le (show LsRun.total r.legs < 2 ^ 100 by omega) (Nat.pow_le_pow_right (by decide) (by decide)))) stay_Tp stay_Tp) k
theorem sc_leg_shared : FnScope ["book", "run", "number", "whole", "east", "north"] ["book", "run", "number"] (defScope s_leg_shared) := ⟨rfl, rfl, rfl, by decide +kernel, rfl, by decide +kernel, by decide +kernel⟩
theorem ok_leg_shared (T : Txt K mg) : Def P w K mg base CX0 3 "leg_shared" ["book", "run", "number"] (spLegShared K) := by
  refine T.def_ 58 45 rfl rfl rfl rfl rfl sc_leg_shared (fun _ _ _ _ _ _ us hl => match us, hl with | [_, _, _], _ => rfl) (fun vs H Q E h => by first | (obtain ⟨_, rfl, _⟩ := h; rfl) | (obtain ⟨_, _, rfl, _⟩ := h; rfl) | (obtain ⟨_, _, _, rfl, _⟩ := h; rfl) | (obtain ⟨_, _, _, _, rfl, _⟩ := h; rfl) | (obtain ⟨_, _, _, _, _, rfl, _⟩ := h; rfl) | (obtain ⟨_, _, _, _, _, _, rfl, _⟩ := h; rfl) | (obtain ⟨_, _, _, _, _, _, _, rfl, _⟩ := h; rfl) | (obtain ⟨_, _, _, _, _, _, _, _, rfl, _⟩ := h; rfl) | (obtain ⟨_, _, _, _, _, _, _, _, _, rfl, _⟩ := h; rfl) | (obtain ⟨_, _, _, _, _, _, _, _, _, _, rfl, _⟩ := h; rfl) | (obtain ⟨_, _, _, _, _, _, _, _, _, _, _, rfl, _⟩ := h; rfl) | (obtain ⟨_, _, _, _, _, _, _, _, _, _, _, _, rfl, _⟩ := h; rfl) | (obtain ⟨_, _, _, _, _, _, _, _, _, _, _, _, _, rfl, _⟩ := h; rfl) | (obtain ⟨_, _, _, _, _, _, _, _, _, _, _, _, _, _, rfl, _⟩ := h; rfl) | (obtain ⟨_, _, _, _, _, _, _, _, _, _, _, _, _, _, _, rfl, _⟩ := h; rfl) | (obtain ⟨_, _, _, _, _, _, _, _, _, _, _, _, _, _, _, _, rfl, _⟩ := h; rfl) | (obtain ⟨_, _, _, _, _, _, _, _, _, _, _, _, _, _, _, _, _, rfl, _⟩ := h; rfl) | (obtain ⟨_, _, _, _, _, _, _, _, _, _, _, _, _, _, _, _, _, _, rfl, _⟩ := h; rfl) | (obtain ⟨_, _, _, _, _, _, _, _, _, _, _, _, _, _, _, _, _, _, _, rfl, _⟩ := h; rfl)) (fun f cdv A outer s H vs Q E hr h => ⟨_, PSs.nox (pss_cons (ps_set (i := 3) sc_leg_shared.nd rfl (Or.inl rfl) (pe_cd (ok_lengths_together T) hr pass0 (pa_cons (pv 1) pa_nil))) (pss_cons (ps_asg (pe_cd (ok_shared_leg T) hr pass0 (pa_cons (pv 1) (pa_cons (pe_cd (ok_miss_of T) hr pass0 (pa_cons (pv 0) (pa_cons (pv 1) pa_nil))) (pa_cons (pe_ix ix_list (pe_fld (pv 1) rfl) (pv 2) (fun _ _ => rfl)) pa_nil)))) (pg_tup rfl (pgs_cons (pg_name (i := 4) sc_leg_shared.nd rfl (Or.inl rfl)) (pgs_cons (pg_name (i := 5) sc_leg_shared.nd rfl (Or.inl rfl)) pgs_nil)))) (pss_one (ps_ret (pe_tup (pa_cons (pe_cd (ok_fraction T) hr pass0 (pa_cons (pv 4) (pa_cons (pv 3) pa_nil))) (pa_cons (pe_cd (ok_fraction T) hr pass0 (pa_cons (pv 5) (pa_cons (pv 3) pa_nil))) pa_nil))))))), ?_⟩)
  obtain ⟨b, v, i, g, r, p, q, rfl, hR, hs, hp, hq, hsp, hsq, hg, k⟩ := h
  have ht0 := total_pos hs (by have := (List.getElem?_eq_some_iff.mp hg).1; omega)
  have ht := total_le24 hs
  refine (sv_set (v := .int (LsRun.total r.legs : Int)) (ev_callV (ea_cons (ev_var rfl) ea_nil) fun H1 e Q k => ⟨v, r, rfl, stay_RunAt r _ _ _ e hR, hs, k⟩) ?_).go
  obtain ⟨a, dx, l, vs, rfl, hr, hl, hv⟩ := id hR
  obtain ⟨u, hu, hgu⟩ := each_get hv (i := i) (P := LegAt K g) (by rw [List.getElem?_map, hg]; rfl)
  refine sv_unp2 (x := .int (shI (LsRun.miss p q r.legs) (LsRun.total r.legs) g).1) (y := .int (shI (LsRun.miss p q r.legs) (LsRun.total r.legs) g).2) ?_ ?_
  · refine evp_callP (R := Each [fun v _ => v = .ref a, TpI K (LsRun.miss p q r.legs), fun v _ => v = u]) (eap_cons (ev_p (ev_var rfl)) (eap_cons (evp_call (P := TpI K (LsRun.miss p q r.legs)) (ea_cons (ev_var rfl) (ea_cons (ev_var rfl) ea_nil)) fun H1 e Q k => ⟨b, .ref a, r, p, q, rfl, stay_RunAt r _ _ _ e hR, hs, hp.mono e, hq.mono e, k⟩)
      (eap_cons (ev_p (ev_ix (ev_run3 T (ev_var rfl) hr) (ev_var rfl) (sq_of hl) (by rw [atI_nat, hu]))) eap_nil stay_eq) (stay_TpI _)) stay_eq) ?_
    rintro ws H1 e ⟨_, _, rfl, rfl, _, _, rfl, ⟨m, rfl, hm⟩, u', _, rfl, eu, e0⟩ Q k
    have e0 : _ = [] := e0
    subst e0
    exact ⟨.ref a, u', m, r, g, LsRun.miss p q r.legs, rfl, stay_RunAt r _ _ _ e hR, hs, by rw [eu]; exact stay_LegAt g _ _ _ e hgu, hs.l g (List.mem_of_getElem? hg), hm, smM hsp hsq hs, k⟩
  exact sv_retP (evp_pr2 (evp_frac (ev_var rfl) (ev_var rfl) ht0 (Nat.lt_of_lt_of_le (show LsRun.total r.legs < 2 ^ 100 by omega) (Nat.pow_le_pow_right (by decide) (by decide)))) (evp_frac (ev_var rfl) (ev_var rfl) ht0 (Nat.lt_of_lt_of_le (show LsRun.total r.legs < 2 ^ 100 by omega) (Nat.pow_le_pow_right (by decide) (by decide)))) stay_Tp stay_Tp) k
theorem sc_place_between : FnScope ["book", "run", "other", "point", "east", "north", "other_east", "other_north"] ["book", "run", "other", "point"] (defScope s_place_between) := ⟨rfl, rfl, rfl, by decide +kernel, rfl, by decide +kernel, by decide +kernel⟩
theorem ok_place_between (T : Txt K mg) : Def P w K mg base CX0 5 "place_between" ["book", "run", "other", "point"] (spBetween K) := by
  refine T.def_ 59 46 rfl rfl rfl rfl rfl sc_place_between (fun _ _ _ _ _ _ us hl => match us, hl with | [_, _, _, _], _ => rfl) (fun vs H Q E h => by first | (obtain ⟨_, rfl, _⟩ := h; rfl) | (obtain ⟨_, _, rfl, _⟩ := h; rfl) | (obtain ⟨_, _, _, rfl, _⟩ := h; rfl) | (obtain ⟨_, _, _, _, rfl, _⟩ := h; rfl) | (obtain ⟨_, _, _, _, _, rfl, _⟩ := h; rfl) | (obtain ⟨_, _, _, _, _, _, rfl, _⟩ := h; rfl) | (obtain ⟨_, _, _, _, _, _, _, rfl, _⟩ := h; rfl) | (obtain ⟨_, _, _, _, _, _, _, _, rfl, _⟩ := h; rfl) | (obtain ⟨_, _, _, _, _, _, _, _, _, rfl, _⟩ := h; rfl) | (obtain ⟨_, _, _, _, _, _, _, _, _, _, rfl, _⟩ := h; rfl) | (obtain ⟨_, _, _, _, _, _, _, _, _, _, _, rfl, _⟩ := h; rfl) | (obtain ⟨_, _, _, _, _, _, _, _, _, _, _, _, rfl, _⟩ := h; rfl) | (obtain ⟨_, _, _, _, _, _, _, _, _, _, _, _, _, rfl, _⟩ := h; rfl) | (obtain ⟨_, _, _, _, _, _, _, _, _, _, _, _, _, _, rfl, _⟩ := h; rfl) | (obtain ⟨_, _, _, _, _, _, _, _, _, _, _, _, _, _, _, rfl, _⟩ := h; rfl) | (obtain ⟨_, _, _, _, _, _, _, _, _, _, _, _, _, _, _, _, rfl, _⟩ := h; rfl) | (obtain ⟨_, _, _, _, _, _, _, _, _, _, _, _, _, _, _, _, _, rfl, _⟩ := h; rfl) | (obtain ⟨_, _, _, _, _, _, _, _, _, _, _, _, _, _, _, _, _, _, rfl, _⟩ := h; rfl) | (obtain ⟨_, _, _, _, _, _, _, _, _, _, _, _, _, _, _, _, _, _, _, rfl, _⟩ := h; rfl)) (fun f cdv A outer s H vs Q E hr h => ⟨_, PSs.nox (pss_cons (ps_asg (pe_cd (ok_place_by T) hr pass0 (pa_cons (pv 0) (pa_cons (pv 1) (pa_cons (pv 3) pa_nil)))) (pg_tup rfl (pgs_cons (pg_name (i := 4) sc_place_between.nd rfl (Or.inl rfl)) (pgs_cons (pg_name (i := 5) sc_place_between.nd rfl (Or.inl rfl)) pgs_nil)))) (pss_cons (ps_asg (pe_cd (ok_place_by T) hr pass0 (pa_cons (pv 0) (pa_cons (pv 2) (pa_cons (pv 3) pa_nil)))) (pg_tup rfl (pgs_cons (pg_name (i := 6) sc_place_between.nd rfl (Or.inl rfl)) (pgs_cons (pg_name (i := 7) sc_place_between.nd rfl (Or.inl rfl)) pgs_nil)))) (pss_one (ps_ret (pe_tup (pa_cons (pe_cd (ok_minus T) hr pass0 (pa_cons (pv 6) (pa_cons (pv 4) pa_nil))) (pa_cons (pe_cd (ok_minus T) hr pass0 (pa_cons (pv 7) (pa_cons (pv 5) pa_nil))) pa_nil))))))), ?_⟩)
  obtain ⟨b, v, u, n, r, o, p, q, p', q', i, j, rfl, hR, hs, hp, hq, hsp, hsq, h0, hi, hR', hs', hp', hq', hsp', hsq', h0', hj, k⟩ := h
  refine (sv_unpE2 (evp_call (P := TpE K [FracAt K (spotBy p q r.legs i).1, FracAt K (spotBy p q r.legs i).2]) (ea_cons (ev_var rfl) (ea_cons (ev_var rfl) (ea_cons (ev_var rfl) ea_nil))) fun H1 e Q k => ⟨b, v, n, r, p, q, i, rfl, stay_RunAt r _ _ _ e hR, hs, hp.mono e, hq.mono e, hsp, hsq, h0, hi, fun v H2 e2 h2 => k v H2 e2 (tpE_of h2)⟩) fun x y H1 e1 hx hy => ?_).go
  refine sv_unpE2 (evp_call (P := TpE K [FracAt K (spotBy p' q' o.legs j).1, FracAt K (spotBy p' q' o.legs j).2]) (ea_cons (ev_var rfl) (ea_cons (ev_var rfl) (ea_cons (ev_var rfl) ea_nil))) fun H2 e Q k => ⟨b, u, n, o, p', q', j, rfl, stay_RunAt o _ _ _ (e1.trans e) hR', hs', hp'.mono (e1.trans e), hq'.mono (e1.trans e), hsp', hsq', h0', hj, fun v H2 e2 h2 => k v H2 e2 (tpE_of h2)⟩) fun z y' H2 e2 hz hy' => ?_
  obtain ⟨ax, rfl, hx⟩ := hx
  obtain ⟨ay, rfl, hy⟩ := hy
  obtain ⟨az, rfl, hz⟩ := hz
  obtain ⟨ay', rfl, hy'⟩ := hy'
  have f1 := frB_spot hsp hsq hs (total_pos hs h0) i
  have f2 := frB_spot hsp' hsq' hs' (total_pos hs' h0') j
  refine sv_retP (evp_pr2 (P1 := FracAt K ((spotBy p' q' o.legs j).1 - (spotBy p q r.legs i).1)) (P2 := FracAt K ((spotBy p' q' o.legs j).2 - (spotBy p q r.legs i).2)) (evp_call (ea_cons (ev_var rfl) (ea_cons (ev_var rfl) ea_nil)) fun H3 e Q k => ?_) (evp_call (ea_cons (ev_var rfl) (ea_cons (ev_var rfl) ea_nil)) fun H3 e Q k => ?_) stay_Tp stay_Tp) fun v H3 e3 h3 => k v H3 ((e1.trans e2).trans e3) h3
  · exact ⟨az, ax, _, _, 60, 60, rfl, ex_t e hz, ex_t (e2.trans e) hx, f2.1, f1.1, by decide, by decide, by decide, k⟩
  · exact ⟨ay', ay, _, _, 60, 60, rfl, ex_t e hy', ex_t (e2.trans e) hy, f2.2, f1.2, by decide, by decide, by decide, k⟩
end
end Trav
namespace Trav
open LsRun (Leg Spot)
open LsGeo (Pt)
/-! ## the mean of places, what they go round, the ratio, the leg along which the miss goes most -/
theorem frB_add {M N : Nat} {q r : Rat} (hq : FrB M q) (hr : FrB N r) : FrB (M + N + 1) (q + r) := by
  rw [Rat.add_def']
  have h1 : (q.num * (r.den : Int)).natAbs < 2 ^ (M + N) := by
    rw [Int.natAbs_mul, Int.natAbs_natCast, Nat.pow_add]
    exact Nat.mul_lt_mul'' hq.1 hr.2
  have h2 : (r.num * (q.den : Int)).natAbs < 2 ^ (M + N) := by
    rw [Int.natAbs_mul, Int.natAbs_natCast, Nat.pow_add, Nat.mul_comm]
    exact Nat.mul_lt_mul'' hq.2 hr.1
  have h3 : q.den * r.den < 2 ^ (M + N) := by
    rw [Nat.pow_add]
    exact Nat.mul_lt_mul'' hq.2 hr.2
  have hp : 2 ^ (M + N + 1) = 2 * 2 ^ (M + N) := by rw [Nat.pow_succ, Nat.mul_comm]
  refine frB_mk (Nat.mul_pos q.den_pos r.den_pos) ?_ ?_
  · omega
  · omega
def sumQ (l : List Rat) : Rat := l.foldl (fun a b => a + b) 0
/-- what a run has to be for the place of a point by it -/
def Placed (K : PySem.W.Frag) (b : V) (n : Nat) (H : Hp) (r : RunBook.Run) (s : Spot) : Prop := SmR r ∧ ∃ (p q : Pt) (i : Nat), KnAt K b r.from_ p H ∧ KnAt K b r.to_ q H ∧ SmP p ∧ SmP q ∧ 0 < r.legs.length ∧ TravSpec.placeNo r n = some i ∧ s = spotBy p q r.legs i
def spMean (K : PySem.W.Frag) : Sp := fun vs H Q _ => ∃ (b : V) (l : Addr) (n : Nat) (L : List (RunBook.Run × Spot)) (ws : List V), vs = [b, .ref l, .int (n : Int)] ∧ SqL K H l ws ∧ Each (L.map fun x => RunAt K x.1) ws H ∧ 0 < L.length ∧ L.length ≤ 16 ∧ (∀ x ∈ L, Placed K b n H x.1 x.2) ∧
  Ret (SpotAt K (sumQ (L.map fun x => x.2.1) / (L.length : Rat), sumQ (L.map fun x => x.2.2) / (L.length : Rat))) H Q
theorem Placed.fr {K : PySem.W.Frag} {b : V} {n : Nat} {H : Hp} {r : RunBook.Run} {s : Spot} (h : Placed K b n H r s) : FrB 60 s.1 ∧ FrB 60 s.2 := by
  obtain ⟨hs, p, q, i, _, _, hp, hq, h0, _, rfl⟩ := h
  exact frB_spot hp hq hs (total_pos hs h0) i
def cross (p q : Int × Int) : Int := p.1 * q.2 - q.1 * p.2
def areaI (P : List (Int × Int)) : Int := ((List.range P.length).map fun k => cross (P.getD (if k = 0 then P.length - 1 else k - 1) (0, 0)) (P.getD k (0, 0))).sum
def spArea (K : PySem.W.Frag) : Sp := fun vs H Q _ => ∃ (b v : V) (r : RunBook.Run) (p q : Pt), vs = [b, v] ∧ RunAt K r v H ∧ SmR r ∧ KnAt K b r.from_ p H ∧ KnAt K b r.to_ q H ∧ SmP p ∧ SmP q ∧ 0 < r.legs.length ∧ Ret (FracAt K (mkRat (areaI (placesI p q r.legs)) (LsRun.total r.legs * LsRun.total r.legs))) H Q
def spRatio : Sp := fun vs H Q _ => ∃ (t q : Nat), vs = [.int (t : Int), .int (q : Int)] ∧ 0 < q ∧ q < 2 ^ 60 ∧ t < 2 ^ 25 ∧ RetV (.int (LsRun.rootOf q (t * t) : Int)) H Q
def alongQ (m : Int × Int) (g : Leg) : Rat := ((g.dx * m.1 + g.dy * m.2 : Int) : Rat) * ((g.dx * m.1 + g.dy * m.2 : Int) : Rat) / ((g.dx * g.dx + g.dy * g.dy : Int) : Rat)
def spAlong (K : PySem.W.Frag) : Sp := fun vs H Q _ => ∃ (v : V) (a : Addr) (g : Leg) (m : Int × Int), vs = [v, .ref a] ∧ LegAt K g v H ∧ SmL g ∧ SqT K H a [.int m.1, .int m.2] ∧ SmM m ∧ Ret (fun v H => FracAt K (alongQ m g) v H ∧ FrB 100 (alongQ m g)) H Q
def spMost (K : PySem.W.Frag) : Sp := fun vs H Q _ => ∃ (v : V) (a : Addr) (r : RunBook.Run) (m : Int × Int), vs = [v, .ref a] ∧ RunAt K r v H ∧ SmR r ∧ 0 < r.legs.length ∧ SqT K H a [.int m.1, .int m.2] ∧ SmM m ∧ Ret (fun v H => ∃ x, LsRun.mostAlong m r.legs = some x ∧ TupOf [fun v _ => v = .int (x.1 : Int), FracAt K x.2] v H) H Q
theorem sqn (x : Int) : 0 ≤ x * x := by
  have : x * x = ((x.natAbs * x.natAbs : Nat) : Int) := by rw [Int.natCast_mul, Int.natAbs_mul_self']
  omega
theorem frB0 : FrB (1 + 61 * 0) (sumQ []) := ⟨by decide, by decide⟩
theorem along_mk (m : Int × Int) (g : Leg) : alongQ m g = mkRat ((g.dx * m.1 + g.dy * m.2) * (g.dx * m.1 + g.dy * m.2)) (g.dx * g.dx + g.dy * g.dy).toNat := by
  have hp : 0 ≤ g.dx * g.dx + g.dy * g.dy := Int.add_nonneg (sqn _) (sqn _)
  rw [Rat.mkRat_eq_div, Rat.intCast_mul]
  unfold alongQ
  congr 1
  have e : (((g.dx * g.dx + g.dy * g.dy).toNat : Nat) : Int) = g.dx * g.dx + g.dy * g.dy := Int.toNat_of_nonneg hp
  rw [← Rat.intCast_natCast, e]
theorem sq_pos {g : Leg} (h : SmL g) : 0 < (g.dx * g.dx + g.dy * g.dy).toNat ∧ (g.dx * g.dx + g.dy * g.dy).toNat ≤ 20000000000 ∧ (((g.dx * g.dx + g.dy * g.dy).toNat : Nat) : Int) = g.dx * g.dx + g.dy * g.dy := by
  have key : ∀ x : Int, x.natAbs ≤ 99999 → 0 ≤ x * x ∧ x * x ≤ 10000000000 ∧ (x ≠ 0 → 0 < x * x) := by
    intro x hx
    have h1 : x * x = ((x.natAbs * x.natAbs : Nat) : Int) := by rw [Int.natCast_mul, Int.natAbs_mul_self']
    have h2 : x.natAbs * x.natAbs ≤ 99999 * 99999 := Nat.mul_le_mul hx hx
    refine ⟨by omega, by omega, fun h0 => ?_⟩
    have h3 : 0 < x.natAbs * x.natAbs := Nat.mul_pos (by omega) (by omega)
    omega
  obtain ⟨a1, a2, a3⟩ := key _ h.x
  obtain ⟨b1, b2, b3⟩ := key _ h.y
  have hxy := h.xy
  by_cases h0 : g.dx = 0
  · have h1 : g.dy ≠ 0 := fun h1 => hxy ⟨h0, h1⟩
    have := b3 h1
    omega
  · have := a3 h0
    omega
/-- the greatest number whose square times q is at most T -/
theorem root_one {q T k j : Nat} (h1 : k * k * q ≤ T) (h2 : T < (k + 1) * (k + 1) * q) (h3 : j * j * q ≤ T) (h4 : T < (j + 1) * (j + 1) * q) : k = j := by
  have key : ∀ a b : Nat, a < b → (a + 1) * (a + 1) * q ≤ b * b * q := fun a b h => Nat.mul_le_mul_right _ (Nat.mul_le_mul h h)
  rcases Nat.lt_trichotomy k j with h | h | h
  · have := key _ _ h
    omega
  · exact h
  · have := key _ _ h
    omega
theorem root_fold (q T : Nat) : ∀ (n k : Nat), k * k * q ≤ T → T < (k + 2 ^ n) * (k + 2 ^ n) * q →
    let k' := ((List.range n).reverse).foldl (fun (k i : Nat) => if (k + 2 ^ i) * (k + 2 ^ i) * q ≤ T then k + 2 ^ i else k) k
    k' * k' * q ≤ T ∧ T < (k' + 1) * (k' + 1) * q
  | 0, k, h1, h2 => by
    simp only [List.range_zero, List.reverse_nil, List.foldl_nil]
    simp only [Nat.pow_zero] at h2
    exact ⟨h1, h2⟩
  | n + 1, k, h1, h2 => by
    rw [List.range_succ, List.reverse_append, List.reverse_singleton, List.singleton_append, List.foldl_cons]
    by_cases hc : (k + 2 ^ n) * (k + 2 ^ n) * q ≤ T
    · rw [if_pos hc]
      refine root_fold q T n _ hc ?_
      have e : k + 2 ^ n + 2 ^ n = k + 2 ^ (n + 1) := by rw [Nat.pow_succ]; omega
      rw [e]
      exact h2
    · rw [if_neg hc]
      exact root_fold q T n _ h1 (Nat.lt_of_not_le hc)
theorem root_is {q t k : Nat} (h0 : 0 < q) (ht : t < 2 ^ 25) (h1 : k * k * q ≤ t * t) (h2 : t * t < (k + 1) * (k + 1) * q) : k = LsRun.rootOf q (t * t) := by
  have h := root_fold q (t * t) 25 0 (by simp) (by
    rw [Nat.zero_add]
    exact Nat.lt_of_lt_of_le (Nat.mul_lt_mul'' ht ht) (Nat.le_mul_of_pos_right _ h0))
  exact root_one h1 h2 h.1 h.2
def stepMost (m : Int × Int) (best : Option (Nat × Rat)) (x : Leg × Nat) : Option (Nat × Rat) := match best with
    | none => some (x.2, alongQ m x.1)
    | some b => if b.2 < alongQ m x.1 then some (x.2, alongQ m x.1) else some b
theorem most_fold (m : Int × Int) (l : List Leg) : LsRun.mostAlong m l = l.zipIdx.foldl (stepMost m) none := rfl
theorem most_first (m : Int × Int) (g : Leg) (l : List Leg) : LsRun.mostAlong m (g :: l) = ((g :: l).zipIdx).foldl (stepMost m) (some (0, alongQ m g)) := by
  rw [most_fold, List.zipIdx_cons, List.foldl_cons, List.foldl_cons]
  congr 1
  show some (0, alongQ m g) = if alongQ m g < alongQ m g then some (0, alongQ m g) else some (0, alongQ m g)
  rw [ite_self]
section
variable {P : Program} {w : World} {K : PySem.W.Frag} {mg : Str → Option Value} {base : Heap}
theorem sc_mean_place : FnScope ["book", "runs", "point", "easts", "norths", "run", "east", "north"] ["book", "runs", "point"] (defScope s_mean_place) := ⟨rfl, rfl, rfl, by decide +kernel, rfl, by decide +kernel, by decide +kernel⟩
theorem ok_mean_place (T : Txt K mg) : Def P w K mg base CX0 5 "mean_place" ["book", "runs", "point"] (spMean K) := by
  refine T.def_ 60 47 rfl rfl rfl rfl rfl sc_mean_place (fun _ _ _ _ _ _ us hl => match us, hl with | [_, _, _], _ => rfl) (fun vs H Q E h => by first | (obtain ⟨_, rfl, _⟩ := h; rfl) | (obtain ⟨_, _, rfl, _⟩ := h; rfl) | (obtain ⟨_, _, _, rfl, _⟩ := h; rfl) | (obtain ⟨_, _, _, _, rfl, _⟩ := h; rfl) | (obtain ⟨_, _, _, _, _, rfl, _⟩ := h; rfl) | (obtain ⟨_, _, _, _, _, _, rfl, _⟩ := h; rfl) | (obtain ⟨_, _, _, _, _, _, _, rfl, _⟩ := h; rfl) | (obtain ⟨_, _, _, _, _, _, _, _, rfl, _⟩ := h; rfl) | (obtain ⟨_, _, _, _, _, _, _, _, _, rfl, _⟩ := h; rfl) | (obtain ⟨_, _, _, _, _, _, _, _, _, _, rfl, _⟩ := h; rfl) | (obtain ⟨_, _, _, _, _, _, _, _, _, _, _, rfl, _⟩ := h; rfl) | (obtain ⟨_, _, _, _, _, _, _, _, _, _, _, _, rfl, _⟩ := h; rfl) | (obtain ⟨_, _, _, _, _, _, _, _, _, _, _, _, _, rfl, _⟩ := h; rfl) | (obtain ⟨_, _, _, _, _, _, _, _, _, _, _, _, _, _, rfl, _⟩ := h; rfl) | (obtain ⟨_, _, _, _, _, _, _, _, _, _, _, _, _, _, _, rfl, _⟩ := h; rfl) | (obtain ⟨_, _, _, _, _, _, _, _, _, _, _, _, _, _, _, _, rfl, _⟩ := h; rfl) | (obtain ⟨_, _, _, _, _, _, _, _, _, _, _, _, _, _, _, _, _, rfl, _⟩ := h; rfl) | (obtain ⟨_, _, _, _, _, _, _, _, _, _, _, _, _, _, _, _, _, _, rfl, _⟩ := h; rfl) | (obtain ⟨_, _, _, _, _, _, _, _, _, _, _, _, _, _, _, _, _, _, _, rfl, _⟩ := h; rfl)) (fun f cdv A outer s H vs Q E hr h => ⟨_, PSs.nox (pss_cons (ps_set (i := 3) sc_mean_place.nd rfl (Or.inl rfl) (pe_tup (pa_cons pe_int (pa_cons pe_int pa_nil)))) (pss_cons (ps_set (i := 4) sc_mean_place.nd rfl (Or.inl rfl) (pe_tup (pa_cons pe_int (pa_cons pe_int pa_nil)))) (pss_cons (ps_for PassesOwn.never rfl (pi_list (pv 1)) (pg_name (i := 5) sc_mean_place.nd rfl (Or.inl rfl)) (pss_cons (ps_asg (pe_cd (ok_place_by T) hr pass0 (pa_cons (pv 0) (pa_cons (pv 5) (pa_cons (pv 2) pa_nil)))) (pg_tup rfl (pgs_cons (pg_name (i := 6) sc_mean_place.nd rfl (Or.inl rfl)) (pgs_cons (pg_name (i := 7) sc_mean_place.nd rfl (Or.inl rfl)) pgs_nil)))) (pss_cons (ps_set (i := 3) sc_mean_place.nd rfl (Or.inl rfl) (pe_cd (ok_plus T) hr pass0 (pa_cons (pv 3) (pa_cons (pv 6) pa_nil)))) (pss_one (ps_set (i := 4) sc_mean_place.nd rfl (Or.inl rfl) (pe_cd (ok_plus T) hr pass0 (pa_cons (pv 4) (pa_cons (pv 7) pa_nil)))))))) (pss_one (ps_ret (pe_tup (pa_cons (pe_cd (ok_through T) hr pass0 (pa_cons (pv 3) (pa_cons (pe_callB call_len (by rfl) (T.free 160 rfl) (by decide +kernel) (pa_cons (pv 1) pa_nil)) pa_nil))) (pa_cons (pe_cd (ok_through T) hr pass0 (pa_cons (pv 4) (pa_cons (pe_callB call_len (by rfl) (T.free 160 rfl) (by decide +kernel) (pa_cons (pv 1) pa_nil)) pa_nil))) pa_nil)))))))), ?_⟩)
  obtain ⟨b, l, n, L, ws, rfl, hl, hE, h0, h16, hP, k⟩ := h
  refine (sv_setP (P := FracAt K (sumQ [])) (evp_pr ev_c ev_c) fun x H1 e1 hx => ?_).go
  refine sv_setP (P := FracAt K (sumQ [])) (evp_pr ev_c ev_c) fun y H2 e2 hy => ?_
  have hlen := each_len hE
  rw [List.length_map] at hlen
  refine sv_forM (xs := ws) (ev_var rfl) (ex_l (e1.trans e2) hl) (fun i σ' H' => ∃ (x y : V) (z0 z1 z2 : Option V), σ' = [some b, some (.ref l), some (.int (n : Int)), some x, some y, z0, z1, z2] ∧ Ex H H' ∧
    FracAt K (sumQ ((L.take i).map fun x => x.2.1)) x H' ∧ FracAt K (sumQ ((L.take i).map fun x => x.2.2)) y H' ∧ FrB (1 + 61 * i) (sumQ ((L.take i).map fun x => x.2.1)) ∧ FrB (1 + 61 * i) (sumQ ((L.take i).map fun x => x.2.2))) ?_ ?_ ?_ ?_
  · rintro i σ' H' ⟨x, y, z0, z1, z2, rfl, e', _⟩
    exact ex_l e' hl
  · intro H3 e3
    exact ⟨x, y, none, none, none, rfl, (e1.trans e2).trans e3, stay_FracAt _ _ _ _ (e2.trans e3) hx, stay_FracAt _ _ _ _ e3 hy, frB0, frB0⟩
  · rintro i u σ' H' hi ⟨x, y, z0, z1, z2, rfl, e', hx, hy, fx, fy⟩
    obtain ⟨g, hg, hgu⟩ := each_mem (each_stay (stay_map fun x : RunBook.Run × Spot => stay_RunAt x.1) _ _ _ e' hE) hi
    have hiL := (List.getElem?_eq_some_iff.mp hg).1
    have hgP := hP g (List.mem_of_getElem? hg)
    have hfr := hgP.fr
    obtain ⟨hs, p, q, j, kp, kq, sp, sq, g0, hj, hsj⟩ := hgP
    refine (sv_unpE2 (evp_call (P := TpE K [FracAt K g.2.1, FracAt K g.2.2]) (ea_cons (ev_var rfl) (ea_cons (ev_var rfl) (ea_cons (ev_var rfl) ea_nil))) fun H3 e Q k => ⟨b, u, n, g.1, p, q, j, rfl, stay_RunAt _ _ _ _ e hgu, hs, kp.mono (e'.trans e), kq.mono (e'.trans e), sp, sq, g0, hj, fun v H4 e4 h4 => k v H4 e4 (by rw [hsj]; exact tpE_of h4)⟩) fun x1 y1 H3 e3 hx1 hy1 => ?_).go
    obtain ⟨ax, rfl, hx⟩ := hx
    obtain ⟨ay, rfl, hy⟩ := hy
    obtain ⟨ax1, rfl, hx1⟩ := hx1
    obtain ⟨ay1, rfl, hy1⟩ := hy1
    have et1 : sumQ ((L.take (i + 1)).map fun x => x.2.1) = sumQ ((L.take i).map fun x => x.2.1) + g.2.1 := by
      unfold sumQ
      rw [List.take_succ, hg, List.map_append, List.foldl_append]
      rfl
    have et2 : sumQ ((L.take (i + 1)).map fun x => x.2.2) = sumQ ((L.take i).map fun x => x.2.2) + g.2.2 := by
      unfold sumQ
      rw [List.take_succ, hg, List.map_append, List.foldl_append]
      rfl
    refine sv_setP (P := FracAt K (sumQ ((L.take (i + 1)).map fun x => x.2.1))) (evp_call (ea_cons (ev_var rfl) (ea_cons (ev_var rfl) ea_nil)) fun H4 e Q k => ⟨ax, ax1, _, _, 1 + 61 * i, 60, rfl, ex_t (e3.trans e) hx, ex_t e hx1, fx, hfr.1, by omega, by decide, by omega, by rw [et1] at k; exact k⟩) fun u1 H4 e4 h4 => ?_
    intro H5 e5
    refine evp_call (P := FracAt K (sumQ ((L.take (i + 1)).map fun x => x.2.2))) (ea_cons (ev_var rfl) (ea_cons (ev_var rfl) ea_nil)) (fun H6 e Q k => ⟨ay, ay1, _, _, 1 + 61 * i, 60, rfl, ex_t ((e3.trans e4).trans (e5.trans e)) hy, ex_t (e4.trans (e5.trans e)) hy1, fy, hfr.2, by omega, by decide, by omega, by rw [et2] at k; exact k⟩) H5 (Ex.refl H5) _ fun u2 H6 e6 h6 => ?_
    refine ⟨u1, u2, _, _, _, rfl, ((e'.trans e3).trans e4).trans (e5.trans e6), stay_FracAt _ _ _ _ (e5.trans e6) h4, h6, ?_, ?_⟩
    · rw [et1]
      exact (frB_add fx hfr.1).mono (by omega)
    · rw [et2]
      exact (frB_add fy hfr.2).mono (by omega)
  · rintro σ' H' ⟨x, y, z0, z1, z2, rfl, e', hx, hy, fx, fy⟩
    rw [hlen, List.take_length] at hx hy fx fy
    obtain ⟨ax, rfl, hx⟩ := hx
    obtain ⟨ay, rfl, hy⟩ := hy
    refine Sv.go (sv_retP (evp_pr2 (P1 := FracAt K (sumQ (L.map fun x => x.2.1) / (L.length : Rat))) (P2 := FracAt K (sumQ (L.map fun x => x.2.2) / (L.length : Rat))) (evp_call (ea_cons (ev_var rfl) (ea_cons (ev_len1 (ev_var rfl) (ex_l e' hl)) ea_nil)) fun H3 e Q k => ?_) (evp_call (ea_cons (ev_var rfl) (ea_cons (ev_len1 (ev_var rfl) (ex_l e' hl)) ea_nil)) fun H3 e Q k => ?_) stay_Tp stay_Tp) fun v H3 e3 h3 => k v H3 (e'.trans e3) h3)
    · exact ⟨ax, _, 1 + 61 * L.length, L.length, by rw [hlen], ex_t e hx, by rw [← hlen] at fx ⊢; exact fx, by omega, by omega, h0, by omega, k⟩
    · exact ⟨ay, _, 1 + 61 * L.length, L.length, by rw [hlen], ex_t e hy, by rw [← hlen] at fy ⊢; exact fy, by omega, by omega, h0, by omega, k⟩
theorem sc_double_area : FnScope ["book", "run", "places", "whole", "together", "at", "east", "north", "next_east", "next_north"] ["book", "run"] (defScope s_double_area) := ⟨rfl, rfl, rfl, by decide +kernel, rfl, by decide +kernel, by decide +kernel⟩
theorem ok_double_area (T : Txt K mg) : Def P w K mg base CX0 4 "double_area" ["book", "run"] (spArea K) := by
  refine T.def_ 61 48 rfl rfl rfl rfl rfl sc_double_area (fun _ _ _ _ _ _ us hl => match us, hl with | [_, _], _ => rfl) (fun vs H Q E h => by first | (obtain ⟨_, rfl, _⟩ := h; rfl) | (obtain ⟨_, _, rfl, _⟩ := h; rfl) | (obtain ⟨_, _, _, rfl, _⟩ := h; rfl) | (obtain ⟨_, _, _, _, rfl, _⟩ := h; rfl) | (obtain ⟨_, _, _, _, _, rfl, _⟩ := h; rfl) | (obtain ⟨_, _, _, _, _, _, rfl, _⟩ := h; rfl) | (obtain ⟨_, _, _, _, _, _, _, rfl, _⟩ := h; rfl) | (obtain ⟨_, _, _, _, _, _, _, _, rfl, _⟩ := h; rfl) | (obtain ⟨_, _, _, _, _, _, _, _, _, rfl, _⟩ := h; rfl) | (obtain ⟨_, _, _, _, _, _, _, _, _, _, rfl, _⟩ := h; rfl) | (obtain ⟨_, _, _, _, _, _, _, _, _, _, _, rfl, _⟩ := h; rfl) | (obtain ⟨_, _, _, _, _, _, _, _, _, _, _, _, rfl, _⟩ := h; rfl) | (obtain ⟨_, _, _, _, _, _, _, _, _, _, _, _, _, rfl, _⟩ := h; rfl) | (obtain ⟨_, _, _, _, _, _, _, _, _, _, _, _, _, _, rfl, _⟩ := h; rfl) | (obtain ⟨_, _, _, _, _, _, _, _, _, _, _, _, _, _, _, rfl, _⟩ := h; rfl) | (obtain ⟨_, _, _, _, _, _, _, _, _, _, _, _, _, _, _, _, rfl, _⟩ := h; rfl) | (obtain ⟨_, _, _, _, _, _, _, _, _, _, _, _, _, _, _, _, _, rfl, _⟩ := h; rfl) | (obtain ⟨_, _, _, _, _, _, _, _, _, _, _, _, _, _, _, _, _, _, rfl, _⟩ := h; rfl) | (obtain ⟨_, _, _, _, _, _, _, _, _, _, _, _, _, _, _, _, _, _, _, rfl, _⟩ := h; rfl)) (fun f cdv A outer s H vs Q E hr h => ⟨_, PSs.nox (pss_cons (ps_set (i := 2) sc_double_area.nd rfl (Or.inl rfl) (pe_cd (ok_places_of T) hr pass0 (pa_cons (pv 0) (pa_cons (pv 1) pa_nil)))) (pss_cons (ps_set (i := 3) sc_double_area.nd rfl (Or.inl rfl) (pe_cd (ok_lengths_together T) hr pass0 (pa_cons (pv 1) pa_nil))) (pss_cons (ps_set (i := 4) sc_double_area.nd rfl (Or.inl rfl) pe_int) (pss_cons (ps_for PassesOwn.never rfl (pi_range1 (by rfl) (T.free 164 rfl) (pa_cons (pe_callB call_len (by rfl) (T.free 160 rfl) (by decide +kernel) (pa_cons (pv 2) pa_nil)) pa_nil)) (pg_name (i := 5) sc_double_area.nd rfl (Or.inl rfl)) (pss_cons (ps_asg (pe_ix ix_list (pv 2) (pe_op op_sub (pv 5) pe_int) (fun _ _ => rfl)) (pg_tup rfl (pgs_cons (pg_name (i := 6) sc_double_area.nd rfl (Or.inl rfl)) (pgs_cons (pg_name (i := 7) sc_double_area.nd rfl (Or.inl rfl)) pgs_nil)))) (pss_cons (ps_asg (pe_ix ix_list (pv 2) (pv 5) (fun _ _ => rfl)) (pg_tup rfl (pgs_cons (pg_name (i := 8) sc_double_area.nd rfl (Or.inl rfl)) (pgs_cons (pg_name (i := 9) sc_double_area.nd rfl (Or.inl rfl)) pgs_nil)))) (pss_one (ps_aug (i := 4) sc_double_area.nd rfl (Or.inl rfl) (pe_op op_sub (pe_op op_mulW (pv 6) (pv 9)) (pe_op op_mulW (pv 8) (pv 7))) ip_add))))) (pss_one (ps_ret (pe_cd (ok_fraction T) hr pass0 (pa_cons (pv 4) (pa_cons (pe_op op_mulW (pv 3) (pv 3)) pa_nil))))))))), ?_⟩)
  obtain ⟨b, v, r, p, q, rfl, hR, hs, hp, hq, hsp, hsq, h0, k⟩ := h
  have ht0 := total_pos hs h0
  have ht := total_le24 hs
  have hn := hs.n
  have hle := placesI_le hsp hsq hs
  have hln := placesI_len p q r.legs
  generalize hPl : placesI p q r.legs = Pl at hle hln k
  refine (sv_setP (P := LstOf (Pl.map (TpI K))) (evp_call (ea_cons (ev_var rfl) (ea_cons (ev_var rfl) ea_nil)) fun H1 e Q k => ⟨b, v, r, p, q, rfl, stay_RunAt r _ _ _ e hR, hs, hp.mono e, hq.mono e, hsp, hsq, by rw [hPl]; exact k⟩) fun u H1 e1 hu => ?_).go
  obtain ⟨lp, ws, rfl, hlp, hE⟩ := hu
  have hlw := each_len hE
  rw [List.length_map] at hlw
  refine sv_set (v := .int (LsRun.total r.legs : Int)) (ev_callV (ea_cons (ev_var rfl) ea_nil) fun H2 e Q k => ⟨v, r, rfl, stay_RunAt r _ _ _ (e1.trans e) hR, hs, k⟩) ?_
  refine sv_set (v := .int 0) ev_c ?_
  have at_ : ∀ (i : Nat), i < Pl.length → ∃ u, ws[i]? = some u ∧ TpI K (Pl.getD i (0, 0)) u H1 := by
    intro i hi
    exact each_get hE (i := i) (P := TpI K (Pl.getD i (0, 0))) (by rw [List.getElem?_map, List.getD_eq_getElem?_getD, List.getElem?_eq_getElem hi]; rfl)
  have sm : ∀ (i : Nat), (Pl.getD i (0, 0)).1.natAbs < 2 ^ 60 ∧ (Pl.getD i (0, 0)).2.natAbs < 2 ^ 60 := by
    intro i
    rw [List.getD_eq_getElem?_getD]
    cases e : Pl[i]? with
    | none => decide
    | some z => exact hle z (List.mem_of_getElem? e)
  have smc : ∀ i j : Nat, (cross (Pl.getD i (0, 0)) (Pl.getD j (0, 0))).natAbs < 2 ^ 122 := by
    intro i j
    have a1 : ((Pl.getD i (0, 0)).1 * (Pl.getD j (0, 0)).2).natAbs < 2 ^ 60 * 2 ^ 60 := by
      rw [Int.natAbs_mul]
      exact Nat.mul_lt_mul'' (sm i).1 (sm j).2
    have a2 : ((Pl.getD j (0, 0)).1 * (Pl.getD i (0, 0)).2).natAbs < 2 ^ 60 * 2 ^ 60 := by
      rw [Int.natAbs_mul]
      exact Nat.mul_lt_mul'' (sm j).1 (sm i).2
    unfold cross
    omega
  have sm100 : ∀ x : Int, x.natAbs < 2 ^ 60 → x.natAbs < 2 ^ 100 := fun x h => by omega
  refine sv_forR1 (n := (Pl.length : Int)) (ea_cons (ev_is (ev_len1 (ev_var rfl) (sq_of hlp)) (by rw [hlw])) ea_nil) ⟨by omega, by omega⟩ (fun i σ' H' => ∃ (x0 x1 x2 x3 x4 : Option V), σ' = [some b, some v, some (.ref lp), some (.int (LsRun.total r.legs : Int)), some (.int ((List.range i).map fun k => cross (Pl.getD (if k = 0 then Pl.length - 1 else k - 1) (0, 0)) (Pl.getD k (0, 0))).sum), x0, x1, x2, x3, x4] ∧ Ex H1 H') ?_ ?_ ?_
  · intro H2 e2
    exact ⟨none, none, none, none, none, rfl, e2⟩
  · rintro i σ' H' hi ⟨x0, x1, x2, x3, x4, rfl, e'⟩
    have hi : i < Pl.length := by omega
    obtain ⟨u1, hu1, a1, rfl, ht1⟩ := at_ i hi
    obtain ⟨u2, hu2, a2, rfl, ht2⟩ := at_ (if i = 0 then Pl.length - 1 else i - 1) (by split <;> omega)
    refine Sv.go (sv_unp2 (ev_Tp (ev_ix (i := (i : Int) - 1) (ev_var rfl) (ev_sub (ev_var rfl) ev_c) (sq_of (e' _ _ hlp)) ?_) (ex_t e' ht2)) ?_)
    · by_cases h0 : i = 0
      · subst h0
        rw [if_pos rfl] at hu2
        unfold atI ixN
        rw [if_neg (by omega), if_pos (by omega)]
        have e : ((((0 : Nat) : Int) - 1) + (ws.length : Int)).toNat = Pl.length - 1 := by omega
        rw [e]
        exact hu2
      · rw [if_neg h0] at hu2
        have e : (i : Int) - 1 = ((i - 1 : Nat) : Int) := by omega
        rw [e, atI_nat]
        exact hu2
    refine sv_unp2 (ev_Tp (ev_ix (i := (i : Int)) (ev_var rfl) (ev_var rfl) (sq_of (e' _ _ hlp)) (by rw [atI_nat]; exact hu1)) (ex_t e' ht1)) ?_
    refine sv_augL rfl (ev_sub (ev_mul (ev_var rfl) (ev_var rfl) (sm100 _ (sm _).1) (sm100 _ (sm _).2)) (ev_mul (ev_var rfl) (ev_var rfl) (sm100 _ (sm _).1) (sm100 _ (sm _).2))) fun H2 e2 => ⟨some (.int (i : Int)), some (.int (Pl.getD (if i = 0 then Pl.length - 1 else i - 1) (0, 0)).1), some (.int (Pl.getD (if i = 0 then Pl.length - 1 else i - 1) (0, 0)).2), some (.int (Pl.getD i (0, 0)).1), some (.int (Pl.getD i (0, 0)).2), ?_, e'.trans e2⟩
    rw [List.range_succ, List.map_append, List.sum_append]
    simp only [List.map_cons, List.map_nil, List.sum_cons, List.sum_nil, Int.add_zero]
    rfl
  · rintro σ' H' ⟨x0, x1, x2, x3, x4, rfl, e'⟩
    rw [Int.toNat_natCast]
    have hb : (LsRun.total r.legs : Int).natAbs < 2 ^ 100 := by rw [Int.natAbs_natCast]; omega
    have hT : LsRun.total r.legs * LsRun.total r.legs < 2 ^ 25 * 2 ^ 25 := Nat.mul_lt_mul'' (by omega) (by omega)
    exact Sv.go (sv_retP (evp_frac (d := LsRun.total r.legs * LsRun.total r.legs) (ev_var rfl) (ev_is (ev_mul (ev_var rfl) (ev_var rfl) hb hb) (by rw [Int.natCast_mul])) (Nat.mul_pos ht0 ht0) (Nat.lt_of_lt_of_le (show _ < 2 ^ 100 by omega) (Nat.pow_le_pow_right (by decide) (by decide)))) fun v H2 e2 h2 => k v H2 (e1.trans (e'.trans e2)) h2)
theorem sc_greatest_ratio : FnScope ["whole", "missed", "low", "high", "middle"] ["whole", "missed"] (defScope s_greatest_ratio) := ⟨rfl, rfl, rfl, by decide +kernel, rfl, by decide +kernel, by decide +kernel⟩
theorem ok_greatest_ratio (T : Txt K mg) : Def P w K mg base CX0 1 "greatest_ratio" ["whole", "missed"] spRatio := by
  refine T.def_ 62 49 rfl rfl rfl rfl rfl sc_greatest_ratio (fun _ _ _ _ _ _ us hl => match us, hl with | [_, _], _ => rfl) (fun vs H Q E h => by first | (obtain ⟨_, rfl, _⟩ := h; rfl) | (obtain ⟨_, _, rfl, _⟩ := h; rfl) | (obtain ⟨_, _, _, rfl, _⟩ := h; rfl) | (obtain ⟨_, _, _, _, rfl, _⟩ := h; rfl) | (obtain ⟨_, _, _, _, _, rfl, _⟩ := h; rfl) | (obtain ⟨_, _, _, _, _, _, rfl, _⟩ := h; rfl) | (obtain ⟨_, _, _, _, _, _, _, rfl, _⟩ := h; rfl) | (obtain ⟨_, _, _, _, _, _, _, _, rfl, _⟩ := h; rfl) | (obtain ⟨_, _, _, _, _, _, _, _, _, rfl, _⟩ := h; rfl) | (obtain ⟨_, _, _, _, _, _, _, _, _, _, rfl, _⟩ := h; rfl) | (obtain ⟨_, _, _, _, _, _, _, _, _, _, _, rfl, _⟩ := h; rfl) | (obtain ⟨_, _, _, _, _, _, _, _, _, _, _, _, rfl, _⟩ := h; rfl) | (obtain ⟨_, _, _, _, _, _, _, _, _, _, _, _, _, rfl, _⟩ := h; rfl) | (obtain ⟨_, _, _, _, _, _, _, _, _, _, _, _, _, _, rfl, _⟩ := h; rfl) | (obtain ⟨_, _, _, _, _, _, _, _, _, _, _, _, _, _, _, rfl, _⟩ := h; rfl) | (obtain ⟨_, _, _, _, _, _, _, _, _, _, _, _, _, _, _, _, rfl, _⟩ := h; rfl) | (obtain ⟨_, _, _, _, _, _, _, _, _, _, _, _, _, _, _, _, _, rfl, _⟩ := h; rfl) | (obtain ⟨_, _, _, _, _, _, _, _, _, _, _, _, _, _, _, _, _, _, rfl, _⟩ := h; rfl) | (obtain ⟨_, _, _, _, _, _, _, _, _, _, _, _, _, _, _, _, _, _, _, rfl, _⟩ := h; rfl)) (fun f cdv A outer s H vs Q E hr h => ⟨_, PSs.nox (pss_cons (ps_set (i := 2) sc_greatest_ratio.nd rfl (Or.inl rfl) pe_int) (pss_cons (ps_set (i := 3) sc_greatest_ratio.nd rfl (Or.inl rfl) (pv 0)) (pss_cons (ps_while PassesOwn.never (pt_cmpR op_lt (pv 2) (pv 3) (nomark _)) (pss_cons (ps_set (i := 4) sc_greatest_ratio.nd rfl (Or.inl rfl) (pe_op op_fdivW (pe_op op_add (pe_op op_add (pv 2) (pv 3)) pe_int) pe_int)) (pss_one (ps_if (pt_cmpR op_le (pe_op op_mulW (pe_op op_mulW (pv 4) (pv 4)) (pv 1)) (pe_op op_mulW (pv 0) (pv 0)) (nomark _)) (pss_one (ps_set (i := 2) sc_greatest_ratio.nd rfl (Or.inl rfl) (pv 4))) (pss_one (ps_set (i := 3) sc_greatest_ratio.nd rfl (Or.inl rfl) (pe_op op_sub (pv 4) pe_int))))))) (pss_one (ps_ret (pv 2)))))), ?_⟩)
  obtain ⟨t, q, rfl, h0, hq, ht, k⟩ := h
  refine (sv_set (v := .int ((0 : Nat) : Int)) ev_c (sv_set (ev_var rfl) ?_)).go
  intro H1 e1
  refine q_while (fun m σ' H' => ∃ (lo hi : Nat) (r : Option V), σ' = [some (.int (t : Int)), some (.int (q : Int)), some (.int (lo : Int)), some (.int (hi : Int)), r] ∧ lo * lo * q ≤ t * t ∧ t * t < (hi + 1) * (hi + 1) * q ∧ lo ≤ hi ∧ hi ≤ t ∧ m = hi - lo ∧ Ex H H') t ⟨0, t, none, rfl, by simp, ?_, Nat.zero_le _, Nat.le_refl _, rfl, e1⟩ ?_
  · exact Nat.lt_of_lt_of_le (Nat.mul_lt_mul'' (Nat.lt_succ_self _) (Nat.lt_succ_self _)) (Nat.le_mul_of_pos_right _ h0)
  rintro m σ' H' ⟨lo, hi, r, rfl, h1, h2, h3, h4, hm, e'⟩
  refine ⟨decide ((lo : Int) < (hi : Int)), by walk_at "et", fun hb H2 e2 => ?_, fun hb H2 e2 => ?_⟩
  · have hb := of_decide_eq_true hb
    refine ⟨_, fun σ2 H2 h => h, ?_⟩
    have hmid : (lo + hi + 1) / 2 ≤ hi := by omega
    refine Sv.go (sv_set (v := .int (((lo + hi + 1) / 2 : Nat) : Int)) (ev_is (ev_op (x := .int ((lo : Int) + hi + 1)) (y := .int 2) (ev_add (ev_add (ev_var rfl) (ev_var rfl)) ev_c) ev_c (rv_I (show CDivW ((lo : Int) + hi + 1) 2 from wide_div (b := 2) (by decide) (by decide) (by decide) (by decide)))) (by congr 1)) ?_)
    generalize hmm : (lo + hi + 1) / 2 = mid at hmid
    have hb60 : ∀ z : Nat, z ≤ t → ((z : Int)).natAbs < 2 ^ 100 := fun z hz => by rw [Int.natAbs_natCast]; omega
    have hmm2 : ((mid : Int) * (mid : Int)).natAbs < 2 ^ 100 := by
      rw [Int.natAbs_mul, Int.natAbs_natCast]
      have : mid * mid < 2 ^ 25 * 2 ^ 25 := Nat.mul_lt_mul'' (by omega) (by omega)
      omega
    refine sv_if (b := decide (mid * mid * q ≤ t * t)) (et_is (et_test (ev_op (ev_mul (ev_mul (ev_var rfl) (ev_var rfl) (hb60 _ (by omega)) (hb60 _ (by omega))) (ev_var rfl) hmm2 (by rw [Int.natAbs_natCast]; omega)) (ev_mul (ev_var rfl) (ev_var rfl) (hb60 _ (by omega)) (hb60 _ (by omega))) rv_I0)) ?_) (fun hc => ?_) fun hc => ?_
    · rw [Bool.eq_iff_iff]
      simp only [decide_eq_true_eq]
      rw [← Int.natCast_mul, ← Int.natCast_mul, ← Int.natCast_mul, Int.ofNat_le]
    · have hc := of_decide_eq_true hc
      refine sv_last (ev_var rfl) fun H3 e3 => ?_
      exact ⟨hi - mid, by omega, mid, hi, _, rfl, hc, h2, hmid, h4, rfl, (e'.trans e2).trans e3⟩
    · have hc := of_decide_eq_false hc
      refine sv_last (v := .int ((mid - 1 : Nat) : Int)) (ev_is (ev_sub (ev_var rfl) ev_c) (by congr 1; omega)) fun H3 e3 => ?_
      have e : mid - 1 + 1 = mid := by omega
      exact ⟨mid - 1 - lo, by omega, lo, mid - 1, _, rfl, h1, by rw [e]; omega, by omega, by omega, rfl, (e'.trans e2).trans e3⟩
  · have hb := of_decide_eq_false hb
    have e : lo = hi := by omega
    subst e
    rw [← root_is h0 ht h1 h2] at k
    exact (sv_ret (ev_var rfl) fun H3 e3 => k H3 ((e'.trans e2).trans e3)).go
theorem sc_along : FnScope ["leg", "miss", "onto"] ["leg", "miss"] (defScope s_along) := ⟨rfl, rfl, rfl, by decide +kernel, rfl, by decide +kernel, by decide +kernel⟩
theorem ok_along (T : Txt K mg) : Def P w K mg base CX0 3 "along" ["leg", "miss"] (spAlong K) := by
  refine T.def_ 63 50 rfl rfl rfl rfl rfl sc_along (fun _ _ _ _ _ _ us hl => match us, hl with | [_, _], _ => rfl) (fun vs H Q E h => by first | (obtain ⟨_, rfl, _⟩ := h; rfl) | (obtain ⟨_, _, rfl, _⟩ := h; rfl) | (obtain ⟨_, _, _, rfl, _⟩ := h; rfl) | (obtain ⟨_, _, _, _, rfl, _⟩ := h; rfl) | (obtain ⟨_, _, _, _, _, rfl, _⟩ := h; rfl) | (obtain ⟨_, _, _, _, _, _, rfl, _⟩ := h; rfl) | (obtain ⟨_, _, _, _, _, _, _, rfl, _⟩ := h; rfl) | (obtain ⟨_, _, _, _, _, _, _, _, rfl, _⟩ := h; rfl) | (obtain ⟨_, _, _, _, _, _, _, _, _, rfl, _⟩ := h; rfl) | (obtain ⟨_, _, _, _, _, _, _, _, _, _, rfl, _⟩ := h; rfl) | (obtain ⟨_, _, _, _, _, _, _, _, _, _, _, rfl, _⟩ := h; rfl) | (obtain ⟨_, _, _, _, _, _, _, _, _, _, _, _, rfl, _⟩ := h; rfl) | (obtain ⟨_, _, _, _, _, _, _, _, _, _, _, _, _, rfl, _⟩ := h; rfl) | (obtain ⟨_, _, _, _, _, _, _, _, _, _, _, _, _, _, rfl, _⟩ := h; rfl) | (obtain ⟨_, _, _, _, _, _, _, _, _, _, _, _, _, _, _, rfl, _⟩ := h; rfl) | (obtain ⟨_, _, _, _, _, _, _, _, _, _, _, _, _, _, _, _, rfl, _⟩ := h; rfl) | (obtain ⟨_, _, _, _, _, _, _, _, _, _, _, _, _, _, _, _, _, rfl, _⟩ := h; rfl) | (obtain ⟨_, _, _, _, _, _, _, _, _, _, _, _, _, _, _, _, _, _, rfl, _⟩ := h; rfl) | (obtain ⟨_, _, _, _, _, _, _, _, _, _, _, _, _, _, _, _, _, _, _, rfl, _⟩ := h; rfl)) (fun f cdv A outer s H vs Q E hr h => ⟨_, PSs.nox (pss_cons (ps_set (i := 2) sc_along.nd rfl (Or.inl rfl) (pe_op op_add (pe_op op_mulW (pe_fld (pv 0) rfl) (pe_ix ix_tup (pv 1) pe_int (fun _ _ => rfl))) (pe_op op_mulW (pe_fld (pv 0) rfl) (pe_ix ix_tup (pv 1) pe_int (fun _ _ => rfl))))) (pss_one (ps_ret (pe_cd (ok_fraction T) hr pass0 (pa_cons (pe_op op_mulW (pv 2) (pv 2)) (pa_cons (pe_op op_add (pe_op op_mulW (pe_fld (pv 0) rfl) (pe_fld (pv 0) rfl)) (pe_op op_mulW (pe_fld (pv 0) rfl) (pe_fld (pv 0) rfl))) pa_nil)))))), ?_⟩)
  obtain ⟨v, a, g, m, rfl, hg, hsg, ha, hm, k⟩ := h
  have h1 := hsg.x
  have h2 := hsg.y
  have h3 := hm.x
  have h4 := hm.y
  obtain ⟨q1, q2, q3⟩ := sq_pos hsg
  have key : ∀ (d n : Int), d.natAbs ≤ 99999 → n.natAbs ≤ 3400000 → (d * n).natAbs ≤ 99999 * 3400000 := by
    intro d n hd hn
    rw [Int.natAbs_mul]
    exact Nat.mul_le_mul hd hn
  have k1 := key _ _ h1 h3
  have k2 := key _ _ h2 h4
  have k3 : ((g.dx * m.1 + g.dy * m.2) * (g.dx * m.1 + g.dy * m.2)).natAbs < 2 ^ 100 := by
    rw [Int.natAbs_mul]
    have : (g.dx * m.1 + g.dy * m.2).natAbs < 2 ^ 50 := by omega
    exact Nat.lt_of_lt_of_le (Nat.mul_lt_mul'' this this) (by decide)
  refine (sv_set (v := .int (g.dx * m.1 + g.dy * m.2)) (ev_add (ev_mul (ev_leg2 T (ev_var rfl) hg) (ev_ixT0 (i := 0) (ev_var rfl) ev_c ha rfl) (by omega) (by omega)) (ev_mul (ev_leg3 T (ev_var rfl) hg) (ev_ixT0 (i := 1) (ev_var rfl) ev_c ha rfl) (by omega) (by omega))) ?_).go
  refine sv_retP (evp_frac (ev_mul (ev_var rfl) (ev_var rfl) (by omega) (by omega)) (ev_is (ev_add (ev_mul (ev_leg2 T (ev_var rfl) hg) (ev_leg2 T (ev_var rfl) hg) (by omega) (by omega)) (ev_mul (ev_leg3 T (ev_var rfl) hg) (ev_leg3 T (ev_var rfl) hg) (by omega) (by omega))) (congrArg V.int q3.symm)) q1 (Nat.lt_of_lt_of_le (show _ < 2 ^ 100 by omega) (Nat.pow_le_pow_right (by decide) (by decide)))) fun v H1 e h => k v H1 e ⟨by rw [along_mk]; exact h, by rw [along_mk]; exact frB_mk q1 k3 (by omega)⟩
theorem sc_most_along : FnScope ["run", "miss", "best", "most", "number", "leg", "far"] ["run", "miss"] (defScope s_most_along) := ⟨rfl, rfl, rfl, by decide +kernel, rfl, by decide +kernel, by decide +kernel⟩
theorem ok_most_along (T : Txt K mg) : Def P w K mg base CX0 4 "most_along" ["run", "miss"] (spMost K) := by
  refine T.def_ 64 51 rfl rfl rfl rfl rfl sc_most_along (fun _ _ _ _ _ _ us hl => match us, hl with | [_, _], _ => rfl) (fun vs H Q E h => by first | (obtain ⟨_, rfl, _⟩ := h; rfl) | (obtain ⟨_, _, rfl, _⟩ := h; rfl) | (obtain ⟨_, _, _, rfl, _⟩ := h; rfl) | (obtain ⟨_, _, _, _, rfl, _⟩ := h; rfl) | (obtain ⟨_, _, _, _, _, rfl, _⟩ := h; rfl) | (obtain ⟨_, _, _, _, _, _, rfl, _⟩ := h; rfl) | (obtain ⟨_, _, _, _, _, _, _, rfl, _⟩ := h; rfl) | (obtain ⟨_, _, _, _, _, _, _, _, rfl, _⟩ := h; rfl) | (obtain ⟨_, _, _, _, _, _, _, _, _, rfl, _⟩ := h; rfl) | (obtain ⟨_, _, _, _, _, _, _, _, _, _, rfl, _⟩ := h; rfl) | (obtain ⟨_, _, _, _, _, _, _, _, _, _, _, rfl, _⟩ := h; rfl) | (obtain ⟨_, _, _, _, _, _, _, _, _, _, _, _, rfl, _⟩ := h; rfl) | (obtain ⟨_, _, _, _, _, _, _, _, _, _, _, _, _, rfl, _⟩ := h; rfl) | (obtain ⟨_, _, _, _, _, _, _, _, _, _, _, _, _, _, rfl, _⟩ := h; rfl) | (obtain ⟨_, _, _, _, _, _, _, _, _, _, _, _, _, _, _, rfl, _⟩ := h; rfl) | (obtain ⟨_, _, _, _, _, _, _, _, _, _, _, _, _, _, _, _, rfl, _⟩ := h; rfl) | (obtain ⟨_, _, _, _, _, _, _, _, _, _, _, _, _, _, _, _, _, rfl, _⟩ := h; rfl) | (obtain ⟨_, _, _, _, _, _, _, _, _, _, _, _, _, _, _, _, _, _, rfl, _⟩ := h; rfl) | (obtain ⟨_, _, _, _, _, _, _, _, _, _, _, _, _, _, _, _, _, _, _, rfl, _⟩ := h; rfl)) (fun f cdv A outer s H vs Q E hr h => ⟨_, PSs.nox (pss_cons (ps_set (i := 2) sc_most_along.nd rfl (Or.inl rfl) pe_int) (pss_cons (ps_set (i := 3) sc_most_along.nd rfl (Or.inl rfl) (pe_cd (ok_along T) hr pass0 (pa_cons (pe_ix ix_list (pe_fld (pv 0) rfl) pe_int (fun _ _ => rfl)) (pa_cons (pv 1) pa_nil)))) (pss_cons (ps_for PassesOwn.never rfl (pi_enum (by rfl) (T.free 159 rfl) (pa_cons (pe_fld (pv 0) rfl) pa_nil)) (pg_tup rfl (pgs_cons (pg_name (i := 4) sc_most_along.nd rfl (Or.inl rfl)) (pgs_cons (pg_name (i := 5) sc_most_along.nd rfl (Or.inl rfl)) pgs_nil))) (pss_cons (ps_set (i := 6) sc_most_along.nd rfl (Or.inl rfl) (pe_cd (ok_along T) hr pass0 (pa_cons (pv 5) (pa_cons (pv 1) pa_nil)))) (pss_one (ps_if (pt_val (pe_cd (ok_is_above T) hr pass0 (pa_cons (pv 6) (pa_cons (pv 3) pa_nil)))) (pss_cons (ps_set (i := 2) sc_most_along.nd rfl (Or.inl rfl) (pv 4)) (pss_one (ps_set (i := 3) sc_most_along.nd rfl (Or.inl rfl) (pv 6)))) pss_nil)))) (pss_one (ps_ret (pe_tup (pa_cons (pv 2) (pa_cons (pv 3) pa_nil)))))))), ?_⟩)
  obtain ⟨v, a, r, m, rfl, hR, hs, h0, ha, hm, k⟩ := h
  obtain ⟨ar, dx, l, vs, rfl, hr, hl, hv⟩ := id hR
  have hn := hs.n
  obtain ⟨g0, L, hgL⟩ : ∃ g0 L, r.legs = g0 :: L := by
    cases e : r.legs with
    | nil => rw [e] at h0; exact absurd h0 (by decide)
    | cons g0 L => exact ⟨g0, L, rfl⟩
  have hg0 : r.legs[0]? = some g0 := by rw [hgL]; rfl
  obtain ⟨u0, hu0, hgu0⟩ := each_get hv (i := 0) (P := LegAt K g0) (by rw [List.getElem?_map, hg0]; rfl)
  refine (sv_set (v := .int ((0 : Nat) : Int)) ev_c ?_).go
  refine sv_setP (P := fun v H => FracAt K (alongQ m g0) v H ∧ FrB 100 (alongQ m g0)) (evp_call (ea_cons (ev_ix (ev_run3 T (ev_var rfl) hr) ev_c (sq_of hl) (show atI vs ((0 : Nat) : Int) = some u0 by rw [atI_nat, hu0])) (ea_cons (ev_var rfl) ea_nil)) fun H1 e Q k => ⟨u0, a, g0, m, rfl, stay_LegAt _ _ _ _ e hgu0, hs.l g0 (List.mem_of_getElem? hg0), ex_t e ha, hm, k⟩) fun x H1 e1 hx => ?_
  obtain ⟨hx, fx⟩ := hx
  refine sv_forE (xs := vs) (ev_run3 T (ev_var rfl) (e1 _ _ hr)) (sq_of (e1 _ _ hl)) (fun i σ' H' => ∃ (b : Nat) (q : Rat) (x : V) (x0 x1 x2 : Option V), σ' = [some (.ref ar), some (.ref a), some (.int (b : Int)), some x, x0, x1, x2] ∧ Ex H1 H' ∧ FracAt K q x H' ∧ FrB 100 q ∧
    LsRun.mostAlong m r.legs = ((r.legs.drop i).zipIdx i).foldl (stepMost m) (some (b, q))) ?_ ?_ ?_ ?_ ?_
  · rintro i σ' H' ⟨b, q, x, x0, x1, x2, _, e, _⟩
    exact e
  · intro H2 e2
    exact ⟨0, _, x, none, none, none, rfl, e2, stay_FracAt _ _ _ _ e2 hx, fx, by rw [hgL]; exact most_first m g0 L⟩
  · rintro i σ' H2 H3 e3 ⟨b, q, x, x0, x1, x2, e0, e, h, f, hh⟩
    exact ⟨b, q, x, x0, x1, x2, e0, e.trans e3, stay_FracAt _ _ _ _ e3 h, f, hh⟩
  · rintro i u σ' H2 hi ⟨b, q, x, x0, x1, x2, rfl, e2, hx, fx, hh⟩
    obtain ⟨g, hg, hgu⟩ := each_mem (each_stay (stay_map stay_LegAt) _ _ _ (e1.trans e2) hv) hi
    refine Sv.go (sv_setP (P := fun v H => FracAt K (alongQ m g) v H ∧ FrB 100 (alongQ m g)) (evp_call (ea_cons (ev_var rfl) (ea_cons (ev_var rfl) ea_nil)) fun H3 e Q k => ⟨u, a, g, m, rfl, stay_LegAt _ _ _ _ e hgu, hs.l g (List.mem_of_getElem? hg), ex_t ((e1.trans e2).trans e) ha, hm, k⟩) fun y H3 e3 hy => ?_)
    obtain ⟨hy, fy⟩ := hy
    obtain ⟨ax, rfl, hx⟩ := hx
    obtain ⟨ay, rfl, hy⟩ := hy
    rw [drop_at hg, List.zipIdx_cons, List.foldl_cons] at hh
    refine sv_if (b := decide (q < alongQ m g)) (et_test (ev_callV (ea_cons (ev_var rfl) (ea_cons (ev_var rfl) ea_nil)) fun H4 e Q k => ⟨ay, ax, _, _, 100, 100, rfl, ex_t e hy, ex_t (e3.trans e) hx, fy, fx, by decide, by decide, by decide, k⟩)) (fun hb => ?_) fun hb => ?_
    · have hb := of_decide_eq_true hb
      refine sv_set (v := .int (i : Int)) (ev_var rfl) ?_
      refine sv_last (ev_var rfl) fun H4 e4 => ⟨i, _, _, _, _, _, rfl, (e2.trans e3).trans e4, ⟨ay, rfl, ex_t e4 hy⟩, fy, ?_⟩
      rw [hh]
      congr 1
      show (if q < alongQ m g then some (i, alongQ m g) else some (b, q)) = _
      rw [if_pos hb]
    · have hb := of_decide_eq_false hb
      refine sv_next fun H4 e4 => ⟨b, q, _, _, _, _, rfl, (e2.trans e3).trans e4, ⟨ax, rfl, ex_t (e3.trans e4) hx⟩, fx, ?_⟩
      rw [hh]
      congr 1
      show (if q < alongQ m g then some (i, alongQ m g) else some (b, q)) = _
      rw [if_neg hb]
  · rintro σ' H2 ⟨b, q, x, x0, x1, x2, rfl, e2, hx, fx, hh⟩
    have hln := each_len hv
    rw [List.length_map] at hln
    rw [hln, List.drop_length] at hh
    refine Sv.go (sv_retP (evp_pr2 (P1 := fun v _ => v = .int (b : Int)) (P2 := FracAt K q) (ev_p (ev_var rfl)) (evp_of (ev_var rfl) fun H3 e3 => stay_FracAt _ _ _ _ e3 hx) stay_eq stay_Tp) fun v H3 e3 h3 => k v H3 ((e1.trans e2).trans e3) ⟨(b, q), hh, h3⟩)
end
end Trav
namespace Trav
open LsRun (Leg Reading)
/-! ## readings -/
theorem pow_at {K : PySem.W.Frag} {mg : Str → Option Value} (T : Txt K mg) {H : Hp} : SqT K H (He.ga K "POWERS") [.int 1, .int 10, .int 100, .int 1000, .int 10000] := by
  have h := T.ex
  unfold exB at h
  simp only [Bool.and_eq_true] at h
  exact He.tupB_ok h.2.1 H
def RdAt (K : PySem.W.Frag) (x : Reading) : V → Hp → Prop := Tp K [.int (x.kind : Int), .int (x.place : Int), .int x.dx, .int x.dy]
theorem stay_RdAt {K : PySem.W.Frag} (x : Reading) : Stay (RdAt K x) := stay_Tp
theorem stayN_RdAt {K : PySem.W.Frag} (x : Reading) : StayN (RdAt K x) := stayN_Tp
def spDigitAt : Sp := fun vs H Q _ => ∃ n j : Nat, vs = [.int (n : Int), .int (j : Int)] ∧ j ≤ 4 ∧ RetV (.int (LsRun.digitAt n j : Int)) H Q
def spExch : Sp := fun vs H Q _ => ∃ (z : Int) (j : Nat), vs = [.int z, .int (j : Int)] ∧ j ≤ 3 ∧ z.natAbs ≤ 99999 ∧ RetV (.int (LsRun.exchanged z j)) H Q
def spPairs : Sp := fun vs H Q _ => ∃ z : Int, vs = [.int z] ∧ z.natAbs ≤ 99999 ∧ RetV (.int ((LsRun.digitsIn z.natAbs - 1 : Nat) : Int)) H Q
def allR (g : Leg) : List Reading := ([⟨1, 0, -g.dx, -g.dy⟩, ⟨2, 0, -g.dx, g.dy⟩, ⟨3, 0, g.dx, -g.dy⟩, ⟨4, 0, g.dy, g.dx⟩, ⟨5, 0, 0, 0⟩, ⟨6, 0, 2 * g.dx, 2 * g.dy⟩] : List Reading) ++ ((LsRun.places g.dx).map fun (j : Nat) => (⟨7, j, LsRun.exchanged g.dx j, g.dy⟩ : Reading)) ++ (LsRun.places g.dy).map fun (j : Nat) => (⟨8, j, g.dx, LsRun.exchanged g.dy j⟩ : Reading)
theorem readings_all (g : Leg) : LsRun.readings g = (allR g).filter fun r => !(r.dx == g.dx && r.dy == g.dy) := rfl
def OptAt (K : PySem.W.Frag) (o : Option Reading) : V → Hp → Prop := fun v H => match o with
  | none => v = .non
  | some x => RdAt K x v H
/-! digits -/
theorem digitsIn_le {n : Nat} (h : n ≤ 99999) : 1 ≤ LsRun.digitsIn n ∧ LsRun.digitsIn n ≤ 5 := by
  have h1 := TL.numL_len (n := n) (k := 5) (by decide) (by omega)
  have h2 := TL.numL_ne n
  have e : (TL.numL n).length = LsRun.digitsIn n := by
    unfold TL.numL LsRun.digitsIn
    rw [List.length_map]
  rw [e] at h1
  have h3 : 0 < (TL.numL n).length := List.length_pos_iff.mpr h2
  omega
theorem dig_low (n j : Nat) : LsRun.digitAt n j * 10 ^ j + LsRun.digitAt n (j + 1) * 10 ^ (j + 1) ≤ n := by
  unfold LsRun.digitAt
  have e1 : n / 10 ^ (j + 1) = n / 10 ^ j / 10 := by rw [Nat.pow_succ, Nat.div_div_eq_div_mul]
  rw [e1, Nat.pow_succ]
  have h1 : n / 10 ^ j * 10 ^ j ≤ n := Nat.div_mul_le_self _ _
  have h2 : n / 10 ^ j / 10 % 10 * (10 ^ j * 10) = (n / 10 ^ j / 10 % 10 * 10) * 10 ^ j := by
    rw [Nat.mul_comm (10 ^ j) 10, Nat.mul_assoc]
  rw [h2, ← Nat.add_mul]
  refine Nat.le_trans (Nat.mul_le_mul_right _ ?_) h1
  generalize n / 10 ^ j = m
  omega
theorem pow4 : ∀ j : Nat, j ≤ 4 → ([.int 1, .int 10, .int 100, .int 1000, .int 10000] : List V)[j]? = some (.int ((10 ^ j : Nat) : Int))
  | 0, _ => rfl
  | 1, _ => rfl
  | 2, _ => rfl
  | 3, _ => rfl
  | 4, _ => rfl
  | n + 5, h => absurd h (by omega)
theorem exch_eq {z : Int} {j : Nat} : LsRun.exchanged z j = if z < 0 then -(((z.natAbs : Nat) : Int) + (((LsRun.digitAt z.natAbs j : Nat) : Int) - (LsRun.digitAt z.natAbs (j + 1) : Int)) * ((10 ^ (j + 1) : Nat) : Int) + ((LsRun.digitAt z.natAbs (j + 1) : Int) - (LsRun.digitAt z.natAbs j : Int)) * ((10 ^ j : Nat) : Int))
    else ((z.natAbs : Nat) : Int) + (((LsRun.digitAt z.natAbs j : Nat) : Int) - (LsRun.digitAt z.natAbs (j + 1) : Int)) * ((10 ^ (j + 1) : Nat) : Int) + ((LsRun.digitAt z.natAbs (j + 1) : Int) - (LsRun.digitAt z.natAbs j : Int)) * ((10 ^ j : Nat) : Int) := by
  have h := dig_low z.natAbs j
  unfold LsRun.exchanged
  simp only
  generalize LsRun.digitAt z.natAbs j = a at h ⊢
  generalize LsRun.digitAt z.natAbs (j + 1) = b at h ⊢
  generalize 10 ^ j = p at h ⊢
  generalize 10 ^ (j + 1) = q at h ⊢
  generalize z.natAbs = n at h ⊢
  have e : ((n + b * p + a * q - a * p - b * q : Nat) : Int) = (n : Int) + ((a : Int) - (b : Int)) * (q : Int) + ((b : Int) - (a : Int)) * (p : Int) := by
    rw [Int.sub_mul, Int.sub_mul, ← Int.natCast_mul, ← Int.natCast_mul, ← Int.natCast_mul, ← Int.natCast_mul]
    omega
  rw [e]
theorem exch_small {z : Int} {j : Nat} (hz : z.natAbs ≤ 99999) (hj : j + 1 < LsRun.digitsIn z.natAbs) : (LsRun.exchanged z j).natAbs ≤ 99999 := by
  have hd := (digitsIn_le hz).2
  have h10 : ∀ i, LsRun.digitAt z.natAbs i ≤ 9 := fun i => by unfold LsRun.digitAt; omega
  have key : ∀ n : Nat, n ≤ 99999 → j ≤ 3 → (n : Int) + ((LsRun.digitAt n j : Int) - (LsRun.digitAt n (j + 1) : Int)) * ((10 ^ (j + 1) : Nat) : Int) + ((LsRun.digitAt n (j + 1) : Int) - (LsRun.digitAt n j : Int)) * ((10 ^ j : Nat) : Int) ≤ 99999 ∧
      0 ≤ (n : Int) + ((LsRun.digitAt n j : Int) - (LsRun.digitAt n (j + 1) : Int)) * ((10 ^ (j + 1) : Nat) : Int) + ((LsRun.digitAt n (j + 1) : Int) - (LsRun.digitAt n j : Int)) * ((10 ^ j : Nat) : Int) := by
    intro n hn hj
    unfold LsRun.digitAt
    have hj : j = 0 ∨ j = 1 ∨ j = 2 ∨ j = 3 := by omega
    rcases hj with rfl | rfl | rfl | rfl <;> simp only [Nat.reducePow, Nat.reduceAdd] <;> omega
  have := key z.natAbs hz (by omega)
  rw [exch_eq]
  split <;> omega
section
variable {P : Program} {w : World} {K : PySem.W.Frag} {mg : Str → Option Value} {base : Heap}
theorem sc_digit_at : FnScope ["number", "place"] ["number", "place"] (defScope s_digit_at) := ⟨rfl, rfl, rfl, by decide +kernel, rfl, by decide +kernel, by decide +kernel⟩
theorem ok_digit_at (T : Txt K mg) : Def P w K mg base CX0 1 "digit_at" ["number", "place"] spDigitAt := by
  refine T.def_ 65 52 rfl rfl rfl rfl rfl sc_digit_at (fun _ _ _ _ _ _ us hl => match us, hl with | [_, _], _ => rfl) (fun vs H Q E h => by first | (obtain ⟨_, rfl, _⟩ := h; rfl) | (obtain ⟨_, _, rfl, _⟩ := h; rfl) | (obtain ⟨_, _, _, rfl, _⟩ := h; rfl) | (obtain ⟨_, _, _, _, rfl, _⟩ := h; rfl) | (obtain ⟨_, _, _, _, _, rfl, _⟩ := h; rfl) | (obtain ⟨_, _, _, _, _, _, rfl, _⟩ := h; rfl) | (obtain ⟨_, _, _, _, _, _, _, rfl, _⟩ := h; rfl) | (obtain ⟨_, _, _, _, _, _, _, _, rfl, _⟩ := h; rfl) | (obtain ⟨_, _, _, _, _, _, _, _, _, rfl, _⟩ := h; rfl) | (obtain ⟨_, _, _, _, _, _, _, _, _, _, rfl, _⟩ := h; rfl) | (obtain ⟨_, _, _, _, _, _, _, _, _, _, _, rfl, _⟩ := h; rfl) | (obtain ⟨_, _, _, _, _, _, _, _, _, _, _, _, rfl, _⟩ := h; rfl) | (obtain ⟨_, _, _, _, _, _, _, _, _, _, _, _, _, rfl, _⟩ := h; rfl) | (obtain ⟨_, _, _, _, _, _, _, _, _, _, _, _, _, _, rfl, _⟩ := h; rfl) | (obtain ⟨_, _, _, _, _, _, _, _, _, _, _, _, _, _, _, rfl, _⟩ := h; rfl) | (obtain ⟨_, _, _, _, _, _, _, _, _, _, _, _, _, _, _, _, rfl, _⟩ := h; rfl) | (obtain ⟨_, _, _, _, _, _, _, _, _, _, _, _, _, _, _, _, _, rfl, _⟩ := h; rfl) | (obtain ⟨_, _, _, _, _, _, _, _, _, _, _, _, _, _, _, _, _, _, rfl, _⟩ := h; rfl) | (obtain ⟨_, _, _, _, _, _, _, _, _, _, _, _, _, _, _, _, _, _, _, rfl, _⟩ := h; rfl)) (fun f cdv A outer s H vs Q E hr h => ⟨_, PSs.nox (pss_one (ps_ret (pe_op op_mod (pe_op op_fdivW (pv 0) (pe_ix ix_tup (pe_gr (T.glo 145 rfl)) (pv 1) (fun _ _ => rfl))) pe_int))), ?_⟩)
  obtain ⟨n, j, rfl, hj, k⟩ := h
  have hp : 0 < 10 ^ j := Nat.pow_pos (by decide)
  have hp2 : 10 ^ j ≤ 10 ^ 4 := Nat.pow_le_pow_right (by decide) hj
  refine Sv.go (sv_ret (ev_is (ev_op (x := .int ((n : Int) / ((10 ^ j : Nat) : Int))) (y := .int 10) (ev_op (ev_var rfl) (ev_ixT0 (i := j) ev_c (ev_var rfl) (pow_at T) (pow4 j hj)) (rv_I (wide_div (b := 20) (by omega) (by rw [Int.natAbs_natCast]; omega) (by decide) (by decide)))) ev_c (rv_I (by decide))) ?_) k)
  congr 1
theorem sc_exchanged : FnScope ["number", "place", "size", "low", "high"] ["number", "place"] (defScope s_exchanged) := ⟨rfl, rfl, rfl, by decide +kernel, rfl, by decide +kernel, by decide +kernel⟩
theorem ok_exchanged (T : Txt K mg) : Def P w K mg base CX0 2 "exchanged" ["number", "place"] spExch := by
  refine T.def_ 66 53 rfl rfl rfl rfl rfl sc_exchanged (fun _ _ _ _ _ _ us hl => match us, hl with | [_, _], _ => rfl) (fun vs H Q E h => by first | (obtain ⟨_, rfl, _⟩ := h; rfl) | (obtain ⟨_, _, rfl, _⟩ := h; rfl) | (obtain ⟨_, _, _, rfl, _⟩ := h; rfl) | (obtain ⟨_, _, _, _, rfl, _⟩ := h; rfl) | (obtain ⟨_, _, _, _, _, rfl, _⟩ := h; rfl) | (obtain ⟨_, _, _, _, _, _, rfl, _⟩ := h; rfl) | (obtain ⟨_, _, _, _, _, _, _, rfl, _⟩ := h; rfl) | (obtain ⟨_, _, _, _, _, _, _, _, rfl, _⟩ := h; rfl) | (obtain ⟨_, _, _, _, _, _, _, _, _, rfl, _⟩ := h; rfl) | (obtain ⟨_, _, _, _, _, _, _, _, _, _, rfl, _⟩ := h; rfl) | (obtain ⟨_, _, _, _, _, _, _, _, _, _, _, rfl, _⟩ := h; rfl) | (obtain ⟨_, _, _, _, _, _, _, _, _, _, _, _, rfl, _⟩ := h; rfl) | (obtain ⟨_, _, _, _, _, _, _, _, _, _, _, _, _, rfl, _⟩ := h; rfl) | (obtain ⟨_, _, _, _, _, _, _, _, _, _, _, _, _, _, rfl, _⟩ := h; rfl) | (obtain ⟨_, _, _, _, _, _, _, _, _, _, _, _, _, _, _, rfl, _⟩ := h; rfl) | (obtain ⟨_, _, _, _, _, _, _, _, _, _, _, _, _, _, _, _, rfl, _⟩ := h; rfl) | (obtain ⟨_, _, _, _, _, _, _, _, _, _, _, _, _, _, _, _, _, rfl, _⟩ := h; rfl) | (obtain ⟨_, _, _, _, _, _, _, _, _, _, _, _, _, _, _, _, _, _, rfl, _⟩ := h; rfl) | (obtain ⟨_, _, _, _, _, _, _, _, _, _, _, _, _, _, _, _, _, _, _, rfl, _⟩ := h; rfl)) (fun f cdv A outer s H vs Q E hr h => ⟨_, PSs.nox (pss_cons (ps_set (i := 2) sc_exchanged.nd rfl (Or.inl rfl) (pe_callB call_abs (by rfl) (T.free 158 rfl) (by decide +kernel) (pa_cons (pv 0) pa_nil))) (pss_cons (ps_set (i := 3) sc_exchanged.nd rfl (Or.inl rfl) (pe_cd (ok_digit_at T) hr pass0 (pa_cons (pv 2) (pa_cons (pv 1) pa_nil)))) (pss_cons (ps_set (i := 4) sc_exchanged.nd rfl (Or.inl rfl) (pe_cd (ok_digit_at T) hr pass0 (pa_cons (pv 2) (pa_cons (pe_op op_add (pv 1) pe_int) pa_nil)))) (pss_cons (ps_aug (i := 2) sc_exchanged.nd rfl (Or.inl rfl) (pe_op op_add (pe_op op_mulW (pe_op op_sub (pv 3) (pv 4)) (pe_ix ix_tup (pe_gr (T.glo 145 rfl)) (pe_op op_add (pv 1) pe_int) (fun _ _ => rfl))) (pe_op op_mulW (pe_op op_sub (pv 4) (pv 3)) (pe_ix ix_tup (pe_gr (T.glo 145 rfl)) (pv 1) (fun _ _ => rfl)))) ip_add) (pss_cons (ps_if (pt_cmpR op_lt (pv 0) pe_int (nomark _)) (pss_one (ps_ret (pe_un un_neg (pv 2)))) pss_nil) (pss_one (ps_ret (pv 2)))))))), ?_⟩)
  obtain ⟨z, j, rfl, hj, hz, k⟩ := h
  have hp : 0 < 10 ^ j := Nat.pow_pos (by decide)
  have hp1 : 10 ^ j ≤ 10 ^ 4 := Nat.pow_le_pow_right (by decide) (by omega)
  have hp2 : 10 ^ (j + 1) ≤ 10 ^ 4 := Nat.pow_le_pow_right (by decide) (by omega)
  have h10 : ∀ i, LsRun.digitAt z.natAbs i ≤ 9 := fun i => by unfold LsRun.digitAt; omega
  have ha := h10 j
  have hb := h10 (j + 1)
  have habs : Ev (tCB (fun xs H Q => ∃ i, xs = [.int i] ∧ Q (.int (if i < 0 then -i else i)) H) (tCons (tVar 0) tNil)) (start ["number", "place", "size", "low", "high"] [V.int z, V.int (j : Int)]) H (.int (z.natAbs : Int)) := fun H1 e Q q =>
    ⟨.int z, rfl, z, rfl, by rw [int_abs]; exact q H1 (Ex.refl H1)⟩
  refine Sv.go (sv_set habs ?_)
  refine sv_set (v := .int (LsRun.digitAt z.natAbs j : Int)) (ev_callV (ea_cons (ev_var rfl) (ea_cons (ev_var rfl) ea_nil)) fun H1 e Q k => ⟨z.natAbs, j, rfl, by omega, k⟩) ?_
  refine sv_set (v := .int (LsRun.digitAt z.natAbs (j + 1) : Int)) (ev_callV (ea_cons (ev_var rfl) (ea_cons (ev_add (ev_var rfl) ev_c) ea_nil)) fun H1 e Q k => ⟨z.natAbs, j + 1, rfl, by omega, k⟩) ?_
  refine sv_aug (i := 2) rfl (ev_add (ev_mul (ev_sub (ev_var rfl) (ev_var rfl)) (ev_ixT0 (i := j + 1) ev_c (ev_is (ev_add (ev_var rfl) ev_c) rfl) (pow_at T) (pow4 _ (by omega))) (by omega) (by rw [Int.natAbs_natCast]; omega)) (ev_mul (ev_sub (ev_var rfl) (ev_var rfl)) (ev_ixT0 (i := j) ev_c (ev_var rfl) (pow_at T) (pow4 _ (by omega))) (by omega) (by rw [Int.natAbs_natCast]; omega))) ?_
  rw [exch_eq] at k
  refine sv_when (b := decide (z < 0)) (et_test (ev_op (ev_var rfl) ev_c rv_I0)) (fun hb => ?_) fun hb => ?_
  · rw [if_pos (of_decide_eq_true hb)] at k
    refine sv_ret (ev_is (ev_neg (ev_var rfl)) ?_) k
    congr 2
    rw [Int.add_assoc]
  · rw [if_neg (of_decide_eq_false hb)] at k
    refine sv_ret (ev_is (ev_var rfl) ?_) k
    congr 1
    rw [Int.add_assoc]
theorem sc_digit_pairs : FnScope ["number"] ["number"] (defScope s_digit_pairs) := ⟨rfl, rfl, rfl, by decide +kernel, rfl, by decide +kernel, by decide +kernel⟩
theorem ok_digit_pairs (T : Txt K mg) : Def P w K mg base CX0 1 "digit_pairs" ["number"] spPairs := by
  refine T.def_ 67 54 rfl rfl rfl rfl rfl sc_digit_pairs (fun _ _ _ _ _ _ us hl => match us, hl with | [_], _ => rfl) (fun vs H Q E h => by first | (obtain ⟨_, rfl, _⟩ := h; rfl) | (obtain ⟨_, _, rfl, _⟩ := h; rfl) | (obtain ⟨_, _, _, rfl, _⟩ := h; rfl) | (obtain ⟨_, _, _, _, rfl, _⟩ := h; rfl) | (obtain ⟨_, _, _, _, _, rfl, _⟩ := h; rfl) | (obtain ⟨_, _, _, _, _, _, rfl, _⟩ := h; rfl) | (obtain ⟨_, _, _, _, _, _, _, rfl, _⟩ := h; rfl) | (obtain ⟨_, _, _, _, _, _, _, _, rfl, _⟩ := h; rfl) | (obtain ⟨_, _, _, _, _, _, _, _, _, rfl, _⟩ := h; rfl) | (obtain ⟨_, _, _, _, _, _, _, _, _, _, rfl, _⟩ := h; rfl) | (obtain ⟨_, _, _, _, _, _, _, _, _, _, _, rfl, _⟩ := h; rfl) | (obtain ⟨_, _, _, _, _, _, _, _, _, _, _, _, rfl, _⟩ := h; rfl) | (obtain ⟨_, _, _, _, _, _, _, _, _, _, _, _, _, rfl, _⟩ := h; rfl) | (obtain ⟨_, _, _, _, _, _, _, _, _, _, _, _, _, _, rfl, _⟩ := h; rfl) | (obtain ⟨_, _, _, _, _, _, _, _, _, _, _, _, _, _, _, rfl, _⟩ := h; rfl) | (obtain ⟨_, _, _, _, _, _, _, _, _, _, _, _, _, _, _, _, rfl, _⟩ := h; rfl) | (obtain ⟨_, _, _, _, _, _, _, _, _, _, _, _, _, _, _, _, _, rfl, _⟩ := h; rfl) | (obtain ⟨_, _, _, _, _, _, _, _, _, _, _, _, _, _, _, _, _, _, rfl, _⟩ := h; rfl) | (obtain ⟨_, _, _, _, _, _, _, _, _, _, _, _, _, _, _, _, _, _, _, rfl, _⟩ := h; rfl)) (fun f cdv A outer s H vs Q E hr h => ⟨_, PSs.nox (pss_one (ps_ret (pe_op op_sub (pe_callB call_len (by rfl) (T.free 160 rfl) (by decide +kernel) (pa_cons (pe_callTy call_str_int (by rfl) (T.free 166 rfl) (by decide +kernel) (pa_cons (pe_callB call_abs (by rfl) (T.free 158 rfl) (by decide +kernel) (pa_cons (pv 0) pa_nil)) pa_nil)) pa_nil)) pe_int))), ?_⟩)
  obtain ⟨z, rfl, hz, k⟩ := h
  have hd := digitsIn_le hz
  have hn : (z.natAbs : Int).natAbs.log2 < 1920 := by
    rw [Int.natAbs_natCast]
    exact Nat.lt_of_lt_of_le (PySem.Flt.log2_lt_of (k := 17) (by decide) (by omega)) (by decide)
  have e : (Str.ofString (toString ((z.natAbs : Nat) : Int))).length = LsRun.digitsIn z.natAbs := by
    rw [TL.len_tl, TL.tl_num]
    unfold TL.numL LsRun.digitsIn
    rw [List.length_map]
  refine Sv.go (sv_ret (ev_is (ev_sub (i := (LsRun.digitsIn z.natAbs : Int)) (fun H1 e1 Q q => ?_) ev_c) ?_) k)
  · exact ⟨.int z, rfl, z, rfl, z.natAbs, by rw [int_abs], hn, .str (Str.ofString (toString ((z.natAbs : Nat) : Int))), _, rfl, ⟨by rw [e]; exact sz_of (by omega), rfl⟩, by rw [e]; exact q H1 (Ex.refl H1)⟩
  · congr 1
    omega
end
end Trav
namespace Trav
open LsRun (Leg Reading)
/-! ## lists that grow -/
/-- a list of these (of one kind) -/
def Rows (α : Type) (Pr : α → V → Hp → Prop) (L : List α) : V → Hp → Prop := LstOf (L.map Pr)
/-- the turn of a loop that puts one more behind -/
theorem each_snoc {α : Type} {Pr : α → V → Hp → Prop} {L : List α} {x : α} {vs : List V} {v : V} {H : Hp} (h : Each (L.map Pr) vs H) (hv : Pr x v H) : Each ((L ++ [x]).map Pr) (vs ++ [v]) H := by
  rw [List.map_append]
  exact each_append h hv
theorem each_lenM {α : Type} {Pr : α → V → Hp → Prop} {L : List α} {vs : List V} {H : Hp} (h : Each (L.map Pr) vs H) : vs.length = L.length := by
  have := each_len h
  rwa [List.length_map] at this
theorem allR_len (g : Leg) (h : SmL g) : (allR g).length ≤ 14 := by
  have h1 := (digitsIn_le h.x).2
  have h2 := (digitsIn_le h.y).2
  simp only [allR, LsRun.places, List.length_append, List.length_cons, List.length_nil, List.length_map, List.length_range]
  omega
theorem readings_len (g : Leg) (h : SmL g) : (LsRun.readings g).length ≤ 14 := by
  rw [readings_all]
  exact Nat.le_trans (List.length_filter_le _ _) (allR_len g h)
/-- all but the list at l stays -/
def ExB (l : Addr) (H H' : Hp) : Prop := ∀ a o, a ≠ l → H a = some o → H' a = some o
theorem ExB.trans {l : Addr} {H H1 H2 : Hp} (a : ExB l H H1) (b : ExB l H1 H2) : ExB l H H2 := fun x o n h => b x o n (a x o n h)
theorem ex_b {l : Addr} {H H' : Hp} (e : Ex H H') : ExB l H H' := fun a o _ h => e a o h
/-- the list at l, new behind H0, has grown -/
structure Grown (H0 : Hp) (l : Addr) (H H1 : Hp) : Prop where
  ex : Ex H0 H1
  b : ExB l H H1
  n : ExN H H1
/-- a list that is new against H0 -/
def LstNew (H0 : Hp) (Ps : List (V → Hp → Prop)) : V → Hp → Prop := fun v H => ∃ q vs, v = .ref q ∧ H0 q = none ∧ H q = some (.lst vs) ∧ Each Ps vs H
theorem LstNew.of {H0 H : Hp} {Ps : List (V → Hp → Prop)} {v : V} (h : LstNew H0 Ps v H) : LstOf Ps v H := let ⟨q, vs, e, _, hq, hE⟩ := h; ⟨q, vs, e, hq, hE⟩
theorem LstNew.back {H0 H1 H : Hp} {Ps : List (V → Hp → Prop)} {v : V} (h : LstNew H1 Ps v H) (e : Ex H0 H1) : LstNew H0 Ps v H := let ⟨q, vs, ev, h0, hq, hE⟩ := h; ⟨q, vs, ev, fresh_back e h0, hq, hE⟩
def RetL (Ps : List (V → Hp → Prop)) (H : Hp) (Q : VK) : Prop := Ret (LstNew H Ps) H Q
def spAllR (K : PySem.W.Frag) : Sp := fun vs H Q _ => ∃ (v : V) (g : Leg), vs = [v] ∧ LegAt K g v H ∧ SmL g ∧ RetL ((allR g).map (RdAt K)) H Q
def spRead (K : PySem.W.Frag) : Sp := fun vs H Q _ => ∃ (v : V) (g : Leg), vs = [v] ∧ LegAt K g v H ∧ SmL g ∧ RetL ((LsRun.readings g).map (RdAt K)) H Q
def spFind (K : PySem.W.Frag) : Sp := fun vs H Q _ => ∃ (v : V) (g : Leg) (k j : Nat), vs = [v, .int (k : Int), .int (j : Int)] ∧ LegAt K g v H ∧ SmL g ∧ Ret (OptAt K ((LsRun.readings g).find? fun x => x.kind == k && x.place == j)) H Q
theorem range_snoc {α : Type} (F : List α) (f : Nat → α) (i : Nat) : F ++ (List.range (i + 1)).map f = (F ++ (List.range i).map f) ++ [f i] := by
  rw [List.range_succ, List.map_append, List.append_assoc]
  rfl
theorem take_snoc {α : Type} {L : List α} {i : Nat} {x : α} (h : L[i]? = some x) : L.take (i + 1) = L.take i ++ [x] := by
  rw [List.take_succ, h]
  rfl
theorem filter_snoc {α : Type} {L : List α} {c : α → Bool} {i : Nat} {x : α} (h : L[i]? = some x) : (L.take (i + 1)).filter c = (L.take i).filter c ++ if c x = true then [x] else [] := by
  rw [take_snoc h, List.filter_append]
  congr 1
  cases hc : c x <;> simp [hc]
theorem ne_of_new {H : Hp} {p l : Addr} {o : HO} (h : H p = none) (hl : H l = some o) : p ≠ l := fun e => by
  rw [e, hl] at h
  cases h
section
variable {P : Program} {w : World} {K : PySem.W.Frag} {mg : Str → Option Value} {base : Heap} {σ : L2.St} {H : Hp} {ta te : TE} {D : Ends} {tz : TS}
/-- l.append(a tuple), l ours and grown behind H0 -/
theorem q_grow {α : Type} {Pr : α → V → Hp → Prop} {L : List α} {x : α} {l : Addr} {ws : List V} {H0 : Hp} (h0 : H0 l = none) (e0 : Ex H0 H) (hl : H l = some (.lst ws)) (hE : Each (L.map Pr) ws H) (hN : ∀ g, StayN (Pr g)) (hz : L.length < 100000) (ha : Ev ta σ H (.ref l)) (h : EvP te σ H (Pr x))
    (k : ∀ H1 ws', Grown H0 l H H1 → H1 l = some (.lst ws') → Each ((L ++ [x]).map Pr) ws' H1 → tz D σ H1) : tSeq (tDrop (tBM K "list" rAppend ta (tCons te tNil))) tz D σ H :=
  q_appP hl ha h (by rw [each_lenM hE]; exact hz) fun v H1 e1 p => by
    have hw := e1 _ _ hl
    have hup := exN_upd (ys := ws ++ [v]) hw
    exact k _ _ ⟨Ex.mut (e0.trans e1) h0, fun a o hne ha => by rw [upd_ne hne]; exact e1 a o ha, (ex_n e1).trans hup⟩ upd_same (each_snoc (each_stayN (stayN_map hN) ((ex_n e1).trans hup) hE) (hN x _ _ _ hup p))
theorem s_grow {α : Type} {Pr : α → V → Hp → Prop} {L : List α} {x : α} {l : Addr} {ws : List V} {H0 : Hp} (h0 : H0 l = none) (e0 : Ex H0 H) (hl : H l = some (.lst ws)) (hE : Each (L.map Pr) ws H) (hN : ∀ g, StayN (Pr g)) (hz : L.length < 100000) (ha : Ev ta σ H (.ref l)) (h : EvP te σ H (Pr x))
    (k : ∀ H1 ws', Grown H0 l H H1 → H1 l = some (.lst ws') → Each ((L ++ [x]).map Pr) ws' H1 → D.nx σ H1) : tDrop (tBM K "list" rAppend ta (tCons te tNil)) D σ H :=
  sv_appP hl ha h (by rw [each_lenM hE]; exact hz) fun v H1 e1 p => by
    have hw := e1 _ _ hl
    have hup := exN_upd (ys := ws ++ [v]) hw
    exact k _ _ ⟨Ex.mut (e0.trans e1) h0, fun a o hne ha => by rw [upd_ne hne]; exact e1 a o ha, (ex_n e1).trans hup⟩ upd_same (each_snoc (each_stayN (stayN_map hN) ((ex_n e1).trans hup) hE) (hN x _ _ _ hup p))
/-- for over a list that is made on the way -/
theorem sv_forNew {tu : TS} {g : TG} {Ps : List (V → Hp → Prop)} (h : EvP ta σ H (LstNew H Ps)) (go : ∀ a xs H2, Ex H H2 → H a = none → H2 a = some (.lst xs) → Each Ps xs H2 → ∃ Pv : Nat → L2.St → Hp → Prop, (∀ i σ' H', Pv i σ' H' → SqL K H' a xs) ∧ Pv 0 σ H2 ∧
      (∀ i x σ' H1, xs[i]? = some x → Pv i σ' H1 → g x σ' H1 fun σ2 H3 => tu { D with nx := Pv (i + 1), ct := Pv (i + 1), bk := tz D } σ2 H3) ∧ ∀ σ' H', Pv xs.length σ' H' → tz D σ' H') : Sv (tSeq (tFor (iList K ta) g tu) tz) D σ H := fun H1 e =>
  h H1 e _ fun v H2 e2 ⟨a, xs, ev, ha, hx, hE⟩ => by
    subst ev
    obtain ⟨Pv, q1, q2, q3, q4⟩ := go a xs H2 (e.trans e2) ha hx hE
    exact ⟨a, rfl, ⟨xs, sq_of hx⟩, for_list (D := { D with nx := tz D }) Pv q2 (fun i σ' H' _ p => q1 i σ' H' p) q3 q4⟩
theorem sv_forNewL {tu : TS} {g : TG} {Ps : List (V → Hp → Prop)} (h : EvP ta σ H (LstNew H Ps)) (go : ∀ a xs H2, Ex H H2 → H a = none → H2 a = some (.lst xs) → Each Ps xs H2 → ∃ Pv : Nat → L2.St → Hp → Prop, (∀ i σ' H', Pv i σ' H' → SqL K H' a xs) ∧ Pv 0 σ H2 ∧
      (∀ i x σ' H1, xs[i]? = some x → Pv i σ' H1 → g x σ' H1 fun σ2 H3 => tu { D with nx := Pv (i + 1), ct := Pv (i + 1), bk := D.nx } σ2 H3) ∧ ∀ σ' H', Pv xs.length σ' H' → D.nx σ' H') : Sv (tFor (iList K ta) g tu) D σ H := fun H1 e =>
  h H1 e _ fun v H2 e2 ⟨a, xs, ev, ha, hx, hE⟩ => by
    subst ev
    obtain ⟨Pv, q1, q2, q3, q4⟩ := go a xs H2 (e.trans e2) ha hx hE
    exact ⟨a, rfl, ⟨xs, sq_of hx⟩, for_list Pv q2 (fun i σ' H' _ p => q1 i σ' H' p) q3 q4⟩
/-- return [..] -/
theorem sv_retNew {H0 : Hp} {Ps : List (V → Hp → Prop)} {ta : TA} {σ : L2.St} (h : EvAP ta σ H (Each Ps)) (hs : ∀ P ∈ Ps, Stay P) (hl : Ps.length ≤ 100000) (e0 : Ex H0 H) (k : RetL Ps H0 D.rt) : Sv (tRet (tLst ta)) D σ H := fun H1 e1 =>
  h H1 e1 _ fun vs H2 e2 p => ⟨sz_of (by rw [each_len p]; exact hl), fun q hq => k _ _ ((e0.trans (e1.trans e2)).trans (Ex.new hq)) ⟨q, vs, rfl, fresh_back (e0.trans (e1.trans e2)) hq, upd_same, each_stay hs _ _ _ (Ex.new hq) p⟩⟩
theorem evp_callN {sp : Sp} {vs : List V} {Ps : List (V → Hp → Prop)} {E : XK} {ta : TA} (h : EvA ta σ H vs) (hs : ∀ H1, Ex H H1 → ∀ Q : VK, RetL Ps H1 Q → sp vs H1 Q E) : EvP (tCall sp [] E ta) σ H (LstNew H Ps) :=
  evp_call h fun H1 e Q k => hs H1 e Q fun v H2 e2 h2 => k v H2 e2 (h2.back e)
theorem evp_rd {tb tc td : TE} {x : Reading} (ha : Ev ta σ H (.int (x.kind : Int))) (hb : Ev tb σ H (.int (x.place : Int))) (hc : Ev tc σ H (.int x.dx)) (hd : Ev td σ H (.int x.dy)) : EvP (tTup (tCons ta (tCons tb (tCons tc (tCons td tNil))))) σ H (RdAt K x) :=
  newT_Tp (evp_tup (ea_cons ha (ea_cons hb (ea_cons hc (ea_cons hd ea_nil)))) (by show 4 ≤ 100000; decide))
theorem sc_all_readings : FnScope ["leg", "east", "north", "readings", "place"] ["leg"] (defScope s_all_readings) := ⟨rfl, rfl, rfl, by decide +kernel, rfl, by decide +kernel, by decide +kernel⟩
theorem ok_all_readings (T : Txt K mg) : Def P w K mg base CX0 3 "all_readings" ["leg"] (spAllR K) := by
  refine T.def_ 68 55 rfl rfl rfl rfl rfl sc_all_readings (fun _ _ _ _ _ _ us hl => match us, hl with | [_], _ => rfl) (fun vs H Q E h => by first | (obtain ⟨_, rfl, _⟩ := h; rfl) | (obtain ⟨_, _, rfl, _⟩ := h; rfl) | (obtain ⟨_, _, _, rfl, _⟩ := h; rfl) | (obtain ⟨_, _, _, _, rfl, _⟩ := h; rfl) | (obtain ⟨_, _, _, _, _, rfl, _⟩ := h; rfl) | (obtain ⟨_, _, _, _, _, _, rfl, _⟩ := h; rfl) | (obtain ⟨_, _, _, _, _, _, _, rfl, _⟩ := h; rfl) | (obtain ⟨_, _, _, _, _, _, _, _, rfl, _⟩ := h; rfl) | (obtain ⟨_, _, _, _, _, _, _, _, _, rfl, _⟩ := h; rfl) | (obtain ⟨_, _, _, _, _, _, _, _, _, _, rfl, _⟩ := h; rfl) | (obtain ⟨_, _, _, _, _, _, _, _, _, _, _, rfl, _⟩ := h; rfl) | (obtain ⟨_, _, _, _, _, _, _, _, _, _, _, _, rfl, _⟩ := h; rfl) | (obtain ⟨_, _, _, _, _, _, _, _, _, _, _, _, _, rfl, _⟩ := h; rfl) | (obtain ⟨_, _, _, _, _, _, _, _, _, _, _, _, _, _, rfl, _⟩ := h; rfl) | (obtain ⟨_, _, _, _, _, _, _, _, _, _, _, _, _, _, _, rfl, _⟩ := h; rfl) | (obtain ⟨_, _, _, _, _, _, _, _, _, _, _, _, _, _, _, _, rfl, _⟩ := h; rfl) | (obtain ⟨_, _, _, _, _, _, _, _, _, _, _, _, _, _, _, _, _, rfl, _⟩ := h; rfl) | (obtain ⟨_, _, _, _, _, _, _, _, _, _, _, _, _, _, _, _, _, _, rfl, _⟩ := h; rfl) | (obtain ⟨_, _, _, _, _, _, _, _, _, _, _, _, _, _, _, _, _, _, _, rfl, _⟩ := h; rfl)) (fun f cdv A outer s H vs Q E hr h => ⟨_, PSs.nox (pss_cons (ps_set (i := 1) sc_all_readings.nd rfl (Or.inl rfl) (pe_fld (pv 0) rfl)) (pss_cons (ps_set (i := 2) sc_all_readings.nd rfl (Or.inl rfl) (pe_fld (pv 0) rfl)) (pss_cons (ps_set (i := 3) sc_all_readings.nd rfl (Or.inl rfl) (pe_lst (pa_cons (pe_tup (pa_cons (pe_gi (T.int 137 rfl)) (pa_cons pe_int (pa_cons (pe_un un_neg (pv 1)) (pa_cons (pe_un un_neg (pv 2)) pa_nil))))) (pa_cons (pe_tup (pa_cons (pe_gi (T.int 138 rfl)) (pa_cons pe_int (pa_cons (pe_un un_neg (pv 1)) (pa_cons (pv 2) pa_nil))))) (pa_cons (pe_tup (pa_cons (pe_gi (T.int 139 rfl)) (pa_cons pe_int (pa_cons (pv 1) (pa_cons (pe_un un_neg (pv 2)) pa_nil))))) (pa_cons (pe_tup (pa_cons (pe_gi (T.int 140 rfl)) (pa_cons pe_int (pa_cons (pv 2) (pa_cons (pv 1) pa_nil))))) (pa_cons (pe_tup (pa_cons (pe_gi (T.int 141 rfl)) (pa_cons pe_int (pa_cons pe_int (pa_cons pe_int pa_nil))))) (pa_cons (pe_tup (pa_cons (pe_gi (T.int 142 rfl)) (pa_cons pe_int (pa_cons (pe_op op_mulW pe_int (pv 1)) (pa_cons (pe_op op_mulW pe_int (pv 2)) pa_nil))))) pa_nil)))))))) (pss_cons (ps_for PassesOwn.never rfl (pi_range1 (by rfl) (T.free 164 rfl) (pa_cons (pe_cd (ok_digit_pairs T) hr pass0 (pa_cons (pv 1) pa_nil)) pa_nil)) (pg_name (i := 4) sc_all_readings.nd rfl (Or.inl rfl)) (pss_one (ps_expr (pe_bm PySem.F.plainAttrs_list PySem.F.slot_list_append PySem.F.type_list_append mt_append (pv 3) (pa_cons (pe_tup (pa_cons (pe_gi (T.int 143 rfl)) (pa_cons (pv 4) (pa_cons (pe_cd (ok_exchanged T) hr pass0 (pa_cons (pv 1) (pa_cons (pv 4) pa_nil))) (pa_cons (pv 2) pa_nil))))) pa_nil))))) (pss_cons (ps_for PassesOwn.never rfl (pi_range1 (by rfl) (T.free 164 rfl) (pa_cons (pe_cd (ok_digit_pairs T) hr pass0 (pa_cons (pv 2) pa_nil)) pa_nil)) (pg_name (i := 4) sc_all_readings.nd rfl (Or.inl rfl)) (pss_one (ps_expr (pe_bm PySem.F.plainAttrs_list PySem.F.slot_list_append PySem.F.type_list_append mt_append (pv 3) (pa_cons (pe_tup (pa_cons (pe_gi (T.int 144 rfl)) (pa_cons (pv 4) (pa_cons (pv 1) (pa_cons (pe_cd (ok_exchanged T) hr pass0 (pa_cons (pv 2) (pa_cons (pv 4) pa_nil))) pa_nil))))) pa_nil))))) (pss_one (ps_ret (pv 3)))))))), ?_⟩)
  obtain ⟨v, g, rfl, hg, hs, k⟩ := h
  have hx := hs.x
  have hy := hs.y
  have d1 := digitsIn_le hx
  have d2 := digitsIn_le hy
  refine Sv.go (sv_set (ev_leg2 T (ev_var rfl) hg) ?_)
  refine sv_set (ev_leg3 T (ev_var rfl) hg) ?_
  refine sv_lstOf (Ps := ([⟨1, 0, -g.dx, -g.dy⟩, ⟨2, 0, -g.dx, g.dy⟩, ⟨3, 0, g.dx, -g.dy⟩, ⟨4, 0, g.dy, g.dx⟩, ⟨5, 0, 0, 0⟩, ⟨6, 0, 2 * g.dx, 2 * g.dy⟩] : List Reading).map (RdAt K)) (eap_cons (evp_rd ev_c ev_c (ev_neg (ev_var rfl)) (ev_neg (ev_var rfl))) (eap_cons (evp_rd ev_c ev_c (ev_neg (ev_var rfl)) (ev_var rfl)) (eap_cons (evp_rd ev_c ev_c (ev_var rfl) (ev_neg (ev_var rfl)))
    (eap_cons (evp_rd ev_c ev_c (ev_var rfl) (ev_var rfl)) (eap_cons (evp_rd ev_c ev_c ev_c ev_c) (eap_cons (evp_rd ev_c ev_c (ev_mul ev_c (ev_var rfl) (by decide) (by omega)) (ev_mul ev_c (ev_var rfl) (by decide) (by omega))) eap_nil (stay_RdAt _)) (stay_RdAt _)) (stay_RdAt _)) (stay_RdAt _)) (stay_RdAt _)) (stay_RdAt _)) (stay_map stay_RdAt) (by show 6 ≤ 100000; decide) fun l vs0 H1 hl0 e1 hl1 hE1 => ?_
  generalize hF : ([⟨1, 0, -g.dx, -g.dy⟩, ⟨2, 0, -g.dx, g.dy⟩, ⟨3, 0, g.dx, -g.dy⟩, ⟨4, 0, g.dy, g.dx⟩, ⟨5, 0, 0, 0⟩, ⟨6, 0, 2 * g.dx, 2 * g.dy⟩] : List Reading) = F at hE1
  have hFl : F.length = 6 := by rw [← hF]; rfl
  refine sv_forR1 (n := ((LsRun.digitsIn g.dx.natAbs - 1 : Nat) : Int)) (ea_cons (ev_callV (ea_cons (ev_var rfl) ea_nil) fun H1 e Q k => ⟨g.dx, rfl, hx, k⟩) ea_nil) ⟨by omega, by omega⟩ (fun i σ' H' => ∃ (ws : List V) (x0 : Option V), σ' = [some v, some (.int g.dx), some (.int g.dy), some (.ref l), x0] ∧ Ex H H' ∧ H' l = some (.lst ws) ∧
    Each ((F ++ (List.range i).map fun j => (⟨7, j, LsRun.exchanged g.dx j, g.dy⟩ : Reading)).map (RdAt K)) ws H') ?_ ?_ ?_
  · intro H2 e2
    exact ⟨vs0, none, rfl, e1.trans e2, e2 _ _ hl1, by rw [List.range_zero, List.map_nil, List.append_nil]; exact each_stay (stay_map stay_RdAt) _ _ _ e2 hE1⟩
  · rintro i σ' H' hi ⟨ws, x0, rfl, e', hw, hE⟩
    refine s_grow hl0 e' hw hE stayN_RdAt (by rw [List.length_append, List.length_map, List.length_range]; omega) (ev_var rfl) (evp_rd (x := ⟨7, i, LsRun.exchanged g.dx i, g.dy⟩) ev_c (ev_var rfl) (ev_callV (ea_cons (ev_var rfl) (ea_cons (ev_var rfl) ea_nil)) fun H1 e Q k => ⟨g.dx, i, rfl, by omega, hx, k⟩) (ev_var rfl)) fun H2 ws' e2 hw2 hE2 => ⟨ws', some (.int (i : Int)), rfl, e2.ex, hw2, ?_⟩
    rw [range_snoc]
    exact hE2
  · rintro σ' H' ⟨ws, x0, rfl, e', hw, hE⟩
    rw [Int.toNat_natCast] at hE
    have hFx : (F ++ (List.range (LsRun.digitsIn g.dx.natAbs - 1)).map fun j => (⟨7, j, LsRun.exchanged g.dx j, g.dy⟩ : Reading)).length ≤ 10 := by
      rw [List.length_append, List.length_map, List.length_range]
      omega
    generalize hG : (F ++ (List.range (LsRun.digitsIn g.dx.natAbs - 1)).map fun j => (⟨7, j, LsRun.exchanged g.dx j, g.dy⟩ : Reading)) = G at hE hFx
    refine Sv.go (sv_forR1 (n := ((LsRun.digitsIn g.dy.natAbs - 1 : Nat) : Int)) (ea_cons (ev_callV (ea_cons (ev_var rfl) ea_nil) fun H1 e Q k => ⟨g.dy, rfl, hy, k⟩) ea_nil) ⟨by omega, by omega⟩ (fun i σ' H' => ∃ (ws : List V) (x0 : Option V), σ' = [some v, some (.int g.dx), some (.int g.dy), some (.ref l), x0] ∧ Ex H H' ∧ H' l = some (.lst ws) ∧
      Each ((G ++ (List.range i).map fun j => (⟨8, j, g.dx, LsRun.exchanged g.dy j⟩ : Reading)).map (RdAt K)) ws H') ?_ ?_ ?_)
    · intro H2 e2
      exact ⟨ws, x0, rfl, e'.trans e2, e2 _ _ hw, by rw [List.range_zero, List.map_nil, List.append_nil]; exact each_stay (stay_map stay_RdAt) _ _ _ e2 hE⟩
    · rintro i σ' H' hi ⟨ws, x0, rfl, e', hw, hE⟩
      refine s_grow hl0 e' hw hE stayN_RdAt (by rw [List.length_append, List.length_map, List.length_range]; omega) (ev_var rfl) (evp_rd (x := ⟨8, i, g.dx, LsRun.exchanged g.dy i⟩) ev_c (ev_var rfl) (ev_var rfl) (ev_callV (ea_cons (ev_var rfl) (ea_cons (ev_var rfl) ea_nil)) fun H1 e Q k => ⟨g.dy, i, rfl, by omega, hy, k⟩)) fun H2 ws' e2 hw2 hE2 => ⟨ws', some (.int (i : Int)), rfl, e2.ex, hw2, ?_⟩
      rw [range_snoc]
      exact hE2
    · rintro σ' H' ⟨ws, x0, rfl, e', hw, hE⟩
      rw [Int.toNat_natCast] at hE
      refine Sv.go (sv_ret (ev_var rfl) fun H2 e2 => k _ H2 (e'.trans e2) ⟨l, ws, rfl, hl0, e2 _ _ hw, ?_⟩)
      have hA : allR g = G ++ (List.range (LsRun.digitsIn g.dy.natAbs - 1)).map fun j => (⟨8, j, g.dx, LsRun.exchanged g.dy j⟩ : Reading) := by
        rw [← hG, ← hF]
        rfl
      rw [hA]
      exact each_stay (stay_map stay_RdAt) _ _ _ e2 hE
theorem sc_readings_of : FnScope ["leg", "readings", "kind", "place", "east", "north"] ["leg"] (defScope s_readings_of) := ⟨rfl, rfl, rfl, by decide +kernel, rfl, by decide +kernel, by decide +kernel⟩
theorem ok_readings_of (T : Txt K mg) : Def P w K mg base CX0 4 "readings_of" ["leg"] (spRead K) := by
  refine T.def_ 69 56 rfl rfl rfl rfl rfl sc_readings_of (fun _ _ _ _ _ _ us hl => match us, hl with | [_], _ => rfl) (fun vs H Q E h => by first | (obtain ⟨_, rfl, _⟩ := h; rfl) | (obtain ⟨_, _, rfl, _⟩ := h; rfl) | (obtain ⟨_, _, _, rfl, _⟩ := h; rfl) | (obtain ⟨_, _, _, _, rfl, _⟩ := h; rfl) | (obtain ⟨_, _, _, _, _, rfl, _⟩ := h; rfl) | (obtain ⟨_, _, _, _, _, _, rfl, _⟩ := h; rfl) | (obtain ⟨_, _, _, _, _, _, _, rfl, _⟩ := h; rfl) | (obtain ⟨_, _, _, _, _, _, _, _, rfl, _⟩ := h; rfl) | (obtain ⟨_, _, _, _, _, _, _, _, _, rfl, _⟩ := h; rfl) | (obtain ⟨_, _, _, _, _, _, _, _, _, _, rfl, _⟩ := h; rfl) | (obtain ⟨_, _, _, _, _, _, _, _, _, _, _, rfl, _⟩ := h; rfl) | (obtain ⟨_, _, _, _, _, _, _, _, _, _, _, _, rfl, _⟩ := h; rfl) | (obtain ⟨_, _, _, _, _, _, _, _, _, _, _, _, _, rfl, _⟩ := h; rfl) | (obtain ⟨_, _, _, _, _, _, _, _, _, _, _, _, _, _, rfl, _⟩ := h; rfl) | (obtain ⟨_, _, _, _, _, _, _, _, _, _, _, _, _, _, _, rfl, _⟩ := h; rfl) | (obtain ⟨_, _, _, _, _, _, _, _, _, _, _, _, _, _, _, _, rfl, _⟩ := h; rfl) | (obtain ⟨_, _, _, _, _, _, _, _, _, _, _, _, _, _, _, _, _, rfl, _⟩ := h; rfl) | (obtain ⟨_, _, _, _, _, _, _, _, _, _, _, _, _, _, _, _, _, _, rfl, _⟩ := h; rfl) | (obtain ⟨_, _, _, _, _, _, _, _, _, _, _, _, _, _, _, _, _, _, _, rfl, _⟩ := h; rfl)) (fun f cdv A outer s H vs Q E hr h => ⟨_, PSs.nox (pss_cons (ps_set (i := 1) sc_readings_of.nd rfl (Or.inl rfl) (pe_lst pa_nil)) (pss_cons (ps_for PassesOwn.never rfl (pi_list (pe_cd (ok_all_readings T) hr pass0 (pa_cons (pv 0) pa_nil))) (pg_tup rfl (pgs_cons (pg_name (i := 2) sc_readings_of.nd rfl (Or.inl rfl)) (pgs_cons (pg_name (i := 3) sc_readings_of.nd rfl (Or.inl rfl)) (pgs_cons (pg_name (i := 4) sc_readings_of.nd rfl (Or.inl rfl)) (pgs_cons (pg_name (i := 5) sc_readings_of.nd rfl (Or.inl rfl)) pgs_nil))))) (pss_one (ps_if (PW.pt (pw_or (pt_cmpR op_ne (pv 4) (pe_fld (pv 0) rfl) (nomark _)) (pw_or1 (pt_cmpR op_ne (pv 5) (pe_fld (pv 0) rfl) (nomark _))))) (pss_one (ps_expr (pe_bm PySem.F.plainAttrs_list PySem.F.slot_list_append PySem.F.type_list_append mt_append (pv 1) (pa_cons (pe_tup (pa_cons (pv 2) (pa_cons (pv 3) (pa_cons (pv 4) (pa_cons (pv 5) pa_nil))))) pa_nil)))) pss_nil))) (pss_one (ps_ret (pv 1))))), ?_⟩)
  obtain ⟨v, g, rfl, hg, hs, k⟩ := h
  have hal := allR_len g hs
  refine Sv.go (sv_lstOf (Ps := []) eap_nil (fun P hP => absurd hP List.not_mem_nil) (by decide) fun l vs0 H1 hl0 e1 hl1 hE1 => ?_)
  have hvs0 : vs0 = [] := hE1
  subst hvs0
  refine sv_forNew (Ps := (allR g).map (RdAt K)) (evp_callN (ea_cons (ev_var rfl) ea_nil) fun H2 e Q k => ⟨v, g, rfl, stay_LegAt _ _ _ _ (e1.trans e) hg, hs, k⟩) fun p xs H2 e2 hp0 hp hE2 => ?_
  have hpl := ne_of_new hp0 hl1
  refine ⟨fun i σ' H' => ∃ (ws : List V) (x0 x1 x2 x3 : Option V), σ' = [some v, some (.ref l), x0, x1, x2, x3] ∧ Ex H H' ∧ H' l = some (.lst ws) ∧ Each ((((allR g).take i).filter fun r => !(r.dx == g.dx && r.dy == g.dy)).map (RdAt K)) ws H' ∧ ExB l H2 H' ∧ ExN H2 H', ?_, ?_, ?_, ?_⟩
  · rintro i σ' H' ⟨ws, x0, x1, x2, x3, rfl, e', hw, hE, hb, hn⟩
    exact sq_of (hb _ _ hpl hp)
  · exact ⟨[], none, none, none, none, rfl, e1.trans e2, e2 _ _ hl1, rfl, ex_b (Ex.refl _), ex_n (Ex.refl _)⟩
  · rintro i x σ' H' hi ⟨ws, x0, x1, x2, x3, rfl, e', hw, hE, hb, hn⟩
    obtain ⟨r, hr, hrx⟩ := each_mem (each_stayN (stayN_map stayN_RdAt) hn hE2) hi
    obtain ⟨ax, rfl, hax⟩ := hrx
    refine ⟨ax, _, rfl, hax, rfl, _, _, rfl, _, _, rfl, _, _, rfl, _, _, rfl, rfl, ?_⟩
    have hlt := (List.getElem?_eq_some_iff.mp hr).1
    refine Sv.go (sv_if (b := !decide (r.dx = g.dx) || !decide (r.dy = g.dy)) (et_or (et_test (ev_neI (ev_var rfl) (ev_leg2 T (ev_var rfl) (stay_LegAt _ _ _ _ e' hg)))) fun _ => et_test (ev_neI (ev_var rfl) (ev_leg3 T (ev_var rfl) (stay_LegAt _ _ _ _ e' hg)))) (fun hc => ?_) fun hc => ?_)
    · have hc : (!(r.dx == g.dx && r.dy == g.dy)) = true := by
        rw [← hc]
        simp only [Bool.not_and]
        rfl
      intro H3 e3
      refine s_grow hl0 (e'.trans e3) (e3 _ _ hw) (each_stay (stay_map stay_RdAt) _ _ _ e3 hE) stayN_RdAt ?_ (ev_var rfl) (evp_rd (x := r) (ev_var rfl) (ev_var rfl) (ev_var rfl) (ev_var rfl)) fun H4 ws' gr hw4 hE4 => ⟨ws', _, _, _, _, rfl, gr.ex, hw4, ?_, (hb.trans (ex_b e3)).trans gr.b, (hn.trans (ex_n e3)).trans gr.n⟩
      · have := List.length_filter_le (fun r : Reading => !(r.dx == g.dx && r.dy == g.dy)) ((allR g).take i)
        rw [List.length_take] at this
        omega
      · rw [filter_snoc hr, if_pos hc]
        exact hE4
    · have hc : ¬ (!(r.dx == g.dx && r.dy == g.dy)) = true := by
        intro h
        rw [← Bool.not_eq_true] at hc
        refine hc ?_
        rw [← h]
        simp only [Bool.not_and]
        rfl
      refine sv_next fun H3 e3 => ⟨ws, _, _, _, _, rfl, e'.trans e3, e3 _ _ hw, ?_, hb.trans (ex_b e3), hn.trans (ex_n e3)⟩
      rw [filter_snoc hr, if_neg hc, List.append_nil]
      exact each_stay (stay_map stay_RdAt) _ _ _ e3 hE
  · rintro σ' H' ⟨ws, x0, x1, x2, x3, rfl, e', hw, hE, hb, hn⟩
    rw [each_lenM hE2, List.take_length] at hE
    exact Sv.go (sv_ret (ev_var rfl) fun H3 e3 => k _ H3 (e'.trans e3) ⟨l, ws, rfl, hl0, e3 _ _ hw, each_stay (stay_map stay_RdAt) _ _ _ e3 hE⟩)
theorem sc_find_reading : FnScope ["leg", "kind", "place", "reading"] ["leg", "kind", "place"] (defScope s_find_reading) := ⟨rfl, rfl, rfl, by decide +kernel, rfl, by decide +kernel, by decide +kernel⟩
theorem ok_find_reading (T : Txt K mg) : Def P w K mg base CX0 5 "find_reading" ["leg", "kind", "place"] (spFind K) := by
  refine T.def_ 70 57 rfl rfl rfl rfl rfl sc_find_reading (fun _ _ _ _ _ _ us hl => match us, hl with | [_, _, _], _ => rfl) (fun vs H Q E h => by first | (obtain ⟨_, rfl, _⟩ := h; rfl) | (obtain ⟨_, _, rfl, _⟩ := h; rfl) | (obtain ⟨_, _, _, rfl, _⟩ := h; rfl) | (obtain ⟨_, _, _, _, rfl, _⟩ := h; rfl) | (obtain ⟨_, _, _, _, _, rfl, _⟩ := h; rfl) | (obtain ⟨_, _, _, _, _, _, rfl, _⟩ := h; rfl) | (obtain ⟨_, _, _, _, _, _, _, rfl, _⟩ := h; rfl) | (obtain ⟨_, _, _, _, _, _, _, _, rfl, _⟩ := h; rfl) | (obtain ⟨_, _, _, _, _, _, _, _, _, rfl, _⟩ := h; rfl) | (obtain ⟨_, _, _, _, _, _, _, _, _, _, rfl, _⟩ := h; rfl) | (obtain ⟨_, _, _, _, _, _, _, _, _, _, _, rfl, _⟩ := h; rfl) | (obtain ⟨_, _, _, _, _, _, _, _, _, _, _, _, rfl, _⟩ := h; rfl) | (obtain ⟨_, _, _, _, _, _, _, _, _, _, _, _, _, rfl, _⟩ := h; rfl) | (obtain ⟨_, _, _, _, _, _, _, _, _, _, _, _, _, _, rfl, _⟩ := h; rfl) | (obtain ⟨_, _, _, _, _, _, _, _, _, _, _, _, _, _, _, rfl, _⟩ := h; rfl) | (obtain ⟨_, _, _, _, _, _, _, _, _, _, _, _, _, _, _, _, rfl, _⟩ := h; rfl) | (obtain ⟨_, _, _, _, _, _, _, _, _, _, _, _, _, _, _, _, _, rfl, _⟩ := h; rfl) | (obtain ⟨_, _, _, _, _, _, _, _, _, _, _, _, _, _, _, _, _, _, rfl, _⟩ := h; rfl) | (obtain ⟨_, _, _, _, _, _, _, _, _, _, _, _, _, _, _, _, _, _, _, rfl, _⟩ := h; rfl)) (fun f cdv A outer s H vs Q E hr h => ⟨_, PSs.nox (pss_cons (ps_for PassesOwn.never rfl (pi_list (pe_cd (ok_readings_of T) hr pass0 (pa_cons (pv 0) pa_nil))) (pg_name (i := 3) sc_find_reading.nd rfl (Or.inl rfl)) (pss_one (ps_if (PW.pt (pw_and (pt_cmpR op_eq (pe_ix ix_tup (pv 3) pe_int (fun _ _ => rfl)) (pv 1) (nomark _)) (pw_and1 (pt_cmpR op_eq (pe_ix ix_tup (pv 3) pe_int (fun _ _ => rfl)) (pv 2) (nomark _))))) (pss_one (ps_ret (pv 3))) pss_nil))) (pss_one (ps_ret pe_non))), ?_⟩)
  obtain ⟨v, g, kk, j, rfl, hg, hs, k⟩ := h
  refine Sv.go (sv_forNew (Ps := (LsRun.readings g).map (RdAt K)) (evp_callN (ea_cons (ev_var rfl) ea_nil) fun H2 e Q k => ⟨v, g, rfl, stay_LegAt _ _ _ _ e hg, hs, k⟩) fun p xs H2 e2 hp0 hp hE2 => ?_)
  refine ⟨fun i σ' H' => ∃ (x0 : Option V), σ' = [some v, some (.int (kk : Int)), some (.int (j : Int)), x0] ∧ Ex H2 H' ∧ (LsRun.readings g).find? (fun x => x.kind == kk && x.place == j) = ((LsRun.readings g).drop i).find? (fun x => x.kind == kk && x.place == j), ?_, ?_, ?_, ?_⟩
  · rintro i σ' H' ⟨x0, rfl, e', _⟩
    exact sq_of (e' _ _ hp)
  · exact ⟨none, rfl, Ex.refl _, rfl⟩
  · rintro i x σ' H' hi ⟨x0, rfl, e', hf⟩
    obtain ⟨r, hr, hrx⟩ := each_mem (each_stay (stay_map stay_RdAt) _ _ _ e' hE2) hi
    obtain ⟨ax, rfl, hax⟩ := id hrx
    rw [drop_at hr, List.find?_cons] at hf
    refine Sv.go (sv_when (b := decide (r.kind = kk) && decide (r.place = j)) (et_and (et_test (ev_eqN (ev_ixT0 (i := 0) (ev_var rfl) ev_c hax rfl) (ev_var rfl))) fun _ => et_test (ev_eqN (ev_ixT0 (i := 1) (ev_var rfl) ev_c hax rfl) (ev_var rfl))) (fun hc => ?_) fun hc => ?_)
    · have hc : (r.kind == kk && r.place == j) = true := hc
      rw [hc] at hf
      refine sv_ret (ev_var rfl) fun H3 e3 => k _ H3 (e2.trans (e'.trans e3)) ?_
      rw [hf]
      exact ⟨ax, rfl, ex_t e3 hax⟩
    · have hc : (r.kind == kk && r.place == j) = false := hc
      rw [hc] at hf
      exact sv_next fun H3 e3 => ⟨_, rfl, e'.trans e3, hf⟩
  · rintro σ' H' ⟨x0, rfl, e', hf⟩
    rw [each_lenM hE2, List.drop_length, List.find?_nil] at hf
    refine Sv.go (sv_ret ev_c fun H3 e3 => k _ H3 (e2.trans (e'.trans e3)) ?_)
    rw [hf]
    rfl
end
end Trav
namespace Trav
open LsRun (Leg Reading)
/-! ## slips -/
/-- a slip and what is missed more with it -/
abbrev SlG := (Nat × Reading) × (Int × Int)
def gainOf (g : Leg) (x : Reading) : Int × Int := (g.dx - x.dx, g.dy - x.dy)
def SlAt (K : PySem.W.Frag) (s : SlG) : V → Hp → Prop := Tp K [.int (s.1.1 : Int), .int (s.1.2.kind : Int), .int (s.1.2.place : Int), .int s.2.1, .int s.2.2]
theorem stay_SlAt {K : PySem.W.Frag} (s : SlG) : Stay (SlAt K s) := stay_Tp
theorem stayN_SlAt {K : PySem.W.Frag} (s : SlG) : StayN (SlAt K s) := stayN_Tp
def rowG (x : Leg × Nat) : List SlG := (LsRun.readings x.1).map fun r => ((x.2, r), gainOf x.1 r)
def slipsG (L : List Leg) : List SlG := L.zipIdx.flatMap rowG
def missG (m : Int × Int) (cs : List SlG) : Int × Int := cs.foldl (fun m s => plus2 m s.2) m
def sqG (m : Int × Int) (s : SlG) : Int := LsRun.square (plus2 m s.2)
def bestG (m : Int × Int) (b : SlG) (cs : List SlG) : SlG := cs.foldl (fun b s => if sqG m s < sqG m b then s else b) b
def behindG (cs : List SlG) (f : SlG) : List SlG := cs.filter fun s => decide (f.1.1 < s.1.1)
def stepP (m : Int × Int) (st : Option ((SlG × SlG) × Int)) (p : SlG × SlG) : Option ((SlG × SlG) × Int) := match st with
  | none => some (p, sqG (plus2 m p.1.2) p.2)
  | some b => if sqG (plus2 m p.1.2) p.2 < b.2 then some (p, sqG (plus2 m p.1.2) p.2) else some b
def pairsG (cs : List SlG) : List (SlG × SlG) := cs.flatMap fun f => (behindG cs f).map fun s => (f, s)
def bestP (m : Int × Int) (cs : List SlG) : Option ((SlG × SlG) × Int) := (pairsG cs).foldl (stepP m) none
def pairL : Option ((SlG × SlG) × Int) → List SlG
  | none => []
  | some b => [b.1.1, b.1.2]
def toldG (m : Int × Int) (c0 : SlG) (cs : List SlG) (w : Nat) : Option (List SlG) :=
  if LsRun.square (missG m []) ≤ (w : Int) * (w : Int) then some [] else
  if LsRun.square (missG m [bestG m c0 cs]) ≤ (w : Int) * (w : Int) then some [bestG m c0 cs] else
  if 0 < (pairL (bestP m cs)).length ∧ LsRun.square (missG m (pairL (bestP m cs))) ≤ (w : Int) * (w : Int) then some (pairL (bestP m cs)) else none
/-- small -/
def SmI2 (b : Nat) (m : Int × Int) : Prop := m.1.natAbs ≤ b ∧ m.2.natAbs ≤ b
theorem SmM.i2 {m : Int × Int} (h : SmM m) : SmI2 3400000 m := ⟨h.x, h.y⟩
theorem SmI2.plus {a b : Nat} {m n : Int × Int} (h : SmI2 a m) (h' : SmI2 b n) : SmI2 (a + b) (plus2 m n) := by
  obtain ⟨h1, h2⟩ := h
  obtain ⟨h3, h4⟩ := h'
  constructor
  · show (m.1 + n.1).natAbs ≤ a + b
    omega
  · show (m.2 + n.2).natAbs ≤ a + b
    omega
def SmS (cs : List SlG) : Prop := ∀ s ∈ cs, SmI2 400000 s.2
theorem missG_le {b : Nat} : ∀ {cs : List SlG} {m : Int × Int}, SmI2 b m → SmS cs → SmI2 (b + 400000 * cs.length) (missG m cs)
  | [], m, h, _ => h
  | s :: cs, m, h, hs => by
    have h1 := h.plus (hs s (List.mem_cons_self ..))
    have h2 := missG_le h1 fun t ht => hs t (List.mem_cons_of_mem _ ht)
    have e : b + 400000 + 400000 * cs.length = b + 400000 * (s :: cs).length := by
      rw [List.length_cons]
      omega
    rw [e] at h2
    exact h2
theorem reading_small {g : Leg} (h : SmL g) : ∀ x ∈ LsRun.readings g, x.dx.natAbs ≤ 199998 ∧ x.dy.natAbs ≤ 199998 := by
  intro x hx
  rw [readings_all] at hx
  have hx' := (List.mem_filter.mp hx).1
  have h1 := h.x
  have h2 := h.y
  unfold allR at hx'
  rcases List.mem_append.mp hx' with hx' | hx'
  · rcases List.mem_append.mp hx' with hx' | hx'
    · simp only [List.mem_cons, List.not_mem_nil, or_false] at hx'
      rcases hx' with rfl | rfl | rfl | rfl | rfl | rfl <;> (simp only; omega)
    · obtain ⟨j, hj, rfl⟩ := List.mem_map.mp hx'
      have hj : j < LsRun.digitsIn g.dx.natAbs - 1 := List.mem_range.mp hj
      have := exch_small (j := j) h1 (by omega)
      simp only
      omega
  · obtain ⟨j, hj, rfl⟩ := List.mem_map.mp hx'
    have hj : j < LsRun.digitsIn g.dy.natAbs - 1 := List.mem_range.mp hj
    have := exch_small (j := j) h2 (by omega)
    simp only
    omega
theorem slipsG_small {L : List Leg} (h : ∀ g ∈ L, SmL g) : SmS (slipsG L) := by
  intro s hs
  obtain ⟨x, hx, hs⟩ := List.mem_flatMap.mp hs
  obtain ⟨r, hr, rfl⟩ := List.mem_map.mp hs
  have hg := h x.1 (by
    obtain ⟨a, b⟩ := x
    exact List.fst_mem_of_mem_zipIdx hx)
  have h1 := reading_small hg r hr
  have h2 := hg.x
  have h3 := hg.y
  constructor
  · show (x.1.dx - r.dx).natAbs ≤ 400000
    omega
  · show (x.1.dy - r.dy).natAbs ≤ 400000
    omega
def spSlip (K : PySem.W.Frag) : Sp := fun vs H Q _ => ∃ (n : Nat) (v : V) (a : Addr) (g : Leg) (x : Reading), vs = [.int (n : Int), v, .ref a] ∧ LegAt K g v H ∧ SqT K H a [.int (x.kind : Int), .int (x.place : Int), .int x.dx, .int x.dy] ∧ Ret (SlAt K ((n, x), gainOf g x)) H Q
def spSlips (K : PySem.W.Frag) : Sp := fun vs H Q _ => ∃ (v : V) (r : RunBook.Run), vs = [v] ∧ RunAt K r v H ∧ SmR r ∧ RetL ((slipsG r.legs).map (SlAt K)) H Q
def spMissed (K : PySem.W.Frag) : Sp := fun vs H Q _ => ∃ (a c : Addr) (m : Int × Int) (cs : List SlG) (ws : List V), vs = [.ref a, .ref c] ∧ SqT K H a [.int m.1, .int m.2] ∧ SqL K H c ws ∧ Each (cs.map (SlAt K)) ws H ∧ Ret (TpI K (missG m cs)) H Q
def spSingle (K : PySem.W.Frag) : Sp := fun vs H Q _ => ∃ (a c : Addr) (m : Int × Int) (c0 : SlG) (cs : List SlG) (ws : List V), vs = [.ref a, .ref c] ∧ SqT K H a [.int m.1, .int m.2] ∧ SmI2 4000000 m ∧ SqL K H c ws ∧ Each ((c0 :: cs).map (SlAt K)) ws H ∧ SmS (c0 :: cs) ∧ RetL ([bestG m c0 (c0 :: cs)].map (SlAt K)) H Q
def spBehind (K : PySem.W.Frag) : Sp := fun vs H Q _ => ∃ (c f : Addr) (cs : List SlG) (s : SlG) (ws : List V), vs = [.ref c, .ref f] ∧ SqL K H c ws ∧ Each (cs.map (SlAt K)) ws H ∧ SlAt K s (.ref f) H ∧ cs.length ≤ 1000 ∧ RetL ((behindG cs s).map (SlAt K)) H Q
def spPair (K : PySem.W.Frag) : Sp := fun vs H Q _ => ∃ (a c : Addr) (m : Int × Int) (cs : List SlG) (ws : List V), vs = [.ref a, .ref c] ∧ SqT K H a [.int m.1, .int m.2] ∧ SmI2 4000000 m ∧ SqL K H c ws ∧ Each (cs.map (SlAt K)) ws H ∧ SmS cs ∧ cs.length ≤ 1000 ∧ RetL ((pairL (bestP m cs)).map (SlAt K)) H Q
def spExplains (K : PySem.W.Frag) : Sp := fun vs H Q _ => ∃ (a c : Addr) (m : Int × Int) (cs : List SlG) (ws : List V) (wd : Nat), vs = [.ref a, .ref c, .int (wd : Int)] ∧ SqT K H a [.int m.1, .int m.2] ∧ SmI2 4000000 m ∧ SqL K H c ws ∧ Each (cs.map (SlAt K)) ws H ∧ SmS cs ∧ cs.length ≤ 2 ∧ wd ≤ 100000 ∧ RetV (.bl (decide (LsRun.square (missG m cs) ≤ (wd : Int) * (wd : Int)))) H Q
def OptL (K : PySem.W.Frag) (o : Option (List SlG)) : V → Hp → Prop := fun v H => match o with
  | none => v = .non
  | some l => LstOf (l.map (SlAt K)) v H
def spTold (K : PySem.W.Frag) : Sp := fun vs H Q _ => ∃ (a c : Addr) (m : Int × Int) (c0 : SlG) (cs : List SlG) (ws : List V) (wd : Nat), vs = [.ref a, .ref c, .int (wd : Int)] ∧ SqT K H a [.int m.1, .int m.2] ∧ SmI2 4000000 m ∧ SqL K H c ws ∧ Each ((c0 :: cs).map (SlAt K)) ws H ∧ SmS (c0 :: cs) ∧ (c0 :: cs).length ≤ 1000 ∧ wd ≤ 100000 ∧ Ret (OptL K (toldG m c0 (c0 :: cs) wd)) H Q
theorem rowG_len {L : List Leg} (h : ∀ g ∈ L, SmL g) : (slipsG L).length ≤ L.length * 14 := by
  have key : ∀ (M : List (Leg × Nat)), (∀ x ∈ M, SmL x.1) → (M.flatMap rowG).length ≤ M.length * 14 := by
    intro M
    induction M with
    | nil => intro _; exact Nat.le_refl 0
    | cons x M ih =>
      intro hM
      rw [List.flatMap_cons, List.length_append, List.length_cons]
      have h1 := ih fun y hy => hM y (List.mem_cons_of_mem _ hy)
      have h2 := readings_len x.1 (hM x (List.mem_cons_self ..))
      have h3 : (rowG x).length = (LsRun.readings x.1).length := List.length_map ..
      omega
  have h1 := key L.zipIdx fun x hx => by
    obtain ⟨a, b⟩ := x
    exact h a (List.fst_mem_of_mem_zipIdx hx)
  rw [List.length_zipIdx] at h1
  exact h1
theorem take_map_snoc {α β : Type} {F : List β} {f : α → β} {L : List α} {i : Nat} {x : α} (h : L[i]? = some x) : F ++ (L.take (i + 1)).map f = (F ++ (L.take i).map f) ++ [f x] := by
  rw [take_snoc h, List.map_append, List.append_assoc]
  rfl
theorem stay_LstOf {Ps : List (V → Hp → Prop)} (hs : ∀ P ∈ Ps, Stay P) : Stay (LstOf Ps) := fun _ _ _ e ⟨q, vs, ev, h, hE⟩ => ⟨q, vs, ev, e q _ h, each_stay hs _ _ _ e hE⟩
section
variable {P : Program} {w : World} {K : PySem.W.Frag} {mg : Str → Option Value} {base : Heap} {σ : L2.St} {H : Hp} {ta tb te : TE} {D : Ends} {tz : TS}
theorem ev_sqP {m : Int × Int} {E : XK} (h : EvP te σ H (TpI K m)) (hm : SmI2 100000000 m) : Ev (tCall (spSquare K) [] E (tCons te tNil)) σ H (.int (LsRun.square m)) := fun H1 e Q q =>
  h H1 e _ fun v H2 e2 ⟨a, ev, ha⟩ => ⟨a, m, by rw [ev] <;> rfl, ha, by have := hm.1; omega, by have := hm.2; omega, fun H3 e3 => q H3 (e2.trans e3)⟩
theorem evp_missed {a : Addr} {m : Int × Int} {cs : List SlG} {E : XK} (ha : Ev ta σ H (.ref a)) (hm : SqT K H a [.int m.1, .int m.2]) (h : EvP te σ H (LstOf (cs.map (SlAt K)))) : EvP (tCall (spMissed K) [] E (tCons ta (tCons te tNil))) σ H (TpI K (missG m cs)) := fun H1 e Q q =>
  ha H1 e _ fun H2 e2 => h H2 (e.trans e2) _ fun v H3 e3 ⟨c, ws, ev, hc, hE⟩ => ⟨a, c, m, cs, ws, by rw [ev] <;> rfl, ex_t (e.trans (e2.trans e3)) hm, sq_of hc, hE, fun u H4 e4 p => q u H4 (e2.trans (e3.trans e4)) p⟩
theorem evp_one {s : SlG} {v : V} (h : Ev ta σ H v) (hs : SlAt K s v H) : EvP (tLst (tCons ta tNil)) σ H (LstOf ([s].map (SlAt K))) := evp_lstOf (eap_cons (evp_of h fun H1 e => stay_SlAt _ _ _ _ e hs) eap_nil (stay_SlAt _)) (stay_map stay_SlAt) (by show 1 ≤ 100000; decide)
theorem sc_slip_of : FnScope ["number", "leg", "reading", "kind", "place", "east", "north"] ["number", "leg", "reading"] (defScope s_slip_of) := ⟨rfl, rfl, rfl, by decide +kernel, rfl, by decide +kernel, by decide +kernel⟩
theorem ok_slip_of (T : Txt K mg) : Def P w K mg base CX0 1 "slip_of" ["number", "leg", "reading"] (spSlip K) := by
  refine T.def_ 71 58 rfl rfl rfl rfl rfl sc_slip_of (fun _ _ _ _ _ _ us hl => match us, hl with | [_, _, _], _ => rfl) (fun vs H Q E h => by first | (obtain ⟨_, rfl, _⟩ := h; rfl) | (obtain ⟨_, _, rfl, _⟩ := h; rfl) | (obtain ⟨_, _, _, rfl, _⟩ := h; rfl) | (obtain ⟨_, _, _, _, rfl, _⟩ := h; rfl) | (obtain ⟨_, _, _, _, _, rfl, _⟩ := h; rfl) | (obtain ⟨_, _, _, _, _, _, rfl, _⟩ := h; rfl) | (obtain ⟨_, _, _, _, _, _, _, rfl, _⟩ := h; rfl) | (obtain ⟨_, _, _, _, _, _, _, _, rfl, _⟩ := h; rfl) | (obtain ⟨_, _, _, _, _, _, _, _, _, rfl, _⟩ := h; rfl) | (obtain ⟨_, _, _, _, _, _, _, _, _, _, rfl, _⟩ := h; rfl) | (obtain ⟨_, _, _, _, _, _, _, _, _, _, _, rfl, _⟩ := h; rfl) | (obtain ⟨_, _, _, _, _, _, _, _, _, _, _, _, rfl, _⟩ := h; rfl) | (obtain ⟨_, _, _, _, _, _, _, _, _, _, _, _, _, rfl, _⟩ := h; rfl) | (obtain ⟨_, _, _, _, _, _, _, _, _, _, _, _, _, _, rfl, _⟩ := h; rfl) | (obtain ⟨_, _, _, _, _, _, _, _, _, _, _, _, _, _, _, rfl, _⟩ := h; rfl) | (obtain ⟨_, _, _, _, _, _, _, _, _, _, _, _, _, _, _, _, rfl, _⟩ := h; rfl) | (obtain ⟨_, _, _, _, _, _, _, _, _, _, _, _, _, _, _, _, _, rfl, _⟩ := h; rfl) | (obtain ⟨_, _, _, _, _, _, _, _, _, _, _, _, _, _, _, _, _, _, rfl, _⟩ := h; rfl) | (obtain ⟨_, _, _, _, _, _, _, _, _, _, _, _, _, _, _, _, _, _, _, rfl, _⟩ := h; rfl)) (fun f cdv A outer s H vs Q E hr h => ⟨_, PSs.nox (pss_cons (ps_asg (pv 2) (pg_tup rfl (pgs_cons (pg_name (i := 3) sc_slip_of.nd rfl (Or.inl rfl)) (pgs_cons (pg_name (i := 4) sc_slip_of.nd rfl (Or.inl rfl)) (pgs_cons (pg_name (i := 5) sc_slip_of.nd rfl (Or.inl rfl)) (pgs_cons (pg_name (i := 6) sc_slip_of.nd rfl (Or.inl rfl)) pgs_nil)))))) (pss_one (ps_ret (pe_tup (pa_cons (pv 0) (pa_cons (pv 3) (pa_cons (pv 4) (pa_cons (pe_op op_sub (pe_fld (pv 1) rfl) (pv 5)) (pa_cons (pe_op op_sub (pe_fld (pv 1) rfl) (pv 6)) pa_nil))))))))), ?_⟩)
  obtain ⟨n, v, a, g, x, rfl, hg, ha, k⟩ := h
  refine Sv.go (sv_unp4 (ev_Tp (ev_var rfl) ha) ?_)
  exact sv_retP (newT_Tp (K := K) (evp_tup (ea_cons (ev_var rfl) (ea_cons (ev_var rfl) (ea_cons (ev_var rfl) (ea_cons (ev_sub (ev_leg2 T (ev_var rfl) hg) (ev_var rfl)) (ea_cons (ev_sub (ev_leg3 T (ev_var rfl) hg) (ev_var rfl)) ea_nil))))) (by show 5 ≤ 100000; decide))) k
theorem sc_slips_of : FnScope ["run", "slips", "number", "leg", "reading"] ["run"] (defScope s_slips_of) := ⟨rfl, rfl, rfl, by decide +kernel, rfl, by decide +kernel, by decide +kernel⟩
theorem ok_slips_of (T : Txt K mg) : Def P w K mg base CX0 5 "slips_of" ["run"] (spSlips K) := by
  refine T.def_ 72 59 rfl rfl rfl rfl rfl sc_slips_of (fun _ _ _ _ _ _ us hl => match us, hl with | [_], _ => rfl) (fun vs H Q E h => by first | (obtain ⟨_, rfl, _⟩ := h; rfl) | (obtain ⟨_, _, rfl, _⟩ := h; rfl) | (obtain ⟨_, _, _, rfl, _⟩ := h; rfl) | (obtain ⟨_, _, _, _, rfl, _⟩ := h; rfl) | (obtain ⟨_, _, _, _, _, rfl, _⟩ := h; rfl) | (obtain ⟨_, _, _, _, _, _, rfl, _⟩ := h; rfl) | (obtain ⟨_, _, _, _, _, _, _, rfl, _⟩ := h; rfl) | (obtain ⟨_, _, _, _, _, _, _, _, rfl, _⟩ := h; rfl) | (obtain ⟨_, _, _, _, _, _, _, _, _, rfl, _⟩ := h; rfl) | (obtain ⟨_, _, _, _, _, _, _, _, _, _, rfl, _⟩ := h; rfl) | (obtain ⟨_, _, _, _, _, _, _, _, _, _, _, rfl, _⟩ := h; rfl) | (obtain ⟨_, _, _, _, _, _, _, _, _, _, _, _, rfl, _⟩ := h; rfl) | (obtain ⟨_, _, _, _, _, _, _, _, _, _, _, _, _, rfl, _⟩ := h; rfl) | (obtain ⟨_, _, _, _, _, _, _, _, _, _, _, _, _, _, rfl, _⟩ := h; rfl) | (obtain ⟨_, _, _, _, _, _, _, _, _, _, _, _, _, _, _, rfl, _⟩ := h; rfl) | (obtain ⟨_, _, _, _, _, _, _, _, _, _, _, _, _, _, _, _, rfl, _⟩ := h; rfl) | (obtain ⟨_, _, _, _, _, _, _, _, _, _, _, _, _, _, _, _, _, rfl, _⟩ := h; rfl) | (obtain ⟨_, _, _, _, _, _, _, _, _, _, _, _, _, _, _, _, _, _, rfl, _⟩ := h; rfl) | (obtain ⟨_, _, _, _, _, _, _, _, _, _, _, _, _, _, _, _, _, _, _, rfl, _⟩ := h; rfl)) (fun f cdv A outer s H vs Q E hr h => ⟨_, PSs.nox (pss_cons (ps_set (i := 1) sc_slips_of.nd rfl (Or.inl rfl) (pe_lst pa_nil)) (pss_cons (ps_for PassesOwn.never rfl (pi_enum (by rfl) (T.free 159 rfl) (pa_cons (pe_fld (pv 0) rfl) pa_nil)) (pg_tup rfl (pgs_cons (pg_name (i := 2) sc_slips_of.nd rfl (Or.inl rfl)) (pgs_cons (pg_name (i := 3) sc_slips_of.nd rfl (Or.inl rfl)) pgs_nil))) (pss_one (ps_for PassesOwn.never rfl (pi_list (pe_cd (ok_readings_of T) hr pass0 (pa_cons (pv 3) pa_nil))) (pg_name (i := 4) sc_slips_of.nd rfl (Or.inl rfl)) (pss_one (ps_expr (pe_bm PySem.F.plainAttrs_list PySem.F.slot_list_append PySem.F.type_list_append mt_append (pv 1) (pa_cons (pe_cd (ok_slip_of T) hr pass0 (pa_cons (pv 2) (pa_cons (pv 3) (pa_cons (pv 4) pa_nil)))) pa_nil))))))) (pss_one (ps_ret (pv 1))))), ?_⟩)
  obtain ⟨v, r, rfl, hR, hs, k⟩ := h
  obtain ⟨a, dx, l0, vs, rfl, hr, hl, hv⟩ := id hR
  have hn := hs.n
  have hrl := rowG_len hs.l
  refine Sv.go (sv_lstOf (Ps := []) eap_nil (fun P hP => absurd hP List.not_mem_nil) (by decide) fun l vs0 H1 hl0 e1 hl1 hE1 => ?_)
  have hvs0 : vs0 = [] := hE1
  subst hvs0
  have hln := each_lenM hv
  refine sv_forEM (xs := vs) (ev_run3 T (ev_var rfl) (e1 _ _ hr)) (sq_of (e1 _ _ hl)) (fun i σ' H' => ∃ (ws : List V) (x0 x1 x2 : Option V), σ' = [some (.ref a), some (.ref l), x0, x1, x2] ∧ Ex H H' ∧ H' l = some (.lst ws) ∧ Each (((r.legs.zipIdx.take i).flatMap rowG).map (SlAt K)) ws H') ?_ ?_ ?_ ?_ ?_
  · rintro i σ' H' ⟨ws, x0, x1, x2, rfl, e', hw, hE⟩
    exact sq_of (e' _ _ hl)
  · intro H2 e2
    exact ⟨[], none, none, none, rfl, e1.trans e2, e2 _ _ hl1, rfl⟩
  · rintro i σ' H2 H3 e3 ⟨ws, x0, x1, x2, e0, e', hw, hE⟩
    exact ⟨ws, x0, x1, x2, e0, e'.trans e3, e3 _ _ hw, each_stay (stay_map stay_SlAt) _ _ _ e3 hE⟩
  · rintro i x σ' H' hi ⟨ws, x0, x1, x2, rfl, e', hw, hE⟩
    obtain ⟨g, hg, hgx⟩ := each_mem (each_stay (stay_map stay_LegAt) _ _ _ e' hv) hi
    have hsg := hs.l g (List.mem_of_getElem? hg)
    have hzi : r.legs.zipIdx[i]? = some (g, i) := by rw [List.getElem?_zipIdx, hg]; simp
    have hlen14 := readings_len g hsg
    have hpre : ((r.legs.zipIdx.take i).flatMap rowG).length ≤ 24 * 14 := by
      have h1 : (slipsG r.legs) = (r.legs.zipIdx.take i).flatMap rowG ++ (r.legs.zipIdx.drop i).flatMap rowG := by
        rw [← List.flatMap_append, List.take_append_drop]
        rfl
      have h2 := congrArg List.length h1
      rw [List.length_append] at h2
      omega
    refine Sv.go (sv_forNewL (Ps := (LsRun.readings g).map (RdAt K)) (evp_callN (ea_cons (ev_var rfl) ea_nil) fun H2 e Q k => ⟨x, g, rfl, stay_LegAt _ _ _ _ e hgx, hsg, k⟩) fun p xs H2 e2 hp0 hp hE2 => ?_)
    have hpl := ne_of_new hp0 hw
    refine ⟨fun j σ' H'' => ∃ (ws : List V) (x2 : Option V), σ' = [some (.ref a), some (.ref l), some (.int (i : Int)), some x, x2] ∧ Ex H H'' ∧ H'' l = some (.lst ws) ∧ Each (((r.legs.zipIdx.take i).flatMap rowG ++ ((LsRun.readings g).take j).map fun r => ((i, r), gainOf g r)).map (SlAt K)) ws H'' ∧ ExB l H2 H'' ∧ ExN H2 H'', ?_, ?_, ?_, ?_⟩
    · rintro j σ' H'' ⟨ws, x2, rfl, e'', hw, hE, hb, hnn⟩
      exact sq_of (hb _ _ hpl hp)
    · exact ⟨ws, x2, rfl, e'.trans e2, e2 _ _ hw, by rw [List.take_zero, List.map_nil, List.append_nil]; exact each_stay (stay_map stay_SlAt) _ _ _ e2 hE, ex_b (Ex.refl _), ex_n (Ex.refl _)⟩
    · rintro j y σ' H'' hj ⟨ws, x2, rfl, e'', hw, hE, hb, hnn⟩
      obtain ⟨rd, hrd, hrx⟩ := each_mem (each_stayN (stayN_map stayN_RdAt) hnn hE2) hj
      obtain ⟨ay, rfl, hay⟩ := hrx
      have hgx2 : LegAt K g x H'' := by
        obtain ⟨u, du, eu, hu⟩ := hgx
        exact ⟨u, du, eu, hnn _ _ trivial (e2 _ _ hu)⟩
      refine s_grow hl0 e'' hw hE stayN_SlAt ?_ (ev_var rfl) (evp_call (P := SlAt K ((i, rd), gainOf g rd)) (ea_cons (ev_var rfl) (ea_cons (ev_var rfl) (ea_cons (ev_var rfl) ea_nil))) fun H3 e Q k => ⟨i, x, ay, g, rd, rfl, stay_LegAt _ _ _ _ e hgx2, ex_t e hay, k⟩) fun H3 ws' gr hw3 hE3 => ⟨ws', some (.ref ay), rfl, gr.ex, hw3, ?_, hb.trans gr.b, hnn.trans gr.n⟩
      · rw [List.length_append, List.length_map, List.length_take]
        omega
      · rw [take_map_snoc hrd]
        exact hE3
    · rintro σ' H'' ⟨ws, x2, rfl, e'', hw, hE, hb, hnn⟩
      rw [each_lenM hE2, List.take_length] at hE
      refine ⟨ws, _, _, _, rfl, e'', hw, ?_⟩
      rw [take_snoc hzi, List.flatMap_append, List.flatMap_singleton]
      exact hE
  · rintro σ' H' ⟨ws, x0, x1, x2, rfl, e', hw, hE⟩
    have e0 : r.legs.zipIdx.take vs.length = r.legs.zipIdx := by rw [hln, ← List.length_zipIdx, List.take_length]
    rw [e0] at hE
    exact Sv.go (sv_ret (ev_var rfl) fun H2 e2 => k _ H2 (e'.trans e2) ⟨l, ws, rfl, hl0, e2 _ _ hw, each_stay (stay_map stay_SlAt) _ _ _ e2 hE⟩)
theorem sc_missed_with : FnScope ["miss", "chosen", "east", "north", "number", "kind", "place", "gain_east", "gain_north"] ["miss", "chosen"] (defScope s_missed_with) := ⟨rfl, rfl, rfl, by decide +kernel, rfl, by decide +kernel, by decide +kernel⟩
theorem ok_missed_with (T : Txt K mg) : Def P w K mg base CX0 1 "missed_with" ["miss", "chosen"] (spMissed K) := by
  refine T.def_ 73 60 rfl rfl rfl rfl rfl sc_missed_with (fun _ _ _ _ _ _ us hl => match us, hl with | [_, _], _ => rfl) (fun vs H Q E h => by first | (obtain ⟨_, rfl, _⟩ := h; rfl) | (obtain ⟨_, _, rfl, _⟩ := h; rfl) | (obtain ⟨_, _, _, rfl, _⟩ := h; rfl) | (obtain ⟨_, _, _, _, rfl, _⟩ := h; rfl) | (obtain ⟨_, _, _, _, _, rfl, _⟩ := h; rfl) | (obtain ⟨_, _, _, _, _, _, rfl, _⟩ := h; rfl) | (obtain ⟨_, _, _, _, _, _, _, rfl, _⟩ := h; rfl) | (obtain ⟨_, _, _, _, _, _, _, _, rfl, _⟩ := h; rfl) | (obtain ⟨_, _, _, _, _, _, _, _, _, rfl, _⟩ := h; rfl) | (obtain ⟨_, _, _, _, _, _, _, _, _, _, rfl, _⟩ := h; rfl) | (obtain ⟨_, _, _, _, _, _, _, _, _, _, _, rfl, _⟩ := h; rfl) | (obtain ⟨_, _, _, _, _, _, _, _, _, _, _, _, rfl, _⟩ := h; rfl) | (obtain ⟨_, _, _, _, _, _, _, _, _, _, _, _, _, rfl, _⟩ := h; rfl) | (obtain ⟨_, _, _, _, _, _, _, _, _, _, _, _, _, _, rfl, _⟩ := h; rfl) | (obtain ⟨_, _, _, _, _, _, _, _, _, _, _, _, _, _, _, rfl, _⟩ := h; rfl) | (obtain ⟨_, _, _, _, _, _, _, _, _, _, _, _, _, _, _, _, rfl, _⟩ := h; rfl) | (obtain ⟨_, _, _, _, _, _, _, _, _, _, _, _, _, _, _, _, _, rfl, _⟩ := h; rfl) | (obtain ⟨_, _, _, _, _, _, _, _, _, _, _, _, _, _, _, _, _, _, rfl, _⟩ := h; rfl) | (obtain ⟨_, _, _, _, _, _, _, _, _, _, _, _, _, _, _, _, _, _, _, rfl, _⟩ := h; rfl)) (fun f cdv A outer s H vs Q E hr h => ⟨_, PSs.nox (pss_cons (ps_asg (pv 0) (pg_tup rfl (pgs_cons (pg_name (i := 2) sc_missed_with.nd rfl (Or.inl rfl)) (pgs_cons (pg_name (i := 3) sc_missed_with.nd rfl (Or.inl rfl)) pgs_nil)))) (pss_cons (ps_for PassesOwn.never rfl (pi_list (pv 1)) (pg_tup rfl (pgs_cons (pg_name (i := 4) sc_missed_with.nd rfl (Or.inl rfl)) (pgs_cons (pg_name (i := 5) sc_missed_with.nd rfl (Or.inl rfl)) (pgs_cons (pg_name (i := 6) sc_missed_with.nd rfl (Or.inl rfl)) (pgs_cons (pg_name (i := 7) sc_missed_with.nd rfl (Or.inl rfl)) (pgs_cons (pg_name (i := 8) sc_missed_with.nd rfl (Or.inl rfl)) pgs_nil)))))) (pss_cons (ps_aug (i := 2) sc_missed_with.nd rfl (Or.inl rfl) (pv 7) ip_add) (pss_one (ps_aug (i := 3) sc_missed_with.nd rfl (Or.inl rfl) (pv 8) ip_add)))) (pss_one (ps_ret (pe_tup (pa_cons (pv 2) (pa_cons (pv 3) pa_nil))))))), ?_⟩)
  obtain ⟨a, c, m, cs, ws, rfl, ha, hc, hE, k⟩ := h
  refine Sv.go (sv_unp2 (ev_Tp (ev_var rfl) ha) ?_)
  refine sv_forM (xs := ws) (ev_var rfl) hc (fun i σ' H' => ∃ (x0 x1 x2 x3 x4 : Option V), σ' = [some (.ref a), some (.ref c), some (.int (missG m (cs.take i)).1), some (.int (missG m (cs.take i)).2), x0, x1, x2, x3, x4] ∧ Ex H H') ?_ ?_ ?_ ?_
  · rintro i σ' H' ⟨x0, x1, x2, x3, x4, rfl, e'⟩
    exact ex_l e' hc
  · intro H1 e1
    exact ⟨none, none, none, none, none, rfl, e1⟩
  · rintro i x σ' H' hi ⟨x0, x1, x2, x3, x4, rfl, e'⟩
    obtain ⟨s, hs, hsx⟩ := each_mem (each_stay (stay_map stay_SlAt) _ _ _ e' hE) hi
    obtain ⟨ax, rfl, hax⟩ := hsx
    have em : missG m (cs.take (i + 1)) = plus2 (missG m (cs.take i)) s.2 := by
      unfold missG
      rw [take_snoc hs, List.foldl_append]
      rfl
    refine ⟨ax, _, rfl, hax, rfl, _, _, rfl, _, _, rfl, _, _, rfl, _, _, rfl, _, _, rfl, rfl, ?_⟩
    refine Sv.go (sv_aug rfl (ev_var rfl) (sv_augL rfl (ev_var rfl) fun H2 e2 => ⟨some (.int (s.1.1 : Int)), some (.int (s.1.2.kind : Int)), some (.int (s.1.2.place : Int)), some (.int s.2.1), some (.int s.2.2), ?_, e'.trans e2⟩))
    rw [em]
    rfl
  · rintro σ' H' ⟨x0, x1, x2, x3, x4, rfl, e'⟩
    rw [each_lenM hE, List.take_length]
    exact Sv.go (sv_retP (evp_pr (ev_var rfl) (ev_var rfl)) fun v H2 e2 h2 => k v H2 (e'.trans e2) h2)
theorem sc_best_single : FnScope ["miss", "slips", "best", "least", "slip", "missed"] ["miss", "slips"] (defScope s_best_single) := ⟨rfl, rfl, rfl, by decide +kernel, rfl, by decide +kernel, by decide +kernel⟩
theorem ok_best_single (T : Txt K mg) : Def P w K mg base CX0 2 "best_single" ["miss", "slips"] (spSingle K) := by
  refine T.def_ 74 61 rfl rfl rfl rfl rfl sc_best_single (fun _ _ _ _ _ _ us hl => match us, hl with | [_, _], _ => rfl) (fun vs H Q E h => by first | (obtain ⟨_, rfl, _⟩ := h; rfl) | (obtain ⟨_, _, rfl, _⟩ := h; rfl) | (obtain ⟨_, _, _, rfl, _⟩ := h; rfl) | (obtain ⟨_, _, _, _, rfl, _⟩ := h; rfl) | (obtain ⟨_, _, _, _, _, rfl, _⟩ := h; rfl) | (obtain ⟨_, _, _, _, _, _, rfl, _⟩ := h; rfl) | (obtain ⟨_, _, _, _, _, _, _, rfl, _⟩ := h; rfl) | (obtain ⟨_, _, _, _, _, _, _, _, rfl, _⟩ := h; rfl) | (obtain ⟨_, _, _, _, _, _, _, _, _, rfl, _⟩ := h; rfl) | (obtain ⟨_, _, _, _, _, _, _, _, _, _, rfl, _⟩ := h; rfl) | (obtain ⟨_, _, _, _, _, _, _, _, _, _, _, rfl, _⟩ := h; rfl) | (obtain ⟨_, _, _, _, _, _, _, _, _, _, _, _, rfl, _⟩ := h; rfl) | (obtain ⟨_, _, _, _, _, _, _, _, _, _, _, _, _, rfl, _⟩ := h; rfl) | (obtain ⟨_, _, _, _, _, _, _, _, _, _, _, _, _, _, rfl, _⟩ := h; rfl) | (obtain ⟨_, _, _, _, _, _, _, _, _, _, _, _, _, _, _, rfl, _⟩ := h; rfl) | (obtain ⟨_, _, _, _, _, _, _, _, _, _, _, _, _, _, _, _, rfl, _⟩ := h; rfl) | (obtain ⟨_, _, _, _, _, _, _, _, _, _, _, _, _, _, _, _, _, rfl, _⟩ := h; rfl) | (obtain ⟨_, _, _, _, _, _, _, _, _, _, _, _, _, _, _, _, _, _, rfl, _⟩ := h; rfl) | (obtain ⟨_, _, _, _, _, _, _, _, _, _, _, _, _, _, _, _, _, _, _, rfl, _⟩ := h; rfl)) (fun f cdv A outer s H vs Q E hr h => ⟨_, PSs.nox (pss_cons (ps_set (i := 2) sc_best_single.nd rfl (Or.inl rfl) (pe_ix ix_list (pv 1) pe_int (fun _ _ => rfl))) (pss_cons (ps_set (i := 3) sc_best_single.nd rfl (Or.inl rfl) (pe_cd (ok_square T) hr pass0 (pa_cons (pe_cd (ok_missed_with T) hr pass0 (pa_cons (pv 0) (pa_cons (pe_lst (pa_cons (pv 2) pa_nil)) pa_nil))) pa_nil))) (pss_cons (ps_for PassesOwn.never rfl (pi_list (pv 1)) (pg_name (i := 4) sc_best_single.nd rfl (Or.inl rfl)) (pss_cons (ps_set (i := 5) sc_best_single.nd rfl (Or.inl rfl) (pe_cd (ok_square T) hr pass0 (pa_cons (pe_cd (ok_missed_with T) hr pass0 (pa_cons (pv 0) (pa_cons (pe_lst (pa_cons (pv 4) pa_nil)) pa_nil))) pa_nil))) (pss_one (ps_if (pt_cmpR op_lt (pv 5) (pv 3) (nomark _)) (pss_cons (ps_set (i := 2) sc_best_single.nd rfl (Or.inl rfl) (pv 4)) (pss_one (ps_set (i := 3) sc_best_single.nd rfl (Or.inl rfl) (pv 5)))) pss_nil)))) (pss_one (ps_ret (pe_lst (pa_cons (pv 2) pa_nil))))))), ?_⟩)
  obtain ⟨a, c, m, c0, cs, ws, rfl, ha, hm, hc, hE, hsm, k⟩ := h
  obtain ⟨u0, hu0, hs0⟩ := each_get hE (i := 0) (P := SlAt K c0) rfl
  have sm1 : ∀ s ∈ (c0 :: cs), SmI2 100000000 (missG m [s]) := by
    intro s hs
    have h1 := hm.plus (hsm s hs)
    exact ⟨Nat.le_trans h1.1 (by decide), Nat.le_trans h1.2 (by decide)⟩
  refine Sv.go (sv_set (v := u0) (ev_ix (ev_var rfl) ev_c hc (show atI ws ((0 : Nat) : Int) = some u0 by rw [atI_nat, hu0])) ?_)
  refine sv_set (v := .int (sqG m c0)) (ev_sqP (m := missG m [c0]) (evp_missed (ev_var rfl) ha (evp_one (ev_var rfl) hs0)) (sm1 _ (List.mem_cons_self ..))) ?_
  refine sv_forM (xs := ws) (ev_var rfl) hc (fun i σ' H' => ∃ (u : V) (x0 x1 : Option V), σ' = [some (.ref a), some (.ref c), some u, some (.int (sqG m (bestG m c0 ((c0 :: cs).take i)))), x0, x1] ∧ Ex H H' ∧ SlAt K (bestG m c0 ((c0 :: cs).take i)) u H') ?_ ?_ ?_ ?_
  · rintro i σ' H' ⟨u, x0, x1, rfl, e', _⟩
    exact ex_l e' hc
  · intro H1 e1
    exact ⟨u0, none, none, rfl, e1, stay_SlAt _ _ _ _ e1 hs0⟩
  · rintro i x σ' H' hi ⟨u, x0, x1, rfl, e', hu⟩
    obtain ⟨s, hs, hsx⟩ := each_mem (each_stay (stay_map stay_SlAt) _ _ _ e' hE) hi
    have eb : bestG m c0 ((c0 :: cs).take (i + 1)) = if sqG m s < sqG m (bestG m c0 ((c0 :: cs).take i)) then s else bestG m c0 ((c0 :: cs).take i) := by
      unfold bestG
      rw [take_snoc hs, List.foldl_append]
      rfl
    refine Sv.go (sv_set (v := .int (sqG m s)) (ev_sqP (m := missG m [s]) (evp_missed (ev_var rfl) (ex_t e' ha) (evp_one (ev_var rfl) hsx)) (sm1 _ (List.mem_of_getElem? hs))) ?_)
    refine sv_if (b := decide (sqG m s < sqG m (bestG m c0 ((c0 :: cs).take i)))) (et_test (ev_op (ev_var rfl) (ev_var rfl) rv_I0)) (fun hc => ?_) fun hc => ?_
    · rw [if_pos (of_decide_eq_true hc)] at eb
      refine sv_set (ev_var rfl) (sv_last (ev_var rfl) fun H2 e2 => ⟨x, some x, some (.int (sqG m s)), ?_, e'.trans e2, ?_⟩)
      · rw [eb]
        rfl
      · rw [eb]
        exact stay_SlAt _ _ _ _ e2 hsx
    · rw [if_neg (of_decide_eq_false hc)] at eb
      refine sv_next fun H2 e2 => ⟨u, some x, some (.int (sqG m s)), ?_, e'.trans e2, ?_⟩
      · rw [eb]
        rfl
      · rw [eb]
        exact stay_SlAt _ _ _ _ e2 hu
  · rintro σ' H' ⟨u, x0, x1, rfl, e', hu⟩
    rw [each_lenM hE, List.take_length] at hu
    exact Sv.go (sv_retNew (eap_cons (evp_of (P := SlAt K (bestG m c0 (c0 :: cs))) (ev_var rfl) fun H1 e => stay_SlAt _ _ _ _ e hu) eap_nil (stay_SlAt _)) (stay_map (L := [bestG m c0 (c0 :: cs)]) stay_SlAt) (by show 1 ≤ 100000; decide) e' k)
end
end Trav
namespace Trav
open LsRun (Leg Reading)
/-- a new list of these values, new against H0 -/
def NewLn (H0 : Hp) (xs : List V) : V → Hp → Prop := fun v H => ∃ p, v = .ref p ∧ H0 p = none ∧ H p = some (.lst xs)
theorem each_given {α : Type} {L : List α} {Pr : α → V → Hp → Prop} {xs : List V} {H : Hp} {c : α → Bool} (hE : Each (L.map Pr) xs H) : ∀ i, i ≤ L.length → Each (((L.take i).filter c).map Pr) (given i (fun i => (L[i]?).any c) (fun i => (xs[i]?).getD .non)) H
  | 0, _ => rfl
  | i + 1, hi => by
    have ih := each_given (c := c) hE i (by omega)
    obtain ⟨x, hx⟩ : ∃ x, L[i]? = some x := ⟨_, List.getElem?_eq_getElem (by omega)⟩
    obtain ⟨v, hv, hp⟩ := each_get hE (i := i) (P := Pr x) (by rw [List.getElem?_map, hx]; rfl)
    rw [filter_snoc hx]
    have ef : (L[i]?).any c = c x := by rw [hx]; rfl
    cases hc : c x with
    | true =>
      rw [given_yes (by rw [ef, hc]), if_pos rfl]
      refine each_snoc ih ?_
      show Pr x ((xs[i]?).getD .non) H
      rw [hv]
      exact hp
    | false =>
      rw [given_no (by rw [ef, hc]), if_neg Bool.false_ne_true, List.append_nil]
      exact ih
section
variable {K : PySem.W.Frag} {σ : L2.St} {H : Hp} {ta tb te : TE}
theorem evp_lcN {wi : TI} {g : TG} {tt : TT} {vs : List Nat} {n : Nat} {Y : Nat → Hp → V → Hp → Prop} (hi : ItOk wi σ H n Y) (hY : ∀ i H x H', Y i H x H' → Ex H H') (hn : n ≤ 40000) (f : Nat → Bool) (v : Nat → V)
    (hb : ∀ i x H1 H2, i < n → Ex H H1 → Y i H1 x H2 → ∃ σ2, (∀ Q : L2.St → Hp → Prop, ∀ H3, Ex H2 H3 → Q σ2 H3 → g x (wipe σ vs) H3 Q) ∧ wipe σ2 vs = wipe σ vs ∧ EvT tt σ2 H2 (f i) ∧ (f i = true → Ev te σ2 H2 (v i))) :
    EvP (tLc wi g tt te vs) σ H (NewLn H (given n f v)) := fun H0 e Q q => hi H0 e _ fun J H1 G e1 w hG => fun Dl hD =>
  lc_it w (fun i H' => H1 Dl = none ∧ Ex H1 H' ∧ H' Dl = some (.lst (given i f v))) ⟨hD, Ex.new hD, upd_same⟩ (fun i H' _ p => hG H' p.2.1) (fun i x H3 H4 hi p y => by
    obtain ⟨p1, p2, p3⟩ := p
    obtain ⟨σ2, hg, hw, ht, he⟩ := hb i x H3 H4 hi ((e.trans e1).trans p2) y
    have e4 := hY i H3 x H4 y
    refine hg _ H4 (Ex.refl H4) ⟨hw, ht H4 (Ex.refl H4) _ fun H5 e5 => ?_⟩
    cases hf : f i with
    | true =>
      show te σ2 H5 fun y H6 => ∃ acc, H6 Dl = some (.lst acc) ∧ acc.length < sizeLine ∧ (H1 Dl = none ∧ Ex H1 (upd H6 Dl (.lst (acc ++ [y]))) ∧ upd H6 Dl (.lst (acc ++ [y])) Dl = some (.lst (given (i + 1) f v)))
      refine he hf H5 e5 _ fun H6 e6 => ⟨given i f v, e6 Dl _ (e5 Dl _ (e4 Dl _ p3)), sz_lt (by have := given_len i f v; omega), p1, Ex.mut (((p2.trans e4).trans e5).trans e6) p1, ?_⟩
      rw [given_yes hf]
      exact upd_same
    | false =>
      show H1 Dl = none ∧ Ex H1 H5 ∧ H5 Dl = some (.lst (given (i + 1) f v))
      rw [given_no hf]
      exact ⟨p1, (p2.trans e4).trans e5, e5 Dl _ (e4 Dl _ p3)⟩) fun H' p => q _ H' (e1.trans p.2.1) ⟨Dl, rfl, fresh_back (e.trans e1) hD, p.2.2⟩
/-- [x for x in a list if c] -/
theorem evp_lcE {α : Type} {L : List α} {Pr : α → V → Hp → Prop} {j : Nat} {vs : List Nat} {a : Addr} {xs : List V} {tt : TT} (c : α → Bool) (h : Ev ta σ H (.ref a)) (hx : SqL K H a xs) (hE : Each (L.map Pr) xs H) (hs : ∀ g, Stay (Pr g)) (hn : L.length ≤ 40000)
    (hw : ∀ x, wipe ((wipe σ vs).set j (some x)) vs = wipe σ vs) (ht : ∀ g x, g ∈ L → Pr g x H → EvT tt ((wipe σ vs).set j (some x)) H (c g)) (he : ∀ x, Ev te ((wipe σ vs).set j (some x)) H x) : EvP (tLc (iList K ta) (gName j) tt te vs) σ H (LstNew H ((L.filter c).map Pr)) := by
  have hl := each_lenM hE
  refine (evp_lcN (g := gName j) (tt := tt) (te := te) (vs := vs) (it_list h hx) (fun i H x H' y => by rw [y.1]; exact Ex.refl H) (by omega) (fun i => (L[i]?).any c) (fun i => (xs[i]?).getD .non) (fun i x H1 H2 hi e y => ?_)).imp fun v H1 e1 h1 => ?_
  · obtain ⟨rfl, hx⟩ := y
    obtain ⟨g, hg, hgx⟩ := each_mem hE hx
    refine ⟨_, fun Q H3 _ q => q, hw x, ?_, fun _ => ?_⟩
    · rw [hg]
      exact (ht g x (List.mem_of_getElem? hg) hgx).mono e
    · rw [hx]
      exact (he x).mono e
  · obtain ⟨p, rfl, hp0, hp⟩ := h1
    refine ⟨p, _, rfl, hp0, hp, ?_⟩
    have h2 := each_given (c := c) (each_stay (stay_map hs) _ _ _ e1 hE) L.length (Nat.le_refl _)
    rw [List.take_length] at h2
    rw [hl]
    exact h2
end
theorem behindG_len (cs : List SlG) (f : SlG) : (behindG cs f).length ≤ cs.length := List.length_filter_le _ _
theorem pairL_len (o : Option ((SlG × SlG) × Int)) : (pairL o).length ≤ 2 := by
  cases o with
  | none => exact Nat.zero_le _
  | some b => exact Nat.le_refl _
theorem pair_mem {m : Int × Int} {cs : List SlG} : ∀ s ∈ pairL (bestP m cs), s ∈ cs := by
  have hP : ∀ p ∈ pairsG cs, p.1 ∈ cs ∧ p.2 ∈ cs := by
    intro p hp
    obtain ⟨f, hf, hp⟩ := List.mem_flatMap.mp hp
    obtain ⟨s, hs, rfl⟩ := List.mem_map.mp hp
    exact ⟨hf, (List.mem_filter.mp hs).1⟩
  have key : ∀ (ps : List (SlG × SlG)) (o : Option ((SlG × SlG) × Int)), (∀ p ∈ ps, p.1 ∈ cs ∧ p.2 ∈ cs) → (∀ b, o = some b → b.1.1 ∈ cs ∧ b.1.2 ∈ cs) → ∀ b, ps.foldl (stepP m) o = some b → b.1.1 ∈ cs ∧ b.1.2 ∈ cs := by
    intro ps
    induction ps with
    | nil => intro o _ ho b hb; exact ho b hb
    | cons p ps ih =>
      intro o hps ho b hb
      refine ih _ (fun q hq => hps q (List.mem_cons_of_mem _ hq)) ?_ b hb
      intro b' hb'
      have hp := hps p (List.mem_cons_self ..)
      cases o with
      | none =>
        have e : (p, sqG (plus2 m p.1.2) p.2) = b' := Option.some.inj hb'
        rw [← e]
        exact hp
      | some b0 =>
        have hb2 : (if sqG (plus2 m p.1.2) p.2 < b0.2 then some (p, sqG (plus2 m p.1.2) p.2) else some b0) = some b' := hb'
        split at hb2
        · rw [← Option.some.inj hb2]
          exact hp
        · rw [← Option.some.inj hb2]
          exact ho b0 rfl
  intro s hs
  cases e : bestP m cs with
  | none =>
    rw [e] at hs
    exact absurd hs List.not_mem_nil
  | some b =>
    rw [e] at hs
    have := key (pairsG cs) none hP (fun b h => (by cases h)) b e
    simp only [pairL, List.mem_cons, List.not_mem_nil, or_false] at hs
    rcases hs with rfl | rfl
    · exact this.1
    · exact this.2
theorem best_mem {m : Int × Int} {c0 : SlG} {cs : List SlG} : bestG m c0 (c0 :: cs) ∈ c0 :: cs := by
  have key : ∀ (l : List SlG) (b : SlG), b ∈ c0 :: cs → (∀ s ∈ l, s ∈ c0 :: cs) → bestG m b l ∈ c0 :: cs := by
    intro l
    induction l with
    | nil => intro b hb _; exact hb
    | cons s l ih =>
      intro b hb hl
      show bestG m (if sqG m s < sqG m b then s else b) l ∈ c0 :: cs
      refine ih _ ?_ fun t ht => hl t (List.mem_cons_of_mem _ ht)
      split
      · exact hl s (List.mem_cons_self ..)
      · exact hb
  exact key _ _ (List.mem_cons_self ..) fun s hs => hs
section
variable {P : Program} {w : World} {K : PySem.W.Frag} {mg : Str → Option Value} {base : Heap} {σ : L2.St} {H : Hp} {ta tb te : TE} {D : Ends} {tz : TS}
theorem sc_pairs_behind : FnScope ["slips", "first", "slip"] ["slips", "first"] (defScope s_pairs_behind) := ⟨rfl, rfl, rfl, by decide +kernel, rfl, by decide +kernel, by decide +kernel⟩
theorem ok_pairs_behind (T : Txt K mg) : Def P w K mg base CX0 1 "pairs_behind" ["slips", "first"] (spBehind K) := by
  refine T.def_ 75 62 rfl rfl rfl rfl rfl sc_pairs_behind (fun _ _ _ _ _ _ us hl => match us, hl with | [_, _], _ => rfl) (fun vs H Q E h => by first | (obtain ⟨_, rfl, _⟩ := h; rfl) | (obtain ⟨_, _, rfl, _⟩ := h; rfl) | (obtain ⟨_, _, _, rfl, _⟩ := h; rfl) | (obtain ⟨_, _, _, _, rfl, _⟩ := h; rfl) | (obtain ⟨_, _, _, _, _, rfl, _⟩ := h; rfl) | (obtain ⟨_, _, _, _, _, _, rfl, _⟩ := h; rfl) | (obtain ⟨_, _, _, _, _, _, _, rfl, _⟩ := h; rfl) | (obtain ⟨_, _, _, _, _, _, _, _, rfl, _⟩ := h; rfl) | (obtain ⟨_, _, _, _, _, _, _, _, _, rfl, _⟩ := h; rfl) | (obtain ⟨_, _, _, _, _, _, _, _, _, _, rfl, _⟩ := h; rfl) | (obtain ⟨_, _, _, _, _, _, _, _, _, _, _, rfl, _⟩ := h; rfl) | (obtain ⟨_, _, _, _, _, _, _, _, _, _, _, _, rfl, _⟩ := h; rfl) | (obtain ⟨_, _, _, _, _, _, _, _, _, _, _, _, _, rfl, _⟩ := h; rfl) | (obtain ⟨_, _, _, _, _, _, _, _, _, _, _, _, _, _, rfl, _⟩ := h; rfl) | (obtain ⟨_, _, _, _, _, _, _, _, _, _, _, _, _, _, _, rfl, _⟩ := h; rfl) | (obtain ⟨_, _, _, _, _, _, _, _, _, _, _, _, _, _, _, _, rfl, _⟩ := h; rfl) | (obtain ⟨_, _, _, _, _, _, _, _, _, _, _, _, _, _, _, _, _, rfl, _⟩ := h; rfl) | (obtain ⟨_, _, _, _, _, _, _, _, _, _, _, _, _, _, _, _, _, _, rfl, _⟩ := h; rfl) | (obtain ⟨_, _, _, _, _, _, _, _, _, _, _, _, _, _, _, _, _, _, _, rfl, _⟩ := h; rfl)) (fun f cdv A outer s H vs Q E hr h => ⟨_, PSs.nox (pss_one (ps_ret (pe_lc (own := [("slip", 2)]) (g := gName 2) (tt := (tTest (tOp _ (tOp (rIxT K) (tVar 2) _) (tOp (rIxT K) (tVar 1) _)))) rfl sc_pairs_behind.nd (pi_list (pv 0)) (blkOk_by (own := [("slip", 2)]) (N := ["slips", "first", "slip"]) (sc := defScope s_pairs_behind) (by decide +kernel)) (fun _ _ _ _ _ => pg_name (i := 2) sc_pairs_behind.nd rfl (Or.inl rfl)) (fun _ _ _ _ _ => by exact pts_one (pt_cmpR op_gt (pe_ix ix_tup (pv 2) pe_int (fun _ _ => rfl)) (pe_ix ix_tup (pv 1) pe_int (fun _ _ => rfl)) (nomark _))) (fun _ _ _ _ _ => by exact (pv 2))))), ?_⟩)
  obtain ⟨c, f, cs, s, ws, rfl, hc, hE, hs, hn, k⟩ := h
  obtain ⟨f', ef, hf⟩ := id hs
  obtain rfl := V.ref.inj ef
  refine Sv.go (sv_retP (evp_lcE (Pr := SlAt K) (L := cs) (fun t => decide (s.1.1 < t.1.1)) (ev_var rfl) hc hE stay_SlAt (by omega) (fun x => rfl) (fun t x ht hx => ?_) fun x => ev_var rfl) k)
  obtain ⟨ax, rfl, hax⟩ := hx
  exact et_is (et_test (ev_op (ev_ixT0 (i := 0) (ev_var rfl) ev_c hax rfl) (ev_ixT0 (i := 0) (ev_var rfl) ev_c hf rfl) rv_I0)) (by rw [Bool.eq_iff_iff]; simp only [decide_eq_true_eq]; omega)
theorem sc_best_pair : FnScope ["miss", "slips", "best", "least", "first", "with_first", "second", "missed"] ["miss", "slips"] (defScope s_best_pair) := ⟨rfl, rfl, rfl, by decide +kernel, rfl, by decide +kernel, by decide +kernel⟩
theorem ok_best_pair (T : Txt K mg) : Def P w K mg base CX0 2 "best_pair" ["miss", "slips"] (spPair K) := by
  refine T.def_ 76 63 rfl rfl rfl rfl rfl sc_best_pair (fun _ _ _ _ _ _ us hl => match us, hl with | [_, _], _ => rfl) (fun vs H Q E h => by first | (obtain ⟨_, rfl, _⟩ := h; rfl) | (obtain ⟨_, _, rfl, _⟩ := h; rfl) | (obtain ⟨_, _, _, rfl, _⟩ := h; rfl) | (obtain ⟨_, _, _, _, rfl, _⟩ := h; rfl) | (obtain ⟨_, _, _, _, _, rfl, _⟩ := h; rfl) | (obtain ⟨_, _, _, _, _, _, rfl, _⟩ := h; rfl) | (obtain ⟨_, _, _, _, _, _, _, rfl, _⟩ := h; rfl) | (obtain ⟨_, _, _, _, _, _, _, _, rfl, _⟩ := h; rfl) | (obtain ⟨_, _, _, _, _, _, _, _, _, rfl, _⟩ := h; rfl) | (obtain ⟨_, _, _, _, _, _, _, _, _, _, rfl, _⟩ := h; rfl) | (obtain ⟨_, _, _, _, _, _, _, _, _, _, _, rfl, _⟩ := h; rfl) | (obtain ⟨_, _, _, _, _, _, _, _, _, _, _, _, rfl, _⟩ := h; rfl) | (obtain ⟨_, _, _, _, _, _, _, _, _, _, _, _, _, rfl, _⟩ := h; rfl) | (obtain ⟨_, _, _, _, _, _, _, _, _, _, _, _, _, _, rfl, _⟩ := h; rfl) | (obtain ⟨_, _, _, _, _, _, _, _, _, _, _, _, _, _, _, rfl, _⟩ := h; rfl) | (obtain ⟨_, _, _, _, _, _, _, _, _, _, _, _, _, _, _, _, rfl, _⟩ := h; rfl) | (obtain ⟨_, _, _, _, _, _, _, _, _, _, _, _, _, _, _, _, _, rfl, _⟩ := h; rfl) | (obtain ⟨_, _, _, _, _, _, _, _, _, _, _, _, _, _, _, _, _, _, rfl, _⟩ := h; rfl) | (obtain ⟨_, _, _, _, _, _, _, _, _, _, _, _, _, _, _, _, _, _, _, rfl, _⟩ := h; rfl)) (fun f cdv A outer s H vs Q E hr h => ⟨_, PSs.nox (pss_cons (ps_set (i := 2) sc_best_pair.nd rfl (Or.inl rfl) (pe_lst pa_nil)) (pss_cons (ps_set (i := 3) sc_best_pair.nd rfl (Or.inl rfl) pe_int) (pss_cons (ps_for PassesOwn.never rfl (pi_list (pv 1)) (pg_name (i := 4) sc_best_pair.nd rfl (Or.inl rfl)) (pss_cons (ps_set (i := 5) sc_best_pair.nd rfl (Or.inl rfl) (pe_cd (ok_missed_with T) hr pass0 (pa_cons (pv 0) (pa_cons (pe_lst (pa_cons (pv 4) pa_nil)) pa_nil)))) (pss_one (ps_for PassesOwn.never rfl (pi_list (pe_cd (ok_pairs_behind T) hr pass0 (pa_cons (pv 1) (pa_cons (pv 4) pa_nil)))) (pg_name (i := 6) sc_best_pair.nd rfl (Or.inl rfl)) (pss_cons (ps_set (i := 7) sc_best_pair.nd rfl (Or.inl rfl) (pe_cd (ok_square T) hr pass0 (pa_cons (pe_cd (ok_missed_with T) hr pass0 (pa_cons (pv 5) (pa_cons (pe_lst (pa_cons (pv 6) pa_nil)) pa_nil))) pa_nil))) (pss_one (ps_if (PW.pt (pw_or (pt_cmpR op_eq (pe_callB call_len (by rfl) (T.free 160 rfl) (by decide +kernel) (pa_cons (pv 2) pa_nil)) pe_int (nomark _)) (pw_or1 (pt_cmpR op_lt (pv 7) (pv 3) (nomark _))))) (pss_cons (ps_set (i := 2) sc_best_pair.nd rfl (Or.inl rfl) (pe_lst (pa_cons (pv 4) (pa_cons (pv 6) pa_nil)))) (pss_one (ps_set (i := 3) sc_best_pair.nd rfl (Or.inl rfl) (pv 7)))) pss_nil))))))) (pss_one (ps_ret (pv 2)))))), ?_⟩)
  obtain ⟨a, c, m, cs, ws, rfl, ha, hm, hc, hE, hsm, hn, k⟩ := h
  refine Sv.go (sv_lstOf (Ps := []) eap_nil (fun P hP => absurd hP List.not_mem_nil) (by decide) fun lb vs0 H1 hl0 e1 hl1 hE1 => ?_)
  have hvs0 : vs0 = [] := hE1
  subst hvs0
  refine sv_set (v := .int 0) ev_c ?_
  refine sv_forM (xs := ws) (ev_var rfl) (ex_l e1 hc) (fun i σ' H' => ∃ (st : Option ((SlG × SlG) × Int)) (lb : Addr) (bs : List V) (ls : Int) (x0 x1 x2 x3 : Option V), σ' = [some (.ref a), some (.ref c), some (.ref lb), some (.int ls), x0, x1, x2, x3] ∧ Ex H H' ∧ H lb = none ∧ H' lb = some (.lst bs) ∧
    Each ((pairL st).map (SlAt K)) bs H' ∧ (∀ b, st = some b → ls = b.2) ∧ st = ((cs.take i).flatMap fun f => (behindG cs f).map fun s => (f, s)).foldl (stepP m) none) ?_ ?_ ?_ ?_
  · rintro i σ' H' ⟨st, lb, bs, ls, x0, x1, x2, x3, rfl, e', _⟩
    exact ex_l e' hc
  · intro H2 e2
    exact ⟨none, lb, [], 0, none, none, none, none, rfl, e1.trans e2, hl0, e2 _ _ hl1, rfl, (fun b h => by cases h), rfl⟩
  · rintro i x σ' H' hi ⟨st, lb, bs, ls, x0, x1, x2, x3, rfl, e', hlb0, hlb, hEb, hst, est⟩
    obtain ⟨s, hs, hsx⟩ := each_mem (each_stay (stay_map stay_SlAt) _ _ _ e' hE) hi
    obtain ⟨ax, rfl, hax⟩ := id hsx
    have hs2 := hsm s (List.mem_of_getElem? hs)
    have hm2 := hm.plus hs2
    refine Sv.go (sv_setP (P := TpI K (plus2 m s.2)) (evp_missed (cs := [s]) (ev_var rfl) (ex_t e' ha) (evp_one (ev_var rfl) hsx)) fun wf H2 e2 hwf => ?_)
    obtain ⟨af, rfl, haf⟩ := hwf
    refine sv_forNewL (Ps := (behindG cs s).map (SlAt K)) (evp_callN (ea_cons (ev_var rfl) (ea_cons (ev_var rfl) ea_nil)) fun H3 e Q k => ⟨c, ax, cs, s, ws, rfl, ex_l ((e'.trans e2).trans e) hc, each_stay (stay_map stay_SlAt) _ _ _ ((e'.trans e2).trans e) hE, stay_SlAt _ _ _ _ (e2.trans e) hsx, hn, k⟩) fun p xs H3 e3 hp0 hp hEp => ?_
    refine ⟨fun j σ' H'' => ∃ (st' : Option ((SlG × SlG) × Int)) (lb : Addr) (bs : List V) (ls : Int) (x2 x3 : Option V), σ' = [some (.ref a), some (.ref c), some (.ref lb), some (.int ls), some (.ref ax), some (.ref af), x2, x3] ∧ Ex H3 H'' ∧ H lb = none ∧ H'' lb = some (.lst bs) ∧
      Each ((pairL st').map (SlAt K)) bs H'' ∧ (∀ b, st' = some b → ls = b.2) ∧ st' = (((behindG cs s).take j).map fun t => (s, t)).foldl (stepP m) st, ?_, ?_, ?_, ?_⟩
    · rintro j σ' H'' ⟨st', lb, bs, ls, x2, x3, rfl, e'', _⟩
      exact sq_of (e'' _ _ hp)
    · exact ⟨st, lb, bs, ls, x2, x3, rfl, Ex.refl _, hlb0, e3 _ _ (e2 _ _ hlb), each_stay (stay_map stay_SlAt) _ _ _ (e2.trans e3) hEb, hst, rfl⟩
    · rintro j y σ' H'' hj ⟨st', lb, bs, ls, x2, x3, rfl, e'', hlb0, hlb, hEb, hst', est'⟩
      obtain ⟨t, ht, htx⟩ := each_mem (each_stay (stay_map stay_SlAt) _ _ _ e'' hEp) hj
      have ht2 := hsm t (List.mem_filter.mp (List.mem_of_getElem? ht)).1
      have hm3 := hm2.plus ht2
      have est2 : (((behindG cs s).take (j + 1)).map fun t => (s, t)).foldl (stepP m) st = stepP m st' (s, t) := by
        rw [take_snoc ht, List.map_append, List.foldl_append, ← est']
        rfl
      refine Sv.go (sv_set (v := .int (sqG (plus2 m s.2) t)) (ev_sqP (m := missG (plus2 m s.2) [t]) (evp_missed (cs := [t]) (ev_var rfl) (ex_t (e3.trans e'') haf) (evp_one (ev_var rfl) htx)) ⟨Nat.le_trans hm3.1 (by decide), Nat.le_trans hm3.2 (by decide)⟩) ?_)
      have hbl := each_lenM hEb
      have hup : ∀ H5, Ex H'' H5 → ∀ st2, st2 = some ((s, t), sqG (plus2 m s.2) t) → stepP m st' (s, t) = st2 → True := fun _ _ _ _ _ => trivial
      refine sv_if (b := decide ((bs.length : Int) = 0) || decide (sqG (plus2 m s.2) t < ls)) (et_or (et_test (ev_eqI (ev_len1 (ev_var rfl) (sq_of hlb)) ev_c)) fun _ => et_test (ev_op (ev_var rfl) (ev_var rfl) rv_I0)) (fun hc => ?_) fun hc => ?_
      · have es : stepP m st' (s, t) = some ((s, t), sqG (plus2 m s.2) t) := by
          cases st' with
          | none => rfl
          | some b =>
            have hl2 : bs.length = 2 := hbl
            have hls := hst' b rfl
            simp only [Bool.or_eq_true, decide_eq_true_eq] at hc
            have hlt : sqG (plus2 m s.2) t < b.2 := by
              rcases hc with hc | hc
              · omega
              · rw [← hls]; exact hc
            show (if sqG (plus2 m s.2) t < b.2 then some ((s, t), sqG (plus2 m s.2) t) else some b) = _
            rw [if_pos hlt]
        refine sv_lstOf (Ps := [s, t].map (SlAt K)) (eap_cons (evp_of (ev_var rfl) fun H1 e => stay_SlAt _ _ _ _ (((e2.trans e3).trans e'').trans e) hsx) (eap_cons (evp_of (ev_var rfl) fun H1 e => stay_SlAt _ _ _ _ e htx) eap_nil (stay_SlAt _)) (stay_SlAt _)) (stay_map stay_SlAt) (by show 2 ≤ 100000; decide) fun l2 vs2 H4 hl20 e4 hl2 hE2 => ?_
        refine sv_last (ev_var rfl) fun H5 e5 => ⟨some ((s, t), sqG (plus2 m s.2) t), l2, vs2, sqG (plus2 m s.2) t, some y, some (.int (sqG (plus2 m s.2) t)), rfl, (e''.trans e4).trans e5, fresh_back ((e'.trans e2).trans (e3.trans e'')) hl20, e5 _ _ hl2, each_stay (stay_map stay_SlAt) _ _ _ e5 hE2, (fun b h => by rw [← Option.some.inj h]), ?_⟩
        rw [est2, es]
      · have es : stepP m st' (s, t) = st' := by
          rw [Bool.or_eq_false_iff] at hc
          have h1 := of_decide_eq_false hc.1
          have h2 := of_decide_eq_false hc.2
          cases st' with
          | none =>
            have hl2 : bs.length = 0 := hbl
            exact absurd (by omega) h1
          | some b =>
            have hls := hst' b rfl
            show (if sqG (plus2 m s.2) t < b.2 then some ((s, t), sqG (plus2 m s.2) t) else some b) = _
            rw [if_neg (by rw [← hls]; exact h2)]
        refine sv_next fun H5 e5 => ⟨st', lb, bs, ls, some y, some (.int (sqG (plus2 m s.2) t)), rfl, e''.trans e5, hlb0, e5 _ _ hlb, each_stay (stay_map stay_SlAt) _ _ _ e5 hEb, hst', ?_⟩
        rw [est2, es]
    · rintro σ' H'' ⟨st', lb, bs, ls, x2, x3, rfl, e'', hlb0, hlb, hEb, hst', est'⟩
      rw [each_lenM hEp, List.take_length] at est'
      refine ⟨st', lb, bs, ls, _, _, _, _, rfl, (e'.trans e2).trans (e3.trans e''), hlb0, hlb, hEb, hst', ?_⟩
      rw [est', take_snoc hs, List.flatMap_append, List.foldl_append, List.flatMap_singleton, ← est]
  · rintro σ' H' ⟨st, lb, bs, ls, x0, x1, x2, x3, rfl, e', hlb0, hlb, hEb, hst, est⟩
    rw [each_lenM hE, List.take_length] at est
    have est : st = bestP m cs := est
    rw [← est] at k
    exact Sv.go (sv_ret (ev_var rfl) fun H2 e2 => k _ H2 (e'.trans e2) ⟨lb, bs, rfl, hlb0, e2 _ _ hlb, each_stay (stay_map stay_SlAt) _ _ _ e2 hEb⟩)
theorem sc_explains : FnScope ["miss", "chosen", "wide"] ["miss", "chosen", "wide"] (defScope s_explains) := ⟨rfl, rfl, rfl, by decide +kernel, rfl, by decide +kernel, by decide +kernel⟩
theorem ok_explains (T : Txt K mg) : Def P w K mg base CX0 2 "explains" ["miss", "chosen", "wide"] (spExplains K) := by
  refine T.def_ 77 64 rfl rfl rfl rfl rfl sc_explains (fun _ _ _ _ _ _ us hl => match us, hl with | [_, _, _], _ => rfl) (fun vs H Q E h => by first | (obtain ⟨_, rfl, _⟩ := h; rfl) | (obtain ⟨_, _, rfl, _⟩ := h; rfl) | (obtain ⟨_, _, _, rfl, _⟩ := h; rfl) | (obtain ⟨_, _, _, _, rfl, _⟩ := h; rfl) | (obtain ⟨_, _, _, _, _, rfl, _⟩ := h; rfl) | (obtain ⟨_, _, _, _, _, _, rfl, _⟩ := h; rfl) | (obtain ⟨_, _, _, _, _, _, _, rfl, _⟩ := h; rfl) | (obtain ⟨_, _, _, _, _, _, _, _, rfl, _⟩ := h; rfl) | (obtain ⟨_, _, _, _, _, _, _, _, _, rfl, _⟩ := h; rfl) | (obtain ⟨_, _, _, _, _, _, _, _, _, _, rfl, _⟩ := h; rfl) | (obtain ⟨_, _, _, _, _, _, _, _, _, _, _, rfl, _⟩ := h; rfl) | (obtain ⟨_, _, _, _, _, _, _, _, _, _, _, _, rfl, _⟩ := h; rfl) | (obtain ⟨_, _, _, _, _, _, _, _, _, _, _, _, _, rfl, _⟩ := h; rfl) | (obtain ⟨_, _, _, _, _, _, _, _, _, _, _, _, _, _, rfl, _⟩ := h; rfl) | (obtain ⟨_, _, _, _, _, _, _, _, _, _, _, _, _, _, _, rfl, _⟩ := h; rfl) | (obtain ⟨_, _, _, _, _, _, _, _, _, _, _, _, _, _, _, _, rfl, _⟩ := h; rfl) | (obtain ⟨_, _, _, _, _, _, _, _, _, _, _, _, _, _, _, _, _, rfl, _⟩ := h; rfl) | (obtain ⟨_, _, _, _, _, _, _, _, _, _, _, _, _, _, _, _, _, _, rfl, _⟩ := h; rfl) | (obtain ⟨_, _, _, _, _, _, _, _, _, _, _, _, _, _, _, _, _, _, _, rfl, _⟩ := h; rfl)) (fun f cdv A outer s H vs Q E hr h => ⟨_, PSs.nox (pss_one (ps_ret (pe_cmpR op_le (pe_cd (ok_square T) hr pass0 (pa_cons (pe_cd (ok_missed_with T) hr pass0 (pa_cons (pv 0) (pa_cons (pv 1) pa_nil))) pa_nil)) (pe_op op_mulW (pv 2) (pv 2)) (nomark _)))), ?_⟩)
  obtain ⟨a, c, m, cs, ws, wd, rfl, ha, hm, hc, hE, hsm, hn, hw, k⟩ := h
  have h1 := missG_le hm hsm
  have hww : ((wd : Int)).natAbs < 2 ^ 100 := by rw [Int.natAbs_natCast]; omega
  refine Sv.go (sv_ret (ev_op (ev_sqP (m := missG m cs) (fun H1 e Q q => ?_) ⟨by have := h1.1; omega, by have := h1.2; omega⟩) (ev_mul (ev_var rfl) (ev_var rfl) hww hww) rv_I0) k)
  exact evp_call (ea_cons (ev_var rfl) (ea_cons (ev_var rfl) ea_nil)) (fun H2 e Q k => ⟨a, c, m, cs, ws, rfl, ex_t e ha, ex_l e hc, each_stay (stay_map stay_SlAt) _ _ _ e hE, k⟩) H1 e Q q
theorem et_expl {a : Addr} {m : Int × Int} {cs : List SlG} {wd : Nat} {tc : TE} {E : XK} (ha : Ev ta σ H (.ref a)) (hm : SqT K H a [.int m.1, .int m.2]) (h : EvP te σ H (LstOf (cs.map (SlAt K)))) (hc : Ev tc σ H (.int (wd : Int))) (sm : SmI2 4000000 m) (hs : SmS cs) (hn : cs.length ≤ 2) (hw : wd ≤ 100000) :
    Ev (tCall (spExplains K) [] E (tCons ta (tCons te (tCons tc tNil)))) σ H (.bl (decide (LsRun.square (missG m cs) ≤ (wd : Int) * (wd : Int)))) := fun H1 e Q q =>
  ha H1 e _ fun H2 e2 => h H2 (e.trans e2) _ fun v H3 e3 ⟨c, ws, ev, hcl, hE⟩ => hc H3 ((e.trans e2).trans e3) _ fun H4 e4 => ⟨a, c, m, cs, ws, wd, by rw [ev] <;> rfl, ex_t ((e.trans e2).trans (e3.trans e4)) hm, sm, sq_of (e4 _ _ hcl), each_stay (stay_map stay_SlAt) _ _ _ e4 hE, hs, hn, hw, fun H5 e5 => q H5 ((e2.trans e3).trans (e4.trans e5))⟩
theorem sc_slips_told : FnScope ["miss", "slips", "wide", "one", "two"] ["miss", "slips", "wide"] (defScope s_slips_told) := ⟨rfl, rfl, rfl, by decide +kernel, rfl, by decide +kernel, by decide +kernel⟩
theorem ok_slips_told (T : Txt K mg) : Def P w K mg base CX0 3 "slips_told" ["miss", "slips", "wide"] (spTold K) := by
  refine T.def_ 78 65 rfl rfl rfl rfl rfl sc_slips_told (fun _ _ _ _ _ _ us hl => match us, hl with | [_, _, _], _ => rfl) (fun vs H Q E h => by first | (obtain ⟨_, rfl, _⟩ := h; rfl) | (obtain ⟨_, _, rfl, _⟩ := h; rfl) | (obtain ⟨_, _, _, rfl, _⟩ := h; rfl) | (obtain ⟨_, _, _, _, rfl, _⟩ := h; rfl) | (obtain ⟨_, _, _, _, _, rfl, _⟩ := h; rfl) | (obtain ⟨_, _, _, _, _, _, rfl, _⟩ := h; rfl) | (obtain ⟨_, _, _, _, _, _, _, rfl, _⟩ := h; rfl) | (obtain ⟨_, _, _, _, _, _, _, _, rfl, _⟩ := h; rfl) | (obtain ⟨_, _, _, _, _, _, _, _, _, rfl, _⟩ := h; rfl) | (obtain ⟨_, _, _, _, _, _, _, _, _, _, rfl, _⟩ := h; rfl) | (obtain ⟨_, _, _, _, _, _, _, _, _, _, _, rfl, _⟩ := h; rfl) | (obtain ⟨_, _, _, _, _, _, _, _, _, _, _, _, rfl, _⟩ := h; rfl) | (obtain ⟨_, _, _, _, _, _, _, _, _, _, _, _, _, rfl, _⟩ := h; rfl) | (obtain ⟨_, _, _, _, _, _, _, _, _, _, _, _, _, _, rfl, _⟩ := h; rfl) | (obtain ⟨_, _, _, _, _, _, _, _, _, _, _, _, _, _, _, rfl, _⟩ := h; rfl) | (obtain ⟨_, _, _, _, _, _, _, _, _, _, _, _, _, _, _, _, rfl, _⟩ := h; rfl) | (obtain ⟨_, _, _, _, _, _, _, _, _, _, _, _, _, _, _, _, _, rfl, _⟩ := h; rfl) | (obtain ⟨_, _, _, _, _, _, _, _, _, _, _, _, _, _, _, _, _, _, rfl, _⟩ := h; rfl) | (obtain ⟨_, _, _, _, _, _, _, _, _, _, _, _, _, _, _, _, _, _, _, rfl, _⟩ := h; rfl)) (fun f cdv A outer s H vs Q E hr h => ⟨_, PSs.nox (pss_cons (ps_if (pt_val (pe_cd (ok_explains T) hr pass0 (pa_cons (pv 0) (pa_cons (pe_lst pa_nil) (pa_cons (pv 2) pa_nil))))) (pss_one (ps_ret (pe_lst pa_nil))) pss_nil) (pss_cons (ps_set (i := 3) sc_slips_told.nd rfl (Or.inl rfl) (pe_cd (ok_best_single T) hr pass0 (pa_cons (pv 0) (pa_cons (pv 1) pa_nil)))) (pss_cons (ps_if (pt_val (pe_cd (ok_explains T) hr pass0 (pa_cons (pv 0) (pa_cons (pv 3) (pa_cons (pv 2) pa_nil))))) (pss_one (ps_ret (pv 3))) pss_nil) (pss_cons (ps_set (i := 4) sc_slips_told.nd rfl (Or.inl rfl) (pe_cd (ok_best_pair T) hr pass0 (pa_cons (pv 0) (pa_cons (pv 1) pa_nil)))) (pss_cons (ps_if (PW.pt (pw_and (pt_cmpR op_gt (pe_callB call_len (by rfl) (T.free 160 rfl) (by decide +kernel) (pa_cons (pv 4) pa_nil)) pe_int (nomark _)) (pw_and1 (pt_val (pe_cd (ok_explains T) hr pass0 (pa_cons (pv 0) (pa_cons (pv 4) (pa_cons (pv 2) pa_nil)))))))) (pss_one (ps_ret (pv 4))) pss_nil) (pss_one (ps_ret pe_non))))))), ?_⟩)
  obtain ⟨a, c, m, c0, cs, ws, wd, rfl, ha, hm, hc, hE, hsm, hn, hw, k⟩ := h
  have evn : ∀ {σ : L2.St} {H : Hp}, EvP (tLst tNil) σ H (LstOf (([] : List SlG).map (SlAt K))) := evp_lstOf eap_nil (fun P hP => absurd hP List.not_mem_nil) (by show 0 ≤ 100000; decide)
  refine Sv.go (sv_when (b := decide (LsRun.square (missG m []) ≤ (wd : Int) * (wd : Int))) (et_test (et_expl (ev_var rfl) ha evn (ev_var rfl) hm (fun s h => absurd h List.not_mem_nil) (by decide) hw)) (fun h0 => ?_) fun h0 => ?_)
  · refine sv_retP evn fun v H1 e1 h1 => k v H1 e1 ?_
    unfold toldG
    rw [if_pos (of_decide_eq_true h0)]
    exact h1
  have h0 := of_decide_eq_false h0
  have hbm : bestG m c0 (c0 :: cs) ∈ c0 :: cs := best_mem
  refine sv_setP (P := LstOf ([bestG m c0 (c0 :: cs)].map (SlAt K))) (evp_call (ea_cons (ev_var rfl) (ea_cons (ev_var rfl) ea_nil)) fun H1 e Q k => ⟨a, c, m, c0, cs, ws, rfl, ex_t e ha, hm, ex_l e hc, each_stay (stay_map stay_SlAt) _ _ _ e hE, hsm, fun v H2 e2 h2 => k v H2 e2 h2.of⟩) fun u1 H1 e1 h1 => ?_
  refine sv_when (b := decide (LsRun.square (missG m [bestG m c0 (c0 :: cs)]) ≤ (wd : Int) * (wd : Int))) (et_test (et_expl (ev_var rfl) (ex_t e1 ha) (evp_of (ev_var rfl) fun H2 e2 => stay_LstOf (stay_map stay_SlAt) _ _ _ e2 h1) (ev_var rfl) hm (fun s h => by rw [List.mem_singleton.mp h]; exact hsm _ hbm) (by show 1 ≤ 2; decide) hw)) (fun h2 => ?_) fun h2 => ?_
  · refine sv_retP (evp_of (ev_var rfl) fun H2 e2 => stay_LstOf (stay_map stay_SlAt) _ _ _ e2 h1) fun v H2 e2 hv => k v H2 (e1.trans e2) ?_
    unfold toldG
    rw [if_neg h0, if_pos (of_decide_eq_true h2)]
    exact hv
  have h2 := of_decide_eq_false h2
  refine sv_setP (P := LstOf ((pairL (bestP m (c0 :: cs))).map (SlAt K))) (evp_call (ea_cons (ev_var rfl) (ea_cons (ev_var rfl) ea_nil)) fun H2 e Q k => ⟨a, c, m, c0 :: cs, ws, rfl, ex_t (e1.trans e) ha, hm, ex_l (e1.trans e) hc, each_stay (stay_map stay_SlAt) _ _ _ (e1.trans e) hE, hsm, hn, fun v H2 e2 h2 => k v H2 e2 h2.of⟩) fun u2 H2 e2 h3 => ?_
  obtain ⟨l2, vs2, rfl, hl2, hE2⟩ := id h3
  have hlen := each_lenM hE2
  refine sv_when (b := decide ((0 : Int) < (vs2.length : Int)) && decide (LsRun.square (missG m (pairL (bestP m (c0 :: cs)))) ≤ (wd : Int) * (wd : Int))) (et_and (et_test (ev_op (ev_len1 (ev_var rfl) (sq_of hl2)) ev_c rv_I0)) fun _ => et_test (et_expl (ev_var rfl) (ex_t (e1.trans e2) ha) (evp_of (ev_var rfl) fun H2 e2 => stay_LstOf (stay_map stay_SlAt) _ _ _ e2 h3) (ev_var rfl) hm (fun s h => hsm _ (pair_mem s h)) (pairL_len _) hw)) (fun h4 => ?_) fun h4 => ?_
  · refine sv_retP (evp_of (ev_var rfl) fun H2 e2 => stay_LstOf (stay_map stay_SlAt) _ _ _ e2 h3) fun v H3 e3 hv => k v H3 ((e1.trans e2).trans e3) ?_
    unfold toldG
    rw [Bool.and_eq_true, decide_eq_true_eq, decide_eq_true_eq] at h4
    rw [if_neg h0, if_neg h2, if_pos ⟨by omega, h4.2⟩]
    exact hv
  · refine sv_ret ev_c fun H3 e3 => k _ H3 ((e1.trans e2).trans e3) ?_
    unfold toldG
    rw [← Bool.not_eq_true, Bool.and_eq_true, decide_eq_true_eq, decide_eq_true_eq] at h4
    rw [if_neg h0, if_neg h2, if_neg (fun h => h4 ⟨by omega, h.2⟩)]
    rfl
end
end Trav
namespace Trav
open LsRun (Leg)
open LsGeo (Pt)
open RunBook (Book knownAt numberMay mayReach)
/-! ## a book in the heap -/
structure KnD (K : PySem.W.Frag) (ks : List (Nat × Pt)) (kvs : List (Key × V)) (H : Hp) : Prop where
  keys : ∃ ns : List Nat, kvs.map (·.1) = ns.map (fun n => (Sum.inl ((n : Nat) : Int) : Key)) ∧ ns.Perm (ks.map (·.1))
  vals : ∀ x ∈ ks, ∃ t, valV kvs (.inl ((x.1 : Nat) : Int)) = some (.ref t) ∧ SqT K H t [.int x.2.x, .int x.2.y]
theorem KnD.mono {K : PySem.W.Frag} {ks : List (Nat × Pt)} {kvs : List (Key × V)} {H H' : Hp} (e : ExN H H') (h : KnD K ks kvs H) : KnD K ks kvs H' := ⟨h.keys, fun x hx => let ⟨t, h1, h2⟩ := h.vals x hx; ⟨t, h1, exN_t e h2⟩⟩
def bookF (d l : Addr) : List (Str × V) := [("known", .ref d), ("runs", .ref l)]
def BookAt (K : PySem.W.Frag) (B : Book) : V → Hp → Prop := fun v H => ∃ a dx d l kvs vs, v = .ref a ∧ H a = some (.ins (He.ga K "Book") dx (bookF d l)) ∧ H d = some (.dK kvs) ∧ KnD K B.known kvs H ∧ H l = some (.lst vs) ∧ Each (B.runs.map (RunAt K)) vs H
theorem stay_BookAt {K : PySem.W.Frag} (B : Book) : Stay (BookAt K B) := fun _ _ _ e ⟨a, dx, d, l, kvs, vs, ev, h1, h2, h3, h4, h5⟩ => ⟨a, dx, d, l, kvs, vs, ev, e _ _ h1, e _ _ h2, h3.mono (ex_n e), e _ _ h4, each_stay (stay_map stay_RunAt) _ _ _ e h5⟩
theorem knownAt_mem {B : Book} {n : Nat} {p : Pt} (h : knownAt B n = some p) : (n, p) ∈ B.known := by
  unfold knownAt at h
  rw [Option.map_eq_some_iff] at h
  obtain ⟨x, hx, rfl⟩ := h
  have h1 := List.find?_some hx
  have h2 : x.1 = n := by simpa using h1
  rw [← h2]
  exact List.mem_of_find?_eq_some hx
theorem knownAt_some {B : Book} {n : Nat} : (knownAt B n).isSome = decide (n ∈ B.known.map (·.1)) := by
  unfold knownAt
  rw [Option.isSome_map, Bool.eq_iff_iff, List.find?_isSome, decide_eq_true_eq, List.mem_map]
  constructor
  · rintro ⟨x, hx, e⟩
    exact ⟨x, hx, by simpa using e⟩
  · rintro ⟨x, hx, rfl⟩
    exact ⟨x, hx, by simp⟩
theorem KnD.is {K : PySem.W.Frag} {ks : List (Nat × Pt)} {kvs : List (Key × V)} {H : Hp} (h : KnD K ks kvs H) (n : Nat) : (valV kvs (.inl (n : Int))).isSome = decide (n ∈ ks.map (·.1)) := by
  obtain ⟨ns, h1, h2⟩ := h.keys
  rw [Bool.eq_iff_iff, decide_eq_true_eq, ← h2.mem_iff]
  have key : (Sum.inl (n : Int) : Key) ∈ kvs.map (·.1) ↔ n ∈ ns := by
    rw [h1, List.mem_map]
    constructor
    · rintro ⟨m, hm, e⟩
      have e2 : ((m : Nat) : Int) = (n : Int) := Sum.inl.inj e
      have e3 : m = n := by omega
      rw [← e3]
      exact hm
    · intro hn
      exact ⟨n, hn, rfl⟩
  rw [← key, ← valV_any, List.any_eq_true, List.mem_map]
  constructor
  · rintro ⟨x, hx, e⟩
    exact ⟨x, hx, of_decide_eq_true e⟩
  · rintro ⟨x, hx, e⟩
    exact ⟨x, hx, decide_eq_true e⟩
theorem knAt_of {K : PySem.W.Frag} {B : Book} {v : V} {H : Hp} {n : Nat} {p : Pt} (h : BookAt K B v H) (hn : knownAt B n = some p) : KnAt K v n p H := by
  obtain ⟨a, dx, d, l, kvs, vs, rfl, h1, h2, h3, h4, h5⟩ := h
  obtain ⟨t, h6, h7⟩ := h3.vals _ (knownAt_mem hn)
  exact ⟨a, dx, d, l, kvs, t, rfl, h1, h2, h6, h7⟩
def spWithin : Sp := fun vs H Q _ => ∃ i j k : Int, vs = [.int i, .int j, .int k] ∧ RetV (.bl (decide (j ≤ i) && decide (i ≤ k))) H Q
def spPoint : Sp := fun vs H Q _ => ∃ n : Nat, vs = [.int (n : Int)] ∧ RetV (.bl (numberMay n)) H Q
def stepOk (e n : Int) : Bool := decide (e.natAbs ≤ 99999) && (decide (n.natAbs ≤ 99999) && decide ¬(e = 0 ∧ n = 0))
def spStep : Sp := fun vs H Q _ => ∃ e n : Int, vs = [.int e, .int n] ∧ RetV (.bl (stepOk e n)) H Q
def spReached (K : PySem.W.Frag) : Sp := fun vs H Q _ => ∃ (v : V) (r : RunBook.Run) (n : Nat), vs = [v, .int (n : Int)] ∧ RunAt K r v H ∧ r.legs.length ≤ 24 ∧ RetV (.bl (r.legs.any fun g => g.to_ == n)) H Q
def spArrived (K : PySem.W.Frag) : Sp := fun vs H Q _ => ∃ (v : V) (r : RunBook.Run), vs = [v] ∧ RunAt K r v H ∧ r.legs.length ≤ 24 ∧ RetV (.bl r.closed) H Q
def spMay (K : PySem.W.Frag) : Sp := fun vs H Q _ => ∃ (b v : V) (B : Book) (r : RunBook.Run) (n : Nat), vs = [b, v, .int (n : Int)] ∧ BookAt K B b H ∧ RunAt K r v H ∧ r.legs.length ≤ 24 ∧ RetV (.bl (mayReach B r n)) H Q
def spPasses (K : PySem.W.Frag) : Sp := fun vs H Q _ => ∃ (v : V) (r : RunBook.Run) (n : Nat), vs = [v, .int (n : Int)] ∧ RunAt K r v H ∧ r.legs.length ≤ 24 ∧ RetV (.bl (TravSpec.placeNo r n).isSome) H Q
def spCount (K : PySem.W.Frag) : Sp := fun vs H Q _ => ∃ (b : V) (B : Book), vs = [b] ∧ BookAt K B b H ∧ B.runs.length ≤ 16 ∧ RetV (.int (((B.runs.map fun r => r.legs.length).foldr (fun (a b : Nat) => a + b) 0 : Nat) : Int)) H Q
theorem inV_any {n : Nat} : ∀ (L : List Leg), inV (.int (n : Int)) (L.map fun g => V.int (g.to_ : Int)) = L.any fun g => g.to_ == n
  | [] => rfl
  | g :: L => by
    have h := inV_any (n := n) L
    unfold inV at h ⊢
    rw [List.map_cons, List.any_cons, List.any_cons, h]
    congr 1
    show decide ((g.to_ : Int) = (n : Int)) = decide (g.to_ = n)
    rw [Bool.eq_iff_iff]
    simp only [decide_eq_true_eq]
    omega
theorem allFlat_int {L : List Leg} : (L.map fun g => V.int (g.to_ : Int)).all flatV = true := by
  rw [List.all_eq_true]
  intro x hx
  obtain ⟨g, _, rfl⟩ := List.mem_map.mp hx
  rfl
theorem closed_eq {r : RunBook.Run} : r.closed = (decide (0 < r.legs.length) && (r.legs[r.legs.length - 1]?).any fun g => decide (g.to_ = r.to_)) := by
  unfold RunBook.Run.closed
  rw [List.getLast?_eq_getElem?]
  cases e : r.legs with
  | nil => rfl
  | cons g L =>
    rw [List.length_cons]
    simp only [Nat.zero_lt_succ, decide_true, Bool.true_and]
    rfl
theorem passes_iff {r : RunBook.Run} {n : Nat} : (TravSpec.placeNo r n).isSome = (decide (r.from_ = n) || r.legs.any fun g => g.to_ == n) := by
  unfold TravSpec.placeNo
  rw [List.findIdx?_isSome, List.any_cons, List.any_map]
  rfl
theorem sum_len : ∀ (L : List RunBook.Run), (L.map fun r => ((r.legs.length : Nat) : Int)).sum = (((L.map fun r => r.legs.length).foldr (fun (a b : Nat) => a + b) 0 : Nat) : Int)
  | [] => rfl
  | g :: L => by
    have h := sum_len L
    rw [List.map_cons, List.sum_cons, h, List.map_cons, List.foldr_cons]
    omega
section
variable {P : Program} {w : World} {K : PySem.W.Frag} {mg : Str → Option Value} {base : Heap} {σ : L2.St} {H : Hp} {ta tb tc te : TE} {D : Ends} {tz : TS}
theorem ev_withinC {i j k : Int} {E : XK} (ha : Ev ta σ H (.int i)) (hb : Ev tb σ H (.int j)) (hc : Ev tc σ H (.int k)) : Ev (tCall spWithin [] E (tCons ta (tCons tb (tCons tc tNil)))) σ H (.bl (decide (j ≤ i) && decide (i ≤ k))) := ev_callV (ea_cons ha (ea_cons hb (ea_cons hc ea_nil))) fun _ _ _ k => ⟨_, _, _, rfl, k⟩
theorem sc_is_within : FnScope ["number", "least", "most"] ["number", "least", "most"] (defScope s_is_within) := ⟨rfl, rfl, rfl, by decide +kernel, rfl, by decide +kernel, by decide +kernel⟩
theorem ok_is_within (T : Txt K mg) : Def P w K mg base CX0 1 "is_within" ["number", "least", "most"] spWithin := by
  refine T.def_ 19 16 rfl rfl rfl rfl rfl sc_is_within (fun _ _ _ _ _ _ us hl => match us, hl with | [_, _, _], _ => rfl) (fun vs H Q E h => by first | (obtain ⟨_, rfl, _⟩ := h; rfl) | (obtain ⟨_, _, rfl, _⟩ := h; rfl) | (obtain ⟨_, _, _, rfl, _⟩ := h; rfl) | (obtain ⟨_, _, _, _, rfl, _⟩ := h; rfl) | (obtain ⟨_, _, _, _, _, rfl, _⟩ := h; rfl) | (obtain ⟨_, _, _, _, _, _, rfl, _⟩ := h; rfl) | (obtain ⟨_, _, _, _, _, _, _, rfl, _⟩ := h; rfl) | (obtain ⟨_, _, _, _, _, _, _, _, rfl, _⟩ := h; rfl) | (obtain ⟨_, _, _, _, _, _, _, _, _, rfl, _⟩ := h; rfl) | (obtain ⟨_, _, _, _, _, _, _, _, _, _, rfl, _⟩ := h; rfl) | (obtain ⟨_, _, _, _, _, _, _, _, _, _, _, rfl, _⟩ := h; rfl) | (obtain ⟨_, _, _, _, _, _, _, _, _, _, _, _, rfl, _⟩ := h; rfl) | (obtain ⟨_, _, _, _, _, _, _, _, _, _, _, _, _, rfl, _⟩ := h; rfl) | (obtain ⟨_, _, _, _, _, _, _, _, _, _, _, _, _, _, rfl, _⟩ := h; rfl) | (obtain ⟨_, _, _, _, _, _, _, _, _, _, _, _, _, _, _, rfl, _⟩ := h; rfl) | (obtain ⟨_, _, _, _, _, _, _, _, _, _, _, _, _, _, _, _, rfl, _⟩ := h; rfl) | (obtain ⟨_, _, _, _, _, _, _, _, _, _, _, _, _, _, _, _, _, rfl, _⟩ := h; rfl) | (obtain ⟨_, _, _, _, _, _, _, _, _, _, _, _, _, _, _, _, _, _, rfl, _⟩ := h; rfl) | (obtain ⟨_, _, _, _, _, _, _, _, _, _, _, _, _, _, _, _, _, _, _, rfl, _⟩ := h; rfl)) (fun f cdv A outer s H vs Q E hr h => ⟨_, PSs.nox (pss_one (ps_ret (pe_chain op_le op_le (pv 1) (pv 0) (pv 2)))), ?_⟩)
  obtain ⟨i, j, kk, rfl, k⟩ := h
  exact Sv.go (sv_ret (ev_within (ev_var rfl) (ev_var rfl) (ev_var rfl)) k)
theorem sc_is_point : FnScope ["number"] ["number"] (defScope s_is_point) := ⟨rfl, rfl, rfl, by decide +kernel, rfl, by decide +kernel, by decide +kernel⟩
theorem ok_is_point (T : Txt K mg) : Def P w K mg base CX0 2 "is_point" ["number"] spPoint := by
  refine T.def_ 20 17 rfl rfl rfl rfl rfl sc_is_point (fun _ _ _ _ _ _ us hl => match us, hl with | [_], _ => rfl) (fun vs H Q E h => by first | (obtain ⟨_, rfl, _⟩ := h; rfl) | (obtain ⟨_, _, rfl, _⟩ := h; rfl) | (obtain ⟨_, _, _, rfl, _⟩ := h; rfl) | (obtain ⟨_, _, _, _, rfl, _⟩ := h; rfl) | (obtain ⟨_, _, _, _, _, rfl, _⟩ := h; rfl) | (obtain ⟨_, _, _, _, _, _, rfl, _⟩ := h; rfl) | (obtain ⟨_, _, _, _, _, _, _, rfl, _⟩ := h; rfl) | (obtain ⟨_, _, _, _, _, _, _, _, rfl, _⟩ := h; rfl) | (obtain ⟨_, _, _, _, _, _, _, _, _, rfl, _⟩ := h; rfl) | (obtain ⟨_, _, _, _, _, _, _, _, _, _, rfl, _⟩ := h; rfl) | (obtain ⟨_, _, _, _, _, _, _, _, _, _, _, rfl, _⟩ := h; rfl) | (obtain ⟨_, _, _, _, _, _, _, _, _, _, _, _, rfl, _⟩ := h; rfl) | (obtain ⟨_, _, _, _, _, _, _, _, _, _, _, _, _, rfl, _⟩ := h; rfl) | (obtain ⟨_, _, _, _, _, _, _, _, _, _, _, _, _, _, rfl, _⟩ := h; rfl) | (obtain ⟨_, _, _, _, _, _, _, _, _, _, _, _, _, _, _, rfl, _⟩ := h; rfl) | (obtain ⟨_, _, _, _, _, _, _, _, _, _, _, _, _, _, _, _, rfl, _⟩ := h; rfl) | (obtain ⟨_, _, _, _, _, _, _, _, _, _, _, _, _, _, _, _, _, rfl, _⟩ := h; rfl) | (obtain ⟨_, _, _, _, _, _, _, _, _, _, _, _, _, _, _, _, _, _, rfl, _⟩ := h; rfl) | (obtain ⟨_, _, _, _, _, _, _, _, _, _, _, _, _, _, _, _, _, _, _, rfl, _⟩ := h; rfl)) (fun f cdv A outer s H vs Q E hr h => ⟨_, PSs.nox (pss_one (ps_ret (pe_cd (ok_is_within T) hr pass0 (pa_cons (pv 0) (pa_cons (pe_gi (T.int 122 rfl)) (pa_cons (pe_gi (T.int 123 rfl)) pa_nil)))))), ?_⟩)
  obtain ⟨n, rfl, k⟩ := h
  refine Sv.go (sv_ret (ev_is (ev_withinC (ev_var rfl) ev_c ev_c) ?_) k)
  congr 1
  unfold numberMay RunBook.NUMBER
  congr 1
  · rw [Bool.eq_iff_iff]
    simp only [decide_eq_true_eq]
    omega
  · rw [Bool.eq_iff_iff]
    simp only [decide_eq_true_eq]
    omega
theorem sc_is_step : FnScope ["east", "north"] ["east", "north"] (defScope s_is_step) := ⟨rfl, rfl, rfl, by decide +kernel, rfl, by decide +kernel, by decide +kernel⟩
theorem ok_is_step (T : Txt K mg) : Def P w K mg base CX0 2 "is_step" ["east", "north"] spStep := by
  refine T.def_ 21 18 rfl rfl rfl rfl rfl sc_is_step (fun _ _ _ _ _ _ us hl => match us, hl with | [_, _], _ => rfl) (fun vs H Q E h => by first | (obtain ⟨_, rfl, _⟩ := h; rfl) | (obtain ⟨_, _, rfl, _⟩ := h; rfl) | (obtain ⟨_, _, _, rfl, _⟩ := h; rfl) | (obtain ⟨_, _, _, _, rfl, _⟩ := h; rfl) | (obtain ⟨_, _, _, _, _, rfl, _⟩ := h; rfl) | (obtain ⟨_, _, _, _, _, _, rfl, _⟩ := h; rfl) | (obtain ⟨_, _, _, _, _, _, _, rfl, _⟩ := h; rfl) | (obtain ⟨_, _, _, _, _, _, _, _, rfl, _⟩ := h; rfl) | (obtain ⟨_, _, _, _, _, _, _, _, _, rfl, _⟩ := h; rfl) | (obtain ⟨_, _, _, _, _, _, _, _, _, _, rfl, _⟩ := h; rfl) | (obtain ⟨_, _, _, _, _, _, _, _, _, _, _, rfl, _⟩ := h; rfl) | (obtain ⟨_, _, _, _, _, _, _, _, _, _, _, _, rfl, _⟩ := h; rfl) | (obtain ⟨_, _, _, _, _, _, _, _, _, _, _, _, _, rfl, _⟩ := h; rfl) | (obtain ⟨_, _, _, _, _, _, _, _, _, _, _, _, _, _, rfl, _⟩ := h; rfl) | (obtain ⟨_, _, _, _, _, _, _, _, _, _, _, _, _, _, _, rfl, _⟩ := h; rfl) | (obtain ⟨_, _, _, _, _, _, _, _, _, _, _, _, _, _, _, _, rfl, _⟩ := h; rfl) | (obtain ⟨_, _, _, _, _, _, _, _, _, _, _, _, _, _, _, _, _, rfl, _⟩ := h; rfl) | (obtain ⟨_, _, _, _, _, _, _, _, _, _, _, _, _, _, _, _, _, _, rfl, _⟩ := h; rfl) | (obtain ⟨_, _, _, _, _, _, _, _, _, _, _, _, _, _, _, _, _, _, _, rfl, _⟩ := h; rfl)) (fun f cdv A outer s H vs Q E hr h => ⟨_, PSs.nox (pss_cons (ps_if (PW.pt (pw_or (pt_not (pt_val (pe_cd (ok_is_within T) hr pass0 (pa_cons (pv 0) (pa_cons (pe_un un_neg (pe_gi (T.int 127 rfl))) (pa_cons (pe_gi (T.int 127 rfl)) pa_nil)))))) (pw_or1 (pt_not (pt_val (pe_cd (ok_is_within T) hr pass0 (pa_cons (pv 1) (pa_cons (pe_un un_neg (pe_gi (T.int 127 rfl))) (pa_cons (pe_gi (T.int 127 rfl)) pa_nil))))))))) (pss_one (ps_ret pe_bl)) pss_nil) (pss_one (ps_ret (pe_or (pe_cmpR op_ne (pv 0) pe_int (nomark _)) (pe_one (pe_cmpR op_ne (pv 1) pe_int (nomark _))))))), ?_⟩)
  obtain ⟨e, n, rfl, k⟩ := h
  refine Sv.go (sv_when (b := !(decide (-99999 ≤ e) && decide (e ≤ 99999)) || !(decide (-99999 ≤ n) && decide (n ≤ 99999))) (et_or (et_not (et_test (ev_withinC (ev_var rfl) (ev_neg ev_c) ev_c))) fun _ => et_not (et_test (ev_withinC (ev_var rfl) (ev_neg ev_c) ev_c))) (fun hb => ?_) fun hb => ?_)
  · refine sv_ret (v := .bl false) ev_c ?_
    have e0 : stepOk e n = false := by
      unfold stepOk
      simp only [Bool.or_eq_true, Bool.not_eq_true', Bool.and_eq_false_iff, decide_eq_false_iff_not] at hb ⊢
      omega
    rw [e0] at k
    exact k
  · refine sv_ret (v := .bl (stepOk e n)) (ev_is (ev_orV (ev_neI (ev_var rfl) ev_c) fun _ => ev_neI (ev_var rfl) ev_c) ?_) k
    congr 1
    unfold stepOk
    rw [Bool.or_eq_false_iff] at hb
    rw [Bool.eq_iff_iff]
    simp only [Bool.or_eq_true, Bool.and_eq_true, Bool.not_eq_true', Bool.not_eq_false', decide_eq_true_eq, decide_eq_false_iff_not] at hb ⊢
    omega
theorem sc_is_reached : FnScope ["run", "point", "leg"] ["run", "point"] (defScope s_is_reached) := ⟨rfl, rfl, rfl, by decide +kernel, rfl, by decide +kernel, by decide +kernel⟩
theorem ok_is_reached (T : Txt K mg) : Def P w K mg base CX0 1 "is_reached" ["run", "point"] (spReached K) := by
  refine T.def_ 22 19 rfl rfl rfl rfl rfl sc_is_reached (fun _ _ _ _ _ _ us hl => match us, hl with | [_, _], _ => rfl) (fun vs H Q E h => by first | (obtain ⟨_, rfl, _⟩ := h; rfl) | (obtain ⟨_, _, rfl, _⟩ := h; rfl) | (obtain ⟨_, _, _, rfl, _⟩ := h; rfl) | (obtain ⟨_, _, _, _, rfl, _⟩ := h; rfl) | (obtain ⟨_, _, _, _, _, rfl, _⟩ := h; rfl) | (obtain ⟨_, _, _, _, _, _, rfl, _⟩ := h; rfl) | (obtain ⟨_, _, _, _, _, _, _, rfl, _⟩ := h; rfl) | (obtain ⟨_, _, _, _, _, _, _, _, rfl, _⟩ := h; rfl) | (obtain ⟨_, _, _, _, _, _, _, _, _, rfl, _⟩ := h; rfl) | (obtain ⟨_, _, _, _, _, _, _, _, _, _, rfl, _⟩ := h; rfl) | (obtain ⟨_, _, _, _, _, _, _, _, _, _, _, rfl, _⟩ := h; rfl) | (obtain ⟨_, _, _, _, _, _, _, _, _, _, _, _, rfl, _⟩ := h; rfl) | (obtain ⟨_, _, _, _, _, _, _, _, _, _, _, _, _, rfl, _⟩ := h; rfl) | (obtain ⟨_, _, _, _, _, _, _, _, _, _, _, _, _, _, rfl, _⟩ := h; rfl) | (obtain ⟨_, _, _, _, _, _, _, _, _, _, _, _, _, _, _, rfl, _⟩ := h; rfl) | (obtain ⟨_, _, _, _, _, _, _, _, _, _, _, _, _, _, _, _, rfl, _⟩ := h; rfl) | (obtain ⟨_, _, _, _, _, _, _, _, _, _, _, _, _, _, _, _, _, rfl, _⟩ := h; rfl) | (obtain ⟨_, _, _, _, _, _, _, _, _, _, _, _, _, _, _, _, _, _, rfl, _⟩ := h; rfl) | (obtain ⟨_, _, _, _, _, _, _, _, _, _, _, _, _, _, _, _, _, _, _, rfl, _⟩ := h; rfl)) (fun f cdv A outer s H vs Q E hr h => ⟨_, PSs.nox (pss_one (ps_ret (pe_cmpR op_in_seq (pv 1) (pe_lc (own := [("leg", 2)]) (g := gName 2) (tt := tYes) (te := (tFld K (tVar 2) "point")) rfl sc_is_reached.nd (pi_list (pe_fld (pv 0) rfl)) (blkOk_by (own := [("leg", 2)]) (N := ["run", "point", "leg"]) (sc := defScope s_is_reached) (by decide +kernel)) (fun _ _ _ _ _ => pg_name (i := 2) sc_is_reached.nd rfl (Or.inl rfl)) (fun _ _ _ _ _ => pts_nil) (fun _ _ _ _ _ => by exact (pe_fld (pv 2) rfl))) (by rfl)))), ?_⟩)
  obtain ⟨v, r, n, rfl, ⟨a, dx, l, vs, rfl, hr, hl, hv⟩, hn, k⟩ := h
  refine Sv.go (sv_ret (fun H1 e1 Q q => ?_) k)
  show tOp (rIn K false) (tVar 1) _ _ H1 Q
  refine ⟨.int (n : Int), rfl, ?_⟩
  refine evp_mapE (Pr := LegAt K) (f := fun g => .int (g.to_ : Int)) (ev_run3 T (ev_var rfl) hr) (sq_of hl) hv (by omega) (fun x => rfl) (fun g x _ hx => ev_leg1 T (ev_var rfl) hx) H1 e1 _ fun u H2 e2 h2 => ?_
  obtain ⟨p, rfl, hp⟩ := h2
  refine ⟨p, _, rfl, .inl (sq_of hp), rfl, allFlat_int, ?_⟩
  show Q (.bl (inV (.int (n : Int)) _)) H2
  rw [inV_any]
  exact q H2 e2
theorem sc_has_arrived : FnScope ["run"] ["run"] (defScope s_has_arrived) := ⟨rfl, rfl, rfl, by decide +kernel, rfl, by decide +kernel, by decide +kernel⟩
theorem ok_has_arrived (T : Txt K mg) : Def P w K mg base CX0 1 "has_arrived" ["run"] (spArrived K) := by
  refine T.def_ 23 20 rfl rfl rfl rfl rfl sc_has_arrived (fun _ _ _ _ _ _ us hl => match us, hl with | [_], _ => rfl) (fun vs H Q E h => by first | (obtain ⟨_, rfl, _⟩ := h; rfl) | (obtain ⟨_, _, rfl, _⟩ := h; rfl) | (obtain ⟨_, _, _, rfl, _⟩ := h; rfl) | (obtain ⟨_, _, _, _, rfl, _⟩ := h; rfl) | (obtain ⟨_, _, _, _, _, rfl, _⟩ := h; rfl) | (obtain ⟨_, _, _, _, _, _, rfl, _⟩ := h; rfl) | (obtain ⟨_, _, _, _, _, _, _, rfl, _⟩ := h; rfl) | (obtain ⟨_, _, _, _, _, _, _, _, rfl, _⟩ := h; rfl) | (obtain ⟨_, _, _, _, _, _, _, _, _, rfl, _⟩ := h; rfl) | (obtain ⟨_, _, _, _, _, _, _, _, _, _, rfl, _⟩ := h; rfl) | (obtain ⟨_, _, _, _, _, _, _, _, _, _, _, rfl, _⟩ := h; rfl) | (obtain ⟨_, _, _, _, _, _, _, _, _, _, _, _, rfl, _⟩ := h; rfl) | (obtain ⟨_, _, _, _, _, _, _, _, _, _, _, _, _, rfl, _⟩ := h; rfl) | (obtain ⟨_, _, _, _, _, _, _, _, _, _, _, _, _, _, rfl, _⟩ := h; rfl) | (obtain ⟨_, _, _, _, _, _, _, _, _, _, _, _, _, _, _, rfl, _⟩ := h; rfl) | (obtain ⟨_, _, _, _, _, _, _, _, _, _, _, _, _, _, _, _, rfl, _⟩ := h; rfl) | (obtain ⟨_, _, _, _, _, _, _, _, _, _, _, _, _, _, _, _, _, rfl, _⟩ := h; rfl) | (obtain ⟨_, _, _, _, _, _, _, _, _, _, _, _, _, _, _, _, _, _, rfl, _⟩ := h; rfl) | (obtain ⟨_, _, _, _, _, _, _, _, _, _, _, _, _, _, _, _, _, _, _, rfl, _⟩ := h; rfl)) (fun f cdv A outer s H vs Q E hr h => ⟨_, PSs.nox (pss_one (ps_ret (pe_and (pe_cmpR op_gt (pe_callB call_len (by rfl) (T.free 160 rfl) (by decide +kernel) (pa_cons (pe_fld (pv 0) rfl) pa_nil)) pe_int (nomark _)) (pe_one (pe_cmpR op_eq (pe_fld (pe_ix ix_list (pe_fld (pv 0) rfl) (pe_un un_neg pe_int) (fun _ _ => rfl)) rfl) (pe_fld (pv 0) rfl) (nomark _)))))), ?_⟩)
  obtain ⟨v, r, rfl, ⟨a, dx, l, vs, rfl, hr, hl, hv⟩, hn, k⟩ := h
  have hln := each_lenM hv
  refine Sv.go (sv_ret (v := .bl r.closed) (ev_is (ev_andV (a := decide ((0 : Int) < (vs.length : Int))) (b := (r.legs[r.legs.length - 1]?).any fun g => decide (g.to_ = r.to_)) (ev_op (ev_len1 (ev_run3 T (ev_var rfl) hr) (sq_of hl)) ev_c rv_I0) fun hc => ?_) ?_) k)
  · have hc := of_decide_eq_true hc
    obtain ⟨g, hg⟩ : ∃ g, r.legs[r.legs.length - 1]? = some g := ⟨_, List.getElem?_eq_getElem (by omega)⟩
    obtain ⟨u, hu, hgu⟩ := each_get hv (i := r.legs.length - 1) (P := LegAt K g) (by rw [List.getElem?_map, hg]; rfl)
    rw [hg]
    refine ev_eqN (ev_leg1 T (ev_ix (i := -1) (ev_run3 T (ev_var rfl) hr) (ev_neg ev_c) (sq_of hl) ?_) hgu) (ev_run2 T (ev_var rfl) hr)
    unfold atI ixN
    rw [if_neg (by omega), if_pos (by omega)]
    have e : ((-1 : Int) + (vs.length : Int)).toNat = r.legs.length - 1 := by omega
    rw [e]
    exact hu
  · rw [closed_eq]
    congr 2
    rw [Bool.eq_iff_iff]
    simp only [decide_eq_true_eq]
    omega
theorem sc_may_reach : FnScope ["book", "run", "point"] ["book", "run", "point"] (defScope s_may_reach) := ⟨rfl, rfl, rfl, by decide +kernel, rfl, by decide +kernel, by decide +kernel⟩
theorem ok_may_reach (T : Txt K mg) : Def P w K mg base CX0 2 "may_reach" ["book", "run", "point"] (spMay K) := by
  refine T.def_ 24 21 rfl rfl rfl rfl rfl sc_may_reach (fun _ _ _ _ _ _ us hl => match us, hl with | [_, _, _], _ => rfl) (fun vs H Q E h => by first | (obtain ⟨_, rfl, _⟩ := h; rfl) | (obtain ⟨_, _, rfl, _⟩ := h; rfl) | (obtain ⟨_, _, _, rfl, _⟩ := h; rfl) | (obtain ⟨_, _, _, _, rfl, _⟩ := h; rfl) | (obtain ⟨_, _, _, _, _, rfl, _⟩ := h; rfl) | (obtain ⟨_, _, _, _, _, _, rfl, _⟩ := h; rfl) | (obtain ⟨_, _, _, _, _, _, _, rfl, _⟩ := h; rfl) | (obtain ⟨_, _, _, _, _, _, _, _, rfl, _⟩ := h; rfl) | (obtain ⟨_, _, _, _, _, _, _, _, _, rfl, _⟩ := h; rfl) | (obtain ⟨_, _, _, _, _, _, _, _, _, _, rfl, _⟩ := h; rfl) | (obtain ⟨_, _, _, _, _, _, _, _, _, _, _, rfl, _⟩ := h; rfl) | (obtain ⟨_, _, _, _, _, _, _, _, _, _, _, _, rfl, _⟩ := h; rfl) | (obtain ⟨_, _, _, _, _, _, _, _, _, _, _, _, _, rfl, _⟩ := h; rfl) | (obtain ⟨_, _, _, _, _, _, _, _, _, _, _, _, _, _, rfl, _⟩ := h; rfl) | (obtain ⟨_, _, _, _, _, _, _, _, _, _, _, _, _, _, _, rfl, _⟩ := h; rfl) | (obtain ⟨_, _, _, _, _, _, _, _, _, _, _, _, _, _, _, _, rfl, _⟩ := h; rfl) | (obtain ⟨_, _, _, _, _, _, _, _, _, _, _, _, _, _, _, _, _, rfl, _⟩ := h; rfl) | (obtain ⟨_, _, _, _, _, _, _, _, _, _, _, _, _, _, _, _, _, _, rfl, _⟩ := h; rfl) | (obtain ⟨_, _, _, _, _, _, _, _, _, _, _, _, _, _, _, _, _, _, _, rfl, _⟩ := h; rfl)) (fun f cdv A outer s H vs Q E hr h => ⟨_, PSs.nox (pss_cons (ps_if (pt_val (pe_cd (ok_has_arrived T) hr pass0 (pa_cons (pv 1) pa_nil))) (pss_one (ps_ret pe_bl)) pss_nil) (pss_cons (ps_if (pt_cmpR op_eq (pv 2) (pe_fld (pv 1) rfl) (nomark _)) (pss_one (ps_ret pe_bl)) pss_nil) (pss_one (ps_ret (pe_and (pe_cmp (pc_dnotin (hu_of hr) (pv 2) (pe_fld (pv 0) rfl)) (by rfl)) (pe_one (pe_not (pe_cd (ok_is_reached T) hr pass0 (pa_cons (pv 1) (pa_cons (pv 2) pa_nil)))))))))), ?_⟩)
  obtain ⟨b, v, B, r, n, rfl, hB, hR, hn, k⟩ := h
  obtain ⟨ab, db, d, lb, kvs, bs, rfl, hb, hd, hk, hlb, hE⟩ := hB
  obtain ⟨a, dx, l, vs, rfl, hr, hl, hv⟩ := id hR
  have h1 := hk.is n
  rw [← knownAt_some] at h1
  unfold mayReach at k
  refine Sv.go (sv_when (b := r.closed) (et_test (ev_callV (ea_cons (ev_var rfl) ea_nil) fun H1 e Q k => ⟨.ref a, r, rfl, stay_RunAt r _ _ _ e hR, hn, k⟩)) (fun hc => ?_) fun hc => ?_)
  · rw [hc] at k
    exact sv_ret ev_c k
  rw [hc] at k
  refine sv_when (b := decide (n = r.to_)) (et_test (ev_eqN (ev_var rfl) (ev_run2 T (ev_var rfl) hr))) (fun hq => ?_) fun hq => ?_
  · have e : (n == r.to_) = true := hq
    rw [e] at k
    exact sv_ret ev_c k
  · have e : (n == r.to_) = false := hq
    rw [e] at k
    refine sv_ret (v := .bl (!(knownAt B n).isSome && !(r.legs.any fun g => g.to_ == n))) (ev_andV (ev_is (ev_dnotin (k := .inl (n : Int)) (ev_book1 T (ev_var rfl) hb) (ev_var rfl) hd) (by rw [h1])) fun _ => ev_notV (ev_callV (ea_cons (ev_var rfl) (ea_cons (ev_var rfl) ea_nil)) fun H1 e Q k => ⟨.ref a, r, n, rfl, stay_RunAt r _ _ _ e hR, hn, k⟩)) ?_
    rw [Option.not_isSome]
    exact k
theorem sc_passes_by : FnScope ["run", "point"] ["run", "point"] (defScope s_passes_by) := ⟨rfl, rfl, rfl, by decide +kernel, rfl, by decide +kernel, by decide +kernel⟩
theorem ok_passes_by (T : Txt K mg) : Def P w K mg base CX0 2 "passes_by" ["run", "point"] (spPasses K) := by
  refine T.def_ 25 22 rfl rfl rfl rfl rfl sc_passes_by (fun _ _ _ _ _ _ us hl => match us, hl with | [_, _], _ => rfl) (fun vs H Q E h => by first | (obtain ⟨_, rfl, _⟩ := h; rfl) | (obtain ⟨_, _, rfl, _⟩ := h; rfl) | (obtain ⟨_, _, _, rfl, _⟩ := h; rfl) | (obtain ⟨_, _, _, _, rfl, _⟩ := h; rfl) | (obtain ⟨_, _, _, _, _, rfl, _⟩ := h; rfl) | (obtain ⟨_, _, _, _, _, _, rfl, _⟩ := h; rfl) | (obtain ⟨_, _, _, _, _, _, _, rfl, _⟩ := h; rfl) | (obtain ⟨_, _, _, _, _, _, _, _, rfl, _⟩ := h; rfl) | (obtain ⟨_, _, _, _, _, _, _, _, _, rfl, _⟩ := h; rfl) | (obtain ⟨_, _, _, _, _, _, _, _, _, _, rfl, _⟩ := h; rfl) | (obtain ⟨_, _, _, _, _, _, _, _, _, _, _, rfl, _⟩ := h; rfl) | (obtain ⟨_, _, _, _, _, _, _, _, _, _, _, _, rfl, _⟩ := h; rfl) | (obtain ⟨_, _, _, _, _, _, _, _, _, _, _, _, _, rfl, _⟩ := h; rfl) | (obtain ⟨_, _, _, _, _, _, _, _, _, _, _, _, _, _, rfl, _⟩ := h; rfl) | (obtain ⟨_, _, _, _, _, _, _, _, _, _, _, _, _, _, _, rfl, _⟩ := h; rfl) | (obtain ⟨_, _, _, _, _, _, _, _, _, _, _, _, _, _, _, _, rfl, _⟩ := h; rfl) | (obtain ⟨_, _, _, _, _, _, _, _, _, _, _, _, _, _, _, _, _, rfl, _⟩ := h; rfl) | (obtain ⟨_, _, _, _, _, _, _, _, _, _, _, _, _, _, _, _, _, _, rfl, _⟩ := h; rfl) | (obtain ⟨_, _, _, _, _, _, _, _, _, _, _, _, _, _, _, _, _, _, _, rfl, _⟩ := h; rfl)) (fun f cdv A outer s H vs Q E hr h => ⟨_, PSs.nox (pss_one (ps_ret (pe_or (pe_cmpR op_eq (pe_fld (pv 0) rfl) (pv 1) (nomark _)) (pe_one (pe_cd (ok_is_reached T) hr pass0 (pa_cons (pv 0) (pa_cons (pv 1) pa_nil))))))), ?_⟩)
  obtain ⟨v, r, n, rfl, hR, hn, k⟩ := h
  obtain ⟨a, dx, l, vs, rfl, hr, hl, hv⟩ := id hR
  rw [passes_iff] at k
  exact Sv.go (sv_ret (ev_orV (ev_eqN (ev_run1 T (ev_var rfl) hr) (ev_var rfl)) fun _ => ev_callV (ea_cons (ev_var rfl) (ea_cons (ev_var rfl) ea_nil)) fun H1 e Q k => ⟨.ref a, r, n, rfl, stay_RunAt r _ _ _ e hR, hn, k⟩) k)
theorem sc_leg_count : FnScope ["book", "run"] ["book"] (defScope s_leg_count) := ⟨rfl, rfl, rfl, by decide +kernel, rfl, by decide +kernel, by decide +kernel⟩
theorem ok_leg_count (T : Txt K mg) : Def P w K mg base CX0 1 "leg_count" ["book"] (spCount K) := by
  refine T.def_ 26 23 rfl rfl rfl rfl rfl sc_leg_count (fun _ _ _ _ _ _ us hl => match us, hl with | [_], _ => rfl) (fun vs H Q E h => by first | (obtain ⟨_, rfl, _⟩ := h; rfl) | (obtain ⟨_, _, rfl, _⟩ := h; rfl) | (obtain ⟨_, _, _, rfl, _⟩ := h; rfl) | (obtain ⟨_, _, _, _, rfl, _⟩ := h; rfl) | (obtain ⟨_, _, _, _, _, rfl, _⟩ := h; rfl) | (obtain ⟨_, _, _, _, _, _, rfl, _⟩ := h; rfl) | (obtain ⟨_, _, _, _, _, _, _, rfl, _⟩ := h; rfl) | (obtain ⟨_, _, _, _, _, _, _, _, rfl, _⟩ := h; rfl) | (obtain ⟨_, _, _, _, _, _, _, _, _, rfl, _⟩ := h; rfl) | (obtain ⟨_, _, _, _, _, _, _, _, _, _, rfl, _⟩ := h; rfl) | (obtain ⟨_, _, _, _, _, _, _, _, _, _, _, rfl, _⟩ := h; rfl) | (obtain ⟨_, _, _, _, _, _, _, _, _, _, _, _, rfl, _⟩ := h; rfl) | (obtain ⟨_, _, _, _, _, _, _, _, _, _, _, _, _, rfl, _⟩ := h; rfl) | (obtain ⟨_, _, _, _, _, _, _, _, _, _, _, _, _, _, rfl, _⟩ := h; rfl) | (obtain ⟨_, _, _, _, _, _, _, _, _, _, _, _, _, _, _, rfl, _⟩ := h; rfl) | (obtain ⟨_, _, _, _, _, _, _, _, _, _, _, _, _, _, _, _, rfl, _⟩ := h; rfl) | (obtain ⟨_, _, _, _, _, _, _, _, _, _, _, _, _, _, _, _, _, rfl, _⟩ := h; rfl) | (obtain ⟨_, _, _, _, _, _, _, _, _, _, _, _, _, _, _, _, _, _, rfl, _⟩ := h; rfl) | (obtain ⟨_, _, _, _, _, _, _, _, _, _, _, _, _, _, _, _, _, _, _, rfl, _⟩ := h; rfl)) (fun f cdv A outer s H vs Q E hr h => ⟨_, PSs.nox (pss_one (ps_ret (pe_callB (cr_sum rfl) (by rfl) (T.free 167 rfl) (by decide +kernel) (pa_cons (pe_lc (own := [("run", 1)]) (g := gName 1) (tt := tYes) (te := (tCB (fun xs H Q => ∃ x n, xs = [x] ∧ LenV K x H n ∧ Q (.int n) H) (tCons (tFld K (tVar 1) "legs") tNil))) rfl sc_leg_count.nd (pi_list (pe_fld (pv 0) rfl)) (blkOk_by (own := [("run", 1)]) (N := ["book", "run"]) (sc := defScope s_leg_count) (by decide +kernel)) (fun _ _ _ _ _ => pg_name (i := 1) sc_leg_count.nd rfl (Or.inl rfl)) (fun _ _ _ _ _ => pts_nil) (fun _ _ _ _ _ => by exact (pe_callB call_len (by rfl) (T.free 160 rfl) (by decide +kernel) (pa_cons (pe_fld (pv 1) rfl) pa_nil)))) pa_nil)))), ?_⟩)
  obtain ⟨b, B, rfl, ⟨ab, db, d, lb, kvs, bs, rfl, hb, hd, hk, hlb, hE⟩, hn, k⟩ := h
  refine Sv.go (sv_ret (ev_is (ev_sumP (ns := B.runs.map fun r => ((r.legs.length : Nat) : Int)) (evp_mapE (Pr := RunAt K) (f := fun r => .int ((r.legs.length : Nat) : Int)) (ev_book2 T (ev_var rfl) hb) (sq_of hlb) hE (by omega) (fun x => rfl) fun r x _ hx => ?_) (by rw [List.map_map]; rfl)) (by rw [sum_len])) k)
  obtain ⟨a, dx, l, vs, rfl, hr, hl, hv⟩ := hx
  exact ev_is (ev_len1 (ev_run3 T (ev_var rfl) hr) (sq_of hl)) (by rw [each_lenM hv])
end
end Trav
namespace Trav
open LsRun (Leg)
open LsGeo (Pt)
open RunBook (Book)
/-! ## printing -/
theorem tl_of (s : String) : TL.tl (Str.ofString s) = s.toList.map Char.toNat := by
  rw [Str.ofString_eq_toList]
/-- bytes as numbers -/
def nb (b : List UInt8) : List Nat := b.map UInt8.toNat
theorem nb_append (a b : List UInt8) : nb (a ++ b) = nb a ++ nb b := List.map_append
theorem nb_ascii {s : String} (h : ∀ c ∈ s.toList, c.toNat < 256) : nb (LsText.ascii s) = TL.tl (Str.ofString s) := by
  rw [tl_of]
  unfold nb LsText.ascii
  rw [List.map_map]
  refine List.map_congr_left fun c hc => ?_
  show (UInt8.ofNat c.toNat).toNat = c.toNat
  rw [UInt8.toNat_ofNat']
  exact Nat.mod_eq_of_lt (h c hc)
theorem nb_digits (n : Nat) : nb (LsText.digits n) = TL.numL n := by
  have e : toString n = toString ((n : Nat) : Int) := rfl
  have e2 := TL.tl_num n
  unfold LsText.digits
  rw [e, nb_ascii, e2]
  intro c hc
  have h1 : c.toNat ∈ TL.numL n := by
    rw [← e2, tl_of]
    exact List.mem_map_of_mem hc
  have := TL.numL_digits n c.toNat h1
  omega
theorem tl_int (z : Int) : TL.tl (Str.ofString (toString z)) = nb (RunBook.signed z) := by
  unfold RunBook.signed
  by_cases h : z < 0
  · rw [if_pos h, PyProof.Rows.toString_neg h, tl_of]
    have e : (0 : Int) - z = ((z.natAbs : Nat) : Int) := by omega
    rw [e, String.toList_append, List.map_append, ← tl_of, ← tl_of, TL.tl_num]
    show _ = 45 :: nb (LsText.digits z.natAbs)
    rw [nb_digits]
    rfl
  · have e : z = ((z.natAbs : Nat) : Int) := by omega
    rw [if_neg h, nb_digits]
    conv => lhs; rw [e]
    exact TL.tl_num _
theorem signed_nat (n : Nat) : nb (RunBook.signed ((n : Nat) : Int)) = TL.numL n := by rw [← tl_int, TL.tl_num]
theorem tl_e : TL.tl Str.empty = [] := rfl
theorem numL_le {n : Nat} (h : n ≤ 999999) : (TL.numL n).length ≤ 6 := TL.numL_len (by decide) (by omega)
theorem signed_le {z : Int} (h : z.natAbs ≤ 999999) : (nb (RunBook.signed z)).length ≤ 7 := by
  have h1 := numL_le h
  unfold RunBook.signed
  split
  · show (nb (LsText.digits z.natAbs)).length + 1 ≤ 7
    rw [nb_digits]
    omega
  · rw [nb_digits]
    omega
/-- texts one behind the other -/
def glue (zs : List Str) : Str := zs.foldl (fun a b => a ++ b) Str.empty
theorem glue_tl (zs : List Str) : ∀ acc : Str, TL.tl (zs.foldl (fun a b => a ++ b) acc) = TL.tl acc ++ (zs.map TL.tl).flatten := by
  induction zs with
  | nil => intro acc; simp
  | cons z zs ih =>
    intro acc
    rw [List.foldl_cons, ih, TL.tl_append, List.append_assoc, List.map_cons, List.flatten_cons]
def EvJ : List TE → L2.St → Hp → List Str → Prop
  | [], _, _, zs => zs = []
  | t :: ts, σ, H, zs => ∃ z r, zs = z :: r ∧ Ev t σ H (.str z) ∧ EvJ ts σ H r
theorem tJs_run : ∀ {ts : List TE} {σ : L2.St} {H : Hp} {zs : List Str}, EvJ ts σ H zs → ∀ (acc : Str) (H1 : Hp) (Q : Str → Hp → Prop), Ex H H1 → (TL.tl acc).length + ((zs.map TL.tl).flatten).length ≤ 100000 → (∀ H2, Ex H1 H2 → Q (zs.foldl (fun a b => a ++ b) acc) H2) → tJs ts acc σ H1 Q
  | [], σ, H, zs, h, acc, H1, Q, e, hz, q => by
    have h : zs = [] := h
    subst h
    exact q H1 (Ex.refl H1)
  | t :: ts, σ, H, zs, ⟨z, r, e0, ht, hr⟩, acc, H1, Q, e, hz, q => by
    subst e0
    rw [List.map_cons, List.flatten_cons, List.length_append] at hz
    refine ht H1 e _ fun H2 e2 => ⟨z, rfl, sz_of ?_, tJs_run hr (acc ++ z) H2 Q (e.trans e2) ?_ fun H3 e3 => q H3 (e2.trans e3)⟩
    · rw [TL.len_tl, TL.tl_append, List.length_append]
      omega
    · rw [TL.tl_append, List.length_append]
      omega
theorem ev_joined {ts : List TE} {σ : L2.St} {H : Hp} {zs : List Str} (h : EvJ ts σ H zs) (hz : ((zs.map TL.tl).flatten).length ≤ 100000) : Ev (fun σ H Q => tJs ts Str.empty σ H fun out H1 => Q (.str out) H1) σ H (.str (glue zs)) := fun H1 e Q q =>
  tJs_run h Str.empty H1 _ e (by show 0 + _ ≤ _; omega) fun H2 e2 => q H2 e2
theorem ev_fmt {te : TE} {σ : L2.St} {H : Hp} {i : Int} (h : Ev te σ H (.int i)) (hi : i.natAbs < 2 ^ 100) : Ev (tFmt te) σ H (.str (Str.ofString (toString i))) := fun H1 e Q q =>
  h H1 e _ fun H2 e2 => .inr ⟨i, rfl, Nat.lt_of_lt_of_le (PySem.Flt.log2_lt_of (k := 100) (by decide) hi) (by decide), q H2 e2⟩
/-- a text whose signs are these bytes -/
def StrB (b : List UInt8) : V → Hp → Prop := fun v _ => ∃ z : Str, v = .str z ∧ TL.tl z = nb b
def spKnownLine (K : PySem.W.Frag) : Sp := fun vs H Q _ => ∃ (b : V) (n : Nat) (p : Pt), vs = [b, .int (n : Int)] ∧ KnAt K b n p H ∧ n ≤ 99 ∧ SmP p ∧ Ret (StrB (RunBook.knownLine (n, p))) H Q
def spRunLine (K : PySem.W.Frag) : Sp := fun vs H Q _ => ∃ (v : V) (r : RunBook.Run), vs = [v] ∧ RunAt K r v H ∧ r.from_ ≤ 99 ∧ r.to_ ≤ 99 ∧ Ret (StrB (LsText.line [LsText.ascii "run", LsText.digits r.from_, LsText.ascii "to", LsText.digits r.to_ ++ [59]])) H Q
def spLegLine (K : PySem.W.Frag) : Sp := fun vs H Q _ => ∃ (v : V) (g : Leg), vs = [v] ∧ LegAt K g v H ∧ SmL g ∧ g.to_ ≤ 99 ∧ Ret (StrB (RunBook.legLine g)) H Q
theorem lit {s : String} {l : List Nat} (h : s.toList.map Char.toNat = l) : TL.tl (Str.ofString s) = l := by rw [tl_of, h]
theorem l_known : TL.tl (Str.ofString "known ") = [107, 110, 111, 119, 110, 32] := lit rfl
theorem l_at : TL.tl (Str.ofString " at ") = [32, 97, 116, 32] := lit rfl
theorem l_sp : TL.tl (Str.ofString " ") = [32] := lit rfl
theorem l_end : TL.tl (Str.ofString ";\n") = [59, 10] := lit rfl
theorem l_run : TL.tl (Str.ofString "run ") = [114, 117, 110, 32] := lit rfl
theorem l_to : TL.tl (Str.ofString " to ") = [32, 116, 111, 32] := lit rfl
theorem l_leg : TL.tl (Str.ofString "leg ") = [108, 101, 103, 32] := lit rfl
theorem l_by : TL.tl (Str.ofString " by ") = [32, 98, 121, 32] := lit rfl
theorem l_long : TL.tl (Str.ofString " long ") = [32, 108, 111, 110, 103, 32] := lit rfl
theorem a_known : nb (LsText.ascii "known") = [107, 110, 111, 119, 110] := rfl
theorem a_at : nb (LsText.ascii "at") = [97, 116] := rfl
theorem a_run : nb (LsText.ascii "run") = [114, 117, 110] := rfl
theorem a_to : nb (LsText.ascii "to") = [116, 111] := rfl
theorem a_leg : nb (LsText.ascii "leg") = [108, 101, 103] := rfl
theorem a_by : nb (LsText.ascii "by") = [98, 121] := rfl
theorem a_long : nb (LsText.ascii "long") = [108, 111, 110, 103] := rfl
theorem nb_cons (c : UInt8) (b : List UInt8) : nb (c :: b) = c.toNat :: nb b := rfl
theorem nb_nil : nb [] = [] := rfl
theorem nb_line (l : List (List UInt8)) : nb (LsText.line l) = nb (LsText.spaced l) ++ [10] := by
  unfold LsText.line
  rw [nb_append]
  rfl
theorem nb_sp2 (a b : List UInt8) (r : List (List UInt8)) : nb (LsText.spaced (a :: b :: r)) = nb a ++ (32 :: nb (LsText.spaced (b :: r))) := by
  show nb (a ++ (32 :: LsText.spaced (b :: r))) = _
  rw [nb_append]
  rfl
theorem nb_sp1 (a : List UInt8) : nb (LsText.spaced [a]) = nb a := rfl
theorem nb_sem (a : List UInt8) : nb (a ++ [59]) = nb a ++ [59] := by
  rw [nb_append]
  rfl
section
variable {P : Program} {w : World} {K : PySem.W.Frag} {mg : Str → Option Value} {base : Heap} {σ : L2.St} {H : Hp} {ta tb tc te : TE} {D : Ends} {tz : TS}
theorem sc_known_line : FnScope ["book", "number", "east", "north"] ["book", "number"] (defScope s_known_line) := ⟨rfl, rfl, rfl, by decide +kernel, rfl, by decide +kernel, by decide +kernel⟩
theorem ok_known_line (T : Txt K mg) : Def P w K mg base CX0 1 "known_line" ["book", "number"] (spKnownLine K) := by
  refine T.def_ 27 24 rfl rfl rfl rfl rfl sc_known_line (fun _ _ _ _ _ _ us hl => match us, hl with | [_, _], _ => rfl) (fun vs H Q E h => by first | (obtain ⟨_, rfl, _⟩ := h; rfl) | (obtain ⟨_, _, rfl, _⟩ := h; rfl) | (obtain ⟨_, _, _, rfl, _⟩ := h; rfl) | (obtain ⟨_, _, _, _, rfl, _⟩ := h; rfl) | (obtain ⟨_, _, _, _, _, rfl, _⟩ := h; rfl) | (obtain ⟨_, _, _, _, _, _, rfl, _⟩ := h; rfl) | (obtain ⟨_, _, _, _, _, _, _, rfl, _⟩ := h; rfl) | (obtain ⟨_, _, _, _, _, _, _, _, rfl, _⟩ := h; rfl) | (obtain ⟨_, _, _, _, _, _, _, _, _, rfl, _⟩ := h; rfl) | (obtain ⟨_, _, _, _, _, _, _, _, _, _, rfl, _⟩ := h; rfl) | (obtain ⟨_, _, _, _, _, _, _, _, _, _, _, rfl, _⟩ := h; rfl) | (obtain ⟨_, _, _, _, _, _, _, _, _, _, _, _, rfl, _⟩ := h; rfl) | (obtain ⟨_, _, _, _, _, _, _, _, _, _, _, _, _, rfl, _⟩ := h; rfl) | (obtain ⟨_, _, _, _, _, _, _, _, _, _, _, _, _, _, rfl, _⟩ := h; rfl) | (obtain ⟨_, _, _, _, _, _, _, _, _, _, _, _, _, _, _, rfl, _⟩ := h; rfl) | (obtain ⟨_, _, _, _, _, _, _, _, _, _, _, _, _, _, _, _, rfl, _⟩ := h; rfl) | (obtain ⟨_, _, _, _, _, _, _, _, _, _, _, _, _, _, _, _, _, rfl, _⟩ := h; rfl) | (obtain ⟨_, _, _, _, _, _, _, _, _, _, _, _, _, _, _, _, _, _, rfl, _⟩ := h; rfl) | (obtain ⟨_, _, _, _, _, _, _, _, _, _, _, _, _, _, _, _, _, _, _, rfl, _⟩ := h; rfl)) (fun f cdv A outer s H vs Q E hr h => ⟨_, PSs.nox (pss_cons (ps_asg (pe_dget (hu_of hr) (pe_fld (pv 0) rfl) (pv 1) (fun _ _ => rfl)) (pg_tup rfl (pgs_cons (pg_name (i := 2) sc_known_line.nd rfl (Or.inl rfl)) (pgs_cons (pg_name (i := 3) sc_known_line.nd rfl (Or.inl rfl)) pgs_nil)))) (pss_one (ps_ret (pe_joined (PJ.cons pe_str (PJ.cons (pe_fmt (pv 1)) (PJ.cons pe_str (PJ.cons (pe_fmt (pv 2)) (PJ.cons pe_str (PJ.cons (pe_fmt (pv 3)) (PJ.cons pe_str PJ.nil))))))))))), ?_⟩)
  obtain ⟨b, n, p, rfl, hk, hn, hp, k⟩ := h
  have p1 := hp.x0
  have p2 := hp.x1
  have p3 := hp.y0
  have p4 := hp.y1
  refine Sv.go (sv_unp2 (evp_known T (ev_var rfl) (ev_var rfl) hk) ?_)
  have h1 := numL_le (n := n) (by omega)
  have h2 := signed_le (z := p.x) (by omega)
  have h3 := signed_le (z := p.y) (by omega)
  refine sv_retP (evp_of (P := StrB (RunBook.knownLine (n, p))) (ev_joined (zs := [Str.ofString "known ", Str.ofString (toString ((n : Nat) : Int)), Str.ofString " at ", Str.ofString (toString p.x), Str.ofString " ", Str.ofString (toString p.y), Str.ofString ";\n"])
    ⟨_, _, rfl, ev_c, _, _, rfl, ev_fmt (ev_var rfl) (by omega), _, _, rfl, ev_c, _, _, rfl, ev_fmt (ev_var rfl) (by omega), _, _, rfl, ev_c, _, _, rfl, ev_fmt (ev_var rfl) (by omega), _, _, rfl, ev_c, rfl⟩ ?_) fun H1 e1 => ⟨_, rfl, ?_⟩) k
  · simp only [List.map_cons, List.map_nil, List.flatten_cons, List.flatten_nil, List.length_append, List.length_nil, tl_int, signed_nat, tl_e, l_known, l_at, l_sp, l_end, List.length_cons]
    omega
  · rw [glue, glue_tl]
    simp only [List.map_cons, List.map_nil, List.flatten_cons, List.flatten_nil, tl_int, signed_nat, tl_e, l_known, l_at, l_sp, l_end]
    unfold RunBook.knownLine
    simp only [nb_line, nb_sp2, nb_sp1, nb_sem, a_known, a_at, nb_digits, List.append_assoc, List.cons_append, List.nil_append, List.append_nil]
theorem sc_run_line : FnScope ["run"] ["run"] (defScope s_run_line) := ⟨rfl, rfl, rfl, by decide +kernel, rfl, by decide +kernel, by decide +kernel⟩
theorem ok_run_line (T : Txt K mg) : Def P w K mg base CX0 1 "run_line" ["run"] (spRunLine K) := by
  refine T.def_ 28 25 rfl rfl rfl rfl rfl sc_run_line (fun _ _ _ _ _ _ us hl => match us, hl with | [_], _ => rfl) (fun vs H Q E h => by first | (obtain ⟨_, rfl, _⟩ := h; rfl) | (obtain ⟨_, _, rfl, _⟩ := h; rfl) | (obtain ⟨_, _, _, rfl, _⟩ := h; rfl) | (obtain ⟨_, _, _, _, rfl, _⟩ := h; rfl) | (obtain ⟨_, _, _, _, _, rfl, _⟩ := h; rfl) | (obtain ⟨_, _, _, _, _, _, rfl, _⟩ := h; rfl) | (obtain ⟨_, _, _, _, _, _, _, rfl, _⟩ := h; rfl) | (obtain ⟨_, _, _, _, _, _, _, _, rfl, _⟩ := h; rfl) | (obtain ⟨_, _, _, _, _, _, _, _, _, rfl, _⟩ := h; rfl) | (obtain ⟨_, _, _, _, _, _, _, _, _, _, rfl, _⟩ := h; rfl) | (obtain ⟨_, _, _, _, _, _, _, _, _, _, _, rfl, _⟩ := h; rfl) | (obtain ⟨_, _, _, _, _, _, _, _, _, _, _, _, rfl, _⟩ := h; rfl) | (obtain ⟨_, _, _, _, _, _, _, _, _, _, _, _, _, rfl, _⟩ := h; rfl) | (obtain ⟨_, _, _, _, _, _, _, _, _, _, _, _, _, _, rfl, _⟩ := h; rfl) | (obtain ⟨_, _, _, _, _, _, _, _, _, _, _, _, _, _, _, rfl, _⟩ := h; rfl) | (obtain ⟨_, _, _, _, _, _, _, _, _, _, _, _, _, _, _, _, rfl, _⟩ := h; rfl) | (obtain ⟨_, _, _, _, _, _, _, _, _, _, _, _, _, _, _, _, _, rfl, _⟩ := h; rfl) | (obtain ⟨_, _, _, _, _, _, _, _, _, _, _, _, _, _, _, _, _, _, rfl, _⟩ := h; rfl) | (obtain ⟨_, _, _, _, _, _, _, _, _, _, _, _, _, _, _, _, _, _, _, rfl, _⟩ := h; rfl)) (fun f cdv A outer s H vs Q E hr h => ⟨_, PSs.nox (pss_one (ps_ret (pe_joined (PJ.cons pe_str (PJ.cons (pe_fmt (pe_fld (pv 0) rfl)) (PJ.cons pe_str (PJ.cons (pe_fmt (pe_fld (pv 0) rfl)) (PJ.cons pe_str PJ.nil)))))))), ?_⟩)
  obtain ⟨v, r, rfl, ⟨a, dx, l, vs, rfl, hr, hl, hv⟩, hf, ht, k⟩ := h
  have h1 := numL_le (n := r.from_) (by omega)
  have h2 := numL_le (n := r.to_) (by omega)
  refine Sv.go (sv_retP (evp_of (P := StrB (LsText.line [LsText.ascii "run", LsText.digits r.from_, LsText.ascii "to", LsText.digits r.to_ ++ [59]])) (ev_joined (zs := [Str.ofString "run ", Str.ofString (toString ((r.from_ : Nat) : Int)), Str.ofString " to ", Str.ofString (toString ((r.to_ : Nat) : Int)), Str.ofString ";\n"])
    ⟨_, _, rfl, ev_c, _, _, rfl, ev_fmt (ev_run1 T (ev_var rfl) hr) (by omega), _, _, rfl, ev_c, _, _, rfl, ev_fmt (ev_run2 T (ev_var rfl) hr) (by omega), _, _, rfl, ev_c, rfl⟩ ?_) fun H1 e1 => ⟨_, rfl, ?_⟩) k)
  · simp only [List.map_cons, List.map_nil, List.flatten_cons, List.flatten_nil, List.length_append, List.length_nil, tl_int, signed_nat, tl_e, l_run, l_to, l_end, List.length_cons]
    omega
  · rw [glue, glue_tl]
    simp only [List.map_cons, List.map_nil, List.flatten_cons, List.flatten_nil, tl_int, signed_nat, tl_e, l_run, l_to, l_end]
    simp only [nb_line, nb_sp2, nb_sp1, nb_sem, a_run, a_to, nb_digits, List.append_assoc, List.cons_append, List.nil_append, List.append_nil]
theorem sc_leg_line : FnScope ["leg"] ["leg"] (defScope s_leg_line) := ⟨rfl, rfl, rfl, by decide +kernel, rfl, by decide +kernel, by decide +kernel⟩
theorem ok_leg_line (T : Txt K mg) : Def P w K mg base CX0 1 "leg_line" ["leg"] (spLegLine K) := by
  refine T.def_ 29 26 rfl rfl rfl rfl rfl sc_leg_line (fun _ _ _ _ _ _ us hl => match us, hl with | [_], _ => rfl) (fun vs H Q E h => by first | (obtain ⟨_, rfl, _⟩ := h; rfl) | (obtain ⟨_, _, rfl, _⟩ := h; rfl) | (obtain ⟨_, _, _, rfl, _⟩ := h; rfl) | (obtain ⟨_, _, _, _, rfl, _⟩ := h; rfl) | (obtain ⟨_, _, _, _, _, rfl, _⟩ := h; rfl) | (obtain ⟨_, _, _, _, _, _, rfl, _⟩ := h; rfl) | (obtain ⟨_, _, _, _, _, _, _, rfl, _⟩ := h; rfl) | (obtain ⟨_, _, _, _, _, _, _, _, rfl, _⟩ := h; rfl) | (obtain ⟨_, _, _, _, _, _, _, _, _, rfl, _⟩ := h; rfl) | (obtain ⟨_, _, _, _, _, _, _, _, _, _, rfl, _⟩ := h; rfl) | (obtain ⟨_, _, _, _, _, _, _, _, _, _, _, rfl, _⟩ := h; rfl) | (obtain ⟨_, _, _, _, _, _, _, _, _, _, _, _, rfl, _⟩ := h; rfl) | (obtain ⟨_, _, _, _, _, _, _, _, _, _, _, _, _, rfl, _⟩ := h; rfl) | (obtain ⟨_, _, _, _, _, _, _, _, _, _, _, _, _, _, rfl, _⟩ := h; rfl) | (obtain ⟨_, _, _, _, _, _, _, _, _, _, _, _, _, _, _, rfl, _⟩ := h; rfl) | (obtain ⟨_, _, _, _, _, _, _, _, _, _, _, _, _, _, _, _, rfl, _⟩ := h; rfl) | (obtain ⟨_, _, _, _, _, _, _, _, _, _, _, _, _, _, _, _, _, rfl, _⟩ := h; rfl) | (obtain ⟨_, _, _, _, _, _, _, _, _, _, _, _, _, _, _, _, _, _, rfl, _⟩ := h; rfl) | (obtain ⟨_, _, _, _, _, _, _, _, _, _, _, _, _, _, _, _, _, _, _, rfl, _⟩ := h; rfl)) (fun f cdv A outer s H vs Q E hr h => ⟨_, PSs.nox (pss_one (ps_ret (pe_joined (PJ.cons pe_str (PJ.cons (pe_fmt (pe_fld (pv 0) rfl)) (PJ.cons pe_str (PJ.cons (pe_fmt (pe_fld (pv 0) rfl)) (PJ.cons pe_str (PJ.cons (pe_fmt (pe_fld (pv 0) rfl)) (PJ.cons pe_str (PJ.cons (pe_fmt (pe_fld (pv 0) rfl)) (PJ.cons pe_str PJ.nil)))))))))))), ?_⟩)
  obtain ⟨v, g, rfl, hg, hs, hp, k⟩ := h
  have x1 := hs.x
  have x2 := hs.y
  have x3 := hs.l1
  have h1 := numL_le (n := g.to_) (by omega)
  have h2 := signed_le (z := g.dx) (by omega)
  have h3 := signed_le (z := g.dy) (by omega)
  have h4 := numL_le (n := g.long) (by omega)
  refine Sv.go (sv_retP (evp_of (P := StrB (RunBook.legLine g)) (ev_joined (zs := [Str.ofString "leg ", Str.ofString (toString ((g.to_ : Nat) : Int)), Str.ofString " by ", Str.ofString (toString g.dx), Str.ofString " ", Str.ofString (toString g.dy), Str.ofString " long ", Str.ofString (toString ((g.long : Nat) : Int)), Str.ofString ";\n"])
    ⟨_, _, rfl, ev_c, _, _, rfl, ev_fmt (ev_leg1 T (ev_var rfl) hg) (by omega), _, _, rfl, ev_c, _, _, rfl, ev_fmt (ev_leg2 T (ev_var rfl) hg) (by omega), _, _, rfl, ev_c, _, _, rfl, ev_fmt (ev_leg3 T (ev_var rfl) hg) (by omega), _, _, rfl, ev_c, _, _, rfl, ev_fmt (ev_leg4 T (ev_var rfl) hg) (by omega), _, _, rfl, ev_c, rfl⟩ ?_) fun H1 e1 => ⟨_, rfl, ?_⟩) k)
  · simp only [List.map_cons, List.map_nil, List.flatten_cons, List.flatten_nil, List.length_append, List.length_nil, tl_int, signed_nat, tl_e, l_leg, l_by, l_sp, l_long, l_end, List.length_cons]
    omega
  · rw [glue, glue_tl]
    simp only [List.map_cons, List.map_nil, List.flatten_cons, List.flatten_nil, tl_int, signed_nat, tl_e, l_leg, l_by, l_sp, l_long, l_end]
    unfold RunBook.legLine
    simp only [nb_line, nb_sp2, nb_sp1, nb_sem, a_leg, a_by, a_long, nb_digits, List.append_assoc, List.cons_append, List.nil_append, List.append_nil]
end
end Trav
namespace Trav
open LsRun (Leg)
open LsGeo (Pt)
open RunBook (Book knownAt)
/-! ## a book as it may be; its text -/
structure Good (B : Book) : Prop where
  kn : (B.known.map (·.1)).Pairwise (· < ·)
  kp : ∀ x ∈ B.known, 1 ≤ x.1 ∧ x.1 ≤ 99 ∧ SmP x.2
  rn : B.runs.length ≤ 16
  rs : ∀ r ∈ B.runs, SmR r ∧ (knownAt B r.from_).isSome = true ∧ (knownAt B r.to_).isSome = true ∧ ∀ g ∈ r.legs, 1 ≤ g.to_ ∧ g.to_ ≤ 99
theorem rising_len : ∀ (l : List Nat) (lo hi : Nat), l.Pairwise (· < ·) → (∀ x ∈ l, lo ≤ x ∧ x ≤ hi) → l.length ≤ hi + 1 - lo
  | [], _, _, _, _ => Nat.zero_le _
  | a :: l, lo, hi, hp, hb => by
    obtain ⟨h1, h2⟩ := List.pairwise_cons.mp hp
    have ha := hb a (List.mem_cons_self ..)
    have := rising_len l (a + 1) hi h2 fun x hx => ⟨h1 x hx, (hb x (List.mem_cons_of_mem _ hx)).2⟩
    rw [List.length_cons]
    omega
theorem Good.len {B : Book} (h : Good B) : B.known.length ≤ 99 := by
  have := rising_len (B.known.map (·.1)) 1 99 h.kn fun x hx => by
    obtain ⟨y, hy, rfl⟩ := List.mem_map.mp hx
    exact ⟨(h.kp y hy).1, (h.kp y hy).2.1⟩
  rw [List.length_map] at this
  exact this
theorem Good.at_ {B : Book} (h : Good B) {n : Nat} (hn : (knownAt B n).isSome = true) : ∃ p, knownAt B n = some p ∧ 1 ≤ n ∧ n ≤ 99 ∧ SmP p := by
  obtain ⟨p, hp⟩ := Option.isSome_iff_exists.mp hn
  have := h.kp _ (knownAt_mem hp)
  exact ⟨p, hp, this⟩
/-- the only sorted list of these -/
theorem sorted_one {ys : List Int} {ns : List Nat} (h : ys.Perm (ns.map fun n => ((n : Nat) : Int))) (hs : ys.Pairwise (· ≤ ·)) (hn : ns.Pairwise (· < ·)) : ys = ns.map fun n => ((n : Nat) : Int) := by
  refine h.eq_of_pairwise ?_ hs (List.pairwise_map.mpr (hn.imp fun {a b} h => by omega))
  intro a b _ _ h1 h2
  omega
theorem knownAt_of {B : Book} (h : Good B) {x : Nat × Pt} (hx : x ∈ B.known) : knownAt B x.1 = some x.2 := by
  have hs : (knownAt B x.1).isSome = true := by
    rw [knownAt_some]
    exact decide_eq_true (List.mem_map_of_mem hx)
  obtain ⟨p, hp⟩ := Option.isSome_iff_exists.mp hs
  have hm := knownAt_mem hp
  have hnd : (B.known.map (·.1)).Nodup := h.kn.imp fun {a b} h => by omega
  have : (x.1, p) = x := by
    rw [List.Nodup, List.pairwise_map] at hnd
    by_cases e : (x.1, p) = x
    · exact e
    · rcases List.pairwise_iff_forall_sublist.mp hnd with hh
      exfalso
      have key : ∀ (l : List (Nat × Pt)), l.Pairwise (fun a b => a.1 ≠ b.1) → ∀ a ∈ l, ∀ b ∈ l, a.1 = b.1 → a = b := by
        intro l
        induction l with
        | nil => intro _ a ha; exact absurd ha List.not_mem_nil
        | cons c l ih =>
          intro hp a ha b hb hab
          obtain ⟨h1, h2⟩ := List.pairwise_cons.mp hp
          rcases List.mem_cons.mp ha with rfl | ha2
          · rcases List.mem_cons.mp hb with rfl | hb
            · rfl
            · exact absurd hab (h1 b hb)
          · rcases List.mem_cons.mp hb with rfl | hb
            · exact absurd hab.symm (h1 a ha2)
            · exact ih h2 a ha2 b hb hab
      exact e (key _ hnd _ hm _ hx rfl)
  rw [hp]
  congr 1
  exact congrArg Prod.snd this
/-- the lines of a book -/
def runRows (r : RunBook.Run) : List (List UInt8) := LsText.line [LsText.ascii "run", LsText.digits r.from_, LsText.ascii "to", LsText.digits r.to_ ++ [59]] :: r.legs.map RunBook.legLine
def bookRows (B : Book) : List (List UInt8) := B.known.map RunBook.knownLine ++ B.runs.flatMap runRows
theorem rows_print (B : Book) : (bookRows B).flatten = RunBook.print B := by
  unfold bookRows RunBook.print
  rw [List.flatten_append, ← List.flatMap_def]
  congr 1
  induction B.runs with
  | nil => rfl
  | cons r L ih =>
    rw [List.flatMap_cons, List.flatMap_cons, List.flatten_append, ih]
    congr 1
def spPrinted (K : PySem.W.Frag) : Sp := fun vs H Q _ => ∃ (b : V) (B : Book), vs = [b] ∧ BookAt K B b H ∧ Good B ∧ Ret (NewLn H (bs (RunBook.print B))) H Q
theorem strB_len {b : List UInt8} {v : V} {H : Hp} (h : StrB b v H) : ∃ z : Str, v = .str z ∧ TL.tl z = nb b ∧ codesV z = bs b := by
  obtain ⟨z, rfl, hz⟩ := h
  refine ⟨z, rfl, hz, ?_⟩
  unfold codesV
  show (TL.tl z).map (fun (c : Nat) => V.int (c : Int)) = b.map b2
  rw [hz]
  unfold nb
  rw [List.map_map]
  rfl
theorem stayN_StrB (b : List UInt8) : StayN (StrB b) := fun _ _ _ _ h => h
theorem stay_StrB (b : List UInt8) : Stay (StrB b) := fun _ _ _ _ h => h
theorem knownLine_le {x : Nat × Pt} (h : x.1 ≤ 99) (hp : SmP x.2) : (RunBook.knownLine x).length ≤ 100 := by
  have e : (nb (RunBook.knownLine x)).length = (RunBook.knownLine x).length := List.length_map ..
  have p1 := hp.x0
  have p2 := hp.x1
  have p3 := hp.y0
  have p4 := hp.y1
  have h1 := numL_le (n := x.1) (by omega)
  have h2 := signed_le (z := x.2.x) (by omega)
  have h3 := signed_le (z := x.2.y) (by omega)
  rw [← e]
  unfold RunBook.knownLine
  simp only [nb_line, nb_sp2, nb_sp1, nb_sem, a_known, a_at, nb_digits, List.length_append, List.length_cons, List.length_nil]
  omega
theorem legLine_le {g : Leg} (hs : SmL g) (h : g.to_ ≤ 99) : (RunBook.legLine g).length ≤ 100 := by
  have e : (nb (RunBook.legLine g)).length = (RunBook.legLine g).length := List.length_map ..
  have x1 := hs.x
  have x2 := hs.y
  have x3 := hs.l1
  have h1 := numL_le (n := g.to_) (by omega)
  have h2 := signed_le (z := g.dx) (by omega)
  have h3 := signed_le (z := g.dy) (by omega)
  have h4 := numL_le (n := g.long) (by omega)
  rw [← e]
  unfold RunBook.legLine
  simp only [nb_line, nb_sp2, nb_sp1, nb_sem, a_leg, a_by, a_long, nb_digits, List.length_append, List.length_cons, List.length_nil]
  omega
theorem runLine_le {a b : Nat} (h1 : a ≤ 99) (h2 : b ≤ 99) : (LsText.line [LsText.ascii "run", LsText.digits a, LsText.ascii "to", LsText.digits b ++ [59]]).length ≤ 100 := by
  have e : (nb (LsText.line [LsText.ascii "run", LsText.digits a, LsText.ascii "to", LsText.digits b ++ [59]])).length = _ := List.length_map ..
  have h1 := numL_le (n := a) (by omega)
  have h2 := numL_le (n := b) (by omega)
  rw [← e]
  simp only [nb_line, nb_sp2, nb_sp1, nb_sem, a_run, a_to, nb_digits, List.length_append, List.length_cons, List.length_nil]
  omega
theorem rows_le {B : Book} (h : Good B) : ∀ b ∈ bookRows B, b.length ≤ 100 := by
  intro b hb
  unfold bookRows at hb
  rcases List.mem_append.mp hb with hb | hb
  · obtain ⟨x, hx, rfl⟩ := List.mem_map.mp hb
    exact knownLine_le (h.kp x hx).2.1 (h.kp x hx).2.2
  · obtain ⟨r, hr, hb⟩ := List.mem_flatMap.mp hb
    obtain ⟨hs, hf, ht, hg⟩ := h.rs r hr
    obtain ⟨_, _, _, f2, _⟩ := h.at_ hf
    obtain ⟨_, _, _, t2, _⟩ := h.at_ ht
    rcases List.mem_cons.mp hb with rfl | hb
    · exact runLine_le f2 t2
    · obtain ⟨g, hgm, rfl⟩ := List.mem_map.mp hb
      exact legLine_le (hs.l g hgm) (hg g hgm).2
theorem rows_len {B : Book} (h : Good B) : (bookRows B).length ≤ 500 := by
  have h1 := h.len
  have key : ∀ L : List RunBook.Run, (∀ r ∈ L, SmR r) → (L.flatMap runRows).length ≤ L.length * 25 := by
    intro L
    induction L with
    | nil => intro _; exact Nat.le_refl 0
    | cons r L ih =>
      intro hL
      have h2 := ih fun x hx => hL x (List.mem_cons_of_mem _ hx)
      have h3 := (hL r (List.mem_cons_self ..)).n
      rw [List.flatMap_cons, List.length_append, List.length_cons]
      have h4 : (runRows r).length = r.legs.length + 1 := by
        unfold runRows
        rw [List.length_cons, List.length_map]
      omega
  have h2 := key B.runs fun r hr => (h.rs r hr).1
  have h3 := h.rn
  unfold bookRows
  rw [List.length_append, List.length_map]
  omega
theorem flat_le : ∀ (L : List (List UInt8)), (∀ b ∈ L, b.length ≤ 100) → L.flatten.length ≤ L.length * 100
  | [], _ => Nat.le_refl 0
  | b :: L, h => by
    have h1 := flat_le L fun x hx => h x (List.mem_cons_of_mem _ hx)
    have h2 := h b (List.mem_cons_self ..)
    rw [List.flatten_cons, List.length_append, List.length_cons]
    omega
end Trav
namespace Trav
open LsRun (Leg)
open LsGeo (Pt)
open RunBook (Book knownAt)
section
variable {P : Program} {w : World} {K : PySem.W.Frag} {mg : Str → Option Value} {base : Heap} {σ : L2.St} {H : Hp} {ta tb tc te : TE} {D : Ends} {tz tu : TS}
theorem each_append2 {α : Type} {Pr : α → V → Hp → Prop} {H : Hp} : ∀ {L M : List α} {vs ws : List V}, Each (L.map Pr) vs H → Each (M.map Pr) ws H → Each ((L ++ M).map Pr) (vs ++ ws) H
  | [], M, vs, ws, h, h' => by
    have e : vs = [] := h
    subst e
    exact h'
  | x :: L, M, vs, ws, ⟨v, r, e, hv, hr⟩, h' => by
    subst e
    exact ⟨v, r ++ ws, rfl, hv, each_append2 hr h'⟩
def strOf (b : List UInt8) : Str := ⟨(nb b).toArray⟩
def strV (b : List UInt8) : V := .str (strOf b)
theorem strB_eq {b : List UInt8} {v : V} (h : StrB b v H) : v = strV b := by
  obtain ⟨z, rfl, hz⟩ := h
  unfold strV
  congr 1
  refine TL.ext_tl ?_
  rw [hz]
  show nb b = (nb b).toArray.toList
  simp
theorem codesV_of (b : List UInt8) : codesV (strOf b) = bs b := by
  unfold codesV strOf
  show ((nb b).toArray.toList).map _ = _
  unfold nb
  simp only [List.toList_toArray, List.map_map]
  rfl
theorem strOf_size (b : List UInt8) : (strOf b).cps.size = b.length := by
  unfold strOf nb
  simp
theorem ev_strB {b : List UInt8} (h : EvP te σ H (StrB b)) : Ev te σ H (strV b) := fun H1 e Q q => h H1 e Q fun v H2 e2 p => by
  rw [strB_eq p]
  exact q H2 e2
/-- [e for x in a list that is made on the way]: the values told -/
theorem evp_mapN {j : Nat} {vs : List Nat} {xs ys : List V} (h : EvP ta σ H (NewLn H xs)) (hl : ys.length = xs.length) (hn : xs.length ≤ 40000)
    (hw : ∀ x, wipe ((wipe σ vs).set j (some x)) vs = wipe σ vs) (he : ∀ (i : Nat) (x y : V), xs[i]? = some x → ys[i]? = some y → Ev te ((wipe σ vs).set j (some x)) H y) :
    EvP (tLc (iList K ta) (gName j) tYes te vs) σ H (NewLn H ys) := by
  have e := evp_lcN (g := gName j) (tt := tYes) (te := te) (vs := vs) (it_listP (K := K) h fun v H1 ⟨p, ev, _, hp⟩ => ⟨p, ev, sq_of hp⟩) (fun i H x H' y => by rw [y.1]; exact Ex.refl H) hn (fun _ => true) (fun i => (ys[i]?).getD .non) (fun i x H1 H2 hi e y => by
    obtain ⟨rfl, hx⟩ := y
    refine ⟨_, fun Q H3 _ q => q, hw x, fun H1 _ Q q => q H1 (Ex.refl H1), fun _ => ?_⟩
    obtain ⟨z, hz⟩ : ∃ z, ys[i]? = some z := ⟨ys[i], List.getElem?_eq_getElem (by omega)⟩
    show Ev te _ _ ((ys[i]?).getD .non)
    rw [hz]
    exact (he i x z hx hz).mono e)
  rwa [given_all (ys := ys) hl (fun i y hy => by rw [hy]; rfl)] at e
theorem sc_printed : FnScope ["book", "lines", "run", "text", "line", "number", "leg"] ["book"] (defScope s_printed) := ⟨rfl, rfl, rfl, by decide +kernel, rfl, by decide +kernel, by decide +kernel⟩
theorem ok_printed (T : Txt K mg) : Def P w K mg base CX0 2 "printed" ["book"] (spPrinted K) := by
  refine T.def_ 30 27 rfl rfl rfl rfl rfl sc_printed (fun _ _ _ _ _ _ us hl => match us, hl with | [_], _ => rfl) (fun vs H Q E h => by first | (obtain ⟨_, rfl, _⟩ := h; rfl) | (obtain ⟨_, _, rfl, _⟩ := h; rfl) | (obtain ⟨_, _, _, rfl, _⟩ := h; rfl) | (obtain ⟨_, _, _, _, rfl, _⟩ := h; rfl) | (obtain ⟨_, _, _, _, _, rfl, _⟩ := h; rfl) | (obtain ⟨_, _, _, _, _, _, rfl, _⟩ := h; rfl) | (obtain ⟨_, _, _, _, _, _, _, rfl, _⟩ := h; rfl) | (obtain ⟨_, _, _, _, _, _, _, _, rfl, _⟩ := h; rfl) | (obtain ⟨_, _, _, _, _, _, _, _, _, rfl, _⟩ := h; rfl) | (obtain ⟨_, _, _, _, _, _, _, _, _, _, rfl, _⟩ := h; rfl) | (obtain ⟨_, _, _, _, _, _, _, _, _, _, _, rfl, _⟩ := h; rfl) | (obtain ⟨_, _, _, _, _, _, _, _, _, _, _, _, rfl, _⟩ := h; rfl) | (obtain ⟨_, _, _, _, _, _, _, _, _, _, _, _, _, rfl, _⟩ := h; rfl) | (obtain ⟨_, _, _, _, _, _, _, _, _, _, _, _, _, _, rfl, _⟩ := h; rfl) | (obtain ⟨_, _, _, _, _, _, _, _, _, _, _, _, _, _, _, rfl, _⟩ := h; rfl) | (obtain ⟨_, _, _, _, _, _, _, _, _, _, _, _, _, _, _, _, rfl, _⟩ := h; rfl) | (obtain ⟨_, _, _, _, _, _, _, _, _, _, _, _, _, _, _, _, _, rfl, _⟩ := h; rfl) | (obtain ⟨_, _, _, _, _, _, _, _, _, _, _, _, _, _, _, _, _, _, rfl, _⟩ := h; rfl) | (obtain ⟨_, _, _, _, _, _, _, _, _, _, _, _, _, _, _, _, _, _, _, rfl, _⟩ := h; rfl)) (fun f cdv A outer s H vs Q E hr h => ⟨_, PSs.nox (pss_cons (ps_setLc (i := 1) (own := [("number", 5)]) (g := gName 5) (tt := tYes) rfl sc_printed.nd rfl rfl (sw_true rfl rfl rfl (by decide +kernel)) (pi_list (pe_callB (call_sortedK rfl) (by rfl) (T.free 165 rfl) (by decide +kernel) (pa_cons (pe_fld (pv 0) rfl) pa_nil))) (blkOk_by (own := [("number", 5)]) (N := ["book", "lines", "run", "text", "line", "number", "leg"]) (sc := defScope s_printed) (by decide +kernel)) (fun _ _ _ _ _ => pg_name (i := 5) sc_printed.nd rfl (Or.inl rfl)) (fun _ _ _ _ _ => pts_nil) (fun _ _ _ _ _ => by exact (pe_cd (ok_known_line T) hr pass0 (pa_cons (pv 0) (pa_cons (pv 5) pa_nil))))) (pss_cons (ps_for PassesOwn.never rfl (pi_list (pe_fld (pv 0) rfl)) (pg_name (i := 2) sc_printed.nd rfl (Or.inl rfl)) (pss_cons (ps_expr (pe_bm PySem.F.plainAttrs_list PySem.F.slot_list_append PySem.F.type_list_append mt_append (pv 1) (pa_cons (pe_cd (ok_run_line T) hr pass0 (pa_cons (pv 2) pa_nil)) pa_nil))) (pss_one (ps_expr (pe_bm PySem.F.plainAttrs_list PySem.F.slot_list_extend PySem.F.type_list_extend mt_extend (pv 1) (pa_cons (pe_lc (own := [("leg", 6)]) (g := gName 6) (tt := tYes) rfl sc_printed.nd (pi_list (pe_fld (pv 2) rfl)) (blkOk_by (own := [("leg", 6)]) (N := ["book", "lines", "run", "text", "line", "number", "leg"]) (sc := defScope s_printed) (by decide +kernel)) (fun _ _ _ _ _ => pg_name (i := 6) sc_printed.nd rfl (Or.inl rfl)) (fun _ _ _ _ _ => pts_nil) (fun _ _ _ _ _ => by exact (pe_cd (ok_leg_line T) hr pass0 (pa_cons (pv 6) pa_nil)))) pa_nil)))))) (pss_cons (ps_set (i := 3) sc_printed.nd rfl (Or.inl rfl) (pe_lst pa_nil)) (pss_cons (ps_for PassesOwn.never rfl (pi_list (pv 1)) (pg_name (i := 4) sc_printed.nd rfl (Or.inl rfl)) (pss_one (ps_expr (pe_bm PySem.F.plainAttrs_list PySem.F.slot_list_extend PySem.F.type_list_extend mt_extendT (pv 3) (pa_cons (pe_cd (ok_spelled T) hr pass0 (pa_cons (pv 4) pa_nil)) pa_nil))))) (pss_one (ps_ret (pv 3))))))), ?_⟩)
  obtain ⟨b, B, rfl, hB, hG, k⟩ := h
  obtain ⟨ab, db, d, lb, kvs, bks, rfl, hb, hd, hk, hlb, hEb⟩ := id hB
  have hrl := rows_len hG
  have hrle := rows_le hG
  have hkl := hG.len
  obtain ⟨ns, hns, hperm⟩ := hk.keys
  have hsrt : EvP (tCB (fun xs H Q => ∃ (a : Addr) (kvs : List (Key × V)) (ks : List Int), xs = [.ref a] ∧ Rd H a (.dK kvs) ∧ kvs.map (·.1) = ks.map Sum.inl ∧ ks.length < 1000 ∧
      ∀ (ys : List Int) (p : Addr), ys.Perm ks → ys.Pairwise (· ≤ ·) → H p = none → Q (.ref p) (upd H p (.lst (ys.map V.int)))) (tCons (tFld K (tVar 0) "known") tNil)) (start ["book", "lines", "run", "text", "line", "number", "leg"] [.ref ab]) H (NewLn H (B.known.map fun x => V.int (x.1 : Int))) := fun H1 e Q q =>
    ev_book1 T (ev_var rfl) hb H1 e _ fun H2 e2 => ⟨d, kvs, ns.map fun n => ((n : Nat) : Int), rfl, .inl ((e.trans e2) _ _ hd), by rw [hns, List.map_map]; rfl, by
      have h1 := hperm.length_eq
      rw [List.length_map] at h1
      rw [List.length_map, h1]
      omega, fun ys p hp1 hp2 hp0 => q _ _ (e2.trans (Ex.new hp0)) ⟨p, rfl, fresh_back (e.trans e2) hp0, by
      have h1 := sorted_one (hp1.trans (hperm.map _)) hp2 hG.kn
      rw [h1, List.map_map, List.map_map]
      exact upd_same⟩⟩
  -- lines = [..]
  refine Sv.go (sv_setP (P := NewLn H (B.known.map fun x => strV (RunBook.knownLine x))) (evp_mapN hsrt (by rw [List.length_map, List.length_map]) (by rw [List.length_map]; omega) (fun x => rfl) (fun i x y hx hy => ?_)) fun u H1 e1 hu => ?_)
  · rw [List.getElem?_map, Option.map_eq_some_iff] at hx hy
    obtain ⟨z, hz, rfl⟩ := hx
    obtain ⟨z', hz', rfl⟩ := hy
    rw [hz] at hz'
    obtain rfl := Option.some.inj hz'
    have hzm := List.mem_of_getElem? hz
    have hz3 := hG.kp z hzm
    exact ev_strB (evp_call (ea_cons (ev_var rfl) (ea_cons (ev_var rfl) ea_nil)) fun H1 e Q k => ⟨.ref ab, z.1, z.2, rfl, (knAt_of hB (knownAt_of hG hzm)).mono e, hz3.2.1, hz3.2.2, k⟩)
  obtain ⟨lp, rfl, hlp0, hlp⟩ := hu
  -- the runs
  refine sv_forM (xs := bks) (ev_book2 T (ev_var rfl) (e1 _ _ hb)) (sq_of (e1 _ _ hlb)) (fun i σ' H' => ∃ (x0 : Option V), σ' = [some (.ref ab), some (.ref lp), x0, none, none, none, none] ∧ Ex H H' ∧ H' lp = some (.lst ((B.known.map RunBook.knownLine ++ (B.runs.take i).flatMap runRows).map strV))) ?_ ?_ ?_ ?_
  · rintro i σ' H' ⟨x0, rfl, e', _⟩
    exact sq_of (e' _ _ hlb)
  · intro H2 e2
    refine ⟨none, rfl, e1.trans e2, ?_⟩
    rw [e2 _ _ hlp]
    simp only [List.take_zero, List.flatMap_nil, List.append_nil, List.map_map]
    rfl
  · rintro i x σ' H' hi ⟨x0, rfl, e', hl⟩
    obtain ⟨r, hr, hrx⟩ := each_mem (each_stay (stay_map stay_RunAt) _ _ _ e' hEb) hi
    have hrm := List.mem_of_getElem? hr
    obtain ⟨hs, hf, ht, hg⟩ := hG.rs r hrm
    obtain ⟨_, _, _, f2, _⟩ := hG.at_ hf
    obtain ⟨_, _, _, t2, _⟩ := hG.at_ ht
    obtain ⟨a, dx, l0, vs, rfl, hra, hl0, hv⟩ := id hrx
    have hpart : (B.known.map RunBook.knownLine ++ (B.runs.take i).flatMap runRows).length + (runRows r).length ≤ 500 := by
      have h1 : bookRows B = (B.known.map RunBook.knownLine ++ (B.runs.take i).flatMap runRows) ++ (runRows r ++ (B.runs.drop (i + 1)).flatMap runRows) := by
        unfold bookRows
        rw [List.append_assoc]
        congr 1
        rw [← List.flatMap_cons, ← drop_at hr, ← List.flatMap_append, List.take_append_drop]
      have h2 := congrArg List.length h1
      rw [List.length_append, List.length_append (as := runRows r)] at h2
      omega
    have hrl2 : (runRows r).length = r.legs.length + 1 := by
      unfold runRows
      rw [List.length_cons, List.length_map]
    refine sv_app hl (ev_var rfl) (v := strV (LsText.line [LsText.ascii "run", LsText.digits r.from_, LsText.ascii "to", LsText.digits r.to_ ++ [59]])) (ev_strB (evp_call (ea_cons (ev_var rfl) ea_nil) fun H1 e Q k => ⟨.ref a, r, rfl, stay_RunAt _ _ _ _ e hrx, f2, t2, k⟩)) (by rw [List.length_map]; omega) fun H2 e2 => ?_
    have hE2 : Ex H (upd H2 lp (.lst ((B.known.map RunBook.knownLine ++ (B.runs.take i).flatMap runRows).map strV ++ [strV (LsText.line [LsText.ascii "run", LsText.digits r.from_, LsText.ascii "to", LsText.digits r.to_ ++ [59]])]))) := Ex.mut (e'.trans e2) hlp0
    generalize hH3 : upd H2 lp (.lst ((B.known.map RunBook.knownLine ++ (B.runs.take i).flatMap runRows).map strV ++ [strV (LsText.line [LsText.ascii "run", LsText.digits r.from_, LsText.ascii "to", LsText.digits r.to_ ++ [59]])])) = H3 at hE2 ⊢
    have hl3 : H3 lp = some (.lst ((B.known.map RunBook.knownLine ++ (B.runs.take i).flatMap runRows).map strV ++ [strV (LsText.line [LsText.ascii "run", LsText.digits r.from_, LsText.ascii "to", LsText.digits r.to_ ++ [59]])])) := by rw [← hH3]; exact upd_same
    obtain ⟨r', hr', hrx3⟩ := each_mem (each_stay (stay_map stay_RunAt) _ _ _ hE2 hEb) hi
    rw [hr] at hr'
    obtain rfl := Option.some.inj hr'
    obtain ⟨a', dx3, l3, vs3, ea3, hra3, hl03, hv3⟩ := id hrx3
    obtain rfl := V.ref.inj ea3
    refine sv_ext hl3 (ev_var rfl) (evp_mapE (Pr := LegAt K) (f := fun g => strV (RunBook.legLine g)) (ev_run3 T (ev_var rfl) hra3) (sq_of hl03) hv3 (by have := hs.n; omega) (fun x => rfl) fun g x hgm hx => ev_strB (evp_call (ea_cons (ev_var rfl) ea_nil) fun H1 e Q k => ⟨x, g, rfl, stay_LegAt _ _ _ _ e hx, hs.l g hgm, (hg g hgm).2, k⟩)) ?_ fun H4 e4 => ⟨some (.ref a), rfl, Ex.mut (hE2.trans e4) hlp0, ?_⟩
    · rw [List.length_append, List.length_map, List.length_map, List.length_singleton]
      exact sz_of (by omega)
    · rw [take_snoc hr, List.flatMap_append, List.flatMap_singleton, ← List.append_assoc, List.map_append (l₂ := runRows r)]
      unfold runRows
      rw [List.map_cons, List.map_map, List.append_assoc]
      exact upd_same
  · rintro σ' H' ⟨x0, rfl, e', hl⟩
    rw [each_lenM hEb, List.take_length] at hl
    have hl : H' lp = some (.lst ((bookRows B).map strV)) := hl
    -- text = []
    refine Sv.go (sv_lstOf (Ps := []) eap_nil (fun P hP => absurd hP List.not_mem_nil) (by decide) fun tp vs0 H2 htp0 e2 htp hE1 => ?_)
    have hvs0 : vs0 = [] := hE1
    subst hvs0
    have hne : lp ≠ tp := fun e => by rw [← e, hl] at htp0; cases htp0
    refine sv_forM (xs := (bookRows B).map strV) (ev_var rfl) (sq_of (e2 _ _ hl)) (fun i σ' H'' => ∃ (x1 : Option V), σ' = [some (.ref ab), some (.ref lp), x0, some (.ref tp), x1, none, none] ∧ Ex H' H'' ∧ H'' tp = some (.lst (bs ((bookRows B).take i).flatten))) ?_ ?_ ?_ ?_
    · rintro i σ' H'' ⟨x1, rfl, e'', _⟩
      exact sq_of (e'' _ _ hl)
    · intro H3 e3
      exact ⟨none, rfl, e2.trans e3, e3 _ _ htp⟩
    · rintro i x σ' H'' hi ⟨x1, rfl, e'', ht⟩
      rw [List.getElem?_map, Option.map_eq_some_iff] at hi
      obtain ⟨b, hb2, rfl⟩ := hi
      have hbl := hrle b (List.mem_of_getElem? hb2)
      have htl := flat_le ((bookRows B).take i) fun y hy => hrle y (List.mem_of_mem_take hy)
      rw [List.length_take] at htl
      refine ev_extT (ys := codesV (strOf b)) ht (ev_var rfl) (c_spelled (ev_var rfl) (by rw [strOf_size]; omega)) (fun v H1 ⟨p, ev, hp⟩ => ⟨p, ev, st_of hp⟩) ?_ fun H3 e3 => ⟨_, rfl, Ex.mut (e''.trans e3) htp0, ?_⟩
      · rw [codesV_of]
        show (List.map b2 _).length + (List.map b2 _).length ≤ _
        rw [List.length_map, List.length_map]
        exact sz_of (by omega)
      · rw [codesV_of, take_snoc hb2, List.flatten_append, List.flatten_singleton]
        show _ = some (HO.lst (List.map b2 _))
        rw [List.map_append]
        exact upd_same
    · rintro σ' H'' ⟨x1, rfl, e'', ht⟩
      rw [List.length_map, List.take_length, rows_print] at ht
      exact Sv.go (sv_ret (ev_var rfl) fun H3 e3 => k _ H3 (e'.trans (e''.trans e3)) ⟨tp, rfl, fresh_back e' htp0, e3 _ _ ht⟩)
end
end Trav
namespace Trav
open LsRun (Leg)
open LsGeo (Pt)
open RunBook (Book knownAt)
/-! ## objects are made -/
section
variable {K : PySem.W.Frag} {σ : L2.St} {H : Hp} {ta tb tv te : TE} {D : Ends} {tz : TS} {v : V} {f : Str} {a C dx : Addr} {fs : List (Str × V)}
theorem putF_lt : ∀ {fs : List (Str × V)} {n : Nat}, fs.length < n → (putF f v fs).length < n + 1
  | [], n, h => by
    show 1 < n + 1
    have h : 0 < n := h
    omega
  | (g, x) :: r, n, h => by
    rw [List.length_cons] at h
    show (if g = f then (g, v) :: r else (g, x) :: putF f v r).length < n + 1
    split
    · rw [List.length_cons]
      omega
    · rw [List.length_cons]
      have := putF_lt (fs := r) (n := n - 1) (by omega)
      omega
theorem l1 : ([] : List (Str × V)).length < 1 := Nat.zero_lt_one
theorem lk {n : Nat} (h : fs.length < n) (hn : n ≤ 1000 := by decide) : fs.length < 1000 := Nat.lt_of_lt_of_le h hn
theorem s_fld (hx : H a = some (.ins C dx fs)) (hc : Cls K C) (hn : NoAttr K C f) (hl : fs.length < 1000) (ha : Ev ta σ H (.ref a)) (hv : Ev tv σ H v) (k : ∀ H1, Ex H H1 → D.nx σ (upd H1 a (.ins C dx (putF f v fs)))) : sFld K ta tv f D σ H :=
  hv H (Ex.refl H) _ fun H1 e1 => ha H1 e1 _ fun H2 e2 => ⟨a, C, dx, fs, rfl, e2 _ _ (e1 _ _ hx), hc, hn, hl, k H2 (e1.trans e2)⟩
theorem s_fldP {P : V → Hp → Prop} (hP : Stay P) (hx : H a = some (.ins C dx fs)) (hc : Cls K C) (hn : NoAttr K C f) (hl : fs.length < 1000) (ha : Ev ta σ H (.ref a)) (hv : EvP tv σ H P) (k : ∀ v H1, Ex H H1 → P v H1 → D.nx σ (upd H1 a (.ins C dx (putF f v fs)))) : sFld K ta tv f D σ H :=
  hv H (Ex.refl H) _ fun v H1 e1 p => ha H1 e1 _ fun H2 e2 => ⟨a, C, dx, fs, rfl, e2 _ _ (e1 _ _ hx), hc, hn, hl, k v H2 (e1.trans e2) (hP v H1 H2 e2 p)⟩
theorem q_fld (hx : H a = some (.ins C dx fs)) (hc : Cls K C) (hn : NoAttr K C f) (hl : fs.length < 1000) (ha : Ev ta σ H (.ref a)) (hv : Ev tv σ H v) (k : ∀ H1, Ex H H1 → tz D σ (upd H1 a (.ins C dx (putF f v fs)))) : tSeq (sFld K ta tv f) tz D σ H := s_fld (D := { D with nx := tz D }) hx hc hn hl ha hv k
theorem q_fldP {P : V → Hp → Prop} (hP : Stay P) (hx : H a = some (.ins C dx fs)) (hc : Cls K C) (hn : NoAttr K C f) (hl : fs.length < 1000) (ha : Ev ta σ H (.ref a)) (hv : EvP tv σ H P) (k : ∀ v H1, Ex H H1 → P v H1 → tz D σ (upd H1 a (.ins C dx (putF f v fs)))) : tSeq (sFld K ta tv f) tz D σ H := s_fldP (D := { D with nx := tz D }) hP hx hc hn hl ha hv k
end
/-- all but a stays, or is new -/
def ExA (a : Addr) (H H' : Hp) : Prop := ∀ x u, x ≠ a → H x = some u → H' x = some u
theorem ExA.upd {a : Addr} {H H1 H' : Hp} {o : HO} (e : ExA a H H1) (e1 : Ex H1 H') : ExA a H (upd H' a o) := fun x u n h => by rw [upd_ne n]; exact e1 _ _ (e x u n h)
theorem ExA.refl {a : Addr} {H : Hp} : ExA a H H := fun _ _ _ h => h
def spLegInit (K : PySem.W.Frag) : Sp := fun vs H Q _ => ∃ (x dx : Addr) (g : Leg), vs = [.ref x, .int (g.to_ : Int), .int g.dx, .int g.dy, .int (g.long : Int)] ∧ H x = some (.ins (He.ga K "Leg") dx []) ∧ (∀ H', ExA x H H' → H' x = some (.ins (He.ga K "Leg") dx (legF g)) → Q .non H')
def spRunInit (K : PySem.W.Frag) : Sp := fun vs H Q _ => ∃ (x dx : Addr) (b e : Nat), vs = [.ref x, .int (b : Int), .int (e : Int)] ∧ H x = some (.ins (He.ga K "Run") dx []) ∧ (∀ H' l, H l = none → ExA x H H' → H' l = some (.lst []) → H' x = some (.ins (He.ga K "Run") dx (runF b e l)) → Q .non H')
def spBookInit (K : PySem.W.Frag) : Sp := fun vs H Q _ => ∃ (x dx : Addr), vs = [.ref x] ∧ H x = some (.ins (He.ga K "Book") dx []) ∧ (∀ H' d l, H d = none → H l = none → ExA x H H' → H' d = some (.dK []) → H' l = some (.lst []) → H' x = some (.ins (He.ga K "Book") dx (bookF d l)) → Q .non H')
section
variable {P : Program} {w : World} {K : PySem.W.Frag} {mg : Str → Option Value} {base : Heap} {σ : L2.St} {H : Hp} {ta tb tc te : TE} {D : Ends} {tz tu : TS}
theorem sc_Leg_init : FnScope ["self", "point", "east", "north", "length"] ["self", "point", "east", "north", "length"] (defScope s_Leg_init) := ⟨rfl, rfl, rfl, by decide +kernel, rfl, by decide +kernel, by decide +kernel⟩
theorem ok_Leg_init (T : Txt K mg) : MDef P w K mg base CX0 1 "Leg" "__init__" ["self", "point", "east", "north", "length"] (spLegInit K) := by
  refine T.mdef 16 rfl rfl rfl rfl sc_Leg_init (fun _ _ _ _ _ _ us hl => match us, hl with | [_, _, _, _, _], _ => rfl) (fun vs H Q E h => by first | (obtain ⟨_, rfl, _⟩ := h; rfl) | (obtain ⟨_, _, rfl, _⟩ := h; rfl) | (obtain ⟨_, _, _, rfl, _⟩ := h; rfl) | (obtain ⟨_, _, _, _, rfl, _⟩ := h; rfl) | (obtain ⟨_, _, _, _, _, rfl, _⟩ := h; rfl) | (obtain ⟨_, _, _, _, _, _, rfl, _⟩ := h; rfl) | (obtain ⟨_, _, _, _, _, _, _, rfl, _⟩ := h; rfl) | (obtain ⟨_, _, _, _, _, _, _, _, rfl, _⟩ := h; rfl) | (obtain ⟨_, _, _, _, _, _, _, _, _, rfl, _⟩ := h; rfl) | (obtain ⟨_, _, _, _, _, _, _, _, _, _, rfl, _⟩ := h; rfl) | (obtain ⟨_, _, _, _, _, _, _, _, _, _, _, rfl, _⟩ := h; rfl) | (obtain ⟨_, _, _, _, _, _, _, _, _, _, _, _, rfl, _⟩ := h; rfl) | (obtain ⟨_, _, _, _, _, _, _, _, _, _, _, _, _, rfl, _⟩ := h; rfl) | (obtain ⟨_, _, _, _, _, _, _, _, _, _, _, _, _, _, rfl, _⟩ := h; rfl) | (obtain ⟨_, _, _, _, _, _, _, _, _, _, _, _, _, _, _, rfl, _⟩ := h; rfl) | (obtain ⟨_, _, _, _, _, _, _, _, _, _, _, _, _, _, _, _, rfl, _⟩ := h; rfl) | (obtain ⟨_, _, _, _, _, _, _, _, _, _, _, _, _, _, _, _, _, rfl, _⟩ := h; rfl) | (obtain ⟨_, _, _, _, _, _, _, _, _, _, _, _, _, _, _, _, _, _, rfl, _⟩ := h; rfl) | (obtain ⟨_, _, _, _, _, _, _, _, _, _, _, _, _, _, _, _, _, _, _, rfl, _⟩ := h; rfl)) (fun f cdv A outer s H vs Q E hr h => ⟨_, PSs.nox (pss_cons (ps_fld (pv 0) (pv 1) rfl) (pss_cons (ps_fld (pv 0) (pv 2) rfl) (pss_cons (ps_fld (pv 0) (pv 3) rfl) (pss_one (ps_fld (pv 0) (pv 4) rfl))))), ?_⟩)
  obtain ⟨x, dx, g, rfl, hx, k⟩ := h
  refine q_fld hx (T.cls 169 rfl) (T.noat 174 rfl) (lk l1) (ev_var rfl) (ev_var rfl) fun H1 e1 => ?_
  have x1 := ExA.upd (a := x) (o := .ins (He.ga K "Leg") dx (putF "point" (.int (g.to_ : Int)) [])) ExA.refl e1
  refine q_fld upd_same (T.cls 169 rfl) (T.noat 171 rfl) (lk (putF_lt l1)) (ev_var rfl) (ev_var rfl) fun H2 e2 => ?_
  refine q_fld upd_same (T.cls 169 rfl) (T.noat 173 rfl) (lk (putF_lt (putF_lt l1))) (ev_var rfl) (ev_var rfl) fun H3 e3 => ?_
  refine s_fld upd_same (T.cls 169 rfl) (T.noat 172 rfl) (lk (putF_lt (putF_lt (putF_lt l1)))) (ev_var rfl) (ev_var rfl) fun H4 e4 => ?_
  exact k _ (((x1.upd e2).upd e3).upd e4) upd_same
theorem sc_Run_init : FnScope ["self", "begin", "goal"] ["self", "begin", "goal"] (defScope s_Run_init) := ⟨rfl, rfl, rfl, by decide +kernel, rfl, by decide +kernel, by decide +kernel⟩
theorem ok_Run_init (T : Txt K mg) : MDef P w K mg base CX0 1 "Run" "__init__" ["self", "begin", "goal"] (spRunInit K) := by
  refine T.mdef 17 rfl rfl rfl rfl sc_Run_init (fun _ _ _ _ _ _ us hl => match us, hl with | [_, _, _], _ => rfl) (fun vs H Q E h => by first | (obtain ⟨_, rfl, _⟩ := h; rfl) | (obtain ⟨_, _, rfl, _⟩ := h; rfl) | (obtain ⟨_, _, _, rfl, _⟩ := h; rfl) | (obtain ⟨_, _, _, _, rfl, _⟩ := h; rfl) | (obtain ⟨_, _, _, _, _, rfl, _⟩ := h; rfl) | (obtain ⟨_, _, _, _, _, _, rfl, _⟩ := h; rfl) | (obtain ⟨_, _, _, _, _, _, _, rfl, _⟩ := h; rfl) | (obtain ⟨_, _, _, _, _, _, _, _, rfl, _⟩ := h; rfl) | (obtain ⟨_, _, _, _, _, _, _, _, _, rfl, _⟩ := h; rfl) | (obtain ⟨_, _, _, _, _, _, _, _, _, _, rfl, _⟩ := h; rfl) | (obtain ⟨_, _, _, _, _, _, _, _, _, _, _, rfl, _⟩ := h; rfl) | (obtain ⟨_, _, _, _, _, _, _, _, _, _, _, _, rfl, _⟩ := h; rfl) | (obtain ⟨_, _, _, _, _, _, _, _, _, _, _, _, _, rfl, _⟩ := h; rfl) | (obtain ⟨_, _, _, _, _, _, _, _, _, _, _, _, _, _, rfl, _⟩ := h; rfl) | (obtain ⟨_, _, _, _, _, _, _, _, _, _, _, _, _, _, _, rfl, _⟩ := h; rfl) | (obtain ⟨_, _, _, _, _, _, _, _, _, _, _, _, _, _, _, _, rfl, _⟩ := h; rfl) | (obtain ⟨_, _, _, _, _, _, _, _, _, _, _, _, _, _, _, _, _, rfl, _⟩ := h; rfl) | (obtain ⟨_, _, _, _, _, _, _, _, _, _, _, _, _, _, _, _, _, _, rfl, _⟩ := h; rfl) | (obtain ⟨_, _, _, _, _, _, _, _, _, _, _, _, _, _, _, _, _, _, _, rfl, _⟩ := h; rfl)) (fun f cdv A outer s H vs Q E hr h => ⟨_, PSs.nox (pss_cons (ps_fld (pv 0) (pv 1) rfl) (pss_cons (ps_fld (pv 0) (pv 2) rfl) (pss_one (ps_fld (pv 0) (pe_lst pa_nil) rfl)))), ?_⟩)
  obtain ⟨x, dx, b, e, rfl, hx, k⟩ := h
  refine q_fld hx (T.cls 175 rfl) (T.noat 177 rfl) (lk l1) (ev_var rfl) (ev_var rfl) fun H1 e1 => ?_
  have x1 := ExA.upd (a := x) (o := .ins (He.ga K "Run") dx (putF "begin" (.int (b : Int)) [])) ExA.refl e1
  refine q_fld upd_same (T.cls 175 rfl) (T.noat 178 rfl) (lk (putF_lt l1)) (ev_var rfl) (ev_var rfl) fun H2 e2 => ?_
  have x2 := x1.upd (o := .ins (He.ga K "Run") dx (putF "goal" (.int (e : Int)) (putF "begin" (.int (b : Int)) []))) e2
  generalize hH3 : upd H2 x (.ins (He.ga K "Run") dx (putF "goal" (.int (e : Int)) (putF "begin" (.int (b : Int)) []))) = H3 at x2
  have hx3 : H3 x = some (.ins (He.ga K "Run") dx (putF "goal" (.int (e : Int)) (putF "begin" (.int (b : Int)) []))) := by rw [← hH3]; exact upd_same
  refine s_fldP (P := NewLn H3 []) (fun v H1 H2 e ⟨p, ev, h0, hp⟩ => ⟨p, ev, h0, e _ _ hp⟩) hx3 (T.cls 175 rfl) (T.noat 179 rfl) (lk (putF_lt (putF_lt l1))) (ev_var rfl) (fun H4 e4 Q q => ⟨sz_of (Nat.zero_le _), fun p hp => q _ _ (Ex.new hp) ⟨p, rfl, fresh_back e4 hp, upd_same⟩⟩) fun v H4 e4 ⟨p, ev, h0, hp⟩ => ?_
  subst ev
  have hpx : p ≠ x := ne_of_new h0 hx3
  have hp0 : H p = none := by
    cases hh : H p with
    | none => rfl
    | some u => rw [x2 p u hpx hh] at h0; cases h0
  exact k _ p hp0 (x2.upd e4) (by rw [upd_ne hpx]; exact hp) upd_same
theorem sc_Book_init : FnScope ["self"] ["self"] (defScope s_Book_init) := ⟨rfl, rfl, rfl, by decide +kernel, rfl, by decide +kernel, by decide +kernel⟩
theorem ok_Book_init (T : Txt K mg) : MDef P w K mg base CX0 1 "Book" "__init__" ["self"] (spBookInit K) := by
  refine T.mdef 18 rfl rfl rfl rfl sc_Book_init (fun _ _ _ _ _ _ us hl => match us, hl with | [_], _ => rfl) (fun vs H Q E h => by first | (obtain ⟨_, rfl, _⟩ := h; rfl) | (obtain ⟨_, _, rfl, _⟩ := h; rfl) | (obtain ⟨_, _, _, rfl, _⟩ := h; rfl) | (obtain ⟨_, _, _, _, rfl, _⟩ := h; rfl) | (obtain ⟨_, _, _, _, _, rfl, _⟩ := h; rfl) | (obtain ⟨_, _, _, _, _, _, rfl, _⟩ := h; rfl) | (obtain ⟨_, _, _, _, _, _, _, rfl, _⟩ := h; rfl) | (obtain ⟨_, _, _, _, _, _, _, _, rfl, _⟩ := h; rfl) | (obtain ⟨_, _, _, _, _, _, _, _, _, rfl, _⟩ := h; rfl) | (obtain ⟨_, _, _, _, _, _, _, _, _, _, rfl, _⟩ := h; rfl) | (obtain ⟨_, _, _, _, _, _, _, _, _, _, _, rfl, _⟩ := h; rfl) | (obtain ⟨_, _, _, _, _, _, _, _, _, _, _, _, rfl, _⟩ := h; rfl) | (obtain ⟨_, _, _, _, _, _, _, _, _, _, _, _, _, rfl, _⟩ := h; rfl) | (obtain ⟨_, _, _, _, _, _, _, _, _, _, _, _, _, _, rfl, _⟩ := h; rfl) | (obtain ⟨_, _, _, _, _, _, _, _, _, _, _, _, _, _, _, rfl, _⟩ := h; rfl) | (obtain ⟨_, _, _, _, _, _, _, _, _, _, _, _, _, _, _, _, rfl, _⟩ := h; rfl) | (obtain ⟨_, _, _, _, _, _, _, _, _, _, _, _, _, _, _, _, _, rfl, _⟩ := h; rfl) | (obtain ⟨_, _, _, _, _, _, _, _, _, _, _, _, _, _, _, _, _, _, rfl, _⟩ := h; rfl) | (obtain ⟨_, _, _, _, _, _, _, _, _, _, _, _, _, _, _, _, _, _, _, rfl, _⟩ := h; rfl)) (fun f cdv A outer s H vs Q E hr h => ⟨_, PSs.nox (pss_cons (ps_fld (pv 0) pe_dnewK rfl) (pss_one (ps_fld (pv 0) (pe_lst pa_nil) rfl))), ?_⟩)
  obtain ⟨x, dx, rfl, hx, k⟩ := h
  refine q_fldP (P := fun v H1 => ∃ p, v = .ref p ∧ H p = none ∧ H1 p = some (.dK [])) (fun v H1 H2 e ⟨p, ev, h0, hp⟩ => ⟨p, ev, h0, e _ _ hp⟩) hx (T.cls 180 rfl) (T.noat 182 rfl) (lk l1) (ev_var rfl) (fun H4 e4 Q q => fun p hp => q _ _ (Ex.new hp) ⟨p, rfl, fresh_back e4 hp, upd_same⟩) fun v H1 e1 ⟨d, ev, hd0, hd⟩ => ?_
  subst ev
  have hdx : d ≠ x := ne_of_new hd0 hx
  have x2 := ExA.upd (a := x) (o := .ins (He.ga K "Book") dx (putF "known" (.ref d) [])) ExA.refl e1
  have hd3 : upd H1 x (.ins (He.ga K "Book") dx (putF "known" (.ref d) [])) d = some (.dK []) := by rw [upd_ne hdx]; exact hd
  generalize hH3 : upd H1 x (.ins (He.ga K "Book") dx (putF "known" (.ref d) [])) = H3 at x2 hd3
  have hx3 : H3 x = some (.ins (He.ga K "Book") dx (putF "known" (.ref d) [])) := by rw [← hH3]; exact upd_same
  refine s_fldP (P := NewLn H3 []) (fun v H1 H2 e ⟨p, ev, h0, hp⟩ => ⟨p, ev, h0, e _ _ hp⟩) hx3 (T.cls 180 rfl) (T.noat 183 rfl) (lk (putF_lt l1)) (ev_var rfl) (fun H4 e4 Q q => ⟨sz_of (Nat.zero_le _), fun p hp => q _ _ (Ex.new hp) ⟨p, rfl, fresh_back e4 hp, upd_same⟩⟩) fun v H4 e4 ⟨p, ev, h0, hp⟩ => ?_
  subst ev
  have hpx : p ≠ x := ne_of_new h0 hx3
  have hp0 : H p = none := by
    cases hh : H p with
    | none => rfl
    | some u => rw [x2 p u hpx hh] at h0; cases h0
  exact k _ d p hd0 hp0 (x2.upd e4) (by rw [upd_ne hdx]; exact e4 _ _ hd3) (by rw [upd_ne hpx]; exact hp) upd_same
end
end Trav
namespace Trav
open LsRun (Leg Spot)
open LsGeo (Pt)
open RunBook (Book knownAt numberMay mayReach)
open TravSpec (Call asks step)
/-! ## the office -/
/-- where the parts of a book stand -/
structure Lay where
  d : Addr
  l : Addr
  rs : List (Addr × Addr × List Addr)
/-- what may be written -/
def Lay.mut (L : Lay) : List Addr := L.d :: L.l :: (L.rs.map (fun x => x.2.1) ++ L.rs.flatMap (fun x => x.2.2))
def RunOn (K : PySem.W.Frag) (r : RunBook.Run) (x : Addr × Addr × List Addr) (H : Hp) : Prop := (∃ dx, H x.1 = some (.ins (He.ga K "Run") dx (runF r.from_ r.to_ x.2.1))) ∧ H x.2.1 = some (.lst (x.2.2.map V.ref)) ∧ Each (r.legs.map (LegAt K)) (x.2.2.map V.ref) H
structure BookOn (K : PySem.W.Frag) (B : Book) (L : Lay) (b : Addr) (H : Hp) : Prop where
  bk : ∃ dx, H b = some (.ins (He.ga K "Book") dx (bookF L.d L.l))
  kn : ∃ kvs, H L.d = some (.dK kvs) ∧ KnD K B.known kvs H
  ls : H L.l = some (.lst (L.rs.map fun x => V.ref x.1))
  ln : L.rs.length = B.runs.length
  rn : ∀ (i : Nat) x r, L.rs[i]? = some x → B.runs[i]? = some r → RunOn K r x H
  n1 : (L.l :: L.rs.map (fun x => x.2.1)).Nodup
  n2 : (L.rs.flatMap (fun x => x.2.2)).Nodup
theorem each_idx {α : Type} {Pr : α → V → Hp → Prop} {H : Hp} : ∀ {L : List α} {vs : List V}, vs.length = L.length → (∀ (i : Nat) x v, L[i]? = some x → vs[i]? = some v → Pr x v H) → Each (L.map Pr) vs H
  | [], vs, hl, _ => List.length_eq_zero_iff.mp hl
  | x :: L, [], hl, _ => by simp at hl
  | x :: L, v :: vs, hl, h => ⟨v, vs, rfl, h 0 x v rfl rfl, each_idx (by simpa using hl) fun i y u h1 h2 => h (i + 1) y u (by simpa using h1) (by simpa using h2)⟩
theorem RunOn.at_ {K : PySem.W.Frag} {r : RunBook.Run} {x : Addr × Addr × List Addr} {H : Hp} (h : RunOn K r x H) : RunAt K r (.ref x.1) H := let ⟨⟨dx, h1⟩, h2, h3⟩ := h; ⟨x.1, dx, x.2.1, _, rfl, h1, h2, h3⟩
theorem BookOn.at_ {K : PySem.W.Frag} {B : Book} {L : Lay} {b : Addr} {H : Hp} (h : BookOn K B L b H) : BookAt K B (.ref b) H := by
  obtain ⟨dx, h1⟩ := h.bk
  obtain ⟨kvs, h2, h3⟩ := h.kn
  refine ⟨b, dx, L.d, L.l, kvs, _, rfl, h1, h2, h3, h.ls, each_idx (by rw [List.length_map, h.ln]) fun i r v hr hv => ?_⟩
  rw [List.getElem?_map, Option.map_eq_some_iff] at hv
  obtain ⟨x, hx, rfl⟩ := hv
  exact (h.rn i x r hx hr).at_
/-- the office: its book -/
def OffAt (K : PySem.W.Frag) (B : Book) (o : Addr) (H : Hp) : Prop := ∃ dx b, H o = some (.ins (He.ga K "Office") dx [("book", .ref b)]) ∧ BookAt K B (.ref b) H
theorem OffAt.mono {K : PySem.W.Frag} {B : Book} {o : Addr} {H H' : Hp} (e : Ex H H') (h : OffAt K B o H) : OffAt K B o H' := let ⟨dx, b, h1, h2⟩ := h; ⟨dx, b, e _ _ h1, stay_BookAt _ _ _ _ e h2⟩
def iv (l : List Int) : List V := l.map V.int
def nv (l : List Nat) : List V := l.map fun (n : Nat) => V.int (n : Int)
/-- an answer's numbers -/
def ansN (a : LsAns.Ans) : List Int := a.ret :: (a.nums ++ a.bytes.map fun c => (c.toNat : Int))
/-- what is asked of the book, without a change -/
def spAsk (K : PySem.W.Frag) (n : Nat) (f : Book → List Nat → LsAns.Ans) : Sp := fun vs H Q _ => ∃ (o nn : Addr) (B : Book) (as : List Nat), vs = [.ref o, .ref nn] ∧ OffAt K B o H ∧ Good B ∧ SqL K H nn (nv as) ∧ as.length = n ∧ Ret (NewLn H (iv (ansN (f B as)))) H Q
def spHasRun (K : PySem.W.Frag) : Sp := fun vs H Q _ => ∃ (o : Addr) (B : Book) (t : Nat), vs = [.ref o, .int (t : Int)] ∧ OffAt K B o H ∧ RetV (.bl (decide (t < B.runs.length))) H Q
def spHasLeg (K : PySem.W.Frag) : Sp := fun vs H Q _ => ∃ (o : Addr) (B : Book) (t i : Nat), vs = [.ref o, .int (t : Int), .int (i : Int)] ∧ OffAt K B o H ∧ RetV (.bl ((B.runs[t]?).any fun r => decide (i < r.legs.length))) H Q
def spHasPoint (K : PySem.W.Frag) : Sp := fun vs H Q _ => ∃ (o : Addr) (B : Book) (t n : Nat), vs = [.ref o, .int (t : Int), .int (n : Int)] ∧ OffAt K B o H ∧ Good B ∧ RetV (.bl ((B.runs[t]?).any fun r => (TravSpec.placeNo r n).isSome)) H Q
def errOf (B : Book) (t : Nat) : List Int := match B.runs[t]? with
  | none => [-4]
  | some r => if r.closed = true then [] else [-5]
def spError (K : PySem.W.Frag) : Sp := fun vs H Q _ => ∃ (o : Addr) (B : Book) (t : Nat), vs = [.ref o, .int (t : Int)] ∧ OffAt K B o H ∧ Good B ∧ Ret (NewLn H (iv (errOf B t))) H Q
section
variable {P : Program} {w : World} {K : PySem.W.Frag} {mg : Str → Option Value} {base : Heap} {σ : L2.St} {H : Hp} {ta tb tc te : TE} {D : Ends} {tz tu : TS}
theorem ev_off (T : Txt K mg) {o dx b : Addr} (h : Ev ta σ H (.ref o)) (h1 : H o = some (.ins (He.ga K "Office") dx [("book", .ref b)])) : Ev (tFld K ta "book") σ H (.ref b) := ev_fld h h1 (T.cls 196 rfl) (T.noat 198 rfl) rfl
/-- return [..], ints -/
theorem sv_retI {H0 : Hp} {l : List Int} {ta : TA} (h : EvA ta σ H (iv l)) (hl : l.length ≤ 100000) (e0 : Ex H0 H) (k : Ret (NewLn H0 (iv l)) H0 D.rt) : Sv (tRet (tLst ta)) D σ H := fun H1 e1 =>
  h H1 e1 _ fun H2 e2 => ⟨sz_of (by unfold iv; rw [List.length_map]; exact hl), fun q hq => k _ _ ((e0.trans (e1.trans e2)).trans (Ex.new hq)) ⟨q, rfl, fresh_back (e0.trans (e1.trans e2)) hq, upd_same⟩⟩
/-- the runs of an office -/
theorem off_runs (T : Txt K mg) {o : Addr} {B : Book} (hO : OffAt K B o H) (h : Ev ta σ H (.ref o)) : ∃ (l : Addr) (vs : List V), Ev (tFld K (tFld K ta "book") "runs") σ H (.ref l) ∧ H l = some (.lst vs) ∧ Each (B.runs.map (RunAt K)) vs H ∧ vs.length = B.runs.length := by
  obtain ⟨dx, b, h1, ab, db, d, lb, kvs, bks, eb, hb, hd, hk, hlb, hEb⟩ := hO
  obtain rfl := V.ref.inj eb
  exact ⟨lb, bks, ev_book2 T (ev_off T h h1) hb, hlb, hEb, each_lenM hEb⟩
theorem ev_run (T : Txt K mg) {o : Addr} {B : Book} {t : Nat} {r : RunBook.Run} (hO : OffAt K B o H) (h : Ev ta σ H (.ref o)) (hb : Ev tb σ H (.int (t : Int))) (hr : B.runs[t]? = some r) : ∃ v, Ev (tOp (rIxL K) (tFld K (tFld K ta "book") "runs") tb) σ H v ∧ RunAt K r v H := by
  obtain ⟨l, vs, h1, h2, h3, h4⟩ := off_runs T hO h
  obtain ⟨v, hv, hp⟩ := each_get h3 (i := t) (P := RunAt K r) (by rw [List.getElem?_map, hr]; rfl)
  exact ⟨v, ev_ix h1 hb (sq_of h2) (by rw [Trav.atI_nat, hv]), hp⟩
theorem none_ge {α : Type} {L : List α} {i : Nat} (h : L[i]? = none) : ¬ i < L.length := by
  rw [List.getElem?_eq_none_iff] at h
  omega
theorem sc_has_run : FnScope ["office", "number"] ["office", "number"] (defScope s_has_run) := ⟨rfl, rfl, rfl, by decide +kernel, rfl, by decide +kernel, by decide +kernel⟩
theorem ok_has_run (T : Txt K mg) : Def P w K mg base CX0 1 "has_run" ["office", "number"] (spHasRun K) := by
  refine T.def_ 80 66 rfl rfl rfl rfl rfl sc_has_run (fun _ _ _ _ _ _ us hl => match us, hl with | [_, _], _ => rfl) (fun vs H Q E h => by first | (obtain ⟨_, rfl, _⟩ := h; rfl) | (obtain ⟨_, _, rfl, _⟩ := h; rfl) | (obtain ⟨_, _, _, rfl, _⟩ := h; rfl) | (obtain ⟨_, _, _, _, rfl, _⟩ := h; rfl) | (obtain ⟨_, _, _, _, _, rfl, _⟩ := h; rfl) | (obtain ⟨_, _, _, _, _, _, rfl, _⟩ := h; rfl) | (obtain ⟨_, _, _, _, _, _, _, rfl, _⟩ := h; rfl) | (obtain ⟨_, _, _, _, _, _, _, _, rfl, _⟩ := h; rfl) | (obtain ⟨_, _, _, _, _, _, _, _, _, rfl, _⟩ := h; rfl) | (obtain ⟨_, _, _, _, _, _, _, _, _, _, rfl, _⟩ := h; rfl) | (obtain ⟨_, _, _, _, _, _, _, _, _, _, _, rfl, _⟩ := h; rfl) | (obtain ⟨_, _, _, _, _, _, _, _, _, _, _, _, rfl, _⟩ := h; rfl) | (obtain ⟨_, _, _, _, _, _, _, _, _, _, _, _, _, rfl, _⟩ := h; rfl) | (obtain ⟨_, _, _, _, _, _, _, _, _, _, _, _, _, _, rfl, _⟩ := h; rfl) | (obtain ⟨_, _, _, _, _, _, _, _, _, _, _, _, _, _, _, rfl, _⟩ := h; rfl) | (obtain ⟨_, _, _, _, _, _, _, _, _, _, _, _, _, _, _, _, rfl, _⟩ := h; rfl) | (obtain ⟨_, _, _, _, _, _, _, _, _, _, _, _, _, _, _, _, _, rfl, _⟩ := h; rfl) | (obtain ⟨_, _, _, _, _, _, _, _, _, _, _, _, _, _, _, _, _, _, rfl, _⟩ := h; rfl) | (obtain ⟨_, _, _, _, _, _, _, _, _, _, _, _, _, _, _, _, _, _, _, rfl, _⟩ := h; rfl)) (fun f cdv A outer s H vs Q E hr h => ⟨_, PSs.nox (pss_one (ps_ret (pe_cmpR op_lt (pv 1) (pe_callB call_len (by rfl) (T.free 160 rfl) (by decide +kernel) (pa_cons (pe_fld (pe_fld (pv 0) rfl) rfl) pa_nil)) (nomark _)))), ?_⟩)
  obtain ⟨o, B, t, rfl, hO, k⟩ := h
  obtain ⟨l, vs, h1, h2, h3, h4⟩ := off_runs T hO (ta := tVar 0) (σ := start ["office", "number"] [.ref o, .int (t : Int)]) (ev_var rfl)
  exact Sv.go (sv_ret (ev_rel (f := fun i j => decide (i < j)) (ev_var rfl) (ev_len1 h1 (sq_of h2)) (by rw [h4, Bool.eq_iff_iff]; simp only [decide_eq_true_eq]; omega)) k)
theorem sc_has_leg : FnScope ["office", "number", "leg"] ["office", "number", "leg"] (defScope s_has_leg) := ⟨rfl, rfl, rfl, by decide +kernel, rfl, by decide +kernel, by decide +kernel⟩
theorem ok_has_leg (T : Txt K mg) : Def P w K mg base CX0 2 "has_leg" ["office", "number", "leg"] (spHasLeg K) := by
  refine T.def_ 81 67 rfl rfl rfl rfl rfl sc_has_leg (fun _ _ _ _ _ _ us hl => match us, hl with | [_, _, _], _ => rfl) (fun vs H Q E h => by first | (obtain ⟨_, rfl, _⟩ := h; rfl) | (obtain ⟨_, _, rfl, _⟩ := h; rfl) | (obtain ⟨_, _, _, rfl, _⟩ := h; rfl) | (obtain ⟨_, _, _, _, rfl, _⟩ := h; rfl) | (obtain ⟨_, _, _, _, _, rfl, _⟩ := h; rfl) | (obtain ⟨_, _, _, _, _, _, rfl, _⟩ := h; rfl) | (obtain ⟨_, _, _, _, _, _, _, rfl, _⟩ := h; rfl) | (obtain ⟨_, _, _, _, _, _, _, _, rfl, _⟩ := h; rfl) | (obtain ⟨_, _, _, _, _, _, _, _, _, rfl, _⟩ := h; rfl) | (obtain ⟨_, _, _, _, _, _, _, _, _, _, rfl, _⟩ := h; rfl) | (obtain ⟨_, _, _, _, _, _, _, _, _, _, _, rfl, _⟩ := h; rfl) | (obtain ⟨_, _, _, _, _, _, _, _, _, _, _, _, rfl, _⟩ := h; rfl) | (obtain ⟨_, _, _, _, _, _, _, _, _, _, _, _, _, rfl, _⟩ := h; rfl) | (obtain ⟨_, _, _, _, _, _, _, _, _, _, _, _, _, _, rfl, _⟩ := h; rfl) | (obtain ⟨_, _, _, _, _, _, _, _, _, _, _, _, _, _, _, rfl, _⟩ := h; rfl) | (obtain ⟨_, _, _, _, _, _, _, _, _, _, _, _, _, _, _, _, rfl, _⟩ := h; rfl) | (obtain ⟨_, _, _, _, _, _, _, _, _, _, _, _, _, _, _, _, _, rfl, _⟩ := h; rfl) | (obtain ⟨_, _, _, _, _, _, _, _, _, _, _, _, _, _, _, _, _, _, rfl, _⟩ := h; rfl) | (obtain ⟨_, _, _, _, _, _, _, _, _, _, _, _, _, _, _, _, _, _, _, rfl, _⟩ := h; rfl)) (fun f cdv A outer s H vs Q E hr h => ⟨_, PSs.nox (pss_one (ps_ret (pe_and (pe_cd (ok_has_run T) hr pass0 (pa_cons (pv 0) (pa_cons (pv 1) pa_nil))) (pe_one (pe_cmpR op_lt (pv 2) (pe_callB call_len (by rfl) (T.free 160 rfl) (by decide +kernel) (pa_cons (pe_fld (pe_ix ix_list (pe_fld (pe_fld (pv 0) rfl) rfl) (pv 1) (fun _ _ => rfl)) rfl) pa_nil)) (nomark _)))))), ?_⟩)
  obtain ⟨o, B, t, i, rfl, hO, k⟩ := h
  refine Sv.go (sv_ret (v := .bl (decide (t < B.runs.length) && ((B.runs[t]?).any fun r => decide (i < r.legs.length)))) (ev_andV (ev_callV (ea_cons (ev_var rfl) (ea_cons (ev_var rfl) ea_nil)) fun H1 e Q k => ⟨o, B, t, rfl, hO.mono e, k⟩) fun hc => ?_) ?_)
  · have hc := of_decide_eq_true hc
    obtain ⟨r, hr⟩ : ∃ r, B.runs[t]? = some r := ⟨_, List.getElem?_eq_getElem hc⟩
    obtain ⟨v, hv, hR⟩ := ev_run T hO (ta := tVar 0) (tb := tVar 1) (σ := start ["office", "number", "leg"] [.ref o, .int (t : Int), .int (i : Int)]) (ev_var rfl) (ev_var rfl) hr
    obtain ⟨a, dx, l, vs, rfl, hra, hl, hvs⟩ := hR
    rw [hr]
    exact ev_rel (f := fun i j => decide (i < j)) (ev_var rfl) (ev_len1 (ev_run3 T hv hra) (sq_of hl)) (by rw [each_lenM hvs]; show _ = decide (i < r.legs.length); rw [Bool.eq_iff_iff]; simp only [decide_eq_true_eq]; omega)
  · have e : (decide (t < B.runs.length) && ((B.runs[t]?).any fun r => decide (i < r.legs.length))) = (B.runs[t]?).any fun r => decide (i < r.legs.length) := by
      cases hr : B.runs[t]? with
      | none => rw [decide_eq_false (none_ge hr)]; rfl
      | some r => rw [decide_eq_true (List.getElem?_eq_some_iff.mp hr).1, Bool.true_and]
    rw [e]
    exact k
theorem sc_has_point : FnScope ["office", "number", "point"] ["office", "number", "point"] (defScope s_has_point) := ⟨rfl, rfl, rfl, by decide +kernel, rfl, by decide +kernel, by decide +kernel⟩
theorem ok_has_point (T : Txt K mg) : Def P w K mg base CX0 3 "has_point" ["office", "number", "point"] (spHasPoint K) := by
  refine T.def_ 82 68 rfl rfl rfl rfl rfl sc_has_point (fun _ _ _ _ _ _ us hl => match us, hl with | [_, _, _], _ => rfl) (fun vs H Q E h => by first | (obtain ⟨_, rfl, _⟩ := h; rfl) | (obtain ⟨_, _, rfl, _⟩ := h; rfl) | (obtain ⟨_, _, _, rfl, _⟩ := h; rfl) | (obtain ⟨_, _, _, _, rfl, _⟩ := h; rfl) | (obtain ⟨_, _, _, _, _, rfl, _⟩ := h; rfl) | (obtain ⟨_, _, _, _, _, _, rfl, _⟩ := h; rfl) | (obtain ⟨_, _, _, _, _, _, _, rfl, _⟩ := h; rfl) | (obtain ⟨_, _, _, _, _, _, _, _, rfl, _⟩ := h; rfl) | (obtain ⟨_, _, _, _, _, _, _, _, _, rfl, _⟩ := h; rfl) | (obtain ⟨_, _, _, _, _, _, _, _, _, _, rfl, _⟩ := h; rfl) | (obtain ⟨_, _, _, _, _, _, _, _, _, _, _, rfl, _⟩ := h; rfl) | (obtain ⟨_, _, _, _, _, _, _, _, _, _, _, _, rfl, _⟩ := h; rfl) | (obtain ⟨_, _, _, _, _, _, _, _, _, _, _, _, _, rfl, _⟩ := h; rfl) | (obtain ⟨_, _, _, _, _, _, _, _, _, _, _, _, _, _, rfl, _⟩ := h; rfl) | (obtain ⟨_, _, _, _, _, _, _, _, _, _, _, _, _, _, _, rfl, _⟩ := h; rfl) | (obtain ⟨_, _, _, _, _, _, _, _, _, _, _, _, _, _, _, _, rfl, _⟩ := h; rfl) | (obtain ⟨_, _, _, _, _, _, _, _, _, _, _, _, _, _, _, _, _, rfl, _⟩ := h; rfl) | (obtain ⟨_, _, _, _, _, _, _, _, _, _, _, _, _, _, _, _, _, _, rfl, _⟩ := h; rfl) | (obtain ⟨_, _, _, _, _, _, _, _, _, _, _, _, _, _, _, _, _, _, _, rfl, _⟩ := h; rfl)) (fun f cdv A outer s H vs Q E hr h => ⟨_, PSs.nox (pss_one (ps_ret (pe_and (pe_cd (ok_has_run T) hr pass0 (pa_cons (pv 0) (pa_cons (pv 1) pa_nil))) (pe_one (pe_cd (ok_passes_by T) hr pass0 (pa_cons (pe_ix ix_list (pe_fld (pe_fld (pv 0) rfl) rfl) (pv 1) (fun _ _ => rfl)) (pa_cons (pv 2) pa_nil))))))), ?_⟩)
  obtain ⟨o, B, t, n, rfl, hO, hG, k⟩ := h
  refine Sv.go (sv_ret (v := .bl (decide (t < B.runs.length) && ((B.runs[t]?).any fun r => (TravSpec.placeNo r n).isSome))) (ev_andV (ev_callV (ea_cons (ev_var rfl) (ea_cons (ev_var rfl) ea_nil)) fun H1 e Q k => ⟨o, B, t, rfl, hO.mono e, k⟩) fun hc => ?_) ?_)
  · have hc := of_decide_eq_true hc
    obtain ⟨r, hr⟩ : ∃ r, B.runs[t]? = some r := ⟨_, List.getElem?_eq_getElem hc⟩
    obtain ⟨v, hv, hR⟩ := ev_run T hO (ta := tVar 0) (tb := tVar 1) (σ := start ["office", "number", "point"] [.ref o, .int (t : Int), .int (n : Int)]) (ev_var rfl) (ev_var rfl) hr
    rw [hr]
    exact ev_callV (ea_cons hv (ea_cons (ev_var rfl) ea_nil)) fun H1 e Q k => ⟨v, r, n, rfl, stay_RunAt _ _ _ _ e hR, ((hG.rs r (List.mem_of_getElem? hr)).1).n, k⟩
  · have e : (decide (t < B.runs.length) && ((B.runs[t]?).any fun r => (TravSpec.placeNo r n).isSome)) = (B.runs[t]?).any fun r => (TravSpec.placeNo r n).isSome := by
      cases hr : B.runs[t]? with
      | none => rw [decide_eq_false (none_ge hr)]; rfl
      | some r => rw [decide_eq_true (List.getElem?_eq_some_iff.mp hr).1, Bool.true_and]
    rw [e]
    exact k
theorem sc_arrived_error : FnScope ["office", "number"] ["office", "number"] (defScope s_arrived_error) := ⟨rfl, rfl, rfl, by decide +kernel, rfl, by decide +kernel, by decide +kernel⟩
theorem ok_arrived_error (T : Txt K mg) : Def P w K mg base CX0 2 "arrived_error" ["office", "number"] (spError K) := by
  refine T.def_ 83 69 rfl rfl rfl rfl rfl sc_arrived_error (fun _ _ _ _ _ _ us hl => match us, hl with | [_, _], _ => rfl) (fun vs H Q E h => by first | (obtain ⟨_, rfl, _⟩ := h; rfl) | (obtain ⟨_, _, rfl, _⟩ := h; rfl) | (obtain ⟨_, _, _, rfl, _⟩ := h; rfl) | (obtain ⟨_, _, _, _, rfl, _⟩ := h; rfl) | (obtain ⟨_, _, _, _, _, rfl, _⟩ := h; rfl) | (obtain ⟨_, _, _, _, _, _, rfl, _⟩ := h; rfl) | (obtain ⟨_, _, _, _, _, _, _, rfl, _⟩ := h; rfl) | (obtain ⟨_, _, _, _, _, _, _, _, rfl, _⟩ := h; rfl) | (obtain ⟨_, _, _, _, _, _, _, _, _, rfl, _⟩ := h; rfl) | (obtain ⟨_, _, _, _, _, _, _, _, _, _, rfl, _⟩ := h; rfl) | (obtain ⟨_, _, _, _, _, _, _, _, _, _, _, rfl, _⟩ := h; rfl) | (obtain ⟨_, _, _, _, _, _, _, _, _, _, _, _, rfl, _⟩ := h; rfl) | (obtain ⟨_, _, _, _, _, _, _, _, _, _, _, _, _, rfl, _⟩ := h; rfl) | (obtain ⟨_, _, _, _, _, _, _, _, _, _, _, _, _, _, rfl, _⟩ := h; rfl) | (obtain ⟨_, _, _, _, _, _, _, _, _, _, _, _, _, _, _, rfl, _⟩ := h; rfl) | (obtain ⟨_, _, _, _, _, _, _, _, _, _, _, _, _, _, _, _, rfl, _⟩ := h; rfl) | (obtain ⟨_, _, _, _, _, _, _, _, _, _, _, _, _, _, _, _, _, rfl, _⟩ := h; rfl) | (obtain ⟨_, _, _, _, _, _, _, _, _, _, _, _, _, _, _, _, _, _, rfl, _⟩ := h; rfl) | (obtain ⟨_, _, _, _, _, _, _, _, _, _, _, _, _, _, _, _, _, _, _, rfl, _⟩ := h; rfl)) (fun f cdv A outer s H vs Q E hr h => ⟨_, PSs.nox (pss_cons (ps_if (pt_not (pt_val (pe_cd (ok_has_run T) hr pass0 (pa_cons (pv 0) (pa_cons (pv 1) pa_nil))))) (pss_one (ps_ret (pe_lst (pa_cons (pe_gi (T.int 150 rfl)) pa_nil)))) pss_nil) (pss_cons (ps_if (pt_not (pt_val (pe_cd (ok_has_arrived T) hr pass0 (pa_cons (pe_ix ix_list (pe_fld (pe_fld (pv 0) rfl) rfl) (pv 1) (fun _ _ => rfl)) pa_nil)))) (pss_one (ps_ret (pe_lst (pa_cons (pe_gi (T.int 151 rfl)) pa_nil)))) pss_nil) (pss_one (ps_ret (pe_lst pa_nil))))), ?_⟩)
  obtain ⟨o, B, t, rfl, hO, hG, k⟩ := h
  refine Sv.go (sv_when (b := !decide (t < B.runs.length)) (et_not (et_test (ev_callV (ea_cons (ev_var rfl) (ea_cons (ev_var rfl) ea_nil)) fun H1 e Q k => ⟨o, B, t, rfl, hO.mono e, k⟩))) (fun hc => ?_) fun hc => ?_)
  · have hr : B.runs[t]? = none := List.getElem?_eq_none (by simpa using hc)
    have e : errOf B t = [-4] := by unfold errOf; rw [hr]
    rw [e] at k
    exact sv_retI (l := [-4]) (ea_cons ev_c ea_nil) (by decide) (Ex.refl _) k
  · have hc : t < B.runs.length := by simpa using hc
    obtain ⟨r, hr⟩ : ∃ r, B.runs[t]? = some r := ⟨_, List.getElem?_eq_getElem hc⟩
    have e : errOf B t = if r.closed = true then [] else [-5] := by unfold errOf; rw [hr]
    rw [e] at k
    obtain ⟨v, hv, hR⟩ := ev_run T hO (ta := tVar 0) (tb := tVar 1) (σ := start ["office", "number"] [.ref o, .int (t : Int)]) (ev_var rfl) (ev_var rfl) hr
    refine sv_when (b := !r.closed) (et_not (et_test (ev_callV (ea_cons hv ea_nil) fun H1 e Q k => ⟨v, r, rfl, stay_RunAt _ _ _ _ e hR, ((hG.rs r (List.mem_of_getElem? hr)).1).n, k⟩))) (fun hc => ?_) fun hc => ?_
    · rw [if_neg (by simpa using hc)] at k
      exact sv_retI (l := [-5]) (ea_cons ev_c ea_nil) (by decide) (Ex.refl _) k
    · rw [if_pos (by simpa using hc)] at k
      exact sv_retI (l := []) ea_nil (by decide) (Ex.refl _) k
end
end Trav
namespace Trav
open LsRun (Leg Spot)
open LsGeo (Pt)
open RunBook (Book knownAt)
/-! ## plain laws: places -/
theorem mk_div (n : Int) (t : Nat) : mkRat n t = (n : Rat) / (t : Rat) := Rat.mkRat_eq_div n t
theorem natR_ne {t : Nat} (h : 0 < t) : (t : Rat) ≠ 0 := by
  intro e
  have : ((t : Nat) : Rat) = ((0 : Nat) : Rat) := e
  have := Rat.natCast_inj.mp this
  omega
theorem mk_add (a b : Int) {t : Nat} (h : 0 < t) : mkRat a t + mkRat b t = mkRat (a + b) t := by
  rw [mk_div, mk_div, mk_div, Rat.intCast_add, Rat.div_def, Rat.div_def, Rat.div_def, ← Rat.add_mul]
theorem mk_whole (a : Int) {t : Nat} (h : 0 < t) : mkRat (a * (t : Int)) t = (a : Rat) := by
  rw [mk_div, Rat.intCast_mul, Rat.intCast_natCast, Rat.mul_div_cancel (natR_ne h)]
theorem mk_share (d m : Int) (g : Nat) {t : Nat} (h : 0 < t) : mkRat (d * (t : Int) + m * (g : Int)) t = (d : Rat) + (m : Rat) * (g : Rat) / (t : Rat) := by
  rw [← mk_add _ _ h, mk_whole d h]
  congr 1
  rw [mk_div, Rat.intCast_mul, Rat.intCast_natCast]
theorem shared_eq (m : Int × Int) (g : Leg) {t : Nat} (h : 0 < t) : LsRun.shared m t g = spotI t (shI m t g) := by
  unfold LsRun.shared spotI shI
  rw [mk_share _ _ _ h, mk_share _ _ _ h]
theorem plus_spot (p q : Int × Int) {t : Nat} (h : 0 < t) : LsRun.plus (spotI t p) (spotI t q) = spotI t (plus2 p q) := by
  unfold LsRun.plus spotI plus2
  rw [mk_add _ _ h, mk_add _ _ h]
theorem from_spot (m : Int × Int) {t : Nat} (h : 0 < t) : ∀ (L : List Leg) (p : Int × Int), LsRun.placesFrom (spotI t p) (L.map (LsRun.shared m t)) = (plI m t p L).map (spotI t)
  | [], _ => rfl
  | g :: L, p => by
    rw [List.map_cons]
    show spotI t p :: LsRun.placesFrom (LsRun.plus (spotI t p) (LsRun.shared m t g)) (L.map (LsRun.shared m t)) = spotI t p :: (plI m t (plus2 p (shI m t g)) L).map (spotI t)
    rw [shared_eq m g h, plus_spot _ _ h, from_spot m h L]
theorem placesOf_eq {a b : Pt} {L : List Leg} (h : 0 < LsRun.total L) : LsRun.placesOf a b L = (placesI a b L).map (spotI (LsRun.total L)) := by
  unfold LsRun.placesOf LsRun.legsOf placesI
  rw [← from_spot _ h]
  congr 1
  unfold spotI
  rw [mk_whole _ h, mk_whole _ h]
theorem legs_at {a b : Pt} {L : List Leg} {i : Nat} {g : Leg} (h : 0 < LsRun.total L) (hg : L[i]? = some g) : (LsRun.legsOf a b L).getD i (0, 0) = spotI (LsRun.total L) (shI (LsRun.miss a b L) (LsRun.total L) g) := by
  unfold LsRun.legsOf
  rw [List.getD_eq_getElem?_getD, List.getElem?_map, hg]
  exact shared_eq _ _ h
theorem closed_pos {r : RunBook.Run} (h : r.closed = true) : 0 < r.legs.length := by
  rw [closed_eq, Bool.and_eq_true] at h
  exact of_decide_eq_true h.1
/-- of a run that has come to its end -/
theorem ends_of {B : Book} {r : RunBook.Run} (hG : Good B) (hr : r ∈ B.runs) : ∃ a b, knownAt B r.from_ = some a ∧ knownAt B r.to_ = some b ∧ SmP a ∧ SmP b ∧ TravSpec.endsOf B r = if r.closed = true then some (a, b) else none := by
  obtain ⟨_, h1, h2, _⟩ := hG.rs r hr
  obtain ⟨a, ha, _, _, sa⟩ := hG.at_ h1
  obtain ⟨b, hb, _, _, sb⟩ := hG.at_ h2
  refine ⟨a, b, ha, hb, sa, sb, ?_⟩
  unfold TravSpec.endsOf
  rw [ha, hb]
  cases r.closed <;> rfl
theorem placeBy_of {B : Book} {r : RunBook.Run} {n : Nat} (hG : Good B) (hr : r ∈ B.runs) : ∃ a b, knownAt B r.from_ = some a ∧ knownAt B r.to_ = some b ∧ SmP a ∧ SmP b ∧
    TravSpec.placeBy B r n = if r.closed = true then (TravSpec.placeNo r n).map (spotBy a b r.legs) else none := by
  obtain ⟨a, b, ha, hb, sa, sb, he⟩ := ends_of hG hr
  refine ⟨a, b, ha, hb, sa, sb, ?_⟩
  unfold TravSpec.placeBy
  rw [he]
  by_cases hc : r.closed = true
  · rw [if_pos hc, if_pos hc]
    have h0 := total_pos (hG.rs r hr).1 (closed_pos hc)
    cases hp : TravSpec.placeNo r n with
    | none => rfl
    | some i =>
      show (LsRun.placesOf a b r.legs)[i]? = some (spotBy a b r.legs i)
      have hi := placeNo_lt hp
      rw [placesOf_eq h0, List.getElem?_map]
      unfold spotBy
      have hl := placesI_len a b r.legs
      rw [List.getD_eq_getElem?_getD, List.getElem?_eq_getElem (by omega)]
      rfl
  · rw [if_neg hc, if_neg hc]
/-! sums -/
theorem sumQ_eq (l : List Rat) : sumQ l = l.foldr (fun (a b : Rat) => a + b) 0 := by
  have key : ∀ (l : List Rat) (c : Rat), l.foldl (fun a b => a + b) c = c + l.foldr (fun (a b : Rat) => a + b) 0 := by
    intro l
    induction l with
    | nil => intro c; exact (Rat.add_zero c).symm
    | cons x l ih =>
      intro c
      rw [List.foldl_cons, ih, List.foldr_cons, Rat.add_assoc]
  unfold sumQ
  rw [key, Rat.zero_add]
/-! ## the area -/
def crossQ (p q : Spot) : Rat := p.1 * q.2 - q.1 * p.2
theorem cross_mk (p q : Int × Int) {t : Nat} (h : 0 < t) : crossQ (spotI t p) (spotI t q) = mkRat (cross p q) (t * t) := by
  unfold crossQ spotI cross
  simp only
  rw [Rat.mkRat_mul_mkRat, Rat.mkRat_mul_mkRat]
  have e : p.1 * q.2 - q.1 * p.2 = p.1 * q.2 + -(q.1 * p.2) := Int.sub_eq_add_neg
  rw [e, ← mk_add _ _ (Nat.mul_pos h h), ← Rat.neg_mkRat, Rat.sub_eq_add_neg]
theorem sum_mk {t : Nat} (h : 0 < t) : ∀ (l : List Int), (l.map fun z => mkRat z t).foldr (fun (a b : Rat) => a + b) 0 = mkRat l.sum t
  | [] => by
    rw [List.map_nil, List.foldr_nil, List.sum_nil, Rat.zero_mkRat]
  | z :: l => by
    rw [List.map_cons, List.foldr_cons, sum_mk h l, mk_add _ _ h, List.sum_cons]
/-- where the walk ends -/
theorem plI_last (m : Int × Int) (t : Nat) : ∀ (L : List Leg) (p : Int × Int), (plI m t p L).getLast? = some (p.1 + LsRun.sumInt (L.map fun g => g.dx) * (t : Int) + m.1 * (LsRun.total L : Int), p.2 + LsRun.sumInt (L.map fun g => g.dy) * (t : Int) + m.2 * (LsRun.total L : Int))
  | [], p => by
    show some p = some _
    congr 1
    apply Prod.ext <;> simp [LsRun.sumInt, LsRun.total]
  | g :: L, p => by
    have h := plI_last m t L (plus2 p (shI m t g))
    have hne : plI m t (plus2 p (shI m t g)) L ≠ [] := by
      intro e
      rw [e] at h
      cases h
    show (p :: plI m t (plus2 p (shI m t g)) L).getLast? = _
    rw [List.getLast?_cons_of_ne_nil hne, h]
    congr 1
    have e1 : LsRun.sumInt ((g :: L).map fun g => g.dx) = g.dx + LsRun.sumInt (L.map fun g => g.dx) := rfl
    have e2 : LsRun.sumInt ((g :: L).map fun g => g.dy) = g.dy + LsRun.sumInt (L.map fun g => g.dy) := rfl
    have e3 : (LsRun.total (g :: L) : Int) = (g.long : Int) + (LsRun.total L : Int) := by
      show ((g.long + LsRun.total L : Nat) : Int) = _
      exact Int.natCast_add _ _
    rw [e1, e2, e3]
    apply Prod.ext
    · show p.1 + (g.dx * (t : Int) + m.1 * (g.long : Int)) + LsRun.sumInt (L.map fun g => g.dx) * (t : Int) + m.1 * (LsRun.total L : Int) = _
      simp only [Int.add_mul, Int.mul_add]
      omega
    · show p.2 + (g.dy * (t : Int) + m.2 * (g.long : Int)) + LsRun.sumInt (L.map fun g => g.dy) * (t : Int) + m.2 * (LsRun.total L : Int) = _
      simp only [Int.add_mul, Int.mul_add]
      omega
theorem places_last (a b : Pt) (L : List Leg) : (placesI a b L).getLast? = some (b.x * (LsRun.total L : Int), b.y * (LsRun.total L : Int)) := by
  unfold placesI
  rw [plI_last]
  congr 1
  unfold LsRun.miss
  apply Prod.ext
  · simp only [Int.sub_mul]
    omega
  · simp only [Int.sub_mul]
    omega
theorem zip_row {α : Type} (z : α) (P Q : List α) (h : P.length = Q.length) : P.zip Q = (List.range Q.length).map fun k => (P.getD k z, Q.getD k z) := by
  apply List.ext_getElem
  · simp [h]
  · intro i h1 h2
    simp only [List.length_zip, List.length_map, List.length_range] at h1 h2
    rw [List.getElem_zip, List.getElem_map, List.getElem_range, List.getD_eq_getElem?_getD, List.getD_eq_getElem?_getD, List.getElem?_eq_getElem (by omega), List.getElem?_eq_getElem (by omega)]
    rfl
theorem area_row (t : Nat) (h : 0 < t) (p0 : Int × Int) (Q : List (Int × Int)) (hl : Q.getLast? = some p0) : LsRun.area2 (((p0 :: Q).map (spotI t)).dropLast) = mkRat (areaI (p0 :: Q)) (t * t) := by
  have hne : Q ≠ [] := by
    intro e
    rw [e] at hl
    cases hl
  have hQ : Q.dropLast ++ [p0] = Q := by
    have e := List.dropLast_concat_getLast hne
    rw [List.getLast?_eq_some_getLast hne] at hl
    rw [Option.some.inj hl] at e
    exact e
  have e1 : ((p0 :: Q).map (spotI t)).dropLast = (p0 :: Q.dropLast).map (spotI t) := by
    rw [← List.map_dropLast, List.dropLast_cons_of_ne_nil hne]
  have e2 : ((p0 :: Q.dropLast).map (spotI t)).drop 1 ++ ((p0 :: Q.dropLast).map (spotI t)).take 1 = Q.map (spotI t) := by
    rw [List.map_cons, List.drop_one, List.tail_cons]
    show Q.dropLast.map (spotI t) ++ [spotI t p0] = Q.map (spotI t)
    conv => rhs; rw [← hQ]
    rw [List.map_append]
    rfl
  have hlen : (p0 :: Q.dropLast).length = Q.length := by
    have := congrArg List.length hQ
    rw [List.length_append, List.length_singleton] at this
    rw [List.length_cons]
    exact this
  have e3 : areaI (p0 :: Q) = (((p0 :: Q.dropLast).zip Q).map fun s => cross s.1 s.2).sum := by
    unfold areaI
    rw [List.length_cons, List.range_succ_eq_map, List.map_cons, List.sum_cons, List.map_map, zip_row (0, 0) _ _ hlen, List.map_map]
    have z : cross ((p0 :: Q).getD (if (0 : Nat) = 0 then Q.length + 1 - 1 else 0 - 1) (0, 0)) ((p0 :: Q).getD 0 (0, 0)) = 0 := by
      rw [if_pos rfl]
      have e : (p0 :: Q).getD (Q.length + 1 - 1) (0, 0) = p0 := by
        have hg := hl
        rw [List.getLast?_eq_getElem?] at hg
        have hq : 0 < Q.length := List.length_pos_iff.mpr hne
        rw [List.getD_eq_getElem?_getD, show Q.length + 1 - 1 = (Q.length - 1) + 1 by omega, List.getElem?_cons_succ, hg]
        rfl
      rw [e]
      show p0.1 * p0.2 - p0.1 * p0.2 = 0
      omega
    rw [z, Int.zero_add]
    congr 1
    refine List.map_congr_left fun k hk => ?_
    have hk := List.mem_range.mp hk
    show cross ((p0 :: Q).getD (if k + 1 = 0 then Q.length + 1 - 1 else k + 1 - 1) (0, 0)) ((p0 :: Q).getD (k + 1) (0, 0)) = cross ((p0 :: Q.dropLast).getD k (0, 0)) (Q.getD k (0, 0))
    rw [if_neg (Nat.succ_ne_zero k), Nat.add_sub_cancel]
    congr 1
    have e4 : p0 :: Q = (p0 :: Q.dropLast) ++ [p0] := by rw [List.cons_append, hQ]
    rw [e4, List.getD_eq_getElem?_getD, List.getD_eq_getElem?_getD, List.getElem?_append_left (by omega)]
  unfold LsRun.area2
  rw [e1, e2, e3, ← sum_mk (Nat.mul_pos h h), List.zip_map, List.map_map, List.map_map]
  congr 1
  refine List.map_congr_left fun s _ => ?_
  exact cross_mk s.1 s.2 h
theorem area_eq {a : Pt} {L : List Leg} (h : 0 < LsRun.total L) (hL : 0 < L.length) : LsRun.area2 (LsRun.placesOf a a L).dropLast = mkRat (areaI (placesI a a L)) (LsRun.total L * LsRun.total L) := by
  rw [placesOf_eq h]
  have hl := places_last a a L
  obtain ⟨Q, hQ⟩ : ∃ Q, placesI a a L = (a.x * (LsRun.total L : Int), a.y * (LsRun.total L : Int)) :: Q := by
    unfold placesI
    cases L with
    | nil => exact ⟨[], rfl⟩
    | cons g L => exact ⟨_, rfl⟩
  have hn := placesI_len a a L
  rw [hQ] at hl hn ⊢
  have hne : Q ≠ [] := by
    intro e
    rw [e] at hn
    simp only [List.length_cons, List.length_nil] at hn
    omega
  rw [List.getLast?_cons_of_ne_nil hne] at hl
  exact area_row _ h _ _ hl
end Trav
namespace Trav
open LsRun (Leg Reading Slip)
/-! ## plain laws: slips -/
def okG (L : List Leg) (s : SlG) : Prop := ∃ g, L[s.1.1]? = some g ∧ s.2 = gainOf g s.1.2
theorem ok_slips (L : List Leg) : ∀ s ∈ slipsG L, okG L s := by
  intro s hs
  obtain ⟨x, hx, hs⟩ := List.mem_flatMap.mp hs
  obtain ⟨r, hr, rfl⟩ := List.mem_map.mp hs
  obtain ⟨g, i⟩ := x
  have h := List.mem_zipIdx_iff_getElem?.mp hx
  exact ⟨g, h, rfl⟩
theorem slips_fst (L : List Leg) : (slipsG L).map (·.1) = LsRun.slipsOf L := by
  unfold slipsG LsRun.slipsOf
  rw [List.map_flatMap]
  congr 1
  funext x
  unfold rowG
  rw [List.map_map]
  rfl
theorem missBy_ok {L : List Leg} {m : Int × Int} {s : SlG} (h : okG L s) : LsRun.missBy L m s.1 = plus2 m s.2 := by
  obtain ⟨g, hg, e⟩ := h
  unfold LsRun.missBy
  rw [hg, e]
  unfold plus2 gainOf
  simp only [Int.add_sub_assoc]
theorem missWith_ok {L : List Leg} : ∀ {cs : List SlG} {m : Int × Int}, (∀ s ∈ cs, okG L s) → LsRun.missWith L m (cs.map (·.1)) = missG m cs
  | [], _, _ => rfl
  | s :: cs, m, h => by
    show LsRun.missWith L (LsRun.missBy L m s.1) (cs.map (·.1)) = missG (plus2 m s.2) cs
    rw [missBy_ok (h s (List.mem_cons_self ..))]
    exact missWith_ok fun t ht => h t (List.mem_cons_of_mem _ ht)
section
variable {α : Type}
def nearQ (q : α → Int) (most : Int) (st : Option α) (x : α) : Option α := if q x ≤ most then (match st with | none => some x | some b => if q x < q b then some x else some b) else st
def bestQ (q : α → Int) (st : Option α) (x : α) : Option α := match st with | none => some x | some b => if q x < q b then some x else some b
theorem near_best (q : α → Int) (most : Int) : ∀ (X : List α) (st : Option α), X.foldl (nearQ q most) (st.filter fun b => decide (q b ≤ most)) = (X.foldl (bestQ q) st).filter fun b => decide (q b ≤ most)
  | [], _ => rfl
  | x :: X, st => by
    rw [List.foldl_cons, List.foldl_cons, ← near_best q most X]
    congr 1
    cases st with
    | none =>
      show nearQ q most none x = (some x).filter _
      unfold nearQ
      by_cases h : q x ≤ most
      · simp [h, Option.filter]
      · simp [h, Option.filter]
    | some b =>
      show nearQ q most ((some b).filter _) x = (if q x < q b then some x else some b).filter _
      unfold nearQ
      by_cases hb : q b ≤ most <;> by_cases hx : q x ≤ most <;> by_cases h : q x < q b <;> simp [hb, hx, h, Option.filter] <;> omega
end
theorem nearest_eq (L : List Leg) (m : Int × Int) (most : Int) {α : Type} (f : α → List Slip) (X : List α) : LsRun.nearest L m most (X.map f) = ((X.foldl (bestQ fun x => LsRun.square (LsRun.missWith L m (f x))) none).filter fun b => decide (LsRun.square (LsRun.missWith L m (f b)) ≤ most)).map f := by
  rw [← near_best]
  unfold LsRun.nearest
  rw [List.foldl_map]
  have key : ∀ (X : List α) (st : Option α), X.foldl (fun (best : Option (List Slip × Int)) (x : α) =>
      let q := LsRun.square (LsRun.missWith L m (f x))
      if q ≤ most then (match best with
        | none => some (f x, q)
        | some b => if q < b.2 then some (f x, q) else some b) else best) (st.map fun x => (f x, LsRun.square (LsRun.missWith L m (f x)))) = (X.foldl (nearQ (fun x => LsRun.square (LsRun.missWith L m (f x))) most) st).map fun x => (f x, LsRun.square (LsRun.missWith L m (f x))) := by
    intro X
    induction X with
    | nil => intro st; rfl
    | cons x X ih =>
      intro st
      rw [List.foldl_cons, List.foldl_cons, ← ih]
      congr 1
      cases st with
      | none =>
        unfold nearQ
        simp only [Option.map_none]
        split <;> rfl
      | some b =>
        unfold nearQ
        simp only [Option.map_some]
        split
        · split <;> rfl
        · rfl
  have h := key X none
  rw [Option.map_none] at h
  refine (congrArg (Option.map fun x : List Slip × Int => x.1) h).trans ?_
  rw [Option.map_map]
  rfl
theorem filt_some {α : Type} {p : α → Bool} {a : α} {Q : Prop} [Decidable Q] (h : p a = decide Q) : (some a).filter p = if Q then some a else none := by
  unfold Option.filter
  simp only
  by_cases hq : Q
  · rw [if_pos hq, h, if_pos (decide_eq_true hq)]
  · rw [if_neg hq, h, if_neg (by simpa using hq)]
theorem single_best {L : List Leg} {m : Int × Int} : ∀ (cs : List SlG) (b : SlG), okG L b → (∀ s ∈ cs, okG L s) → cs.foldl (bestQ fun x : SlG => LsRun.square (LsRun.missWith L m [x.1])) (some b) = some (bestG m b cs)
  | [], _, _, _ => rfl
  | s :: cs, b, hb, hs => by
    have h1 := hs s (List.mem_cons_self ..)
    have e : ∀ x : SlG, okG L x → LsRun.square (LsRun.missWith L m [x.1]) = sqG m x := fun x hx => by
      show LsRun.square (LsRun.missBy L m x.1) = _
      rw [missBy_ok hx]
      rfl
    rw [List.foldl_cons]
    show cs.foldl _ (if LsRun.square (LsRun.missWith L m [s.1]) < LsRun.square (LsRun.missWith L m [b.1]) then some s else some b) = some (bestG m (if sqG m s < sqG m b then s else b) cs)
    rw [e s h1, e b hb]
    split
    · exact single_best cs s h1 fun t ht => hs t (List.mem_cons_of_mem _ ht)
    · exact single_best cs b hb fun t ht => hs t (List.mem_cons_of_mem _ ht)
theorem pair_best {L : List Leg} {m : Int × Int} : ∀ (ps : List (SlG × SlG)) (st : Option (SlG × SlG)), (∀ p ∈ ps, okG L p.1 ∧ okG L p.2) → (∀ p, st = some p → okG L p.1 ∧ okG L p.2) →
    ps.foldl (stepP m) (st.map fun p => (p, sqG (plus2 m p.1.2) p.2)) = (ps.foldl (bestQ fun p : SlG × SlG => LsRun.square (LsRun.missWith L m [p.1.1, p.2.1])) st).map fun p => (p, sqG (plus2 m p.1.2) p.2)
  | [], _, _, _ => rfl
  | p :: ps, st, hp, hst => by
    have h1 := hp p (List.mem_cons_self ..)
    have e : ∀ x : SlG × SlG, okG L x.1 ∧ okG L x.2 → LsRun.square (LsRun.missWith L m [x.1.1, x.2.1]) = sqG (plus2 m x.1.2) x.2 := fun x hx => by
      show LsRun.square (LsRun.missBy L (LsRun.missBy L m x.1.1) x.2.1) = _
      rw [missBy_ok hx.1, missBy_ok hx.2]
      rfl
    rw [List.foldl_cons, List.foldl_cons]
    cases st with
    | none => exact pair_best ps (some p) (fun x hx => hp x (List.mem_cons_of_mem _ hx)) fun x hx => by rw [← Option.some.inj hx]; exact h1
    | some b =>
      have hb := hst b rfl
      show ps.foldl (stepP m) (if sqG (plus2 m p.1.2) p.2 < sqG (plus2 m b.1.2) b.2 then some (p, sqG (plus2 m p.1.2) p.2) else some (b, sqG (plus2 m b.1.2) b.2)) = (ps.foldl _ (if LsRun.square (LsRun.missWith L m [p.1.1, p.2.1]) < LsRun.square (LsRun.missWith L m [b.1.1, b.2.1]) then some p else some b)).map _
      rw [e p h1, e b hb]
      split
      · exact pair_best ps (some p) (fun x hx => hp x (List.mem_cons_of_mem _ hx)) fun x hx => by rw [← Option.some.inj hx]; exact h1
      · exact pair_best ps (some b) (fun x hx => hp x (List.mem_cons_of_mem _ hx)) fun x hx => by rw [← Option.some.inj hx]; exact hb
theorem doubles_eq (L : List Leg) : LsRun.doubles L = (pairsG (slipsG L)).map fun p => [p.1.1, p.2.1] := by
  unfold LsRun.doubles pairsG behindG
  rw [← slips_fst, List.flatMap_map, List.map_flatMap]
  congr 1
  funext s
  rw [List.filter_map, List.map_map, List.map_map]
  rfl
theorem singles_eq (L : List Leg) : LsRun.singles L = (slipsG L).map fun s => [s.1] := by
  unfold LsRun.singles
  rw [← slips_fst, List.map_map]
  rfl
theorem pairs_ok {L : List Leg} : ∀ p ∈ pairsG (slipsG L), okG L p.1 ∧ okG L p.2 := by
  intro p hp
  obtain ⟨f, hf, hp⟩ := List.mem_flatMap.mp hp
  obtain ⟨s, hs, rfl⟩ := List.mem_map.mp hp
  exact ⟨ok_slips L _ hf, ok_slips L _ (List.mem_filter.mp hs).1⟩
theorem told_eq {L : List Leg} {m : Int × Int} {w : Nat} {c0 : SlG} {cs : List SlG} (h : slipsG L = c0 :: cs) : LsRun.explain L m ((w * w : Nat) : Int) = (toldG m c0 (c0 :: cs) w).map fun l => l.map (·.1) := by
  have hw : ((w * w : Nat) : Int) = (w : Int) * (w : Int) := Int.natCast_mul w w
  have hok := ok_slips L
  rw [h] at hok
  unfold LsRun.explain toldG
  rw [hw]
  -- none
  have n0 : LsRun.nearest L m ((w : Int) * (w : Int)) [[]] = if LsRun.square (missG m []) ≤ (w : Int) * (w : Int) then some [] else none := by
    show (([[]] : List (List Slip)).foldl _ none).map _ = _
    rw [List.foldl_cons, List.foldl_nil]
    show Option.map _ (if LsRun.square m ≤ (w : Int) * (w : Int) then some ([], LsRun.square m) else none) = if LsRun.square m ≤ (w : Int) * (w : Int) then some [] else none
    split <;> rfl
  rw [n0]
  by_cases h0 : LsRun.square (missG m []) ≤ (w : Int) * (w : Int)
  · rw [if_pos h0, if_pos h0]
    rfl
  rw [if_neg h0, if_neg h0]
  -- one
  have n1 : LsRun.nearest L m ((w : Int) * (w : Int)) (LsRun.singles L) = if LsRun.square (missG m [bestG m c0 (c0 :: cs)]) ≤ (w : Int) * (w : Int) then some [(bestG m c0 (c0 :: cs)).1] else none := by
    rw [singles_eq, nearest_eq, h, List.foldl_cons]
    show ((cs.foldl _ (some c0)).filter _).map _ = _
    rw [single_best cs c0 (hok c0 (List.mem_cons_self ..)) fun s hs => hok s (List.mem_cons_of_mem _ hs)]
    have eb : bestG m c0 (c0 :: cs) = bestG m c0 cs := by
      show bestG m (if sqG m c0 < sqG m c0 then c0 else c0) cs = _
      rw [ite_self]
    have hm : bestG m c0 (c0 :: cs) ∈ c0 :: cs := best_mem
    rw [← eb]
    have e : LsRun.square (LsRun.missWith L m [(bestG m c0 (c0 :: cs)).1]) = LsRun.square (missG m [bestG m c0 (c0 :: cs)]) := by
      show LsRun.square (LsRun.missBy L m _) = _
      rw [missBy_ok (hok _ hm)]
      rfl
    rw [filt_some (Q := LsRun.square (missG m [bestG m c0 (c0 :: cs)]) ≤ (w : Int) * (w : Int)) (by rw [e])]
    split <;> rfl
  rw [n1]
  by_cases h1 : LsRun.square (missG m [bestG m c0 (c0 :: cs)]) ≤ (w : Int) * (w : Int)
  · rw [if_pos h1, if_pos h1]
    rfl
  rw [if_neg h1, if_neg h1]
  -- two
  simp only
  rw [doubles_eq, nearest_eq]
  have hp := pair_best (m := m) (pairsG (slipsG L)) none pairs_ok fun p hp => by cases hp
  rw [Option.map_none] at hp
  have hb : bestP m (c0 :: cs) = (pairsG (slipsG L)).foldl (stepP m) none := by rw [h]; rfl
  rw [hb, hp]
  cases e : (pairsG (slipsG L)).foldl (bestQ fun p : SlG × SlG => LsRun.square (LsRun.missWith L m [p.1.1, p.2.1])) none with
  | none => rfl
  | some p =>
    have hpo : okG L p.1 ∧ okG L p.2 := by
      have hmem := pair_mem (m := m) (cs := c0 :: cs)
      rw [hb, hp, e] at hmem
      exact ⟨hok _ (hmem p.1 (List.mem_cons_self ..)), hok _ (hmem p.2 (List.mem_cons_of_mem _ (List.mem_cons_self ..)))⟩
    have eq : LsRun.square (LsRun.missWith L m [p.1.1, p.2.1]) = LsRun.square (missG m [p.1, p.2]) := by
      show LsRun.square (LsRun.missBy L (LsRun.missBy L m p.1.1) p.2.1) = _
      rw [missBy_ok hpo.1, missBy_ok hpo.2]
      rfl
    rw [show pairL (Option.map (fun p : SlG × SlG => (p, sqG (plus2 m p.1.2) p.2)) (some p)) = [p.1, p.2] from rfl]
    rw [filt_some (Q := LsRun.square (missG m [p.1, p.2]) ≤ (w : Int) * (w : Int)) (by rw [eq])]
    by_cases hh : LsRun.square (missG m [p.1, p.2]) ≤ (w : Int) * (w : Int)
    · rw [if_pos hh, if_pos ⟨(by show 0 < 2; decide), hh⟩]
      rfl
    · rw [if_neg hh, if_neg (fun x => hh x.2)]
      rfl
/-- there is a slip of the first leg -/
theorem slips_some {L : List Leg} (h : 0 < L.length) (hs : ∀ g ∈ L, SmL g) : ∃ c0 cs, slipsG L = c0 :: cs := by
  cases L with
  | nil => exact absurd h (by decide)
  | cons g L =>
    have hx := (hs g (List.mem_cons_self ..)).xy
    have hm : (⟨1, 0, -g.dx, -g.dy⟩ : Reading) ∈ LsRun.readings g := by
      rw [readings_all]
      refine List.mem_filter.mpr ⟨?_, ?_⟩
      · unfold allR
        exact List.mem_append_left _ (List.mem_append_left _ (List.mem_cons_self ..))
      · simp only [Bool.not_eq_true', Bool.and_eq_false_iff, beq_eq_false_iff_ne]
        by_cases h0 : g.dx = 0
        · right
          intro e
          exact hx ⟨h0, by omega⟩
        · left
          intro e
          omega
    have hr : ∃ r rs, LsRun.readings g = r :: rs := by
      cases e : LsRun.readings g with
      | nil => rw [e] at hm; exact absurd hm List.not_mem_nil
      | cons r rs => exact ⟨r, rs, rfl⟩
    obtain ⟨r, rs, hr⟩ := hr
    have e : slipsG (g :: L) = ((0, r), gainOf g r) :: (rs.map (fun r => ((0, r), gainOf g r)) ++ (L.zipIdx 1).flatMap rowG) := by
      unfold slipsG
      rw [List.zipIdx_cons, List.flatMap_cons]
      unfold rowG
      rw [hr, List.map_cons, List.cons_append]
    exact ⟨_, _, e⟩
end Trav
namespace Trav
open LsRun (Leg Spot)
open LsGeo (Pt)
open RunBook (Book knownAt numberMay mayReach)
open TravSpec (Call asks step)
/-! ## deeds that ask -/
theorem err_cases {B : Book} (hG : Good B) (t : Nat) : (errOf B t ≠ [] ∧ ∀ f, ansN (TravSpec.ofClosed B t f) = errOf B t) ∨
    (errOf B t = [] ∧ ∃ r a b, B.runs[t]? = some r ∧ r.closed = true ∧ knownAt B r.from_ = some a ∧ knownAt B r.to_ = some b ∧ SmP a ∧ SmP b ∧ ∀ f, TravSpec.ofClosed B t f = f r a b) := by
  cases hr : B.runs[t]? with
  | none =>
    have e : errOf B t = [-4] := by unfold errOf; rw [hr]
    refine .inl ⟨by rw [e]; decide, fun f => ?_⟩
    rw [e]
    unfold TravSpec.ofClosed TravSpec.ofRun
    rw [hr]
    rfl
  | some r =>
    obtain ⟨a, b, ha, hb, sa, sb, he⟩ := ends_of hG (List.mem_of_getElem? hr)
    have e : errOf B t = if r.closed = true then [] else [-5] := by unfold errOf; rw [hr]
    by_cases hc : r.closed = true
    · rw [if_pos hc] at e he
      refine .inr ⟨e, r, a, b, rfl, hc, ha, hb, sa, sb, fun f => ?_⟩
      unfold TravSpec.ofClosed TravSpec.ofRun
      rw [hr]
      simp only
      rw [he]
    · rw [if_neg hc] at e he
      refine .inl ⟨by rw [e]; decide, fun f => ?_⟩
      rw [e]
      unfold TravSpec.ofClosed TravSpec.ofRun
      rw [hr]
      simp only
      rw [he]
      rfl
section
variable {P : Program} {w : World} {K : PySem.W.Frag} {mg : Str → Option Value} {base : Heap} {σ : L2.St} {H : Hp} {ta tb tc te : TE} {D : Ends} {tz tu : TS} {x y z u v : V}
theorem sv_unl2 {i j : Nat} {a : Addr} (h : Ev te σ H (.ref a)) (hx : SqL K H a [x, y]) (k : Sv tz D ((σ.set i (some x)).set j (some y)) H) : Sv (tSeq (tAsg te (gUnl K 2 (gCons (gName i) (gCons (gName j) gNil)))) tz) D σ H := fun H1 e =>
  h H1 e _ fun H2 e2 => ⟨a, _, rfl, ex_l (e.trans e2) hx, rfl, _, _, rfl, _, _, rfl, rfl, k H2 (e.trans e2)⟩
theorem sv_unl3 {i j l : Nat} {a : Addr} (h : Ev te σ H (.ref a)) (hx : SqL K H a [x, y, z]) (k : Sv tz D (((σ.set i (some x)).set j (some y)).set l (some z)) H) : Sv (tSeq (tAsg te (gUnl K 3 (gCons (gName i) (gCons (gName j) (gCons (gName l) gNil))))) tz) D σ H := fun H1 e =>
  h H1 e _ fun H2 e2 => ⟨a, _, rfl, ex_l (e.trans e2) hx, rfl, _, _, rfl, _, _, rfl, _, _, rfl, rfl, k H2 (e.trans e2)⟩
theorem sv_unl4 {i j l m : Nat} {a : Addr} (h : Ev te σ H (.ref a)) (hx : SqL K H a [x, y, z, u]) (k : Sv tz D ((((σ.set i (some x)).set j (some y)).set l (some z)).set m (some u)) H) : Sv (tSeq (tAsg te (gUnl K 4 (gCons (gName i) (gCons (gName j) (gCons (gName l) (gCons (gName m) gNil)))))) tz) D σ H := fun H1 e =>
  h H1 e _ fun H2 e2 => ⟨a, _, rfl, ex_l (e.trans e2) hx, rfl, _, _, rfl, _, _, rfl, _, _, rfl, _, _, rfl, rfl, k H2 (e.trans e2)⟩
theorem evp_catN {xs ys : List V} (ha : EvP ta σ H (NewL xs)) (hb : EvP tb σ H (NewL ys)) (hz : xs.length + ys.length ≤ 100000) : EvP (tOp rCat ta tb) σ H (NewLn H (xs ++ ys)) := fun H1 e Q q =>
  ha H1 e _ fun v H2 e2 ⟨p, ev, hp⟩ => hb H2 (e.trans e2) _ fun u H3 e3 ⟨r, eu, hr⟩ => ⟨p, r, xs, ys, ev, eu, e3 p _ hp, hr, sz_of hz, fun l hl => q _ _ ((e2.trans e3).trans (Ex.new hl)) ⟨l, rfl, fresh_back ((e.trans e2).trans e3) hl, upd_same⟩⟩
theorem evp_list {xs : List V} (h : EvP ta σ H (Tp K xs)) : EvP (tCB (fun xs H Q => ∃ p ys, xs = [.ref p] ∧ (SqL K H p ys ∨ SqT K H p ys) ∧ ∀ l, H l = none → Q (.ref l) (upd H l (.lst ys))) (tCons ta tNil)) σ H (NewL xs) := evp_listT h
theorem evp_li {ta : TA} {xs : List V} (h : EvA ta σ H xs) (hl : xs.length ≤ 100000) : EvP (tLst ta) σ H (NewL xs) := evp_lst h hl
/-- a refusal -/
theorem sv_no {H0 : Hp} {i : Int} {a : LsAns.Ans} (h : Ev te σ H (.int i)) (e0 : Ex H0 H) (ea : ansN a = [i]) (k : Ret (NewLn H0 (iv (ansN a))) H0 D.rt) : Sv (tRet (tLst (tCons te tNil))) D σ H := by
  rw [ea] at k
  exact sv_retI (l := [i]) (ea_cons h ea_nil) (by show 1 ≤ 100000; decide) e0 k
/-- error = arrived_error(office, t); if len(error) > 0: return error -/
theorem sv_err {i : Nat} {o : Addr} {B : Book} {t : Nat} {E : XK} (hO : OffAt K B o H) (hG : Good B) (ha : Ev ta σ H (.ref o)) (hb : Ev tb σ H (.int (t : Int))) (hi : ∀ v : V, (σ.set i (some v))[i]? = some (some v)) {H0 : Hp} (e0 : Ex H0 H) (k0 : errOf B t ≠ [] → Ret (NewLn H0 (iv (errOf B t))) H0 D.rt)
    (k1 : errOf B t = [] → ∀ v H1, Ex H H1 → Sv tz D (σ.set i (some v)) H1) :
    Sv (tSeq (tAsg (tCall (spError K) [] E (tCons ta (tCons tb tNil))) (gName i)) (tSeq (tIfS (tTest (tOp (rI0 fun i j => .bl (decide (i > j))) (tCB (fun xs H Q => ∃ x n, xs = [x] ∧ LenV K x H n ∧ Q (.int n) H) (tCons (tVar i) tNil)) (tC (.int 0)))) (tRet (tVar i)) tNext) tz)) D σ H := by
  refine sv_setP (P := NewLn H (iv (errOf B t))) (evp_call (ea_cons ha (ea_cons hb ea_nil)) fun H1 e Q k => ⟨o, B, t, rfl, hO.mono e, hG, fun v H2 e2 ⟨p, ev, h0, hp⟩ => k v H2 e2 ⟨p, ev, fresh_back e h0, hp⟩⟩) fun v H1 e1 h1 => ?_
  obtain ⟨p, rfl, hp0, hp⟩ := h1
  refine sv_when (b := decide (((iv (errOf B t)).length : Int) > 0)) (et_test (ev_op (ev_len1 (ev_var (hi _)) (sq_of hp)) ev_c rv_I0)) (fun hc => ?_) fun hc => ?_
  · have hne : errOf B t ≠ [] := fun e => by
      rw [e] at hc
      exact absurd hc (by decide)
    exact sv_ret (ev_var (hi _)) fun H2 e2 => k0 hne _ H2 (e0.trans (e1.trans e2)) ⟨p, rfl, fresh_back e0 hp0, e2 _ _ hp⟩
  · have he : errOf B t = [] := by
      have h2 := of_decide_eq_false hc
      unfold iv at h2
      rw [List.length_map] at h2
      exact List.length_eq_zero_iff.mp (by omega)
    exact k1 he _ H1 e1
/-- [0] + list(east) + list(north) -/
theorem evp_two {q r : Rat} {i : Int} {tl tm : TE} (hl : Ev te σ H (.int i)) (hq : EvP tl σ H (FracAt K q)) (hr : EvP tm σ H (FracAt K r)) :
    EvP (tOp rCat (tOp rCat (tLst (tCons te tNil)) (tCB (fun xs H Q => ∃ p ys, xs = [.ref p] ∧ (SqL K H p ys ∨ SqT K H p ys) ∧ ∀ l, H l = none → Q (.ref l) (upd H l (.lst ys))) (tCons tl tNil))) (tCB (fun xs H Q => ∃ p ys, xs = [.ref p] ∧ (SqL K H p ys ∨ SqT K H p ys) ∧ ∀ l, H l = none → Q (.ref l) (upd H l (.lst ys))) (tCons tm tNil))) σ H (NewLn H (iv (ansN (LsAns.tells i (TravSpec.spotNums (q, r)))))) :=
  evp_catN (evp_cat (evp_li (ea_cons hl ea_nil) (by show 1 ≤ 100000; decide)) (evp_list hq) (by show 1 + 2 ≤ 100000; decide)) (evp_list hr) (by show 3 + 2 ≤ 100000; decide)
theorem two_arg {as : List Nat} (h : as.length = 2) : ∃ a b, as = [a, b] := match as, h with
  | [a, b], _ => ⟨a, b, rfl⟩
theorem one_arg {as : List Nat} (h : as.length = 1) : ∃ a, as = [a] := match as, h with
  | [a], _ => ⟨a, rfl⟩
theorem three_arg {as : List Nat} (h : as.length = 3) : ∃ a b c, as = [a, b, c] := match as, h with
  | [a, b, c], _ => ⟨a, b, c, rfl⟩
theorem four_arg {as : List Nat} (h : as.length = 4) : ∃ a b c d, as = [a, b, c, d] := match as, h with
  | [a, b, c, d], _ => ⟨a, b, c, d, rfl⟩
def c1 (f : Nat → Call) (B : Book) : List Nat → LsAns.Ans
  | [a] => asks B (f a)
  | _ => LsAns.says 0
def c2 (f : Nat → Nat → Call) (B : Book) : List Nat → LsAns.Ans
  | [a, b] => asks B (f a b)
  | _ => LsAns.says 0
def c3 (f : Nat → Nat → Nat → Call) (B : Book) : List Nat → LsAns.Ans
  | [a, b, c] => asks B (f a b c)
  | _ => LsAns.says 0
def c4 (f : Nat → Nat → Nat → Nat → Call) (B : Book) : List Nat → LsAns.Ans
  | [a, b, c, d] => asks B (f a b c d)
  | _ => LsAns.says 0
/-- numbers[0] -/
theorem ev_n0 {nn : Addr} {t : Nat} {as : List Nat} (h : Ev ta σ H (.ref nn)) (hx : SqL K H nn (nv (t :: as))) : Ev (tOp (rIxL K) ta (tC (.int 0))) σ H (.int (t : Int)) := ev_ix h ev_c hx (show atI (nv (t :: as)) ((0 : Nat) : Int) = _ by rw [Trav.atI_nat]; rfl)
theorem sc_tell_miss : FnScope ["office", "numbers", "error", "run"] ["office", "numbers"] (defScope s_tell_miss) := ⟨rfl, rfl, rfl, by decide +kernel, rfl, by decide +kernel, by decide +kernel⟩
theorem ok_tell_miss (T : Txt K mg) : Def P w K mg base CX0 3 "tell_miss" ["office", "numbers"] (spAsk K 1 (c1 .miss)) := by
  refine T.def_ 88 74 rfl rfl rfl rfl rfl sc_tell_miss (fun _ _ _ _ _ _ us hl => match us, hl with | [_, _], _ => rfl) (fun vs H Q E h => by first | (obtain ⟨_, rfl, _⟩ := h; rfl) | (obtain ⟨_, _, rfl, _⟩ := h; rfl) | (obtain ⟨_, _, _, rfl, _⟩ := h; rfl) | (obtain ⟨_, _, _, _, rfl, _⟩ := h; rfl) | (obtain ⟨_, _, _, _, _, rfl, _⟩ := h; rfl) | (obtain ⟨_, _, _, _, _, _, rfl, _⟩ := h; rfl) | (obtain ⟨_, _, _, _, _, _, _, rfl, _⟩ := h; rfl) | (obtain ⟨_, _, _, _, _, _, _, _, rfl, _⟩ := h; rfl) | (obtain ⟨_, _, _, _, _, _, _, _, _, rfl, _⟩ := h; rfl) | (obtain ⟨_, _, _, _, _, _, _, _, _, _, rfl, _⟩ := h; rfl) | (obtain ⟨_, _, _, _, _, _, _, _, _, _, _, rfl, _⟩ := h; rfl) | (obtain ⟨_, _, _, _, _, _, _, _, _, _, _, _, rfl, _⟩ := h; rfl) | (obtain ⟨_, _, _, _, _, _, _, _, _, _, _, _, _, rfl, _⟩ := h; rfl) | (obtain ⟨_, _, _, _, _, _, _, _, _, _, _, _, _, _, rfl, _⟩ := h; rfl) | (obtain ⟨_, _, _, _, _, _, _, _, _, _, _, _, _, _, _, rfl, _⟩ := h; rfl) | (obtain ⟨_, _, _, _, _, _, _, _, _, _, _, _, _, _, _, _, rfl, _⟩ := h; rfl) | (obtain ⟨_, _, _, _, _, _, _, _, _, _, _, _, _, _, _, _, _, rfl, _⟩ := h; rfl) | (obtain ⟨_, _, _, _, _, _, _, _, _, _, _, _, _, _, _, _, _, _, rfl, _⟩ := h; rfl) | (obtain ⟨_, _, _, _, _, _, _, _, _, _, _, _, _, _, _, _, _, _, _, rfl, _⟩ := h; rfl)) (fun f cdv A outer s H vs Q E hr h => ⟨_, PSs.nox (pss_cons (ps_set (i := 2) sc_tell_miss.nd rfl (Or.inl rfl) (pe_cd (ok_arrived_error T) hr pass0 (pa_cons (pv 0) (pa_cons (pe_ix ix_list (pv 1) pe_int (fun _ _ => rfl)) pa_nil)))) (pss_cons (ps_if (pt_cmpR op_gt (pe_callB call_len (by rfl) (T.free 160 rfl) (by decide +kernel) (pa_cons (pv 2) pa_nil)) pe_int (nomark _)) (pss_one (ps_ret (pv 2))) pss_nil) (pss_cons (ps_set (i := 3) sc_tell_miss.nd rfl (Or.inl rfl) (pe_ix ix_list (pe_fld (pe_fld (pv 0) rfl) rfl) (pe_ix ix_list (pv 1) pe_int (fun _ _ => rfl)) (fun _ _ => rfl))) (pss_one (ps_ret (pe_op op_cat (pe_op op_cat (pe_lst (pa_cons pe_int pa_nil)) (pe_callTy call_list_of (by rfl) (T.free 161 rfl) (by decide +kernel) (pa_cons (pe_cd (ok_miss_of T) hr pass0 (pa_cons (pe_fld (pv 0) rfl) (pa_cons (pv 3) pa_nil))) pa_nil))) (pe_lst (pa_cons (pe_cd (ok_lengths_together T) hr pass0 (pa_cons (pv 3) pa_nil)) pa_nil)))))))), ?_⟩)
  obtain ⟨o, nn, B, as, rfl, hO, hG, hn, hl, k⟩ := h
  obtain ⟨t, rfl⟩ := one_arg hl
  refine Sv.go (sv_err hO hG (ev_var rfl) (ev_n0 (ev_var rfl) hn) (fun v => rfl) (Ex.refl _) (fun h0 => ?_) fun h0 v H1 e1 => ?_)
  · rcases err_cases hG t with ⟨_, h⟩ | ⟨h, _⟩
    · show Ret (NewLn H (iv (errOf B t))) H Q
      rw [← h fun r a b => LsAns.tells 0 [(LsRun.miss a b r.legs).1, (LsRun.miss a b r.legs).2, (LsRun.total r.legs : Int)]]
      exact k
    · exact absurd h h0
  · rcases err_cases hG t with ⟨h, _⟩ | ⟨_, r, a, b, hr, hc, ha, hb, sa, sb, hf⟩
    · exact absurd h0 h
    have hsr := (hG.rs r (List.mem_of_getElem? hr)).1
    obtain ⟨v1, hv1, hR⟩ := ev_run T (hO.mono e1) (ta := tVar 0) (tb := tOp (rIxL K) (tVar 1) (tC (.int 0))) (σ := [some (.ref o), some (.ref nn), some v, none]) (ev_var rfl) (ev_n0 (ev_var rfl) (ex_l e1 hn)) hr
    refine sv_set hv1 ?_
    obtain ⟨dx, bb, h1, hB⟩ := hO.mono e1
    have k : Ret (NewLn H (iv (ansN (TravSpec.ofClosed B t fun r a b => LsAns.tells 0 [(LsRun.miss a b r.legs).1, (LsRun.miss a b r.legs).2, (LsRun.total r.legs : Int)])))) H Q := k
    rw [hf] at k
    refine sv_retP (evp_catN (evp_cat (evp_li (ea_cons ev_c ea_nil) (by show 1 ≤ 100000; decide)) (evp_list (evp_call (P := TpI K (LsRun.miss a b r.legs)) (ea_cons (ev_off T (ev_var rfl) h1) (ea_cons (ev_var rfl) ea_nil)) fun H2 e Q k => ⟨_, v1, r, a, b, rfl, stay_RunAt _ _ _ _ e hR, hsr, (knAt_of hB ha).mono e, (knAt_of hB hb).mono e, k⟩)) (by show 1 + 2 ≤ 100000; decide))
      (evp_li (ea_cons (ev_callV (z := .int (LsRun.total r.legs : Int)) (ea_cons (ev_var rfl) ea_nil) fun H2 e Q k => ⟨v1, r, rfl, stay_RunAt _ _ _ _ e hR, hsr, k⟩) ea_nil) (by show 1 ≤ 100000; decide)) (by show 3 + 1 ≤ 100000; decide)) fun v2 H2 e2 h2 => k v2 H2 (e1.trans e2) ?_
    obtain ⟨p, ev, h0, hp⟩ := h2
    exact ⟨p, ev, fresh_back e1 h0, hp⟩
end
end Trav
namespace Trav
open LsRun (Leg Spot)
open LsGeo (Pt)
open RunBook (Book knownAt numberMay mayReach)
open TravSpec (Call asks step)
section
variable {P : Program} {w : World} {K : PySem.W.Frag} {mg : Str → Option Value} {base : Heap} {σ : L2.St} {H : Hp} {ta tb tc te : TE} {D : Ends} {tz tu : TS} {x y z u v : V}
theorem NewLn.back {H0 H1 H : Hp} {xs : List V} {v : V} (h : NewLn H1 xs v H) (e : Ex H0 H1) : NewLn H0 xs v H := let ⟨p, ev, h0, hp⟩ := h; ⟨p, ev, fresh_back e h0, hp⟩
theorem evp_runs_ok {B : Book} (hG : Good B) {t : Nat} {r : RunBook.Run} (hr : B.runs[t]? = some r) : SmR r := (hG.rs r (List.mem_of_getElem? hr)).1
theorem et_pt {n : Nat} {E : XK} (h : Ev ta σ H (.int (n : Int))) : EvT (tNot (tTest (tCall spPoint [] E (tCons ta tNil)))) σ H (!numberMay n) := et_not (et_test (ev_callV (ea_cons h ea_nil) fun _ _ _ k => ⟨n, rfl, k⟩))
theorem et_arr {v : V} {r : RunBook.Run} {E : XK} (h : Ev ta σ H v) (hR : RunAt K r v H) (hs : SmR r) : EvT (tNot (tTest (tCall (spArrived K) [] E (tCons ta tNil)))) σ H (!r.closed) := et_not (et_test (ev_callV (ea_cons h ea_nil) fun H1 e Q k => ⟨v, r, rfl, stay_RunAt _ _ _ _ e hR, hs.n, k⟩))
theorem sc_tell_point : FnScope ["office", "numbers", "number", "point", "run", "east", "north"] ["office", "numbers"] (defScope s_tell_point) := ⟨rfl, rfl, rfl, by decide +kernel, rfl, by decide +kernel, by decide +kernel⟩
theorem ok_tell_point (T : Txt K mg) : Def P w K mg base CX0 5 "tell_point" ["office", "numbers"] (spAsk K 2 (c2 .point)) := by
  refine T.def_ 89 75 rfl rfl rfl rfl rfl sc_tell_point (fun _ _ _ _ _ _ us hl => match us, hl with | [_, _], _ => rfl) (fun vs H Q E h => by first | (obtain ⟨_, rfl, _⟩ := h; rfl) | (obtain ⟨_, _, rfl, _⟩ := h; rfl) | (obtain ⟨_, _, _, rfl, _⟩ := h; rfl) | (obtain ⟨_, _, _, _, rfl, _⟩ := h; rfl) | (obtain ⟨_, _, _, _, _, rfl, _⟩ := h; rfl) | (obtain ⟨_, _, _, _, _, _, rfl, _⟩ := h; rfl) | (obtain ⟨_, _, _, _, _, _, _, rfl, _⟩ := h; rfl) | (obtain ⟨_, _, _, _, _, _, _, _, rfl, _⟩ := h; rfl) | (obtain ⟨_, _, _, _, _, _, _, _, _, rfl, _⟩ := h; rfl) | (obtain ⟨_, _, _, _, _, _, _, _, _, _, rfl, _⟩ := h; rfl) | (obtain ⟨_, _, _, _, _, _, _, _, _, _, _, rfl, _⟩ := h; rfl) | (obtain ⟨_, _, _, _, _, _, _, _, _, _, _, _, rfl, _⟩ := h; rfl) | (obtain ⟨_, _, _, _, _, _, _, _, _, _, _, _, _, rfl, _⟩ := h; rfl) | (obtain ⟨_, _, _, _, _, _, _, _, _, _, _, _, _, _, rfl, _⟩ := h; rfl) | (obtain ⟨_, _, _, _, _, _, _, _, _, _, _, _, _, _, _, rfl, _⟩ := h; rfl) | (obtain ⟨_, _, _, _, _, _, _, _, _, _, _, _, _, _, _, _, rfl, _⟩ := h; rfl) | (obtain ⟨_, _, _, _, _, _, _, _, _, _, _, _, _, _, _, _, _, rfl, _⟩ := h; rfl) | (obtain ⟨_, _, _, _, _, _, _, _, _, _, _, _, _, _, _, _, _, _, rfl, _⟩ := h; rfl) | (obtain ⟨_, _, _, _, _, _, _, _, _, _, _, _, _, _, _, _, _, _, _, rfl, _⟩ := h; rfl)) (fun f cdv A outer s H vs Q E hr h => ⟨_, PSs.nox (pss_cons (ps_asg (pv 1) (pg_unl rfl (pgs_cons (pg_name (i := 2) sc_tell_point.nd rfl (Or.inl rfl)) (pgs_cons (pg_name (i := 3) sc_tell_point.nd rfl (Or.inl rfl)) pgs_nil)))) (pss_cons (ps_if (pt_not (pt_val (pe_cd (ok_is_point T) hr pass0 (pa_cons (pv 3) pa_nil)))) (pss_one (ps_ret (pe_lst (pa_cons (pe_gi (T.int 148 rfl)) pa_nil)))) pss_nil) (pss_cons (ps_if (pt_not (pt_val (pe_cd (ok_has_point T) hr pass0 (pa_cons (pv 0) (pa_cons (pv 2) (pa_cons (pv 3) pa_nil)))))) (pss_one (ps_ret (pe_lst (pa_cons (pe_gi (T.int 150 rfl)) pa_nil)))) pss_nil) (pss_cons (ps_set (i := 4) sc_tell_point.nd rfl (Or.inl rfl) (pe_ix ix_list (pe_fld (pe_fld (pv 0) rfl) rfl) (pv 2) (fun _ _ => rfl))) (pss_cons (ps_if (pt_not (pt_val (pe_cd (ok_has_arrived T) hr pass0 (pa_cons (pv 4) pa_nil)))) (pss_one (ps_ret (pe_lst (pa_cons (pe_gi (T.int 151 rfl)) pa_nil)))) pss_nil) (pss_cons (ps_asg (pe_cd (ok_place_by T) hr pass0 (pa_cons (pe_fld (pv 0) rfl) (pa_cons (pv 4) (pa_cons (pv 3) pa_nil)))) (pg_tup rfl (pgs_cons (pg_name (i := 5) sc_tell_point.nd rfl (Or.inl rfl)) (pgs_cons (pg_name (i := 6) sc_tell_point.nd rfl (Or.inl rfl)) pgs_nil)))) (pss_one (ps_ret (pe_op op_cat (pe_op op_cat (pe_lst (pa_cons pe_int pa_nil)) (pe_callTy call_list_of (by rfl) (T.free 161 rfl) (by decide +kernel) (pa_cons (pv 5) pa_nil))) (pe_callTy call_list_of (by rfl) (T.free 161 rfl) (by decide +kernel) (pa_cons (pv 6) pa_nil))))))))))), ?_⟩)
  obtain ⟨o, nn, B, as, rfl, hO, hG, hn, hl, k⟩ := h
  obtain ⟨t, n, rfl⟩ := two_arg hl
  refine Sv.go (sv_unl2 (ev_var rfl) hn ?_)
  have k : Ret (NewLn H (iv (ansN (asks B (.point t n))))) H Q := k
  refine sv_when (b := !numberMay n) (et_pt (ev_var rfl)) (fun hc => ?_) fun hc => ?_
  · have hc : numberMay n = false := by simpa using hc
    refine sv_no ev_c (Ex.refl _) ?_ k
    have e : asks B (.point t n) = LsAns.says (-1) := if_pos hc
    rw [e]
    rfl
  have hc : ¬ numberMay n = false := by simpa using hc
  have ea : asks B (.point t n) = TravSpec.ofRun B t fun r => if (TravSpec.placeNo r n).isNone = true then LsAns.says (-4) else match TravSpec.placeBy B r n with
    | none => LsAns.says (-5)
    | some q => LsAns.tells 0 (TravSpec.spotNums q) := by
    exact if_neg hc
  rw [ea] at k
  unfold TravSpec.ofRun at k
  refine sv_when (b := !((B.runs[t]?).any fun r => (TravSpec.placeNo r n).isSome)) (et_not (et_test (ev_callV (ea_cons (ev_var rfl) (ea_cons (ev_var rfl) (ea_cons (ev_var rfl) ea_nil))) fun H1 e Q k => ⟨o, B, t, n, rfl, hO.mono e, hG, k⟩))) (fun hc => ?_) fun hc => ?_
  · refine sv_no ev_c (Ex.refl _) ?_ k
    cases hr : B.runs[t]? with
    | none => rfl
    | some r =>
      rw [hr] at hc
      have hc : (TravSpec.placeNo r n).isSome = false := by simpa using hc
      simp only
      rw [if_pos (by rw [Option.isNone_iff_eq_none]; simpa using hc)]
      rfl
  obtain ⟨r, hr, hp⟩ : ∃ r, B.runs[t]? = some r ∧ (TravSpec.placeNo r n).isSome = true := by
    cases hr : B.runs[t]? with
    | none => rw [hr] at hc; exact absurd (show true = false from hc) (by decide)
    | some r => rw [hr] at hc; exact ⟨r, rfl, by simpa using hc⟩
  obtain ⟨i, hi⟩ := Option.isSome_iff_exists.mp hp
  have hsr := evp_runs_ok hG hr
  rw [hr] at k
  simp only at k
  rw [if_neg (by rw [hi]; exact Bool.false_ne_true)] at k
  obtain ⟨a, b, ha, hb, sa, sb, hpb⟩ := placeBy_of (n := n) hG (List.mem_of_getElem? hr)
  obtain ⟨v1, hv1, hR⟩ := ev_run T hO (ta := tVar 0) (tb := tVar 2) (σ := [some (.ref o), some (.ref nn), some (.int (t : Int)), some (.int (n : Int)), none, none, none]) (ev_var rfl) (ev_var rfl) hr
  refine sv_set hv1 ?_
  refine sv_when (b := !r.closed) (et_arr (ev_var rfl) hR hsr) (fun hc => ?_) fun hc => ?_
  · refine sv_no ev_c (Ex.refl _) ?_ k
    rw [hpb, if_neg (by simpa using hc)]
    rfl
  have hc : r.closed = true := by simpa using hc
  rw [hpb, if_pos hc, hi] at k
  obtain ⟨dx, bb, h1, hB⟩ := id hO
  refine sv_unpE2 (evp_call (P := TpE K [FracAt K (spotBy a b r.legs i).1, FracAt K (spotBy a b r.legs i).2]) (ea_cons (ev_off T (ev_var rfl) h1) (ea_cons (ev_var rfl) (ea_cons (ev_var rfl) ea_nil))) fun H2 e Q k => ⟨_, v1, n, r, a, b, i, rfl, stay_RunAt _ _ _ _ e hR, hsr, (knAt_of hB ha).mono e, (knAt_of hB hb).mono e, sa, sb, closed_pos hc, hi, fun v H4 e4 h4 => k v H4 e4 (tpE_of h4)⟩) fun x y H2 e2 hx hy => ?_
  exact sv_retP (evp_two ev_c (evp_of (ev_var rfl) fun H3 e3 => stay_FracAt _ _ _ _ e3 hx) (evp_of (ev_var rfl) fun H3 e3 => stay_FracAt _ _ _ _ e3 hy)) fun v H3 e3 h3 => k v H3 (e2.trans e3) (h3.back e2)
theorem sc_tell_part : FnScope ["office", "numbers", "number", "leg", "run", "east", "north"] ["office", "numbers"] (defScope s_tell_part) := ⟨rfl, rfl, rfl, by decide +kernel, rfl, by decide +kernel, by decide +kernel⟩
theorem ok_tell_part (T : Txt K mg) : Def P w K mg base CX0 4 "tell_part" ["office", "numbers"] (spAsk K 2 (c2 .part)) := by
  refine T.def_ 90 76 rfl rfl rfl rfl rfl sc_tell_part (fun _ _ _ _ _ _ us hl => match us, hl with | [_, _], _ => rfl) (fun vs H Q E h => by first | (obtain ⟨_, rfl, _⟩ := h; rfl) | (obtain ⟨_, _, rfl, _⟩ := h; rfl) | (obtain ⟨_, _, _, rfl, _⟩ := h; rfl) | (obtain ⟨_, _, _, _, rfl, _⟩ := h; rfl) | (obtain ⟨_, _, _, _, _, rfl, _⟩ := h; rfl) | (obtain ⟨_, _, _, _, _, _, rfl, _⟩ := h; rfl) | (obtain ⟨_, _, _, _, _, _, _, rfl, _⟩ := h; rfl) | (obtain ⟨_, _, _, _, _, _, _, _, rfl, _⟩ := h; rfl) | (obtain ⟨_, _, _, _, _, _, _, _, _, rfl, _⟩ := h; rfl) | (obtain ⟨_, _, _, _, _, _, _, _, _, _, rfl, _⟩ := h; rfl) | (obtain ⟨_, _, _, _, _, _, _, _, _, _, _, rfl, _⟩ := h; rfl) | (obtain ⟨_, _, _, _, _, _, _, _, _, _, _, _, rfl, _⟩ := h; rfl) | (obtain ⟨_, _, _, _, _, _, _, _, _, _, _, _, _, rfl, _⟩ := h; rfl) | (obtain ⟨_, _, _, _, _, _, _, _, _, _, _, _, _, _, rfl, _⟩ := h; rfl) | (obtain ⟨_, _, _, _, _, _, _, _, _, _, _, _, _, _, _, rfl, _⟩ := h; rfl) | (obtain ⟨_, _, _, _, _, _, _, _, _, _, _, _, _, _, _, _, rfl, _⟩ := h; rfl) | (obtain ⟨_, _, _, _, _, _, _, _, _, _, _, _, _, _, _, _, _, rfl, _⟩ := h; rfl) | (obtain ⟨_, _, _, _, _, _, _, _, _, _, _, _, _, _, _, _, _, _, rfl, _⟩ := h; rfl) | (obtain ⟨_, _, _, _, _, _, _, _, _, _, _, _, _, _, _, _, _, _, _, rfl, _⟩ := h; rfl)) (fun f cdv A outer s H vs Q E hr h => ⟨_, PSs.nox (pss_cons (ps_asg (pv 1) (pg_unl rfl (pgs_cons (pg_name (i := 2) sc_tell_part.nd rfl (Or.inl rfl)) (pgs_cons (pg_name (i := 3) sc_tell_part.nd rfl (Or.inl rfl)) pgs_nil)))) (pss_cons (ps_if (pt_not (pt_val (pe_cd (ok_has_leg T) hr pass0 (pa_cons (pv 0) (pa_cons (pv 2) (pa_cons (pv 3) pa_nil)))))) (pss_one (ps_ret (pe_lst (pa_cons (pe_gi (T.int 150 rfl)) pa_nil)))) pss_nil) (pss_cons (ps_set (i := 4) sc_tell_part.nd rfl (Or.inl rfl) (pe_ix ix_list (pe_fld (pe_fld (pv 0) rfl) rfl) (pv 2) (fun _ _ => rfl))) (pss_cons (ps_if (pt_not (pt_val (pe_cd (ok_has_arrived T) hr pass0 (pa_cons (pv 4) pa_nil)))) (pss_one (ps_ret (pe_lst (pa_cons (pe_gi (T.int 151 rfl)) pa_nil)))) pss_nil) (pss_cons (ps_asg (pe_cd (ok_leg_shared T) hr pass0 (pa_cons (pe_fld (pv 0) rfl) (pa_cons (pv 4) (pa_cons (pv 3) pa_nil)))) (pg_tup rfl (pgs_cons (pg_name (i := 5) sc_tell_part.nd rfl (Or.inl rfl)) (pgs_cons (pg_name (i := 6) sc_tell_part.nd rfl (Or.inl rfl)) pgs_nil)))) (pss_one (ps_ret (pe_op op_cat (pe_op op_cat (pe_lst (pa_cons pe_int pa_nil)) (pe_callTy call_list_of (by rfl) (T.free 161 rfl) (by decide +kernel) (pa_cons (pv 5) pa_nil))) (pe_callTy call_list_of (by rfl) (T.free 161 rfl) (by decide +kernel) (pa_cons (pv 6) pa_nil)))))))))), ?_⟩)
  obtain ⟨o, nn, B, as, rfl, hO, hG, hn, hl, k⟩ := h
  obtain ⟨t, i, rfl⟩ := two_arg hl
  refine Sv.go (sv_unl2 (ev_var rfl) hn ?_)
  have k : Ret (NewLn H (iv (ansN (asks B (.part t i))))) H Q := k
  have ea : asks B (.part t i) = TravSpec.ofRun B t fun r => if r.legs.length ≤ i then LsAns.says (-4) else match TravSpec.endsOf B r with
    | none => LsAns.says (-5)
    | some (a, b) => LsAns.tells 0 (TravSpec.spotNums ((LsRun.legsOf a b r.legs).getD i (0, 0))) := rfl
  rw [ea] at k
  unfold TravSpec.ofRun at k
  refine sv_when (b := !((B.runs[t]?).any fun r => decide (i < r.legs.length))) (et_not (et_test (ev_callV (ea_cons (ev_var rfl) (ea_cons (ev_var rfl) (ea_cons (ev_var rfl) ea_nil))) fun H1 e Q k => ⟨o, B, t, i, rfl, hO.mono e, k⟩))) (fun hc => ?_) fun hc => ?_
  · refine sv_no ev_c (Ex.refl _) ?_ k
    cases hr : B.runs[t]? with
    | none => rfl
    | some r =>
      rw [hr] at hc
      have hc : ¬ i < r.legs.length := by simpa using hc
      simp only
      rw [if_pos (by omega)]
      rfl
  obtain ⟨r, hr, hp⟩ : ∃ r, B.runs[t]? = some r ∧ i < r.legs.length := by
    cases hr : B.runs[t]? with
    | none => rw [hr] at hc; exact absurd (show true = false from hc) (by decide)
    | some r => rw [hr] at hc; exact ⟨r, rfl, by simpa using hc⟩
  obtain ⟨g, hg⟩ : ∃ g, r.legs[i]? = some g := ⟨_, List.getElem?_eq_getElem hp⟩
  have hsr := evp_runs_ok hG hr
  rw [hr] at k
  simp only at k
  rw [if_neg (by omega)] at k
  obtain ⟨a, b, ha, hb, sa, sb, he⟩ := ends_of hG (List.mem_of_getElem? hr)
  obtain ⟨v1, hv1, hR⟩ := ev_run T hO (ta := tVar 0) (tb := tVar 2) (σ := [some (.ref o), some (.ref nn), some (.int (t : Int)), some (.int (i : Int)), none, none, none]) (ev_var rfl) (ev_var rfl) hr
  refine sv_set hv1 ?_
  refine sv_when (b := !r.closed) (et_arr (ev_var rfl) hR hsr) (fun hc => ?_) fun hc => ?_
  · refine sv_no ev_c (Ex.refl _) ?_ k
    rw [he, if_neg (by simpa using hc)]
    rfl
  have hc : r.closed = true := by simpa using hc
  rw [he, if_pos hc] at k
  simp only at k
  rw [legs_at (total_pos hsr (closed_pos hc)) hg] at k
  obtain ⟨dx, bb, h1, hB⟩ := id hO
  refine sv_unpE2 (evp_call (P := TpE K [FracAt K (spotI (LsRun.total r.legs) (shI (LsRun.miss a b r.legs) (LsRun.total r.legs) g)).1, FracAt K (spotI (LsRun.total r.legs) (shI (LsRun.miss a b r.legs) (LsRun.total r.legs) g)).2]) (ea_cons (ev_off T (ev_var rfl) h1) (ea_cons (ev_var rfl) (ea_cons (ev_var rfl) ea_nil))) fun H2 e Q k => ⟨_, v1, i, g, r, a, b, rfl, stay_RunAt _ _ _ _ e hR, hsr, (knAt_of hB ha).mono e, (knAt_of hB hb).mono e, sa, sb, hg, fun v H4 e4 h4 => k v H4 e4 (tpE_of h4)⟩) fun x y H2 e2 hx hy => ?_
  exact sv_retP (evp_two ev_c (evp_of (ev_var rfl) fun H3 e3 => stay_FracAt _ _ _ _ e3 hx) (evp_of (ev_var rfl) fun H3 e3 => stay_FracAt _ _ _ _ e3 hy)) fun v H3 e3 h3 => k v H3 (e2.trans e3) (h3.back e2)
end
end Trav
namespace Trav
open LsRun (Leg Spot)
open LsGeo (Pt)
open RunBook (Book knownAt numberMay mayReach)
open TravSpec (Call asks step)
theorem sq_zero {m : Int × Int} : LsRun.square m = 0 ↔ m = (0, 0) := by
  obtain ⟨a, b⟩ := m
  unfold LsRun.square
  simp only
  have h1 := sqn a
  have h2 := sqn b
  constructor
  · intro h
    have ha : a * a = 0 := by omega
    have hb : b * b = 0 := by omega
    have ha0 : a = 0 := by rcases Int.mul_eq_zero.mp ha with h | h <;> exact h
    have hb0 : b = 0 := by rcases Int.mul_eq_zero.mp hb with h | h <;> exact h
    rw [ha0, hb0]
  · intro h
    have ha : a = 0 := congrArg Prod.fst h
    have hb : b = 0 := congrArg Prod.snd h
    rw [ha, hb]
    rfl
theorem sq_small {m : Int × Int} (h : SmM m) : 0 ≤ LsRun.square m ∧ LsRun.square m ≤ 23120000000000 := by
  have key : ∀ x : Int, x.natAbs ≤ 3400000 → 0 ≤ x * x ∧ x * x ≤ 11560000000000 := by
    intro x hx
    have h1 : x * x = ((x.natAbs * x.natAbs : Nat) : Int) := by rw [Int.natCast_mul, Int.natAbs_mul_self']
    have h2 : x.natAbs * x.natAbs ≤ 3400000 * 3400000 := Nat.mul_le_mul hx hx
    omega
  have h1 := key _ h.x
  have h2 := key _ h.y
  unfold LsRun.square
  omega
section
variable {P : Program} {w : World} {K : PySem.W.Frag} {mg : Str → Option Value} {base : Heap} {σ : L2.St} {H : Hp} {ta tb tc te : TE} {D : Ends} {tz tu : TS} {x y z u v : V}
theorem sc_tell_ratio : FnScope ["office", "numbers", "error", "run", "missed"] ["office", "numbers"] (defScope s_tell_ratio) := ⟨rfl, rfl, rfl, by decide +kernel, rfl, by decide +kernel, by decide +kernel⟩
theorem ok_tell_ratio (T : Txt K mg) : Def P w K mg base CX0 3 "tell_ratio" ["office", "numbers"] (spAsk K 1 (c1 .ratio)) := by
  refine T.def_ 91 77 rfl rfl rfl rfl rfl sc_tell_ratio (fun _ _ _ _ _ _ us hl => match us, hl with | [_, _], _ => rfl) (fun vs H Q E h => by first | (obtain ⟨_, rfl, _⟩ := h; rfl) | (obtain ⟨_, _, rfl, _⟩ := h; rfl) | (obtain ⟨_, _, _, rfl, _⟩ := h; rfl) | (obtain ⟨_, _, _, _, rfl, _⟩ := h; rfl) | (obtain ⟨_, _, _, _, _, rfl, _⟩ := h; rfl) | (obtain ⟨_, _, _, _, _, _, rfl, _⟩ := h; rfl) | (obtain ⟨_, _, _, _, _, _, _, rfl, _⟩ := h; rfl) | (obtain ⟨_, _, _, _, _, _, _, _, rfl, _⟩ := h; rfl) | (obtain ⟨_, _, _, _, _, _, _, _, _, rfl, _⟩ := h; rfl) | (obtain ⟨_, _, _, _, _, _, _, _, _, _, rfl, _⟩ := h; rfl) | (obtain ⟨_, _, _, _, _, _, _, _, _, _, _, rfl, _⟩ := h; rfl) | (obtain ⟨_, _, _, _, _, _, _, _, _, _, _, _, rfl, _⟩ := h; rfl) | (obtain ⟨_, _, _, _, _, _, _, _, _, _, _, _, _, rfl, _⟩ := h; rfl) | (obtain ⟨_, _, _, _, _, _, _, _, _, _, _, _, _, _, rfl, _⟩ := h; rfl) | (obtain ⟨_, _, _, _, _, _, _, _, _, _, _, _, _, _, _, rfl, _⟩ := h; rfl) | (obtain ⟨_, _, _, _, _, _, _, _, _, _, _, _, _, _, _, _, rfl, _⟩ := h; rfl) | (obtain ⟨_, _, _, _, _, _, _, _, _, _, _, _, _, _, _, _, _, rfl, _⟩ := h; rfl) | (obtain ⟨_, _, _, _, _, _, _, _, _, _, _, _, _, _, _, _, _, _, rfl, _⟩ := h; rfl) | (obtain ⟨_, _, _, _, _, _, _, _, _, _, _, _, _, _, _, _, _, _, _, rfl, _⟩ := h; rfl)) (fun f cdv A outer s H vs Q E hr h => ⟨_, PSs.nox (pss_cons (ps_set (i := 2) sc_tell_ratio.nd rfl (Or.inl rfl) (pe_cd (ok_arrived_error T) hr pass0 (pa_cons (pv 0) (pa_cons (pe_ix ix_list (pv 1) pe_int (fun _ _ => rfl)) pa_nil)))) (pss_cons (ps_if (pt_cmpR op_gt (pe_callB call_len (by rfl) (T.free 160 rfl) (by decide +kernel) (pa_cons (pv 2) pa_nil)) pe_int (nomark _)) (pss_one (ps_ret (pv 2))) pss_nil) (pss_cons (ps_set (i := 3) sc_tell_ratio.nd rfl (Or.inl rfl) (pe_ix ix_list (pe_fld (pe_fld (pv 0) rfl) rfl) (pe_ix ix_list (pv 1) pe_int (fun _ _ => rfl)) (fun _ _ => rfl))) (pss_cons (ps_set (i := 4) sc_tell_ratio.nd rfl (Or.inl rfl) (pe_cd (ok_square T) hr pass0 (pa_cons (pe_cd (ok_miss_of T) hr pass0 (pa_cons (pe_fld (pv 0) rfl) (pa_cons (pv 3) pa_nil))) pa_nil))) (pss_cons (ps_if (pt_cmpR op_eq (pv 4) pe_int (nomark _)) (pss_one (ps_ret (pe_lst (pa_cons pe_int (pa_cons pe_int pa_nil))))) pss_nil) (pss_one (ps_ret (pe_lst (pa_cons (pe_cd (ok_greatest_ratio T) hr pass0 (pa_cons (pe_cd (ok_lengths_together T) hr pass0 (pa_cons (pv 3) pa_nil)) (pa_cons (pv 4) pa_nil))) (pa_cons (pv 4) pa_nil)))))))))), ?_⟩)
  obtain ⟨o, nn, B, as, rfl, hO, hG, hn, hl, k⟩ := h
  obtain ⟨t, rfl⟩ := one_arg hl
  have k : Ret (NewLn H (iv (ansN (TravSpec.ofClosed B t fun r a b => LsAns.tells (LsRun.oneIn (LsRun.miss a b r.legs) (LsRun.total r.legs) : Nat) [LsRun.square (LsRun.miss a b r.legs)])))) H Q := k
  refine Sv.go (sv_err hO hG (ev_var rfl) (ev_n0 (ev_var rfl) hn) (fun v => rfl) (Ex.refl _) (fun h0 => ?_) fun h0 v H1 e1 => ?_)
  · rcases err_cases hG t with ⟨_, h⟩ | ⟨h, _⟩
    · rw [h] at k
      exact k
    · exact absurd h h0
  rcases err_cases hG t with ⟨h, _⟩ | ⟨_, r, a, b, hr, hc, ha, hb, sa, sb, hf⟩
  · exact absurd h0 h
  rw [hf] at k
  have hsr := (hG.rs r (List.mem_of_getElem? hr)).1
  have hsm := smM sa sb hsr
  obtain ⟨q0, q1⟩ := sq_small hsm
  have ht := total_le24 hsr
  obtain ⟨v1, hv1, hR⟩ := ev_run T (hO.mono e1) (ta := tVar 0) (tb := tOp (rIxL K) (tVar 1) (tC (.int 0))) (σ := [some (.ref o), some (.ref nn), some v, none, none]) (ev_var rfl) (ev_n0 (ev_var rfl) (ex_l e1 hn)) hr
  refine sv_set hv1 ?_
  obtain ⟨dx, bb, h1, hB⟩ := hO.mono e1
  refine sv_set (v := .int (LsRun.square (LsRun.miss a b r.legs))) (ev_sqP (m := LsRun.miss a b r.legs) (evp_call (ea_cons (ev_off T (ev_var rfl) h1) (ea_cons (ev_var rfl) ea_nil)) fun H2 e Q k => ⟨_, v1, r, a, b, rfl, stay_RunAt _ _ _ _ e hR, hsr, (knAt_of hB ha).mono e, (knAt_of hB hb).mono e, k⟩) ⟨by have := hsm.x; omega, by have := hsm.y; omega⟩) ?_
  unfold LsRun.oneIn at k
  generalize LsRun.square (LsRun.miss a b r.legs) = q at q0 q1 k
  refine sv_when (b := decide (q = 0)) (et_test (ev_eqI (ev_var rfl) ev_c)) (fun hq => ?_) fun hq => ?_
  · have hq := of_decide_eq_true hq
    subst hq
    rw [if_pos rfl] at k
    exact sv_retI (l := [0, 0]) (ea_cons ev_c (ea_cons ev_c ea_nil)) (by show 2 ≤ 100000; decide) e1 k
  · have hq := of_decide_eq_false hq
    rw [if_neg hq] at k
    obtain ⟨n, rfl⟩ : ∃ n : Nat, q = (n : Int) := ⟨q.toNat, by omega⟩
    rw [Int.toNat_natCast] at k
    exact sv_retI (l := [(LsRun.rootOf n (LsRun.total r.legs * LsRun.total r.legs) : Int), (n : Int)]) (ea_cons (ev_callV (z := .int (LsRun.rootOf n (LsRun.total r.legs * LsRun.total r.legs) : Int)) (ea_cons (ev_callV (z := .int (LsRun.total r.legs : Int)) (ea_cons (ev_var rfl) ea_nil) fun H2 e Q k => ⟨v1, r, rfl, stay_RunAt _ _ _ _ e hR, hsr, k⟩) (ea_cons (ev_var rfl) ea_nil)) fun H2 e Q k => ⟨_, n, rfl, by omega, by omega, by omega, k⟩) (ea_cons (ev_var rfl) ea_nil)) (by show 2 ≤ 100000; decide) e1 k
theorem sc_tell_area : FnScope ["office", "numbers", "error", "run"] ["office", "numbers"] (defScope s_tell_area) := ⟨rfl, rfl, rfl, by decide +kernel, rfl, by decide +kernel, by decide +kernel⟩
theorem ok_tell_area (T : Txt K mg) : Def P w K mg base CX0 5 "tell_area" ["office", "numbers"] (spAsk K 1 (c1 .area)) := by
  refine T.def_ 92 78 rfl rfl rfl rfl rfl sc_tell_area (fun _ _ _ _ _ _ us hl => match us, hl with | [_, _], _ => rfl) (fun vs H Q E h => by first | (obtain ⟨_, rfl, _⟩ := h; rfl) | (obtain ⟨_, _, rfl, _⟩ := h; rfl) | (obtain ⟨_, _, _, rfl, _⟩ := h; rfl) | (obtain ⟨_, _, _, _, rfl, _⟩ := h; rfl) | (obtain ⟨_, _, _, _, _, rfl, _⟩ := h; rfl) | (obtain ⟨_, _, _, _, _, _, rfl, _⟩ := h; rfl) | (obtain ⟨_, _, _, _, _, _, _, rfl, _⟩ := h; rfl) | (obtain ⟨_, _, _, _, _, _, _, _, rfl, _⟩ := h; rfl) | (obtain ⟨_, _, _, _, _, _, _, _, _, rfl, _⟩ := h; rfl) | (obtain ⟨_, _, _, _, _, _, _, _, _, _, rfl, _⟩ := h; rfl) | (obtain ⟨_, _, _, _, _, _, _, _, _, _, _, rfl, _⟩ := h; rfl) | (obtain ⟨_, _, _, _, _, _, _, _, _, _, _, _, rfl, _⟩ := h; rfl) | (obtain ⟨_, _, _, _, _, _, _, _, _, _, _, _, _, rfl, _⟩ := h; rfl) | (obtain ⟨_, _, _, _, _, _, _, _, _, _, _, _, _, _, rfl, _⟩ := h; rfl) | (obtain ⟨_, _, _, _, _, _, _, _, _, _, _, _, _, _, _, rfl, _⟩ := h; rfl) | (obtain ⟨_, _, _, _, _, _, _, _, _, _, _, _, _, _, _, _, rfl, _⟩ := h; rfl) | (obtain ⟨_, _, _, _, _, _, _, _, _, _, _, _, _, _, _, _, _, rfl, _⟩ := h; rfl) | (obtain ⟨_, _, _, _, _, _, _, _, _, _, _, _, _, _, _, _, _, _, rfl, _⟩ := h; rfl) | (obtain ⟨_, _, _, _, _, _, _, _, _, _, _, _, _, _, _, _, _, _, _, rfl, _⟩ := h; rfl)) (fun f cdv A outer s H vs Q E hr h => ⟨_, PSs.nox (pss_cons (ps_set (i := 2) sc_tell_area.nd rfl (Or.inl rfl) (pe_cd (ok_arrived_error T) hr pass0 (pa_cons (pv 0) (pa_cons (pe_ix ix_list (pv 1) pe_int (fun _ _ => rfl)) pa_nil)))) (pss_cons (ps_if (pt_cmpR op_gt (pe_callB call_len (by rfl) (T.free 160 rfl) (by decide +kernel) (pa_cons (pv 2) pa_nil)) pe_int (nomark _)) (pss_one (ps_ret (pv 2))) pss_nil) (pss_cons (ps_set (i := 3) sc_tell_area.nd rfl (Or.inl rfl) (pe_ix ix_list (pe_fld (pe_fld (pv 0) rfl) rfl) (pe_ix ix_list (pv 1) pe_int (fun _ _ => rfl)) (fun _ _ => rfl))) (pss_cons (ps_if (pt_cmpR op_ne (pe_fld (pv 3) rfl) (pe_fld (pv 3) rfl) (nomark _)) (pss_one (ps_ret (pe_lst (pa_cons (pe_gi (T.int 151 rfl)) pa_nil)))) pss_nil) (pss_one (ps_ret (pe_op op_cat (pe_lst (pa_cons pe_int pa_nil)) (pe_callTy call_list_of (by rfl) (T.free 161 rfl) (by decide +kernel) (pa_cons (pe_cd (ok_double_area T) hr pass0 (pa_cons (pe_fld (pv 0) rfl) (pa_cons (pv 3) pa_nil))) pa_nil))))))))), ?_⟩)
  obtain ⟨o, nn, B, as, rfl, hO, hG, hn, hl, k⟩ := h
  obtain ⟨t, rfl⟩ := one_arg hl
  have k : Ret (NewLn H (iv (ansN (TravSpec.ofClosed B t fun r a b => if r.from_ ≠ r.to_ then LsAns.says (-5) else LsAns.tells 0 (TravSpec.fraction (LsRun.area2 (LsRun.placesOf a b r.legs).dropLast)))))) H Q := k
  refine Sv.go (sv_err hO hG (ev_var rfl) (ev_n0 (ev_var rfl) hn) (fun v => rfl) (Ex.refl _) (fun h0 => ?_) fun h0 v H1 e1 => ?_)
  · rcases err_cases hG t with ⟨_, h⟩ | ⟨h, _⟩
    · rw [h] at k
      exact k
    · exact absurd h h0
  rcases err_cases hG t with ⟨h, _⟩ | ⟨_, r, a, b, hr, hc, ha, hb, sa, sb, hf⟩
  · exact absurd h0 h
  rw [hf] at k
  have hsr := (hG.rs r (List.mem_of_getElem? hr)).1
  obtain ⟨v1, hv1, hR⟩ := ev_run T (hO.mono e1) (ta := tVar 0) (tb := tOp (rIxL K) (tVar 1) (tC (.int 0))) (σ := [some (.ref o), some (.ref nn), some v, none]) (ev_var rfl) (ev_n0 (ev_var rfl) (ex_l e1 hn)) hr
  refine sv_set hv1 ?_
  obtain ⟨dx, bb, h1, hB⟩ := hO.mono e1
  obtain ⟨ra, dxr, l, vs, rfl, hra, hlr, hvs⟩ := id hR
  refine sv_when (b := !decide (r.from_ = r.to_)) (et_test (ev_neN (ev_run1 T (ev_var rfl) hra) (ev_run2 T (ev_var rfl) hra))) (fun hq => ?_) fun hq => ?_
  · have hq : r.from_ ≠ r.to_ := by simpa using hq
    refine sv_no ev_c e1 ?_ k
    rw [if_pos hq]
    rfl
  · have hq : r.from_ = r.to_ := by simpa using hq
    rw [if_neg (fun h => h hq)] at k
    have hab : a = b := by
      rw [hq, hb] at ha
      exact (Option.some.inj ha).symm
    subst hab
    rw [area_eq (total_pos hsr (closed_pos hc)) (closed_pos hc)] at k
    exact sv_retP (evp_catN (evp_li (ea_cons ev_c ea_nil) (by show 1 ≤ 100000; decide)) (evp_list (evp_call (P := FracAt K (mkRat (areaI (placesI a a r.legs)) (LsRun.total r.legs * LsRun.total r.legs))) (ea_cons (ev_off T (ev_var rfl) h1) (ea_cons (ev_var rfl) ea_nil)) fun H2 e Q k => ⟨_, .ref ra, r, a, a, rfl, stay_RunAt _ _ _ _ e hR, hsr, (knAt_of hB ha).mono e, (knAt_of hB hb).mono e, sa, sa, closed_pos hc, k⟩)) (by show 1 + 2 ≤ 100000; decide)) fun v3 H3 e3 h3 => k v3 H3 (e1.trans e3) (h3.back e1)
theorem sc_tell_most : FnScope ["office", "numbers", "error", "run", "miss", "leg", "most"] ["office", "numbers"] (defScope s_tell_most) := ⟨rfl, rfl, rfl, by decide +kernel, rfl, by decide +kernel, by decide +kernel⟩
theorem ok_tell_most (T : Txt K mg) : Def P w K mg base CX0 5 "tell_most" ["office", "numbers"] (spAsk K 1 (c1 .most)) := by
  refine T.def_ 93 79 rfl rfl rfl rfl rfl sc_tell_most (fun _ _ _ _ _ _ us hl => match us, hl with | [_, _], _ => rfl) (fun vs H Q E h => by first | (obtain ⟨_, rfl, _⟩ := h; rfl) | (obtain ⟨_, _, rfl, _⟩ := h; rfl) | (obtain ⟨_, _, _, rfl, _⟩ := h; rfl) | (obtain ⟨_, _, _, _, rfl, _⟩ := h; rfl) | (obtain ⟨_, _, _, _, _, rfl, _⟩ := h; rfl) | (obtain ⟨_, _, _, _, _, _, rfl, _⟩ := h; rfl) | (obtain ⟨_, _, _, _, _, _, _, rfl, _⟩ := h; rfl) | (obtain ⟨_, _, _, _, _, _, _, _, rfl, _⟩ := h; rfl) | (obtain ⟨_, _, _, _, _, _, _, _, _, rfl, _⟩ := h; rfl) | (obtain ⟨_, _, _, _, _, _, _, _, _, _, rfl, _⟩ := h; rfl) | (obtain ⟨_, _, _, _, _, _, _, _, _, _, _, rfl, _⟩ := h; rfl) | (obtain ⟨_, _, _, _, _, _, _, _, _, _, _, _, rfl, _⟩ := h; rfl) | (obtain ⟨_, _, _, _, _, _, _, _, _, _, _, _, _, rfl, _⟩ := h; rfl) | (obtain ⟨_, _, _, _, _, _, _, _, _, _, _, _, _, _, rfl, _⟩ := h; rfl) | (obtain ⟨_, _, _, _, _, _, _, _, _, _, _, _, _, _, _, rfl, _⟩ := h; rfl) | (obtain ⟨_, _, _, _, _, _, _, _, _, _, _, _, _, _, _, _, rfl, _⟩ := h; rfl) | (obtain ⟨_, _, _, _, _, _, _, _, _, _, _, _, _, _, _, _, _, rfl, _⟩ := h; rfl) | (obtain ⟨_, _, _, _, _, _, _, _, _, _, _, _, _, _, _, _, _, _, rfl, _⟩ := h; rfl) | (obtain ⟨_, _, _, _, _, _, _, _, _, _, _, _, _, _, _, _, _, _, _, rfl, _⟩ := h; rfl)) (fun f cdv A outer s H vs Q E hr h => ⟨_, PSs.nox (pss_cons (ps_set (i := 2) sc_tell_most.nd rfl (Or.inl rfl) (pe_cd (ok_arrived_error T) hr pass0 (pa_cons (pv 0) (pa_cons (pe_ix ix_list (pv 1) pe_int (fun _ _ => rfl)) pa_nil)))) (pss_cons (ps_if (pt_cmpR op_gt (pe_callB call_len (by rfl) (T.free 160 rfl) (by decide +kernel) (pa_cons (pv 2) pa_nil)) pe_int (nomark _)) (pss_one (ps_ret (pv 2))) pss_nil) (pss_cons (ps_set (i := 3) sc_tell_most.nd rfl (Or.inl rfl) (pe_ix ix_list (pe_fld (pe_fld (pv 0) rfl) rfl) (pe_ix ix_list (pv 1) pe_int (fun _ _ => rfl)) (fun _ _ => rfl))) (pss_cons (ps_set (i := 4) sc_tell_most.nd rfl (Or.inl rfl) (pe_cd (ok_miss_of T) hr pass0 (pa_cons (pe_fld (pv 0) rfl) (pa_cons (pv 3) pa_nil)))) (pss_cons (ps_if (pt_cmpR op_eq (pe_cd (ok_square T) hr pass0 (pa_cons (pv 4) pa_nil)) pe_int (nomark _)) (pss_one (ps_ret (pe_lst (pa_cons (pe_gi (T.int 151 rfl)) pa_nil)))) pss_nil) (pss_cons (ps_asg (pe_cd (ok_most_along T) hr pass0 (pa_cons (pv 3) (pa_cons (pv 4) pa_nil))) (pg_tup rfl (pgs_cons (pg_name (i := 5) sc_tell_most.nd rfl (Or.inl rfl)) (pgs_cons (pg_name (i := 6) sc_tell_most.nd rfl (Or.inl rfl)) pgs_nil)))) (pss_one (ps_ret (pe_op op_cat (pe_lst (pa_cons (pv 5) pa_nil)) (pe_callTy call_list_of (by rfl) (T.free 161 rfl) (by decide +kernel) (pa_cons (pv 6) pa_nil))))))))))), ?_⟩)
  obtain ⟨o, nn, B, as, rfl, hO, hG, hn, hl, k⟩ := h
  obtain ⟨t, rfl⟩ := one_arg hl
  have k : Ret (NewLn H (iv (ansN (TravSpec.ofClosed B t fun r a b => if LsRun.miss a b r.legs = (0, 0) then LsAns.says (-5) else match LsRun.mostAlong (LsRun.miss a b r.legs) r.legs with
    | none => LsAns.says (-5)
    | some x => LsAns.tells (x.1 : Int) (TravSpec.fraction x.2))))) H Q := k
  refine Sv.go (sv_err hO hG (ev_var rfl) (ev_n0 (ev_var rfl) hn) (fun v => rfl) (Ex.refl _) (fun h0 => ?_) fun h0 v H1 e1 => ?_)
  · rcases err_cases hG t with ⟨_, h⟩ | ⟨h, _⟩
    · rw [h] at k
      exact k
    · exact absurd h h0
  rcases err_cases hG t with ⟨h, _⟩ | ⟨_, r, a, b, hr, hc, ha, hb, sa, sb, hf⟩
  · exact absurd h0 h
  rw [hf] at k
  have hsr := (hG.rs r (List.mem_of_getElem? hr)).1
  have hsm := smM sa sb hsr
  obtain ⟨v1, hv1, hR⟩ := ev_run T (hO.mono e1) (ta := tVar 0) (tb := tOp (rIxL K) (tVar 1) (tC (.int 0))) (σ := [some (.ref o), some (.ref nn), some v, none, none, none, none]) (ev_var rfl) (ev_n0 (ev_var rfl) (ex_l e1 hn)) hr
  refine sv_set hv1 ?_
  obtain ⟨dx, bb, h1, hB⟩ := hO.mono e1
  refine sv_setP (P := TpI K (LsRun.miss a b r.legs)) (evp_call (ea_cons (ev_off T (ev_var rfl) h1) (ea_cons (ev_var rfl) ea_nil)) fun H2 e Q k => ⟨_, v1, r, a, b, rfl, stay_RunAt _ _ _ _ e hR, hsr, (knAt_of hB ha).mono e, (knAt_of hB hb).mono e, k⟩) fun um H2 e2 hu => ?_
  obtain ⟨am, rfl, ham⟩ := hu
  refine sv_when (b := decide (LsRun.square (LsRun.miss a b r.legs) = 0)) (et_test (ev_eqI (ev_sqP (m := LsRun.miss a b r.legs) (ev_Tp (ev_var rfl) ham) ⟨by have := hsm.x; omega, by have := hsm.y; omega⟩) ev_c)) (fun hq => ?_) fun hq => ?_
  · refine sv_no ev_c (e1.trans e2) ?_ k
    rw [if_pos (sq_zero.mp (of_decide_eq_true hq))]
    rfl
  · rw [if_neg (fun h => of_decide_eq_false hq (sq_zero.mpr h))] at k
    intro H3 e3
    refine evp_call (P := fun v H => ∃ x, LsRun.mostAlong (LsRun.miss a b r.legs) r.legs = some x ∧ TupOf [fun v _ => v = .int (x.1 : Int), FracAt K x.2] v H) (ea_cons (ev_var rfl) (ea_cons (ev_var rfl) ea_nil)) (fun H4 e Q k => ⟨v1, am, r, LsRun.miss a b r.legs, rfl, stay_RunAt _ _ _ _ (e2.trans (e3.trans e)) hR, hsr, closed_pos hc, ex_t (e3.trans e) ham, hsm, k⟩) H3 (Ex.refl _) _ fun v3 H4 e4 h4 => ?_
    obtain ⟨x, hx, q, vs, rfl, hq4, u1, r1, rfl, rfl, u2, r2, rfl, hu2, e5⟩ := h4
    have e5 : r2 = [] := e5
    subst e5
    rw [hx] at k
    refine ⟨q, _, rfl, st_of hq4, rfl, _, _, rfl, _, _, rfl, rfl, ?_⟩
    exact Sv.go (sv_retP (evp_catN (evp_li (ea_cons (ev_var rfl) ea_nil) (by show 1 ≤ 100000; decide)) (evp_list (xs := fracV x.2) (evp_of (P := FracAt K x.2) (ev_var rfl) fun H5 e5 => stay_FracAt _ _ _ _ e5 hu2)) (by show 1 + 2 ≤ 100000; decide)) fun v5 H5 e5 h5 => k v5 H5 (((e1.trans e2).trans (e3.trans e4)).trans e5) (h5.back ((e1.trans e2).trans (e3.trans e4))))
end
end Trav
namespace Trav
open LsRun (Leg Spot Reading)
open LsGeo (Pt)
open RunBook (Book knownAt numberMay mayReach)
open TravSpec (Call asks step)
section
variable {P : Program} {w : World} {K : PySem.W.Frag} {mg : Str → Option Value} {base : Heap} {σ : L2.St} {H : Hp} {ta tb tc te : TE} {D : Ends} {tz tu : TS} {x y z u v : V}
def rowR (x : Reading) : List Int := [(x.kind : Int), (x.place : Int), x.dx, x.dy]
def ask0 (c : Call) (B : Book) (_ : List Nat) : LsAns.Ans := asks B c
/-- l.extend(a new list), l ours and grown behind H0 -/
theorem s_extI {l : Addr} {xs ys : List V} {H0 : Hp} (h0 : H0 l = none) (e0 : Ex H0 H) (hl : H l = some (.lst xs)) (ha : Ev ta σ H (.ref l)) (h : EvP te σ H (NewL ys)) (hz : xs.length + ys.length ≤ 100000) (k : ∀ H1, Grown H0 l H H1 → H1 l = some (.lst (xs ++ ys)) → D.nx σ H1) :
    tDrop (tBM K "list" rExtend ta (tCons te tNil)) D σ H := sv_ext hl ha h (sz_of hz) fun H1 e1 => by
  have hw := e1 _ _ hl
  exact k _ ⟨Ex.mut (e0.trans e1) h0, fun a o hne ha => by rw [upd_ne hne]; exact e1 a o ha, (ex_n e1).trans (exN_upd hw)⟩ upd_same
theorem sc_tell_text : FnScope ["office", "numbers", "text"] ["office", "numbers"] (defScope s_tell_text) := ⟨rfl, rfl, rfl, by decide +kernel, rfl, by decide +kernel, by decide +kernel⟩
theorem ok_tell_text (T : Txt K mg) : Def P w K mg base CX0 3 "tell_text" ["office", "numbers"] (spAsk K 0 (ask0 .print)) := by
  refine T.def_ 103 89 rfl rfl rfl rfl rfl sc_tell_text (fun _ _ _ _ _ _ us hl => match us, hl with | [_, _], _ => rfl) (fun vs H Q E h => by first | (obtain ⟨_, rfl, _⟩ := h; rfl) | (obtain ⟨_, _, rfl, _⟩ := h; rfl) | (obtain ⟨_, _, _, rfl, _⟩ := h; rfl) | (obtain ⟨_, _, _, _, rfl, _⟩ := h; rfl) | (obtain ⟨_, _, _, _, _, rfl, _⟩ := h; rfl) | (obtain ⟨_, _, _, _, _, _, rfl, _⟩ := h; rfl) | (obtain ⟨_, _, _, _, _, _, _, rfl, _⟩ := h; rfl) | (obtain ⟨_, _, _, _, _, _, _, _, rfl, _⟩ := h; rfl) | (obtain ⟨_, _, _, _, _, _, _, _, _, rfl, _⟩ := h; rfl) | (obtain ⟨_, _, _, _, _, _, _, _, _, _, rfl, _⟩ := h; rfl) | (obtain ⟨_, _, _, _, _, _, _, _, _, _, _, rfl, _⟩ := h; rfl) | (obtain ⟨_, _, _, _, _, _, _, _, _, _, _, _, rfl, _⟩ := h; rfl) | (obtain ⟨_, _, _, _, _, _, _, _, _, _, _, _, _, rfl, _⟩ := h; rfl) | (obtain ⟨_, _, _, _, _, _, _, _, _, _, _, _, _, _, rfl, _⟩ := h; rfl) | (obtain ⟨_, _, _, _, _, _, _, _, _, _, _, _, _, _, _, rfl, _⟩ := h; rfl) | (obtain ⟨_, _, _, _, _, _, _, _, _, _, _, _, _, _, _, _, rfl, _⟩ := h; rfl) | (obtain ⟨_, _, _, _, _, _, _, _, _, _, _, _, _, _, _, _, _, rfl, _⟩ := h; rfl) | (obtain ⟨_, _, _, _, _, _, _, _, _, _, _, _, _, _, _, _, _, _, rfl, _⟩ := h; rfl) | (obtain ⟨_, _, _, _, _, _, _, _, _, _, _, _, _, _, _, _, _, _, _, rfl, _⟩ := h; rfl)) (fun f cdv A outer s H vs Q E hr h => ⟨_, PSs.nox (pss_cons (ps_set (i := 2) sc_tell_text.nd rfl (Or.inl rfl) (pe_cd (ok_printed T) hr pass0 (pa_cons (pe_fld (pv 0) rfl) pa_nil))) (pss_one (ps_ret (pe_op op_cat (pe_lst (pa_cons (pe_callB call_len (by rfl) (T.free 160 rfl) (by decide +kernel) (pa_cons (pv 2) pa_nil)) pa_nil)) (pv 2))))), ?_⟩)
  obtain ⟨o, nn, B, as, rfl, hO, hG, hn, hl, k⟩ := h
  obtain ⟨dx, bb, h1, hB⟩ := id hO
  have k : Ret (NewLn H (iv (ansN (LsAns.gives (RunBook.print B))))) H Q := k
  have hlen := flat_le (bookRows B) (rows_le hG)
  rw [rows_print] at hlen
  have hrl := rows_len hG
  refine Sv.go (sv_setP (P := NewLn H (bs (RunBook.print B))) (evp_call (ea_cons (ev_off T (ev_var rfl) h1) ea_nil) fun H1 e Q k => ⟨_, B, rfl, stay_BookAt _ _ _ _ e hB, hG, fun v H2 e2 h2 => k v H2 e2 (h2.back e)⟩) fun v H1 e1 hv => ?_)
  obtain ⟨p, rfl, hp0, hp⟩ := hv
  have hbl : (bs (RunBook.print B)).length = (RunBook.print B).length := List.length_map ..
  refine sv_retP (evp_catN (evp_li (ea_cons (ev_len1 (ev_var rfl) (sq_of hp)) ea_nil) (by show 1 ≤ 100000; decide)) (evp_own rfl hp) (by rw [hbl]; show 1 + _ ≤ 100000; omega)) fun v2 H2 e2 h2 => k v2 H2 (e1.trans e2) ?_
  have e : iv (ansN (LsAns.gives (RunBook.print B))) = [V.int ((bs (RunBook.print B)).length : Int)] ++ bs (RunBook.print B) := by
    rw [hbl]
    unfold iv ansN LsAns.gives
    simp only [List.nil_append, List.map_cons, List.map_map]
    rfl
  rw [e]
  exact h2.back e1
theorem sc_tell_sizes : FnScope ["office", "numbers", "book"] ["office", "numbers"] (defScope s_tell_sizes) := ⟨rfl, rfl, rfl, by decide +kernel, rfl, by decide +kernel, by decide +kernel⟩
theorem ok_tell_sizes (T : Txt K mg) : Def P w K mg base CX0 2 "tell_sizes" ["office", "numbers"] (spAsk K 0 (ask0 .sizes)) := by
  refine T.def_ 104 90 rfl rfl rfl rfl rfl sc_tell_sizes (fun _ _ _ _ _ _ us hl => match us, hl with | [_, _], _ => rfl) (fun vs H Q E h => by first | (obtain ⟨_, rfl, _⟩ := h; rfl) | (obtain ⟨_, _, rfl, _⟩ := h; rfl) | (obtain ⟨_, _, _, rfl, _⟩ := h; rfl) | (obtain ⟨_, _, _, _, rfl, _⟩ := h; rfl) | (obtain ⟨_, _, _, _, _, rfl, _⟩ := h; rfl) | (obtain ⟨_, _, _, _, _, _, rfl, _⟩ := h; rfl) | (obtain ⟨_, _, _, _, _, _, _, rfl, _⟩ := h; rfl) | (obtain ⟨_, _, _, _, _, _, _, _, rfl, _⟩ := h; rfl) | (obtain ⟨_, _, _, _, _, _, _, _, _, rfl, _⟩ := h; rfl) | (obtain ⟨_, _, _, _, _, _, _, _, _, _, rfl, _⟩ := h; rfl) | (obtain ⟨_, _, _, _, _, _, _, _, _, _, _, rfl, _⟩ := h; rfl) | (obtain ⟨_, _, _, _, _, _, _, _, _, _, _, _, rfl, _⟩ := h; rfl) | (obtain ⟨_, _, _, _, _, _, _, _, _, _, _, _, _, rfl, _⟩ := h; rfl) | (obtain ⟨_, _, _, _, _, _, _, _, _, _, _, _, _, _, rfl, _⟩ := h; rfl) | (obtain ⟨_, _, _, _, _, _, _, _, _, _, _, _, _, _, _, rfl, _⟩ := h; rfl) | (obtain ⟨_, _, _, _, _, _, _, _, _, _, _, _, _, _, _, _, rfl, _⟩ := h; rfl) | (obtain ⟨_, _, _, _, _, _, _, _, _, _, _, _, _, _, _, _, _, rfl, _⟩ := h; rfl) | (obtain ⟨_, _, _, _, _, _, _, _, _, _, _, _, _, _, _, _, _, _, rfl, _⟩ := h; rfl) | (obtain ⟨_, _, _, _, _, _, _, _, _, _, _, _, _, _, _, _, _, _, _, rfl, _⟩ := h; rfl)) (fun f cdv A outer s H vs Q E hr h => ⟨_, PSs.nox (pss_cons (ps_set (i := 2) sc_tell_sizes.nd rfl (Or.inl rfl) (pe_fld (pv 0) rfl)) (pss_one (ps_ret (pe_lst (pa_cons pe_int (pa_cons (pe_callB call_lenK (by rfl) (T.free 160 rfl) (by decide +kernel) (pa_cons (pe_fld (pv 2) rfl) pa_nil)) (pa_cons (pe_callB call_len (by rfl) (T.free 160 rfl) (by decide +kernel) (pa_cons (pe_fld (pv 2) rfl) pa_nil)) (pa_cons (pe_cd (ok_leg_count T) hr pass0 (pa_cons (pv 2) pa_nil)) pa_nil)))))))), ?_⟩)
  obtain ⟨o, nn, B, as, rfl, hO, hG, hn, hl, k⟩ := h
  obtain ⟨dx, bb, h1, hB⟩ := id hO
  obtain ⟨ab, db, d, lb, kvs, bks, eb, hb, hd, hk, hlb, hEb⟩ := id hB
  obtain rfl := V.ref.inj eb
  have k : Ret (NewLn H (iv [0, (B.known.length : Int), (B.runs.length : Int), (((B.runs.map fun r => r.legs.length).foldr (fun (a b : Nat) => a + b) 0 : Nat) : Int)])) H Q := k
  obtain ⟨ns, hns, hperm⟩ := hk.keys
  have hkl : kvs.length = B.known.length := by
    have e1 := congrArg List.length hns
    have e2 := hperm.length_eq
    rw [List.length_map, List.length_map] at e1
    rw [List.length_map] at e2
    omega
  refine Sv.go (sv_set (ev_off T (ev_var rfl) h1) ?_)
  exact sv_retI (ea_cons ev_c (ea_cons (ev_is (ev_lenK (ev_book1 T (ev_var rfl) hb) hd) (by rw [hkl])) (ea_cons (ev_is (ev_len1 (ev_book2 T (ev_var rfl) hb) (sq_of hlb)) (by rw [each_lenM hEb])) (ea_cons (ev_callV (ea_cons (ev_var rfl) ea_nil) fun H1 e Q k => ⟨_, B, rfl, stay_BookAt _ _ _ _ e hB, hG.rn, k⟩) ea_nil)))) (by show 4 ≤ 100000; decide) (Ex.refl _) k
theorem sc_tell_readings : FnScope ["office", "numbers", "number", "leg", "readings", "told", "reading"] ["office", "numbers"] (defScope s_tell_readings) := ⟨rfl, rfl, rfl, by decide +kernel, rfl, by decide +kernel, by decide +kernel⟩
theorem ok_tell_readings (T : Txt K mg) : Def P w K mg base CX0 5 "tell_readings" ["office", "numbers"] (spAsk K 2 (c2 .readings)) := by
  refine T.def_ 94 80 rfl rfl rfl rfl rfl sc_tell_readings (fun _ _ _ _ _ _ us hl => match us, hl with | [_, _], _ => rfl) (fun vs H Q E h => by first | (obtain ⟨_, rfl, _⟩ := h; rfl) | (obtain ⟨_, _, rfl, _⟩ := h; rfl) | (obtain ⟨_, _, _, rfl, _⟩ := h; rfl) | (obtain ⟨_, _, _, _, rfl, _⟩ := h; rfl) | (obtain ⟨_, _, _, _, _, rfl, _⟩ := h; rfl) | (obtain ⟨_, _, _, _, _, _, rfl, _⟩ := h; rfl) | (obtain ⟨_, _, _, _, _, _, _, rfl, _⟩ := h; rfl) | (obtain ⟨_, _, _, _, _, _, _, _, rfl, _⟩ := h; rfl) | (obtain ⟨_, _, _, _, _, _, _, _, _, rfl, _⟩ := h; rfl) | (obtain ⟨_, _, _, _, _, _, _, _, _, _, rfl, _⟩ := h; rfl) | (obtain ⟨_, _, _, _, _, _, _, _, _, _, _, rfl, _⟩ := h; rfl) | (obtain ⟨_, _, _, _, _, _, _, _, _, _, _, _, rfl, _⟩ := h; rfl) | (obtain ⟨_, _, _, _, _, _, _, _, _, _, _, _, _, rfl, _⟩ := h; rfl) | (obtain ⟨_, _, _, _, _, _, _, _, _, _, _, _, _, _, rfl, _⟩ := h; rfl) | (obtain ⟨_, _, _, _, _, _, _, _, _, _, _, _, _, _, _, rfl, _⟩ := h; rfl) | (obtain ⟨_, _, _, _, _, _, _, _, _, _, _, _, _, _, _, _, rfl, _⟩ := h; rfl) | (obtain ⟨_, _, _, _, _, _, _, _, _, _, _, _, _, _, _, _, _, rfl, _⟩ := h; rfl) | (obtain ⟨_, _, _, _, _, _, _, _, _, _, _, _, _, _, _, _, _, _, rfl, _⟩ := h; rfl) | (obtain ⟨_, _, _, _, _, _, _, _, _, _, _, _, _, _, _, _, _, _, _, rfl, _⟩ := h; rfl)) (fun f cdv A outer s H vs Q E hr h => ⟨_, PSs.nox (pss_cons (ps_asg (pv 1) (pg_unl rfl (pgs_cons (pg_name (i := 2) sc_tell_readings.nd rfl (Or.inl rfl)) (pgs_cons (pg_name (i := 3) sc_tell_readings.nd rfl (Or.inl rfl)) pgs_nil)))) (pss_cons (ps_if (pt_not (pt_val (pe_cd (ok_has_leg T) hr pass0 (pa_cons (pv 0) (pa_cons (pv 2) (pa_cons (pv 3) pa_nil)))))) (pss_one (ps_ret (pe_lst (pa_cons (pe_gi (T.int 150 rfl)) pa_nil)))) pss_nil) (pss_cons (ps_set (i := 4) sc_tell_readings.nd rfl (Or.inl rfl) (pe_cd (ok_readings_of T) hr pass0 (pa_cons (pe_ix ix_list (pe_fld (pe_ix ix_list (pe_fld (pe_fld (pv 0) rfl) rfl) (pv 2) (fun _ _ => rfl)) rfl) (pv 3) (fun _ _ => rfl)) pa_nil))) (pss_cons (ps_set (i := 5) sc_tell_readings.nd rfl (Or.inl rfl) (pe_lst (pa_cons (pe_callB call_len (by rfl) (T.free 160 rfl) (by decide +kernel) (pa_cons (pv 4) pa_nil)) pa_nil))) (pss_cons (ps_for PassesOwn.never rfl (pi_list (pv 4)) (pg_name (i := 6) sc_tell_readings.nd rfl (Or.inl rfl)) (pss_one (ps_expr (pe_bm PySem.F.plainAttrs_list PySem.F.slot_list_extend PySem.F.type_list_extend mt_extend (pv 5) (pa_cons (pe_callTy call_list_of (by rfl) (T.free 161 rfl) (by decide +kernel) (pa_cons (pv 6) pa_nil)) pa_nil))))) (pss_one (ps_ret (pv 5)))))))), ?_⟩)
  obtain ⟨o, nn, B, as, rfl, hO, hG, hn, hl, k⟩ := h
  obtain ⟨t, i, rfl⟩ := two_arg hl
  refine Sv.go (sv_unl2 (ev_var rfl) hn ?_)
  have k : Ret (NewLn H (iv (ansN (TravSpec.ofRun B t fun r => match r.legs[i]? with
    | none => LsAns.says (-4)
    | some g => LsAns.tells ((LsRun.readings g).length : Int) ((LsRun.readings g).flatMap rowR))))) H Q := k
  unfold TravSpec.ofRun at k
  refine sv_when (b := !((B.runs[t]?).any fun r => decide (i < r.legs.length))) (et_not (et_test (ev_callV (ea_cons (ev_var rfl) (ea_cons (ev_var rfl) (ea_cons (ev_var rfl) ea_nil))) fun H1 e Q k => ⟨o, B, t, i, rfl, hO.mono e, k⟩))) (fun hc => ?_) fun hc => ?_
  · refine sv_no ev_c (Ex.refl _) ?_ k
    cases hr : B.runs[t]? with
    | none => rfl
    | some r =>
      rw [hr] at hc
      have hc : ¬ i < r.legs.length := by simpa using hc
      simp only
      rw [List.getElem?_eq_none (by omega)]
      rfl
  obtain ⟨r, hr, hp⟩ : ∃ r, B.runs[t]? = some r ∧ i < r.legs.length := by
    cases hr : B.runs[t]? with
    | none => rw [hr] at hc; exact absurd (show true = false from hc) (by decide)
    | some r => rw [hr] at hc; exact ⟨r, rfl, by simpa using hc⟩
  obtain ⟨g, hg⟩ : ∃ g, r.legs[i]? = some g := ⟨_, List.getElem?_eq_getElem hp⟩
  have hsr := evp_runs_ok hG hr
  have hsg := hsr.l g (List.mem_of_getElem? hg)
  have hlen := readings_len g hsg
  rw [hr] at k
  simp only at k
  rw [hg] at k
  obtain ⟨v1, hv1, hR⟩ := ev_run T hO (ta := tVar 0) (tb := tVar 2) (σ := [some (.ref o), some (.ref nn), some (.int (t : Int)), some (.int (i : Int)), none, none, none]) (ev_var rfl) (ev_var rfl) hr
  obtain ⟨ra, dxr, l, vs, rfl, hra, hlr, hvs⟩ := id hR
  obtain ⟨u, hu, hgu⟩ := each_get hvs (i := i) (P := LegAt K g) (by rw [List.getElem?_map, hg]; rfl)
  refine sv_setP (P := LstNew H ((LsRun.readings g).map (RdAt K))) (evp_callN (ea_cons (ev_ix (ev_run3 T hv1 hra) (ev_var rfl) (sq_of hlr) (by rw [Trav.atI_nat, hu])) ea_nil) fun H2 e Q k => ⟨u, g, rfl, stay_LegAt _ _ _ _ e hgu, hsg, k⟩) fun v2 H2 e2 h2 => ?_
  obtain ⟨p, xs, rfl, hp0, hp, hE⟩ := h2
  refine sv_lstOf (Ps := [fun v _ => v = V.int (xs.length : Int)]) (eap_cons (ev_p (ev_len1 (ev_var rfl) (sq_of hp))) eap_nil stay_eq) (fun P hP => by
    rw [List.mem_singleton.mp hP]
    exact stay_eq) (by show 1 ≤ 100000; decide) fun tp vs0 H3 htp0 e3 htp hE3 => ?_
  obtain ⟨w0, r0, rfl, rfl, e0⟩ := hE3
  have e0 : r0 = [] := e0
  subst e0
  have hne : p ≠ tp := fun e => by rw [e, htp0] at hp; cases hp
  refine sv_forM (xs := xs) (ev_var rfl) (sq_of (e3 _ _ hp)) (fun j σ' H' => ∃ (x0 : Option V), σ' = [some (.ref o), some (.ref nn), some (.int (t : Int)), some (.int (i : Int)), some (.ref p), some (.ref tp), x0] ∧ Ex H2 H' ∧ H' tp = some (.lst (V.int (xs.length : Int) :: iv (((LsRun.readings g).take j).flatMap rowR)))) ?_ ?_ ?_ ?_
  · rintro j σ' H' ⟨x0, rfl, e', _⟩
    exact sq_of (e' _ _ hp)
  · intro H4 e4
    exact ⟨none, rfl, e3.trans e4, e4 _ _ htp⟩
  · rintro j x σ' H' hj ⟨x0, rfl, e', ht⟩
    obtain ⟨rd, hrd, hrx⟩ := each_mem (each_stay (stay_map stay_RdAt) _ _ _ e' hE) hj
    have hfl : (iv (((LsRun.readings g).take j).flatMap rowR)).length ≤ 56 := by
      unfold iv
      rw [List.length_map]
      have key : ∀ L : List Reading, (L.flatMap rowR).length = 4 * L.length := by
        intro L
        induction L with
        | nil => rfl
        | cons a L ih => rw [List.flatMap_cons, List.length_append, ih, List.length_cons]; show 4 + _ = _; omega
      rw [key, List.length_take]
      omega
    refine s_extI htp0 e' ht (ev_var rfl) (evp_list (xs := iv (rowR rd)) (evp_of (ev_var rfl) fun H5 e5 => stay_RdAt _ _ _ _ e5 hrx)) (by rw [List.length_cons]; show _ + 4 ≤ 100000; omega) fun H5 gr ht5 => ⟨_, rfl, gr.ex, ?_⟩
    rw [ht5, take_snoc hrd, List.flatMap_append, List.flatMap_singleton]
    unfold iv
    rw [List.map_append]
    rfl
  · rintro σ' H' ⟨x0, rfl, e', ht⟩
    rw [each_lenM hE, List.take_length] at ht
    exact Sv.go (sv_ret (ev_var rfl) fun H5 e5 => k _ H5 (e2.trans (e'.trans e5)) ⟨tp, rfl, fresh_back e2 htp0, by
      rw [e5 _ _ ht]
      unfold ansN LsAns.tells iv
      simp only [List.map_nil, List.append_nil, List.map_cons]⟩)
end
end Trav
namespace Trav
open LsRun (Leg Spot Reading)
open LsGeo (Pt)
open RunBook (Book knownAt numberMay mayReach)
open TravSpec (Call asks step)
def optR (B : Book) (t i k j : Nat) : Option Reading := (B.runs[t]?).bind fun r => TravSpec.readingOf r i k j
def spReading (K : PySem.W.Frag) : Sp := fun vs H Q _ => ∃ (o nn : Addr) (B : Book) (t i k j : Nat), vs = [.ref o, .ref nn] ∧ OffAt K B o H ∧ Good B ∧ SqL K H nn (nv [t, i, k, j]) ∧ Ret (OptAt K (optR B t i k j)) H Q
section
variable {P : Program} {w : World} {K : PySem.W.Frag} {mg : Str → Option Value} {base : Heap} {σ : L2.St} {H : Hp} {ta tb tc te : TE} {D : Ends} {tz tu : TS} {x y z u v : V}
theorem sc_tell_passes : FnScope ["office", "numbers", "point", "passing", "number", "run"] ["office", "numbers"] (defScope s_tell_passes) := ⟨rfl, rfl, rfl, by decide +kernel, rfl, by decide +kernel, by decide +kernel⟩
theorem ok_tell_passes (T : Txt K mg) : Def P w K mg base CX0 3 "tell_passes" ["office", "numbers"] (spAsk K 1 (c1 .passes)) := by
  refine T.def_ 100 86 rfl rfl rfl rfl rfl sc_tell_passes (fun _ _ _ _ _ _ us hl => match us, hl with | [_, _], _ => rfl) (fun vs H Q E h => by first | (obtain ⟨_, rfl, _⟩ := h; rfl) | (obtain ⟨_, _, rfl, _⟩ := h; rfl) | (obtain ⟨_, _, _, rfl, _⟩ := h; rfl) | (obtain ⟨_, _, _, _, rfl, _⟩ := h; rfl) | (obtain ⟨_, _, _, _, _, rfl, _⟩ := h; rfl) | (obtain ⟨_, _, _, _, _, _, rfl, _⟩ := h; rfl) | (obtain ⟨_, _, _, _, _, _, _, rfl, _⟩ := h; rfl) | (obtain ⟨_, _, _, _, _, _, _, _, rfl, _⟩ := h; rfl) | (obtain ⟨_, _, _, _, _, _, _, _, _, rfl, _⟩ := h; rfl) | (obtain ⟨_, _, _, _, _, _, _, _, _, _, rfl, _⟩ := h; rfl) | (obtain ⟨_, _, _, _, _, _, _, _, _, _, _, rfl, _⟩ := h; rfl) | (obtain ⟨_, _, _, _, _, _, _, _, _, _, _, _, rfl, _⟩ := h; rfl) | (obtain ⟨_, _, _, _, _, _, _, _, _, _, _, _, _, rfl, _⟩ := h; rfl) | (obtain ⟨_, _, _, _, _, _, _, _, _, _, _, _, _, _, rfl, _⟩ := h; rfl) | (obtain ⟨_, _, _, _, _, _, _, _, _, _, _, _, _, _, _, rfl, _⟩ := h; rfl) | (obtain ⟨_, _, _, _, _, _, _, _, _, _, _, _, _, _, _, _, rfl, _⟩ := h; rfl) | (obtain ⟨_, _, _, _, _, _, _, _, _, _, _, _, _, _, _, _, _, rfl, _⟩ := h; rfl) | (obtain ⟨_, _, _, _, _, _, _, _, _, _, _, _, _, _, _, _, _, _, rfl, _⟩ := h; rfl) | (obtain ⟨_, _, _, _, _, _, _, _, _, _, _, _, _, _, _, _, _, _, _, rfl, _⟩ := h; rfl)) (fun f cdv A outer s H vs Q E hr h => ⟨_, PSs.nox (pss_cons (ps_set (i := 2) sc_tell_passes.nd rfl (Or.inr rfl) (pe_ix ix_list (pv 1) pe_int (fun _ _ => rfl))) (pss_cons (ps_if (pt_not (pt_val (pe_cd (ok_is_point T) hr pass0 (pa_cons (pv 2) pa_nil)))) (pss_one (ps_ret (pe_lst (pa_cons (pe_gi (T.int 148 rfl)) pa_nil)))) pss_nil) (pss_cons (ps_setLc (i := 3) (own := [("number", 4), ("run", 5)]) (g := gTup _ 2 (gCons (gName 4) (gCons (gName 5) gNil))) rfl sc_tell_passes.nd rfl rfl (sw_true rfl rfl rfl (by decide +kernel)) (pi_enum (by rfl) (T.free 159 rfl) (pa_cons (pe_fld (pe_fld (pv 0) rfl) rfl) pa_nil)) (blkOk_by (own := [("number", 4), ("run", 5)]) (N := ["office", "numbers", "point", "passing", "number", "run"]) (sc := defScope s_tell_passes) (by decide +kernel)) (fun _ _ _ _ _ => pg_tup rfl (pgs_cons (pg_name (i := 4) sc_tell_passes.nd rfl (Or.inl rfl)) (pgs_cons (pg_name (i := 5) sc_tell_passes.nd rfl (Or.inl rfl)) pgs_nil))) (fun _ _ _ _ _ => by exact pts_one (pt_val (pe_cd (ok_passes_by T) hr pass0 (pa_cons (pv 5) (pa_cons (pv 2) pa_nil))))) (fun _ _ _ _ _ => by exact (pv 4))) (pss_one (ps_ret (pe_op op_cat (pe_lst (pa_cons (pe_callB call_len (by rfl) (T.free 160 rfl) (by decide +kernel) (pa_cons (pv 3) pa_nil)) pa_nil)) (pv 3))))))), ?_⟩)
  obtain ⟨o, nn, B, as, rfl, hO, hG, hn, hl, k⟩ := h
  obtain ⟨n, rfl⟩ := one_arg hl
  refine Sv.go (sv_set (ev_n0 (ev_var rfl) hn) ?_)
  have k : Ret (NewLn H (iv (ansN (asks B (.passes n))))) H Q := k
  refine sv_when (b := !numberMay n) (et_pt (ev_var rfl)) (fun hc => ?_) fun hc => ?_
  · have hc : numberMay n = false := by simpa using hc
    have e : asks B (.passes n) = LsAns.says (-1) := if_pos hc
    refine sv_no ev_c (Ex.refl _) ?_ k
    rw [e]
    rfl
  have hc : ¬ numberMay n = false := by simpa using hc
  have e : asks B (.passes n) = LsAns.tells (((List.range B.runs.length).filter fun (i : Nat) => (B.runs[i]?).any fun r => (TravSpec.placeNo r n).isSome).length : Int) (LsAns.ints ((List.range B.runs.length).filter fun (i : Nat) => (B.runs[i]?).any fun r => (TravSpec.placeNo r n).isSome)) := if_neg hc
  rw [e] at k
  obtain ⟨l, vs, q1, q2, q3, q4⟩ := off_runs T hO (ta := tVar 0) (σ := [some (.ref o), some (.ref nn), some (.int (n : Int)), none, none, none]) (ev_var rfl)
  have hrn := hG.rn
  refine sv_setP (evp_lcN (it_enum q1 (sq_of q2)) (fun i H x H' y => ?_) (by omega) (fun i => (B.runs[i]?).any fun r => (TravSpec.placeNo r n).isSome) (fun i => .int ((i : Nat) : Int)) fun i x H1 H2 hi e1 y => ?_) fun u H1 e1 hu => ?_
  · obtain ⟨T, x, y, rfl, hT, rfl, e1, e2⟩ := y
    exact Ex.new hT
  · obtain ⟨T0, x, y, rfl, hT, rfl, ex, ey⟩ := y
    obtain rfl := Option.some.inj ex
    obtain ⟨r, hr, hrx⟩ := each_mem (each_stay (stay_map stay_RunAt) _ _ _ (e1.trans (Ex.new hT)) q3) ey
    refine ⟨_, fun Q H3 e3 q => ⟨T0, _, rfl, st_of (e3 _ _ upd_same), rfl, _, _, rfl, _, _, rfl, rfl, q⟩, rfl, ?_, fun _ => ev_var rfl⟩
    rw [hr]
    exact et_test (ev_callV (ea_cons (ev_var rfl) (ea_cons (ev_var rfl) ea_nil)) fun H3 e Q k => ⟨y, r, n, rfl, stay_RunAt _ _ _ _ e hrx, (evp_runs_ok hG hr).n, k⟩)
  obtain ⟨p, rfl, hp0, hp⟩ := hu
  rw [q4] at hp
  have hgl := given_len B.runs.length (fun i => (B.runs[i]?).any fun r => (TravSpec.placeNo r n).isSome) (fun i => V.int ((i : Nat) : Int))
  refine sv_retP (evp_catN (evp_li (ea_cons (ev_len1 (ev_var rfl) (sq_of hp)) ea_nil) (by show 1 ≤ 100000; decide)) (evp_own rfl hp) (by show 1 + _ ≤ 100000; omega)) fun v2 H2 e2 h2 => k v2 H2 (e1.trans e2) ?_
  have e : iv (ansN (LsAns.tells (((List.range B.runs.length).filter fun (i : Nat) => (B.runs[i]?).any fun r => (TravSpec.placeNo r n).isSome).length : Int) (LsAns.ints ((List.range B.runs.length).filter fun (i : Nat) => (B.runs[i]?).any fun r => (TravSpec.placeNo r n).isSome)))) = [V.int ((given B.runs.length (fun i => (B.runs[i]?).any fun r => (TravSpec.placeNo r n).isSome) (fun i => V.int ((i : Nat) : Int))).length : Int)] ++ given B.runs.length (fun i => (B.runs[i]?).any fun r => (TravSpec.placeNo r n).isSome) (fun i => V.int ((i : Nat) : Int)) := by
    unfold iv ansN LsAns.tells LsAns.ints given
    simp only [List.map_nil, List.append_nil, List.map_cons, List.map_map, List.length_map]
    rfl
  rw [e]
  exact h2.back e1
theorem sc_tell_apart : FnScope ["office", "numbers", "point", "number", "other_number", "run", "other", "east", "north"] ["office", "numbers"] (defScope s_tell_apart) := ⟨rfl, rfl, rfl, by decide +kernel, rfl, by decide +kernel, by decide +kernel⟩
theorem ok_tell_apart (T : Txt K mg) : Def P w K mg base CX0 6 "tell_apart" ["office", "numbers"] (spAsk K 3 (c3 .apart)) := by
  refine T.def_ 99 85 rfl rfl rfl rfl rfl sc_tell_apart (fun _ _ _ _ _ _ us hl => match us, hl with | [_, _], _ => rfl) (fun vs H Q E h => by first | (obtain ⟨_, rfl, _⟩ := h; rfl) | (obtain ⟨_, _, rfl, _⟩ := h; rfl) | (obtain ⟨_, _, _, rfl, _⟩ := h; rfl) | (obtain ⟨_, _, _, _, rfl, _⟩ := h; rfl) | (obtain ⟨_, _, _, _, _, rfl, _⟩ := h; rfl) | (obtain ⟨_, _, _, _, _, _, rfl, _⟩ := h; rfl) | (obtain ⟨_, _, _, _, _, _, _, rfl, _⟩ := h; rfl) | (obtain ⟨_, _, _, _, _, _, _, _, rfl, _⟩ := h; rfl) | (obtain ⟨_, _, _, _, _, _, _, _, _, rfl, _⟩ := h; rfl) | (obtain ⟨_, _, _, _, _, _, _, _, _, _, rfl, _⟩ := h; rfl) | (obtain ⟨_, _, _, _, _, _, _, _, _, _, _, rfl, _⟩ := h; rfl) | (obtain ⟨_, _, _, _, _, _, _, _, _, _, _, _, rfl, _⟩ := h; rfl) | (obtain ⟨_, _, _, _, _, _, _, _, _, _, _, _, _, rfl, _⟩ := h; rfl) | (obtain ⟨_, _, _, _, _, _, _, _, _, _, _, _, _, _, rfl, _⟩ := h; rfl) | (obtain ⟨_, _, _, _, _, _, _, _, _, _, _, _, _, _, _, rfl, _⟩ := h; rfl) | (obtain ⟨_, _, _, _, _, _, _, _, _, _, _, _, _, _, _, _, rfl, _⟩ := h; rfl) | (obtain ⟨_, _, _, _, _, _, _, _, _, _, _, _, _, _, _, _, _, rfl, _⟩ := h; rfl) | (obtain ⟨_, _, _, _, _, _, _, _, _, _, _, _, _, _, _, _, _, _, rfl, _⟩ := h; rfl) | (obtain ⟨_, _, _, _, _, _, _, _, _, _, _, _, _, _, _, _, _, _, _, rfl, _⟩ := h; rfl)) (fun f cdv A outer s H vs Q E hr h => ⟨_, PSs.nox (pss_cons (ps_asg (pv 1) (pg_unl rfl (pgs_cons (pg_name (i := 2) sc_tell_apart.nd rfl (Or.inl rfl)) (pgs_cons (pg_name (i := 3) sc_tell_apart.nd rfl (Or.inl rfl)) (pgs_cons (pg_name (i := 4) sc_tell_apart.nd rfl (Or.inl rfl)) pgs_nil))))) (pss_cons (ps_if (pt_not (pt_val (pe_cd (ok_is_point T) hr pass0 (pa_cons (pv 2) pa_nil)))) (pss_one (ps_ret (pe_lst (pa_cons (pe_gi (T.int 148 rfl)) pa_nil)))) pss_nil) (pss_cons (ps_if (PW.pt (pw_or (pt_not (pt_val (pe_cd (ok_has_point T) hr pass0 (pa_cons (pv 0) (pa_cons (pv 3) (pa_cons (pv 2) pa_nil)))))) (pw_or1 (pt_not (pt_val (pe_cd (ok_has_point T) hr pass0 (pa_cons (pv 0) (pa_cons (pv 4) (pa_cons (pv 2) pa_nil))))))))) (pss_one (ps_ret (pe_lst (pa_cons (pe_gi (T.int 150 rfl)) pa_nil)))) pss_nil) (pss_cons (ps_set (i := 5) sc_tell_apart.nd rfl (Or.inl rfl) (pe_ix ix_list (pe_fld (pe_fld (pv 0) rfl) rfl) (pv 3) (fun _ _ => rfl))) (pss_cons (ps_set (i := 6) sc_tell_apart.nd rfl (Or.inl rfl) (pe_ix ix_list (pe_fld (pe_fld (pv 0) rfl) rfl) (pv 4) (fun _ _ => rfl))) (pss_cons (ps_if (PW.pt (pw_or (pt_not (pt_val (pe_cd (ok_has_arrived T) hr pass0 (pa_cons (pv 5) pa_nil)))) (pw_or1 (pt_not (pt_val (pe_cd (ok_has_arrived T) hr pass0 (pa_cons (pv 6) pa_nil))))))) (pss_one (ps_ret (pe_lst (pa_cons (pe_gi (T.int 151 rfl)) pa_nil)))) pss_nil) (pss_cons (ps_asg (pe_cd (ok_place_between T) hr pass0 (pa_cons (pe_fld (pv 0) rfl) (pa_cons (pv 5) (pa_cons (pv 6) (pa_cons (pv 2) pa_nil))))) (pg_tup rfl (pgs_cons (pg_name (i := 7) sc_tell_apart.nd rfl (Or.inl rfl)) (pgs_cons (pg_name (i := 8) sc_tell_apart.nd rfl (Or.inl rfl)) pgs_nil)))) (pss_one (ps_ret (pe_op op_cat (pe_op op_cat (pe_lst (pa_cons pe_int pa_nil)) (pe_callTy call_list_of (by rfl) (T.free 161 rfl) (by decide +kernel) (pa_cons (pv 7) pa_nil))) (pe_callTy call_list_of (by rfl) (T.free 161 rfl) (by decide +kernel) (pa_cons (pv 8) pa_nil)))))))))))), ?_⟩)
  obtain ⟨o, nn, B, as, rfl, hO, hG, hn, hl, k⟩ := h
  obtain ⟨n, t, s2, rfl⟩ := three_arg hl
  refine Sv.go (sv_unl3 (ev_var rfl) hn ?_)
  have k : Ret (NewLn H (iv (ansN (asks B (.apart n t s2))))) H Q := k
  refine sv_when (b := !numberMay n) (et_pt (ev_var rfl)) (fun hc => ?_) fun hc => ?_
  · have hc : numberMay n = false := by simpa using hc
    have e : asks B (.apart n t s2) = LsAns.says (-1) := if_pos hc
    refine sv_no ev_c (Ex.refl _) ?_ k
    rw [e]
    rfl
  have hc : ¬ numberMay n = false := by simpa using hc
  have e : asks B (.apart n t s2) = TravSpec.ofRun B t fun r => TravSpec.ofRun B s2 fun s => if (TravSpec.placeNo r n).isNone = true ∨ (TravSpec.placeNo s n).isNone = true then LsAns.says (-4) else match TravSpec.placeBy B r n, TravSpec.placeBy B s n with
    | some q, some z => LsAns.tells 0 (TravSpec.spotNums (z.1 - q.1, z.2 - q.2))
    | _, _ => LsAns.says (-5) := if_neg hc
  rw [e] at k
  unfold TravSpec.ofRun at k
  refine sv_when (b := !((B.runs[t]?).any fun r => (TravSpec.placeNo r n).isSome) || !((B.runs[s2]?).any fun r => (TravSpec.placeNo r n).isSome)) (et_or (et_not (et_test (ev_callV (ea_cons (ev_var rfl) (ea_cons (ev_var rfl) (ea_cons (ev_var rfl) ea_nil))) fun H1 e Q k => ⟨o, B, t, n, rfl, hO.mono e, hG, k⟩))) fun _ => et_not (et_test (ev_callV (ea_cons (ev_var rfl) (ea_cons (ev_var rfl) (ea_cons (ev_var rfl) ea_nil))) fun H1 e Q k => ⟨o, B, s2, n, rfl, hO.mono e, hG, k⟩))) (fun hc => ?_) fun hc => ?_
  · refine sv_no ev_c (Ex.refl _) ?_ k
    cases hr : B.runs[t]? with
    | none => rfl
    | some r =>
      cases hs : B.runs[s2]? with
      | none => rfl
      | some s =>
        rw [hr, hs] at hc
        have hc : (TravSpec.placeNo r n).isSome = false ∨ (TravSpec.placeNo s n).isSome = false := by simpa using hc
        simp only
        rw [if_pos (by rcases hc with h | h
                       · left; simpa using h
                       · right; simpa using h)]
        rfl
  obtain ⟨r, hr, hp⟩ : ∃ r, B.runs[t]? = some r ∧ (TravSpec.placeNo r n).isSome = true := by
    cases hr : B.runs[t]? with
    | none => rw [hr] at hc; exact absurd (show true = false from hc) (by decide)
    | some r => rw [hr] at hc; exact ⟨r, rfl, by rw [Bool.or_eq_false_iff] at hc; simpa using hc.1⟩
  obtain ⟨s, hs, hp2⟩ : ∃ r, B.runs[s2]? = some r ∧ (TravSpec.placeNo r n).isSome = true := by
    rw [Bool.or_eq_false_iff] at hc
    have hc := hc.2
    cases hs : B.runs[s2]? with
    | none => rw [hs] at hc; exact absurd (show true = false from hc) (by decide)
    | some r => rw [hs] at hc; exact ⟨r, rfl, by simpa using hc⟩
  obtain ⟨i, hi⟩ := Option.isSome_iff_exists.mp hp
  obtain ⟨j, hj⟩ := Option.isSome_iff_exists.mp hp2
  have hsr := evp_runs_ok hG hr
  have hss := evp_runs_ok hG hs
  rw [hr] at k
  simp only at k
  rw [hs] at k
  simp only at k
  rw [if_neg (by rw [hi, hj]; intro h; rcases h with h | h <;> exact Bool.false_ne_true h)] at k
  obtain ⟨a, b, ha, hb, sa, sb, hpb⟩ := placeBy_of (n := n) hG (List.mem_of_getElem? hr)
  obtain ⟨a', b', ha', hb', sa', sb', hpb'⟩ := placeBy_of (n := n) hG (List.mem_of_getElem? hs)
  obtain ⟨v1, hv1, hR⟩ := ev_run T hO (ta := tVar 0) (tb := tVar 3) (σ := [some (.ref o), some (.ref nn), some (.int (n : Int)), some (.int (t : Int)), some (.int (s2 : Int)), none, none, none, none]) (ev_var rfl) (ev_var rfl) hr
  obtain ⟨v2, hv2, hS⟩ := ev_run T hO (ta := tVar 0) (tb := tVar 4) (σ := [some (.ref o), some (.ref nn), some (.int (n : Int)), some (.int (t : Int)), some (.int (s2 : Int)), some v1, none, none, none]) (ev_var rfl) (ev_var rfl) hs
  refine sv_set hv1 (sv_set hv2 ?_)
  refine sv_when (b := !r.closed || !s.closed) (et_or (et_arr (ev_var rfl) hR hsr) fun _ => et_arr (ev_var rfl) hS hss) (fun hc => ?_) fun hc => ?_
  · refine sv_no ev_c (Ex.refl _) ?_ k
    have hc : r.closed = false ∨ s.closed = false := by simpa using hc
    rw [hpb, hpb']
    rcases hc with h | h
    · rw [if_neg (by rw [h]; exact Bool.false_ne_true)]
      rfl
    · rw [if_neg (c := s.closed = true) (by rw [h]; exact Bool.false_ne_true)]
      split <;> first | rfl | (rename_i h1 h2; cases h2)
  rw [Bool.or_eq_false_iff] at hc
  have hc1 : r.closed = true := by simpa using hc.1
  have hc2 : s.closed = true := by simpa using hc.2
  rw [hpb, hpb', if_pos hc1, if_pos hc2, hi, hj] at k
  obtain ⟨dx, bb, h1, hB⟩ := id hO
  refine sv_unpE2 (evp_call (P := TpE K [FracAt K ((spotBy a' b' s.legs j).1 - (spotBy a b r.legs i).1), FracAt K ((spotBy a' b' s.legs j).2 - (spotBy a b r.legs i).2)]) (ea_cons (ev_off T (ev_var rfl) h1) (ea_cons (ev_var rfl) (ea_cons (ev_var rfl) (ea_cons (ev_var rfl) ea_nil)))) fun H2 e Q k => ⟨_, v1, v2, n, r, s, a, b, a', b', i, j, rfl, stay_RunAt _ _ _ _ e hR, hsr, (knAt_of hB ha).mono e, (knAt_of hB hb).mono e, sa, sb, closed_pos hc1, hi, stay_RunAt _ _ _ _ e hS, hss, (knAt_of hB ha').mono e, (knAt_of hB hb').mono e, sa', sb', closed_pos hc2, hj, fun v H4 e4 h4 => k v H4 e4 (tpE_of h4)⟩) fun x y H2 e2 hx hy => ?_
  exact sv_retP (evp_two ev_c (evp_of (ev_var rfl) fun H3 e3 => stay_FracAt _ _ _ _ e3 hx) (evp_of (ev_var rfl) fun H3 e3 => stay_FracAt _ _ _ _ e3 hy)) fun v H3 e3 h3 => k v H3 (e2.trans e3) (h3.back e2)
end
end Trav
namespace Trav
open LsRun (Leg Spot Reading)
open LsGeo (Pt)
open RunBook (Book knownAt numberMay mayReach)
open TravSpec (Call asks step)
section
variable {P : Program} {w : World} {K : PySem.W.Frag} {mg : Str → Option Value} {base : Heap} {σ : L2.St} {H : Hp} {ta tb tc te : TE} {D : Ends} {tz tu : TS} {x y z u v : V}
theorem optR_eq {B : Book} {t i k j : Nat} {r : RunBook.Run} {g : Leg} (hr : B.runs[t]? = some r) (hg : r.legs[i]? = some g) : optR B t i k j = (LsRun.readings g).find? fun x => x.kind == k && x.place == j := by
  unfold optR TravSpec.readingOf
  rw [hr]
  show (r.legs[i]?).bind _ = _
  rw [hg]
  rfl
theorem et_isN (h : Ev ta σ H v) : EvT (tTest (tOp (fun x y H Q => y = .non ∧ Q (.bl (decide (x = .non))) H) ta (tC .non))) σ H (decide (v = .non)) := et_test fun H1 e Q q => h H1 e _ fun H2 e2 => ⟨rfl, q H2 e2⟩
theorem optR_some {B : Book} {t i k j : Nat} {x : Reading} (h : optR B t i k j = some x) : ∃ r g, B.runs[t]? = some r ∧ r.legs[i]? = some g ∧ (LsRun.readings g).find? (fun x => x.kind == k && x.place == j) = some x := by
  cases hr : B.runs[t]? with
  | none =>
    unfold optR at h
    rw [hr] at h
    cases h
  | some r =>
    cases hg : r.legs[i]? with
    | none =>
      unfold optR TravSpec.readingOf at h
      rw [hr] at h
      have h : (r.legs[i]?).bind _ = some x := h
      rw [hg] at h
      cases h
    | some g =>
      rw [optR_eq hr hg] at h
      exact ⟨r, g, rfl, hg, h⟩
theorem sc_reading_told : FnScope ["office", "numbers", "number", "leg", "kind", "place"] ["office", "numbers"] (defScope s_reading_told) := ⟨rfl, rfl, rfl, by decide +kernel, rfl, by decide +kernel, by decide +kernel⟩
theorem ok_reading_told (T : Txt K mg) : Def P w K mg base CX0 6 "reading_told" ["office", "numbers"] (spReading K) := by
  refine T.def_ 96 82 rfl rfl rfl rfl rfl sc_reading_told (fun _ _ _ _ _ _ us hl => match us, hl with | [_, _], _ => rfl) (fun vs H Q E h => by first | (obtain ⟨_, rfl, _⟩ := h; rfl) | (obtain ⟨_, _, rfl, _⟩ := h; rfl) | (obtain ⟨_, _, _, rfl, _⟩ := h; rfl) | (obtain ⟨_, _, _, _, rfl, _⟩ := h; rfl) | (obtain ⟨_, _, _, _, _, rfl, _⟩ := h; rfl) | (obtain ⟨_, _, _, _, _, _, rfl, _⟩ := h; rfl) | (obtain ⟨_, _, _, _, _, _, _, rfl, _⟩ := h; rfl) | (obtain ⟨_, _, _, _, _, _, _, _, rfl, _⟩ := h; rfl) | (obtain ⟨_, _, _, _, _, _, _, _, _, rfl, _⟩ := h; rfl) | (obtain ⟨_, _, _, _, _, _, _, _, _, _, rfl, _⟩ := h; rfl) | (obtain ⟨_, _, _, _, _, _, _, _, _, _, _, rfl, _⟩ := h; rfl) | (obtain ⟨_, _, _, _, _, _, _, _, _, _, _, _, rfl, _⟩ := h; rfl) | (obtain ⟨_, _, _, _, _, _, _, _, _, _, _, _, _, rfl, _⟩ := h; rfl) | (obtain ⟨_, _, _, _, _, _, _, _, _, _, _, _, _, _, rfl, _⟩ := h; rfl) | (obtain ⟨_, _, _, _, _, _, _, _, _, _, _, _, _, _, _, rfl, _⟩ := h; rfl) | (obtain ⟨_, _, _, _, _, _, _, _, _, _, _, _, _, _, _, _, rfl, _⟩ := h; rfl) | (obtain ⟨_, _, _, _, _, _, _, _, _, _, _, _, _, _, _, _, _, rfl, _⟩ := h; rfl) | (obtain ⟨_, _, _, _, _, _, _, _, _, _, _, _, _, _, _, _, _, _, rfl, _⟩ := h; rfl) | (obtain ⟨_, _, _, _, _, _, _, _, _, _, _, _, _, _, _, _, _, _, _, rfl, _⟩ := h; rfl)) (fun f cdv A outer s H vs Q E hr h => ⟨_, PSs.nox (pss_cons (ps_asg (pv 1) (pg_unl rfl (pgs_cons (pg_name (i := 2) sc_reading_told.nd rfl (Or.inl rfl)) (pgs_cons (pg_name (i := 3) sc_reading_told.nd rfl (Or.inl rfl)) (pgs_cons (pg_name (i := 4) sc_reading_told.nd rfl (Or.inl rfl)) (pgs_cons (pg_name (i := 5) sc_reading_told.nd rfl (Or.inl rfl)) pgs_nil)))))) (pss_cons (ps_if (pt_not (pt_val (pe_cd (ok_has_leg T) hr pass0 (pa_cons (pv 0) (pa_cons (pv 2) (pa_cons (pv 3) pa_nil)))))) (pss_one (ps_ret pe_non)) pss_nil) (pss_one (ps_ret (pe_cd (ok_find_reading T) hr pass0 (pa_cons (pe_ix ix_list (pe_fld (pe_ix ix_list (pe_fld (pe_fld (pv 0) rfl) rfl) (pv 2) (fun _ _ => rfl)) rfl) (pv 3) (fun _ _ => rfl)) (pa_cons (pv 4) (pa_cons (pv 5) pa_nil)))))))), ?_⟩)
  obtain ⟨o, nn, B, t, i, kk, j, rfl, hO, hG, hn, k⟩ := h
  refine Sv.go (sv_unl4 (ev_var rfl) hn ?_)
  refine sv_when (b := !((B.runs[t]?).any fun r => decide (i < r.legs.length))) (et_not (et_test (ev_callV (ea_cons (ev_var rfl) (ea_cons (ev_var rfl) (ea_cons (ev_var rfl) ea_nil))) fun H1 e Q k => ⟨o, B, t, i, rfl, hO.mono e, k⟩))) (fun hc => ?_) fun hc => ?_
  · refine sv_ret ev_c fun H1 e1 => k _ H1 e1 ?_
    have e : optR B t i kk j = none := by
      unfold optR TravSpec.readingOf
      cases hr : B.runs[t]? with
      | none => rfl
      | some r =>
        rw [hr] at hc
        have hc : ¬ i < r.legs.length := by simpa using hc
        show (r.legs[i]?).bind _ = none
        rw [List.getElem?_eq_none (by omega)]
        rfl
    rw [e]
    rfl
  obtain ⟨r, hr, hp⟩ : ∃ r, B.runs[t]? = some r ∧ i < r.legs.length := by
    cases hr : B.runs[t]? with
    | none => rw [hr] at hc; exact absurd (show true = false from hc) (by decide)
    | some r => rw [hr] at hc; exact ⟨r, rfl, by simpa using hc⟩
  obtain ⟨g, hg⟩ : ∃ g, r.legs[i]? = some g := ⟨_, List.getElem?_eq_getElem hp⟩
  have hsg := (evp_runs_ok hG hr).l g (List.mem_of_getElem? hg)
  obtain ⟨v1, hv1, hR⟩ := ev_run T hO (ta := tVar 0) (tb := tVar 2) (σ := [some (.ref o), some (.ref nn), some (.int (t : Int)), some (.int (i : Int)), some (.int (kk : Int)), some (.int (j : Int))]) (ev_var rfl) (ev_var rfl) hr
  obtain ⟨ra, dxr, l, vs, rfl, hra, hlr, hvs⟩ := id hR
  obtain ⟨u, hu, hgu⟩ := each_get hvs (i := i) (P := LegAt K g) (by rw [List.getElem?_map, hg]; rfl)
  rw [optR_eq hr hg] at k
  exact sv_retP (evp_call (ea_cons (ev_ix (ev_run3 T hv1 hra) (ev_var rfl) (sq_of hlr) (by rw [Trav.atI_nat, hu])) (ea_cons (ev_var rfl) (ea_cons (ev_var rfl) ea_nil))) fun H2 e Q k => ⟨u, g, kk, j, rfl, stay_LegAt _ _ _ _ e hgu, hsg, k⟩) k
theorem sc_tell_with : FnScope ["office", "numbers", "number", "leg", "kind", "place", "reading", "run", "slip"] ["office", "numbers"] (defScope s_tell_with) := ⟨rfl, rfl, rfl, by decide +kernel, rfl, by decide +kernel, by decide +kernel⟩
theorem ok_tell_with (T : Txt K mg) : Def P w K mg base CX0 7 "tell_with" ["office", "numbers"] (spAsk K 4 (c4 .with_)) := by
  refine T.def_ 97 83 rfl rfl rfl rfl rfl sc_tell_with (fun _ _ _ _ _ _ us hl => match us, hl with | [_, _], _ => rfl) (fun vs H Q E h => by first | (obtain ⟨_, rfl, _⟩ := h; rfl) | (obtain ⟨_, _, rfl, _⟩ := h; rfl) | (obtain ⟨_, _, _, rfl, _⟩ := h; rfl) | (obtain ⟨_, _, _, _, rfl, _⟩ := h; rfl) | (obtain ⟨_, _, _, _, _, rfl, _⟩ := h; rfl) | (obtain ⟨_, _, _, _, _, _, rfl, _⟩ := h; rfl) | (obtain ⟨_, _, _, _, _, _, _, rfl, _⟩ := h; rfl) | (obtain ⟨_, _, _, _, _, _, _, _, rfl, _⟩ := h; rfl) | (obtain ⟨_, _, _, _, _, _, _, _, _, rfl, _⟩ := h; rfl) | (obtain ⟨_, _, _, _, _, _, _, _, _, _, rfl, _⟩ := h; rfl) | (obtain ⟨_, _, _, _, _, _, _, _, _, _, _, rfl, _⟩ := h; rfl) | (obtain ⟨_, _, _, _, _, _, _, _, _, _, _, _, rfl, _⟩ := h; rfl) | (obtain ⟨_, _, _, _, _, _, _, _, _, _, _, _, _, rfl, _⟩ := h; rfl) | (obtain ⟨_, _, _, _, _, _, _, _, _, _, _, _, _, _, rfl, _⟩ := h; rfl) | (obtain ⟨_, _, _, _, _, _, _, _, _, _, _, _, _, _, _, rfl, _⟩ := h; rfl) | (obtain ⟨_, _, _, _, _, _, _, _, _, _, _, _, _, _, _, _, rfl, _⟩ := h; rfl) | (obtain ⟨_, _, _, _, _, _, _, _, _, _, _, _, _, _, _, _, _, rfl, _⟩ := h; rfl) | (obtain ⟨_, _, _, _, _, _, _, _, _, _, _, _, _, _, _, _, _, _, rfl, _⟩ := h; rfl) | (obtain ⟨_, _, _, _, _, _, _, _, _, _, _, _, _, _, _, _, _, _, _, rfl, _⟩ := h; rfl)) (fun f cdv A outer s H vs Q E hr h => ⟨_, PSs.nox (pss_cons (ps_asg (pv 1) (pg_unl rfl (pgs_cons (pg_name (i := 2) sc_tell_with.nd rfl (Or.inl rfl)) (pgs_cons (pg_name (i := 3) sc_tell_with.nd rfl (Or.inl rfl)) (pgs_cons (pg_name (i := 4) sc_tell_with.nd rfl (Or.inl rfl)) (pgs_cons (pg_name (i := 5) sc_tell_with.nd rfl (Or.inl rfl)) pgs_nil)))))) (pss_cons (ps_set (i := 6) sc_tell_with.nd rfl (Or.inl rfl) (pe_cd (ok_reading_told T) hr pass0 (pa_cons (pv 0) (pa_cons (pv 1) pa_nil)))) (pss_cons (ps_if (pt_cmpR op_isN (pv 6) pe_non (nomark _)) (pss_one (ps_ret (pe_lst (pa_cons (pe_gi (T.int 150 rfl)) pa_nil)))) pss_nil) (pss_cons (ps_set (i := 7) sc_tell_with.nd rfl (Or.inl rfl) (pe_ix ix_list (pe_fld (pe_fld (pv 0) rfl) rfl) (pv 2) (fun _ _ => rfl))) (pss_cons (ps_if (pt_not (pt_val (pe_cd (ok_has_arrived T) hr pass0 (pa_cons (pv 7) pa_nil)))) (pss_one (ps_ret (pe_lst (pa_cons (pe_gi (T.int 151 rfl)) pa_nil)))) pss_nil) (pss_cons (ps_set (i := 8) sc_tell_with.nd rfl (Or.inl rfl) (pe_cd (ok_slip_of T) hr pass0 (pa_cons (pv 3) (pa_cons (pe_ix ix_list (pe_fld (pv 7) rfl) (pv 3) (fun _ _ => rfl)) (pa_cons (pv 6) pa_nil))))) (pss_one (ps_ret (pe_op op_cat (pe_lst (pa_cons pe_int pa_nil)) (pe_callTy call_list_of (by rfl) (T.free 161 rfl) (by decide +kernel) (pa_cons (pe_cd (ok_missed_with T) hr pass0 (pa_cons (pe_cd (ok_miss_of T) hr pass0 (pa_cons (pe_fld (pv 0) rfl) (pa_cons (pv 7) pa_nil))) (pa_cons (pe_lst (pa_cons (pv 8) pa_nil)) pa_nil))) pa_nil))))))))))), ?_⟩)
  obtain ⟨o, nn, B, as, rfl, hO, hG, hn, hl, k⟩ := h
  obtain ⟨t, i, kk, j, rfl⟩ := four_arg hl
  refine Sv.go (sv_unl4 (ev_var rfl) hn ?_)
  have k : Ret (NewLn H (iv (ansN (asks B (.with_ t i kk j))))) H Q := k
  refine sv_setP (P := OptAt K (optR B t i kk j)) (evp_call (ea_cons (ev_var rfl) (ea_cons (ev_var rfl) ea_nil)) fun H2 e Q k => ⟨o, nn, B, t, i, kk, j, rfl, hO.mono e, hG, ex_l e hn, k⟩) fun v1 H1 e1 h1 => ?_
  have ea : asks B (.with_ t i kk j) = TravSpec.ofRun B t fun r => match TravSpec.readingOf r i kk j with
    | none => LsAns.says (-4)
    | some x => match TravSpec.endsOf B r with
      | none => LsAns.says (-5)
      | some (a, b) => LsAns.tells 0 [(LsRun.missBy r.legs (LsRun.miss a b r.legs) (i, x)).1, (LsRun.missBy r.legs (LsRun.miss a b r.legs) (i, x)).2] := rfl
  rw [ea] at k
  unfold TravSpec.ofRun at k
  cases ho : optR B t i kk j with
  | none =>
    rw [ho] at h1
    have h1 : v1 = .non := h1
    subst h1
    refine sv_when (b := true) (et_is (et_isN (ev_var rfl)) (by rfl)) (fun _ => ?_) (fun h => absurd h (by decide))
    refine sv_no ev_c e1 ?_ k
    unfold optR at ho
    cases hr : B.runs[t]? with
    | none => rfl
    | some r =>
      rw [hr] at ho
      have ho : TravSpec.readingOf r i kk j = none := ho
      simp only
      rw [ho]
      rfl
  | some x =>
    rw [ho] at h1
    obtain ⟨r, g, hr, hg, hf⟩ := optR_some ho
    have hro : TravSpec.readingOf r i kk j = some x := by
      unfold optR at ho
      rw [hr] at ho
      exact ho
    rw [hr] at k
    simp only at k
    rw [hro] at k
    simp only at k
    obtain ⟨ax, rfl, hax⟩ := h1
    have hsr := evp_runs_ok hG hr
    have hsg := hsr.l g (List.mem_of_getElem? hg)
    obtain ⟨a, b, ha, hb, sa, sb, he⟩ := ends_of hG (List.mem_of_getElem? hr)
    refine sv_when (b := false) (et_is (et_isN (ev_var rfl)) (by rfl)) (fun h => absurd h (by decide)) fun _ => ?_
    obtain ⟨v1, hv1, hR⟩ := ev_run T (hO.mono e1) (ta := tVar 0) (tb := tVar 2) (σ := [some (.ref o), some (.ref nn), some (.int (t : Int)), some (.int (i : Int)), some (.int (kk : Int)), some (.int (j : Int)), some (.ref ax), none, none]) (ev_var rfl) (ev_var rfl) hr
    refine sv_set hv1 ?_
    refine sv_when (b := !r.closed) (et_arr (ev_var rfl) hR hsr) (fun hc => ?_) fun hc => ?_
    · refine sv_no ev_c e1 ?_ k
      rw [he, if_neg (by simpa using hc)]
      rfl
    have hc : r.closed = true := by simpa using hc
    rw [he, if_pos hc] at k
    simp only at k
    obtain ⟨ra, dxr, l, vs, rfl, hra, hlr, hvs⟩ := id hR
    obtain ⟨u, hu, hgu⟩ := each_get hvs (i := i) (P := LegAt K g) (by rw [List.getElem?_map, hg]; rfl)
    refine sv_setP (P := SlAt K ((i, x), gainOf g x)) (evp_call (ea_cons (ev_var rfl) (ea_cons (ev_ix (ev_run3 T (ev_var rfl) hra) (ev_var rfl) (sq_of hlr) (by rw [Trav.atI_nat, hu])) (ea_cons (ev_var rfl) ea_nil))) fun H2 e Q k => ⟨i, u, ax, g, x, rfl, stay_LegAt _ _ _ _ e hgu, ex_t e hax, k⟩) fun w2 H2 e2 h2 => ?_
    obtain ⟨dx, bb, h3, hB⟩ := hO.mono (e1.trans e2)
    have hmb : LsRun.missBy r.legs (LsRun.miss a b r.legs) (i, x) = missG (LsRun.miss a b r.legs) [((i, x), gainOf g x)] := missBy_ok (s := ((i, x), gainOf g x)) ⟨g, hg, rfl⟩
    rw [hmb] at k
    refine sv_retP (evp_catN (evp_li (ea_cons ev_c ea_nil) (by show 1 ≤ 100000; decide)) (evp_list (xs := [.int (missG (LsRun.miss a b r.legs) [((i, x), gainOf g x)]).1, .int (missG (LsRun.miss a b r.legs) [((i, x), gainOf g x)]).2]) (evp_callP (R := Each [TpI K (LsRun.miss a b r.legs), LstOf ([((i, x), gainOf g x)].map (SlAt K))]) (eap_cons (evp_call (P := TpI K (LsRun.miss a b r.legs)) (ea_cons (ev_off T (ev_var rfl) h3) (ea_cons (ev_var rfl) ea_nil)) fun H3 e Q k => ⟨_, .ref ra, r, a, b, rfl, stay_RunAt _ _ _ _ (e2.trans e) hR, hsr, (knAt_of hB ha).mono e, (knAt_of hB hb).mono e, k⟩) (eap_cons (evp_one (ev_var rfl) h2) eap_nil (stay_LstOf (stay_map stay_SlAt))) (stay_TpI _)) ?_)) (by show 1 + 2 ≤ 100000; decide)) fun v5 H5 e5 h5 => k v5 H5 ((e1.trans e2).trans e5) (h5.back (e1.trans e2))
    rintro ws H3 e ⟨_, _, rfl, ⟨am, rfl, ham⟩, _, _, rfl, ⟨c, cs, rfl, hc1, hcE⟩, e0⟩ Q k
    have e0 : _ = [] := e0
    subst e0
    exact ⟨am, c, _, _, cs, rfl, ham, sq_of hc1, hcE, k⟩
end
end Trav
namespace Trav
open LsRun (Leg Spot Reading)
open LsGeo (Pt)
open RunBook (Book knownAt numberMay mayReach)
open TravSpec (Call asks step)
theorem told_mem {m : Int × Int} {c0 : SlG} {cs : List SlG} {w : Nat} {l : List SlG} (h : toldG m c0 (c0 :: cs) w = some l) : (∀ s ∈ l, s ∈ c0 :: cs) ∧ l.length ≤ 2 := by
  unfold toldG at h
  split at h
  · rw [← Option.some.inj h]
    exact ⟨fun s hs => absurd hs List.not_mem_nil, by decide⟩
  · split at h
    · rw [← Option.some.inj h]
      exact ⟨fun s hs => by rw [List.mem_singleton.mp hs]; exact best_mem, by show 1 ≤ 2; decide⟩
    · split at h
      · rw [← Option.some.inj h]
        exact ⟨pair_mem, pairL_len _⟩
      · cases h
def rowS (s : SlG) : List Int := [(s.1.1 : Int), (s.1.2.kind : Int), (s.1.2.place : Int)]
theorem rows_slip (l : List SlG) : (l.map (·.1)).flatMap TravSpec.slipNums = l.flatMap rowS := by
  rw [List.flatMap_map]
  rfl
theorem rowS_len : ∀ L : List SlG, (L.flatMap rowS).length = 3 * L.length
  | [] => rfl
  | a :: L => by
    rw [List.flatMap_cons, List.length_append, rowS_len L, List.length_cons]
    show 3 + _ = _
    omega
section
variable {P : Program} {w : World} {K : PySem.W.Frag} {mg : Str → Option Value} {base : Heap} {σ : L2.St} {H : Hp} {ta tb tc te : TE} {D : Ends} {tz tu : TS} {x y z u v : V}
theorem sc_explain : FnScope ["office", "numbers", "number", "wide", "error", "run", "miss", "chosen", "told", "leg", "kind", "place", "gain_east", "gain_north"] ["office", "numbers"] (defScope s_explain) := ⟨rfl, rfl, rfl, by decide +kernel, rfl, by decide +kernel, by decide +kernel⟩
theorem ok_explain (T : Txt K mg) : Def P w K mg base CX0 6 "explain" ["office", "numbers"] (spAsk K 2 (c2 .explain)) := by
  refine T.def_ 95 81 rfl rfl rfl rfl rfl sc_explain (fun _ _ _ _ _ _ us hl => match us, hl with | [_, _], _ => rfl) (fun vs H Q E h => by first | (obtain ⟨_, rfl, _⟩ := h; rfl) | (obtain ⟨_, _, rfl, _⟩ := h; rfl) | (obtain ⟨_, _, _, rfl, _⟩ := h; rfl) | (obtain ⟨_, _, _, _, rfl, _⟩ := h; rfl) | (obtain ⟨_, _, _, _, _, rfl, _⟩ := h; rfl) | (obtain ⟨_, _, _, _, _, _, rfl, _⟩ := h; rfl) | (obtain ⟨_, _, _, _, _, _, _, rfl, _⟩ := h; rfl) | (obtain ⟨_, _, _, _, _, _, _, _, rfl, _⟩ := h; rfl) | (obtain ⟨_, _, _, _, _, _, _, _, _, rfl, _⟩ := h; rfl) | (obtain ⟨_, _, _, _, _, _, _, _, _, _, rfl, _⟩ := h; rfl) | (obtain ⟨_, _, _, _, _, _, _, _, _, _, _, rfl, _⟩ := h; rfl) | (obtain ⟨_, _, _, _, _, _, _, _, _, _, _, _, rfl, _⟩ := h; rfl) | (obtain ⟨_, _, _, _, _, _, _, _, _, _, _, _, _, rfl, _⟩ := h; rfl) | (obtain ⟨_, _, _, _, _, _, _, _, _, _, _, _, _, _, rfl, _⟩ := h; rfl) | (obtain ⟨_, _, _, _, _, _, _, _, _, _, _, _, _, _, _, rfl, _⟩ := h; rfl) | (obtain ⟨_, _, _, _, _, _, _, _, _, _, _, _, _, _, _, _, rfl, _⟩ := h; rfl) | (obtain ⟨_, _, _, _, _, _, _, _, _, _, _, _, _, _, _, _, _, rfl, _⟩ := h; rfl) | (obtain ⟨_, _, _, _, _, _, _, _, _, _, _, _, _, _, _, _, _, _, rfl, _⟩ := h; rfl) | (obtain ⟨_, _, _, _, _, _, _, _, _, _, _, _, _, _, _, _, _, _, _, rfl, _⟩ := h; rfl)) (fun f cdv A outer s H vs Q E hr h => ⟨_, PSs.nox (pss_cons (ps_asg (pv 1) (pg_unl rfl (pgs_cons (pg_name (i := 2) sc_explain.nd rfl (Or.inl rfl)) (pgs_cons (pg_name (i := 3) sc_explain.nd rfl (Or.inl rfl)) pgs_nil)))) (pss_cons (ps_if (pt_cmpR op_gt (pv 3) (pe_gi (T.int 147 rfl)) (nomark _)) (pss_one (ps_ret (pe_lst (pa_cons (pe_gi (T.int 148 rfl)) pa_nil)))) pss_nil) (pss_cons (ps_set (i := 4) sc_explain.nd rfl (Or.inl rfl) (pe_cd (ok_arrived_error T) hr pass0 (pa_cons (pv 0) (pa_cons (pv 2) pa_nil)))) (pss_cons (ps_if (pt_cmpR op_gt (pe_callB call_len (by rfl) (T.free 160 rfl) (by decide +kernel) (pa_cons (pv 4) pa_nil)) pe_int (nomark _)) (pss_one (ps_ret (pv 4))) pss_nil) (pss_cons (ps_set (i := 5) sc_explain.nd rfl (Or.inl rfl) (pe_ix ix_list (pe_fld (pe_fld (pv 0) rfl) rfl) (pv 2) (fun _ _ => rfl))) (pss_cons (ps_set (i := 6) sc_explain.nd rfl (Or.inl rfl) (pe_cd (ok_miss_of T) hr pass0 (pa_cons (pe_fld (pv 0) rfl) (pa_cons (pv 5) pa_nil)))) (pss_cons (ps_set (i := 7) sc_explain.nd rfl (Or.inl rfl) (pe_cd (ok_slips_told T) hr pass0 (pa_cons (pv 6) (pa_cons (pe_cd (ok_slips_of T) hr pass0 (pa_cons (pv 5) pa_nil)) (pa_cons (pv 3) pa_nil))))) (pss_cons (ps_if (pt_cmpR op_isN (pv 7) pe_non (nomark _)) (pss_one (ps_ret (pe_lst (pa_cons (pe_gi (T.int 150 rfl)) pa_nil)))) pss_nil) (pss_cons (ps_set (i := 8) sc_explain.nd rfl (Or.inl rfl) (pe_lst (pa_cons (pe_callB call_len (by rfl) (T.free 160 rfl) (by decide +kernel) (pa_cons (pv 7) pa_nil)) pa_nil))) (pss_cons (ps_for PassesOwn.never rfl (pi_list (pv 7)) (pg_tup rfl (pgs_cons (pg_name (i := 9) sc_explain.nd rfl (Or.inl rfl)) (pgs_cons (pg_name (i := 10) sc_explain.nd rfl (Or.inl rfl)) (pgs_cons (pg_name (i := 11) sc_explain.nd rfl (Or.inl rfl)) (pgs_cons (pg_name (i := 12) sc_explain.nd rfl (Or.inl rfl)) (pgs_cons (pg_name (i := 13) sc_explain.nd rfl (Or.inl rfl)) pgs_nil)))))) (pss_one (ps_expr (pe_bm PySem.F.plainAttrs_list PySem.F.slot_list_extend PySem.F.type_list_extend mt_extend (pv 8) (pa_cons (pe_lst (pa_cons (pv 9) (pa_cons (pv 10) (pa_cons (pv 11) pa_nil)))) pa_nil))))) (pss_one (ps_ret (pe_op op_cat (pv 8) (pe_callTy call_list_of (by rfl) (T.free 161 rfl) (by decide +kernel) (pa_cons (pe_cd (ok_missed_with T) hr pass0 (pa_cons (pv 6) (pa_cons (pv 7) pa_nil))) pa_nil))))))))))))))), ?_⟩)
  obtain ⟨o, nn, B, as, rfl, hO, hG, hn, hl, k⟩ := h
  obtain ⟨t, wd, rfl⟩ := two_arg hl
  refine Sv.go (sv_unl2 (ev_var rfl) hn ?_)
  have k : Ret (NewLn H (iv (ansN (asks B (.explain t wd))))) H Q := k
  refine sv_when (b := decide (100000 < wd)) (et_test (ev_rel (f := fun i j => decide (i > j)) (ev_var rfl) ev_c (by rw [Bool.eq_iff_iff]; simp only [decide_eq_true_eq]; omega))) (fun hc => ?_) fun hc => ?_
  · have e : asks B (.explain t wd) = LsAns.says (-1) := if_pos (of_decide_eq_true hc)
    refine sv_no ev_c (Ex.refl _) ?_ k
    rw [e]
    rfl
  have hwd := of_decide_eq_false hc
  have e : asks B (.explain t wd) = TravSpec.ofClosed B t fun r a b => match LsRun.explain r.legs (LsRun.miss a b r.legs) ((wd * wd : Nat) : Int) with
    | none => LsAns.says (-4)
    | some s => LsAns.tells (s.length : Int) (s.flatMap TravSpec.slipNums ++ [(LsRun.missWith r.legs (LsRun.miss a b r.legs) s).1, (LsRun.missWith r.legs (LsRun.miss a b r.legs) s).2]) := if_neg hwd
  rw [e] at k
  refine sv_err hO hG (ev_var rfl) (ev_var rfl) (fun v => rfl) (Ex.refl _) (fun h0 => ?_) fun h0 v H1 e1 => ?_
  · rcases err_cases hG t with ⟨_, h⟩ | ⟨h, _⟩
    · rw [h] at k
      exact k
    · exact absurd h h0
  rcases err_cases hG t with ⟨h, _⟩ | ⟨_, r, a, b, hr, hc, ha, hb, sa, sb, hf⟩
  · exact absurd h0 h
  rw [hf] at k
  have hsr := evp_runs_ok hG hr
  have hsm := smM sa sb hsr
  obtain ⟨c0, cs, hcs⟩ := slips_some (closed_pos hc) hsr.l
  have hss := slipsG_small hsr.l
  have hsl := rowG_len hsr.l
  have hn24 := hsr.n
  rw [hcs] at hss hsl
  rw [told_eq hcs] at k
  obtain ⟨v1, hv1, hR⟩ := ev_run T (hO.mono e1) (ta := tVar 0) (tb := tVar 2) (σ := [some (.ref o), some (.ref nn), some (.int (t : Int)), some (.int (wd : Int)), some v, none, none, none, none, none, none, none, none, none]) (ev_var rfl) (ev_var rfl) hr
  refine sv_set hv1 ?_
  obtain ⟨dx, bb, h1, hB⟩ := hO.mono e1
  refine sv_setP (P := TpI K (LsRun.miss a b r.legs)) (evp_call (ea_cons (ev_off T (ev_var rfl) h1) (ea_cons (ev_var rfl) ea_nil)) fun H2 e Q k => ⟨_, v1, r, a, b, rfl, stay_RunAt _ _ _ _ e hR, hsr, (knAt_of hB ha).mono e, (knAt_of hB hb).mono e, k⟩) fun um H2 e2 hu => ?_
  obtain ⟨am, rfl, ham⟩ := hu
  refine sv_setP (P := OptL K (toldG (LsRun.miss a b r.legs) c0 (c0 :: cs) wd)) (evp_callP (R := Each [fun v _ => v = .ref am, LstOf ((c0 :: cs).map (SlAt K)), fun v _ => v = .int (wd : Int)]) (eap_cons (ev_p (ev_var rfl)) (eap_cons (evp_call (P := LstOf ((c0 :: cs).map (SlAt K))) (ea_cons (ev_var rfl) ea_nil) fun H3 e Q k => ⟨v1, r, rfl, stay_RunAt _ _ _ _ (e2.trans e) hR, hsr, fun v H4 e4 h4 => k v H4 e4 (by rw [← hcs]; exact h4.of)⟩) (eap_cons (ev_p (ev_var rfl)) eap_nil stay_eq) (stay_LstOf (stay_map stay_SlAt))) stay_eq) ?_) fun uc H3 e3 h3 => ?_
  · rintro ws H3 e ⟨_, _, rfl, rfl, _, _, rfl, ⟨c, xs, rfl, hc1, hcE⟩, _, _, rfl, rfl, e0⟩ Q k
    have e0 : _ = [] := e0
    subst e0
    exact ⟨am, c, _, c0, cs, xs, wd, rfl, ex_t e ham, ⟨Nat.le_trans hsm.x (by decide), Nat.le_trans hsm.y (by decide)⟩, sq_of hc1, hcE, hss, by omega, by omega, k⟩
  cases ht : toldG (LsRun.miss a b r.legs) c0 (c0 :: cs) wd with
  | none =>
    rw [ht] at h3 k
    have h3 : uc = .non := h3
    subst h3
    refine sv_when (b := true) (et_is (et_isN (ev_var rfl)) (by rfl)) (fun _ => ?_) (fun h => absurd h (by decide))
    exact sv_no ev_c ((e1.trans e2).trans e3) rfl k
  | some l =>
    rw [ht] at h3 k
    obtain ⟨hmem, hl2⟩ := told_mem ht
    obtain ⟨lp, ws, rfl, hlp, hE⟩ := h3
    refine sv_when (b := false) (et_is (et_isN (ev_var rfl)) (by rfl)) (fun h => absurd h (by decide)) fun _ => ?_
    have hok : ∀ s ∈ l, okG r.legs s := fun s hs => ok_slips r.legs s (by rw [hcs]; exact hmem s hs)
    simp only [Option.map_some] at k
    rw [missWith_ok hok, rows_slip, List.length_map] at k
    have hwl := each_lenM hE
    refine sv_lstOf (Ps := [fun v _ => v = V.int (ws.length : Int)]) (eap_cons (ev_p (ev_len1 (ev_var rfl) (sq_of hlp))) eap_nil stay_eq) (fun P hP => by
      rw [List.mem_singleton.mp hP]
      exact stay_eq) (by show 1 ≤ 100000; decide) fun tp vs0 H4 htp0 e4 htp hE3 => ?_
    obtain ⟨w0, r0, rfl, rfl, e0⟩ := hE3
    have e0 : r0 = [] := e0
    subst e0
    refine sv_forM (xs := ws) (ev_var rfl) (sq_of (e4 _ _ hlp)) (fun j σ' H' => ∃ (x0 x1 x2 x3 x4 : Option V), σ' = [some (.ref o), some (.ref nn), some (.int (t : Int)), some (.int (wd : Int)), some v, some v1, some (.ref am), some (.ref lp), some (.ref tp), x0, x1, x2, x3, x4] ∧ Ex H3 H' ∧ H' tp = some (.lst (V.int (ws.length : Int) :: iv ((l.take j).flatMap rowS)))) ?_ ?_ ?_ ?_
    · rintro j σ' H' ⟨x0, x1, x2, x3, x4, rfl, e', _⟩
      exact sq_of (e' _ _ hlp)
    · intro H5 e5
      exact ⟨none, none, none, none, none, rfl, e4.trans e5, e5 _ _ htp⟩
    · rintro j x σ' H' hj ⟨x0, x1, x2, x3, x4, rfl, e', htl⟩
      obtain ⟨sd, hsd, hsx⟩ := each_mem (each_stay (stay_map stay_SlAt) _ _ _ e' hE) hj
      obtain ⟨ax, rfl, hax⟩ := hsx
      refine ⟨ax, _, rfl, hax, rfl, _, _, rfl, _, _, rfl, _, _, rfl, _, _, rfl, _, _, rfl, rfl, ?_⟩
      have hfl : (iv ((l.take j).flatMap rowS)).length ≤ 6 := by
        unfold iv
        rw [List.length_map, rowS_len, List.length_take]
        omega
      refine s_extI (ys := iv (rowS sd)) htp0 e' htl (ev_var rfl) (evp_li (ea_cons (ev_var rfl) (ea_cons (ev_var rfl) (ea_cons (ev_var rfl) ea_nil))) (by show 3 ≤ 100000; decide)) (by rw [List.length_cons]; show _ + 3 ≤ 100000; omega) fun H5 gr ht5 => ⟨_, _, _, _, _, rfl, gr.ex, ?_⟩
      rw [ht5, take_snoc hsd, List.flatMap_append, List.flatMap_singleton]
      unfold iv
      rw [List.map_append]
      rfl
    · rintro σ' H' ⟨x0, x1, x2, x3, x4, rfl, e', htl⟩
      rw [hwl, List.take_length] at htl
      have hfl : (iv (l.flatMap rowS)).length ≤ 6 := by
        unfold iv
        rw [List.length_map, rowS_len]
        omega
      refine Sv.go (sv_retP (evp_catN (evp_own rfl htl) (evp_list (xs := [.int (missG (LsRun.miss a b r.legs) l).1, .int (missG (LsRun.miss a b r.legs) l).2]) (evp_call (P := TpI K (missG (LsRun.miss a b r.legs) l)) (ea_cons (ev_var rfl) (ea_cons (ev_var rfl) ea_nil)) fun H5 e Q k => ⟨am, lp, _, l, ws, rfl, ex_t ((e3.trans e').trans e) ham, sq_of (e _ _ (e' _ _ hlp)), each_stay (stay_map stay_SlAt) _ _ _ (e'.trans e) hE, k⟩)) (by rw [List.length_cons]; show _ + 2 ≤ 100000; omega)) fun v5 H5 e5 h5 => k v5 H5 (((e1.trans e2).trans e3).trans (e'.trans e5)) ?_)
      have ea : iv (ansN (LsAns.tells (l.length : Int) (l.flatMap rowS ++ [(missG (LsRun.miss a b r.legs) l).1, (missG (LsRun.miss a b r.legs) l).2]))) = (V.int (l.length : Int) :: iv (l.flatMap rowS)) ++ [.int (missG (LsRun.miss a b r.legs) l).1, .int (missG (LsRun.miss a b r.legs) l).2] := by
        unfold iv ansN LsAns.tells
        simp only [List.map_nil, List.append_nil, List.map_cons, List.map_append, List.cons_append]
      rw [ea]
      exact h5.back (((e1.trans e2).trans e3).trans e')
end
end Trav
namespace Trav
open LsRun (Leg Spot Reading)
open LsGeo (Pt)
open RunBook (Book knownAt numberMay mayReach)
open TravSpec (Call asks step)
/-! ## the mean of a point's places -/
theorem filterMap_of {α β : Type} {f : α → Option β} {c : α → Bool} {d : β} : ∀ {l : List α}, (∀ x ∈ l, (f x).isSome = c x) → l.filterMap f = (l.filter c).map fun x => (f x).getD d
  | [], _ => rfl
  | x :: l, h => by
    have ih := filterMap_of (f := f) (c := c) (d := d) (l := l) fun y hy => h y (List.mem_cons_of_mem _ hy)
    have hx := h x (List.mem_cons_self ..)
    rw [List.filterMap_cons]
    cases e : f x with
    | none =>
      rw [e] at hx
      have hx : c x = false := hx.symm
      rw [List.filter_cons_of_neg (by rw [hx]; decide)]
      exact ih
    | some y =>
      rw [e] at hx
      have hx : c x = true := hx.symm
      rw [List.filter_cons_of_pos hx, List.map_cons, e, ih]
      rfl
def passC (n : Nat) (r : RunBook.Run) : Bool := r.closed && (TravSpec.placeNo r n).isSome
def passL (B : Book) (n : Nat) : List (RunBook.Run × Spot) := (B.runs.filter (passC n)).map fun r => (r, (TravSpec.placeBy B r n).getD (0, 0))
theorem spots_pass {B : Book} {n : Nat} (hG : Good B) : TravSpec.spotsOf B n = (passL B n).map fun x => x.2 := by
  unfold TravSpec.spotsOf passL
  rw [filterMap_of (c := passC n) (d := (0, 0)), List.map_map]
  · rfl
  · intro r hr
    obtain ⟨a, b, _, _, _, _, h⟩ := placeBy_of (n := n) hG hr
    rw [h]
    unfold passC
    by_cases hc : r.closed = true
    · rw [if_pos hc, hc, Option.isSome_map, Bool.true_and]
    · rw [if_neg hc]
      have hc : r.closed = false := by simpa using hc
      rw [hc]
      rfl
theorem middle_is (L : List (RunBook.Run × Spot)) : TravSpec.middle (L.map fun x => x.2) = (sumQ (L.map fun x => x.2.1) / (L.length : Rat), sumQ (L.map fun x => x.2.2) / (L.length : Rat)) := by
  unfold TravSpec.middle
  rw [sumQ_eq, sumQ_eq, List.map_map, List.map_map, List.length_map]
  rfl
section
variable {P : Program} {w : World} {K : PySem.W.Frag} {mg : Str → Option Value} {base : Heap} {σ : L2.St} {H : Hp} {ta tb tc te : TE} {D : Ends} {tz tu : TS} {x y z u v : V}
theorem sc_tell_mean : FnScope ["office", "numbers", "point", "passing", "east", "north", "run"] ["office", "numbers"] (defScope s_tell_mean) := ⟨rfl, rfl, rfl, by decide +kernel, rfl, by decide +kernel, by decide +kernel⟩
theorem ok_tell_mean (T : Txt K mg) : Def P w K mg base CX0 6 "tell_mean" ["office", "numbers"] (spAsk K 1 (c1 .mean)) := by
  refine T.def_ 101 87 rfl rfl rfl rfl rfl sc_tell_mean (fun _ _ _ _ _ _ us hl => match us, hl with | [_, _], _ => rfl) (fun vs H Q E h => by first | (obtain ⟨_, rfl, _⟩ := h; rfl) | (obtain ⟨_, _, rfl, _⟩ := h; rfl) | (obtain ⟨_, _, _, rfl, _⟩ := h; rfl) | (obtain ⟨_, _, _, _, rfl, _⟩ := h; rfl) | (obtain ⟨_, _, _, _, _, rfl, _⟩ := h; rfl) | (obtain ⟨_, _, _, _, _, _, rfl, _⟩ := h; rfl) | (obtain ⟨_, _, _, _, _, _, _, rfl, _⟩ := h; rfl) | (obtain ⟨_, _, _, _, _, _, _, _, rfl, _⟩ := h; rfl) | (obtain ⟨_, _, _, _, _, _, _, _, _, rfl, _⟩ := h; rfl) | (obtain ⟨_, _, _, _, _, _, _, _, _, _, rfl, _⟩ := h; rfl) | (obtain ⟨_, _, _, _, _, _, _, _, _, _, _, rfl, _⟩ := h; rfl) | (obtain ⟨_, _, _, _, _, _, _, _, _, _, _, _, rfl, _⟩ := h; rfl) | (obtain ⟨_, _, _, _, _, _, _, _, _, _, _, _, _, rfl, _⟩ := h; rfl) | (obtain ⟨_, _, _, _, _, _, _, _, _, _, _, _, _, _, rfl, _⟩ := h; rfl) | (obtain ⟨_, _, _, _, _, _, _, _, _, _, _, _, _, _, _, rfl, _⟩ := h; rfl) | (obtain ⟨_, _, _, _, _, _, _, _, _, _, _, _, _, _, _, _, rfl, _⟩ := h; rfl) | (obtain ⟨_, _, _, _, _, _, _, _, _, _, _, _, _, _, _, _, _, rfl, _⟩ := h; rfl) | (obtain ⟨_, _, _, _, _, _, _, _, _, _, _, _, _, _, _, _, _, _, rfl, _⟩ := h; rfl) | (obtain ⟨_, _, _, _, _, _, _, _, _, _, _, _, _, _, _, _, _, _, _, rfl, _⟩ := h; rfl)) (fun f cdv A outer s H vs Q E hr h => ⟨_, PSs.nox (pss_cons (ps_set (i := 2) sc_tell_mean.nd rfl (Or.inr rfl) (pe_ix ix_list (pv 1) pe_int (fun _ _ => rfl))) (pss_cons (ps_if (pt_not (pt_val (pe_cd (ok_is_point T) hr pass0 (pa_cons (pv 2) pa_nil)))) (pss_one (ps_ret (pe_lst (pa_cons (pe_gi (T.int 148 rfl)) pa_nil)))) pss_nil) (pss_cons (ps_setLc (i := 3) (own := [("run", 6)]) (g := gName 6) rfl sc_tell_mean.nd rfl rfl (sw_true rfl rfl rfl (by decide +kernel)) (pi_list (pe_fld (pe_fld (pv 0) rfl) rfl)) (blkOk_by (own := [("run", 6)]) (N := ["office", "numbers", "point", "passing", "east", "north", "run"]) (sc := defScope s_tell_mean) (by decide +kernel)) (fun _ _ _ _ _ => pg_name (i := 6) sc_tell_mean.nd rfl (Or.inl rfl)) (fun _ _ _ _ _ => by exact pts_one (PW.pt (pw_and (pt_val (pe_cd (ok_has_arrived T) hr pass0 (pa_cons (pv 6) pa_nil))) (pw_and1 (pt_val (pe_cd (ok_passes_by T) hr pass0 (pa_cons (pv 6) (pa_cons (pv 2) pa_nil)))))))) (fun _ _ _ _ _ => by exact (pv 6))) (pss_cons (ps_if (pt_cmpR op_eq (pe_callB call_len (by rfl) (T.free 160 rfl) (by decide +kernel) (pa_cons (pv 3) pa_nil)) pe_int (nomark _)) (pss_one (ps_ret (pe_lst (pa_cons (pe_gi (T.int 150 rfl)) pa_nil)))) pss_nil) (pss_cons (ps_asg (pe_cd (ok_mean_place T) hr pass0 (pa_cons (pe_fld (pv 0) rfl) (pa_cons (pv 3) (pa_cons (pv 2) pa_nil)))) (pg_tup rfl (pgs_cons (pg_name (i := 4) sc_tell_mean.nd rfl (Or.inl rfl)) (pgs_cons (pg_name (i := 5) sc_tell_mean.nd rfl (Or.inl rfl)) pgs_nil)))) (pss_one (ps_ret (pe_op op_cat (pe_op op_cat (pe_lst (pa_cons (pe_callB call_len (by rfl) (T.free 160 rfl) (by decide +kernel) (pa_cons (pv 3) pa_nil)) pa_nil)) (pe_callTy call_list_of (by rfl) (T.free 161 rfl) (by decide +kernel) (pa_cons (pv 4) pa_nil))) (pe_callTy call_list_of (by rfl) (T.free 161 rfl) (by decide +kernel) (pa_cons (pv 5) pa_nil)))))))))), ?_⟩)
  obtain ⟨o, nn, B, as, rfl, hO, hG, hn, hl, k⟩ := h
  obtain ⟨n, rfl⟩ := one_arg hl
  refine Sv.go (sv_set (ev_n0 (ev_var rfl) hn) ?_)
  have k : Ret (NewLn H (iv (ansN (asks B (.mean n))))) H Q := k
  refine sv_when (b := !numberMay n) (et_pt (ev_var rfl)) (fun hc => ?_) fun hc => ?_
  · have hc : numberMay n = false := by simpa using hc
    have e : asks B (.mean n) = LsAns.says (-1) := if_pos hc
    refine sv_no ev_c (Ex.refl _) ?_ k
    rw [e]
    rfl
  have hc : ¬ numberMay n = false := by simpa using hc
  have e : asks B (.mean n) = match TravSpec.spotsOf B n with
    | [] => LsAns.says (-4)
    | x :: l => LsAns.tells ((x :: l).length : Int) (TravSpec.spotNums (TravSpec.middle (x :: l))) := if_neg hc
  rw [e, spots_pass hG] at k
  obtain ⟨l, vs, q1, q2, q3, q4⟩ := off_runs T hO (ta := tVar 0) (σ := [some (.ref o), some (.ref nn), some (.int (n : Int)), none, none, none, none]) (ev_var rfl)
  have hrn := hG.rn
  refine sv_setP (evp_lcE (Pr := RunAt K) (L := B.runs) (passC n) q1 (sq_of q2) q3 stay_RunAt (by omega) (fun x => rfl) (fun r x hr hx => ?_) fun x => ev_var rfl) fun u H1 e1 hu => ?_
  · have hsr := (hG.rs r hr).1
    exact et_and (et_test (ev_callV (ea_cons (ev_var rfl) ea_nil) fun H3 e Q k => ⟨x, r, rfl, stay_RunAt _ _ _ _ e hx, hsr.n, k⟩)) fun _ => et_test (ev_callV (ea_cons (ev_var rfl) (ea_cons (ev_var rfl) ea_nil)) fun H3 e Q k => ⟨x, r, n, rfl, stay_RunAt _ _ _ _ e hx, hsr.n, k⟩)
  obtain ⟨p, ws, rfl, hp0, hp, hE⟩ := hu
  have hwl : ws.length = (passL B n).length := by
    have h := each_len hE
    rw [List.length_map] at h
    unfold passL
    rw [List.length_map, h]
  have h16 : (passL B n).length ≤ 16 := by
    unfold passL
    rw [List.length_map]
    exact Nat.le_trans (List.length_filter_le _ _) hrn
  have hE2 : Each ((passL B n).map fun x => RunAt K x.1) ws H1 := by
    unfold passL
    rw [List.map_map]
    exact hE
  refine sv_when (b := decide ((ws.length : Int) = 0)) (et_test (ev_eqI (ev_len1 (ev_var rfl) (sq_of hp)) ev_c)) (fun hq => ?_) fun hq => ?_
  · have hq := of_decide_eq_true hq
    have h0 : passL B n = [] := List.length_eq_zero_iff.mp (by omega)
    rw [h0] at k
    exact sv_no ev_c e1 rfl k
  have hq := of_decide_eq_false hq
  have k : Ret (NewLn H (iv (ansN (LsAns.tells (ws.length : Int) (TravSpec.spotNums (TravSpec.middle ((passL B n).map fun x => x.2))))))) H Q := by
    have hl : (((passL B n).map fun x => x.2).length : Int) = (ws.length : Int) := by rw [List.length_map, hwl]
    cases hs : (passL B n).map fun x => x.2 with
    | nil =>
      rw [hs] at hl
      have hl : (0 : Int) = (ws.length : Int) := hl
      omega
    | cons s r =>
      rw [hs] at hl k
      rw [← hl]
      exact k
  rw [middle_is] at k
  obtain ⟨dx, bb, h1, hB⟩ := hO.mono e1
  refine sv_unpE2 (evp_call (P := TpE K [FracAt K (sumQ ((passL B n).map fun x => x.2.1) / ((passL B n).length : Rat)), FracAt K (sumQ ((passL B n).map fun x => x.2.2) / ((passL B n).length : Rat))]) (ea_cons (ev_off T (ev_var rfl) h1) (ea_cons (ev_var rfl) (ea_cons (ev_var rfl) ea_nil))) fun H2 e Q k => ⟨_, p, n, passL B n, ws, rfl, sq_of (e _ _ hp), each_stay (stay_map fun x : RunBook.Run × Spot => stay_RunAt x.1) _ _ _ e hE2, by omega, h16, fun x hx => ?_, fun v H4 e4 h4 => k v H4 e4 (tpE_of h4)⟩) fun x y H2 e2 hx hy => ?_
  · obtain ⟨r, hr, rfl⟩ := List.mem_map.mp hx
    obtain ⟨hrB, hcr⟩ := List.mem_filter.mp hr
    obtain ⟨a, b, ha, hb, sa, sb, hpb⟩ := placeBy_of (n := n) hG hrB
    unfold passC at hcr
    obtain ⟨hc1, hc2⟩ := Bool.and_eq_true_iff.mp hcr
    rw [if_pos hc1] at hpb
    obtain ⟨i, hi⟩ := Option.isSome_iff_exists.mp hc2
    rw [hi] at hpb
    refine ⟨(hG.rs r hrB).1, a, b, i, (knAt_of hB ha).mono e, (knAt_of hB hb).mono e, sa, sb, closed_pos hc1, hi, ?_⟩
    show (TravSpec.placeBy B r n).getD (0, 0) = _
    rw [hpb]
    rfl
  exact sv_retP (evp_two (ev_len1 (ev_var rfl) (sq_of (e2 _ _ hp))) (evp_of (ev_var rfl) fun H3 e3 => stay_FracAt _ _ _ _ e3 hx) (evp_of (ev_var rfl) fun H3 e3 => stay_FracAt _ _ _ _ e3 hy)) fun v H3 e3 h3 => k v H3 ((e1.trans e2).trans e3) (h3.back (e1.trans e2))
end
end Trav
namespace Trav
open LsRun (Leg Spot Reading)
open LsGeo (Pt)
open RunBook (Book knownAt numberMay mayReach putKnown)
/-! ## the book stays good -/
theorem exch_zero {z : Int} {j : Nat} (hz : z.natAbs ≤ 99999) (hj : j + 1 < LsRun.digitsIn z.natAbs) (h : LsRun.exchanged z j = 0) : z = 0 := by
  have hd := (digitsIn_le hz).2
  have key : ∀ n : Nat, n ≤ 99999 → j ≤ 3 → (n : Int) + ((LsRun.digitAt n j : Int) - (LsRun.digitAt n (j + 1) : Int)) * ((10 ^ (j + 1) : Nat) : Int) + ((LsRun.digitAt n (j + 1) : Int) - (LsRun.digitAt n j : Int)) * ((10 ^ j : Nat) : Int) = 0 → n = 0 := by
    intro n hn hj
    unfold LsRun.digitAt
    have hj : j = 0 ∨ j = 1 ∨ j = 2 ∨ j = 3 := by omega
    rcases hj with rfl | rfl | rfl | rfl <;> simp only [Nat.reducePow, Nat.reduceAdd] <;> omega
  rw [exch_eq] at h
  have h0 : z.natAbs = 0 := by
    refine key z.natAbs hz (by omega) ?_
    split at h
    · omega
    · exact h
  omega
theorem places_big {z : Int} {j : Nat} (hj : j < LsRun.digitsIn z.natAbs - 1) : z ≠ 0 := by
  intro h
  subst h
  have e : LsRun.digitsIn (0 : Int).natAbs = 1 := by decide
  rw [e] at hj
  omega
theorem reading_leg {g : Leg} (h : SmL g) {x : Reading} (hx : x ∈ LsRun.readings g) (h5 : x.kind ≠ 5) (h6 : x.kind ≠ 6) : SmL { g with dx := x.dx, dy := x.dy } := by
  rw [readings_all] at hx
  have hx' := (List.mem_filter.mp hx).1
  have h1 := h.x
  have h2 := h.y
  have h3 := h.xy
  unfold allR at hx'
  rcases List.mem_append.mp hx' with hx' | hx'
  · rcases List.mem_append.mp hx' with hx' | hx'
    · simp only [List.mem_cons, List.not_mem_nil, or_false] at hx'
      rcases hx' with rfl | rfl | rfl | rfl | rfl | rfl
      · exact ⟨by show (-g.dx).natAbs ≤ 99999; omega, by show (-g.dy).natAbs ≤ 99999; omega, h.l0, h.l1, by show ¬(-g.dx = 0 ∧ -g.dy = 0); omega⟩
      · exact ⟨by show (-g.dx).natAbs ≤ 99999; omega, h2, h.l0, h.l1, by show ¬(-g.dx = 0 ∧ g.dy = 0); omega⟩
      · exact ⟨h1, by show (-g.dy).natAbs ≤ 99999; omega, h.l0, h.l1, by show ¬(g.dx = 0 ∧ -g.dy = 0); omega⟩
      · exact ⟨h2, h1, h.l0, h.l1, by show ¬(g.dy = 0 ∧ g.dx = 0); omega⟩
      · exact absurd rfl h5
      · exact absurd rfl h6
    · obtain ⟨j, hj, rfl⟩ := List.mem_map.mp hx'
      have hj : j < LsRun.digitsIn g.dx.natAbs - 1 := List.mem_range.mp hj
      have e1 := exch_small (j := j) h1 (by omega)
      have e2 : LsRun.exchanged g.dx j ≠ 0 := fun e => places_big hj (exch_zero h1 (by omega) e)
      exact ⟨e1, h2, h.l0, h.l1, fun e => e2 e.1⟩
  · obtain ⟨j, hj, rfl⟩ := List.mem_map.mp hx'
    have hj : j < LsRun.digitsIn g.dy.natAbs - 1 := List.mem_range.mp hj
    have e1 := exch_small (j := j) h2 (by omega)
    have e2 : LsRun.exchanged g.dy j ≠ 0 := fun e => places_big hj (exch_zero h2 (by omega) e)
    exact ⟨h1, e1, h.l0, h.l1, fun e => e2 e.2⟩
theorem put_perm {n : Nat} {p : Pt} : ∀ (l : List (Nat × Pt)), (putKnown n p l).Perm ((n, p) :: l)
  | [] => List.Perm.refl _
  | x :: l => by
    show (if n < x.1 then (n, p) :: x :: l else x :: putKnown n p l).Perm _
    split
    · exact List.Perm.refl _
    · exact ((put_perm l).cons x).trans (List.Perm.swap _ _ _)
theorem put_sorted {n : Nat} {p : Pt} : ∀ (l : List (Nat × Pt)), (l.map (·.1)).Pairwise (· < ·) → n ∉ l.map (·.1) → ((putKnown n p l).map (·.1)).Pairwise (· < ·)
  | [], _, _ => List.pairwise_singleton _ _
  | x :: l, h, hn => by
    rw [List.map_cons] at h hn
    obtain ⟨h1, h2⟩ := List.pairwise_cons.mp h
    have hx : n ≠ x.1 := fun e => hn (by rw [e]; exact List.mem_cons_self ..)
    show ((if n < x.1 then (n, p) :: x :: l else x :: putKnown n p l).map (·.1)).Pairwise (· < ·)
    split
    · rename_i hlt
      rw [List.map_cons, List.map_cons]
      refine List.pairwise_cons.mpr ⟨fun y hy => ?_, h⟩
      rcases List.mem_cons.mp hy with rfl | hy
      · exact hlt
      · exact Nat.lt_trans hlt (h1 y hy)
    · rename_i hlt
      rw [List.map_cons]
      refine List.pairwise_cons.mpr ⟨fun y hy => ?_, put_sorted l h2 fun e => hn (List.mem_cons_of_mem _ e)⟩
      have hy := ((put_perm (n := n) (p := p) l).map (·.1)).mem_iff.mp hy
      rw [List.map_cons] at hy
      rcases List.mem_cons.mp hy with e | hy
      · rw [e]
        exact Nat.lt_of_le_of_ne (Nat.le_of_not_lt hlt) fun e2 => hx e2.symm
      · exact h1 y hy
theorem may_num {n : Nat} (h : numberMay n = true) : 1 ≤ n ∧ n ≤ 99 := by
  unfold numberMay RunBook.NUMBER at h
  simpa using h
theorem good_known {B : Book} {n x y : Nat} (hG : Good B) (hn : numberMay n = true) (hx : x ≤ 999999) (hy : y ≤ 999999) (hk : (knownAt B n).isSome = false) : Good { B with known := putKnown n ⟨(x : Int), (y : Int)⟩ B.known } := by
  have hp := put_perm (n := n) (p := ⟨(x : Int), (y : Int)⟩) B.known
  have hkn : n ∉ B.known.map (·.1) := by
    rw [knownAt_some] at hk
    exact of_decide_eq_false hk
  have up : ∀ m, (knownAt B m).isSome = true → (knownAt { B with known := putKnown n ⟨(x : Int), (y : Int)⟩ B.known } m).isSome = true := fun m hm => by
    rw [knownAt_some] at hm ⊢
    refine decide_eq_true ((hp.map (·.1)).mem_iff.mpr ?_)
    exact List.mem_cons_of_mem _ (of_decide_eq_true hm)
  refine ⟨put_sorted _ hG.kn hkn, fun z hz => ?_, hG.rn, fun r hr => ?_⟩
  · rcases List.mem_cons.mp (hp.mem_iff.mp hz) with rfl | hz
    · obtain ⟨h1, h2⟩ := may_num hn
      exact ⟨h1, h2, ⟨by show (0 : Int) ≤ (x : Int); omega, by show (x : Int) ≤ 999999; omega, by show (0 : Int) ≤ (y : Int); omega, by show (y : Int) ≤ 999999; omega⟩⟩
    · exact hG.kp z hz
  · obtain ⟨h1, h2, h3, h4⟩ := hG.rs r hr
    exact ⟨h1, up _ h2, up _ h3, h4⟩
theorem good_run {B : Book} {a b : Nat} (hG : Good B) (ha : (knownAt B a).isSome = true) (hb : (knownAt B b).isSome = true) (hn : B.runs.length < 16) : Good { B with runs := B.runs ++ [⟨a, b, []⟩] } := by
  refine ⟨hG.kn, hG.kp, by show (B.runs ++ [_]).length ≤ 16; rw [List.length_append]; exact hn, fun r hr => ?_⟩
  rcases List.mem_append.mp hr with hr | hr
  · exact hG.rs r hr
  · rw [List.mem_singleton.mp hr]
    exact ⟨⟨Nat.zero_le _, fun g hg => absurd hg List.not_mem_nil⟩, ha, hb, fun g hg => absurd hg List.not_mem_nil⟩
theorem setRun_is {B : Book} {t : Nat} {r : RunBook.Run} {l : List Leg} (hr : B.runs[t]? = some r) : TravSpec.setRun B t l = { B with runs := B.runs.set t { r with legs := l } } := by
  unfold TravSpec.setRun
  rw [hr]
theorem good_set {B : Book} {t : Nat} {r : RunBook.Run} {l : List Leg} (hG : Good B) (hr : B.runs[t]? = some r) (hn : l.length ≤ 24) (hl : ∀ g ∈ l, SmL g ∧ 1 ≤ g.to_ ∧ g.to_ ≤ 99) : Good (TravSpec.setRun B t l) := by
  rw [setRun_is hr]
  obtain ⟨h1, h2, h3, h4⟩ := hG.rs r (List.mem_of_getElem? hr)
  refine ⟨hG.kn, hG.kp, by show (B.runs.set t _).length ≤ 16; rw [List.length_set]; exact hG.rn, fun q hq => ?_⟩
  rcases List.mem_or_eq_of_mem_set hq with hq | rfl
  · exact hG.rs q hq
  · exact ⟨⟨hn, fun g hg => (hl g hg).1⟩, h2, h3, fun g hg => (hl g hg).2⟩
end Trav
namespace Trav
open LsRun (Leg Spot Reading)
open LsGeo (Pt)
open RunBook (Book knownAt numberMay mayReach putKnown)
/-! ## what stays, what is written -/
def NotT : HO → Prop
  | .tup _ => False
  | .frz _ (.tup _) => False
  | _ => True
/-- all but these stays; what is new was not there -/
structure Fr (S : List Addr) (H H' : Hp) : Prop where
  st : ∀ a u, a ∉ S → H a = some u → H' a = some u
  nw : ∀ a, H' a = none → H a = none
section
variable {K : PySem.W.Frag} {H H1 H2 H' : Hp} {S S' : List Addr} {a b c : Addr} {o u : HO}
theorem Fr.of (e : Ex H H') : Fr S H H' := ⟨fun a u _ h => e a u h, fun _ h => fresh_back e h⟩
theorem Fr.refl : Fr S H H := ⟨fun _ _ _ h => h, fun _ h => h⟩
theorem Fr.then (f : Fr S H H1) (e : Ex H1 H') : Fr S H H' := ⟨fun a u n h => e a u (f.st a u n h), fun a h => f.nw a (fresh_back e h)⟩
theorem Fr.trans (f : Fr S H H1) (g : Fr S H1 H') : Fr S H H' := ⟨fun a u n h => g.st a u n (f.st a u n h), fun a h => f.nw a (g.nw a h)⟩
theorem Fr.upd (f : Fr S H H1) (h : a ∈ S ∨ H a = none) : Fr S H (upd H1 a o) := by
  refine ⟨fun x u n hx => ?_, fun x hx => ?_⟩
  · rw [upd_ne fun e => ?_]
    · exact f.st x u n hx
    · subst e
      rcases h with h | h
      · exact n h
      · rw [h] at hx
        cases hx
  · by_cases e : x = a
    · rw [e, upd_same] at hx
      cases hx
    · rw [upd_ne e] at hx
      exact f.nw x hx
/-- a step that writes only what is S' -/
theorem Fr.step (f : Fr S H H1) (g : Fr S' H1 H') (h : ∀ a ∈ S', a ∈ S ∨ H a = none) : Fr S H H' := ⟨fun a u n hx => g.st a u (fun m => by
  rcases h a m with h | h
  · exact n h
  · rw [h] at hx
    cases hx) (f.st a u n hx), fun a h => f.nw a (g.nw a h)⟩
theorem Fr.sub (f : Fr S H H') (h : ∀ a ∈ S, a ∈ S' ∨ H a = none) : Fr S' H H' := (Fr.refl (S := S')).step f h
/-- nothing of S was there -/
theorem Fr.ex (f : Fr S H H') (h : ∀ a ∈ S, H a = none) : Ex H H' := fun a u hx => f.st a u (fun m => by
  rw [h a m] at hx
  cases hx) hx
theorem fr_one (h : Ex H H1) : Fr [a] H (upd H1 a o) := (Fr.of h).upd (.inl (List.mem_singleton.mpr rfl))
theorem fr_t (f : Fr S H H') (hS : ∀ a ∈ S, ∀ u, H a = some u → NotT u) {xs : List V} (h : SqT K H a xs) : SqT K H' a xs := by
  have ne : ∀ u, H a = some u → ¬ NotT u → a ∉ S := fun u hu hn m => hn (hS a m u hu)
  rcases h with (h | ⟨o, h⟩) | h
  · exact .inl (.inl (f.st a _ (ne _ h id) h))
  · exact .inl (.inr ⟨o, f.st a _ (ne _ h id) h⟩)
  · exact .inr h
theorem KnD.fr {ks : List (Nat × Pt)} {kvs : List (Key × V)} (f : Fr S H H') (hS : ∀ a ∈ S, ∀ u, H a = some u → NotT u) (h : KnD K ks kvs H) : KnD K ks kvs H' := ⟨h.keys, fun x hx => let ⟨t, h1, h2⟩ := h.vals x hx; ⟨t, h1, fr_t f hS h2⟩⟩
theorem each_keep {α : Type} {Pr : α → V → Hp → Prop} : ∀ {L : List α} {vs : List V}, (∀ g v, v ∈ vs → Pr g v H → Pr g v H') → Each (L.map Pr) vs H → Each (L.map Pr) vs H'
  | [], _, _, h => h
  | g :: L, vs, k, ⟨v, r, e, hv, hr⟩ => ⟨v, r, e, k g v (by rw [e]; exact List.mem_cons_self ..) hv, each_keep (fun g' v' hv' => k g' v' (by rw [e]; exact List.mem_cons_of_mem _ hv')) hr⟩
theorem leg_fr {g : Leg} {v : V} (f : Fr S H H') (hv : ∀ a, v = .ref a → a ∉ S) (h : LegAt K g v H) : LegAt K g v H' := let ⟨a, dx, ev, h1⟩ := h; ⟨a, dx, ev, f.st a _ (hv a ev) h1⟩
theorem RunOn.fr {r : RunBook.Run} {x : Addr × Addr × List Addr} (f : Fr S H H') (h1 : x.1 ∉ S) (h2 : x.2.1 ∉ S) (h3 : ∀ a ∈ x.2.2, a ∉ S) (h : RunOn K r x H) : RunOn K r x H' := by
  obtain ⟨⟨dx, q1⟩, q2, q3⟩ := h
  refine ⟨⟨dx, f.st _ _ h1 q1⟩, f.st _ _ h2 q2, each_keep (fun g v hv hg => leg_fr f (fun a ea => ?_) hg) q3⟩
  rw [List.mem_map] at hv
  obtain ⟨y, hy, rfl⟩ := hv
  rw [← V.ref.inj ea]
  exact h3 y hy
theorem RunOn.leg {r : RunBook.Run} {x : Addr × Addr × List Addr} (h : RunOn K r x H) (ha : a ∈ x.2.2) : ∃ g dx, H a = some (.ins (He.ga K "Leg") dx (legF g)) := by
  obtain ⟨_, _, q3⟩ := h
  obtain ⟨i, hi⟩ := List.getElem?_of_mem ha
  obtain ⟨g, _, b, dx, eb, hb⟩ := each_mem q3 (i := i) (x := .ref a) (by rw [List.getElem?_map, hi]; rfl)
  rw [← V.ref.inj eb] at hb
  exact ⟨g, dx, hb⟩
section
variable {B : Book} {L : Lay} {t : Nat} {r : RunBook.Run} {x : Addr × Addr × List Addr}
theorem BookOn.run (h : BookOn K B L b H) (hx : L.rs[t]? = some x) : ∃ r, B.runs[t]? = some r ∧ RunOn K r x H := by
  have := (List.getElem?_eq_some_iff.mp hx).1
  have hl := h.ln
  exact ⟨_, List.getElem?_eq_getElem (by omega), h.rn t x _ hx (List.getElem?_eq_getElem (by omega))⟩
theorem BookOn.lay (h : BookOn K B L b H) (hr : B.runs[t]? = some r) : ∃ x, L.rs[t]? = some x ∧ RunOn K r x H := by
  have := (List.getElem?_eq_some_iff.mp hr).1
  have hl := h.ln
  exact ⟨_, List.getElem?_eq_getElem (by omega), h.rn t _ r (List.getElem?_eq_getElem (by omega)) hr⟩
theorem lay_mem {L : Lay} : a ∈ L.mut ↔ a = L.d ∨ a = L.l ∨ (∃ x ∈ L.rs, a = x.2.1) ∨ ∃ x ∈ L.rs, a ∈ x.2.2 := by
  unfold Lay.mut
  rw [List.mem_cons, List.mem_cons, List.mem_append, List.mem_map, List.mem_flatMap]
  constructor
  · rintro (h | h | ⟨x, hx, e⟩ | ⟨x, hx, e⟩)
    · exact .inl h
    · exact .inr (.inl h)
    · exact .inr (.inr (.inl ⟨x, hx, e.symm⟩))
    · exact .inr (.inr (.inr ⟨x, hx, e⟩))
  · rintro (h | h | ⟨x, hx, e⟩ | ⟨x, hx, e⟩)
    · exact .inl h
    · exact .inr (.inl h)
    · exact .inr (.inr (.inl ⟨x, hx, e.symm⟩))
    · exact .inr (.inr (.inr ⟨x, hx, e⟩))
/-- what may be written is there, and no tuple -/
theorem BookOn.there (h : BookOn K B L b H) (ha : a ∈ L.mut) : ∃ u, H a = some u ∧ NotT u := by
  rcases lay_mem.mp ha with rfl | rfl | ⟨x, hx, rfl⟩ | ⟨x, hx, hax⟩
  · obtain ⟨kvs, h1, _⟩ := h.kn
    exact ⟨_, h1, trivial⟩
  · exact ⟨_, h.ls, trivial⟩
  · obtain ⟨i, hi⟩ := List.getElem?_of_mem hx
    obtain ⟨r, _, _, h2, _⟩ := h.run hi
    exact ⟨_, h2, trivial⟩
  · obtain ⟨i, hi⟩ := List.getElem?_of_mem hx
    obtain ⟨r, _, hR⟩ := h.run hi
    obtain ⟨g, dx, h2⟩ := hR.leg hax
    exact ⟨_, h2, trivial⟩
/-- a heap in which all of the book's parts stay -/
theorem BookOn.fr (h : BookOn K B L b H) (f : Fr S H H') (hb : b ∉ S) (hm : ∀ a ∈ L.mut, a ∉ S) (hr : ∀ x ∈ L.rs, x.1 ∉ S) (hS : ∀ a ∈ S, ∀ u, H a = some u → NotT u) : BookOn K B L b H' := by
  obtain ⟨dx, q1⟩ := h.bk
  obtain ⟨kvs, q2, q3⟩ := h.kn
  refine ⟨⟨dx, f.st _ _ hb q1⟩, ⟨kvs, f.st _ _ (hm _ (lay_mem.mpr (.inl rfl))) q2, q3.fr f hS⟩, f.st _ _ (hm _ (lay_mem.mpr (.inr (.inl rfl)))) h.ls, h.ln, fun i x r hx hB => ?_, h.n1, h.n2⟩
  have hmem := List.mem_of_getElem? hx
  exact (h.rn i x r hx hB).fr f (hr x hmem) (hm _ (lay_mem.mpr (.inr (.inr (.inl ⟨x, hmem, rfl⟩))))) fun a ha => hm _ (lay_mem.mpr (.inr (.inr (.inr ⟨x, hmem, ha⟩))))
theorem BookOn.mono (h : BookOn K B L b H) (e : Ex H H') : BookOn K B L b H' := h.fr (S := []) (Fr.of e) List.not_mem_nil (fun _ _ => List.not_mem_nil) (fun _ _ => List.not_mem_nil) fun _ h => absurd h List.not_mem_nil
end
/-! ### lists of lists -/
section
variable {α β : Type} {f : α → List β} {l : List α} {t : Nat} {x y : α}
theorem flat_split (h : l[t]? = some x) : ∃ A C, l.flatMap f = A ++ (f x ++ C) ∧ ∀ y, (l.set t y).flatMap f = A ++ (f y ++ C) := by
  have hl := (List.getElem?_eq_some_iff.mp h).1
  have hx := (List.getElem?_eq_some_iff.mp h).2
  refine ⟨(l.take t).flatMap f, (l.drop (t + 1)).flatMap f, ?_, fun y => ?_⟩
  · have e : l = l.take t ++ x :: l.drop (t + 1) := by
      rw [← hx, List.getElem_cons_drop, List.take_append_drop]
    rw [← List.flatMap_cons, ← List.flatMap_append, ← e]
  · rw [List.set_eq_take_append_cons_drop, if_pos hl, List.flatMap_append, List.flatMap_cons]
end
theorem flat_pop {L : List (Addr × Addr × List Addr)} {t : Nat} {x : Addr × Addr × List Addr} (h : L[t]? = some x) (hn : (L.flatMap fun x => x.2.2).Nodup) : ((L.set t (x.1, x.2.1, x.2.2.dropLast)).flatMap fun x => x.2.2).Nodup := by
  obtain ⟨A, C, e1, e2⟩ := flat_split (f := fun x : Addr × Addr × List Addr => x.2.2) h
  rw [e2]
  rw [e1] at hn
  refine List.Nodup.sublist ?_ hn
  exact List.Sublist.append_left (List.Sublist.append_right (List.dropLast_sublist _) _) _
theorem flat_push {L : List (Addr × Addr × List Addr)} {t : Nat} {x : Addr × Addr × List Addr} {p : Addr} (h : L[t]? = some x) (hn : (L.flatMap fun x => x.2.2).Nodup) (hp : p ∉ L.flatMap fun x => x.2.2) : ((L.set t (x.1, x.2.1, x.2.2 ++ [p])).flatMap fun x => x.2.2).Nodup := by
  obtain ⟨A, C, e1, e2⟩ := flat_split (f := fun x : Addr × Addr × List Addr => x.2.2) h
  rw [e2]
  rw [e1] at hn hp
  have hP : (p :: (A ++ (x.2.2 ++ C))).Perm (A ++ ((x.2.2 ++ [p]) ++ C)) := by
    rw [← List.append_assoc, ← List.append_assoc, ← List.append_assoc, List.append_assoc (A ++ x.2.2) [p] C]
    exact List.perm_middle.symm
  exact hP.nodup_iff.mp (List.nodup_cons.mpr ⟨hp, hn⟩)
theorem map_set_same {L : List (Addr × Addr × List Addr)} {t : Nat} {x : Addr × Addr × List Addr} {β : Type} {f : Addr × Addr × List Addr → β} {y : Addr × Addr × List Addr} (h : L[t]? = some x) (e : f y = f x) : (L.set t y).map f = L.map f := by
  rw [List.map_set]
  apply List.ext_getElem?
  intro i
  rw [List.getElem?_set]
  split
  · rename_i hi
    subst hi
    rw [List.getElem?_map, h]
    have hl := (List.getElem?_eq_some_iff.mp h).1
    rw [if_pos (by rw [List.length_map]; exact hl), e]
    rfl
  · rfl
end
end Trav
namespace Trav
open LsRun (Leg Spot Reading)
open LsGeo (Pt)
open RunBook (Book knownAt numberMay mayReach putKnown)
open TravSpec (Call asks step setRun)
/-! ## deeds that write -/
def OffOn (K : PySem.W.Frag) (B : Book) (L : Lay) (o : Addr) (H : Hp) : Prop := ∃ dx b, H o = some (.ins (He.ga K "Office") dx [("book", .ref b)]) ∧ BookOn K B L b H
/-- what a deed leaves and tells -/
def Done (K : PySem.W.Frag) (o : Addr) (L : Lay) (H : Hp) (y : Book × LsAns.Ans) : V → Hp → Prop := fun v H' => ∃ L', OffOn K y.1 L' o H' ∧ NewLn H (iv (ansN y.2)) v H' ∧ Fr (o :: L.mut) H H' ∧ (∀ a ∈ L'.mut, a ∈ L.mut ∨ H a = none) ∧ Good y.1
def spDo (K : PySem.W.Frag) (n : Nat) (f : List Nat → Call) : Sp := fun vs H Q _ => ∃ (o nn : Addr) (B : Book) (L : Lay) (as : List Nat), vs = [.ref o, .ref nn] ∧ OffOn K B L o H ∧ Good B ∧ SqL K H nn (nv as) ∧ as.length = n ∧ (∀ v H', Done K o L H (step B (f as)) v H' → Q v H')
section
variable {K : PySem.W.Frag} {H H1 H2 H' : Hp} {a b c o : Addr} {B : Book} {L : Lay} {t : Nat} {r : RunBook.Run} {x : Addr × Addr × List Addr} {Q : VK}
theorem OffOn.at_ (h : OffOn K B L o H) : OffAt K B o H := let ⟨dx, b, h1, h2⟩ := h; ⟨dx, b, h1, h2.at_⟩
theorem OffOn.mono (h : OffOn K B L o H) (e : Ex H H') : OffOn K B L o H' := let ⟨dx, b, h1, h2⟩ := h; ⟨dx, b, e _ _ h1, h2.mono e⟩
theorem done_same {y : LsAns.Ans} (hO : OffOn K B L o H) (hG : Good B) (k : ∀ v H', Done K o L H (B, y) v H' → Q v H') : Ret (NewLn H (iv (ansN y))) H Q := fun v H2 e h => k v H2 ⟨L, hO.mono e, h, Fr.of e, fun _ ha => .inl ha, hG⟩
theorem ns {a b : Addr} (h : a ≠ b) : a ∉ [b] := fun m => h (List.mem_singleton.mp m)
theorem BookOn.nb (h : BookOn K B L b H) (ha : a ∈ L.mut) (hi : ∀ g dx, H a ≠ some (.ins (He.ga K "Leg") dx (legF g))) : b ≠ a := fun e => by
  obtain ⟨dx, q⟩ := h.bk
  rcases lay_mem.mp ha with rfl | rfl | ⟨x, hx, rfl⟩ | ⟨x, hx, hax⟩
  · obtain ⟨kvs, h1, _⟩ := h.kn
    rw [e, h1] at q
    cases q
  · rw [e, h.ls] at q
    cases q
  · obtain ⟨i, hi⟩ := List.getElem?_of_mem hx
    obtain ⟨r, _, _, h2, _⟩ := h.run hi
    rw [e, h2] at q
    cases q
  · obtain ⟨i, hi2⟩ := List.getElem?_of_mem hx
    obtain ⟨r, _, hR⟩ := h.run hi2
    obtain ⟨g, dx, h2⟩ := hR.leg hax
    exact hi g dx h2
/-- the legs of one run are others -/
theorem BookOn.legs {gs : List Leg} {as : List Addr} (h : BookOn K B L b H) (hx : L.rs[t]? = some x) (hr : B.runs[t]? = some r) (f : Fr [x.2.1] H H') (hl : H' x.2.1 = some (.lst (as.map V.ref))) (hE : Each (gs.map (LegAt K)) (as.map V.ref) H')
    (hn : ((L.rs.set t (x.1, x.2.1, as)).flatMap fun x => x.2.2).Nodup) : BookOn K (setRun B t gs) ⟨L.d, L.l, L.rs.set t (x.1, x.2.1, as)⟩ b H' := by
  obtain ⟨dx, q1⟩ := h.bk
  obtain ⟨kvs, q2, q3⟩ := h.kn
  have hR := h.rn t x r hx hr
  obtain ⟨⟨dr, r1⟩, r2, r3⟩ := id hR
  have hmem := List.mem_of_getElem? hx
  have ne : ∀ {a : Addr} {u : HO}, H a = some u → (∀ l, u ≠ .lst l) → a ≠ x.2.1 := fun {a u} hu hn e => by
    rw [e, r2] at hu
    exact hn _ (Option.some.inj hu).symm
  have nl : L.l ≠ x.2.1 := fun e => (List.nodup_cons.mp h.n1).1 (by rw [e]; exact List.mem_map_of_mem (f := fun x : Addr × Addr × List Addr => x.2.1) hmem)
  rw [setRun_is hr]
  refine ⟨⟨dx, f.st _ _ (ns (ne q1 fun _ => nofun)) q1⟩, ⟨kvs, f.st _ _ (ns (ne q2 fun _ => nofun)) q2, q3.fr f fun a ha u hu => ?_⟩, ?_, ?_, fun i y q hy hq => ?_, ?_, hn⟩
  · rw [List.mem_singleton.mp ha, r2] at hu
    rw [← Option.some.inj hu]
    trivial
  · show H' L.l = some (.lst ((L.rs.set t (x.1, x.2.1, as)).map fun x => V.ref x.1))
    rw [map_set_same (f := fun x : Addr × Addr × List Addr => V.ref x.1) (y := (x.1, x.2.1, as)) hx rfl]
    exact f.st _ _ (ns nl) h.ls
  · show (L.rs.set t _).length = (B.runs.set t _).length
    rw [List.length_set, List.length_set]
    exact h.ln
  · have hy : (L.rs.set t (x.1, x.2.1, as))[i]? = some y := hy
    have hq : (B.runs.set t { r with legs := gs })[i]? = some q := hq
    by_cases hi : t = i
    · subst hi
      rw [List.getElem?_set_self (List.getElem?_eq_some_iff.mp hx).1] at hy
      rw [List.getElem?_set_self (List.getElem?_eq_some_iff.mp hr).1] at hq
      obtain rfl := Option.some.inj hy
      obtain rfl := Option.some.inj hq
      exact ⟨⟨dr, f.st _ _ (ns (ne r1 fun _ => nofun)) r1⟩, hl, hE⟩
    · rw [List.getElem?_set_ne hi] at hy hq
      have hQ := h.rn i y q hy hq
      obtain ⟨⟨dq, s1⟩, s2, s3⟩ := id hQ
      refine hQ.fr f (ns (ne s1 fun _ => nofun)) (ns fun e => hi ?_) fun a ha => ns ?_
      · have hm : (L.rs.map fun x : Addr × Addr × List Addr => x.2.1)[t]? = (L.rs.map fun x : Addr × Addr × List Addr => x.2.1)[i]? := by
          rw [List.getElem?_map, List.getElem?_map, hx, hy]
          show some x.2.1 = some y.2.1
          rw [e]
        exact (List.getElem?_inj (by rw [List.length_map]; exact (List.getElem?_eq_some_iff.mp hx).1) (List.nodup_cons.mp h.n1).2).mp hm
      · obtain ⟨g, dg, hg⟩ := hQ.leg ha
        exact ne hg fun _ => nofun
  · show (L.l :: (L.rs.set t (x.1, x.2.1, as)).map fun x => x.2.1).Nodup
    rw [map_set_same (f := fun x : Addr × Addr × List Addr => x.2.1) (y := (x.1, x.2.1, as)) hx rfl]
    exact h.n1
/-- one point more is known -/
theorem BookOn.put {ks : List (Nat × Pt)} {kvs : List (Key × V)} (h : BookOn K B L b H) (f : Fr [L.d] H H') (hd : H' L.d = some (.dK kvs)) (hk : KnD K ks kvs H') : BookOn K { B with known := ks } L b H' := by
  obtain ⟨dx, q1⟩ := h.bk
  obtain ⟨kvs0, q2, q3⟩ := h.kn
  have ne : ∀ {a : Addr} {u : HO}, H a = some u → (∀ l, u ≠ .dK l) → a ∉ [L.d] := fun {a u} hu hn => ns fun e => by
    rw [e, q2] at hu
    exact hn _ (Option.some.inj hu).symm
  refine ⟨⟨dx, f.st _ _ (ne q1 fun _ => nofun) q1⟩, ⟨kvs, hd, hk⟩, f.st _ _ (ne h.ls fun _ => nofun) h.ls, h.ln, fun i y q hy hq => ?_, h.n1, h.n2⟩
  have hQ := h.rn i y q hy hq
  obtain ⟨⟨dq, s1⟩, s2, s3⟩ := id hQ
  refine hQ.fr f (ne s1 fun _ => nofun) (ne s2 fun _ => nofun) fun a ha => ?_
  obtain ⟨g, dg, hg⟩ := hQ.leg ha
  exact ne hg fun _ => nofun
/-- one run more -/
theorem BookOn.push {p : Addr × Addr} {q : RunBook.Run} (h : BookOn K B L b H) (f : Fr [L.l] H H') (hl : H' L.l = some (.lst ((L.rs.map fun x : Addr × Addr × List Addr => V.ref x.1) ++ [.ref p.1]))) (hR : RunOn K q (p.1, p.2, []) H') (hp : p.2 ∉ L.l :: L.rs.map fun x : Addr × Addr × List Addr => x.2.1) :
    BookOn K { B with runs := B.runs ++ [q] } ⟨L.d, L.l, L.rs ++ [(p.1, p.2, [])]⟩ b H' := by
  obtain ⟨dx, q1⟩ := h.bk
  obtain ⟨kvs, q2, q3⟩ := h.kn
  have hls := h.ls
  have ne : ∀ {a : Addr} {u : HO}, H a = some u → (∀ l, u ≠ .lst l) → a ∉ [L.l] := fun {a u} hu hn => ns fun e => by
    rw [e, hls] at hu
    exact hn _ (Option.some.inj hu).symm
  refine ⟨⟨dx, f.st _ _ (ne q1 fun _ => nofun) q1⟩, ⟨kvs, f.st _ _ (ne q2 fun _ => nofun) q2, q3.fr f fun a ha u hu => ?_⟩, ?_, ?_, fun i y q' hy hq => ?_, ?_, ?_⟩
  · rw [List.mem_singleton.mp ha, hls] at hu
    rw [← Option.some.inj hu]
    trivial
  · show H' L.l = some (.lst ((L.rs ++ [(p.1, p.2, [])]).map fun x : Addr × Addr × List Addr => V.ref x.1))
    rw [List.map_append]
    exact hl
  · show (L.rs ++ [_]).length = (B.runs ++ [_]).length
    rw [List.length_append, List.length_append, h.ln]
    rfl
  · have hy : (L.rs ++ [(p.1, p.2, [])])[i]? = some y := hy
    have hq : (B.runs ++ [q])[i]? = some q' := hq
    have hln := h.ln
    by_cases hi : i < L.rs.length
    · rw [List.getElem?_append_left hi] at hy
      rw [List.getElem?_append_left (by omega)] at hq
      have hQ := h.rn i y q' hy hq
      obtain ⟨⟨dq, s1⟩, s2, s3⟩ := id hQ
      refine hQ.fr f (ne s1 fun _ => nofun) (ns fun e => (List.nodup_cons.mp h.n1).1 ?_) fun a ha => ?_
      · rw [← e]
        exact List.mem_map_of_mem (f := fun x : Addr × Addr × List Addr => x.2.1) (List.mem_of_getElem? hy)
      · obtain ⟨g, dg, hg⟩ := hQ.leg ha
        exact ne hg fun _ => nofun
    · rw [List.getElem?_append_right (by omega)] at hy hq
      have h0 : i - L.rs.length = 0 := by
        have := (List.getElem?_eq_some_iff.mp hy).1
        rw [List.length_singleton] at this
        omega
      rw [h0] at hy
      rw [← hln, h0] at hq
      obtain rfl := Option.some.inj hy
      obtain rfl := Option.some.inj hq
      exact hR
  · show (L.l :: (L.rs ++ [(p.1, p.2, [])]).map fun x : Addr × Addr × List Addr => x.2.1).Nodup
    rw [List.map_append, ← List.cons_append]
    exact (List.perm_append_singleton _ _).nodup_iff.mpr (List.nodup_cons.mpr ⟨hp, h.n1⟩)
  · show ((L.rs ++ [(p.1, p.2, [])]).flatMap fun x : Addr × Addr × List Addr => x.2.2).Nodup
    rw [List.flatMap_append]
    show (_ ++ []).Nodup
    rw [List.append_nil]
    exact h.n2
/-- one leg is another -/
theorem BookOn.mended {i : Nat} {g g' : Leg} {dx : Addr} (h : BookOn K B L b H) (hx : L.rs[t]? = some x) (hr : B.runs[t]? = some r) (hc : x.2.2[i]? = some c) (hg : H c = some (.ins (He.ga K "Leg") dx (legF g))) (f : Fr [c] H H') (hg' : H' c = some (.ins (He.ga K "Leg") dx (legF g'))) :
    BookOn K (setRun B t (r.legs.set i g')) L b H' := by
  obtain ⟨db, q1⟩ := h.bk
  obtain ⟨kvs, q2, q3⟩ := h.kn
  have hls := h.ls
  have hR := h.rn t x r hx hr
  obtain ⟨⟨dr, r1⟩, r2, r3⟩ := id hR
  have ne : ∀ {a : Addr} {u : HO}, H a = some u → (∀ dx g, u ≠ .ins (He.ga K "Leg") dx (legF g)) → a ∉ [c] := fun {a u} hu hn => ns fun e => by
    rw [e, hg] at hu
    exact hn _ _ (Option.some.inj hu).symm
  have nrun : ∀ {dx : Addr} {m n : Nat} {l : Addr}, ∀ dg g, HO.ins (He.ga K "Run") dx (runF m n l) ≠ .ins (He.ga K "Leg") dg (legF g) := fun dg g e => by
    injection e with _ _ e3
    have e4 := congrArg List.length e3
    have e4 : 3 = 4 := e4
    cases e4
  rw [setRun_is hr]
  refine ⟨⟨db, f.st _ _ (ne q1 fun dg g e => ?_) q1⟩, ⟨kvs, f.st _ _ (ne q2 fun _ _ => nofun) q2, q3.fr f fun a ha u hu => ?_⟩, f.st _ _ (ne hls fun _ _ => nofun) hls, ?_, fun j y q hy hq => ?_, h.n1, h.n2⟩
  · injection e with _ _ e3
    have e4 := congrArg List.length e3
    have e4 : 2 = 4 := e4
    cases e4
  · rw [List.mem_singleton.mp ha, hg] at hu
    rw [← Option.some.inj hu]
    trivial
  · show L.rs.length = (B.runs.set t _).length
    rw [List.length_set]
    exact h.ln
  · have hq : (B.runs.set t { r with legs := r.legs.set i g' })[j]? = some q := hq
    have hnd := List.pairwise_flatMap.mp h.n2
    by_cases hj : t = j
    · subst hj
      rw [hx] at hy
      obtain rfl := Option.some.inj hy
      rw [List.getElem?_set_self (List.getElem?_eq_some_iff.mp hr).1] at hq
      obtain rfl := Option.some.inj hq
      refine ⟨⟨dr, f.st _ _ (ne r1 nrun) r1⟩, f.st _ _ (ne r2 fun _ _ => nofun) r2, ?_⟩
      have hlen := each_len r3
      rw [List.length_map, List.length_map] at hlen
      refine each_idx (by rw [List.length_map, List.length_set]; exact hlen) fun m g2 v h1 h2 => ?_
      rw [List.getElem?_map, Option.map_eq_some_iff] at h2
      obtain ⟨z, hz, rfl⟩ := h2
      by_cases hm : i = m
      · subst hm
        rw [List.getElem?_set_self (by have := (List.getElem?_eq_some_iff.mp hc).1; omega)] at h1
        obtain rfl := Option.some.inj h1
        rw [hc] at hz
        obtain rfl := Option.some.inj hz
        exact ⟨_, dx, rfl, hg'⟩
      · rw [List.getElem?_set_ne hm] at h1
        obtain ⟨g3, hg3, hgz⟩ := each_mem r3 (i := m) (x := .ref z) (by rw [List.getElem?_map, hz]; rfl)
        rw [h1] at hg3
        obtain rfl := Option.some.inj hg3
        refine leg_fr f (fun a ea => ?_) hgz
        rw [← V.ref.inj ea]
        refine ns fun e => hm ?_
        exact (List.getElem?_inj (List.getElem?_eq_some_iff.mp hc).1 (hnd.1 x (List.mem_of_getElem? hx))).mp (by rw [hc, hz, e])
    · rw [List.getElem?_set_ne hj] at hq
      have hQ := h.rn j y q hy hq
      obtain ⟨⟨dq, s1⟩, s2, s3⟩ := id hQ
      refine hQ.fr f (ne s1 nrun) (ne s2 fun _ _ => nofun) fun a ha => ns fun e => ?_
      have hcx := List.mem_of_getElem? hc
      have hp := List.pairwise_iff_getElem.mp hnd.2
      have ht1 := (List.getElem?_eq_some_iff.mp hx).1
      have ht2 := (List.getElem?_eq_some_iff.mp hx).2
      have hj1 := (List.getElem?_eq_some_iff.mp hy).1
      have hj2 := (List.getElem?_eq_some_iff.mp hy).2
      rcases Nat.lt_or_gt_of_ne hj with hlt | hlt
      · exact hp t j ht1 hj1 hlt c (by rw [ht2]; exact hcx) a (by rw [hj2]; exact ha) e.symm
      · exact hp j t hj1 ht1 hlt a (by rw [hj2]; exact ha) c (by rw [ht2]; exact hcx) e
end
end Trav
namespace Trav
open LsRun (Leg Spot Reading)
open LsGeo (Pt)
open RunBook (Book knownAt numberMay mayReach putKnown)
open TravSpec (Call asks step setRun)
section
variable {K : PySem.W.Frag} {H H0 H1 H2 H' : Hp} {a b c o : Addr} {B : Book} {L : Lay} {t : Nat} {r : RunBook.Run} {x : Addr × Addr × List Addr} {Q : VK} {σ : L2.St} {ta tb tc td ty tv te : TE} {D : Ends} {tz tu : TS} {S : List Addr}
theorem q_dput {kvs : List (Key × V)} {ky : Key} {P : V → Hp → Prop} (hP : Stay P) (hk : H a = some (.dK kvs)) (hl : kvs.length < 100000) (hv : EvP tv σ H P) (hd : Ev td σ H (.ref a)) (hy : Ev ty σ H (kV ky)) (k : ∀ v H1, Ex H H1 → P v H1 → tz D σ (upd H1 a (.dK (putK kvs ky v)))) : tSeq (sDPut td ty tv) tz D σ H :=
  hv H (Ex.refl H) _ fun v H1 e1 p => hd H1 e1 _ fun H2 e2 => hy H2 (e1.trans e2) _ fun H3 e3 => ⟨a, _, rfl, DPut.k (e3 _ _ (e2 _ _ (e1 _ _ hk))) (sz_lt hl), k v H3 ((e1.trans e2).trans e3) (hP _ _ _ (e2.trans e3) p)⟩
theorem q_pop {l : Addr} {xs : List V} {y : V} (hl : H l = some (.lst xs)) (ha : Ev ta σ H (.ref l)) (hy : xs[xs.length - 1]? = some y) (k : ∀ H1, Ex H H1 → tz D σ (upd H1 l (.lst xs.dropLast))) : tSeq (tDrop (tBM0 K "list" rPop ta)) tz D σ H :=
  ha H (Ex.refl H) _ fun H1 e1 => ⟨.inl ⟨rfl, xs, sq_of (e1 _ _ hl)⟩, l, xs, y, rfl, rfl, e1 _ _ hl, hy, k H1 e1⟩
/-- return [..] behind a write -/
theorem sv_retF {l : List Int} {ta : TA} (h : EvA ta σ H (iv l)) (hl : l.length ≤ 100000) (f : Fr S H0 H) (k : ∀ v H1, Ex H H1 → NewLn H0 (iv l) v H1 → D.rt v H1) : Sv (tRet (tLst ta)) D σ H := fun H1 e1 =>
  h H1 e1 _ fun H2 e2 => ⟨sz_of (by unfold iv; rw [List.length_map]; exact hl), fun q hq => k _ _ ((e1.trans e2).trans (Ex.new hq)) ⟨q, rfl, f.nw _ (fresh_back (e1.trans e2) hq), upd_same⟩⟩
def NewO (H0 : Hp) (C : Addr) (fs : List (Str × V)) : V → Hp → Prop := fun v H => ∃ p dx, v = .ref p ∧ H0 p = none ∧ H p = some (.ins C dx fs)
theorem ex_made {H H2 H' : Hp} {x dx C : Addr} (e : Ex H H2) (hx : H2 x = none) (hd : H2 dx = none) (eA : ExA x (upd (upd H2 dx (.own x)) x (.ins C dx [])) H') : Ex H H' := fun a u h => by
  have h2 := e a u h
  have n1 : a ≠ x := fun z => by rw [z, hx] at h2; cases h2
  have n2 : a ≠ dx := fun z => by rw [z, hd] at h2; cases h2
  exact eA a u n1 (by rw [upd_ne n1, upd_ne n2]; exact h2)
theorem evp_leg {ta : TA} {E : XK} {g : Leg} (h : EvA ta σ H [.int (g.to_ : Int), .int g.dx, .int g.dy, .int (g.long : Int)]) : EvP (tMake (He.ga K "Leg") (spLegInit K) [] E ta) σ H (NewO H (He.ga K "Leg") (legF g)) := fun H1 e Q q =>
  h H1 e _ fun H2 e2 x dx hx hd hne => ⟨x, dx, g, rfl, upd_same, fun H' eA hH' => ⟨rfl, q _ _ (ex_made e2 hx hd eA) ⟨x, dx, rfl, fresh_back (e.trans e2) hx, hH'⟩⟩⟩
def NewRun (K : PySem.W.Frag) (H0 : Hp) (b e : Nat) : V → Hp → Prop := fun v H => ∃ p l, v = .ref p ∧ H0 p = none ∧ H0 l = none ∧ RunOn K ⟨b, e, []⟩ (p, l, []) H
theorem evp_mkrun {ta : TA} {E : XK} {b e : Nat} (h : EvA ta σ H [.int (b : Int), .int (e : Int)]) : EvP (tMake (He.ga K "Run") (spRunInit K) [] E ta) σ H (NewRun K H b e) := fun H1 e Q q =>
  h H1 e _ fun H2 e2 x dx hx hd hne => ⟨x, dx, _, _, rfl, upd_same, fun H' l hl eA hl' hH' => by
    have n1 : l ≠ x := fun z => by rw [z, upd_same] at hl; cases hl
    have n2 : l ≠ dx := fun z => by rw [z, upd_ne hne, upd_same] at hl; cases hl
    rw [upd_ne n1, upd_ne n2] at hl
    exact ⟨rfl, q _ _ (ex_made e2 hx hd eA) ⟨x, l, rfl, fresh_back (e.trans e2) hx, fresh_back (e.trans e2) hl, ⟨dx, hH'⟩, hl', rfl⟩⟩⟩
/-- a new book, empty -/
def NewBook (K : PySem.W.Frag) (H0 : Hp) : V → Hp → Prop := fun v H => ∃ b d l, v = .ref b ∧ H0 b = none ∧ H0 d = none ∧ H0 l = none ∧ BookOn K RunBook.empty ⟨d, l, []⟩ b H
theorem evp_mkbook {E : XK} : EvP (tMake (He.ga K "Book") (spBookInit K) [] E tNil) σ H (NewBook K H) := fun H1 e Q q => fun x dx hx hd hne => ⟨x, dx, rfl, upd_same, fun H' d l h1 h2 eA hd' hl' hH' => by
    have n1 : l ≠ x := fun z => by rw [z, upd_same] at h2; cases h2
    have n2 : l ≠ dx := fun z => by rw [z, upd_ne hne, upd_same] at h2; cases h2
    have n3 : d ≠ x := fun z => by rw [z, upd_same] at h1; cases h1
    have n4 : d ≠ dx := fun z => by rw [z, upd_ne hne, upd_same] at h1; cases h1
    rw [upd_ne n1, upd_ne n2] at h2
    rw [upd_ne n3, upd_ne n4] at h1
    exact ⟨rfl, q _ _ (ex_made (Ex.refl H1) hx hd eA) ⟨x, d, l, rfl, fresh_back e hx, fresh_back e h1, fresh_back e h2, ⟨dx, hH'⟩, ⟨[], hd', ⟨[], rfl, List.Perm.refl _⟩, fun x hx => absurd hx List.not_mem_nil⟩, hl', rfl, fun i x r h => absurd h nofun, List.nodup_cons.mpr ⟨List.not_mem_nil, List.nodup_nil⟩, List.nodup_nil⟩⟩⟩
theorem off_ne (h : ∃ dx, H o = some (.ins (He.ga K "Office") dx [("book", .ref b)])) {u : HO} (hu : H a = some u) (hn : ∀ dx, u ≠ .ins (He.ga K "Office") dx [("book", .ref b)]) : o ∉ [a] := ns fun e => by
  obtain ⟨dx, h⟩ := h
  rw [e, hu] at h
  exact hn dx (Option.some.inj h)
theorem OffOn.lay (h : OffOn K B L o H) (hr : B.runs[t]? = some r) : ∃ x, L.rs[t]? = some x ∧ RunOn K r x H := let ⟨_, _, _, hB⟩ := h; hB.lay hr
theorem OffOn.legs {gs : List Leg} {as : List Addr} (h : OffOn K B L o H) (hx : L.rs[t]? = some x) (hr : B.runs[t]? = some r) (f : Fr [x.2.1] H H') (hl : H' x.2.1 = some (.lst (as.map V.ref))) (hE : Each (gs.map (LegAt K)) (as.map V.ref) H')
    (hn : ((L.rs.set t (x.1, x.2.1, as)).flatMap fun x => x.2.2).Nodup) : OffOn K (setRun B t gs) ⟨L.d, L.l, L.rs.set t (x.1, x.2.1, as)⟩ o H' := by
  obtain ⟨dx, b, h1, hB⟩ := h
  exact ⟨dx, b, f.st _ _ (off_ne ⟨dx, h1⟩ (hB.rn t x r hx hr).2.1 fun _ => nofun) h1, hB.legs hx hr f hl hE hn⟩
theorem OffOn.nd (h : OffOn K B L o H) : (L.rs.flatMap fun x => x.2.2).Nodup := let ⟨_, _, _, hB⟩ := h; hB.n2
theorem mut_set {as : List Addr} (hx : L.rs[t]? = some x) (h : a ∈ (⟨L.d, L.l, L.rs.set t (x.1, x.2.1, as)⟩ : Lay).mut) : a ∈ L.mut ∨ a ∈ as := by
  have hm := List.mem_of_getElem? hx
  rcases lay_mem.mp h with rfl | rfl | ⟨y, hy, rfl⟩ | ⟨y, hy, ha⟩
  · exact .inl (lay_mem.mpr (.inl rfl))
  · exact .inl (lay_mem.mpr (.inr (.inl rfl)))
  · rcases List.mem_or_eq_of_mem_set hy with hy | rfl
    · exact .inl (lay_mem.mpr (.inr (.inr (.inl ⟨y, hy, rfl⟩))))
    · exact .inl (lay_mem.mpr (.inr (.inr (.inl ⟨x, hm, rfl⟩))))
  · rcases List.mem_or_eq_of_mem_set hy with hy | rfl
    · exact .inl (lay_mem.mpr (.inr (.inr (.inr ⟨y, hy, ha⟩))))
    · exact .inr ha
theorem mut_l (hx : L.rs[t]? = some x) : x.2.1 ∈ L.mut := lay_mem.mpr (.inr (.inr (.inl ⟨x, List.mem_of_getElem? hx, rfl⟩)))
theorem mut_g (hx : L.rs[t]? = some x) (ha : a ∈ x.2.2) : a ∈ L.mut := lay_mem.mpr (.inr (.inr (.inr ⟨x, List.mem_of_getElem? hx, ha⟩)))
theorem Fr.one (f : Fr [a] H H') (ha : a ∈ L.mut) : Fr (o :: L.mut) H H' := f.sub fun b hb => .inl (by rw [List.mem_singleton.mp hb]; exact List.mem_cons_of_mem _ ha)
end
section
variable {P : Program} {w : World} {K : PySem.W.Frag} {mg : Str → Option Value} {base : Heap} {σ : L2.St} {H : Hp} {ta tb tc te : TE} {D : Ends} {tz tu : TS} {x y z u v : V}
theorem ev_runL (T : Txt K mg) {o : Addr} {B : Book} {L : Lay} {t : Nat} {x : Addr × Addr × List Addr} (hO : OffOn K B L o H) (h : Ev ta σ H (.ref o)) (hb : Ev tb σ H (.int (t : Int))) (hx : L.rs[t]? = some x) : Ev (tOp (rIxL K) (tFld K (tFld K ta "book") "runs") tb) σ H (.ref x.1) := by
  obtain ⟨dx, b, h1, hB⟩ := hO
  obtain ⟨db, h2⟩ := hB.bk
  exact ev_ix (ev_book2 T (ev_off T h h1) h2) hb (sq_of hB.ls) (by rw [Trav.atI_nat, List.getElem?_map, hx]; rfl)
theorem sv_unl5 {i j l m n : Nat} {a : Addr} {q : V} (h : Ev te σ H (.ref a)) (hx : SqL K H a [x, y, z, u, q]) (k : Sv tz D (((((σ.set i (some x)).set j (some y)).set l (some z)).set m (some u)).set n (some q)) H) : Sv (tSeq (tAsg te (gUnl K 5 (gCons (gName i) (gCons (gName j) (gCons (gName l) (gCons (gName m) (gCons (gName n) gNil))))))) tz) D σ H := fun H1 e =>
  h H1 e _ fun H2 e2 => ⟨a, _, rfl, ex_l (e.trans e2) hx, rfl, _, _, rfl, _, _, rfl, _, _, rfl, _, _, rfl, _, _, rfl, rfl, k H2 (e.trans e2)⟩
theorem sc_take_back : FnScope ["office", "numbers", "legs"] ["office", "numbers"] (defScope s_take_back) := ⟨rfl, rfl, rfl, by decide +kernel, rfl, by decide +kernel, by decide +kernel⟩
theorem ok_take_back (T : Txt K mg) : Def P w K mg base CX0 2 "take_back" ["office", "numbers"] (spDo K 1 (fun as => .back (as.getD 0 0))) := by
  refine T.def_ 87 73 rfl rfl rfl rfl rfl sc_take_back (fun _ _ _ _ _ _ us hl => match us, hl with | [_, _], _ => rfl) (fun vs H Q E h => by first | (obtain ⟨_, rfl, _⟩ := h; rfl) | (obtain ⟨_, _, rfl, _⟩ := h; rfl) | (obtain ⟨_, _, _, rfl, _⟩ := h; rfl) | (obtain ⟨_, _, _, _, rfl, _⟩ := h; rfl) | (obtain ⟨_, _, _, _, _, rfl, _⟩ := h; rfl) | (obtain ⟨_, _, _, _, _, _, rfl, _⟩ := h; rfl) | (obtain ⟨_, _, _, _, _, _, _, rfl, _⟩ := h; rfl) | (obtain ⟨_, _, _, _, _, _, _, _, rfl, _⟩ := h; rfl) | (obtain ⟨_, _, _, _, _, _, _, _, _, rfl, _⟩ := h; rfl) | (obtain ⟨_, _, _, _, _, _, _, _, _, _, rfl, _⟩ := h; rfl) | (obtain ⟨_, _, _, _, _, _, _, _, _, _, _, rfl, _⟩ := h; rfl) | (obtain ⟨_, _, _, _, _, _, _, _, _, _, _, _, rfl, _⟩ := h; rfl) | (obtain ⟨_, _, _, _, _, _, _, _, _, _, _, _, _, rfl, _⟩ := h; rfl) | (obtain ⟨_, _, _, _, _, _, _, _, _, _, _, _, _, _, rfl, _⟩ := h; rfl) | (obtain ⟨_, _, _, _, _, _, _, _, _, _, _, _, _, _, _, rfl, _⟩ := h; rfl) | (obtain ⟨_, _, _, _, _, _, _, _, _, _, _, _, _, _, _, _, rfl, _⟩ := h; rfl) | (obtain ⟨_, _, _, _, _, _, _, _, _, _, _, _, _, _, _, _, _, rfl, _⟩ := h; rfl) | (obtain ⟨_, _, _, _, _, _, _, _, _, _, _, _, _, _, _, _, _, _, rfl, _⟩ := h; rfl) | (obtain ⟨_, _, _, _, _, _, _, _, _, _, _, _, _, _, _, _, _, _, _, rfl, _⟩ := h; rfl)) (fun f cdv A outer s H vs Q E hr h => ⟨_, PSs.nox (pss_cons (ps_if (pt_not (pt_val (pe_cd (ok_has_run T) hr pass0 (pa_cons (pv 0) (pa_cons (pe_ix ix_list (pv 1) pe_int (fun _ _ => rfl)) pa_nil))))) (pss_one (ps_ret (pe_lst (pa_cons (pe_gi (T.int 150 rfl)) pa_nil)))) pss_nil) (pss_cons (ps_set (i := 2) sc_take_back.nd rfl (Or.inl rfl) (pe_fld (pe_ix ix_list (pe_fld (pe_fld (pv 0) rfl) rfl) (pe_ix ix_list (pv 1) pe_int (fun _ _ => rfl)) (fun _ _ => rfl)) rfl)) (pss_cons (ps_if (pt_cmpR op_eq (pe_callB call_len (by rfl) (T.free 160 rfl) (by decide +kernel) (pa_cons (pv 2) pa_nil)) pe_int (nomark _)) (pss_one (ps_ret (pe_lst (pa_cons (pe_gi (T.int 151 rfl)) pa_nil)))) pss_nil) (pss_cons (ps_expr (pe_bm0 PySem.F.plainAttrs_list PySem.F.slot_list_pop PySem.F.type_list_pop mt_pop (pv 2))) (pss_one (ps_ret (pe_lst (pa_cons (pe_callB call_len (by rfl) (T.free 160 rfl) (by decide +kernel) (pa_cons (pv 2) pa_nil)) pa_nil)))))))), ?_⟩)
  obtain ⟨o, nn, B, L, as, rfl, hO, hG, hn, hl, k⟩ := h
  obtain ⟨t, rfl⟩ := one_arg hl
  have k : ∀ v H', Done K o L H (step B (.back t)) v H' → Q v H' := k
  have es : step B (.back t) = match B.runs[t]? with
    | none => (B, LsAns.says (-4))
    | some r => if r.legs = [] then (B, LsAns.says (-5)) else (setRun B t r.legs.dropLast, LsAns.says (r.legs.dropLast.length : Int)) := rfl
  rw [es] at k
  refine Sv.go (sv_when (b := !decide (t < B.runs.length)) (et_not (et_test (ev_callV (ea_cons (ev_var rfl) (ea_cons (ev_n0 (ev_var rfl) hn) ea_nil)) fun H1 e Q k => ⟨o, B, t, rfl, hO.at_.mono e, k⟩))) (fun hc => ?_) fun hc => ?_)
  · have hr : B.runs[t]? = none := List.getElem?_eq_none (by simpa using hc)
    rw [hr] at k
    exact sv_no ev_c (Ex.refl _) rfl (done_same hO hG k)
  have hc : t < B.runs.length := by simpa using hc
  obtain ⟨r, hr⟩ : ∃ r, B.runs[t]? = some r := ⟨_, List.getElem?_eq_getElem hc⟩
  rw [hr] at k
  simp only at k
  obtain ⟨x, hx, hR⟩ := hO.lay hr
  obtain ⟨⟨dr, r1⟩, r2, r3⟩ := id hR
  have hlen := each_len r3
  rw [List.length_map, List.length_map] at hlen
  refine sv_set (ev_run3 T (ev_runL T hO (ev_var rfl) (ev_n0 (ev_var rfl) hn) hx) r1) ?_
  refine sv_when (b := decide (((x.2.2.map V.ref).length : Int) = 0)) (et_test (ev_eqI (ev_len1 (ev_var rfl) (sq_of r2)) ev_c)) (fun hc => ?_) fun hc => ?_
  · have hq := of_decide_eq_true hc
    rw [List.length_map] at hq
    have h0 : r.legs = [] := List.length_eq_zero_iff.mp (by omega)
    rw [if_pos h0] at k
    exact sv_no ev_c (Ex.refl _) rfl (done_same hO hG k)
  have hq := of_decide_eq_false hc
  rw [List.length_map] at hq
  have h0 : r.legs ≠ [] := fun e => by rw [e, List.length_nil] at hlen; omega
  rw [if_neg h0] at k
  intro H1 e1
  obtain ⟨y, hy⟩ : ∃ y, (x.2.2.map V.ref)[(x.2.2.map V.ref).length - 1]? = some y := ⟨_, List.getElem?_eq_getElem (by rw [List.length_map]; omega)⟩
  refine q_pop (e1 _ _ r2) (ev_var rfl) hy fun H2 e2 => ?_
  have f : Fr [x.2.1] H (upd H2 x.2.1 (.lst (x.2.2.map V.ref).dropLast)) := fr_one (e1.trans e2)
  refine Sv.go (sv_retF (l := [(r.legs.dropLast.length : Int)]) (ea_cons (ev_is (ev_len1 (ev_var rfl) (sq_of upd_same)) ?_) ea_nil) (by show 1 ≤ 100000; decide) f fun v H3 e3 h3 => k v H3 ⟨⟨L.d, L.l, L.rs.set t (x.1, x.2.1, x.2.2.dropLast)⟩, ?_, h3, (f.then e3).one (mut_l hx), fun a ha => ?_, good_set hG hr (by rw [List.length_dropLast]; have := (evp_runs_ok hG hr).n; omega) fun g hg => ⟨(evp_runs_ok hG hr).l g (List.dropLast_subset _ hg), (hG.rs r (List.mem_of_getElem? hr)).2.2.2 g (List.dropLast_subset _ hg)⟩⟩)
  · rw [List.length_dropLast, List.length_dropLast, List.length_map, hlen]
  · refine hO.legs hx hr (f.then e3) ?_ ?_ (flat_pop hx hO.nd)
    · rw [List.map_dropLast]
      exact e3 _ _ upd_same
    · refine each_idx (by rw [List.length_map, List.length_dropLast, List.length_dropLast, hlen]) fun i g u hg hu => ?_
      rw [List.getElem?_dropLast] at hg
      rw [List.getElem?_map, List.getElem?_dropLast] at hu
      split at hg
      · rename_i hi
        rw [if_pos (by omega), Option.map_eq_some_iff] at hu
        obtain ⟨z, hz, rfl⟩ := hu
        obtain ⟨g3, hg3, hgz⟩ := each_mem r3 (i := i) (x := .ref z) (by rw [List.getElem?_map, hz]; rfl)
        rw [hg] at hg3
        obtain rfl := Option.some.inj hg3
        refine leg_fr (f.then e3) (fun a ea => ns fun e => ?_) hgz
        obtain ⟨zz, dz, ez, hz2⟩ := hgz
        have e4 := V.ref.inj ez
        have e5 := V.ref.inj ea
        rw [← e4, e5, e, r2] at hz2
        cases hz2
      · cases hg
  · rcases mut_set hx ha with h | h
    · exact .inl h
    · exact .inl (mut_g hx (List.dropLast_subset _ h))
end
end Trav
namespace Trav
open LsRun (Leg Spot Reading)
open LsGeo (Pt)
open RunBook (Book knownAt numberMay mayReach putKnown)
open TravSpec (Call asks step setRun)
theorem KnD.add {K : PySem.W.Frag} {ks ks' : List (Nat × Pt)} {kvs : List (Key × V)} {H : Hp} {n : Nat} {p : Pt} {t : Addr} (h : KnD K ks kvs H) (hn : n ∉ ks.map (·.1)) (hp : ks'.Perm ((n, p) :: ks)) (ht : SqT K H t [.int p.x, .int p.y]) : KnD K ks' (putK kvs (.inl (n : Int)) (.ref t)) H := by
  have h0 : (valV kvs (.inl (n : Int))).isSome = false := by
    rw [h.is n]
    exact decide_eq_false hn
  obtain ⟨ns, h1, h2⟩ := h.keys
  refine ⟨⟨ns ++ [n], ?_, ?_⟩, fun x hx => ?_⟩
  · have e : putK kvs (.inl (n : Int)) (.ref t) = kvs ++ [(.inl (n : Int), .ref t)] := by
      unfold putK
      rw [valV_any, h0, if_neg Bool.false_ne_true]
    rw [e, List.map_append, h1, List.map_append]
    rfl
  · have h3 := hp.map (·.1)
    rw [List.map_cons] at h3
    exact ((List.perm_append_singleton n ns).trans (h2.cons n)).trans h3.symm
  · rw [valV_put]
    rcases List.mem_cons.mp (hp.mem_iff.mp hx) with rfl | hx
    · exact ⟨t, if_pos rfl, ht⟩
    · obtain ⟨t2, h4, h5⟩ := h.vals x hx
      have hne : x.1 ≠ n := fun e => hn (by rw [← e]; exact List.mem_map_of_mem hx)
      refine ⟨t2, ?_, h5⟩
      rw [if_neg fun e => hne (by
        have e2 := Sum.inl.inj e
        omega)]
      exact h4
theorem KnD.len {K : PySem.W.Frag} {ks : List (Nat × Pt)} {kvs : List (Key × V)} {H : Hp} (h : KnD K ks kvs H) : kvs.length = ks.length := by
  obtain ⟨ns, h1, h2⟩ := h.keys
  have e1 := congrArg List.length h1
  have e2 := h2.length_eq
  rw [List.length_map, List.length_map] at e1
  rw [List.length_map] at e2
  omega
section
variable {K : PySem.W.Frag} {H H0 H1 H2 H' : Hp} {a b c o : Addr} {B : Book} {L : Lay} {t : Nat} {r : RunBook.Run} {x : Addr × Addr × List Addr} {Q : VK} {S : List Addr}
theorem OffOn.put {ks : List (Nat × Pt)} {kvs : List (Key × V)} (h : OffOn K B L o H) (f : Fr [L.d] H H') (hd : H' L.d = some (.dK kvs)) (hk : KnD K ks kvs H') : OffOn K { B with known := ks } L o H' := by
  obtain ⟨dx, b, h1, hB⟩ := h
  obtain ⟨kvs0, q2, q3⟩ := hB.kn
  exact ⟨dx, b, f.st _ _ (off_ne ⟨dx, h1⟩ q2 fun _ => nofun) h1, hB.put f hd hk⟩
theorem OffOn.push {p : Addr × Addr} {q : RunBook.Run} (h : OffOn K B L o H) (f : Fr [L.l] H H') (hl : H' L.l = some (.lst ((L.rs.map fun x : Addr × Addr × List Addr => V.ref x.1) ++ [.ref p.1]))) (hR : RunOn K q (p.1, p.2, []) H') (hp : p.2 ∉ L.l :: L.rs.map fun x : Addr × Addr × List Addr => x.2.1) :
    OffOn K { B with runs := B.runs ++ [q] } ⟨L.d, L.l, L.rs ++ [(p.1, p.2, [])]⟩ o H' := by
  obtain ⟨dx, b, h1, hB⟩ := h
  exact ⟨dx, b, f.st _ _ (off_ne ⟨dx, h1⟩ hB.ls fun _ => nofun) h1, hB.push f hl hR hp⟩
theorem OffOn.mended {i : Nat} {g g' : Leg} {dx : Addr} (h : OffOn K B L o H) (hx : L.rs[t]? = some x) (hr : B.runs[t]? = some r) (hc : x.2.2[i]? = some c) (hg : H c = some (.ins (He.ga K "Leg") dx (legF g))) (f : Fr [c] H H') (hg' : H' c = some (.ins (He.ga K "Leg") dx (legF g'))) :
    OffOn K (setRun B t (r.legs.set i g')) L o H' := by
  obtain ⟨dy, b, h1, hB⟩ := h
  refine ⟨dy, b, f.st _ _ (off_ne ⟨dy, h1⟩ hg fun _ e => ?_) h1, hB.mended hx hr hc hg f hg'⟩
  injection e with _ _ e3
  have e4 := congrArg List.length e3
  have e4 : 4 = 1 := e4
  cases e4
theorem mut_push {p : Addr × Addr} (h : a ∈ (⟨L.d, L.l, L.rs ++ [(p.1, p.2, [])]⟩ : Lay).mut) : a ∈ L.mut ∨ a = p.2 := by
  rcases lay_mem.mp h with rfl | rfl | ⟨y, hy, rfl⟩ | ⟨y, hy, ha⟩
  · exact .inl (lay_mem.mpr (.inl rfl))
  · exact .inl (lay_mem.mpr (.inr (.inl rfl)))
  · rcases List.mem_append.mp hy with hy | hy
    · exact .inl (lay_mem.mpr (.inr (.inr (.inl ⟨y, hy, rfl⟩))))
    · rw [List.mem_singleton.mp hy]
      exact .inr rfl
  · rcases List.mem_append.mp hy with hy | hy
    · exact .inl (lay_mem.mpr (.inr (.inr (.inr ⟨y, hy, ha⟩))))
    · rw [List.mem_singleton.mp hy] at ha
      exact absurd ha List.not_mem_nil
theorem mut_d : L.d ∈ L.mut := lay_mem.mpr (.inl rfl)
theorem mut_ls : L.l ∈ L.mut := lay_mem.mpr (.inr (.inl rfl))
theorem BookOn.new_l (h : BookOn K B L b H) {p : Addr} (hp : H p = none) : p ∉ L.l :: L.rs.map fun x : Addr × Addr × List Addr => x.2.1 := fun m => by
  have hm : p ∈ L.mut := by
    rcases List.mem_cons.mp m with rfl | m
    · exact mut_ls
    · obtain ⟨x, hx, rfl⟩ := List.mem_map.mp m
      exact lay_mem.mpr (.inr (.inr (.inl ⟨x, hx, rfl⟩)))
  obtain ⟨u, hu, _⟩ := h.there hm
  rw [hp] at hu
  cases hu
theorem BookOn.new_g (h : BookOn K B L b H) {p : Addr} (hp : H p = none) : p ∉ L.rs.flatMap fun x : Addr × Addr × List Addr => x.2.2 := fun m => by
  obtain ⟨x, hx, ha⟩ := List.mem_flatMap.mp m
  obtain ⟨u, hu, _⟩ := h.there (lay_mem.mpr (.inr (.inr (.inr ⟨x, hx, ha⟩))))
  rw [hp] at hu
  cases hu
end
def spAddLeg (K : PySem.W.Frag) : Sp := fun vs H Q _ => ∃ (o nn : Addr) (B : Book) (L : Lay) (t p : Nat) (dx dy : Int) (long : Nat), vs = [.ref o, .ref nn] ∧ OffOn K B L o H ∧ Good B ∧ SqL K H nn [.int (t : Int), .int (p : Int), .int dx, .int dy, .int (long : Int)] ∧
  (∀ v H', Done K o L H (step B (.leg t p dx dy long)) v H' → Q v H')
section
variable {P : Program} {w : World} {K : PySem.W.Frag} {mg : Str → Option Value} {base : Heap} {σ : L2.St} {H : Hp} {ta tb tc te : TE} {D : Ends} {tz tu : TS} {x y z u v : V}
theorem sc_add_known : FnScope ["office", "numbers", "number", "east", "north", "book", "run"] ["office", "numbers"] (defScope s_add_known) := ⟨rfl, rfl, rfl, by decide +kernel, rfl, by decide +kernel, by decide +kernel⟩
theorem ok_add_known (T : Txt K mg) : Def P w K mg base CX0 3 "add_known" ["office", "numbers"] (spDo K 3 (fun as => .known (as.getD 0 0) (as.getD 1 0) (as.getD 2 0))) := by
  refine T.def_ 84 70 rfl rfl rfl rfl rfl sc_add_known (fun _ _ _ _ _ _ us hl => match us, hl with | [_, _], _ => rfl) (fun vs H Q E h => by first | (obtain ⟨_, rfl, _⟩ := h; rfl) | (obtain ⟨_, _, rfl, _⟩ := h; rfl) | (obtain ⟨_, _, _, rfl, _⟩ := h; rfl) | (obtain ⟨_, _, _, _, rfl, _⟩ := h; rfl) | (obtain ⟨_, _, _, _, _, rfl, _⟩ := h; rfl) | (obtain ⟨_, _, _, _, _, _, rfl, _⟩ := h; rfl) | (obtain ⟨_, _, _, _, _, _, _, rfl, _⟩ := h; rfl) | (obtain ⟨_, _, _, _, _, _, _, _, rfl, _⟩ := h; rfl) | (obtain ⟨_, _, _, _, _, _, _, _, _, rfl, _⟩ := h; rfl) | (obtain ⟨_, _, _, _, _, _, _, _, _, _, rfl, _⟩ := h; rfl) | (obtain ⟨_, _, _, _, _, _, _, _, _, _, _, rfl, _⟩ := h; rfl) | (obtain ⟨_, _, _, _, _, _, _, _, _, _, _, _, rfl, _⟩ := h; rfl) | (obtain ⟨_, _, _, _, _, _, _, _, _, _, _, _, _, rfl, _⟩ := h; rfl) | (obtain ⟨_, _, _, _, _, _, _, _, _, _, _, _, _, _, rfl, _⟩ := h; rfl) | (obtain ⟨_, _, _, _, _, _, _, _, _, _, _, _, _, _, _, rfl, _⟩ := h; rfl) | (obtain ⟨_, _, _, _, _, _, _, _, _, _, _, _, _, _, _, _, rfl, _⟩ := h; rfl) | (obtain ⟨_, _, _, _, _, _, _, _, _, _, _, _, _, _, _, _, _, rfl, _⟩ := h; rfl) | (obtain ⟨_, _, _, _, _, _, _, _, _, _, _, _, _, _, _, _, _, _, rfl, _⟩ := h; rfl) | (obtain ⟨_, _, _, _, _, _, _, _, _, _, _, _, _, _, _, _, _, _, _, rfl, _⟩ := h; rfl)) (fun f cdv A outer s H vs Q E hr h => ⟨_, PSs.nox (pss_cons (ps_asg (pv 1) (pg_unl rfl (pgs_cons (pg_name (i := 2) sc_add_known.nd rfl (Or.inl rfl)) (pgs_cons (pg_name (i := 3) sc_add_known.nd rfl (Or.inl rfl)) (pgs_cons (pg_name (i := 4) sc_add_known.nd rfl (Or.inl rfl)) pgs_nil))))) (pss_cons (ps_set (i := 5) sc_add_known.nd rfl (Or.inl rfl) (pe_fld (pv 0) rfl)) (pss_cons (ps_if (PW.pt (pw_or (pt_not (pt_val (pe_cd (ok_is_point T) hr pass0 (pa_cons (pv 2) pa_nil)))) (pw_or (pt_cmpR op_gt (pv 3) (pe_gi (T.int 124 rfl)) (nomark _)) (pw_or1 (pt_cmpR op_gt (pv 4) (pe_gi (T.int 124 rfl)) (nomark _)))))) (pss_one (ps_ret (pe_lst (pa_cons (pe_gi (T.int 148 rfl)) pa_nil)))) pss_nil) (pss_cons (ps_if (pt_cmp (pc_din (hu_of hr) (pv 2) (pe_fld (pv 5) rfl)) (by rfl)) (pss_one (ps_ret (pe_lst (pa_cons (pe_gi (T.int 151 rfl)) pa_nil)))) pss_nil) (pss_cons (ps_for PassesOwn.never rfl (pi_list (pe_fld (pv 5) rfl)) (pg_name (i := 6) sc_add_known.nd rfl (Or.inl rfl)) (pss_one (ps_if (pt_val (pe_cd (ok_is_reached T) hr pass0 (pa_cons (pv 6) (pa_cons (pv 2) pa_nil)))) (pss_one (ps_ret (pe_lst (pa_cons (pe_gi (T.int 151 rfl)) pa_nil)))) pss_nil))) (pss_cons (ps_dput (hu_of hr) (pe_fld (pv 5) rfl) (pv 2) (pe_tup (pa_cons (pv 3) (pa_cons (pv 4) pa_nil))) rfl) (pss_one (ps_ret (pe_lst (pa_cons pe_int pa_nil)))))))))), ?_⟩)
  obtain ⟨o, nn, B, L, as, rfl, hO, hG, hn, hl, k⟩ := h
  obtain ⟨n, xe, ye, rfl⟩ := three_arg hl
  have k : ∀ v H', Done K o L H (step B (.known n xe ye)) v H' → Q v H' := k
  have es : step B (.known n xe ye) = if numberMay n = false ∨ 999999 < xe ∨ 999999 < ye then (B, LsAns.says (-1)) else if (knownAt B n).isSome = true ∨ RunBook.passed B n = true then (B, LsAns.says (-5)) else ({ B with known := putKnown n ⟨(xe : Int), (ye : Int)⟩ B.known }, LsAns.says 0) := rfl
  rw [es] at k
  obtain ⟨dx, b, h1, hB⟩ := id hO
  obtain ⟨db, h2⟩ := hB.bk
  obtain ⟨kvs, h3, h4⟩ := hB.kn
  refine Sv.go (sv_unl3 (ev_var rfl) hn (sv_set (ev_off T (ev_var rfl) h1) ?_))
  refine sv_when (b := !numberMay n || (decide ((xe : Int) > 999999) || decide ((ye : Int) > 999999))) (et_or (et_pt (ev_var rfl)) fun _ => et_or (et_test (ev_op (ev_var rfl) ev_c rv_I0)) fun _ => et_test (ev_op (ev_var rfl) ev_c rv_I0)) (fun hc => ?_) fun hc => ?_
  · rw [if_pos (by
      simp only [Bool.or_eq_true, Bool.not_eq_true', decide_eq_true_eq] at hc
      rcases hc with h | h | h
      · exact .inl h
      · exact .inr (.inl (by omega))
      · exact .inr (.inr (by omega)))] at k
    exact sv_no ev_c (Ex.refl _) rfl (done_same hO hG k)
  simp only [Bool.or_eq_false_iff, Bool.not_eq_false', decide_eq_false_iff_not] at hc
  obtain ⟨hm, hx, hy⟩ := hc
  rw [if_neg (by
    rintro (h | h | h)
    · rw [hm] at h
      cases h
    · omega
    · omega)] at k
  have hki := h4.is n
  rw [← knownAt_some] at hki
  refine sv_when (b := (knownAt B n).isSome) (et_test (ev_is (ev_din (k := .inl (n : Int)) (ev_book1 T (ev_var rfl) h2) (ev_var rfl) h3) (by rw [hki]))) (fun hc => ?_) fun hc => ?_
  · rw [if_pos (.inl hc)] at k
    exact sv_no ev_c (Ex.refl _) rfl (done_same hO hG k)
  refine sv_forM (xs := L.rs.map fun x => V.ref x.1) (ev_book2 T (ev_var rfl) h2) (sq_of hB.ls) (fun i σ' H' => ∃ z0 : Option V, σ' = [some (.ref o), some (.ref nn), some (.int (n : Int)), some (.int (xe : Int)), some (.int (ye : Int)), some (.ref b), z0] ∧ Ex H H' ∧ ∀ j, j < i → ∀ q, B.runs[j]? = some q → (q.legs.any fun g => g.to_ == n) = false) ?_ ?_ ?_ ?_
  · rintro i σ' H' ⟨z0, rfl, e', _⟩
    exact sq_of (e' _ _ hB.ls)
  · intro H1 e1
    exact ⟨none, rfl, e1, fun j hj => absurd hj (Nat.not_lt_zero j)⟩
  · rintro i u σ' H' hi ⟨z0, rfl, e', hq⟩
    rw [List.getElem?_map, Option.map_eq_some_iff] at hi
    obtain ⟨xx, hxx, rfl⟩ := hi
    obtain ⟨q, hqr, hQ⟩ := hB.run hxx
    have hsq := evp_runs_ok hG hqr
    refine Sv.go (sv_if (b := q.legs.any fun g => g.to_ == n) (et_test (ev_callV (ea_cons (ev_var rfl) (ea_cons (ev_var rfl) ea_nil)) fun H3 e Q k => ⟨_, q, n, rfl, stay_RunAt _ _ _ _ (e'.trans e) hQ.at_, hsq.n, k⟩)) (fun hc2 => ?_) fun hc2 => ?_)
    · have hp : RunBook.passed B n = true := List.any_eq_true.mpr ⟨q, List.mem_of_getElem? hqr, hc2⟩
      rw [if_pos (.inr hp)] at k
      exact sv_no ev_c e' rfl (done_same hO hG k)
    · refine sv_next fun H3 e3 => ⟨_, rfl, e'.trans e3, fun j hj q2 hq2 => ?_⟩
      by_cases hji : j = i
      · rw [hji, hqr] at hq2
        rw [← Option.some.inj hq2]
        exact hc2
      · exact hq j (by omega) q2 hq2
  · rintro σ' H' ⟨z0, rfl, e', hq⟩
    rw [List.length_map, hB.ln] at hq
    have hp : RunBook.passed B n = false := by
      cases hp : RunBook.passed B n with
      | false => rfl
      | true =>
        obtain ⟨q, hqm, hq2⟩ := List.any_eq_true.mp hp
        obtain ⟨j, hj⟩ := List.getElem?_of_mem hqm
        rw [hq j (List.getElem?_eq_some_iff.mp hj).1 q hj] at hq2
        cases hq2
    rw [if_neg (by rw [hc, hp]; decide)] at k
    have hkl := h4.len
    have hgl := hG.len
    have hB' := hB.mono e'
    obtain ⟨kvs', h3', h4'⟩ : ∃ kvs', H' L.d = some (.dK kvs') ∧ KnD K B.known kvs' H' := ⟨kvs, e' _ _ h3, h4.fr (S := []) (Fr.of e') fun _ h => absurd h List.not_mem_nil⟩
    refine q_dput (ky := .inl (n : Int)) (P := NewT [.int (xe : Int), .int (ye : Int)]) stay_newT h3' (by have := h4'.len; omega) (evp_tup (ea_cons (ev_var rfl) (ea_cons (ev_var rfl) ea_nil)) (by show 2 ≤ 100000; decide)) (ev_book1 T (ev_var rfl) (e' _ _ h2)) (ev_var rfl) fun v1 H1 e1 hv1 => ?_
    obtain ⟨tp, rfl, htp⟩ := hv1
    have f : Fr [L.d] H (upd H1 L.d (.dK (putK kvs' (.inl (n : Int)) (.ref tp)))) := fr_one (e'.trans e1)
    have f1 : Fr [L.d] H1 (upd H1 L.d (.dK (putK kvs' (.inl (n : Int)) (.ref tp)))) := fr_one (Ex.refl _)
    have hnk : n ∉ B.known.map (·.1) := by
      rw [knownAt_some] at hc
      exact of_decide_eq_false hc
    have hS : ∀ a ∈ [L.d], ∀ u, H1 a = some u → NotT u := fun a ha u hu => by
      rw [List.mem_singleton.mp ha, e1 _ _ h3'] at hu
      rw [← Option.some.inj hu]
      trivial
    have hkn := ((h4'.fr (S := []) (Fr.of e1) fun _ h => absurd h List.not_mem_nil).add (p := ⟨(xe : Int), (ye : Int)⟩) hnk (put_perm B.known) (st_of htp)).fr f1 hS
    refine Sv.go (sv_retF (l := [0]) (ea_cons ev_c ea_nil) (by show 1 ≤ 100000; decide) f fun v H3 e3 h3 => k v H3 ⟨L, ?_, h3, (f.then e3).one mut_d, fun a ha => .inl ha, good_known hG hm (by omega) (by omega) hc⟩)
    exact hO.put (f.then e3) (e3 _ _ upd_same) (hkn.fr (S := []) (Fr.of e3) fun _ h => absurd h List.not_mem_nil)
theorem sc_add_run : FnScope ["office", "numbers", "begin", "goal", "book"] ["office", "numbers"] (defScope s_add_run) := ⟨rfl, rfl, rfl, by decide +kernel, rfl, by decide +kernel, by decide +kernel⟩
theorem ok_add_run (T : Txt K mg) : Def P w K mg base CX0 3 "add_run" ["office", "numbers"] (spDo K 2 (fun as => .run (as.getD 0 0) (as.getD 1 0))) := by
  refine T.def_ 85 71 rfl rfl rfl rfl rfl sc_add_run (fun _ _ _ _ _ _ us hl => match us, hl with | [_, _], _ => rfl) (fun vs H Q E h => by first | (obtain ⟨_, rfl, _⟩ := h; rfl) | (obtain ⟨_, _, rfl, _⟩ := h; rfl) | (obtain ⟨_, _, _, rfl, _⟩ := h; rfl) | (obtain ⟨_, _, _, _, rfl, _⟩ := h; rfl) | (obtain ⟨_, _, _, _, _, rfl, _⟩ := h; rfl) | (obtain ⟨_, _, _, _, _, _, rfl, _⟩ := h; rfl) | (obtain ⟨_, _, _, _, _, _, _, rfl, _⟩ := h; rfl) | (obtain ⟨_, _, _, _, _, _, _, _, rfl, _⟩ := h; rfl) | (obtain ⟨_, _, _, _, _, _, _, _, _, rfl, _⟩ := h; rfl) | (obtain ⟨_, _, _, _, _, _, _, _, _, _, rfl, _⟩ := h; rfl) | (obtain ⟨_, _, _, _, _, _, _, _, _, _, _, rfl, _⟩ := h; rfl) | (obtain ⟨_, _, _, _, _, _, _, _, _, _, _, _, rfl, _⟩ := h; rfl) | (obtain ⟨_, _, _, _, _, _, _, _, _, _, _, _, _, rfl, _⟩ := h; rfl) | (obtain ⟨_, _, _, _, _, _, _, _, _, _, _, _, _, _, rfl, _⟩ := h; rfl) | (obtain ⟨_, _, _, _, _, _, _, _, _, _, _, _, _, _, _, rfl, _⟩ := h; rfl) | (obtain ⟨_, _, _, _, _, _, _, _, _, _, _, _, _, _, _, _, rfl, _⟩ := h; rfl) | (obtain ⟨_, _, _, _, _, _, _, _, _, _, _, _, _, _, _, _, _, rfl, _⟩ := h; rfl) | (obtain ⟨_, _, _, _, _, _, _, _, _, _, _, _, _, _, _, _, _, _, rfl, _⟩ := h; rfl) | (obtain ⟨_, _, _, _, _, _, _, _, _, _, _, _, _, _, _, _, _, _, _, rfl, _⟩ := h; rfl)) (fun f cdv A outer s H vs Q E hr h => ⟨_, PSs.nox (pss_cons (ps_asg (pv 1) (pg_unl rfl (pgs_cons (pg_name (i := 2) sc_add_run.nd rfl (Or.inl rfl)) (pgs_cons (pg_name (i := 3) sc_add_run.nd rfl (Or.inl rfl)) pgs_nil)))) (pss_cons (ps_set (i := 4) sc_add_run.nd rfl (Or.inl rfl) (pe_fld (pv 0) rfl)) (pss_cons (ps_if (PW.pt (pw_or (pt_not (pt_val (pe_cd (ok_is_point T) hr pass0 (pa_cons (pv 2) pa_nil)))) (pw_or1 (pt_not (pt_val (pe_cd (ok_is_point T) hr pass0 (pa_cons (pv 3) pa_nil))))))) (pss_one (ps_ret (pe_lst (pa_cons (pe_gi (T.int 148 rfl)) pa_nil)))) pss_nil) (pss_cons (ps_if (PW.pt (pw_or (pt_cmp (pc_dnotin (hu_of hr) (pv 2) (pe_fld (pv 4) rfl)) (by rfl)) (pw_or1 (pt_cmp (pc_dnotin (hu_of hr) (pv 3) (pe_fld (pv 4) rfl)) (by rfl))))) (pss_one (ps_ret (pe_lst (pa_cons (pe_gi (T.int 150 rfl)) pa_nil)))) pss_nil) (pss_cons (ps_if (pt_cmpR op_ge (pe_callB call_len (by rfl) (T.free 160 rfl) (by decide +kernel) (pa_cons (pe_fld (pv 4) rfl) pa_nil)) (pe_gi (T.int 125 rfl)) (nomark _)) (pss_one (ps_ret (pe_lst (pa_cons (pe_gi (T.int 153 rfl)) pa_nil)))) pss_nil) (pss_cons (ps_expr (pe_bm PySem.F.plainAttrs_list PySem.F.slot_list_append PySem.F.type_list_append mt_append (pe_fld (pv 4) rfl) (pa_cons (pe_mk (ok_Run_init T) (T.mkr 176 rfl) (T.glo 95 rfl) hr pass0 (pa_cons (pv 2) (pa_cons (pv 3) pa_nil))) pa_nil))) (pss_one (ps_ret (pe_lst (pa_cons (pe_op op_sub (pe_callB call_len (by rfl) (T.free 160 rfl) (by decide +kernel) (pa_cons (pe_fld (pv 4) rfl) pa_nil)) pe_int) pa_nil)))))))))), ?_⟩)
  obtain ⟨o, nn, B, L, as, rfl, hO, hG, hn, hl, k⟩ := h
  obtain ⟨m, n, rfl⟩ := two_arg hl
  have k : ∀ v H', Done K o L H (step B (.run m n)) v H' → Q v H' := k
  have es : step B (.run m n) = if numberMay m = false ∨ numberMay n = false then (B, LsAns.says (-1)) else if (knownAt B m).isNone = true ∨ (knownAt B n).isNone = true then (B, LsAns.says (-4)) else if 16 ≤ B.runs.length then (B, LsAns.says (-7)) else ({ B with runs := B.runs ++ [⟨m, n, []⟩] }, LsAns.says (B.runs.length : Int)) := rfl
  rw [es] at k
  obtain ⟨dx, b, h1, hB⟩ := id hO
  obtain ⟨db, h2⟩ := hB.bk
  obtain ⟨kvs, h3, h4⟩ := hB.kn
  refine Sv.go (sv_unl2 (ev_var rfl) hn (sv_set (ev_off T (ev_var rfl) h1) ?_))
  refine sv_when (b := !numberMay m || !numberMay n) (et_or (et_pt (ev_var rfl)) fun _ => et_pt (ev_var rfl)) (fun hc => ?_) fun hc => ?_
  · rw [if_pos (by simpa using hc)] at k
    exact sv_no ev_c (Ex.refl _) rfl (done_same hO hG k)
  rw [if_neg (by simpa using hc)] at k
  have hkm := h4.is m
  have hkn := h4.is n
  rw [← knownAt_some] at hkm hkn
  refine sv_when (b := !(knownAt B m).isSome || !(knownAt B n).isSome) (et_or (et_test (ev_is (ev_dnotin (k := .inl (m : Int)) (ev_book1 T (ev_var rfl) h2) (ev_var rfl) h3) (by rw [hkm]))) fun _ => et_test (ev_is (ev_dnotin (k := .inl (n : Int)) (ev_book1 T (ev_var rfl) h2) (ev_var rfl) h3) (by rw [hkn]))) (fun hc => ?_) fun hc => ?_
  · rw [if_pos (by
      rw [Option.not_isSome, Option.not_isSome] at hc
      exact Bool.or_eq_true_iff.mp hc)] at k
    exact sv_no ev_c (Ex.refl _) rfl (done_same hO hG k)
  rw [if_neg (fun h => by
      rw [Option.not_isSome, Option.not_isSome] at hc
      rw [Bool.or_eq_true_iff.mpr h] at hc
      cases hc)] at k
  have hkms : (knownAt B m).isSome = true := by simpa using (Bool.or_eq_false_iff.mp hc).1
  have hkns : (knownAt B n).isSome = true := by simpa using (Bool.or_eq_false_iff.mp hc).2
  have hln := hB.ln
  have hrn := hG.rn
  refine sv_when (b := decide (((L.rs.map fun x => V.ref x.1).length : Int) ≥ 16)) (et_test (ev_op (ev_len1 (ev_book2 T (ev_var rfl) h2) (sq_of hB.ls)) ev_c rv_I0)) (fun hc => ?_) fun hc => ?_
  · have hc := of_decide_eq_true hc
    rw [List.length_map, hln] at hc
    rw [if_pos (by omega)] at k
    exact sv_no ev_c (Ex.refl _) rfl (done_same hO hG k)
  have hc := of_decide_eq_false hc
  rw [List.length_map, hln] at hc
  rw [if_neg (by omega)] at k
  intro H1 e1
  refine q_appP (P := NewRun K H1 m n) (e1 _ _ hB.ls) (ev_book2 T (ev_var rfl) (e1 _ _ h2)) (evp_mkrun (ea_cons (ev_var rfl) (ea_cons (ev_var rfl) ea_nil))) (by rw [List.length_map]; omega) fun v1 H2 e2 hv1 => ?_
  obtain ⟨p, l, rfl, hp0, hl0, hR⟩ := hv1
  have hp0 := fresh_back e1 hp0
  have hl0 := fresh_back e1 hl0
  have f : Fr [L.l] H (upd H2 L.l (.lst ((L.rs.map fun x => V.ref x.1) ++ [.ref p]))) := fr_one (e1.trans e2)
  have nb : b ≠ L.l := hB.nb mut_ls fun g dx e => by
    rw [hB.ls] at e
    cases e
  have hnl := hB.new_l hl0
  refine Sv.go (sv_retF (l := [(B.runs.length : Int)]) (ea_cons (ev_is (ev_sub (ev_len1 (ev_book2 T (ev_var rfl) (dx := db) (d := L.d) (l := L.l) (by rw [upd_ne nb]; exact e2 _ _ (e1 _ _ h2))) (sq_of upd_same)) ev_c) ?_) ea_nil) (by show 1 ≤ 100000; decide) f fun v H3 e3 h3 => k v H3 ⟨⟨L.d, L.l, L.rs ++ [(p, l, [])]⟩, ?_, h3, (f.then e3).one mut_ls, fun a ha => ?_, good_run hG hkms hkns (by omega)⟩)
  · congr 1
    rw [List.length_append, List.length_map, hln, List.length_singleton]
    omega
  · refine hO.push (p := (p, l)) (f.then e3) (e3 _ _ upd_same) ?_ hnl
    have hlne : l ≠ L.l := fun e => hnl (by rw [e]; exact List.mem_cons_self ..)
    have hpne : p ≠ L.l := fun e => by
      rw [e, hB.ls] at hp0
      cases hp0
    refine hR.fr ((fr_one (a := L.l) (Ex.refl H2)).then e3) (ns hpne) (ns hlne) fun a ha => absurd ha List.not_mem_nil
  · rcases mut_push (p := (p, l)) ha with h | rfl
    · exact .inl h
    · exact .inr hl0
theorem sc_add_leg : FnScope ["office", "numbers", "number", "point", "east", "north", "length", "run"] ["office", "numbers"] (defScope s_add_leg) := ⟨rfl, rfl, rfl, by decide +kernel, rfl, by decide +kernel, by decide +kernel⟩
theorem ok_add_leg (T : Txt K mg) : Def P w K mg base CX0 3 "add_leg" ["office", "numbers"] (spAddLeg K) := by
  refine T.def_ 86 72 rfl rfl rfl rfl rfl sc_add_leg (fun _ _ _ _ _ _ us hl => match us, hl with | [_, _], _ => rfl) (fun vs H Q E h => by first | (obtain ⟨_, rfl, _⟩ := h; rfl) | (obtain ⟨_, _, rfl, _⟩ := h; rfl) | (obtain ⟨_, _, _, rfl, _⟩ := h; rfl) | (obtain ⟨_, _, _, _, rfl, _⟩ := h; rfl) | (obtain ⟨_, _, _, _, _, rfl, _⟩ := h; rfl) | (obtain ⟨_, _, _, _, _, _, rfl, _⟩ := h; rfl) | (obtain ⟨_, _, _, _, _, _, _, rfl, _⟩ := h; rfl) | (obtain ⟨_, _, _, _, _, _, _, _, rfl, _⟩ := h; rfl) | (obtain ⟨_, _, _, _, _, _, _, _, _, rfl, _⟩ := h; rfl) | (obtain ⟨_, _, _, _, _, _, _, _, _, _, rfl, _⟩ := h; rfl) | (obtain ⟨_, _, _, _, _, _, _, _, _, _, _, rfl, _⟩ := h; rfl) | (obtain ⟨_, _, _, _, _, _, _, _, _, _, _, _, rfl, _⟩ := h; rfl) | (obtain ⟨_, _, _, _, _, _, _, _, _, _, _, _, _, rfl, _⟩ := h; rfl) | (obtain ⟨_, _, _, _, _, _, _, _, _, _, _, _, _, _, rfl, _⟩ := h; rfl) | (obtain ⟨_, _, _, _, _, _, _, _, _, _, _, _, _, _, _, rfl, _⟩ := h; rfl) | (obtain ⟨_, _, _, _, _, _, _, _, _, _, _, _, _, _, _, _, rfl, _⟩ := h; rfl) | (obtain ⟨_, _, _, _, _, _, _, _, _, _, _, _, _, _, _, _, _, rfl, _⟩ := h; rfl) | (obtain ⟨_, _, _, _, _, _, _, _, _, _, _, _, _, _, _, _, _, _, rfl, _⟩ := h; rfl) | (obtain ⟨_, _, _, _, _, _, _, _, _, _, _, _, _, _, _, _, _, _, _, rfl, _⟩ := h; rfl)) (fun f cdv A outer s H vs Q E hr h => ⟨_, PSs.nox (pss_cons (ps_asg (pv 1) (pg_unl rfl (pgs_cons (pg_name (i := 2) sc_add_leg.nd rfl (Or.inl rfl)) (pgs_cons (pg_name (i := 3) sc_add_leg.nd rfl (Or.inl rfl)) (pgs_cons (pg_name (i := 4) sc_add_leg.nd rfl (Or.inl rfl)) (pgs_cons (pg_name (i := 5) sc_add_leg.nd rfl (Or.inl rfl)) (pgs_cons (pg_name (i := 6) sc_add_leg.nd rfl (Or.inl rfl)) pgs_nil))))))) (pss_cons (ps_if (PW.pt (pw_or (pt_not (pt_val (pe_cd (ok_is_point T) hr pass0 (pa_cons (pv 3) pa_nil)))) (pw_or (pt_not (pt_val (pe_cd (ok_is_step T) hr pass0 (pa_cons (pv 4) (pa_cons (pv 5) pa_nil))))) (pw_or1 (pt_not (pt_val (pe_cd (ok_is_within T) hr pass0 (pa_cons (pv 6) (pa_cons pe_int (pa_cons (pe_gi (T.int 128 rfl)) pa_nil)))))))))) (pss_one (ps_ret (pe_lst (pa_cons (pe_gi (T.int 148 rfl)) pa_nil)))) pss_nil) (pss_cons (ps_if (pt_not (pt_val (pe_cd (ok_has_run T) hr pass0 (pa_cons (pv 0) (pa_cons (pv 2) pa_nil))))) (pss_one (ps_ret (pe_lst (pa_cons (pe_gi (T.int 150 rfl)) pa_nil)))) pss_nil) (pss_cons (ps_set (i := 7) sc_add_leg.nd rfl (Or.inl rfl) (pe_ix ix_list (pe_fld (pe_fld (pv 0) rfl) rfl) (pv 2) (fun _ _ => rfl))) (pss_cons (ps_if (pt_cmpR op_ge (pe_callB call_len (by rfl) (T.free 160 rfl) (by decide +kernel) (pa_cons (pe_fld (pv 7) rfl) pa_nil)) (pe_gi (T.int 126 rfl)) (nomark _)) (pss_one (ps_ret (pe_lst (pa_cons (pe_gi (T.int 153 rfl)) pa_nil)))) pss_nil) (pss_cons (ps_if (pt_not (pt_val (pe_cd (ok_may_reach T) hr pass0 (pa_cons (pe_fld (pv 0) rfl) (pa_cons (pv 7) (pa_cons (pv 3) pa_nil)))))) (pss_one (ps_ret (pe_lst (pa_cons (pe_gi (T.int 151 rfl)) pa_nil)))) pss_nil) (pss_cons (ps_expr (pe_bm PySem.F.plainAttrs_list PySem.F.slot_list_append PySem.F.type_list_append mt_append (pe_fld (pv 7) rfl) (pa_cons (pe_mk (ok_Leg_init T) (T.mkr 170 rfl) (T.glo 94 rfl) hr pass0 (pa_cons (pv 3) (pa_cons (pv 4) (pa_cons (pv 5) (pa_cons (pv 6) pa_nil))))) pa_nil))) (pss_one (ps_ret (pe_lst (pa_cons (pe_callB call_len (by rfl) (T.free 160 rfl) (by decide +kernel) (pa_cons (pe_fld (pv 7) rfl) pa_nil)) pa_nil))))))))))), ?_⟩)
  obtain ⟨o, nn, B, L, t, n, dx, dy, lg, rfl, hO, hG, hn, k⟩ := h
  have es : step B (.leg t n dx dy lg) = if numberMay n = false ∨ RunBook.legMay dx dy lg = false then (B, LsAns.says (-1)) else match B.runs[t]? with
    | none => (B, LsAns.says (-4))
    | some r => if 24 ≤ r.legs.length then (B, LsAns.says (-7)) else if mayReach B r n = false then (B, LsAns.says (-5)) else (setRun B t (r.legs ++ [⟨n, dx, dy, lg⟩]), LsAns.says ((r.legs.length + 1 : Nat) : Int)) := rfl
  rw [es] at k
  refine Sv.go (sv_unl5 (ev_var rfl) hn ?_)
  refine sv_when (b := !numberMay n || (!stepOk dx dy || !(decide ((1 : Int) ≤ (lg : Int)) && decide ((lg : Int) ≤ 999999)))) (et_or (et_pt (ev_var rfl)) fun _ => et_or (et_not (et_test (ev_callV (ea_cons (ev_var rfl) (ea_cons (ev_var rfl) ea_nil)) fun _ _ _ k => ⟨dx, dy, rfl, k⟩))) fun _ => et_not (et_test (ev_withinC (ev_var rfl) ev_c ev_c))) (fun hc => ?_) fun hc => ?_
  · have hm : numberMay n = false ∨ RunBook.legMay dx dy lg = false := by
      rcases Bool.or_eq_true_iff.mp hc with h | h
      · exact .inl (by simpa using h)
      · right
        cases hq : RunBook.legMay dx dy lg with
        | false => rfl
        | true =>
          unfold RunBook.legMay RunBook.REACH RunBook.LONG at hq
          unfold stepOk at h
          simp only [Bool.and_eq_true, decide_eq_true_eq, Bool.or_eq_true, Bool.not_eq_true', Bool.and_eq_false_iff, decide_eq_false_iff_not] at hq h
          omega
    rw [if_pos hm] at k
    exact sv_no ev_c (Ex.refl _) rfl (done_same hO hG k)
  have hs : numberMay n = true ∧ stepOk dx dy = true ∧ 1 ≤ lg ∧ lg ≤ 999999 := by
    simp only [Bool.or_eq_false_iff, Bool.not_eq_false', Bool.and_eq_true, decide_eq_true_eq] at hc
    obtain ⟨q1, q2, q3, q4⟩ := hc
    exact ⟨q1, q2, by omega, by omega⟩
  obtain ⟨hnm, hst, hl1, hl2⟩ := hs
  have hleg : RunBook.legMay dx dy lg = true := by
    unfold RunBook.legMay RunBook.REACH RunBook.LONG
    unfold stepOk at hst
    simp only [Bool.and_eq_true, decide_eq_true_eq] at hst ⊢
    omega
  rw [if_neg (by rw [hnm, hleg]; decide)] at k
  refine sv_when (b := !decide (t < B.runs.length)) (et_not (et_test (ev_callV (ea_cons (ev_var rfl) (ea_cons (ev_var rfl) ea_nil)) fun H1 e Q k => ⟨o, B, t, rfl, hO.at_.mono e, k⟩))) (fun hc => ?_) fun hc => ?_
  · have hr : B.runs[t]? = none := List.getElem?_eq_none (by simpa using hc)
    rw [hr] at k
    exact sv_no ev_c (Ex.refl _) rfl (done_same hO hG k)
  have hc : t < B.runs.length := by simpa using hc
  obtain ⟨r, hr⟩ : ∃ r, B.runs[t]? = some r := ⟨_, List.getElem?_eq_getElem hc⟩
  rw [hr] at k
  simp only at k
  have hsr := evp_runs_ok hG hr
  obtain ⟨x, hx, hR⟩ := hO.lay hr
  obtain ⟨⟨dr, r1⟩, r2, r3⟩ := id hR
  have hlen := each_len r3
  rw [List.length_map, List.length_map] at hlen
  refine sv_set (ev_runL T hO (ev_var rfl) (ev_var rfl) hx) ?_
  refine sv_when (b := decide (((x.2.2.map V.ref).length : Int) ≥ 24)) (et_test (ev_op (ev_len1 (ev_run3 T (ev_var rfl) r1) (sq_of r2)) ev_c rv_I0)) (fun hc => ?_) fun hc => ?_
  · have hq := of_decide_eq_true hc
    rw [List.length_map] at hq
    rw [if_pos (by omega)] at k
    exact sv_no ev_c (Ex.refl _) rfl (done_same hO hG k)
  have hq := of_decide_eq_false hc
  rw [List.length_map] at hq
  rw [if_neg (by omega)] at k
  obtain ⟨do_, b, h1, hB⟩ := id hO
  refine sv_when (b := !mayReach B r n) (et_not (et_test (ev_callV (ea_cons (ev_off T (ev_var rfl) h1) (ea_cons (ev_var rfl) (ea_cons (ev_var rfl) ea_nil))) fun H1 e Q k => ⟨_, _, B, r, n, rfl, stay_BookAt _ _ _ _ e hB.at_, stay_RunAt _ _ _ _ e hR.at_, hsr.n, k⟩))) (fun hc => ?_) fun hc => ?_
  · rw [if_pos (by simpa using hc)] at k
    exact sv_no ev_c (Ex.refl _) rfl (done_same hO hG k)
  rw [if_neg (by simpa using hc)] at k
  intro H1 e1
  refine q_appP (P := NewO H1 (He.ga K "Leg") (legF ⟨n, dx, dy, lg⟩)) (e1 _ _ r2) (ev_run3 T (ev_var rfl) (e1 _ _ r1)) (evp_leg (g := ⟨n, dx, dy, lg⟩) (ea_cons (ev_var rfl) (ea_cons (ev_var rfl) (ea_cons (ev_var rfl) (ea_cons (ev_var rfl) ea_nil))))) (by rw [List.length_map]; omega) fun v1 H2 e2 hv1 => ?_
  obtain ⟨p, dp, rfl, hp0, hpl⟩ := hv1
  have hp0 := fresh_back e1 hp0
  have f : Fr [x.2.1] H (upd H2 x.2.1 (.lst (x.2.2.map V.ref ++ [.ref p]))) := fr_one (e1.trans e2)
  have hne : x.1 ≠ x.2.1 := fun e => by
    rw [e, r2] at r1
    cases r1
  have hpne : p ≠ x.2.1 := fun e => by
    rw [e, r2] at hp0
    cases hp0
  refine Sv.go (sv_retF (l := [((r.legs.length + 1 : Nat) : Int)]) (ea_cons (ev_is (ev_len1 (ev_run3 T (ev_var rfl) (dx := dr) (b := r.from_) (e := r.to_) (by rw [upd_ne hne]; exact e2 _ _ (e1 _ _ r1))) (sq_of upd_same)) ?_) ea_nil) (by show 1 ≤ 100000; decide) f fun v H3 e3 h3 => k v H3 ⟨⟨L.d, L.l, L.rs.set t (x.1, x.2.1, x.2.2 ++ [p])⟩, ?_, h3, (f.then e3).one (mut_l hx), fun a ha => ?_, good_set hG hr (by rw [List.length_append, List.length_singleton]; omega) fun g hg => ?_⟩)
  · rw [List.length_append, List.length_map, hlen]
    rfl
  · refine hO.legs hx hr (f.then e3) ?_ ?_ (flat_push hx hO.nd (hB.new_g hp0))
    · rw [List.map_append]
      exact e3 _ _ upd_same
    · rw [List.map_append, List.map_append]
      refine each_append (each_keep (fun g v hv hg => leg_fr (f.then e3) (fun a ea => ns fun e => ?_) hg) r3) ⟨p, dp, rfl, e3 _ _ (by rw [upd_ne hpne]; exact hpl)⟩
      obtain ⟨z, dz, ez, hz⟩ := hg
      have e4 := V.ref.inj (ez.symm.trans ea)
      rw [e4, e, r2] at hz
      cases hz
  · rcases mut_set hx ha with h | h
    · exact .inl h
    · rcases List.mem_append.mp h with h | h
      · exact .inl (mut_g hx h)
      · rw [List.mem_singleton.mp h]
        exact .inr hp0
  · rcases List.mem_append.mp hg with hg | hg
    · exact ⟨hsr.l g hg, (hG.rs r (List.mem_of_getElem? hr)).2.2.2 g hg⟩
    · rw [List.mem_singleton.mp hg]
      refine ⟨⟨?_, ?_, hl1, hl2, ?_⟩, may_num hnm⟩
      · unfold stepOk at hst
        simp only [Bool.and_eq_true, decide_eq_true_eq] at hst
        exact hst.1
      · unfold stepOk at hst
        simp only [Bool.and_eq_true, decide_eq_true_eq] at hst
        exact hst.2.1
      · unfold stepOk at hst
        simp only [Bool.and_eq_true, decide_eq_true_eq] at hst
        exact hst.2.2
end
end Trav
namespace Trav
open LsRun (Leg Spot Reading)
open LsGeo (Pt)
open RunBook (Book knownAt numberMay mayReach putKnown)
open TravSpec (Call asks step setRun)
section
variable {K : PySem.W.Frag} {H H0 H1 H2 H' : Hp} {a b c o : Addr} {B : Book} {L : Lay}
theorem mut_two {dx : Addr} {C : Addr} {fs : List (Str × V)} {f : Str} {v : V} (h : Ex H H1) : Fr [a] H (upd H1 a (.ins C dx (putF f v fs))) := fr_one h
end
def spOffInit (K : PySem.W.Frag) : Sp := fun vs H Q _ => ∃ (x dx : Addr), vs = [.ref x] ∧ H x = some (.ins (He.ga K "Office") dx []) ∧ (∀ H' b d l, H b = none → H d = none → H l = none → ExA x H H' → H' x = some (.ins (He.ga K "Office") dx [("book", .ref b)]) → BookOn K RunBook.empty ⟨d, l, []⟩ b H' → Q .non H')
section
variable {P : Program} {w : World} {K : PySem.W.Frag} {mg : Str → Option Value} {base : Heap} {σ : L2.St} {H : Hp} {ta tb tc te : TE} {D : Ends} {tz tu : TS} {x y z u v : V}
theorem sc_mend : FnScope ["office", "numbers", "number", "leg", "kind", "place", "reading", "mended"] ["office", "numbers"] (defScope s_mend) := ⟨rfl, rfl, rfl, by decide +kernel, rfl, by decide +kernel, by decide +kernel⟩
theorem ok_mend (T : Txt K mg) : Def P w K mg base CX0 7 "mend" ["office", "numbers"] (spDo K 4 (fun as => .mend (as.getD 0 0) (as.getD 1 0) (as.getD 2 0) (as.getD 3 0))) := by
  refine T.def_ 98 84 rfl rfl rfl rfl rfl sc_mend (fun _ _ _ _ _ _ us hl => match us, hl with | [_, _], _ => rfl) (fun vs H Q E h => by first | (obtain ⟨_, rfl, _⟩ := h; rfl) | (obtain ⟨_, _, rfl, _⟩ := h; rfl) | (obtain ⟨_, _, _, rfl, _⟩ := h; rfl) | (obtain ⟨_, _, _, _, rfl, _⟩ := h; rfl) | (obtain ⟨_, _, _, _, _, rfl, _⟩ := h; rfl) | (obtain ⟨_, _, _, _, _, _, rfl, _⟩ := h; rfl) | (obtain ⟨_, _, _, _, _, _, _, rfl, _⟩ := h; rfl) | (obtain ⟨_, _, _, _, _, _, _, _, rfl, _⟩ := h; rfl) | (obtain ⟨_, _, _, _, _, _, _, _, _, rfl, _⟩ := h; rfl) | (obtain ⟨_, _, _, _, _, _, _, _, _, _, rfl, _⟩ := h; rfl) | (obtain ⟨_, _, _, _, _, _, _, _, _, _, _, rfl, _⟩ := h; rfl) | (obtain ⟨_, _, _, _, _, _, _, _, _, _, _, _, rfl, _⟩ := h; rfl) | (obtain ⟨_, _, _, _, _, _, _, _, _, _, _, _, _, rfl, _⟩ := h; rfl) | (obtain ⟨_, _, _, _, _, _, _, _, _, _, _, _, _, _, rfl, _⟩ := h; rfl) | (obtain ⟨_, _, _, _, _, _, _, _, _, _, _, _, _, _, _, rfl, _⟩ := h; rfl) | (obtain ⟨_, _, _, _, _, _, _, _, _, _, _, _, _, _, _, _, rfl, _⟩ := h; rfl) | (obtain ⟨_, _, _, _, _, _, _, _, _, _, _, _, _, _, _, _, _, rfl, _⟩ := h; rfl) | (obtain ⟨_, _, _, _, _, _, _, _, _, _, _, _, _, _, _, _, _, _, rfl, _⟩ := h; rfl) | (obtain ⟨_, _, _, _, _, _, _, _, _, _, _, _, _, _, _, _, _, _, _, rfl, _⟩ := h; rfl)) (fun f cdv A outer s H vs Q E hr h => ⟨_, PSs.nox (pss_cons (ps_asg (pv 1) (pg_unl rfl (pgs_cons (pg_name (i := 2) sc_mend.nd rfl (Or.inl rfl)) (pgs_cons (pg_name (i := 3) sc_mend.nd rfl (Or.inl rfl)) (pgs_cons (pg_name (i := 4) sc_mend.nd rfl (Or.inl rfl)) (pgs_cons (pg_name (i := 5) sc_mend.nd rfl (Or.inl rfl)) pgs_nil)))))) (pss_cons (ps_set (i := 6) sc_mend.nd rfl (Or.inl rfl) (pe_cd (ok_reading_told T) hr pass0 (pa_cons (pv 0) (pa_cons (pv 1) pa_nil)))) (pss_cons (ps_if (pt_cmpR op_isN (pv 6) pe_non (nomark _)) (pss_one (ps_ret (pe_lst (pa_cons (pe_gi (T.int 150 rfl)) pa_nil)))) pss_nil) (pss_cons (ps_if (PW.pt (pw_or (pt_cmpR op_eq (pv 4) (pe_gi (T.int 141 rfl)) (nomark _)) (pw_or1 (pt_cmpR op_eq (pv 4) (pe_gi (T.int 142 rfl)) (nomark _))))) (pss_one (ps_ret (pe_lst (pa_cons (pe_gi (T.int 151 rfl)) pa_nil)))) pss_nil) (pss_cons (ps_set (i := 7) sc_mend.nd rfl (Or.inl rfl) (pe_ix ix_list (pe_fld (pe_ix ix_list (pe_fld (pe_fld (pv 0) rfl) rfl) (pv 2) (fun _ _ => rfl)) rfl) (pv 3) (fun _ _ => rfl))) (pss_cons (ps_fld (pv 7) (pe_ix ix_tup (pv 6) pe_int (fun _ _ => rfl)) rfl) (pss_cons (ps_fld (pv 7) (pe_ix ix_tup (pv 6) pe_int (fun _ _ => rfl)) rfl) (pss_one (ps_ret (pe_lst (pa_cons pe_int pa_nil))))))))))), ?_⟩)
  obtain ⟨o, nn, B, L, as, rfl, hO, hG, hn, hl, k⟩ := h
  obtain ⟨t, i, kk, j, rfl⟩ := four_arg hl
  have k : ∀ v H', Done K o L H (step B (.mend t i kk j)) v H' → Q v H' := k
  have es : step B (.mend t i kk j) = match B.runs[t]? with
    | none => (B, LsAns.says (-4))
    | some r => match TravSpec.readingOf r i kk j with
      | none => (B, LsAns.says (-4))
      | some x => if kk = 5 ∨ kk = 6 then (B, LsAns.says (-5)) else match r.legs[i]? with
        | none => (B, LsAns.says (-4))
        | some g => (setRun B t (r.legs.set i { g with dx := x.dx, dy := x.dy }), LsAns.says 0) := rfl
  rw [es] at k
  refine Sv.go (sv_unl4 (ev_var rfl) hn ?_)
  refine sv_setP (P := OptAt K (optR B t i kk j)) (evp_call (ea_cons (ev_var rfl) (ea_cons (ev_var rfl) ea_nil)) fun H2 e Q k => ⟨o, nn, B, t, i, kk, j, rfl, hO.at_.mono e, hG, ex_l e hn, k⟩) fun v1 H1 e1 h1 => ?_
  cases ho : optR B t i kk j with
  | none =>
    rw [ho] at h1
    have h1 : v1 = .non := h1
    subst h1
    have k2 : ∀ v H', Done K o L H (B, LsAns.says (-4)) v H' → Q v H' := by
      unfold optR at ho
      cases hr : B.runs[t]? with
      | none =>
        rw [hr] at k
        exact k
      | some r =>
        rw [hr] at ho k
        have ho : TravSpec.readingOf r i kk j = none := ho
        simp only at k
        rw [ho] at k
        exact k
    refine sv_when (b := true) (et_is (et_isN (ev_var rfl)) (by rfl)) (fun _ => ?_) (fun h => absurd h (by decide))
    exact sv_no ev_c e1 rfl (done_same hO hG k2)
  | some rd =>
    rw [ho] at h1
    obtain ⟨r, g, hr, hg, hf⟩ := optR_some ho
    have hro : TravSpec.readingOf r i kk j = some rd := by
      unfold optR at ho
      rw [hr] at ho
      exact ho
    rw [hr] at k
    simp only at k
    rw [hro] at k
    simp only at k
    rw [hg] at k
    simp only at k
    obtain ⟨ax, rfl, hax⟩ := h1
    refine sv_when (b := false) (et_is (et_isN (ev_var rfl)) (by rfl)) (fun h => absurd h (by decide)) fun _ => ?_
    refine sv_when (b := decide (kk = 5) || decide (kk = 6)) (et_or (et_test (ev_eqN (ev_var rfl) ev_c)) fun _ => et_test (ev_eqN (ev_var rfl) ev_c)) (fun hc => ?_) fun hc => ?_
    · rw [if_pos (by simpa using hc)] at k
      exact sv_no ev_c e1 rfl (done_same hO hG k)
    have hk56 : ¬ (kk = 5 ∨ kk = 6) := by simpa using hc
    have hsr := evp_runs_ok hG hr
    rw [if_neg hk56] at k
    have hO1 := hO.mono e1
    obtain ⟨x, hx, hR⟩ := hO1.lay hr
    obtain ⟨⟨dr, r1⟩, r2, r3⟩ := id hR
    have hlen := each_len r3
    rw [List.length_map, List.length_map] at hlen
    obtain ⟨c, hc⟩ : ∃ c, x.2.2[i]? = some c := ⟨_, List.getElem?_eq_getElem (by have := (List.getElem?_eq_some_iff.mp hg).1; omega)⟩
    obtain ⟨g2, hg2, dc, dxc, ec, hcg⟩ := each_mem r3 (i := i) (x := .ref c) (by rw [List.getElem?_map, hc]; rfl)
    rw [hg] at hg2
    obtain rfl := Option.some.inj hg2
    obtain rfl := V.ref.inj ec
    refine sv_set (v := .ref c) (ev_ix (ev_run3 T (ev_runL T hO1 (ev_var rfl) (ev_var rfl) hx) r1) (ev_var rfl) (sq_of r2) (by rw [Trav.atI_nat, List.getElem?_map, hc]; rfl)) ?_
    intro H2 e2
    refine q_fld (e2 _ _ hcg) (T.cls 169 rfl) (T.noat 171 rfl) (by show 4 < 1000; decide) (ev_var rfl) (ev_ixT0 (ev_var rfl) ev_c (ex_t e2 hax) (i := 2) rfl) fun H3 e3 => ?_
    have f1 : Fr [c] H1 (upd H3 c (.ins (He.ga K "Leg") dxc (putF "east" (.int rd.dx) (legF g)))) := fr_one (e2.trans e3)
    have hS : ∀ a ∈ [c], ∀ u, H1 a = some u → NotT u := fun a ha u hu => by
      rw [List.mem_singleton.mp ha, hcg] at hu
      rw [← Option.some.inj hu]
      trivial
    have hax1 := fr_t f1 hS hax
    refine q_fld upd_same (T.cls 169 rfl) (T.noat 173 rfl) (by show 4 < 1000; decide) (ev_var rfl) (ev_ixT0 (ev_var rfl) ev_c hax1 (i := 3) rfl) fun H4 e4 => ?_
    have f2 : Fr [c] H1 (upd H4 c (.ins (He.ga K "Leg") dxc (putF "north" (.int rd.dy) (putF "east" (.int rd.dx) (legF g))))) := (f1.then e4).upd (.inl (List.mem_singleton.mpr rfl))
    have f0 : Fr [c] H _ := (Fr.of e1).trans f2
    refine Sv.go (sv_retF (l := [0]) (ea_cons ev_c ea_nil) (by show 1 ≤ 100000; decide) f0 fun v H5 e5 h5 => k v H5 ⟨L, ?_, h5, (f0.then e5).one (mut_g hx (List.mem_of_getElem? hc)), fun a ha => .inl ha, good_set hG hr (by rw [List.length_set]; exact hsr.n) fun g2 hg2 => ?_⟩)
    rotate_left
    · rcases List.mem_or_eq_of_mem_set hg2 with hg2 | rfl
      · exact ⟨hsr.l g2 hg2, (hG.rs r (List.mem_of_getElem? hr)).2.2.2 g2 hg2⟩
      · have hk := List.find?_some hf
        have hk2 : rd.kind = kk := by
          have hk := (Bool.and_eq_true_iff.mp hk).1
          simpa using hk
        exact ⟨reading_leg (hsr.l g (List.mem_of_getElem? hg)) (List.mem_of_find?_eq_some hf) (fun e => hk56 (.inl (by omega))) (fun e => hk56 (.inr (by omega))), (hG.rs r (List.mem_of_getElem? hr)).2.2.2 g (List.mem_of_getElem? hg)⟩
    exact hO1.mended (g' := { g with dx := rd.dx, dy := rd.dy }) hx hr hc hcg (f2.then e5) (e5 _ _ upd_same)
theorem sc_Office_init : FnScope ["self"] ["self"] (defScope s_Office_init) := ⟨rfl, rfl, rfl, by decide +kernel, rfl, by decide +kernel, by decide +kernel⟩
theorem ok_Office_init (T : Txt K mg) : MDef P w K mg base CX0 3 "Office" "__init__" ["self"] (spOffInit K) := by
  refine T.mdef 79 rfl rfl rfl rfl sc_Office_init (fun _ _ _ _ _ _ us hl => match us, hl with | [_], _ => rfl) (fun vs H Q E h => by first | (obtain ⟨_, rfl, _⟩ := h; rfl) | (obtain ⟨_, _, rfl, _⟩ := h; rfl) | (obtain ⟨_, _, _, rfl, _⟩ := h; rfl) | (obtain ⟨_, _, _, _, rfl, _⟩ := h; rfl) | (obtain ⟨_, _, _, _, _, rfl, _⟩ := h; rfl) | (obtain ⟨_, _, _, _, _, _, rfl, _⟩ := h; rfl) | (obtain ⟨_, _, _, _, _, _, _, rfl, _⟩ := h; rfl) | (obtain ⟨_, _, _, _, _, _, _, _, rfl, _⟩ := h; rfl) | (obtain ⟨_, _, _, _, _, _, _, _, _, rfl, _⟩ := h; rfl) | (obtain ⟨_, _, _, _, _, _, _, _, _, _, rfl, _⟩ := h; rfl) | (obtain ⟨_, _, _, _, _, _, _, _, _, _, _, rfl, _⟩ := h; rfl) | (obtain ⟨_, _, _, _, _, _, _, _, _, _, _, _, rfl, _⟩ := h; rfl) | (obtain ⟨_, _, _, _, _, _, _, _, _, _, _, _, _, rfl, _⟩ := h; rfl) | (obtain ⟨_, _, _, _, _, _, _, _, _, _, _, _, _, _, rfl, _⟩ := h; rfl) | (obtain ⟨_, _, _, _, _, _, _, _, _, _, _, _, _, _, _, rfl, _⟩ := h; rfl) | (obtain ⟨_, _, _, _, _, _, _, _, _, _, _, _, _, _, _, _, rfl, _⟩ := h; rfl) | (obtain ⟨_, _, _, _, _, _, _, _, _, _, _, _, _, _, _, _, _, rfl, _⟩ := h; rfl) | (obtain ⟨_, _, _, _, _, _, _, _, _, _, _, _, _, _, _, _, _, _, rfl, _⟩ := h; rfl) | (obtain ⟨_, _, _, _, _, _, _, _, _, _, _, _, _, _, _, _, _, _, _, rfl, _⟩ := h; rfl)) (fun f cdv A outer s H vs Q E hr h => ⟨_, PSs.nox (pss_one (ps_fld (pv 0) (pe_mk0 (ok_Book_init T) (T.mkr 181 rfl) (T.glo 96 rfl) hr pass0) rfl)), ?_⟩)
  obtain ⟨x, dx, rfl, hx, k⟩ := h
  refine s_fldP (P := NewBook K H) (fun v H1 H2 e ⟨b, d, l, ev, h0, h1, h2, hB⟩ => ⟨b, d, l, ev, h0, h1, h2, hB.mono e⟩) hx (T.cls 196 rfl) (T.noat 198 rfl) (lk l1) (ev_var rfl) evp_mkbook fun v H1 e1 ⟨b, d, l, ev, h0, h1, h2, hB⟩ => ?_
  subst ev
  have nb := ne_of_new h0 hx
  have nd := ne_of_new h1 hx
  have nl := ne_of_new h2 hx
  refine k _ b d l h0 h1 h2 (ExA.refl.upd e1) upd_same ?_
  refine hB.fr (S := [x]) (fr_one (Ex.refl H1)) (ns nb) (fun a ha => ?_) (fun y hy => absurd hy List.not_mem_nil) fun a ha u hu => ?_
  · rcases lay_mem.mp ha with rfl | rfl | ⟨y, hy, _⟩ | ⟨y, hy, _⟩
    · exact ns nd
    · exact ns nl
    · exact absurd hy List.not_mem_nil
    · exact absurd hy List.not_mem_nil
  · rw [List.mem_singleton.mp ha, e1 _ _ hx] at hu
    rw [← Option.some.inj hu]
    trivial
end
end Trav
namespace Trav
open LsText (Token)
open RunBook (Got amiss placeOf due num whole word)
/-! ## the reader -/
def Ended (l : List Token) : Prop := ∃ t, l.getLast? = some t ∧ (t.tok = .over ∨ t.tok = .none_)
theorem Ended.tail {t : Token} {r : List Token} (h : Ended (t :: r)) (h1 : t.tok ≠ .over) (h2 : t.tok ≠ .none_) : Ended r := by
  obtain ⟨z, hz, ho⟩ := h
  cases r with
  | nil =>
    have e : t = z := Option.some.inj hz
    subst e
    rcases ho with h | h
    · exact absurd h h1
    · exact absurd h h2
  | cons a r =>
    rw [List.getLast?_cons_cons] at hz
    exact ⟨z, hz, ho⟩
theorem Ended.cons {l : List Token} (h : Ended l) : ∃ t r, l = t :: r := by
  obtain ⟨z, hz, _⟩ := h
  cases l with
  | nil => cases hz
  | cons a r => exact ⟨a, r, rfl⟩
theorem tok_unfold (n q : Nat) (b : List UInt8) : LsText.tokensFrom (n + 1) q b = match (LsText.first (b.drop (LsText.gap false b))).1 with
    | .over => [⟨q + LsText.gap false b, .over⟩]
    | .none_ => [⟨q + LsText.gap false b, .none_⟩]
    | t => ⟨q + LsText.gap false b, t⟩ :: LsText.tokensFrom n (q + LsText.gap false b + (LsText.first (b.drop (LsText.gap false b))).2) ((b.drop (LsText.gap false b)).drop (LsText.first (b.drop (LsText.gap false b))).2) := rfl
theorem toks_ok : ∀ (n q : Nat) (b : List UInt8), Ended (LsText.tokensFrom n q b) ∧ (LsText.tokensFrom n q b).length ≤ b.length + 1
  | 0, q, b => ⟨⟨_, rfl, .inl rfl⟩, by show 1 ≤ b.length + 1; omega⟩
  | n + 1, q, b => by
    rw [tok_unfold]
    generalize hg : LsText.gap false b = g
    have key : ∀ t, (LsText.first (b.drop g)).1 = t → t ≠ .over → t ≠ .none_ → Ended (⟨q + g, t⟩ :: LsText.tokensFrom n (q + g + (LsText.first (b.drop g)).2) ((b.drop g).drop (LsText.first (b.drop g)).2)) ∧ (⟨q + g, t⟩ :: LsText.tokensFrom n (q + g + (LsText.first (b.drop g)).2) ((b.drop g).drop (LsText.first (b.drop g)).2)).length ≤ b.length + 1 := by
      intro t ht h1 h2
      obtain ⟨⟨z, hz, ho⟩, hl⟩ := toks_ok n (q + g + (LsText.first (b.drop g)).2) ((b.drop g).drop (LsText.first (b.drop g)).2)
      refine ⟨⟨z, ?_, ho⟩, ?_⟩
      · cases e : LsText.tokensFrom n (q + g + (LsText.first (b.drop g)).2) ((b.drop g).drop (LsText.first (b.drop g)).2) with
        | nil => rw [e] at hz; cases hz
        | cons a r => rw [List.getLast?_cons_cons, ← e]; exact hz
      · rw [List.length_cons]
        cases hd : b.drop g with
        | nil =>
          rw [hd] at ht
          exact absurd ht.symm h1
        | cons c r =>
          rw [hd] at hl ht
          have hf := (first_cons c r).2 (by rw [ht]; exact h2)
          rw [List.length_drop, List.length_cons] at hl
          have hb := congrArg List.length hd
          rw [List.length_drop, List.length_cons] at hb
          omega
    cases ht : (LsText.first (b.drop g)).1 with
    | over => exact ⟨⟨_, rfl, .inl rfl⟩, by show 1 ≤ b.length + 1; omega⟩
    | none_ => exact ⟨⟨_, rfl, .inr rfl⟩, by show 1 ≤ b.length + 1; omega⟩
    | word b => exact key _ ht nofun nofun
    | num b => exact key _ ht nofun nofun
    | text b => exact key _ ht nofun nofun
    | sign b => exact key _ ht nofun nofun
/-! what equals what -/
theorem eqv_ints : ∀ (a b : List Int), PyData.eqvAll (a.map .int) (b.map .int) = decide (a = b)
  | [], [] => rfl
  | [], _ :: _ => rfl
  | _ :: _, [] => rfl
  | x :: a, y :: b => by
    rw [List.map_cons, List.map_cons]
    show (x == y && PyData.eqvAll (a.map .int) (b.map .int)) = _
    rw [eqv_ints a b, Bool.eq_iff_iff]
    simp
theorem dp_ints {K : PySem.W.Frag} {H : Hp} : ∀ (a : List Int), DpAll K H (a.map V.int) (a.map .int)
  | [] => .nil
  | x :: a => .cons (.int x) (dp_ints a)
theorem shaped_ints (a : List Int) : SeqAt.shaped (.tuple (a.map .int)) = true := by
  have h1 : ∀ a : List Int, PyData.canLayAll0 (a.map .int) = true := by
    intro a
    induction a with
    | nil => rfl
    | cons x a ih =>
      rw [List.map_cons]
      show (true && PyData.canLayAll0 (a.map .int)) = true
      rw [ih]
      rfl
  have h2 : ∀ a : List Int, PyData.depthAll (a.map .int) ≤ 1 := by
    intro a
    induction a with
    | nil => decide
    | cons x a ih =>
      rw [List.map_cons]
      simp only [PyData.depthAll, PyData.depth]
      omega
  unfold SeqAt.shaped
  have h3 : PyData.canLay0 (.tuple (a.map .int)) = true := by
    simp only [PyData.canLay0]
    exact h1 a
  have h4 : PyData.depth (.tuple (a.map .int)) ≤ 64 := by
    simp only [PyData.depth]
    have := h2 a
    omega
  rw [h3, decide_eq_true h4]
  rfl
def rdF (p : Addr) (n : Nat) : List (Str × V) := [("tokens", .ref p), ("turn", .int (n : Int))]
/-- a reader at these tokens, of the list at p -/
def RdOn (K : PySem.W.Frag) (rd p : Addr) (l : List Token) (H : Hp) : Prop := ∃ dx n ts vs, H rd = some (.ins (He.ga K "Reader") dx (rdF p n)) ∧ H p = some (.lst vs) ∧ TokensV K ts vs H ∧ ts.drop n = l ∧ Ended l
theorem RdOn.mono {K : PySem.W.Frag} {rd p : Addr} {l : List Token} {H H' : Hp} (h : RdOn K rd p l H) (e : Ex H H') : RdOn K rd p l H' := let ⟨dx, n, ts, vs, h1, h2, h3, h4, h5⟩ := h; ⟨dx, n, ts, vs, e _ _ h1, e _ _ h2, stayN_Tokens (ex_n e) h3, h4, h5⟩
/-- an error, told -/
def FltE (K : PySem.W.Frag) (S : List Addr) (H : Hp) (f : RunBook.Fault) (E : XK) : Prop := ∀ H' d, Fr S H H' → H' d = none → E (.ref (He.ga K "Fault")) (some d) (upd H' d (.xd (fltF (.int (f.1 : Int)) (.int (f.2 : Int)))))
theorem FltE.mono {K : PySem.W.Frag} {S S' : List Addr} {H H1 : Hp} {f : RunBook.Fault} {E : XK} (h : FltE K S H f E) (g : Fr S H H1) (hs : ∀ a ∈ S', a ∈ S ∨ H a = none) : FltE K S' H1 f E := fun H' d k hd => h H' d (g.step k hs) hd
/-- what a def of the reader hands back: the value told of, the tokens behind it; or the error -/
def Gt (K : PySem.W.Frag) (rd p : Addr) {α : Type} (g : Got α) (P : α → V → Hp → Prop) (H : Hp) (Q : VK) (E : XK) : Prop := match g with
  | .ok x => ∀ v H', Fr [rd] H H' → RdOn K rd p x.2 H' → P x.1 v H' → Q v H'
  | .error f => FltE K [rd] H f E
def takeG (w : Int) (l : List Token) : Got Token := match l with
  | t :: r => if kindOf t.tok = w then .ok (t, r) else .error (amiss (t :: r))
  | [] => .error (2, 0)
def spTake (K : PySem.W.Frag) : Sp := fun vs H Q E => ∃ (rd p : Addr) (l : List Token) (w : Int), vs = [.ref rd, .int w] ∧ RdOn K rd p l H ∧ w ≠ 0 ∧ w ≠ 5 ∧ Gt K rd p (takeG w l) (fun t => TpE K [TokV K t.tok, fun v _ => v = .int (t.at_ : Int)]) H Q E
def spRdInit (K : PySem.W.Frag) : Sp := fun vs H Q _ => ∃ (x dx p : Addr), vs = [.ref x, .ref p] ∧ H x = some (.ins (He.ga K "Reader") dx []) ∧ (∀ H', ExA x H H' → H' x = some (.ins (He.ga K "Reader") dx (rdF p 0)) → Q .non H')
def spDone (K : PySem.W.Frag) : Sp := fun vs H Q _ => ∃ (rd p : Addr) (t : Token) (r : List Token), vs = [.ref rd] ∧ RdOn K rd p (t :: r) H ∧ RetV (.bl (decide (t.tok = .over))) H Q
/-- a word or a sign as it's written -/
def Wr (z : Str) (tk : LsText.Tok) : Prop := z.cps.size ≤ 40000 ∧ ∃ b, codesV z = bs b ∧ (tk = .word b ∨ ∃ c, b = [c] ∧ tk = .sign c)
def spNext (K : PySem.W.Frag) : Sp := fun vs H Q _ => ∃ (rd p : Addr) (t : Token) (r : List Token) (tk : LsText.Tok) (z : Str), vs = [.ref rd, .int (kindOf tk), .str z] ∧ RdOn K rd p (t :: r) H ∧ Wr z tk ∧ RetV (.bl (decide (t.tok = tk))) H Q
theorem kind_over {t : LsText.Tok} : kindOf t = 5 ↔ t = .over := by
  cases t <;> simp [kindOf]
/-- the values of two tokens of one kind -/
theorem wr_eq {K : PySem.W.Frag} {z : Str} {tk t : LsText.Tok} {u : V} {H : Hp} {q : Addr} (hw : Wr z tk) (hk : kindOf t = kindOf tk) (hu : TokV K t u H) (hq : SqT K H q (codesV z)) : ∃ d e, Dp K H u d ∧ Dp K H (.ref q) e ∧ SeqAt.shaped d = true ∧ SeqAt.shaped e = true ∧ PyData.eqv d e = decide (t = tk) := by
  obtain ⟨_, b, hb, hc⟩ := hw
  rw [hb] at hq
  have bi : ∀ l : List UInt8, bs l = (l.map fun c => (c.toNat : Int)).map V.int := fun l => by rw [List.map_map]; rfl
  have inj : ∀ l m : List UInt8, ((l.map fun c => (c.toNat : Int)) = m.map fun c => (c.toNat : Int)) → l = m := by
    intro l
    induction l with
    | nil =>
      intro m h
      cases m with
      | nil => rfl
      | cons c m => cases h
    | cons c l ih =>
      intro m h
      cases m with
      | nil => cases h
      | cons d m =>
        rw [List.map_cons, List.map_cons] at h
        injection h with h1 h2
        rw [ih m h2, UInt8.toNat_inj.mp (by omega : c.toNat = d.toNat)]
  have fin : ∀ b' : List UInt8, Tp K (bs b') u H → decide (b' = b) = decide (t = tk) → ∃ d e, Dp K H u d ∧ Dp K H (.ref q) e ∧ SeqAt.shaped d = true ∧ SeqAt.shaped e = true ∧ PyData.eqv d e = decide (t = tk) := by
    rintro b' ⟨a, rfl, ha⟩ he
    rw [bi] at ha hq
    refine ⟨.tuple ((b'.map fun c => (c.toNat : Int)).map .int), .tuple ((b.map fun c => (c.toNat : Int)).map .int), .tup ha (dp_ints _), .tup hq (dp_ints _), shaped_ints _, shaped_ints _, ?_⟩
    show PyData.eqvAll _ _ = _
    rw [eqv_ints, ← he, Bool.eq_iff_iff]
    simp only [decide_eq_true_eq]
    exact ⟨inj _ _, fun h => by rw [h]⟩
  rcases hc with rfl | ⟨c, rfl, rfl⟩
  · cases t with
    | word b' => exact fin b' hu (by rw [Bool.eq_iff_iff]; simp)
    | _ => exact absurd hk (by simp [kindOf])
  · cases t with
    | sign c' => exact fin [c'] hu (by rw [Bool.eq_iff_iff]; simp)
    | _ => exact absurd hk (by simp [kindOf])
section
variable {P : Program} {w : World} {K : PySem.W.Frag} {mg : Str → Option Value} {base : Heap} {σ : L2.St} {H : Hp} {ta tb tc te : TE} {D : Ends} {tz tu : TS} {x y z u v : V}
/-- self.tokens[self.turn] -/
theorem ev_turn (T : Txt K mg) {rd p : Addr} {t : Token} {r : List Token} (h : RdOn K rd p (t :: r) H) (ha : Ev ta σ H (.ref rd)) : ∃ (q : Addr) (u : V), Ev (tOp (rIxL K) (tFld K ta "tokens") (tFld K ta "turn")) σ H (.ref q) ∧ SqT K H q [.int (kindOf t.tok), .int (t.at_ : Int), u] ∧ TokV K t.tok u H := by
  obtain ⟨dx, n, ts, vs, h1, h2, h3, h4, h5⟩ := h
  have ht : ts[n]? = some t := by
    rw [← List.head?_drop, h4]
    rfl
  obtain ⟨v, hv, q, u, rfl, hq, hu⟩ := each_get h3 (i := n) (P := TokenV K t) (by rw [List.getElem?_map, ht]; rfl)
  exact ⟨q, u, ev_ix (ev_fld ha h1 (T.cls 184 rfl) (T.noat 186 rfl) rfl) (ev_fld ha h1 (T.cls 184 rfl) (T.noat 187 rfl) rfl) (sq_of h2) (by rw [Trav.atI_nat, hv]), hq, hu⟩
theorem sv_raise {ta : TA} {k q : Int} (h : EvA ta σ H [.int k, .int q]) {W : WX} (k1 : ∀ d H1, Ex H H1 → H1 d = none → W (.ref (He.ga K "Fault")) (some d) σ (upd H1 d (.xd (fltF (.int k) (.int q))))) : Sv (tRaiseF K W ta) D σ H := fun H1 e1 =>
  h H1 e1 _ fun H2 e2 => ⟨_, _, rfl, fun d hd => k1 d H2 (e1.trans e2) hd⟩
theorem sc_Reader_init : FnScope ["self", "tokens"] ["self", "tokens"] (defScope s_Reader_init) := ⟨rfl, rfl, rfl, by decide +kernel, rfl, by decide +kernel, by decide +kernel⟩
theorem ok_Reader_init (T : Txt K mg) : MDef P w K mg base CX0 1 "Reader" "__init__" ["self", "tokens"] (spRdInit K) := by
  refine T.mdef 32 rfl rfl rfl rfl sc_Reader_init (fun _ _ _ _ _ _ us hl => match us, hl with | [_, _], _ => rfl) (fun vs H Q E h => by first | (obtain ⟨_, rfl, _⟩ := h; rfl) | (obtain ⟨_, _, rfl, _⟩ := h; rfl) | (obtain ⟨_, _, _, rfl, _⟩ := h; rfl) | (obtain ⟨_, _, _, _, rfl, _⟩ := h; rfl) | (obtain ⟨_, _, _, _, _, rfl, _⟩ := h; rfl) | (obtain ⟨_, _, _, _, _, _, rfl, _⟩ := h; rfl) | (obtain ⟨_, _, _, _, _, _, _, rfl, _⟩ := h; rfl) | (obtain ⟨_, _, _, _, _, _, _, _, rfl, _⟩ := h; rfl) | (obtain ⟨_, _, _, _, _, _, _, _, _, rfl, _⟩ := h; rfl) | (obtain ⟨_, _, _, _, _, _, _, _, _, _, rfl, _⟩ := h; rfl) | (obtain ⟨_, _, _, _, _, _, _, _, _, _, _, rfl, _⟩ := h; rfl) | (obtain ⟨_, _, _, _, _, _, _, _, _, _, _, _, rfl, _⟩ := h; rfl) | (obtain ⟨_, _, _, _, _, _, _, _, _, _, _, _, _, rfl, _⟩ := h; rfl) | (obtain ⟨_, _, _, _, _, _, _, _, _, _, _, _, _, _, rfl, _⟩ := h; rfl) | (obtain ⟨_, _, _, _, _, _, _, _, _, _, _, _, _, _, _, rfl, _⟩ := h; rfl) | (obtain ⟨_, _, _, _, _, _, _, _, _, _, _, _, _, _, _, _, rfl, _⟩ := h; rfl) | (obtain ⟨_, _, _, _, _, _, _, _, _, _, _, _, _, _, _, _, _, rfl, _⟩ := h; rfl) | (obtain ⟨_, _, _, _, _, _, _, _, _, _, _, _, _, _, _, _, _, _, rfl, _⟩ := h; rfl) | (obtain ⟨_, _, _, _, _, _, _, _, _, _, _, _, _, _, _, _, _, _, _, rfl, _⟩ := h; rfl)) (fun f cdv A outer s H vs Q E hr h => ⟨_, PSs.nox (pss_cons (ps_fld (pv 0) (pv 1) rfl) (pss_one (ps_fld (pv 0) pe_int rfl))), ?_⟩)
  obtain ⟨x, dx, p, rfl, hx, k⟩ := h
  refine q_fld hx (T.cls 184 rfl) (T.noat 186 rfl) (lk l1) (ev_var rfl) (ev_var rfl) fun H1 e1 => ?_
  have x1 := ExA.upd (a := x) (o := .ins (He.ga K "Reader") dx (putF "tokens" (.ref p) [])) ExA.refl e1
  refine s_fld upd_same (T.cls 184 rfl) (T.noat 187 rfl) (lk (putF_lt l1)) (ev_var rfl) ev_c fun H2 e2 => ?_
  exact k _ (x1.upd e2) upd_same
theorem sc_Reader_is_done : FnScope ["self"] ["self"] (defScope s_Reader_is_done) := ⟨rfl, rfl, rfl, by decide +kernel, rfl, by decide +kernel, by decide +kernel⟩
theorem ok_Reader_is_done (T : Txt K mg) : MDef P w K mg base CX0 1 "Reader" "is_done" ["self"] (spDone K) := by
  refine T.mdef 33 rfl rfl rfl rfl sc_Reader_is_done (fun _ _ _ _ _ _ us hl => match us, hl with | [_], _ => rfl) (fun vs H Q E h => by first | (obtain ⟨_, rfl, _⟩ := h; rfl) | (obtain ⟨_, _, rfl, _⟩ := h; rfl) | (obtain ⟨_, _, _, rfl, _⟩ := h; rfl) | (obtain ⟨_, _, _, _, rfl, _⟩ := h; rfl) | (obtain ⟨_, _, _, _, _, rfl, _⟩ := h; rfl) | (obtain ⟨_, _, _, _, _, _, rfl, _⟩ := h; rfl) | (obtain ⟨_, _, _, _, _, _, _, rfl, _⟩ := h; rfl) | (obtain ⟨_, _, _, _, _, _, _, _, rfl, _⟩ := h; rfl) | (obtain ⟨_, _, _, _, _, _, _, _, _, rfl, _⟩ := h; rfl) | (obtain ⟨_, _, _, _, _, _, _, _, _, _, rfl, _⟩ := h; rfl) | (obtain ⟨_, _, _, _, _, _, _, _, _, _, _, rfl, _⟩ := h; rfl) | (obtain ⟨_, _, _, _, _, _, _, _, _, _, _, _, rfl, _⟩ := h; rfl) | (obtain ⟨_, _, _, _, _, _, _, _, _, _, _, _, _, rfl, _⟩ := h; rfl) | (obtain ⟨_, _, _, _, _, _, _, _, _, _, _, _, _, _, rfl, _⟩ := h; rfl) | (obtain ⟨_, _, _, _, _, _, _, _, _, _, _, _, _, _, _, rfl, _⟩ := h; rfl) | (obtain ⟨_, _, _, _, _, _, _, _, _, _, _, _, _, _, _, _, rfl, _⟩ := h; rfl) | (obtain ⟨_, _, _, _, _, _, _, _, _, _, _, _, _, _, _, _, _, rfl, _⟩ := h; rfl) | (obtain ⟨_, _, _, _, _, _, _, _, _, _, _, _, _, _, _, _, _, _, rfl, _⟩ := h; rfl) | (obtain ⟨_, _, _, _, _, _, _, _, _, _, _, _, _, _, _, _, _, _, _, rfl, _⟩ := h; rfl)) (fun f cdv A outer s H vs Q E hr h => ⟨_, PSs.nox (pss_one (ps_ret (pe_cmpR op_eq (pe_ix ix_tup (pe_ix ix_list (pe_fld (pv 0) rfl) (pe_fld (pv 0) rfl) (fun _ _ => rfl)) pe_int (fun _ _ => rfl)) (pe_gi (T.int 117 rfl)) (nomark _)))), ?_⟩)
  obtain ⟨rd, p, t, r, rfl, hR, k⟩ := h
  obtain ⟨q, u, h1, h2, h3⟩ := ev_turn T hR (ta := tVar 0) (σ := [some (.ref rd)]) (ev_var rfl)
  refine Sv.go (sv_ret (ev_is (ev_eqI (ev_ixT0 h1 ev_c h2 (i := 0) rfl) ev_c) ?_) k)
  congr 1
  rw [Bool.eq_iff_iff]
  simp only [decide_eq_true_eq]
  exact kind_over
theorem sc_Reader_is_next : FnScope ["self", "wanted", "written", "kind", "place", "value"] ["self", "wanted", "written"] (defScope s_Reader_is_next) := ⟨rfl, rfl, rfl, by decide +kernel, rfl, by decide +kernel, by decide +kernel⟩
theorem ok_Reader_is_next (T : Txt K mg) : MDef P w K mg base CX0 2 "Reader" "is_next" ["self", "wanted", "written"] (spNext K) := by
  refine T.mdef 34 rfl rfl rfl rfl sc_Reader_is_next (fun _ _ _ _ _ _ us hl => match us, hl with | [_, _, _], _ => rfl) (fun vs H Q E h => by first | (obtain ⟨_, rfl, _⟩ := h; rfl) | (obtain ⟨_, _, rfl, _⟩ := h; rfl) | (obtain ⟨_, _, _, rfl, _⟩ := h; rfl) | (obtain ⟨_, _, _, _, rfl, _⟩ := h; rfl) | (obtain ⟨_, _, _, _, _, rfl, _⟩ := h; rfl) | (obtain ⟨_, _, _, _, _, _, rfl, _⟩ := h; rfl) | (obtain ⟨_, _, _, _, _, _, _, rfl, _⟩ := h; rfl) | (obtain ⟨_, _, _, _, _, _, _, _, rfl, _⟩ := h; rfl) | (obtain ⟨_, _, _, _, _, _, _, _, _, rfl, _⟩ := h; rfl) | (obtain ⟨_, _, _, _, _, _, _, _, _, _, rfl, _⟩ := h; rfl) | (obtain ⟨_, _, _, _, _, _, _, _, _, _, _, rfl, _⟩ := h; rfl) | (obtain ⟨_, _, _, _, _, _, _, _, _, _, _, _, rfl, _⟩ := h; rfl) | (obtain ⟨_, _, _, _, _, _, _, _, _, _, _, _, _, rfl, _⟩ := h; rfl) | (obtain ⟨_, _, _, _, _, _, _, _, _, _, _, _, _, _, rfl, _⟩ := h; rfl) | (obtain ⟨_, _, _, _, _, _, _, _, _, _, _, _, _, _, _, rfl, _⟩ := h; rfl) | (obtain ⟨_, _, _, _, _, _, _, _, _, _, _, _, _, _, _, _, rfl, _⟩ := h; rfl) | (obtain ⟨_, _, _, _, _, _, _, _, _, _, _, _, _, _, _, _, _, rfl, _⟩ := h; rfl) | (obtain ⟨_, _, _, _, _, _, _, _, _, _, _, _, _, _, _, _, _, _, rfl, _⟩ := h; rfl) | (obtain ⟨_, _, _, _, _, _, _, _, _, _, _, _, _, _, _, _, _, _, _, rfl, _⟩ := h; rfl)) (fun f cdv A outer s H vs Q E hr h => ⟨_, PSs.nox (pss_cons (ps_asg (pe_ix ix_list (pe_fld (pv 0) rfl) (pe_fld (pv 0) rfl) (fun _ _ => rfl)) (pg_tup rfl (pgs_cons (pg_name (i := 3) sc_Reader_is_next.nd rfl (Or.inl rfl)) (pgs_cons (pg_name (i := 4) sc_Reader_is_next.nd rfl (Or.inl rfl)) (pgs_cons (pg_name (i := 5) sc_Reader_is_next.nd rfl (Or.inl rfl)) pgs_nil))))) (pss_one (ps_ret (pe_and (pe_cmpR op_eq (pv 3) (pv 1) (nomark _)) (pe_one (pe_cmpR (op_eqD hr.units) (pv 5) (pe_cd (ok_spelled T) hr pass0 (pa_cons (pv 2) pa_nil)) (nomark _))))))), ?_⟩)
  obtain ⟨rd, p, t, r, tk, z, rfl, hR, hw, k⟩ := h
  obtain ⟨q, u, h1, h2, h3⟩ := ev_turn T hR (ta := tVar 0) (σ := [some (.ref rd), some (.int (kindOf tk)), some (.str z), none, none, none]) (ev_var rfl)
  refine Sv.go (sv_unp3 (ev_Tp h1 h2) ?_)
  refine sv_ret (v := .bl (decide (kindOf t.tok = kindOf tk) && decide (t.tok = tk))) (ev_andV (ev_eqI (ev_var rfl) (ev_var rfl)) fun hc => ?_) ?_
  · have hc := of_decide_eq_true hc
    intro H1 e1 Q1 q1
    refine ev_var rfl H1 e1 _ fun H2 e2 => ?_
    refine c_spelled (ev_var rfl) hw.1 H2 (e1.trans e2) _ fun v H3 e3 hv => ?_
    obtain ⟨qa, rfl, hqa⟩ := hv
    obtain ⟨d, e, hd, he, s1, s2, heq⟩ := wr_eq hw hc (stay_TokV _ _ _ _ ((e1.trans e2).trans e3) h3) (st_of hqa)
    exact ⟨d, e, hd, he, s1, s2, by rw [heq]; exact q1 _ (e2.trans e3)⟩
  · have e : (decide (kindOf t.tok = kindOf tk) && decide (t.tok = tk)) = decide (t.tok = tk) := by
      by_cases h : t.tok = tk
      · rw [h]
        simp
      · rw [decide_eq_false h, Bool.and_false]
    rw [e]
    exact k
end
end Trav
namespace Trav
open LsText (Token)
open RunBook (Got amiss placeOf due num whole word Book knownAt)
/-- te keeps a promise of the reader's -/
def Mt (K : PySem.W.Frag) (te : TE) (σ : L2.St) (H : Hp) (rd p : Addr) {α : Type} (g : Got α) (P : α → V → Hp → Prop) (E : XK) : Prop := ∀ H1, Ex H H1 → ∀ Q, Gt K rd p g P H1 Q E → te σ H1 Q
def spWritten (K : PySem.W.Frag) : Sp := fun vs H Q E => ∃ (rd p : Addr) (l : List Token) (tk : LsText.Tok) (z : Str), vs = [.ref rd, .int (kindOf tk), .str z] ∧ RdOn K rd p l H ∧ Wr z tk ∧ Gt K rd p (due tk l) (fun _ v _ => v = .int (placeOf l : Int)) H Q E
/-- a number and its place -/
def NumAt (K : PySem.W.Frag) (pl : Nat) (z : Int) : V → Hp → Prop := TpE K [fun v _ => v = .int z, fun v _ => v = .int (pl : Int)]
def spNumber (K : PySem.W.Frag) : Sp := fun vs H Q E => ∃ (rd p : Addr) (l : List Token) (lo hi : Nat), vs = [.ref rd, .int (lo : Int), .int (hi : Int)] ∧ RdOn K rd p l H ∧ Gt K rd p (num lo hi l) (fun n => NumAt K (placeOf l) (n : Int)) H Q E
def spTPoint (K : PySem.W.Frag) : Sp := fun vs H Q E => ∃ (rd p : Addr) (l : List Token), vs = [.ref rd] ∧ RdOn K rd p l H ∧ Gt K rd p (num 1 99 l) (fun n => NumAt K (placeOf l) (n : Int)) H Q E
def spTStep (K : PySem.W.Frag) : Sp := fun vs H Q E => ∃ (rd p : Addr) (l : List Token), vs = [.ref rd] ∧ RdOn K rd p l H ∧ Gt K rd p (whole 99999 l) (fun n => NumAt K (placeOf l) n) H Q E
def spTKnown (K : PySem.W.Frag) : Sp := fun vs H Q E => ∃ (rd p b : Addr) (l : List Token) (B : Book) (L : Lay), vs = [.ref rd, .ref b] ∧ RdOn K rd p l H ∧ BookOn K B L b H ∧ Gt K rd p (RunBook.knownNo B l) (fun n v _ => v = .int (n : Int)) H Q E
section
variable {K : PySem.W.Frag} {H H1 H' : Hp} {rd p a b : Addr} {l : List Token} {S : List Addr} {B : Book} {L : Lay}
theorem RdOn.ended (h : RdOn K rd p l H) : Ended l := let ⟨_, _, _, _, _, _, _, _, h5⟩ := h; h5
theorem RdOn.ne {u : HO} (h : RdOn K rd p l H) (hu : H a = some u) (hn : ∀ dx n, u ≠ .ins (He.ga K "Reader") dx (rdF p n)) : a ≠ rd := fun e => by
  obtain ⟨dx, n, _, _, h1, _⟩ := h
  rw [e, h1] at hu
  exact hn dx n (Option.some.inj hu).symm
theorem rd_leg {dx dy : Addr} {n : Nat} {g : LsRun.Leg} : HO.ins (He.ga K "Leg") dy (legF g) ≠ .ins (He.ga K "Reader") dx (rdF p n) := fun e => by
  injection e with _ _ e3
  have e4 := congrArg List.length e3
  have e4 : 4 = 2 := e4
  cases e4
theorem rd_run {dx dy l : Addr} {m k n : Nat} : HO.ins (He.ga K "Run") dy (runF m k l) ≠ .ins (He.ga K "Reader") dx (rdF p n) := fun e => by
  injection e with _ _ e3
  have e4 := congrArg List.length e3
  have e4 : 3 = 2 := e4
  cases e4
theorem rd_book {dx dy d l : Addr} {n : Nat} : HO.ins (He.ga K "Book") dy (bookF d l) ≠ .ins (He.ga K "Reader") dx (rdF p n) := fun e => by
  injection e with _ _ e3
  have e4 := congrArg (fun x : List (Str × V) => x.map (·.1)) e3
  have e5 : [("known" : Str), ("runs" : Str)] = [("tokens" : Str), ("turn" : Str)] := e4
  exact absurd e5 (by decide)
/-- the book's parts are not the reader's -/
theorem BookOn.rd_not (h : BookOn K B L b H) (hr : RdOn K rd p l H) : rd ∉ L.mut := fun m => by
  obtain ⟨dx, n, _, _, h1, _⟩ := hr
  rcases lay_mem.mp m with e | e | ⟨x, hx, e⟩ | ⟨x, hx, hax⟩
  · obtain ⟨kvs, q1, _⟩ := h.kn
    rw [← e, h1] at q1
    cases q1
  · have q := h.ls
    rw [← e, h1] at q
    cases q
  · obtain ⟨i, hi⟩ := List.getElem?_of_mem hx
    obtain ⟨r, _, _, h2, _⟩ := h.run hi
    rw [← e, h1] at h2
    cases h2
  · obtain ⟨i, hi⟩ := List.getElem?_of_mem hx
    obtain ⟨r, _, hR⟩ := h.run hi
    obtain ⟨g, dg, h2⟩ := hR.leg hax
    rw [h1] at h2
    exact rd_leg (Option.some.inj h2).symm
/-- the book stays where the reader goes on -/
theorem BookOn.rdf (h : BookOn K B L b H) (hr : RdOn K rd p l H) (f : Fr [rd] H H') : BookOn K B L b H' := by
  obtain ⟨db, q1⟩ := h.bk
  refine h.fr f (ns (hr.ne q1 fun _ _ => rd_book)) (fun a ha => ns fun e => h.rd_not hr (by rw [← e]; exact ha)) (fun x hx => ?_) fun a ha u hu => ?_
  · obtain ⟨i, hi⟩ := List.getElem?_of_mem hx
    obtain ⟨r, _, ⟨dx, h1⟩, _⟩ := h.run hi
    exact ns (hr.ne h1 fun _ _ => rd_run)
  · obtain ⟨dx, n, _, _, h1, _⟩ := hr
    rw [List.mem_singleton.mp ha, h1] at hu
    rw [← Option.some.inj hu]
    trivial
end
section
variable {K : PySem.W.Frag} {H H1 H' : Hp} {rd p a b : Addr} {l : List Token} {S : List Addr} {σ : L2.St} {ta te : TE} {D : Ends} {tz : TS} {E : XK} {α : Type} {g : Got α} {P : α → V → Hp → Prop}
theorem sv_mset {i : Nat} (h : Mt K te σ H rd p g P E) (he : ∀ f, g = .error f → FltE K [rd] H f E) (hk : ∀ x r, g = .ok (x, r) → ∀ v H1, Fr [rd] H H1 → RdOn K rd p r H1 → P x v H1 → tz D (σ.set i (some v)) H1) : Sv (tSeq (tAsg te (gName i)) tz) D σ H := fun H1 e1 => h H1 e1 _ (by
  cases hg : g with
  | error f => exact (he f hg).mono (Fr.of e1) fun a ha => .inl ha
  | ok x => exact fun v H' f hr hp => hk x.1 x.2 hg v H' ((Fr.of e1).trans f) hr hp)
theorem sv_mdrop (h : Mt K te σ H rd p g P E) (he : ∀ f, g = .error f → FltE K [rd] H f E) (hk : ∀ x r, g = .ok (x, r) → ∀ v H1, Fr [rd] H H1 → RdOn K rd p r H1 → P x v H1 → tz D σ H1) : Sv (tSeq (tDrop te) tz) D σ H := fun H1 e1 => h H1 e1 _ (by
  cases hg : g with
  | error f => exact (he f hg).mono (Fr.of e1) fun a ha => .inl ha
  | ok x => exact fun v H' f hr hp => hk x.1 x.2 hg v H' ((Fr.of e1).trans f) hr hp)
theorem sv_mret (h : Mt K te σ H rd p g P E) (he : ∀ f, g = .error f → FltE K [rd] H f E) (hk : ∀ x r, g = .ok (x, r) → ∀ v H1, Fr [rd] H H1 → RdOn K rd p r H1 → P x v H1 → D.rt v H1) : Sv (tRet te) D σ H := fun H1 e1 => h H1 e1 _ (by
  cases hg : g with
  | error f => exact (he f hg).mono (Fr.of e1) fun a ha => .inl ha
  | ok x => exact fun v H' f hr hp => hk x.1 x.2 hg v H' ((Fr.of e1).trans f) hr hp)
theorem sv_mun2 {i j : Nat} {P1 P2 : α → V → Hp → Prop} (h : Mt K te σ H rd p g (fun x => TpE K [P1 x, P2 x]) E) (he : ∀ f, g = .error f → FltE K [rd] H f E) (hk : ∀ x r, g = .ok (x, r) → ∀ y z H1, Fr [rd] H H1 → RdOn K rd p r H1 → P1 x y H1 → P2 x z H1 → tz D ((σ.set i (some y)).set j (some z)) H1) :
    Sv (tSeq (tAsg te (gTup K 2 (gCons (gName i) (gCons (gName j) gNil)))) tz) D σ H := fun H1 e1 => h H1 e1 _ (by
  cases hg : g with
  | error f => exact (he f hg).mono (Fr.of e1) fun a ha => .inl ha
  | ok x =>
    rintro v H' f hr ⟨a, vs, rfl, hs, y, r, rfl, hy, z, r2, rfl, hz, e5⟩
    have e5 : r2 = [] := e5
    subst e5
    exact ⟨a, _, rfl, hs, rfl, _, _, rfl, _, _, rfl, rfl, hk x.1 x.2 hg y z H' ((Fr.of e1).trans f) hr hy hz⟩)
/-- a method of the reader -/
theorem mt_meth {m : Str} {sp : Sp} {ta : TE} {t : TA} {vs : List V} (hR : RdOn K rd p l H) (ha : Ev ta σ H (.ref rd)) (hm : ∀ n, (rdF p n).lookup m = none) (ht : EvA t σ H vs) (hs : ∀ H1, Ex H H1 → ∀ Q, Gt K rd p g P H1 Q E → sp (.ref rd :: vs) H1 Q E) : Mt K (tMeth (He.ga K "Reader") m sp [] E ta t) σ H rd p g P E := fun H1 e1 Q hQ => by
  obtain ⟨dx, n, ts, ws, h1, _⟩ := hR
  refine ha H1 e1 _ fun H2 e2 => ⟨rd, dx, _, rfl, e2 _ _ (e1 _ _ h1), hm n, ht H2 (e1.trans e2) _ fun H3 e3 => ?_⟩
  show sp (.ref rd :: (vs ++ [])) H3 Q E
  rw [List.append_nil]
  refine hs H3 ((e1.trans e2).trans e3) Q ?_
  cases g with
  | error f => exact FltE.mono hQ (Fr.of (e2.trans e3)) fun a ha => .inl ha
  | ok x => exact fun v H' f hr hp => hQ v H' ((Fr.of (e2.trans e3)).trans f) hr hp
end
theorem tok_fr {K : PySem.W.Frag} {S : List Addr} {H H' : Hp} (f : Fr S H H') (hS : ∀ a ∈ S, ∀ u, H a = some u → NotT u) : ∀ {t : LsText.Tok} {u : V}, TokV K t u H → TokV K t u H'
  | .word _, _, ⟨a, e, h⟩ => ⟨a, e, fr_t f hS h⟩
  | .num _, _, h => h
  | .sign _, _, ⟨a, e, h⟩ => ⟨a, e, fr_t f hS h⟩
  | .text _, _, ⟨a, e, h⟩ => ⟨a, e, fr_t f hS h⟩
  | .none_, _, ⟨a, e, h⟩ => ⟨a, e, fr_t f hS h⟩
  | .over, _, ⟨a, e, h⟩ => ⟨a, e, fr_t f hS h⟩
theorem place_cons {t : Token} {r : List Token} : placeOf (t :: r) = t.at_ := rfl
section
variable {P : Program} {w : World} {K : PySem.W.Frag} {mg : Str → Option Value} {base : Heap} {σ : L2.St} {H : Hp} {ta tb tc te : TE} {D : Ends} {tz tu : TS} {x y z u v : V}
theorem q_turn {a C dx : Addr} {fs : List (Str × V)} {f : Str} {i j : Int} {tv : TE} (hx : H a = some (.ins C dx fs)) (hc : Cls K C) (hn : NoAttr K C f) (hl : fs.length < 1000) (hf : fs.lookup f = some (.int i)) (ha : Ev ta σ H (.ref a)) (hv : Ev tv σ H (.int j)) (k : ∀ H1, Ex H H1 → tz D σ (upd H1 a (.ins C dx (putF f (.int (i + j)) fs)))) : tSeq (sFldAug K ta tv L2.rAdd f) tz D σ H :=
  ha H (Ex.refl H) _ fun H2 e2 => ⟨a, C, dx, fs, .int i, rfl, e2 _ _ hx, hc, hn, hf, hv H2 e2 _ fun H3 e3 => ⟨i, j, rfl, rfl, dx, fs, e3 _ _ (e2 _ _ hx), hl, k H3 (e2.trans e3)⟩⟩
/-- a Fault of a def's own -/
theorem sv_fault {rd : Addr} {ta : TA} {E : XK} {k q : Nat} {S : List Addr} (h : EvA ta σ H [.int (k : Int), .int (q : Int)]) (he : FltE K S H (k, q) E) : Sv (tRaiseF K (fun cls d _ H => E cls d H) ta) D σ H := sv_raise h fun d H1 e1 hd => he H1 d (Fr.of e1) hd
theorem amiss_none {t : Token} {r : List Token} (h : t.tok = .none_) : amiss (t :: r) = (1, t.at_) := by
  obtain ⟨p, k⟩ := t
  have h : k = .none_ := h
  subst h
  rfl
theorem amiss_two {t : Token} {r : List Token} (h : t.tok ≠ .none_) : amiss (t :: r) = (2, t.at_) := by
  obtain ⟨p, k⟩ := t
  have h : k ≠ .none_ := h
  cases k <;> first | rfl | exact absurd rfl h
theorem takeG_no {t : Token} {r : List Token} {w : Int} (h : ¬ kindOf t.tok = w) : takeG w (t :: r) = .error (amiss (t :: r)) := if_neg h
theorem takeG_yes {t : Token} {r : List Token} {w : Int} (h : kindOf t.tok = w) : takeG w (t :: r) = .ok (t, r) := if_pos h
theorem kind_none2 {t : LsText.Tok} : kindOf t = 0 ↔ t = .none_ := by
  cases t <;> simp [kindOf]
theorem sc_Reader_take : FnScope ["self", "wanted", "kind", "place", "value"] ["self", "wanted"] (defScope s_Reader_take) := ⟨rfl, rfl, rfl, by decide +kernel, rfl, by decide +kernel, by decide +kernel⟩
theorem ok_Reader_take (T : Txt K mg) : MDef P w K mg base (L2.CX P w) 1 "Reader" "take" ["self", "wanted"] (spTake K) := by
  refine T.mdef 35 rfl rfl rfl rfl sc_Reader_take (fun _ _ _ _ _ _ us hl => match us, hl with | [_, _], _ => rfl) (fun vs H Q E h => by first | (obtain ⟨_, rfl, _⟩ := h; rfl) | (obtain ⟨_, _, rfl, _⟩ := h; rfl) | (obtain ⟨_, _, _, rfl, _⟩ := h; rfl) | (obtain ⟨_, _, _, _, rfl, _⟩ := h; rfl) | (obtain ⟨_, _, _, _, _, rfl, _⟩ := h; rfl) | (obtain ⟨_, _, _, _, _, _, rfl, _⟩ := h; rfl) | (obtain ⟨_, _, _, _, _, _, _, rfl, _⟩ := h; rfl) | (obtain ⟨_, _, _, _, _, _, _, _, rfl, _⟩ := h; rfl) | (obtain ⟨_, _, _, _, _, _, _, _, _, rfl, _⟩ := h; rfl) | (obtain ⟨_, _, _, _, _, _, _, _, _, _, rfl, _⟩ := h; rfl) | (obtain ⟨_, _, _, _, _, _, _, _, _, _, _, rfl, _⟩ := h; rfl) | (obtain ⟨_, _, _, _, _, _, _, _, _, _, _, _, rfl, _⟩ := h; rfl) | (obtain ⟨_, _, _, _, _, _, _, _, _, _, _, _, _, rfl, _⟩ := h; rfl) | (obtain ⟨_, _, _, _, _, _, _, _, _, _, _, _, _, _, rfl, _⟩ := h; rfl) | (obtain ⟨_, _, _, _, _, _, _, _, _, _, _, _, _, _, _, rfl, _⟩ := h; rfl) | (obtain ⟨_, _, _, _, _, _, _, _, _, _, _, _, _, _, _, _, rfl, _⟩ := h; rfl) | (obtain ⟨_, _, _, _, _, _, _, _, _, _, _, _, _, _, _, _, _, rfl, _⟩ := h; rfl) | (obtain ⟨_, _, _, _, _, _, _, _, _, _, _, _, _, _, _, _, _, _, rfl, _⟩ := h; rfl) | (obtain ⟨_, _, _, _, _, _, _, _, _, _, _, _, _, _, _, _, _, _, _, rfl, _⟩ := h; rfl)) (fun f cdv A outer s H vs Q E hr h => ⟨_, (pss_cons (ps_asg (pe_ix ix_list (pe_fld (pv 0) rfl) (pe_fld (pv 0) rfl) (fun _ _ => rfl)) (pg_tup rfl (pgs_cons (pg_name (i := 2) sc_Reader_take.nd rfl (Or.inl rfl)) (pgs_cons (pg_name (i := 3) sc_Reader_take.nd rfl (Or.inl rfl)) (pgs_cons (pg_name (i := 4) sc_Reader_take.nd rfl (Or.inl rfl)) pgs_nil))))) (pss_cons (ps_if (pt_cmpR op_eq (pv 2) (pe_gi (T.int 112 rfl)) (nomark _)) (pss_one (ps_fault T hr (takes_of rfl rfl rfl rfl) (pa_cons (pe_gi (T.int 129 rfl)) (pa_cons (pv 3) pa_nil)))) pss_nil) (pss_cons (ps_if (pt_cmpR op_ne (pv 2) (pv 1) (nomark _)) (pss_one (ps_fault T hr (takes_of rfl rfl rfl rfl) (pa_cons (pe_gi (T.int 130 rfl)) (pa_cons (pv 3) pa_nil)))) pss_nil) (pss_cons (ps_fldaug (pv 0) pe_int in_add) (pss_one (ps_ret (pe_tup (pa_cons (pv 4) (pa_cons (pv 3) pa_nil))))))))), ?_⟩)
  obtain ⟨rd, p, l, w, rfl, hR, hw0, hw5, k⟩ := h
  obtain ⟨t, r, rfl⟩ := hR.ended.cons
  obtain ⟨q, u, h1, h2, h3⟩ := ev_turn T hR (ta := tVar 0) (σ := [some (.ref rd), some (.int w), none, none, none]) (ev_var rfl)
  refine Sv.go (sv_unp3 (ev_Tp h1 h2) ?_)
  refine sv_when (b := decide (kindOf t.tok = 0)) (et_test (ev_eqI (ev_var rfl) ev_c)) (fun hc => ?_) fun hc => ?_
  · have hn := kind_none2.mp (of_decide_eq_true hc)
    rw [takeG_no (by rw [hn]; exact fun e => hw0 e.symm), amiss_none hn] at k
    exact sv_fault (rd := rd) (ea_cons ev_c (ea_cons (ev_var rfl) ea_nil)) k
  have hn : t.tok ≠ .none_ := fun e => of_decide_eq_false hc (kind_none2.mpr e)
  refine sv_when (b := !decide (kindOf t.tok = w)) (et_test (ev_neI (ev_var rfl) (ev_var rfl))) (fun hc => ?_) fun hc => ?_
  · have hk : ¬ kindOf t.tok = w := by simpa using hc
    rw [takeG_no hk, amiss_two hn] at k
    exact sv_fault (rd := rd) (ea_cons ev_c (ea_cons (ev_var rfl) ea_nil)) k
  have hk : kindOf t.tok = w := by simpa using hc
  rw [takeG_yes hk] at k
  obtain ⟨dx, n, ts, vs, q1, q2, q3, q4, q5⟩ := id hR
  intro H1 e1
  refine q_turn (e1 _ _ q1) (T.cls 184 rfl) (T.noat 187 rfl) (by show 2 < 1000; decide) rfl (ev_var rfl) ev_c fun H3 e3 => ?_
  have e := e1.trans e3
  have f : Fr [rd] H (upd H3 rd (.ins (He.ga K "Reader") dx (rdF p (n + 1)))) := fr_one e
  have hrp : p ≠ rd := fun e => by rw [e, q1] at q2; cases q2
  have hS : ∀ a ∈ [rd], ∀ u, H a = some u → NotT u := fun a ha u hu => by
    rw [List.mem_singleton.mp ha, q1] at hu
    rw [← Option.some.inj hu]
    trivial
  refine Sv.go (H := upd H3 rd (.ins (He.ga K "Reader") dx (rdF p (n + 1)))) (sv_retP (evp_tup (ea_cons (ev_var rfl) (ea_cons (ev_var rfl) ea_nil)) (by show 2 ≤ 100000; decide)) fun v H4 e4 hv => ?_)
  obtain ⟨pv, rfl, hpv⟩ := hv
  have fr := f.then e4
  refine k _ H4 fr ?_ ⟨pv, _, rfl, st_of hpv, u, _, rfl, tok_fr fr hS h3, _, _, rfl, rfl, rfl⟩
  refine ⟨dx, n + 1, ts, vs, e4 _ _ upd_same, e4 _ _ (by rw [upd_ne hrp]; exact e _ _ q2), each_keep (fun g v hv hg => ?_) q3, ?_, q5.tail (fun h => hw5 (by rw [← hk, h]; rfl)) hn⟩
  · obtain ⟨qa, ua, ea, ha, hu⟩ := hg
    exact ⟨qa, ua, ea, fr_t fr hS ha, tok_fr fr hS hu⟩
  · rw [← List.tail_drop, q4]
    rfl
end
end Trav
namespace Trav
open LsText (Token)
open RunBook (Got amiss placeOf due num whole word Book knownAt)
theorem due_yes {t : Token} {r : List Token} {tk : LsText.Tok} (h : t.tok = tk) : due tk (t :: r) = .ok ((), r) := if_pos h
theorem due_no {t : Token} {r : List Token} {tk : LsText.Tok} (h : ¬ t.tok = tk) : due tk (t :: r) = .error (amiss (t :: r)) := if_neg h
theorem num_no {t : Token} {r : List Token} {lo hi : Nat} (h : ¬ kindOf t.tok = 2) : num lo hi (t :: r) = .error (amiss (t :: r)) := by
  obtain ⟨p, k⟩ := t
  cases k with
  | num n => exact absurd rfl h
  | _ => rfl
theorem is_num {t : Token} (h : kindOf t.tok = 2) : ∃ n, t = ⟨t.at_, .num n⟩ := by
  obtain ⟨p, k⟩ := t
  cases k with
  | num n => exact ⟨n, rfl⟩
  | word b => exact absurd (show (1 : Int) = 2 from h) (by decide)
  | text b => exact absurd (show (3 : Int) = 2 from h) (by decide)
  | sign c => exact absurd (show (4 : Int) = 2 from h) (by decide)
  | none_ => exact absurd (show (0 : Int) = 2 from h) (by decide)
  | over => exact absurd (show (5 : Int) = 2 from h) (by decide)
theorem wr_k {z : Str} {tk : LsText.Tok} (h : Wr z tk) : kindOf tk ≠ 0 ∧ kindOf tk ≠ 5 := by
  obtain ⟨_, b, _, rfl | ⟨c, _, rfl⟩⟩ := h
  · exact ⟨by show (1 : Int) ≠ 0; decide, by show (1 : Int) ≠ 5; decide⟩
  · exact ⟨by show (4 : Int) ≠ 0; decide, by show (4 : Int) ≠ 5; decide⟩
theorem takeG_err {t : Token} {r : List Token} {w : Int} {f : RunBook.Fault} (h : takeG w (t :: r) = .error f) : ¬ kindOf t.tok = w ∧ f = amiss (t :: r) := by
  by_cases hk : kindOf t.tok = w
  · rw [takeG_yes hk] at h
    cases h
  · rw [takeG_no hk] at h
    injection h with h
    exact ⟨hk, h.symm⟩
theorem takeG_ok {t : Token} {r : List Token} {w : Int} {x : Token} {r' : List Token} (h : takeG w (t :: r) = .ok (x, r')) : kindOf t.tok = w ∧ x = t ∧ r' = r := by
  by_cases hk : kindOf t.tok = w
  · rw [takeG_yes hk] at h
    injection h with h
    exact ⟨hk, (congrArg Prod.fst h).symm, (congrArg Prod.snd h).symm⟩
  · rw [takeG_no hk] at h
    cases h
section
variable {P : Program} {w : World} {K : PySem.W.Frag} {mg : Str → Option Value} {base : Heap} {σ : L2.St} {H : Hp} {ta tb tc te : TE} {D : Ends} {tz tu : TS} {x y z u v : V}
theorem ev_neS {z : Str} {tk t : LsText.Tok} {u : V} {E : XK} (hw : Wr z tk) (hk : kindOf t = kindOf tk) (hu : TokV K t u H) (ha : Ev ta σ H u) (hb : Ev tb σ H (.str z)) : Ev (tOp (rNeD K) ta (tCall spSpelled [] E (tCons tb tNil))) σ H (.bl (!decide (t = tk))) := fun H1 e1 Q q =>
  ha H1 e1 _ fun H2 e2 => c_spelled hb hw.1 H2 (e1.trans e2) _ fun v H3 e3 hv => by
    obtain ⟨qa, rfl, hqa⟩ := hv
    obtain ⟨d, e, hd, he, s1, s2, heq⟩ := wr_eq hw hk (stay_TokV _ _ _ _ ((e1.trans e2).trans e3) hu) (st_of hqa)
    exact ⟨d, e, hd, he, s1, s2, by rw [heq]; exact q _ (e2.trans e3)⟩
/-- a method that asks -/
theorem ev_methV {rd p : Addr} {l : List Token} {m : Str} {sp : Sp} {t : TA} {vs : List V} {E : XK} (hR : RdOn K rd p l H) (ha : Ev ta σ H (.ref rd)) (hm : ∀ n, (rdF p n).lookup m = none) (ht : EvA t σ H vs) (hs : ∀ H1, Ex H H1 → ∀ Q, RetV z H1 Q → sp (.ref rd :: vs) H1 Q E) : Ev (tMeth (He.ga K "Reader") m sp [] E ta t) σ H z := fun H1 e1 Q q => by
  obtain ⟨dx, n, ts, ws, h1, _⟩ := hR
  refine ha H1 e1 _ fun H2 e2 => ⟨rd, dx, _, rfl, e2 _ _ (e1 _ _ h1), hm n, ht H2 (e1.trans e2) _ fun H3 e3 => ?_⟩
  show sp (.ref rd :: (vs ++ [])) H3 Q E
  rw [List.append_nil]
  exact hs H3 ((e1.trans e2).trans e3) Q fun H4 e4 => q H4 ((e2.trans e3).trans e4)
theorem wr_minus : Wr "-" (.sign 45) := ⟨by decide, [45], by decide, .inr ⟨45, rfl, rfl⟩⟩
theorem sc_Reader_take_written : FnScope ["self", "wanted", "written", "value", "place"] ["self", "wanted", "written"] (defScope s_Reader_take_written) := ⟨rfl, rfl, rfl, by decide +kernel, rfl, by decide +kernel, by decide +kernel⟩
theorem ok_Reader_take_written (T : Txt K mg) : MDef P w K mg base (L2.CX P w) 2 "Reader" "take_written" ["self", "wanted", "written"] (spWritten K) := by
  refine T.mdef 36 rfl rfl rfl rfl sc_Reader_take_written (fun _ _ _ _ _ _ us hl => match us, hl with | [_, _, _], _ => rfl) (fun vs H Q E h => by first | (obtain ⟨_, rfl, _⟩ := h; rfl) | (obtain ⟨_, _, rfl, _⟩ := h; rfl) | (obtain ⟨_, _, _, rfl, _⟩ := h; rfl) | (obtain ⟨_, _, _, _, rfl, _⟩ := h; rfl) | (obtain ⟨_, _, _, _, _, rfl, _⟩ := h; rfl) | (obtain ⟨_, _, _, _, _, _, rfl, _⟩ := h; rfl) | (obtain ⟨_, _, _, _, _, _, _, rfl, _⟩ := h; rfl) | (obtain ⟨_, _, _, _, _, _, _, _, rfl, _⟩ := h; rfl) | (obtain ⟨_, _, _, _, _, _, _, _, _, rfl, _⟩ := h; rfl) | (obtain ⟨_, _, _, _, _, _, _, _, _, _, rfl, _⟩ := h; rfl) | (obtain ⟨_, _, _, _, _, _, _, _, _, _, _, rfl, _⟩ := h; rfl) | (obtain ⟨_, _, _, _, _, _, _, _, _, _, _, _, rfl, _⟩ := h; rfl) | (obtain ⟨_, _, _, _, _, _, _, _, _, _, _, _, _, rfl, _⟩ := h; rfl) | (obtain ⟨_, _, _, _, _, _, _, _, _, _, _, _, _, _, rfl, _⟩ := h; rfl) | (obtain ⟨_, _, _, _, _, _, _, _, _, _, _, _, _, _, _, rfl, _⟩ := h; rfl) | (obtain ⟨_, _, _, _, _, _, _, _, _, _, _, _, _, _, _, _, rfl, _⟩ := h; rfl) | (obtain ⟨_, _, _, _, _, _, _, _, _, _, _, _, _, _, _, _, _, rfl, _⟩ := h; rfl) | (obtain ⟨_, _, _, _, _, _, _, _, _, _, _, _, _, _, _, _, _, _, rfl, _⟩ := h; rfl) | (obtain ⟨_, _, _, _, _, _, _, _, _, _, _, _, _, _, _, _, _, _, _, rfl, _⟩ := h; rfl)) (fun f cdv A outer s H vs Q E hr h => ⟨_, (pss_cons (ps_asg (pe_md (ok_Reader_take T) (pv 0) (T.cls 184 rfl) (T.meth 190 rfl) hr (passes_call (takes_of rfl rfl rfl rfl) fun _ _ _ _ h => h) (pa_cons (pv 1) pa_nil)) (pg_tup rfl (pgs_cons (pg_name (i := 3) sc_Reader_take_written.nd rfl (Or.inl rfl)) (pgs_cons (pg_name (i := 4) sc_Reader_take_written.nd rfl (Or.inl rfl)) pgs_nil)))) (pss_cons (ps_if (pt_cmpR (op_neD hr.units) (pv 3) (pe_cd (ok_spelled T) hr pass0 (pa_cons (pv 2) pa_nil)) (nomark _)) (pss_one (ps_fault T hr (takes_of rfl rfl rfl rfl) (pa_cons (pe_gi (T.int 130 rfl)) (pa_cons (pv 4) pa_nil)))) pss_nil) (pss_one (ps_ret (pv 4))))), ?_⟩)
  obtain ⟨rd, p, l, tk, z, rfl, hR, hw, k⟩ := h
  obtain ⟨t, r, rfl⟩ := hR.ended.cons
  obtain ⟨w0, w5⟩ := wr_k hw
  refine Sv.go (sv_mun2 (g := takeG (kindOf tk) (t :: r)) (P1 := fun t => TokV K t.tok) (P2 := fun t v _ => v = .int (t.at_ : Int)) (mt_meth hR (ev_var rfl) (fun _ => rfl) (ea_cons (ev_var rfl) ea_nil) fun H1 e Q hq => ⟨rd, p, _, _, rfl, hR.mono e, w0, w5, hq⟩) (fun f hf => ?_) fun x r' hx y pl H1 f hr hy hpl => ?_)
  · obtain ⟨hk, rfl⟩ := takeG_err hf
    rw [due_no (fun e => hk (by rw [e]))] at k
    exact k
  · obtain ⟨hk, rfl, rfl⟩ := takeG_ok hx
    have hpl : pl = _ := hpl
    subst hpl
    refine Sv.go (sv_when (b := !decide (x.tok = tk)) (et_test (ev_neS hw hk hy (ev_var rfl) (ev_var rfl))) (fun hc => ?_) fun hc => ?_)
    · have hne : ¬ x.tok = tk := by simpa using hc
      have hn : x.tok ≠ .none_ := fun e => w0 (by rw [← hk, e]; rfl)
      rw [due_no hne, amiss_two hn] at k
      exact sv_fault (rd := rd) (S := [rd]) (ea_cons ev_c (ea_cons (ev_var rfl) ea_nil)) (FltE.mono k f fun a ha => .inl ha)
    · have he : x.tok = tk := by simpa using hc
      rw [due_yes he] at k
      exact sv_ret (ev_var rfl) fun H2 e2 => k _ H2 (f.then e2) (hr.mono e2) rfl
theorem sc_Reader_take_number : FnScope ["self", "least", "most", "worth", "place"] ["self", "least", "most"] (defScope s_Reader_take_number) := ⟨rfl, rfl, rfl, by decide +kernel, rfl, by decide +kernel, by decide +kernel⟩
theorem ok_Reader_take_number (T : Txt K mg) : MDef P w K mg base (L2.CX P w) 2 "Reader" "take_number" ["self", "least", "most"] (spNumber K) := by
  refine T.mdef 37 rfl rfl rfl rfl sc_Reader_take_number (fun _ _ _ _ _ _ us hl => match us, hl with | [_, _, _], _ => rfl) (fun vs H Q E h => by first | (obtain ⟨_, rfl, _⟩ := h; rfl) | (obtain ⟨_, _, rfl, _⟩ := h; rfl) | (obtain ⟨_, _, _, rfl, _⟩ := h; rfl) | (obtain ⟨_, _, _, _, rfl, _⟩ := h; rfl) | (obtain ⟨_, _, _, _, _, rfl, _⟩ := h; rfl) | (obtain ⟨_, _, _, _, _, _, rfl, _⟩ := h; rfl) | (obtain ⟨_, _, _, _, _, _, _, rfl, _⟩ := h; rfl) | (obtain ⟨_, _, _, _, _, _, _, _, rfl, _⟩ := h; rfl) | (obtain ⟨_, _, _, _, _, _, _, _, _, rfl, _⟩ := h; rfl) | (obtain ⟨_, _, _, _, _, _, _, _, _, _, rfl, _⟩ := h; rfl) | (obtain ⟨_, _, _, _, _, _, _, _, _, _, _, rfl, _⟩ := h; rfl) | (obtain ⟨_, _, _, _, _, _, _, _, _, _, _, _, rfl, _⟩ := h; rfl) | (obtain ⟨_, _, _, _, _, _, _, _, _, _, _, _, _, rfl, _⟩ := h; rfl) | (obtain ⟨_, _, _, _, _, _, _, _, _, _, _, _, _, _, rfl, _⟩ := h; rfl) | (obtain ⟨_, _, _, _, _, _, _, _, _, _, _, _, _, _, _, rfl, _⟩ := h; rfl) | (obtain ⟨_, _, _, _, _, _, _, _, _, _, _, _, _, _, _, _, rfl, _⟩ := h; rfl) | (obtain ⟨_, _, _, _, _, _, _, _, _, _, _, _, _, _, _, _, _, rfl, _⟩ := h; rfl) | (obtain ⟨_, _, _, _, _, _, _, _, _, _, _, _, _, _, _, _, _, _, rfl, _⟩ := h; rfl) | (obtain ⟨_, _, _, _, _, _, _, _, _, _, _, _, _, _, _, _, _, _, _, rfl, _⟩ := h; rfl)) (fun f cdv A outer s H vs Q E hr h => ⟨_, (pss_cons (ps_asg (pe_md (ok_Reader_take T) (pv 0) (T.cls 184 rfl) (T.meth 190 rfl) hr (passes_call (takes_of rfl rfl rfl rfl) fun _ _ _ _ h => h) (pa_cons (pe_gi (T.int 114 rfl)) pa_nil)) (pg_tup rfl (pgs_cons (pg_name (i := 3) sc_Reader_take_number.nd rfl (Or.inl rfl)) (pgs_cons (pg_name (i := 4) sc_Reader_take_number.nd rfl (Or.inl rfl)) pgs_nil)))) (pss_cons (ps_if (PW.pt (pw_or (pt_cmpR op_lt (pv 3) (pv 1) (nomark _)) (pw_or1 (pt_cmpR op_gt (pv 3) (pv 2) (nomark _))))) (pss_one (ps_fault T hr (takes_of rfl rfl rfl rfl) (pa_cons (pe_gi (T.int 131 rfl)) (pa_cons (pv 4) pa_nil)))) pss_nil) (pss_one (ps_ret (pe_tup (pa_cons (pv 3) (pa_cons (pv 4) pa_nil))))))), ?_⟩)
  obtain ⟨rd, p, l, lo, hi, rfl, hR, k⟩ := h
  obtain ⟨t, r, rfl⟩ := hR.ended.cons
  refine Sv.go (sv_mun2 (g := takeG 2 (t :: r)) (P1 := fun t => TokV K t.tok) (P2 := fun t v _ => v = .int (t.at_ : Int)) (mt_meth hR (ev_var rfl) (fun _ => rfl) (ea_cons ev_c ea_nil) fun H1 e Q hq => ⟨rd, p, _, _, rfl, hR.mono e, by decide, by decide, hq⟩) (fun f hf => ?_) fun x r' hx y pl H1 f hr hy hpl => ?_)
  · obtain ⟨hk, rfl⟩ := takeG_err hf
    rw [num_no hk] at k
    exact k
  · obtain ⟨hk, rfl, rfl⟩ := takeG_ok hx
    have hpl : pl = _ := hpl
    subst hpl
    obtain ⟨n, hn⟩ := is_num hk
    generalize x.at_ = q at hn k
    subst hn
    have hy : y = .int (n : Int) := hy
    subst hy
    have k : Gt K rd p (if lo ≤ n ∧ n ≤ hi then .ok (n, r') else .error (3, q)) (fun n => NumAt K q (n : Int)) H Q E := k
    refine Sv.go (sv_when (b := decide ((n : Int) < (lo : Int)) || decide ((n : Int) > (hi : Int))) (et_or (et_test (ev_op (ev_var rfl) (ev_var rfl) rv_I0)) fun _ => et_test (ev_op (ev_var rfl) (ev_var rfl) rv_I0)) (fun hc => ?_) fun hc => ?_)
    · simp only [Bool.or_eq_true, decide_eq_true_eq] at hc
      rw [if_neg (by omega)] at k
      exact sv_fault (rd := rd) (S := [rd]) (ea_cons ev_c (ea_cons (ev_var rfl) ea_nil)) (FltE.mono k f fun a ha => .inl ha)
    · simp only [Bool.or_eq_false_iff, decide_eq_false_iff_not] at hc
      rw [if_pos (by omega)] at k
      refine sv_retP (evp_tup (ea_cons (ev_var rfl) (ea_cons (ev_var rfl) ea_nil)) (by show 2 ≤ 100000; decide)) fun v H2 e2 hv => ?_
      obtain ⟨pv, rfl, hpv⟩ := hv
      exact k _ H2 (f.then e2) (hr.mono e2) ⟨pv, _, rfl, st_of hpv, _, _, rfl, rfl, _, _, rfl, rfl, rfl⟩
theorem sc_Reader_take_point : FnScope ["self"] ["self"] (defScope s_Reader_take_point) := ⟨rfl, rfl, rfl, by decide +kernel, rfl, by decide +kernel, by decide +kernel⟩
theorem ok_Reader_take_point (T : Txt K mg) : MDef P w K mg base (L2.CX P w) 3 "Reader" "take_point" ["self"] (spTPoint K) := by
  refine T.mdef 38 rfl rfl rfl rfl sc_Reader_take_point (fun _ _ _ _ _ _ us hl => match us, hl with | [_], _ => rfl) (fun vs H Q E h => by first | (obtain ⟨_, rfl, _⟩ := h; rfl) | (obtain ⟨_, _, rfl, _⟩ := h; rfl) | (obtain ⟨_, _, _, rfl, _⟩ := h; rfl) | (obtain ⟨_, _, _, _, rfl, _⟩ := h; rfl) | (obtain ⟨_, _, _, _, _, rfl, _⟩ := h; rfl) | (obtain ⟨_, _, _, _, _, _, rfl, _⟩ := h; rfl) | (obtain ⟨_, _, _, _, _, _, _, rfl, _⟩ := h; rfl) | (obtain ⟨_, _, _, _, _, _, _, _, rfl, _⟩ := h; rfl) | (obtain ⟨_, _, _, _, _, _, _, _, _, rfl, _⟩ := h; rfl) | (obtain ⟨_, _, _, _, _, _, _, _, _, _, rfl, _⟩ := h; rfl) | (obtain ⟨_, _, _, _, _, _, _, _, _, _, _, rfl, _⟩ := h; rfl) | (obtain ⟨_, _, _, _, _, _, _, _, _, _, _, _, rfl, _⟩ := h; rfl) | (obtain ⟨_, _, _, _, _, _, _, _, _, _, _, _, _, rfl, _⟩ := h; rfl) | (obtain ⟨_, _, _, _, _, _, _, _, _, _, _, _, _, _, rfl, _⟩ := h; rfl) | (obtain ⟨_, _, _, _, _, _, _, _, _, _, _, _, _, _, _, rfl, _⟩ := h; rfl) | (obtain ⟨_, _, _, _, _, _, _, _, _, _, _, _, _, _, _, _, rfl, _⟩ := h; rfl) | (obtain ⟨_, _, _, _, _, _, _, _, _, _, _, _, _, _, _, _, _, rfl, _⟩ := h; rfl) | (obtain ⟨_, _, _, _, _, _, _, _, _, _, _, _, _, _, _, _, _, _, rfl, _⟩ := h; rfl) | (obtain ⟨_, _, _, _, _, _, _, _, _, _, _, _, _, _, _, _, _, _, _, rfl, _⟩ := h; rfl)) (fun f cdv A outer s H vs Q E hr h => ⟨_, (pss_one (ps_ret (pe_md (ok_Reader_take_number T) (pv 0) (T.cls 184 rfl) (T.meth 192 rfl) hr (passes_call (takes_of rfl rfl rfl rfl) fun _ _ _ _ h => h) (pa_cons (pe_gi (T.int 122 rfl)) (pa_cons (pe_gi (T.int 123 rfl)) pa_nil))))), ?_⟩)
  obtain ⟨rd, p, l, rfl, hR, k⟩ := h
  refine Sv.go (sv_mret (g := num 1 99 l) (P := fun n => NumAt K (placeOf l) (n : Int)) (mt_meth hR (ev_var rfl) (fun _ => rfl) (ea_cons ev_c (ea_cons ev_c ea_nil)) fun H1 e Q hq => ⟨rd, p, l, 1, 99, rfl, hR.mono e, hq⟩) (fun f hf => ?_) fun x r' hx v H1 f hr hv => ?_)
  · rw [hf] at k
    exact k
  · rw [hx] at k
    exact k v H1 f hr hv
theorem whole_sign {t : Token} {r : List Token} {hi : Nat} (h : t.tok = .sign 45) : whole hi (t :: r) = match r with
    | ⟨_, .num n⟩ :: q => if n ≤ hi then .ok (-(n : Int), q) else .error (3, t.at_)
    | _ => .error (amiss r) := by
  obtain ⟨p, k⟩ := t
  have h : k = .sign 45 := h
  subst h
  rfl
theorem whole_no {t : Token} {r : List Token} {hi : Nat} (h : ¬ t.tok = .sign 45) : whole hi (t :: r) = (num 0 hi (t :: r)).map fun x => ((x.1 : Int), x.2) := by
  obtain ⟨p, k⟩ := t
  have h : ¬ k = .sign 45 := h
  cases k with
  | num n =>
    show (if n ≤ hi then _ else _) = (if 0 ≤ n ∧ n ≤ hi then _ else _ : Got Nat).map _
    by_cases hn : n ≤ hi
    · rw [if_pos hn, if_pos ⟨Nat.zero_le _, hn⟩]
      rfl
    · rw [if_neg hn, if_neg fun e => hn e.2]
      rfl
  | sign c =>
    have hc : c ≠ 45 := fun e => h (by rw [e])
    unfold whole
    split
    · rename_i h1
      injection h1 with h1 _
      injection h1 with _ h1
      injection h1 with h1
      exact absurd h1 hc
    · rename_i h1
      injection h1 with h1 _
      injection h1 with _ h1
      cases h1
    · rfl
  | word b => rfl
  | text b => rfl
  | none_ => rfl
  | over => rfl
theorem sc_Reader_take_step : FnScope ["self", "sign_place", "worth", "place"] ["self"] (defScope s_Reader_take_step) := ⟨rfl, rfl, rfl, by decide +kernel, rfl, by decide +kernel, by decide +kernel⟩
theorem ok_Reader_take_step (T : Txt K mg) : MDef P w K mg base (L2.CX P w) 3 "Reader" "take_step" ["self"] (spTStep K) := by
  refine T.mdef 39 rfl rfl rfl rfl sc_Reader_take_step (fun _ _ _ _ _ _ us hl => match us, hl with | [_], _ => rfl) (fun vs H Q E h => by first | (obtain ⟨_, rfl, _⟩ := h; rfl) | (obtain ⟨_, _, rfl, _⟩ := h; rfl) | (obtain ⟨_, _, _, rfl, _⟩ := h; rfl) | (obtain ⟨_, _, _, _, rfl, _⟩ := h; rfl) | (obtain ⟨_, _, _, _, _, rfl, _⟩ := h; rfl) | (obtain ⟨_, _, _, _, _, _, rfl, _⟩ := h; rfl) | (obtain ⟨_, _, _, _, _, _, _, rfl, _⟩ := h; rfl) | (obtain ⟨_, _, _, _, _, _, _, _, rfl, _⟩ := h; rfl) | (obtain ⟨_, _, _, _, _, _, _, _, _, rfl, _⟩ := h; rfl) | (obtain ⟨_, _, _, _, _, _, _, _, _, _, rfl, _⟩ := h; rfl) | (obtain ⟨_, _, _, _, _, _, _, _, _, _, _, rfl, _⟩ := h; rfl) | (obtain ⟨_, _, _, _, _, _, _, _, _, _, _, _, rfl, _⟩ := h; rfl) | (obtain ⟨_, _, _, _, _, _, _, _, _, _, _, _, _, rfl, _⟩ := h; rfl) | (obtain ⟨_, _, _, _, _, _, _, _, _, _, _, _, _, _, rfl, _⟩ := h; rfl) | (obtain ⟨_, _, _, _, _, _, _, _, _, _, _, _, _, _, _, rfl, _⟩ := h; rfl) | (obtain ⟨_, _, _, _, _, _, _, _, _, _, _, _, _, _, _, _, rfl, _⟩ := h; rfl) | (obtain ⟨_, _, _, _, _, _, _, _, _, _, _, _, _, _, _, _, _, rfl, _⟩ := h; rfl) | (obtain ⟨_, _, _, _, _, _, _, _, _, _, _, _, _, _, _, _, _, _, rfl, _⟩ := h; rfl) | (obtain ⟨_, _, _, _, _, _, _, _, _, _, _, _, _, _, _, _, _, _, _, rfl, _⟩ := h; rfl)) (fun f cdv A outer s H vs Q E hr h => ⟨_, (pss_cons (ps_if (pt_val (pe_md (ok_Reader_is_next T) (pv 0) (T.cls 184 rfl) (T.meth 189 rfl) hr pass0 (pa_cons (pe_gi (T.int 116 rfl)) (pa_cons pe_str pa_nil)))) (pss_cons (ps_set (i := 1) sc_Reader_take_step.nd rfl (Or.inl rfl) (pe_md (ok_Reader_take_written T) (pv 0) (T.cls 184 rfl) (T.meth 191 rfl) hr (passes_call (takes_of rfl rfl rfl rfl) fun _ _ _ _ h => h) (pa_cons (pe_gi (T.int 116 rfl)) (pa_cons pe_str pa_nil)))) (pss_cons (ps_asg (pe_md (ok_Reader_take T) (pv 0) (T.cls 184 rfl) (T.meth 190 rfl) hr (passes_call (takes_of rfl rfl rfl rfl) fun _ _ _ _ h => h) (pa_cons (pe_gi (T.int 114 rfl)) pa_nil)) (pg_tup rfl (pgs_cons (pg_name (i := 2) sc_Reader_take_step.nd rfl (Or.inl rfl)) (pgs_cons (pg_name (i := 3) sc_Reader_take_step.nd rfl (Or.inl rfl)) pgs_nil)))) (pss_cons (ps_if (pt_cmpR op_gt (pv 2) (pe_gi (T.int 127 rfl)) (nomark _)) (pss_one (ps_fault T hr (takes_of rfl rfl rfl rfl) (pa_cons (pe_gi (T.int 131 rfl)) (pa_cons (pv 1) pa_nil)))) pss_nil) (pss_one (ps_ret (pe_tup (pa_cons (pe_un un_neg (pv 2)) (pa_cons (pv 1) pa_nil)))))))) pss_nil) (pss_one (ps_ret (pe_md (ok_Reader_take_number T) (pv 0) (T.cls 184 rfl) (T.meth 192 rfl) hr (passes_call (takes_of rfl rfl rfl rfl) fun _ _ _ _ h => h) (pa_cons pe_int (pa_cons (pe_gi (T.int 127 rfl)) pa_nil)))))), ?_⟩)
  obtain ⟨rd, p, l, rfl, hR, k⟩ := h
  obtain ⟨t, r, rfl⟩ := hR.ended.cons
  refine Sv.go (sv_when (b := decide (t.tok = .sign 45)) (et_test (ev_methV hR (ev_var rfl) (fun _ => rfl) (ea_cons ev_c (ea_cons ev_c ea_nil)) fun H1 e Q k => ⟨rd, p, t, r, .sign 45, "-", rfl, hR.mono e, wr_minus, k⟩)) (fun hc => ?_) fun hc => ?_)
  · have hs := of_decide_eq_true hc
    rw [whole_sign hs] at k
    refine sv_mset (g := due (.sign 45) (t :: r)) (P := fun _ v _ => v = .int (t.at_ : Int)) (mt_meth hR (ev_var rfl) (fun _ => rfl) (ea_cons ev_c (ea_cons ev_c ea_nil)) fun H1 e Q hq => ⟨rd, p, t :: r, .sign 45, "-", rfl, hR.mono e, wr_minus, hq⟩) (fun f hf => ?_) fun x r' hx v H1 f hr hv => ?_
    · rw [due_yes hs] at hf
      cases hf
    rw [due_yes hs] at hx
    injection hx with hx
    have hx : r = r' := congrArg Prod.snd hx
    subst hx
    have hv : v = _ := hv
    subst hv
    obtain ⟨t2, r2, rfl⟩ := hr.ended.cons
    refine Sv.go (sv_mun2 (g := takeG 2 (t2 :: r2)) (P1 := fun t => TokV K t.tok) (P2 := fun t v _ => v = .int (t.at_ : Int)) (mt_meth hr (ev_var rfl) (fun _ => rfl) (ea_cons ev_c ea_nil) fun H1 e Q hq => ⟨rd, p, _, _, rfl, hr.mono e, by decide, by decide, hq⟩) (fun f2 hf => ?_) fun x r' hx y pl H2 f2 hr2 hy hpl => ?_)
    · obtain ⟨hk, rfl⟩ := takeG_err hf
      obtain ⟨p2, k2⟩ := t2
      cases k2 with
      | num n => exact absurd rfl hk
      | _ => exact FltE.mono k f fun a ha => .inl ha
    · obtain ⟨hk, rfl, rfl⟩ := takeG_ok hx
      have hpl : pl = _ := hpl
      subst hpl
      obtain ⟨n, hn⟩ := is_num hk
      generalize x.at_ = q at hn
      subst hn
      have hy : y = .int (n : Int) := hy
      subst hy
      have k : Gt K rd p (if n ≤ 99999 then .ok (-(n : Int), r') else .error (3, t.at_)) (fun n => NumAt K t.at_ n) H Q E := k
      refine Sv.go (sv_when (b := decide ((n : Int) > 99999)) (et_test (ev_op (ev_var rfl) ev_c rv_I0)) (fun hc => ?_) fun hc => ?_)
      · have hc := of_decide_eq_true hc
        rw [if_neg (by omega)] at k
        exact sv_fault (rd := rd) (S := [rd]) (ea_cons ev_c (ea_cons (ev_var rfl) ea_nil)) (FltE.mono k (f.trans f2) fun a ha => .inl ha)
      · have hc := of_decide_eq_false hc
        rw [if_pos (by omega)] at k
        refine sv_retP (evp_tup (ea_cons (ev_neg (ev_var rfl)) (ea_cons (ev_var rfl) ea_nil)) (by show 2 ≤ 100000; decide)) fun v H3 e3 hv => ?_
        obtain ⟨pv, rfl, hpv⟩ := hv
        exact k _ H3 ((f.trans f2).then e3) (hr2.mono e3) ⟨pv, _, rfl, st_of hpv, _, _, rfl, rfl, _, _, rfl, rfl, rfl⟩
  · have hs := of_decide_eq_false hc
    rw [whole_no hs] at k
    refine sv_mret (g := num 0 99999 (t :: r)) (P := fun n => NumAt K t.at_ (n : Int)) (mt_meth hR (ev_var rfl) (fun _ => rfl) (ea_cons ev_c (ea_cons ev_c ea_nil)) fun H1 e Q hq => ⟨rd, p, t :: r, 0, 99999, rfl, hR.mono e, hq⟩) (fun f hf => ?_) fun x r' hx v H1 f hr hv => ?_
    · rw [hf] at k
      exact k
    · rw [hx] at k
      exact k v H1 f hr hv
theorem sc_Reader_take_known : FnScope ["self", "book", "number", "place"] ["self", "book"] (defScope s_Reader_take_known) := ⟨rfl, rfl, rfl, by decide +kernel, rfl, by decide +kernel, by decide +kernel⟩
theorem ok_Reader_take_known (T : Txt K mg) : MDef P w K mg base (L2.CX P w) 4 "Reader" "take_known" ["self", "book"] (spTKnown K) := by
  refine T.mdef 40 rfl rfl rfl rfl sc_Reader_take_known (fun _ _ _ _ _ _ us hl => match us, hl with | [_, _], _ => rfl) (fun vs H Q E h => by first | (obtain ⟨_, rfl, _⟩ := h; rfl) | (obtain ⟨_, _, rfl, _⟩ := h; rfl) | (obtain ⟨_, _, _, rfl, _⟩ := h; rfl) | (obtain ⟨_, _, _, _, rfl, _⟩ := h; rfl) | (obtain ⟨_, _, _, _, _, rfl, _⟩ := h; rfl) | (obtain ⟨_, _, _, _, _, _, rfl, _⟩ := h; rfl) | (obtain ⟨_, _, _, _, _, _, _, rfl, _⟩ := h; rfl) | (obtain ⟨_, _, _, _, _, _, _, _, rfl, _⟩ := h; rfl) | (obtain ⟨_, _, _, _, _, _, _, _, _, rfl, _⟩ := h; rfl) | (obtain ⟨_, _, _, _, _, _, _, _, _, _, rfl, _⟩ := h; rfl) | (obtain ⟨_, _, _, _, _, _, _, _, _, _, _, rfl, _⟩ := h; rfl) | (obtain ⟨_, _, _, _, _, _, _, _, _, _, _, _, rfl, _⟩ := h; rfl) | (obtain ⟨_, _, _, _, _, _, _, _, _, _, _, _, _, rfl, _⟩ := h; rfl) | (obtain ⟨_, _, _, _, _, _, _, _, _, _, _, _, _, _, rfl, _⟩ := h; rfl) | (obtain ⟨_, _, _, _, _, _, _, _, _, _, _, _, _, _, _, rfl, _⟩ := h; rfl) | (obtain ⟨_, _, _, _, _, _, _, _, _, _, _, _, _, _, _, _, rfl, _⟩ := h; rfl) | (obtain ⟨_, _, _, _, _, _, _, _, _, _, _, _, _, _, _, _, _, rfl, _⟩ := h; rfl) | (obtain ⟨_, _, _, _, _, _, _, _, _, _, _, _, _, _, _, _, _, _, rfl, _⟩ := h; rfl) | (obtain ⟨_, _, _, _, _, _, _, _, _, _, _, _, _, _, _, _, _, _, _, rfl, _⟩ := h; rfl)) (fun f cdv A outer s H vs Q E hr h => ⟨_, (pss_cons (ps_asg (pe_md0 (ok_Reader_take_point T) (pv 0) (T.cls 184 rfl) (T.meth 193 rfl) hr (passes_call (takes_of rfl rfl rfl rfl) fun _ _ _ _ h => h)) (pg_tup rfl (pgs_cons (pg_name (i := 2) sc_Reader_take_known.nd rfl (Or.inl rfl)) (pgs_cons (pg_name (i := 3) sc_Reader_take_known.nd rfl (Or.inl rfl)) pgs_nil)))) (pss_cons (ps_if (pt_cmp (pc_dnotin (hu_of hr) (pv 2) (pe_fld (pv 1) rfl)) (by rfl)) (pss_one (ps_fault T hr (takes_of rfl rfl rfl rfl) (pa_cons (pe_gi (T.int 133 rfl)) (pa_cons (pv 3) pa_nil)))) pss_nil) (pss_one (ps_ret (pv 2))))), ?_⟩)
  obtain ⟨rd, p, b, l, B, L, rfl, hR, hB, k⟩ := h
  refine Sv.go (sv_mun2 (g := num 1 99 l) (P1 := fun n v _ => v = .int ((n : Nat) : Int)) (P2 := fun _ v _ => v = .int (placeOf l : Int)) (mt_meth hR (ev_var rfl) (fun _ => rfl) ea_nil fun H1 e Q hq => ⟨rd, p, l, rfl, hR.mono e, hq⟩) (fun f hf => ?_) fun n r hx y pl H1 f hr hy hpl => ?_)
  · have e : RunBook.knownNo B l = .error f := by
      unfold RunBook.knownNo
      rw [show num 1 RunBook.NUMBER l = .error f from hf]
      rfl
    rw [e] at k
    exact k
  · have e : RunBook.knownNo B l = if (knownAt B n).isNone = true then .error (5, placeOf l) else .ok (n, r) := by
      unfold RunBook.knownNo
      rw [show num 1 RunBook.NUMBER l = .ok (n, r) from hx]
      rfl
    rw [e] at k
    have hy : y = _ := hy
    subst hy
    have hpl : pl = _ := hpl
    subst hpl
    have hB1 := hB.rdf hR f
    obtain ⟨db, h2⟩ := hB1.bk
    obtain ⟨kvs, h3, h4⟩ := hB1.kn
    have hkn := h4.is n
    rw [← knownAt_some] at hkn
    refine Sv.go (sv_when (b := !(knownAt B n).isSome) (et_test (ev_is (ev_dnotin (k := .inl (n : Int)) (ev_book1 T (ev_var rfl) h2) (ev_var rfl) h3) (by rw [hkn]))) (fun hc => ?_) fun hc => ?_)
    · rw [if_pos (by rw [Option.not_isSome] at hc; exact hc)] at k
      exact sv_fault (rd := rd) (S := [rd]) (ea_cons ev_c (ea_cons (ev_var rfl) ea_nil)) (FltE.mono k f fun a ha => .inl ha)
    · rw [if_neg (by rw [Option.not_isSome] at hc; rw [hc]; decide)] at k
      exact sv_ret (ev_var rfl) fun H2 e2 => k _ H2 (f.then e2) (hr.mono e2) rfl
end
end Trav
namespace Trav
open LsText (Token)
open LsRun (Leg)
open LsGeo (Pt)
open RunBook (Got amiss placeOf due num whole word Book knownAt mayReach)
open TravSpec (setRun)
/-- what a line of a text leaves, or its error -/
def Ln (K : PySem.W.Frag) (S : List Addr) (H : Hp) (E : XK) {α : Type} (g : Got α) (ok : α → List Token → Prop) : Prop := match g with
  | .ok x => ok x.1 x.2
  | .error f => FltE K S H f E
theorem Ln.err {K : PySem.W.Frag} {S : List Addr} {H : Hp} {E : XK} {α : Type} {g : Got α} {ok : α → List Token → Prop} {f : RunBook.Fault} (k : Ln K S H E g ok) (h : g = .error f) : FltE K S H f E := by
  rw [h] at k
  exact k
theorem Ln.get {K : PySem.W.Frag} {S : List Addr} {H : Hp} {E : XK} {α : Type} {g : Got α} {ok : α → List Token → Prop} {x : α} {r : List Token} (k : Ln K S H E g ok) (h : g = .ok (x, r)) : ok x r := by
  rw [h] at k
  exact k
theorem FltE.at1 {K : PySem.W.Frag} {rd : Addr} {M : List Addr} {H H1 : Hp} {f : RunBook.Fault} {E : XK} (h : FltE K (rd :: M) H f E) (g : Fr [rd] H H1) : FltE K [rd] H1 f E := h.mono (g.sub fun a ha => .inl (by rw [List.mem_singleton.mp ha]; exact List.mem_cons_self ..)) fun a ha => .inl (by rw [List.mem_singleton.mp ha]; exact List.mem_cons_self ..)
theorem RdOn.fr {K : PySem.W.Frag} {rd p : Addr} {l : List Token} {S : List Addr} {H H' : Hp} (h : RdOn K rd p l H) (f : Fr S H H') (h1 : rd ∉ S) (h2 : p ∉ S) (hS : ∀ a ∈ S, ∀ u, H a = some u → NotT u) : RdOn K rd p l H' := by
  obtain ⟨dx, n, ts, vs, q1, q2, q3, q4, q5⟩ := h
  refine ⟨dx, n, ts, vs, f.st _ _ h1 q1, f.st _ _ h2 q2, each_keep (fun g v hv hg => ?_) q3, q4, q5⟩
  obtain ⟨qa, ua, ea, ha, hu⟩ := hg
  exact ⟨qa, ua, ea, fr_t f hS ha, tok_fr f hS hu⟩
theorem due_same {p0 : Nat} {tk : LsText.Tok} {q : List Token} : due tk (⟨p0, tk⟩ :: q) = .ok ((), q) := if_pos rfl
theorem wr_known : Wr "known" (.word (LsText.ascii "known")) := ⟨by decide, _, by decide, .inl rfl⟩
theorem wr_at : Wr "at" (.word (LsText.ascii "at")) := ⟨by decide, _, by decide, .inl rfl⟩
theorem wr_run : Wr "run" (.word (LsText.ascii "run")) := ⟨by decide, _, by decide, .inl rfl⟩
theorem wr_to : Wr "to" (.word (LsText.ascii "to")) := ⟨by decide, _, by decide, .inl rfl⟩
theorem wr_leg : Wr "leg" (.word (LsText.ascii "leg")) := ⟨by decide, _, by decide, .inl rfl⟩
theorem wr_by : Wr "by" (.word (LsText.ascii "by")) := ⟨by decide, _, by decide, .inl rfl⟩
theorem wr_long : Wr "long" (.word (LsText.ascii "long")) := ⟨by decide, _, by decide, .inl rfl⟩
theorem wr_end : Wr ";" (.sign 59) := ⟨by decide, [59], by decide, .inr ⟨59, rfl, rfl⟩⟩
def aboveOf (B : Book) : Nat := (B.known.getLast?.map fun (x : Nat × Pt) => x.1).getD 0
theorem last_most : ∀ (l : List (Nat × Pt)), (l.map (·.1)).Pairwise (· < ·) → ∀ y ∈ l, y.1 ≤ (l.getLast?.map fun (x : Nat × Pt) => x.1).getD 0
  | [], _, y, hy => absurd hy List.not_mem_nil
  | [a], _, y, hy => by
    rw [List.mem_singleton.mp hy]
    exact Nat.le_refl _
  | a :: b :: l, h, y, hy => by
    rw [List.map_cons] at h
    obtain ⟨h1, h2⟩ := List.pairwise_cons.mp h
    rw [List.getLast?_cons_cons]
    have ih := last_most (b :: l) h2
    rcases List.mem_cons.mp hy with rfl | hy
    · have h3 := h1 b.1 (by rw [List.map_cons]; exact List.mem_cons_self ..)
      have h4 := ih b (List.mem_cons_self ..)
      omega
    · exact ih y hy
theorem last_in (l : List (Nat × Pt)) (h : l ≠ []) : ∃ y ∈ l, y.1 = (l.getLast?.map fun (x : Nat × Pt) => x.1).getD 0 := by
  rw [List.getLast?_eq_some_getLast h]
  exact ⟨_, List.getLast_mem h, rfl⟩
def spRKnown (K : PySem.W.Frag) : Sp := fun vs H Q E => ∃ (rd p b : Addr) (B : Book) (L : Lay) (p0 : Nat) (q : List Token), vs = [.ref rd, .ref b] ∧ RdOn K rd p (⟨p0, .word (LsText.ascii "known")⟩ :: q) H ∧ BookOn K B L b H ∧ Good B ∧ p ∉ L.mut ∧
  Ln K (rd :: L.mut) H E (RunBook.knownIn (aboveOf B) q) fun x r => ∀ H', Fr (rd :: L.mut) H H' → RdOn K rd p r H' → BookOn K { B with known := B.known ++ [x] } L b H' → (1 ≤ x.1 ∧ x.1 ≤ 99 ∧ SmP x.2 ∧ ∀ y ∈ B.known, y.1 < x.1) → Q .non H'
def runG (B : Book) : List Token → Got RunBook.Run
  | t :: q => if t.tok = .word (LsText.ascii "run") then (if 16 ≤ B.runs.length then .error (7, t.at_) else RunBook.runIn B q) else .error (amiss (t :: q))
  | [] => .error (2, 0)
def spRRun (K : PySem.W.Frag) : Sp := fun vs H Q E => ∃ (rd p b : Addr) (B : Book) (L : Lay) (l : List Token), vs = [.ref rd, .ref b] ∧ RdOn K rd p l H ∧ BookOn K B L b H ∧ Good B ∧ p ∉ L.mut ∧
  Ln K (rd :: L.mut) H E (runG B l) fun x r => ∀ H' L', Fr (rd :: L.mut) H H' → RdOn K rd p r H' → BookOn K { B with runs := B.runs ++ [x] } L' b H' → (∀ a ∈ L'.mut, a ∈ L.mut ∨ H a = none) → ((knownAt B x.from_).isSome = true ∧ (knownAt B x.to_).isSome = true ∧ x.legs = [] ∧ B.runs.length < 16) → Q .non H'
def legG (B : Book) (r : RunBook.Run) (p0 : Nat) (q : List Token) : Got Leg := if 24 ≤ r.legs.length then .error (7, p0) else RunBook.legIn B r q
def spRLeg (K : PySem.W.Frag) : Sp := fun vs H Q E => ∃ (rd p b : Addr) (B : Book) (L : Lay) (t : Nat) (r : RunBook.Run) (x : Addr × Addr × List Addr) (p0 : Nat) (q : List Token), vs = [.ref rd, .ref b, .ref x.1] ∧ RdOn K rd p (⟨p0, .word (LsText.ascii "leg")⟩ :: q) H ∧ BookOn K B L b H ∧ Good B ∧ p ∉ L.mut ∧ L.rs[t]? = some x ∧ B.runs[t]? = some r ∧
  Ln K (rd :: L.mut) H E (legG B r p0 q) fun g l => ∀ H' L', Fr (rd :: L.mut) H H' → RdOn K rd p l H' → BookOn K (setRun B t (r.legs ++ [g])) L' b H' → (∀ a ∈ L'.mut, a ∈ L.mut ∨ H a = none) → (SmL g ∧ 1 ≤ g.to_ ∧ g.to_ ≤ 99 ∧ r.legs.length < 24) → Q .non H'
theorem num_b {lo hi : Nat} {l r : List Token} {n : Nat} (h : num lo hi l = .ok (n, r)) : lo ≤ n ∧ n ≤ hi := by
  cases l with
  | nil => cases h
  | cons t l =>
    by_cases hk : kindOf t.tok = 2
    · obtain ⟨m, hm⟩ := is_num hk
      rw [hm] at h
      have h : (if lo ≤ m ∧ m ≤ hi then .ok (m, l) else .error (3, t.at_) : Got Nat) = .ok (n, r) := h
      split at h
      · rename_i hb
        injection h with h
        have h := congrArg Prod.fst h
        have h : m = n := h
        rw [← h]
        exact hb
      · cases h
    · rw [num_no hk] at h
      cases h
theorem whole_b {hi : Nat} {l r : List Token} {z : Int} (h : whole hi l = .ok (z, r)) : z.natAbs ≤ hi := by
  cases l with
  | nil => cases h
  | cons t l =>
    by_cases hs : t.tok = .sign 45
    · rw [whole_sign hs] at h
      cases l with
      | nil => cases h
      | cons t2 l2 =>
        by_cases hk : kindOf t2.tok = 2
        · obtain ⟨m, hm⟩ := is_num hk
          rw [hm] at h
          have h : (if m ≤ hi then .ok (-(m : Int), l2) else .error (3, t.at_) : Got Int) = .ok (z, r) := h
          split at h
          · injection h with h
            have h := congrArg Prod.fst h
            have h : -(m : Int) = z := h
            omega
          · cases h
        · obtain ⟨p2, k2⟩ := t2
          cases k2 with
          | num n => exact absurd rfl hk
          | _ => cases h
    · rw [whole_no hs] at h
      cases hn : num 0 hi (t :: l) with
      | error f =>
        rw [hn] at h
        cases h
      | ok x =>
        rw [hn] at h
        have hb := num_b (n := x.1) (r := x.2) hn
        injection h with h
        have h := congrArg Prod.fst h
        have h : (x.1 : Int) = z := h
        omega
section
variable {K : PySem.W.Frag} {H : Hp} {σ : L2.St} {td ty tv : TE} {D : Ends} {tz tu : TS}
/-- for k in d: the dict locked -/
theorem q_lockK {i : Nat} {d : Addr} {kvs : List (Key × V)} (hd : H d = some (.dK kvs)) (htd : ∀ od, Ev td σ (upd H d (.frz od (.dK kvs))) (.ref d)) (Pv : Nat → L2.St → Prop) (h0 : Pv 0 σ)
    (hs : ∀ od j k v σ' H' (D' : Ends), kvs[j]? = some (k, v) → Pv j σ' → Ex (upd H d (.frz od (.dK kvs))) H' → (∀ σ2 H2, Ex H' H2 → Pv (j + 1) σ2 → D'.nx σ2 H2) → tu D' (σ'.set i (some (kV k))) H')
    (hz : ∀ σ' H', Pv kvs.length σ' → Ex H H' → tz D σ' H') : tSeq (tLock (tFor (iKeys td) (gName i) tu)) tz D σ H := by
  refine ⟨d, .dK kvs, hd, trivial, fun od => ?_⟩
  refine htd od _ (Ex.refl _) _ fun H2 e2 => ⟨d, od, rfl, .inl ⟨kvs, e2 _ _ upd_same, for_it (walk_keys (d := d) (o := od) (kvs := kvs)) (fun j σ' H' => Pv j σ' ∧ Ex (upd H d (.frz od (.dK kvs))) H') ⟨h0, e2⟩ (fun j σ' H' _ p => p.2 _ _ upd_same) (fun j x σ' H3 H4 hj p y => ?_) fun σ' H' p => ⟨p.2 _ _ upd_same, hz σ' _ p.1 fun a u ha => ?_⟩⟩⟩
  · obtain ⟨rfl, k, v, hk, rfl⟩ := y
    exact hs od j k v σ' H4 _ hk p.1 p.2 fun σ2 H2 e3 p3 => ⟨p3, p.2.trans e3⟩
  · by_cases hda : a = d
    · rw [hda, upd_same, ← hd, ← hda, ha]
    · rw [upd_ne hda]
      exact p.2 _ _ (by rw [upd_ne hda]; exact ha)
theorem s_dput {a : Addr} {kvs : List (Key × V)} {ky : Key} {P : V → Hp → Prop} (hP : Stay P) (hk : H a = some (.dK kvs)) (hl : kvs.length < 100000) (hv : EvP tv σ H P) (hd : Ev td σ H (.ref a)) (hy : Ev ty σ H (kV ky)) (k : ∀ v H1, Ex H H1 → P v H1 → D.nx σ (upd H1 a (.dK (putK kvs ky v)))) : sDPut td ty tv D σ H :=
  hv H (Ex.refl H) _ fun v H1 e1 p => hd H1 e1 _ fun H2 e2 => hy H2 (e1.trans e2) _ fun H3 e3 => ⟨a, _, rfl, DPut.k (e3 _ _ (e2 _ _ (e1 _ _ hk))) (sz_lt hl), k v H3 ((e1.trans e2).trans e3) (hP _ _ _ (e2.trans e3) p)⟩
end
section
variable {P : Program} {w : World} {K : PySem.W.Frag} {mg : Str → Option Value} {base : Heap} {σ : L2.St} {H : Hp} {ta tb tc te : TE} {D : Ends} {tz tu : TS} {x y z u v : V}
/-- reader.take_written(w, "..") -/
theorem mt_written {rd p : Addr} {l : List Token} {tk : LsText.Tok} {z : Str} {E : XK} (hR : RdOn K rd p l H) (hw : Wr z tk) (ha : Ev ta σ H (.ref rd)) (hb : Ev tb σ H (.int (kindOf tk))) (hc : Ev tc σ H (.str z)) :
    Mt K (tMeth (He.ga K "Reader") "take_written" (spWritten K) [] E ta (tCons tb (tCons tc tNil))) σ H rd p (due tk l) (fun _ v _ => v = .int (placeOf l : Int)) E :=
  mt_meth hR ha (fun _ => rfl) (ea_cons hb (ea_cons hc ea_nil)) fun H1 e Q hq => ⟨rd, p, l, tk, z, rfl, hR.mono e, hw, hq⟩
theorem mt_number {rd p : Addr} {l : List Token} {lo hi : Nat} {E : XK} (hR : RdOn K rd p l H) (ha : Ev ta σ H (.ref rd)) (hb : Ev tb σ H (.int (lo : Int))) (hc : Ev tc σ H (.int (hi : Int))) :
    Mt K (tMeth (He.ga K "Reader") "take_number" (spNumber K) [] E ta (tCons tb (tCons tc tNil))) σ H rd p (num lo hi l) (fun n => TpE K [fun v _ => v = .int ((n : Nat) : Int), fun v _ => v = .int (placeOf l : Int)]) E :=
  mt_meth hR ha (fun _ => rfl) (ea_cons hb (ea_cons hc ea_nil)) fun H1 e Q hq => ⟨rd, p, l, lo, hi, rfl, hR.mono e, hq⟩
theorem mt_point {rd p : Addr} {l : List Token} {E : XK} (hR : RdOn K rd p l H) (ha : Ev ta σ H (.ref rd)) : Mt K (tMeth (He.ga K "Reader") "take_point" (spTPoint K) [] E ta tNil) σ H rd p (num 1 99 l) (fun n => TpE K [fun v _ => v = .int ((n : Nat) : Int), fun v _ => v = .int (placeOf l : Int)]) E :=
  mt_meth hR ha (fun _ => rfl) ea_nil fun H1 e Q hq => ⟨rd, p, l, rfl, hR.mono e, hq⟩
theorem mt_step {rd p : Addr} {l : List Token} {E : XK} (hR : RdOn K rd p l H) (ha : Ev ta σ H (.ref rd)) : Mt K (tMeth (He.ga K "Reader") "take_step" (spTStep K) [] E ta tNil) σ H rd p (whole 99999 l) (fun n => TpE K [fun v _ => v = .int n, fun v _ => v = .int (placeOf l : Int)]) E :=
  mt_meth hR ha (fun _ => rfl) ea_nil fun H1 e Q hq => ⟨rd, p, l, rfl, hR.mono e, hq⟩
theorem mt_known {rd p b : Addr} {l : List Token} {B : Book} {L : Lay} {E : XK} (hR : RdOn K rd p l H) (hB : BookOn K B L b H) (ha : Ev ta σ H (.ref rd)) (hb : Ev tb σ H (.ref b)) : Mt K (tMeth (He.ga K "Reader") "take_known" (spTKnown K) [] E ta (tCons tb tNil)) σ H rd p (RunBook.knownNo B l) (fun n v _ => v = .int ((n : Nat) : Int)) E :=
  mt_meth hR ha (fun _ => rfl) (ea_cons hb ea_nil) fun H1 e Q hq => ⟨rd, p, b, l, B, L, rfl, hR.mono e, hB.mono e, hq⟩
theorem sc_read_known : FnScope ["reader", "book", "number", "number_place", "other", "east", "east_place", "north", "north_place"] ["reader", "book"] (defScope s_read_known) := ⟨rfl, rfl, rfl, by decide +kernel, rfl, by decide +kernel, by decide +kernel⟩
theorem ok_read_known (T : Txt K mg) : Def P w K mg base (L2.CX P w) 5 "read_known" ["reader", "book"] (spRKnown K) := by
  refine T.def_ 41 28 rfl rfl rfl rfl rfl sc_read_known (fun _ _ _ _ _ _ us hl => match us, hl with | [_, _], _ => rfl) (fun vs H Q E h => by first | (obtain ⟨_, rfl, _⟩ := h; rfl) | (obtain ⟨_, _, rfl, _⟩ := h; rfl) | (obtain ⟨_, _, _, rfl, _⟩ := h; rfl) | (obtain ⟨_, _, _, _, rfl, _⟩ := h; rfl) | (obtain ⟨_, _, _, _, _, rfl, _⟩ := h; rfl) | (obtain ⟨_, _, _, _, _, _, rfl, _⟩ := h; rfl) | (obtain ⟨_, _, _, _, _, _, _, rfl, _⟩ := h; rfl) | (obtain ⟨_, _, _, _, _, _, _, _, rfl, _⟩ := h; rfl) | (obtain ⟨_, _, _, _, _, _, _, _, _, rfl, _⟩ := h; rfl) | (obtain ⟨_, _, _, _, _, _, _, _, _, _, rfl, _⟩ := h; rfl) | (obtain ⟨_, _, _, _, _, _, _, _, _, _, _, rfl, _⟩ := h; rfl) | (obtain ⟨_, _, _, _, _, _, _, _, _, _, _, _, rfl, _⟩ := h; rfl) | (obtain ⟨_, _, _, _, _, _, _, _, _, _, _, _, _, rfl, _⟩ := h; rfl) | (obtain ⟨_, _, _, _, _, _, _, _, _, _, _, _, _, _, rfl, _⟩ := h; rfl) | (obtain ⟨_, _, _, _, _, _, _, _, _, _, _, _, _, _, _, rfl, _⟩ := h; rfl) | (obtain ⟨_, _, _, _, _, _, _, _, _, _, _, _, _, _, _, _, rfl, _⟩ := h; rfl) | (obtain ⟨_, _, _, _, _, _, _, _, _, _, _, _, _, _, _, _, _, rfl, _⟩ := h; rfl) | (obtain ⟨_, _, _, _, _, _, _, _, _, _, _, _, _, _, _, _, _, _, rfl, _⟩ := h; rfl) | (obtain ⟨_, _, _, _, _, _, _, _, _, _, _, _, _, _, _, _, _, _, _, rfl, _⟩ := h; rfl)) (fun f cdv A outer s H vs Q E hr h => ⟨_, (pss_cons (ps_expr (pe_md (ok_Reader_take_written T) (pv 0) (T.cls 184 rfl) (T.meth 191 rfl) hr (passes_call (takes_of rfl rfl rfl rfl) fun _ _ _ _ h => h) (pa_cons (pe_gi (T.int 113 rfl)) (pa_cons pe_str pa_nil)))) (pss_cons (ps_asg (pe_md0 (ok_Reader_take_point T) (pv 0) (T.cls 184 rfl) (T.meth 193 rfl) hr (passes_call (takes_of rfl rfl rfl rfl) fun _ _ _ _ h => h)) (pg_tup rfl (pgs_cons (pg_name (i := 2) sc_read_known.nd rfl (Or.inl rfl)) (pgs_cons (pg_name (i := 3) sc_read_known.nd rfl (Or.inl rfl)) pgs_nil)))) (pss_cons (ps_lock (ps_for (passes_of rfl) rfl (pi_keys (pe_fld (pv 1) rfl)) (pg_name (i := 4) sc_read_known.nd rfl (Or.inl rfl)) (pss_one (ps_if (pt_cmpR op_le (pv 2) (pv 4) (nomark _)) (pss_one (ps_fault T hr (takes_of rfl rfl rfl rfl) (pa_cons (pe_gi (T.int 132 rfl)) (pa_cons (pv 3) pa_nil)))) pss_nil)))) (pss_cons (ps_expr (pe_md (ok_Reader_take_written T) (pv 0) (T.cls 184 rfl) (T.meth 191 rfl) hr (passes_call (takes_of rfl rfl rfl rfl) fun _ _ _ _ h => h) (pa_cons (pe_gi (T.int 113 rfl)) (pa_cons pe_str pa_nil)))) (pss_cons (ps_asg (pe_md (ok_Reader_take_number T) (pv 0) (T.cls 184 rfl) (T.meth 192 rfl) hr (passes_call (takes_of rfl rfl rfl rfl) fun _ _ _ _ h => h) (pa_cons pe_int (pa_cons (pe_gi (T.int 124 rfl)) pa_nil))) (pg_tup rfl (pgs_cons (pg_name (i := 5) sc_read_known.nd rfl (Or.inl rfl)) (pgs_cons (pg_name (i := 6) sc_read_known.nd rfl (Or.inl rfl)) pgs_nil)))) (pss_cons (ps_asg (pe_md (ok_Reader_take_number T) (pv 0) (T.cls 184 rfl) (T.meth 192 rfl) hr (passes_call (takes_of rfl rfl rfl rfl) fun _ _ _ _ h => h) (pa_cons pe_int (pa_cons (pe_gi (T.int 124 rfl)) pa_nil))) (pg_tup rfl (pgs_cons (pg_name (i := 7) sc_read_known.nd rfl (Or.inl rfl)) (pgs_cons (pg_name (i := 8) sc_read_known.nd rfl (Or.inl rfl)) pgs_nil)))) (pss_cons (ps_expr (pe_md (ok_Reader_take_written T) (pv 0) (T.cls 184 rfl) (T.meth 191 rfl) hr (passes_call (takes_of rfl rfl rfl rfl) fun _ _ _ _ h => h) (pa_cons (pe_gi (T.int 116 rfl)) (pa_cons pe_str pa_nil)))) (pss_one (ps_dput (hu_of hr) (pe_fld (pv 1) rfl) (pv 2) (pe_tup (pa_cons (pv 5) (pa_cons (pv 7) pa_nil))) rfl))))))))), ?_⟩)
  obtain ⟨rd, p, b, B, L, p0, q, rfl, hR, hB, hG, hp, k⟩ := h
  refine Sv.go (sv_mdrop (mt_written hR wr_known (ev_var rfl) ev_c ev_c) (fun f hf => by rw [due_same] at hf; cases hf) fun x r hx v H1 f1 hR1 hv => ?_)
  rw [due_same] at hx
  injection hx with hx
  have hx : q = r := congrArg Prod.snd hx
  subst hx
  refine Sv.go (sv_mun2 (P1 := fun n v _ => v = .int ((n : Nat) : Int)) (P2 := fun _ v _ => v = .int (placeOf q : Int)) (mt_point hR1 (ev_var rfl)) (fun f hf => (k.err ?_).at1 f1) fun n r1 h1 y pl H2 f2 hR2 hy hpl => ?_)
  · have hf : num 1 RunBook.NUMBER q = .error f := hf
    simp only [RunBook.knownIn, hf, Except.bind]
  have h1b := num_b h1
  have h1 : num 1 RunBook.NUMBER q = .ok (n, r1) := h1
  have hy : y = _ := hy
  subst hy
  have hpl : pl = _ := hpl
  subst hpl
  have f2 := f1.trans f2
  have hB2 := hB.rdf hR f2
  obtain ⟨db, q1⟩ := hB2.bk
  obtain ⟨kvs, q2, q3⟩ := hB2.kn
  obtain ⟨ns, hks, hns⟩ := q3.keys
  have hbd : b ≠ L.d := hB2.nb mut_d fun g dx e => by
    rw [q2] at e
    cases e
  have hkey : ∀ (j : Nat) (kk : Key) (vv : V), kvs[j]? = some (kk, vv) → ∃ m : Nat, ns[j]? = some m ∧ kk = .inl ((m : Nat) : Int) := fun j kk vv hj => by
    have e := congrArg (fun l => l[j]?) hks
    simp only [List.getElem?_map, hj] at e
    cases hm : ns[j]? with
    | none => rw [hm] at e; cases e
    | some m =>
      rw [hm] at e
      exact ⟨m, rfl, Option.some.inj e⟩
  refine q_lockK q2 (fun od => ev_book1 T (ev_var rfl) (by rw [upd_ne hbd]; exact q1)) (fun j σ' => ∃ z0 z1 z2 z3 z4 : Option V, σ' = [some (.ref rd), some (.ref b), some (.int (n : Int)), some (.int (placeOf q : Int)), z0, z1, z2, z3, z4] ∧ ∀ i, i < j → ∀ m, ns[i]? = some m → m < n) ⟨none, none, none, none, none, rfl, fun i hi => absurd hi (Nat.not_lt_zero i)⟩ ?_ ?_
  · rintro od j kk vv σ' H' D' hj ⟨z0, z1, z2, z3, z4, rfl, hlt⟩ e' hnx
    obtain ⟨m, hm, rfl⟩ := hkey j kk vv hj
    refine Sv.go (sv_if (b := decide ((n : Int) ≤ ((m : Nat) : Int))) (et_test (ev_op (ev_var rfl) (ev_var rfl) rv_I0)) (fun hc => ?_) fun hc => ?_)
    · have hc := of_decide_eq_true hc
      have hmk : m ∈ B.known.map (·.1) := hns.mem_iff.mp (List.mem_of_getElem? hm)
      obtain ⟨yy, hyy, hym⟩ := List.mem_map.mp hmk
      have hle := last_most B.known hG.kn yy hyy
      have hab : n ≤ aboveOf B := by
        have hym : yy.1 = m := hym
        unfold aboveOf
        omega
      have hF := k.err (f := (4, placeOf q)) (by simp only [RunBook.knownIn, h1, Except.bind, if_pos hab])
      refine sv_fault (rd := rd) (S := [L.d]) (ea_cons ev_c (ea_cons (ev_var rfl) ea_nil)) (hF.mono (((f2.sub fun a ha => .inl (by rw [List.mem_singleton.mp ha]; exact List.mem_cons_self ..)).upd (.inl (List.mem_cons_of_mem _ mut_d))).then e') fun a ha => .inl (by rw [List.mem_singleton.mp ha]; exact List.mem_cons_of_mem _ mut_d))
    · have hc := of_decide_eq_false hc
      refine sv_next fun H3 e3 => hnx _ _ e3 ⟨_, _, _, _, _, rfl, fun i hi m2 hm2 => ?_⟩
      by_cases hij : i = j
      · rw [hij, hm] at hm2
        obtain rfl := Option.some.inj hm2
        omega
      · exact hlt i (by omega) m2 hm2
  rintro σ' H3 ⟨z0, z1, z2, z3, z4, rfl, hlt⟩ e3
  have hR3 := hR2.mono e3
  have f3 := f2.then e3
  have hall : ∀ yy ∈ B.known, yy.1 < n := fun yy hyy => by
    obtain ⟨i, hi⟩ := List.getElem?_of_mem (hns.mem_iff.mpr (List.mem_map_of_mem (f := fun x : Nat × Pt => x.1) hyy))
    have hl := congrArg List.length hks
    rw [List.length_map, List.length_map] at hl
    exact hlt i (by have := (List.getElem?_eq_some_iff.mp hi).1; omega) _ hi
  have hab : ¬ n ≤ aboveOf B := by
    unfold aboveOf
    by_cases hnil : B.known = []
    · rw [hnil]
      show ¬ n ≤ 0
      omega
    · obtain ⟨yy, hyy, e⟩ := last_in B.known hnil
      have := hall yy hyy
      omega
  refine Sv.go (sv_mdrop (mt_written hR3 wr_at (ev_var rfl) ev_c ev_c) (fun f hf => (k.err ?_).at1 f3) fun x2 r2 h2 v2 H4 f4 hR4 _ => ?_)
  · have hf : word "at" r1 = .error f := hf
    simp only [RunBook.knownIn, h1, Except.bind, if_neg hab, hf]
  have h2 : word "at" r1 = .ok (x2, r2) := h2
  have f4 := f3.trans f4
  refine Sv.go (sv_mun2 (P1 := fun n v _ => v = .int ((n : Nat) : Int)) (P2 := fun _ v _ => v = .int (placeOf r2 : Int)) (mt_number (lo := 0) (hi := 999999) hR4 (ev_var rfl) ev_c ev_c) (fun f hf => (k.err ?_).at1 f4) fun xe r3 h3 ye pe H5 f5 hR5 hye hpe => ?_)
  · simp only [RunBook.knownIn, h1, Except.bind, if_neg hab, h2, hf]
  have f5 := f4.trans f5
  have h3b := num_b h3
  have hye : ye = _ := hye
  subst hye
  refine Sv.go (sv_mun2 (P1 := fun n v _ => v = .int ((n : Nat) : Int)) (P2 := fun _ v _ => v = .int (placeOf r3 : Int)) (mt_number (lo := 0) (hi := 999999) hR5 (ev_var rfl) ev_c ev_c) (fun f hf => (k.err ?_).at1 f5) fun xn r4 h4 yn pn H6 f6 hR6 hyn hpn => ?_)
  · simp only [RunBook.knownIn, h1, Except.bind, if_neg hab, h2, h3, hf]
  have f6 := f5.trans f6
  have h4b := num_b h4
  have hyn : yn = _ := hyn
  subst hyn
  refine Sv.go (sv_mdrop (mt_written hR6 wr_end (ev_var rfl) ev_c ev_c) (fun f hf => (k.err ?_).at1 f6) fun x5 r5 h5 v5 H7 f7 hR7 _ => ?_)
  · simp only [RunBook.knownIn, h1, Except.bind, if_neg hab, h2, h3, h4, hf, Except.map]
  have f7 := f6.trans f7
  have hok := k.get (x := (n, ⟨(xe : Int), (xn : Int)⟩)) (r := r5) (by simp only [RunBook.knownIn, h1, Except.bind, if_neg hab, h2, h3, h4, h5, Except.map])
  have hB7 := hB.rdf hR f7
  obtain ⟨db7, s1⟩ := hB7.bk
  obtain ⟨kvs7, s2, s3⟩ := hB7.kn
  have hkl := s3.len
  have hgl := hG.len
  refine s_dput (ky := .inl (n : Int)) (P := NewT [.int (xe : Int), .int (xn : Int)]) stay_newT s2 (by omega) (evp_tup (ea_cons (ev_var rfl) (ea_cons (ev_var rfl) ea_nil)) (by show 2 ≤ 100000; decide)) (ev_book1 T (ev_var rfl) s1) (ev_var rfl) fun v1 H8 e8 hv1 => ?_
  obtain ⟨tp, rfl, htp⟩ := hv1
  have hnk : n ∉ B.known.map (·.1) := fun hm => by
    obtain ⟨yy, hyy, e⟩ := List.mem_map.mp hm
    have := hall yy hyy
    have e : yy.1 = n := e
    omega
  have hB8 := hB7.mono e8
  have hS : ∀ a ∈ [L.d], ∀ u, H8 a = some u → NotT u := fun a ha u hu => by
    rw [List.mem_singleton.mp ha, e8 _ _ s2] at hu
    rw [← Option.some.inj hu]
    trivial
  have fd : Fr [L.d] H8 (upd H8 L.d (.dK (putK kvs7 (.inl (n : Int)) (.ref tp)))) := fr_one (Ex.refl _)
  have hkn := ((s3.fr (S := []) (Fr.of e8) fun _ h => absurd h List.not_mem_nil).add (p := ⟨(xe : Int), (xn : Int)⟩) hnk (List.perm_append_singleton (n, (⟨(xe : Int), (xn : Int)⟩ : Pt)) B.known) (st_of htp)).fr fd hS
  refine hok _ (((f7.sub fun a ha => .inl (by rw [List.mem_singleton.mp ha]; exact List.mem_cons_self ..)).then e8).upd (.inl (List.mem_cons_of_mem _ mut_d))) ((hR7.mono e8).fr fd (fun m => hB.rd_not hR (by rw [List.mem_singleton.mp m]; exact mut_d)) (fun m => hp (by rw [List.mem_singleton.mp m]; exact mut_d)) hS) (hB8.put fd upd_same hkn) ⟨h1b.1, h1b.2, ⟨by show (0 : Int) ≤ (xe : Int); omega, by show (xe : Int) ≤ 999999; omega, by show (0 : Int) ≤ (xn : Int); omega, by show (xn : Int) ≤ 999999; omega⟩, hall⟩
end
end Trav
namespace Trav
open LsText (Token)
open LsRun (Leg)
open LsGeo (Pt)
open RunBook (Got amiss placeOf due num whole word Book knownAt mayReach)
open TravSpec (setRun)
theorem due_err {t : Token} {q : List Token} {tk : LsText.Tok} {f : RunBook.Fault} (h : due tk (t :: q) = .error f) : ¬ t.tok = tk ∧ f = amiss (t :: q) := by
  by_cases ht : t.tok = tk
  · rw [due_yes ht] at h
    cases h
  · rw [due_no ht] at h
    injection h with h
    exact ⟨ht, h.symm⟩
theorem due_ok {t : Token} {q r : List Token} {tk : LsText.Tok} {x : Unit} (h : due tk (t :: q) = .ok (x, r)) : t.tok = tk ∧ r = q := by
  by_cases ht : t.tok = tk
  · rw [due_yes ht] at h
    injection h with h
    exact ⟨ht, (congrArg Prod.snd h).symm⟩
  · rw [due_no ht] at h
    cases h
theorem known_some {B : Book} {l r : List Token} {n : Nat} (h : RunBook.knownNo B l = .ok (n, r)) : (knownAt B n).isSome = true := by
  unfold RunBook.knownNo at h
  cases hn : num 1 RunBook.NUMBER l with
  | error f =>
    rw [hn] at h
    cases h
  | ok x =>
    rw [hn] at h
    have h : (if (knownAt B x.1).isNone = true then .error (5, placeOf l) else .ok x : Got Nat) = .ok (n, r) := h
    split at h
    · cases h
    · rename_i hk
      injection h with h
      rw [h] at hk
      have hk : ¬ (knownAt B n).isNone = true := hk
      cases hq : knownAt B n with
      | none => exact absurd (by rw [hq]; rfl) hk
      | some p => rfl
section
variable {P : Program} {w : World} {K : PySem.W.Frag} {mg : Str → Option Value} {base : Heap} {σ : L2.St} {H : Hp} {ta tb tc te : TE} {D : Ends} {tz tu : TS} {x y z u v : V}
theorem sc_read_run : FnScope ["reader", "book", "head_place", "begin", "goal"] ["reader", "book"] (defScope s_read_run) := ⟨rfl, rfl, rfl, by decide +kernel, rfl, by decide +kernel, by decide +kernel⟩
theorem ok_read_run (T : Txt K mg) : Def P w K mg base (L2.CX P w) 5 "read_run" ["reader", "book"] (spRRun K) := by
  refine T.def_ 42 29 rfl rfl rfl rfl rfl sc_read_run (fun _ _ _ _ _ _ us hl => match us, hl with | [_, _], _ => rfl) (fun vs H Q E h => by first | (obtain ⟨_, rfl, _⟩ := h; rfl) | (obtain ⟨_, _, rfl, _⟩ := h; rfl) | (obtain ⟨_, _, _, rfl, _⟩ := h; rfl) | (obtain ⟨_, _, _, _, rfl, _⟩ := h; rfl) | (obtain ⟨_, _, _, _, _, rfl, _⟩ := h; rfl) | (obtain ⟨_, _, _, _, _, _, rfl, _⟩ := h; rfl) | (obtain ⟨_, _, _, _, _, _, _, rfl, _⟩ := h; rfl) | (obtain ⟨_, _, _, _, _, _, _, _, rfl, _⟩ := h; rfl) | (obtain ⟨_, _, _, _, _, _, _, _, _, rfl, _⟩ := h; rfl) | (obtain ⟨_, _, _, _, _, _, _, _, _, _, rfl, _⟩ := h; rfl) | (obtain ⟨_, _, _, _, _, _, _, _, _, _, _, rfl, _⟩ := h; rfl) | (obtain ⟨_, _, _, _, _, _, _, _, _, _, _, _, rfl, _⟩ := h; rfl) | (obtain ⟨_, _, _, _, _, _, _, _, _, _, _, _, _, rfl, _⟩ := h; rfl) | (obtain ⟨_, _, _, _, _, _, _, _, _, _, _, _, _, _, rfl, _⟩ := h; rfl) | (obtain ⟨_, _, _, _, _, _, _, _, _, _, _, _, _, _, _, rfl, _⟩ := h; rfl) | (obtain ⟨_, _, _, _, _, _, _, _, _, _, _, _, _, _, _, _, rfl, _⟩ := h; rfl) | (obtain ⟨_, _, _, _, _, _, _, _, _, _, _, _, _, _, _, _, _, rfl, _⟩ := h; rfl) | (obtain ⟨_, _, _, _, _, _, _, _, _, _, _, _, _, _, _, _, _, _, rfl, _⟩ := h; rfl) | (obtain ⟨_, _, _, _, _, _, _, _, _, _, _, _, _, _, _, _, _, _, _, rfl, _⟩ := h; rfl)) (fun f cdv A outer s H vs Q E hr h => ⟨_, (pss_cons (ps_set (i := 2) sc_read_run.nd rfl (Or.inl rfl) (pe_md (ok_Reader_take_written T) (pv 0) (T.cls 184 rfl) (T.meth 191 rfl) hr (passes_call (takes_of rfl rfl rfl rfl) fun _ _ _ _ h => h) (pa_cons (pe_gi (T.int 113 rfl)) (pa_cons pe_str pa_nil)))) (pss_cons (ps_if (pt_cmpR op_ge (pe_callB call_len (by rfl) (T.free 160 rfl) (by decide +kernel) (pa_cons (pe_fld (pv 1) rfl) pa_nil)) (pe_gi (T.int 125 rfl)) (nomark _)) (pss_one (ps_fault T hr (takes_of rfl rfl rfl rfl) (pa_cons (pe_gi (T.int 135 rfl)) (pa_cons (pv 2) pa_nil)))) pss_nil) (pss_cons (ps_set (i := 3) sc_read_run.nd rfl (Or.inl rfl) (pe_md (ok_Reader_take_known T) (pv 0) (T.cls 184 rfl) (T.meth 195 rfl) hr (passes_call (takes_of rfl rfl rfl rfl) fun _ _ _ _ h => h) (pa_cons (pv 1) pa_nil))) (pss_cons (ps_expr (pe_md (ok_Reader_take_written T) (pv 0) (T.cls 184 rfl) (T.meth 191 rfl) hr (passes_call (takes_of rfl rfl rfl rfl) fun _ _ _ _ h => h) (pa_cons (pe_gi (T.int 113 rfl)) (pa_cons pe_str pa_nil)))) (pss_cons (ps_set (i := 4) sc_read_run.nd rfl (Or.inl rfl) (pe_md (ok_Reader_take_known T) (pv 0) (T.cls 184 rfl) (T.meth 195 rfl) hr (passes_call (takes_of rfl rfl rfl rfl) fun _ _ _ _ h => h) (pa_cons (pv 1) pa_nil))) (pss_cons (ps_expr (pe_md (ok_Reader_take_written T) (pv 0) (T.cls 184 rfl) (T.meth 191 rfl) hr (passes_call (takes_of rfl rfl rfl rfl) fun _ _ _ _ h => h) (pa_cons (pe_gi (T.int 116 rfl)) (pa_cons pe_str pa_nil)))) (pss_one (ps_expr (pe_bm PySem.F.plainAttrs_list PySem.F.slot_list_append PySem.F.type_list_append mt_append (pe_fld (pv 1) rfl) (pa_cons (pe_mk (ok_Run_init T) (T.mkr 176 rfl) (T.glo 95 rfl) hr pass0 (pa_cons (pv 3) (pa_cons (pv 4) pa_nil))) pa_nil)))))))))), ?_⟩)
  obtain ⟨rd, p, b, B, L, l, rfl, hR, hB, hG, hp, k⟩ := h
  obtain ⟨t, q, rfl⟩ := hR.ended.cons
  refine Sv.go (sv_mset (mt_written hR wr_run (ev_var rfl) ev_c ev_c) (fun f hf => ?_) fun x r hx v H1 f1 hR1 hv => ?_)
  · obtain ⟨ht, rfl⟩ := due_err hf
    exact (k.err (if_neg ht)).at1 Fr.refl
  obtain ⟨ht, rfl⟩ := due_ok hx
  have hv : v = .int (t.at_ : Int) := hv
  subst hv
  have hrun : runG B (t :: r) = if 16 ≤ B.runs.length then .error (7, t.at_) else RunBook.runIn B r := if_pos ht
  have hB1 := hB.rdf hR f1
  obtain ⟨db, q1⟩ := hB1.bk
  have hln := hB.ln
  refine Sv.go (sv_when (b := decide (((L.rs.map fun x => V.ref x.1).length : Int) ≥ 16)) (et_test (ev_op (ev_len1 (ev_book2 T (ev_var rfl) q1) (sq_of hB1.ls)) ev_c rv_I0)) (fun hc => ?_) fun hc => ?_)
  · have hc := of_decide_eq_true hc
    rw [List.length_map, hln] at hc
    have hF := k.err (f := (7, t.at_)) (by rw [hrun, if_pos (by omega)])
    exact sv_fault (rd := rd) (S := [rd]) (ea_cons ev_c (ea_cons (ev_var rfl) ea_nil)) (hF.at1 f1)
  have hc := of_decide_eq_false hc
  rw [List.length_map, hln] at hc
  rw [hrun, if_neg (by omega)] at k
  refine sv_mset (mt_known hR1 hB1 (ev_var rfl) (ev_var rfl)) (fun f hf => (k.err ?_).at1 f1) fun m r2 h2 v2 H2 f2 hR2 hv2 => ?_
  · simp only [RunBook.runIn, hf, Except.bind]
  have hv2 : v2 = _ := hv2
  subst hv2
  have f2 := f1.trans f2
  refine Sv.go (sv_mdrop (mt_written hR2 wr_to (ev_var rfl) ev_c ev_c) (fun f hf => (k.err ?_).at1 f2) fun x3 r3 h3 v3 H3 f3 hR3 _ => ?_)
  · have hf : word "to" r2 = .error f := hf
    simp only [RunBook.runIn, h2, hf, Except.bind]
  have h3 : word "to" r2 = .ok (x3, r3) := h3
  have f3 := f2.trans f3
  have hB3 := hB.rdf hR f3
  refine Sv.go (sv_mset (mt_known hR3 hB3 (ev_var rfl) (ev_var rfl)) (fun f hf => (k.err ?_).at1 f3) fun n r4 h4 v4 H4 f4 hR4 hv4 => ?_)
  · simp only [RunBook.runIn, h2, h3, hf, Except.bind]
  have hv4 : v4 = _ := hv4
  subst hv4
  have f4 := f3.trans f4
  refine Sv.go (sv_mdrop (mt_written hR4 wr_end (ev_var rfl) ev_c ev_c) (fun f hf => (k.err ?_).at1 f4) fun x5 r5 h5 v5 H5 f5 hR5 _ => ?_)
  · simp only [RunBook.runIn, h2, h3, h4, hf, Except.bind, Except.map]
  have f5 := f4.trans f5
  have hok := k.get (x := ⟨m, n, []⟩) (r := r5) (by simp only [RunBook.runIn, h2, h3, h4, h5, Except.bind, Except.map])
  have hB5 := hB.rdf hR f5
  obtain ⟨db5, s1⟩ := hB5.bk
  refine sv_appP (P := NewRun K H5 m n) hB5.ls (ev_book2 T (ev_var rfl) s1) (evp_mkrun (ea_cons (ev_var rfl) (ea_cons (ev_var rfl) ea_nil))) (by rw [List.length_map]; omega) fun v1 H6 e6 hv1 => ?_
  obtain ⟨pr, lr, rfl, hp0, hl0, hRn⟩ := hv1
  have hpH := f5.nw _ hp0
  have hlH := f5.nw _ hl0
  have fd : Fr [L.l] H6 (upd H6 L.l (.lst ((L.rs.map fun x => V.ref x.1) ++ [.ref pr]))) := fr_one (Ex.refl _)
  have hS : ∀ a ∈ [L.l], ∀ u, H6 a = some u → NotT u := fun a ha u hu => by
    rw [List.mem_singleton.mp ha, e6 _ _ hB5.ls] at hu
    rw [← Option.some.inj hu]
    trivial
  have hnl := hB.new_l hlH
  have hlne : lr ≠ L.l := fun e => hnl (by rw [e]; exact List.mem_cons_self ..)
  have hpne : pr ≠ L.l := fun e => by
    rw [e, hB5.ls] at hp0
    cases hp0
  refine hok _ ⟨L.d, L.l, L.rs ++ [(pr, lr, [])]⟩ (((f5.sub fun a ha => .inl (by rw [List.mem_singleton.mp ha]; exact List.mem_cons_self ..)).then e6).upd (.inl (List.mem_cons_of_mem _ mut_ls))) ((hR5.mono e6).fr fd (fun m => hB.rd_not hR (by rw [List.mem_singleton.mp m]; exact mut_ls)) (fun m => hp (by rw [List.mem_singleton.mp m]; exact mut_ls)) hS)
    ((hB5.mono e6).push (p := (pr, lr)) fd upd_same (hRn.fr fd (ns hpne) (ns hlne) fun a ha => absurd ha List.not_mem_nil) hnl) (fun a ha => ?_) ⟨known_some h2, known_some h4, rfl, by omega⟩
  rcases mut_push (p := (pr, lr)) ha with h | rfl
  · exact .inl h
  · exact .inr hlH
theorem sc_read_leg : FnScope ["reader", "book", "run", "head_place", "point", "point_place", "east", "east_place", "north", "north_place", "length", "length_place"] ["reader", "book", "run"] (defScope s_read_leg) := ⟨rfl, rfl, rfl, by decide +kernel, rfl, by decide +kernel, by decide +kernel⟩
theorem ok_read_leg (T : Txt K mg) : Def P w K mg base (L2.CX P w) 5 "read_leg" ["reader", "book", "run"] (spRLeg K) := by
  refine T.def_ 43 30 rfl rfl rfl rfl rfl sc_read_leg (fun _ _ _ _ _ _ us hl => match us, hl with | [_, _, _], _ => rfl) (fun vs H Q E h => by first | (obtain ⟨_, rfl, _⟩ := h; rfl) | (obtain ⟨_, _, rfl, _⟩ := h; rfl) | (obtain ⟨_, _, _, rfl, _⟩ := h; rfl) | (obtain ⟨_, _, _, _, rfl, _⟩ := h; rfl) | (obtain ⟨_, _, _, _, _, rfl, _⟩ := h; rfl) | (obtain ⟨_, _, _, _, _, _, rfl, _⟩ := h; rfl) | (obtain ⟨_, _, _, _, _, _, _, rfl, _⟩ := h; rfl) | (obtain ⟨_, _, _, _, _, _, _, _, rfl, _⟩ := h; rfl) | (obtain ⟨_, _, _, _, _, _, _, _, _, rfl, _⟩ := h; rfl) | (obtain ⟨_, _, _, _, _, _, _, _, _, _, rfl, _⟩ := h; rfl) | (obtain ⟨_, _, _, _, _, _, _, _, _, _, _, rfl, _⟩ := h; rfl) | (obtain ⟨_, _, _, _, _, _, _, _, _, _, _, _, rfl, _⟩ := h; rfl) | (obtain ⟨_, _, _, _, _, _, _, _, _, _, _, _, _, rfl, _⟩ := h; rfl) | (obtain ⟨_, _, _, _, _, _, _, _, _, _, _, _, _, _, rfl, _⟩ := h; rfl) | (obtain ⟨_, _, _, _, _, _, _, _, _, _, _, _, _, _, _, rfl, _⟩ := h; rfl) | (obtain ⟨_, _, _, _, _, _, _, _, _, _, _, _, _, _, _, _, rfl, _⟩ := h; rfl) | (obtain ⟨_, _, _, _, _, _, _, _, _, _, _, _, _, _, _, _, _, rfl, _⟩ := h; rfl) | (obtain ⟨_, _, _, _, _, _, _, _, _, _, _, _, _, _, _, _, _, _, rfl, _⟩ := h; rfl) | (obtain ⟨_, _, _, _, _, _, _, _, _, _, _, _, _, _, _, _, _, _, _, rfl, _⟩ := h; rfl)) (fun f cdv A outer s H vs Q E hr h => ⟨_, (pss_cons (ps_set (i := 3) sc_read_leg.nd rfl (Or.inl rfl) (pe_md (ok_Reader_take_written T) (pv 0) (T.cls 184 rfl) (T.meth 191 rfl) hr (passes_call (takes_of rfl rfl rfl rfl) fun _ _ _ _ h => h) (pa_cons (pe_gi (T.int 113 rfl)) (pa_cons pe_str pa_nil)))) (pss_cons (ps_if (pt_cmpR op_ge (pe_callB call_len (by rfl) (T.free 160 rfl) (by decide +kernel) (pa_cons (pe_fld (pv 2) rfl) pa_nil)) (pe_gi (T.int 126 rfl)) (nomark _)) (pss_one (ps_fault T hr (takes_of rfl rfl rfl rfl) (pa_cons (pe_gi (T.int 135 rfl)) (pa_cons (pv 3) pa_nil)))) pss_nil) (pss_cons (ps_asg (pe_md0 (ok_Reader_take_point T) (pv 0) (T.cls 184 rfl) (T.meth 193 rfl) hr (passes_call (takes_of rfl rfl rfl rfl) fun _ _ _ _ h => h)) (pg_tup rfl (pgs_cons (pg_name (i := 4) sc_read_leg.nd rfl (Or.inl rfl)) (pgs_cons (pg_name (i := 5) sc_read_leg.nd rfl (Or.inl rfl)) pgs_nil)))) (pss_cons (ps_if (pt_not (pt_val (pe_cd (ok_may_reach T) hr pass0 (pa_cons (pv 1) (pa_cons (pv 2) (pa_cons (pv 4) pa_nil)))))) (pss_one (ps_fault T hr (takes_of rfl rfl rfl rfl) (pa_cons (pe_gi (T.int 134 rfl)) (pa_cons (pv 5) pa_nil)))) pss_nil) (pss_cons (ps_expr (pe_md (ok_Reader_take_written T) (pv 0) (T.cls 184 rfl) (T.meth 191 rfl) hr (passes_call (takes_of rfl rfl rfl rfl) fun _ _ _ _ h => h) (pa_cons (pe_gi (T.int 113 rfl)) (pa_cons pe_str pa_nil)))) (pss_cons (ps_asg (pe_md0 (ok_Reader_take_step T) (pv 0) (T.cls 184 rfl) (T.meth 194 rfl) hr (passes_call (takes_of rfl rfl rfl rfl) fun _ _ _ _ h => h)) (pg_tup rfl (pgs_cons (pg_name (i := 6) sc_read_leg.nd rfl (Or.inl rfl)) (pgs_cons (pg_name (i := 7) sc_read_leg.nd rfl (Or.inl rfl)) pgs_nil)))) (pss_cons (ps_asg (pe_md0 (ok_Reader_take_step T) (pv 0) (T.cls 184 rfl) (T.meth 194 rfl) hr (passes_call (takes_of rfl rfl rfl rfl) fun _ _ _ _ h => h)) (pg_tup rfl (pgs_cons (pg_name (i := 8) sc_read_leg.nd rfl (Or.inl rfl)) (pgs_cons (pg_name (i := 9) sc_read_leg.nd rfl (Or.inl rfl)) pgs_nil)))) (pss_cons (ps_if (PW.pt (pw_and (pt_cmpR op_eq (pv 6) pe_int (nomark _)) (pw_and1 (pt_cmpR op_eq (pv 8) pe_int (nomark _))))) (pss_one (ps_fault T hr (takes_of rfl rfl rfl rfl) (pa_cons (pe_gi (T.int 131 rfl)) (pa_cons (pv 9) pa_nil)))) pss_nil) (pss_cons (ps_expr (pe_md (ok_Reader_take_written T) (pv 0) (T.cls 184 rfl) (T.meth 191 rfl) hr (passes_call (takes_of rfl rfl rfl rfl) fun _ _ _ _ h => h) (pa_cons (pe_gi (T.int 113 rfl)) (pa_cons pe_str pa_nil)))) (pss_cons (ps_asg (pe_md (ok_Reader_take_number T) (pv 0) (T.cls 184 rfl) (T.meth 192 rfl) hr (passes_call (takes_of rfl rfl rfl rfl) fun _ _ _ _ h => h) (pa_cons pe_int (pa_cons (pe_gi (T.int 128 rfl)) pa_nil))) (pg_tup rfl (pgs_cons (pg_name (i := 10) sc_read_leg.nd rfl (Or.inl rfl)) (pgs_cons (pg_name (i := 11) sc_read_leg.nd rfl (Or.inl rfl)) pgs_nil)))) (pss_cons (ps_expr (pe_md (ok_Reader_take_written T) (pv 0) (T.cls 184 rfl) (T.meth 191 rfl) hr (passes_call (takes_of rfl rfl rfl rfl) fun _ _ _ _ h => h) (pa_cons (pe_gi (T.int 116 rfl)) (pa_cons pe_str pa_nil)))) (pss_one (ps_expr (pe_bm PySem.F.plainAttrs_list PySem.F.slot_list_append PySem.F.type_list_append mt_append (pe_fld (pv 2) rfl) (pa_cons (pe_mk (ok_Leg_init T) (T.mkr 170 rfl) (T.glo 94 rfl) hr pass0 (pa_cons (pv 4) (pa_cons (pv 6) (pa_cons (pv 8) (pa_cons (pv 10) pa_nil))))) pa_nil))))))))))))))), ?_⟩)
  obtain ⟨rd, p, b, B, L, t, r, x, p0, q, rfl, hR, hB, hG, hp, hx, hr, k⟩ := h
  refine Sv.go (sv_mset (mt_written hR wr_leg (ev_var rfl) ev_c ev_c) (fun f hf => by rw [due_same] at hf; cases hf) fun x0 r0 hx0 v H1 f1 hR1 hv => ?_)
  rw [due_same] at hx0
  injection hx0 with hx0
  have hx0 : q = r0 := congrArg Prod.snd hx0
  subst hx0
  have hv : v = .int (p0 : Int) := hv
  subst hv
  have hsr := evp_runs_ok hG hr
  have hB1 := hB.rdf hR f1
  have hQ1 := hB1.rn t x r hx hr
  obtain ⟨⟨dr, w1⟩, w2, w3⟩ := id hQ1
  have hlen := each_len w3
  rw [List.length_map, List.length_map] at hlen
  refine Sv.go (sv_when (b := decide (((x.2.2.map V.ref).length : Int) ≥ 24)) (et_test (ev_op (ev_len1 (ev_run3 T (ev_var rfl) w1) (sq_of w2)) ev_c rv_I0)) (fun hc => ?_) fun hc => ?_)
  · have hc := of_decide_eq_true hc
    rw [List.length_map] at hc
    have hF := k.err (f := (7, p0)) (if_pos (by omega))
    exact sv_fault (rd := rd) (S := [rd]) (ea_cons ev_c (ea_cons (ev_var rfl) ea_nil)) (hF.at1 f1)
  have hc := of_decide_eq_false hc
  rw [List.length_map] at hc
  have hlg : legG B r p0 q = RunBook.legIn B r q := if_neg (by omega)
  rw [hlg] at k
  refine sv_mun2 (P1 := fun n v _ => v = .int ((n : Nat) : Int)) (P2 := fun _ v _ => v = .int (placeOf q : Int)) (mt_point hR1 (ev_var rfl)) (fun f hf => (k.err ?_).at1 f1) fun n r1 h1 y pl H2 f2 hR2 hy hpl => ?_
  · have hf : num 1 RunBook.NUMBER q = .error f := hf
    simp only [RunBook.legIn, hf, Except.bind]
  have h1b := num_b h1
  have h1 : num 1 RunBook.NUMBER q = .ok (n, r1) := h1
  have hy : y = _ := hy
  subst hy
  have hpl : pl = _ := hpl
  subst hpl
  have f2 := f1.trans f2
  have hB2 := hB.rdf hR f2
  have hQ2 := hB2.rn t x r hx hr
  refine Sv.go (sv_when (b := !mayReach B r n) (et_not (et_test (ev_callV (ea_cons (ev_var rfl) (ea_cons (ev_var rfl) (ea_cons (ev_var rfl) ea_nil))) fun H1 e Q k => ⟨_, _, B, r, n, rfl, stay_BookAt _ _ _ _ e hB2.at_, stay_RunAt _ _ _ _ e hQ2.at_, hsr.n, k⟩))) (fun hc => ?_) fun hc => ?_)
  · have hm : mayReach B r n = false := by simpa using hc
    have hF := k.err (f := (6, placeOf q)) (by simp only [RunBook.legIn, h1, Except.bind, if_pos hm])
    exact sv_fault (rd := rd) (S := [rd]) (ea_cons ev_c (ea_cons (ev_var rfl) ea_nil)) (hF.at1 f2)
  have hm : ¬ mayReach B r n = false := by simpa using hc
  refine sv_mdrop (mt_written hR2 wr_by (ev_var rfl) ev_c ev_c) (fun f hf => (k.err ?_).at1 f2) fun x2 r2 h2 v2 H3 f3 hR3 _ => ?_
  · have hf : word "by" r1 = .error f := hf
    simp only [RunBook.legIn, h1, Except.bind, if_neg hm, hf]
  have h2 : word "by" r1 = .ok (x2, r2) := h2
  have f3 := f2.trans f3
  refine Sv.go (sv_mun2 (P1 := fun n v _ => v = .int n) (P2 := fun _ v _ => v = .int (placeOf r2 : Int)) (mt_step hR3 (ev_var rfl)) (fun f hf => (k.err ?_).at1 f3) fun xe r3 h3 ye pe H4 f4 hR4 hye hpe => ?_)
  · have hf : whole RunBook.REACH r2 = .error f := hf
    simp only [RunBook.legIn, h1, Except.bind, if_neg hm, h2, hf]
  have h3b := whole_b h3
  have h3 : whole RunBook.REACH r2 = .ok (xe, r3) := h3
  have hye : ye = _ := hye
  subst hye
  have hpe : pe = _ := hpe
  subst hpe
  have f4 := f3.trans f4
  refine Sv.go (sv_mun2 (P1 := fun n v _ => v = .int n) (P2 := fun _ v _ => v = .int (placeOf r3 : Int)) (mt_step hR4 (ev_var rfl)) (fun f hf => (k.err ?_).at1 f4) fun xn r4 h4 yn pn H5 f5 hR5 hyn hpn => ?_)
  · have hf : whole RunBook.REACH r3 = .error f := hf
    simp only [RunBook.legIn, h1, Except.bind, if_neg hm, h2, h3, hf]
  have h4b := whole_b h4
  have h4 : whole RunBook.REACH r3 = .ok (xn, r4) := h4
  have hyn : yn = _ := hyn
  subst hyn
  have hpn : pn = _ := hpn
  subst hpn
  have f5 := f4.trans f5
  refine Sv.go (sv_when (b := decide (xe = 0) && decide (xn = 0)) (et_and (et_test (ev_eqI (ev_var rfl) ev_c)) fun _ => et_test (ev_eqI (ev_var rfl) ev_c)) (fun hc => ?_) fun hc => ?_)
  · have hz : xe = 0 ∧ xn = 0 := by simpa using hc
    have hF := k.err (f := (3, placeOf r3)) (by simp only [RunBook.legIn, h1, Except.bind, if_neg hm, h2, h3, h4, if_pos hz])
    exact sv_fault (rd := rd) (S := [rd]) (ea_cons ev_c (ea_cons (ev_var rfl) ea_nil)) (hF.at1 f5)
  have hz : ¬ (xe = 0 ∧ xn = 0) := by simpa using hc
  refine sv_mdrop (mt_written hR5 wr_long (ev_var rfl) ev_c ev_c) (fun f hf => (k.err ?_).at1 f5) fun x5 r5 h5 v5 H6 f6 hR6 _ => ?_
  · have hf : word "long" r4 = .error f := hf
    simp only [RunBook.legIn, h1, Except.bind, if_neg hm, h2, h3, h4, if_neg hz, hf]
  have h5 : word "long" r4 = .ok (x5, r5) := h5
  have f6 := f5.trans f6
  refine Sv.go (sv_mun2 (P1 := fun n v _ => v = .int ((n : Nat) : Int)) (P2 := fun _ v _ => v = .int (placeOf r5 : Int)) (mt_number (lo := 1) (hi := 999999) hR6 (ev_var rfl) ev_c ev_c) (fun f hf => (k.err ?_).at1 f6) fun lg r6 h6 yl pl2 H7 f7 hR7 hyl hpl2 => ?_)
  · have hf : num 1 RunBook.LONG r5 = .error f := hf
    simp only [RunBook.legIn, h1, Except.bind, if_neg hm, h2, h3, h4, if_neg hz, h5, hf]
  have h6b := num_b h6
  have h6 : num 1 RunBook.LONG r5 = .ok (lg, r6) := h6
  have hyl : yl = _ := hyl
  subst hyl
  have f7 := f6.trans f7
  refine Sv.go (sv_mdrop (mt_written hR7 wr_end (ev_var rfl) ev_c ev_c) (fun f hf => (k.err ?_).at1 f7) fun x7 r7 h7 v7 H8 f8 hR8 _ => ?_)
  · simp only [RunBook.legIn, h1, Except.bind, if_neg hm, h2, h3, h4, if_neg hz, h5, h6, hf, Except.map]
  have f8 := f7.trans f8
  have hok := k.get (x := ⟨n, xe, xn, lg⟩) (r := r7) (by simp only [RunBook.legIn, h1, Except.bind, if_neg hm, h2, h3, h4, if_neg hz, h5, h6, h7, Except.map])
  have hB8 := hB.rdf hR f8
  have hQ8 := hB8.rn t x r hx hr
  obtain ⟨⟨dr8, s1⟩, s2, s3⟩ := id hQ8
  refine sv_appP (P := NewO H8 (He.ga K "Leg") (legF ⟨n, xe, xn, lg⟩)) s2 (ev_run3 T (ev_var rfl) s1) (evp_leg (g := ⟨n, xe, xn, lg⟩) (ea_cons (ev_var rfl) (ea_cons (ev_var rfl) (ea_cons (ev_var rfl) (ea_cons (ev_var rfl) ea_nil))))) (by rw [List.length_map]; omega) fun v1 H9 e9 hv1 => ?_
  obtain ⟨pg, dp, rfl, hp0, hpl3⟩ := hv1
  have hpH := f8.nw _ hp0
  have fd : Fr [x.2.1] H9 (upd H9 x.2.1 (.lst (x.2.2.map V.ref ++ [.ref pg]))) := fr_one (Ex.refl _)
  have hS : ∀ a ∈ [x.2.1], ∀ u, H9 a = some u → NotT u := fun a ha u hu => by
    rw [List.mem_singleton.mp ha, e9 _ _ s2] at hu
    rw [← Option.some.inj hu]
    trivial
  have hpne : pg ≠ x.2.1 := fun e => by
    rw [e, s2] at hp0
    cases hp0
  have hB9 := hB8.mono e9
  refine hok _ ⟨L.d, L.l, L.rs.set t (x.1, x.2.1, x.2.2 ++ [pg])⟩ (((f8.sub fun a ha => .inl (by rw [List.mem_singleton.mp ha]; exact List.mem_cons_self ..)).then e9).upd (.inl (List.mem_cons_of_mem _ (mut_l hx)))) ((hR8.mono e9).fr fd (fun m => hB.rd_not hR (by rw [List.mem_singleton.mp m]; exact mut_l hx)) (fun m => hp (by rw [List.mem_singleton.mp m]; exact mut_l hx)) hS)
    (hB9.legs hx hr fd ?_ ?_ (flat_push hx hB.n2 (hB.new_g hpH))) (fun a ha => ?_) ⟨⟨h3b, h4b, h6b.1, h6b.2, hz⟩, h1b.1, h1b.2, by omega⟩
  · rw [List.map_append]
    exact upd_same
  · rw [List.map_append, List.map_append]
    have hQ9 := hB9.rn t x r hx hr
    refine each_append (each_keep (fun g v hv hg => leg_fr fd (fun a ea => ns fun e => ?_) hg) hQ9.2.2) ⟨pg, dp, rfl, by rw [upd_ne hpne]; exact hpl3⟩
    obtain ⟨z, dz, ez, hz⟩ := hg
    have e4 := V.ref.inj (ez.symm.trans ea)
    rw [e4, e, e9 _ _ s2] at hz
    cases hz
  · rcases mut_set hx ha with h | h
    · exact .inl h
    · rcases List.mem_append.mp h with h | h
      · exact .inl (mut_g hx h)
      · rw [List.mem_singleton.mp h]
        exact .inr hpH
end
end Trav
namespace Trav
open LsText (Token)
open LsRun (Leg)
open LsGeo (Pt)
open RunBook (Got amiss placeOf due num whole word Book knownAt mayReach linesIn)
open TravSpec (setRun)
/-! ## a text read, line by line -/
theorem bind_ok {ε α β : Type} {g : Except ε α} {f : α → Except ε β} {y : β} (h : g.bind f = .ok y) : ∃ x, g = .ok x ∧ f x = .ok y := by
  cases g with
  | error e => cases h
  | ok x => exact ⟨x, rfl, h⟩
theorem map_ok {ε α β : Type} {g : Except ε α} {f : α → β} {y : β} (h : g.map f = .ok y) : ∃ x, g = .ok x ∧ f x = y := by
  cases g with
  | error e => cases h
  | ok x =>
    injection h with h
    exact ⟨x, rfl, h⟩
theorem due_len {tk : LsText.Tok} {l : List Token} {x : Unit × List Token} (h : due tk l = .ok x) : x.2.length < l.length := by
  cases l with
  | nil => cases h
  | cons t r =>
    obtain ⟨_, e⟩ := due_ok (x := x.1) (r := x.2) h
    rw [e, List.length_cons]
    omega
theorem num_len {lo hi : Nat} {l : List Token} {x : Nat × List Token} (h : num lo hi l = .ok x) : x.2.length < l.length := by
  cases l with
  | nil => cases h
  | cons t l =>
    by_cases hk : kindOf t.tok = 2
    · obtain ⟨m, hm⟩ := is_num hk
      rw [hm] at h
      have h : (if lo ≤ m ∧ m ≤ hi then .ok (m, l) else .error (3, t.at_) : Got Nat) = .ok x := h
      split at h
      · injection h with h
        rw [← h, List.length_cons]
        exact Nat.lt_succ_self _
      · cases h
    · rw [num_no hk] at h
      cases h
theorem whole_len {hi : Nat} {l : List Token} {x : Int × List Token} (h : whole hi l = .ok x) : x.2.length < l.length := by
  cases l with
  | nil => cases h
  | cons t l =>
    by_cases hs : t.tok = .sign 45
    · rw [whole_sign hs] at h
      cases l with
      | nil => cases h
      | cons t2 l2 =>
        by_cases hk : kindOf t2.tok = 2
        · obtain ⟨m, hm⟩ := is_num hk
          rw [hm] at h
          have h : (if m ≤ hi then .ok (-(m : Int), l2) else .error (3, t.at_) : Got Int) = .ok x := h
          split at h
          · injection h with h
            rw [← h, List.length_cons, List.length_cons]
            show l2.length < _
            omega
          · cases h
        · obtain ⟨p2, k2⟩ := t2
          cases k2 with
          | num n => exact absurd rfl hk
          | _ => cases h
    · rw [whole_no hs] at h
      obtain ⟨y, hy, rfl⟩ := map_ok h
      exact num_len hy
theorem knownNo_len {B : Book} {l : List Token} {x : Nat × List Token} (h : RunBook.knownNo B l = .ok x) : x.2.length < l.length := by
  obtain ⟨y, hy, h2⟩ := bind_ok h
  split at h2
  · cases h2
  · injection h2 with h2
    rw [← h2]
    exact num_len hy
theorem knownIn_len {a : Nat} {l : List Token} {x : (Nat × Pt) × List Token} (h : RunBook.knownIn a l = .ok x) : x.2.length < l.length := by
  obtain ⟨y1, h1, h⟩ := bind_ok h
  split at h
  · cases h
  obtain ⟨y2, h2, h⟩ := bind_ok h
  obtain ⟨y3, h3, h⟩ := bind_ok h
  obtain ⟨y4, h4, h⟩ := bind_ok h
  obtain ⟨y5, h5, rfl⟩ := map_ok h
  have l1 := num_len h1
  have l2 := due_len h2
  have l3 := num_len h3
  have l4 := num_len h4
  have l5 := due_len h5
  show y5.2.length < _
  omega
theorem runIn_len {B : Book} {l : List Token} {x : RunBook.Run × List Token} (h : RunBook.runIn B l = .ok x) : x.2.length < l.length := by
  obtain ⟨y1, h1, h⟩ := bind_ok h
  obtain ⟨y2, h2, h⟩ := bind_ok h
  obtain ⟨y3, h3, h⟩ := bind_ok h
  obtain ⟨y4, h4, rfl⟩ := map_ok h
  have l1 := knownNo_len h1
  have l2 := due_len h2
  have l3 := knownNo_len h3
  have l4 := due_len h4
  show y4.2.length < _
  omega
theorem legIn_len {B : Book} {r : RunBook.Run} {l : List Token} {x : Leg × List Token} (h : RunBook.legIn B r l = .ok x) : x.2.length < l.length := by
  obtain ⟨y1, h1, h⟩ := bind_ok h
  split at h
  · cases h
  obtain ⟨y2, h2, h⟩ := bind_ok h
  obtain ⟨y3, h3, h⟩ := bind_ok h
  obtain ⟨y4, h4, h⟩ := bind_ok h
  split at h
  · cases h
  obtain ⟨y5, h5, h⟩ := bind_ok h
  obtain ⟨y6, h6, h⟩ := bind_ok h
  obtain ⟨y7, h7, rfl⟩ := map_ok h
  have l1 := num_len h1
  have l2 := due_len h2
  have l3 := whole_len h3
  have l4 := whole_len h4
  have l5 := due_len h5
  have l6 := num_len h6
  have l7 := due_len h7
  show y7.2.length < _
  omega
theorem runG_len {B : Book} {t : Token} {q : List Token} {x : RunBook.Run × List Token} (h : runG B (t :: q) = .ok x) : x.2.length < q.length := by
  unfold runG at h
  simp only at h
  split at h
  · split at h
    · cases h
    · exact runIn_len h
  · cases h
theorem legG_len {B : Book} {r : RunBook.Run} {p0 : Nat} {q : List Token} {x : Leg × List Token} (h : legG B r p0 q = .ok x) : x.2.length < q.length := by
  unfold legG at h
  split at h
  · cases h
  · exact legIn_len h
theorem lines_word {k p : Nat} {b : List UInt8} {B : Book} {q : List Token} : linesIn (k + 1) B (⟨p, .word b⟩ :: q) = if b = LsText.ascii "known" ∧ B.runs = [] then (match RunBook.knownIn (aboveOf B) q with
    | .error f => .error f
    | .ok x => linesIn k { B with known := B.known ++ [x.1] } x.2)
    else if b = LsText.ascii "run" then (if 16 ≤ B.runs.length then .error (7, p) else match RunBook.runIn B q with
    | .error f => .error f
    | .ok x => linesIn k { B with runs := B.runs ++ [x.1] } x.2)
    else if b = LsText.ascii "leg" then (match B.runs.getLast? with
    | none => .error (2, p)
    | some r => if 24 ≤ r.legs.length then .error (7, p) else match RunBook.legIn B r q with
      | .error f => .error f
      | .ok x => linesIn k (RunBook.putLeg B x.1) x.2)
    else .error (2, p) := rfl
theorem lines_known {k p0 : Nat} {B : Book} {q : List Token} (h : B.runs = []) : linesIn (k + 1) B (⟨p0, .word (LsText.ascii "known")⟩ :: q) = match RunBook.knownIn (aboveOf B) q with
    | .error f => .error f
    | .ok x => linesIn k { B with known := B.known ++ [x.1] } x.2 := by
  rw [lines_word, if_pos ⟨rfl, h⟩]
def HdOk (B : Book) (t : Token) : Prop := (B.runs = [] → t.tok ≠ .word (LsText.ascii "known")) ∧ (B.runs ≠ [] → t.tok ≠ .word (LsText.ascii "leg"))
theorem asc_kr : LsText.ascii "known" ≠ LsText.ascii "run" := by decide
theorem asc_kl : LsText.ascii "known" ≠ LsText.ascii "leg" := by decide
theorem asc_rl : LsText.ascii "run" ≠ LsText.ascii "leg" := by decide
theorem lines_run {k : Nat} {B : Book} {t : Token} {q : List Token} (h : HdOk B t) (ho : t.tok ≠ .over) : linesIn (k + 1) B (t :: q) = match runG B (t :: q) with
    | .error f => .error f
    | .ok x => linesIn k { B with runs := B.runs ++ [x.1] } x.2 := by
  obtain ⟨p, tk⟩ := t
  cases tk with
  | over => exact absurd rfl ho
  | num n => rfl
  | text b => rfl
  | sign c => rfl
  | none_ => rfl
  | word b =>
    by_cases hb : b = LsText.ascii "run"
    · subst hb
      have e1 : runG B (⟨p, .word (LsText.ascii "run")⟩ :: q) = if 16 ≤ B.runs.length then .error (7, p) else RunBook.runIn B q := by
        show (if LsText.Tok.word (LsText.ascii "run") = LsText.Tok.word (LsText.ascii "run") then (if 16 ≤ B.runs.length then .error (7, p) else RunBook.runIn B q) else .error (2, p) : Got RunBook.Run) = _
        rw [if_pos rfl]
      rw [e1, lines_word, if_neg (fun e => asc_kr e.1.symm), if_pos rfl]
      show (if 16 ≤ B.runs.length then _ else _) = _
      by_cases h16 : 16 ≤ B.runs.length
      · rw [if_pos h16, if_pos h16]
      · rw [if_neg h16, if_neg h16]
    · have e1 : runG B (⟨p, .word b⟩ :: q) = .error (2, p) := if_neg fun e => hb (by injection e)
      rw [e1, lines_word]
      have n1 : ¬ (b = LsText.ascii "known" ∧ B.runs = []) := fun e => h.1 e.2 (by rw [e.1])
      rw [if_neg n1, if_neg hb]
      by_cases hl : b = LsText.ascii "leg"
      · have hr : B.runs = [] := by
          by_cases hr : B.runs = []
          · exact hr
          · exact absurd (by rw [hl]) (h.2 hr)
        rw [if_pos hl, hr]
        rfl
      · rw [if_neg hl]
theorem set_last {α : Type} {l : List α} {y : α} (h : l ≠ []) : l.set (l.length - 1) y = l.dropLast ++ [y] := by
  obtain ⟨m, z, rfl⟩ : ∃ m z, l = m ++ [z] := ⟨l.dropLast, l.getLast h, (List.dropLast_concat_getLast h).symm⟩
  rw [List.dropLast_concat, List.length_append, List.length_singleton, Nat.add_sub_cancel, List.set_append_right _ _ (Nat.le_refl _), Nat.sub_self]
  rfl
theorem lines_leg {k p0 : Nat} {B : Book} {r : RunBook.Run} {q : List Token} (hr : B.runs[B.runs.length - 1]? = some r) : linesIn (k + 1) B (⟨p0, .word (LsText.ascii "leg")⟩ :: q) = match legG B r p0 q with
    | .error f => .error f
    | .ok x => linesIn k (setRun B (B.runs.length - 1) (r.legs ++ [x.1])) x.2 := by
  have hne : B.runs ≠ [] := fun e => by rw [e] at hr; cases hr
  have hlast : B.runs.getLast? = some r := by rw [List.getLast?_eq_getElem?]; exact hr
  rw [lines_word, if_neg (fun e => asc_kl e.1.symm), if_neg (fun e => asc_rl e.symm), if_pos rfl, hlast]
  show (if 24 ≤ r.legs.length then _ else _) = _
  unfold legG
  by_cases h24 : 24 ≤ r.legs.length
  · rw [if_pos h24, if_pos h24]
  · rw [if_neg h24, if_neg h24]
    cases RunBook.legIn B r q with
    | error f => rfl
    | ok x =>
      show linesIn k (RunBook.putLeg B x.1) x.2 = linesIn k (setRun B (B.runs.length - 1) (r.legs ++ [x.1])) x.2
      have e : RunBook.putLeg B x.1 = setRun B (B.runs.length - 1) (r.legs ++ [x.1]) := by
        unfold RunBook.putLeg
        rw [hlast, setRun_is hr, set_last hne]
      rw [e]
theorem lines_over {k p0 : Nat} {B : Book} {q : List Token} : linesIn (k + 1) B (⟨p0, .over⟩ :: q) = .ok B := rfl
theorem good_empty : Good RunBook.empty := ⟨List.Pairwise.nil, fun _ h => absurd h List.not_mem_nil, Nat.zero_le _, fun _ h => absurd h List.not_mem_nil⟩
theorem good_add {B : Book} {x : Nat × Pt} (hG : Good B) (hr : B.runs = []) (h : 1 ≤ x.1 ∧ x.1 ≤ 99 ∧ SmP x.2 ∧ ∀ y ∈ B.known, y.1 < x.1) : Good { B with known := B.known ++ [x] } := by
  obtain ⟨h1, h2, h3, h4⟩ := h
  refine ⟨?_, fun y hy => ?_, hG.rn, fun r hr2 => ?_⟩
  · show ((B.known ++ [x]).map (·.1)).Pairwise (· < ·)
    rw [List.map_append, List.pairwise_append]
    refine ⟨hG.kn, List.pairwise_singleton _ _, fun a ha b hb => ?_⟩
    obtain ⟨y, hy, rfl⟩ := List.mem_map.mp ha
    have hb : b = x.1 := List.mem_singleton.mp hb
    rw [hb]
    exact h4 y hy
  · rcases List.mem_append.mp hy with hy | hy
    · exact hG.kp y hy
    · rw [List.mem_singleton.mp hy]
      exact ⟨h1, h2, h3⟩
  · have hr2 : r ∈ B.runs := hr2
    rw [hr] at hr2
    exact absurd hr2 List.not_mem_nil
/-- the reader's state between two lines -/
structure RS (K : PySem.W.Frag) (H : Hp) (rd p bb : Addr) (R : Except RunBook.Fault Book) (B : Book) (L : Lay) (l : List Token) (H' : Hp) : Prop where
  ex : Ex H H'
  rd : RdOn K rd p l H'
  bk : BookOn K B L bb H'
  gd : Good B
  pn : p ∉ L.mut
  nw : ∀ a ∈ L.mut, H a = none
  rs : ∃ k, linesIn k B l = R ∧ l.length ≤ k
section
variable {K : PySem.W.Frag} {H H1 H' : Hp} {rd p bb : Addr} {R : Except RunBook.Fault Book} {B : Book} {L : Lay} {l : List Token}
theorem RS.mono (h : RS K H rd p bb R B L l H') (e : Ex H' H1) : RS K H rd p bb R B L l H1 := ⟨h.ex.trans e, h.rd.mono e, h.bk.mono e, h.gd, h.pn, h.nw, h.rs⟩
theorem RS.fault {f : RunBook.Fault} {E : XK} (h : RS K H rd p bb R B L l H') (hrd : H rd = none) (hF : FltE K [] H f E) : FltE K (rd :: L.mut) H' f E := hF.mono (Fr.of h.ex) fun a ha => .inr (by
  rcases List.mem_cons.mp ha with rfl | ha
  · exact hrd
  · exact h.nw a ha)
theorem RS.next (h : RS K H rd p bb R B L l H1) (hrd : H rd = none) (f : Fr (rd :: L.mut) H1 H') : Ex H H' := ((Fr.of (S := []) h.ex).step f fun a ha => .inr (by
  rcases List.mem_cons.mp ha with rfl | ha
  · exact hrd
  · exact h.nw a ha)).ex fun _ h => absurd h List.not_mem_nil
theorem RS.p_there (h : RS K H rd p bb R B L l H1) : H1 p ≠ none := fun e => by
  obtain ⟨_, _, _, _, _, h2, _⟩ := h.rd
  rw [e] at h2
  cases h2
theorem RS.new {L' : Lay} (h : RS K H rd p bb R B L l H1) (hm : ∀ a ∈ L'.mut, a ∈ L.mut ∨ H1 a = none) : p ∉ L'.mut ∧ ∀ a ∈ L'.mut, H a = none := by
  refine ⟨fun m => ?_, fun a ha => ?_⟩
  · rcases hm p m with m | m
    · exact h.pn m
    · exact h.p_there m
  · rcases hm a ha with m | m
    · exact h.nw a m
    · exact fresh_back h.ex m
end
def spRBook (K : PySem.W.Frag) : Sp := fun vs H Q E => ∃ (a : Addr) (bt : List UInt8), vs = [.ref a] ∧ TxtAt K H a bt ∧ (∀ f, RunBook.read bt = .error f → FltE K [] H f E) ∧
  (∀ C, RunBook.read bt = .ok C → Good C → ∀ bb L H', Ex H H' → H bb = none → (∀ a ∈ L.mut, H a = none) → BookOn K C L bb H' → Q (.ref bb) H')
section
variable {P : Program} {w : World} {K : PySem.W.Frag} {mg : Str → Option Value} {base : Heap} {σ : L2.St} {H : Hp} {ta tb tc te : TE} {D : Ends} {tz tu : TS} {x y z u v : V}
theorem s_call {sp : Sp} {vs : List V} {E : XK} {ta : TA} (h : EvA ta σ H vs) (hs : ∀ H1, Ex H H1 → sp vs H1 (fun _ H2 => D.nx σ H2) E) : tDrop (tCall sp [] E ta) D σ H := h H (Ex.refl _) _ fun H1 e1 => by
  show sp (vs ++ []) H1 _ E
  rw [List.append_nil]
  exact hs H1 e1
theorem q_call {sp : Sp} {vs : List V} {E : XK} {ta : TA} (h : EvA ta σ H vs) (hs : ∀ H1, Ex H H1 → sp vs H1 (fun _ H2 => tz D σ H2) E) : tSeq (tDrop (tCall sp [] E ta)) tz D σ H := s_call (D := { D with nx := tz D }) h hs
def NewRd (K : PySem.W.Frag) (H0 : Hp) (l : List Token) : V → Hp → Prop := fun v H => ∃ rd p, v = .ref rd ∧ H0 rd = none ∧ RdOn K rd p l H
theorem evp_mkrd {ta : TE} {E : XK} {l : List Token} (hl : Ended l) (h : EvP ta σ H (ToksOut K l)) : EvP (tMake (He.ga K "Reader") (spRdInit K) [] E (tCons ta tNil)) σ H (NewRd K H l) := fun H1 e Q q =>
  h H1 e _ fun v H2 e2 ⟨p, vs, ev, hp, ht⟩ x dx hx hd hne => by
    subst ev
    refine ⟨x, dx, p, rfl, upd_same, fun H' eA hH' => ⟨rfl, ?_⟩⟩
    have eH := ex_made (Ex.refl H2) hx hd eA
    refine q _ _ (e2.trans eH) ⟨x, p, rfl, fresh_back (e.trans e2) hx, dx, 0, l, vs, hH', eH _ _ hp, stayN_Tokens (ex_n eH) ht, rfl, hl⟩
theorem sc_read_book : FnScope ["text", "reader", "book"] ["text"] (defScope s_read_book) := ⟨rfl, rfl, rfl, by decide +kernel, rfl, by decide +kernel, by decide +kernel⟩
theorem ok_read_book (T : Txt K mg) : Def P w K mg base (L2.CX P w) 7 "read_book" ["text"] (spRBook K) := by
  refine T.def_ 44 31 rfl rfl rfl rfl rfl sc_read_book (fun _ _ _ _ _ _ us hl => match us, hl with | [_], _ => rfl) (fun vs H Q E h => by first | (obtain ⟨_, rfl, _⟩ := h; rfl) | (obtain ⟨_, _, rfl, _⟩ := h; rfl) | (obtain ⟨_, _, _, rfl, _⟩ := h; rfl) | (obtain ⟨_, _, _, _, rfl, _⟩ := h; rfl) | (obtain ⟨_, _, _, _, _, rfl, _⟩ := h; rfl) | (obtain ⟨_, _, _, _, _, _, rfl, _⟩ := h; rfl) | (obtain ⟨_, _, _, _, _, _, _, rfl, _⟩ := h; rfl) | (obtain ⟨_, _, _, _, _, _, _, _, rfl, _⟩ := h; rfl) | (obtain ⟨_, _, _, _, _, _, _, _, _, rfl, _⟩ := h; rfl) | (obtain ⟨_, _, _, _, _, _, _, _, _, _, rfl, _⟩ := h; rfl) | (obtain ⟨_, _, _, _, _, _, _, _, _, _, _, rfl, _⟩ := h; rfl) | (obtain ⟨_, _, _, _, _, _, _, _, _, _, _, _, rfl, _⟩ := h; rfl) | (obtain ⟨_, _, _, _, _, _, _, _, _, _, _, _, _, rfl, _⟩ := h; rfl) | (obtain ⟨_, _, _, _, _, _, _, _, _, _, _, _, _, _, rfl, _⟩ := h; rfl) | (obtain ⟨_, _, _, _, _, _, _, _, _, _, _, _, _, _, _, rfl, _⟩ := h; rfl) | (obtain ⟨_, _, _, _, _, _, _, _, _, _, _, _, _, _, _, _, rfl, _⟩ := h; rfl) | (obtain ⟨_, _, _, _, _, _, _, _, _, _, _, _, _, _, _, _, _, rfl, _⟩ := h; rfl) | (obtain ⟨_, _, _, _, _, _, _, _, _, _, _, _, _, _, _, _, _, _, rfl, _⟩ := h; rfl) | (obtain ⟨_, _, _, _, _, _, _, _, _, _, _, _, _, _, _, _, _, _, _, rfl, _⟩ := h; rfl)) (fun f cdv A outer s H vs Q E hr h => ⟨_, (pss_cons (ps_set (i := 1) sc_read_book.nd rfl (Or.inl rfl) (pe_mk (ok_Reader_init T) (T.mkr 185 rfl) (T.glo 98 rfl) hr pass0 (pa_cons (pe_cd (ok_tokens_of T) hr pass0 (pa_cons (pv 0) pa_nil)) pa_nil))) (pss_cons (ps_set (i := 2) sc_read_book.nd rfl (Or.inl rfl) (pe_mk0 (ok_Book_init T) (T.mkr 181 rfl) (T.glo 96 rfl) hr pass0)) (pss_cons (ps_while (passes_of rfl) (pt_val (pe_md (ok_Reader_is_next T) (pv 1) (T.cls 184 rfl) (T.meth 189 rfl) hr pass0 (pa_cons (pe_gi (T.int 113 rfl)) (pa_cons pe_str pa_nil)))) (pss_one (ps_expr (pe_cd (ok_read_known T) hr (passes_call (takes_of rfl rfl rfl rfl) fun _ _ _ _ h => h) (pa_cons (pv 1) (pa_cons (pv 2) pa_nil)))))) (pss_cons (ps_while (passes_of rfl) (pt_not (pt_val (pe_md0 (ok_Reader_is_done T) (pv 1) (T.cls 184 rfl) (T.meth 188 rfl) hr pass0))) (pss_cons (ps_expr (pe_cd (ok_read_run T) hr (passes_call (takes_of rfl rfl rfl rfl) fun _ _ _ _ h => h) (pa_cons (pv 1) (pa_cons (pv 2) pa_nil)))) (pss_one (ps_while (passes_of rfl) (pt_val (pe_md (ok_Reader_is_next T) (pv 1) (T.cls 184 rfl) (T.meth 189 rfl) hr pass0 (pa_cons (pe_gi (T.int 113 rfl)) (pa_cons pe_str pa_nil)))) (pss_one (ps_expr (pe_cd (ok_read_leg T) hr (passes_call (takes_of rfl rfl rfl rfl) fun _ _ _ _ h => h) (pa_cons (pv 1) (pa_cons (pv 2) (pa_cons (pe_ix ix_list (pe_fld (pv 2) rfl) (pe_un un_neg pe_int) (fun _ _ => rfl)) pa_nil)))))))))) (pss_one (ps_ret (pv 2))))))), ?_⟩)
  obtain ⟨a, bt, rfl, hT, kE, kO⟩ := h
  obtain ⟨hend, hlen⟩ := toks_ok (bt.length + 1) 0 bt
  refine Sv.go (sv_setP (evp_mkrd (K := K) (l := LsText.tokens bt) hend (evp_call (ea_cons (ev_var rfl) ea_nil) fun H1 e Q k => ⟨a, bt, rfl, hT.mono e, k⟩)) fun v1 H1 e1 hv1 => ?_)
  obtain ⟨rd, p, rfl, hrd, hR⟩ := hv1
  refine sv_setP (evp_mkbook (K := K)) fun v2 H2 e2 hv2 => ?_
  obtain ⟨bb, d, ls, rfl, hb0, hd0, hl0, hB⟩ := hv2
  obtain ⟨_, _, _, _, _, hpp, _⟩ := id hR
  have hS0 : RS K H rd p bb (RunBook.read bt) RunBook.empty ⟨d, ls, []⟩ (LsText.tokens bt) H2 := by
    refine ⟨e1.trans e2, hR.mono e2, hB, good_empty, fun m => ?_, fun a ha => ?_, ⟨bt.length + 1, rfl, hlen⟩⟩
    · rcases lay_mem.mp m with e | e | ⟨y, hy, _⟩ | ⟨y, hy, _⟩
      · rw [e] at hpp
        rw [hpp] at hd0
        cases hd0
      · rw [e] at hpp
        rw [hpp] at hl0
        cases hl0
      · exact absurd hy List.not_mem_nil
      · exact absurd hy List.not_mem_nil
    · rcases lay_mem.mp ha with rfl | rfl | ⟨y, hy, _⟩ | ⟨y, hy, _⟩
      · exact fresh_back e1 hd0
      · exact fresh_back e1 hl0
      · exact absurd hy List.not_mem_nil
      · exact absurd hy List.not_mem_nil
  have hbb : H bb = none := fresh_back e1 hb0
  intro H3 e3
  refine q_while (fun m σ' H' => ∃ B L l, σ' = [some (.ref a), some (.ref rd), some (.ref bb)] ∧ RS K H rd p bb (RunBook.read bt) B L l H' ∧ B.runs = [] ∧ m = l.length) _ ⟨_, _, _, rfl, hS0.mono e3, rfl, rfl⟩ ?_
  rintro m σ' H4 ⟨B, L, l, rfl, hS, hBr, rfl⟩
  obtain ⟨t, q, rfl⟩ := hS.rd.ended.cons
  refine ⟨decide (t.tok = .word (LsText.ascii "known")), et_test (ev_methV hS.rd (ev_var rfl) (fun _ => rfl) (ea_cons ev_c (ea_cons ev_c ea_nil)) fun H1 e Q k => ⟨rd, p, t, q, .word (LsText.ascii "known"), "known", rfl, hS.rd.mono e, wr_known, k⟩), fun hc H5 e5 => ?_, fun hc H5 e5 => ?_⟩
  · have ht := of_decide_eq_true hc
    obtain ⟨tp, tk⟩ := t
    have ht : tk = .word (LsText.ascii "known") := ht
    subst ht
    refine ⟨_, fun _ _ h => h, s_call (ea_cons (ev_var rfl) (ea_cons (ev_var rfl) ea_nil)) fun H6 e6 => ?_⟩
    have hS6 := hS.mono (e5.trans e6)
    obtain ⟨k, hk, hlk⟩ := hS.rs
    rw [List.length_cons] at hlk
    obtain ⟨k, rfl⟩ : ∃ k', k = k' + 1 := ⟨k - 1, by omega⟩
    rw [lines_known hBr] at hk
    refine ⟨rd, p, bb, B, L, tp, q, rfl, hS6.rd, hS6.bk, hS.gd, hS.pn, ?_⟩
    cases hg : RunBook.knownIn (aboveOf B) q with
    | error f =>
      rw [hg] at hk
      exact hS6.fault hrd (kE f hk.symm)
    | ok x =>
      rw [hg] at hk
      have hxl := knownIn_len hg
      intro H7 f7 hR7 hB7 hx
      exact ⟨_, by rw [List.length_cons]; exact Nat.lt_succ_of_lt hxl, _, L, x.2, rfl, ⟨hS6.next hrd f7, hR7, hB7, good_add hS.gd hBr hx, hS.pn, hS.nw, ⟨k, hk, by omega⟩⟩, hBr, rfl⟩
  · have ht := of_decide_eq_false hc
    refine q_while (fun m σ' H' => ∃ B L t q, σ' = [some (.ref a), some (.ref rd), some (.ref bb)] ∧ RS K H rd p bb (RunBook.read bt) B L (t :: q) H' ∧ HdOk B t ∧ m = q.length) q.length ⟨_, _, _, _, rfl, hS.mono e5, ⟨fun _ => ht, fun h => absurd hBr h⟩, rfl⟩ ?_
    rintro m σ' H6 ⟨B, L, t, q, rfl, hS, hHd, rfl⟩
    refine ⟨!decide (t.tok = .over), et_not (et_test (ev_methV hS.rd (ev_var rfl) (fun _ => rfl) ea_nil fun H1 e Q k => ⟨rd, p, t, q, rfl, hS.rd.mono e, k⟩)), fun hc H7 e7 => ?_, fun hc H7 e7 => ?_⟩
    · have ho : t.tok ≠ .over := by simpa using hc
      refine ⟨_, fun _ _ h => h, q_call (ea_cons (ev_var rfl) (ea_cons (ev_var rfl) ea_nil)) fun H8 e8 => ?_⟩
      have hS8 := hS.mono (e7.trans e8)
      obtain ⟨k, hk, hlk⟩ := hS.rs
      rw [List.length_cons] at hlk
      obtain ⟨k, rfl⟩ : ∃ k', k = k' + 1 := ⟨k - 1, by omega⟩
      rw [lines_run hHd ho] at hk
      refine ⟨rd, p, bb, B, L, t :: q, rfl, hS8.rd, hS8.bk, hS.gd, hS.pn, ?_⟩
      cases hg : runG B (t :: q) with
      | error f =>
        rw [hg] at hk
        exact hS8.fault hrd (kE f hk.symm)
      | ok x =>
        rw [hg] at hk
        have hxl := runG_len hg
        obtain ⟨x, xl⟩ := x
        intro H9 L' f9 hR9 hB9 hm9 hx
        obtain ⟨hk1, hk2, hx0, hn16⟩ := hx
        have hgood : Good { B with runs := B.runs ++ [x] } := by
          obtain ⟨xa, xb, xg⟩ := x
          have hx0 : xg = [] := hx0
          subst hx0
          exact good_run hS.gd hk1 hk2 hn16
        obtain ⟨hp9, hn9⟩ := hS8.new hm9
        have hS9 : RS K H rd p bb (RunBook.read bt) { B with runs := B.runs ++ [x] } L' xl H9 := ⟨hS8.next hrd f9, hR9, hB9, hgood, hp9, hn9, ⟨k, hk, by have : xl.length < q.length := hxl; omega⟩⟩
        have hxl : xl.length < q.length := hxl
        refine s_while (fun m σ' H' => ∃ B L l, σ' = [some (.ref a), some (.ref rd), some (.ref bb)] ∧ RS K H rd p bb (RunBook.read bt) B L l H' ∧ B.runs ≠ [] ∧ l.length ≤ xl.length ∧ m = l.length) xl.length ⟨_, L', xl, rfl, hS9, fun e => by
          have e : B.runs ++ [x] = [] := e
          exact absurd e (by simp), Nat.le_refl _, rfl⟩ ?_
        rintro m σ' H10 ⟨B, L, l, rfl, hS, hBr, hll, rfl⟩
        obtain ⟨t2, q2, rfl⟩ := hS.rd.ended.cons
        refine ⟨decide (t2.tok = .word (LsText.ascii "leg")), et_test (ev_methV hS.rd (ev_var rfl) (fun _ => rfl) (ea_cons ev_c (ea_cons ev_c ea_nil)) fun H1 e Q k => ⟨rd, p, t2, q2, .word (LsText.ascii "leg"), "leg", rfl, hS.rd.mono e, wr_leg, k⟩), fun hc H11 e11 => ?_, fun hc H11 e11 => ?_⟩
        · have ht2 := of_decide_eq_true hc
          obtain ⟨tp, tk⟩ := t2
          have ht2 : tk = .word (LsText.ascii "leg") := ht2
          subst ht2
          have hpos : 0 < B.runs.length := List.length_pos_iff.mpr hBr
          obtain ⟨r, hr⟩ : ∃ r, B.runs[B.runs.length - 1]? = some r := ⟨_, List.getElem?_eq_getElem (by omega)⟩
          obtain ⟨xx, hxx, _⟩ := hS.bk.lay hr
          have hln := hS.bk.ln
          obtain ⟨db, w1⟩ := hS.bk.bk
          refine ⟨_, fun _ _ h => h, s_call (vs := [.ref rd, .ref bb, .ref xx.1]) (ea_cons (ev_var rfl) (ea_cons (ev_var rfl) (ea_cons (ev_ix (i := -1) (ev_book2 T (ev_var rfl) (e11 _ _ w1)) (ev_neg ev_c) (sq_of (e11 _ _ hS.bk.ls)) ?_) ea_nil))) fun H12 e12 => ?_⟩
          · unfold atI ixN
            rw [List.length_map, if_neg (by omega), if_pos (by omega)]
            have e : ((-1 : Int) + (L.rs.length : Int)).toNat = B.runs.length - 1 := by omega
            rw [e]
            show (L.rs.map fun x => V.ref x.1)[B.runs.length - 1]? = _
            rw [List.getElem?_map, hxx]
            rfl
          have hS12 := hS.mono (e11.trans e12)
          obtain ⟨k, hk, hlk⟩ := hS.rs
          rw [List.length_cons] at hlk hll
          obtain ⟨k, rfl⟩ : ∃ k', k = k' + 1 := ⟨k - 1, by omega⟩
          rw [lines_leg hr] at hk
          refine ⟨rd, p, bb, B, L, B.runs.length - 1, r, xx, tp, q2, rfl, hS12.rd, hS12.bk, hS.gd, hS.pn, hxx, hr, ?_⟩
          cases hg : legG B r tp q2 with
          | error f =>
            rw [hg] at hk
            exact hS12.fault hrd (kE f hk.symm)
          | ok y =>
            rw [hg] at hk
            have hyl := legG_len hg
            obtain ⟨y, yl⟩ := y
            have hyl : yl.length < q2.length := hyl
            intro H13 L2 f13 hR13 hB13 hm13 hy
            obtain ⟨hy1, hy2, hy3, hy4⟩ := hy
            have hsr := hS.gd.rs r (List.mem_of_getElem? hr)
            have hgood : Good (setRun B (B.runs.length - 1) (r.legs ++ [y])) := good_set hS.gd hr (by rw [List.length_append, List.length_singleton]; omega) fun g hg => by
              rcases List.mem_append.mp hg with hg | hg
              · exact ⟨hsr.1.l g hg, hsr.2.2.2 g hg⟩
              · rw [List.mem_singleton.mp hg]
                exact ⟨hy1, hy2, hy3⟩
            obtain ⟨hp13, hn13⟩ := hS12.new hm13
            refine ⟨yl.length, by rw [List.length_cons]; omega, _, L2, yl, rfl, ⟨hS12.next hrd f13, hR13, hB13, hgood, hp13, hn13, ⟨k, hk, by omega⟩⟩, ?_, by omega, rfl⟩
            rw [setRun_is hr]
            intro e
            have e := congrArg List.length e
            have e : (B.runs.set (B.runs.length - 1) _).length = 0 := e
            rw [List.length_set] at e
            omega
        · have ht2 := of_decide_eq_false hc
          rw [List.length_cons] at hll
          exact ⟨q2.length, by omega, B, L, t2, q2, rfl, hS.mono e11, ⟨fun h => absurd h hBr, fun _ => ht2⟩, rfl⟩
    · have ho : t.tok = .over := by simpa using hc
      obtain ⟨k, hk, hlk⟩ := hS.rs
      rw [List.length_cons] at hlk
      obtain ⟨k, rfl⟩ : ∃ k', k = k' + 1 := ⟨k - 1, by omega⟩
      obtain ⟨tp, tk⟩ := t
      have ho : tk = .over := ho
      subst ho
      rw [lines_over] at hk
      exact Sv.go (sv_ret (ev_var rfl) fun H8 e8 => kO B hk.symm hS.gd bb L H8 ((hS.ex.trans e7).trans e8) hbb hS.nw (hS.bk.mono (e7.trans e8)))
end
end Trav
namespace Trav
open LsText (Token)
open LsRun (Leg)
open LsGeo (Pt)
open RunBook (Got Book)
open TravSpec (setRun step)
section
variable {X : Cx} {CX : CXT} {k j : Nat} {ps : List Str} {sp : Sp} {E : L2.St → XK} {x : Str} {p pos : Pos} {e : Expr} {es : List Expr} {t : TA}
theorem pe_cds (D : Def X.prog X.w X.K X.mg X.base CX k x ps sp) (hr : Room j X.A) (hx : ∀ σ, PassesAt CX X σ (E σ)) (ha : PA X (e :: es) t) (hk : k ≤ j := by decide) (hg : Gl X x := by rfl)
    (hdb : (x == ("__debug__" : Str)) = false := by decide) (he : starEach (e :: es) X.env = (false, eval e X.env) :: starEach es X.env := by rfl) (hpl : (backTo pos (starEach es X.env)).any (·.1) = false := by rfl) :
    PE X (.Call (.Name x p) (e :: es) [] pos) (tCallS sp E t) := by
  obtain ⟨fd, F, B⟩ := D.ex
  exact pe_callS F (hr.mono hk) hg D.gl D.kp B hx ha hdb he hpl
end
def spTBook (K : PySem.W.Frag) : Sp := fun vs H Q _ => ∃ (o nn : Addr) (B : Book) (L : Lay) (bt : List UInt8), vs = [.ref o, .ref nn] ∧ OffOn K B L o H ∧ Good B ∧ TxtAt K H nn bt ∧ (∀ v H', Done K o L H (step B (.book bt)) v H' → Q v H')
section
variable {P : Program} {w : World} {K : PySem.W.Frag} {mg : Str → Option Value} {base : Heap} {σ : L2.St} {H : Hp} {ta tb tc te : TE} {D : Ends} {tz tu : TS} {x y z u v : V}
theorem ev_ofF {a d : Addr} {vk vp v : V} {f : Str} (h : Ev te σ H (.ref a)) (hd : H d = some (.xd (fltF vk vp))) (hl : (fltF vk vp).lookup f = some v) : Ev (tOfF K f a (.ref (He.ga K "Fault")) (some d) te) σ H v := fun H1 e Q q => h H1 e _ fun H2 e2 => ⟨rfl, rfl, d, vk, vp, v, rfl, e2 _ _ (e _ _ hd), hl, q H2 e2⟩
theorem sc_take_book : FnScope ["office", "text", "book", "fault"] ["office", "text"] (defScope s_take_book) := ⟨rfl, rfl, rfl, by decide +kernel, rfl, by decide +kernel, by decide +kernel⟩
theorem ok_take_book (T : Txt K mg) : Def P w K mg base CX0 8 "take_book" ["office", "text"] (spTBook K) := by
  refine T.def_ 102 88 rfl rfl rfl rfl rfl sc_take_book (fun _ _ _ _ _ _ us hl => match us, hl with | [_, _], _ => rfl) (fun vs H Q E h => by first | (obtain ⟨_, rfl, _⟩ := h; rfl) | (obtain ⟨_, _, rfl, _⟩ := h; rfl) | (obtain ⟨_, _, _, rfl, _⟩ := h; rfl) | (obtain ⟨_, _, _, _, rfl, _⟩ := h; rfl) | (obtain ⟨_, _, _, _, _, rfl, _⟩ := h; rfl) | (obtain ⟨_, _, _, _, _, _, rfl, _⟩ := h; rfl) | (obtain ⟨_, _, _, _, _, _, _, rfl, _⟩ := h; rfl) | (obtain ⟨_, _, _, _, _, _, _, _, rfl, _⟩ := h; rfl) | (obtain ⟨_, _, _, _, _, _, _, _, _, rfl, _⟩ := h; rfl) | (obtain ⟨_, _, _, _, _, _, _, _, _, _, rfl, _⟩ := h; rfl) | (obtain ⟨_, _, _, _, _, _, _, _, _, _, _, rfl, _⟩ := h; rfl) | (obtain ⟨_, _, _, _, _, _, _, _, _, _, _, _, rfl, _⟩ := h; rfl) | (obtain ⟨_, _, _, _, _, _, _, _, _, _, _, _, _, rfl, _⟩ := h; rfl) | (obtain ⟨_, _, _, _, _, _, _, _, _, _, _, _, _, _, rfl, _⟩ := h; rfl) | (obtain ⟨_, _, _, _, _, _, _, _, _, _, _, _, _, _, _, rfl, _⟩ := h; rfl) | (obtain ⟨_, _, _, _, _, _, _, _, _, _, _, _, _, _, _, _, rfl, _⟩ := h; rfl) | (obtain ⟨_, _, _, _, _, _, _, _, _, _, _, _, _, _, _, _, _, rfl, _⟩ := h; rfl) | (obtain ⟨_, _, _, _, _, _, _, _, _, _, _, _, _, _, _, _, _, _, rfl, _⟩ := h; rfl) | (obtain ⟨_, _, _, _, _, _, _, _, _, _, _, _, _, _, _, _, _, _, _, rfl, _⟩ := h; rfl)) (fun f cdv A outer s H vs Q E hr h => ⟨_, PSs.nox (pss_cons (ps_if (pt_cmpR op_gt (pe_callB call_len (by rfl) (T.free 160 rfl) (by decide +kernel) (pa_cons (pv 1) pa_nil)) (pe_gi (T.int 146 rfl)) (nomark _)) (pss_one (ps_ret (pe_lst (pa_cons (pe_gi (T.int 149 rfl)) pa_nil)))) pss_nil) (pss_cons (ps_try_as (i := 3) (tb := fun W => tAsg (tCallS (spRBook K) (WE W) (tCons (tVar 1) tNil)) (gName 2)) (ts := fun a cls d => tRet (tLst (tCons (tC (.int (-6))) (tCons (tOfF K "kind" a cls d (tVar 3)) (tCons (tOfF K "place" a cls d (tVar 3)) tNil))))) (Wout := fun _ _ _ _ => False) rfl rfl sc_take_book.nd rfl rfl ⟨rfl, by decide, Or.inl (T.glo 97 rfl)⟩ takes0 (fun W pn xe tk _ => by exact (pss_one (ps_set (i := 2) sc_take_book.nd rfl (Or.inl rfl) (pe_cds (ok_read_book T) hr (fun σ => passAt tk σ) (pa_cons (pv 1) pa_nil))))) (fun a oe cls d pn hz hf => by exact (pss_one (ps_ret (pe_lst (pa_cons (pe_gi (T.int 152 rfl)) (pa_cons (pe_ofF T T.flt.nk hz hf (pv 3)) (pa_cons (pe_ofF T T.flt.np hz hf (pv 3)) pa_nil)))))))) (pss_cons (ps_fld (pv 0) (pv 2) rfl) (pss_one (ps_ret (pe_lst (pa_cons (pe_callB call_len (by rfl) (T.free 160 rfl) (by decide +kernel) (pa_cons (pe_fld (pv 2) rfl) pa_nil)) pa_nil))))))), ?_⟩)
  obtain ⟨o, nn, B, L, bt, rfl, hO, hG, hT, k⟩ := h
  have es : step B (.book bt) = if 16384 < bt.length then (B, LsAns.says (-2)) else match RunBook.read bt with
    | .error f => (B, LsAns.tells (-6) (LsAns.ints [f.1, f.2]))
    | .ok C => (C, LsAns.says (C.runs.length : Int)) := rfl
  rw [es] at k
  refine Sv.go (sv_when (b := decide ((bt.length : Int) > 16384)) (et_test (ev_op (ev_txlen hT (ev_var rfl)) ev_c rv_I0)) (fun hc => ?_) fun hc => ?_)
  · have hc := of_decide_eq_true hc
    rw [if_pos (by omega)] at k
    exact sv_no ev_c (Ex.refl _) rfl (done_same hO hG k)
  have hc := of_decide_eq_false hc
  rw [if_neg (by omega)] at k
  intro H1 e1
  refine ⟨.ref nn, rfl, nn, bt, rfl, hT.mono e1, fun f hf => ?_, fun C hC hgood bb L2 H2 e2 hb0 hm hB => ?_⟩
  · rw [hf] at k
    intro H2 d f2 hd
    refine ⟨true, T.flt.te, fun _ a ha => ?_, fun h => Bool.noConfusion h⟩
    have eH : Ex H (upd H2 d (.xd (fltF (.int (f.1 : Int)) (.int (f.2 : Int))))) := (e1.trans (f2.ex fun _ h => absurd h List.not_mem_nil)).trans (Ex.new hd)
    exact Sv.go (sv_retI (l := [-6, (f.1 : Int), (f.2 : Int)]) (ea_cons ev_c (ea_cons (ev_ofF (ev_var rfl) upd_same rfl) (ea_cons (ev_ofF (ev_var rfl) upd_same rfl) ea_nil))) (by show 3 ≤ 100000; decide) eH (done_same hO hG k))
  · rw [hC] at k
    obtain ⟨dx, b, h1, hB0⟩ := id hO
    have eH := e1.trans e2
    have h1' := eH _ _ h1
    have h10 := e1 _ _ h1
    refine q_fld h1' (T.cls 196 rfl) (T.noat 198 rfl) (by show 1 < 1000; decide) (ev_var rfl) (ev_var rfl) fun H3 e3 => ?_
    have f1 : Fr [o] H2 (upd H3 o (.ins (He.ga K "Office") dx [("book", .ref bb)])) := fr_one e3
    have nb : bb ≠ o := fun e => by
      rw [e, h10] at hb0
      cases hb0
    have hB2 : BookOn K C L2 bb (upd H3 o (.ins (He.ga K "Office") dx [("book", .ref bb)])) := by
      refine hB.fr f1 (ns nb) (fun a ha => ns fun e => ?_) (fun y hy => ns fun e => ?_) fun a ha u hu => ?_
      · have h := hm a ha
        rw [e, h10] at h
        cases h
      · obtain ⟨i, hi⟩ := List.getElem?_of_mem hy
        obtain ⟨r, _, ⟨dr, q1⟩, _⟩ := hB.run hi
        rw [e, h1'] at q1
        injection q1 with q1
        injection q1 with _ _ e3
        have e4 := congrArg List.length e3
        have e4 : 1 = 3 := e4
        cases e4
      · rw [List.mem_singleton.mp ha, h1'] at hu
        rw [← Option.some.inj hu]
        trivial
    obtain ⟨db, w1⟩ := hB2.bk
    have fH : Fr (o :: L.mut) H (upd H3 o (.ins (He.ga K "Office") dx [("book", .ref bb)])) := (Fr.of (eH.trans e3)).upd (.inl (List.mem_cons_self ..))
    refine Sv.go (sv_retF (l := [(C.runs.length : Int)]) (ea_cons (ev_is (ev_len1 (ev_book2 T (ev_var rfl) w1) (sq_of hB2.ls)) ?_) ea_nil) (by show 1 ≤ 100000; decide) fH fun v H4 e4 h4 => k v H4 ⟨L2, ⟨dx, bb, e4 _ _ upd_same, hB2.mono e4⟩, h4, fH.then e4, fun a ha => .inr (fresh_back e1 (hm a ha)), hgood⟩)
    rw [List.length_map, hB2.ln]
end
end Trav
namespace Trav
open RunBook (Book)
open TravSpec (Call asks step)
open TravNeutral (callOf asked1 natural nat)
/-! ## the desk -/
section
variable {X : Cx}
/-- a call of a slot's def -/
def tCallH (P : Program) (w : World) (K : PySem.W.Frag) (mg : Str → Option Value) (base : Heap) (i j : Nat) (t : TA) : TE := fun σ H Q => ∃ f sp, σ[i]? = some (some (.ref f)) ∧ Held P w K mg base j f sp ∧ t σ H fun vs H1 => sp vs H1 Q (fun _ _ _ => False)
theorem pe_callH {i j : Nat} {x : Str} {p pos : Pos} {e : Expr} {es : List Expr} {t : TA} (hr : Room j X.A) (hN : X.N[i]? = some x) (hv : Vis X.env.scope x) (ha : PA X (e :: es) t)
    (hdb : (x == ("__debug__" : Str)) = false := by decide) (hcd : (x == ("__classdict__" : Str)) = false := by decide)
    (he : starEach (e :: es) X.env = (false, eval e X.env) :: starEach es X.env := by rfl) (hpl : (backTo pos (starEach es X.env)).any (·.1) = false := by rfl) : PE X (.Call (.Name x p) (e :: es) [] pos) (tCallH X.prog X.w X.K X.mg X.base i j t) := by
  refine ⟨fun pins s σ H Q I h => ?_⟩
  obtain ⟨f, sp, hs, hH, ht⟩ := h
  obtain ⟨fd, ps, F, hk, hb⟩ := hH.ex
  have e0 : (fun (vs : List V) (H1 : Hp) => sp (vs ++ []) H1 Q (fun _ _ _ => False)) = fun vs H1 => sp vs H1 Q (fun _ _ _ => False) := by
    funext vs H1
    rw [List.append_nil]
  refine (pe_callL (i := i) (f := f) (sp := sp) (dvs := []) (E := fun _ _ _ => False) F hr hN hv hk hb .nil (fun _ _ _ _ _ _ _ z => z.elim) ha hdb hcd he hpl).run pins s σ H Q I ⟨hs, ?_⟩
  show t σ H (fun vs H1 => sp (vs ++ []) H1 Q (fun _ _ _ => False))
  rw [e0]
  exact ht
end
/-! ### the calls' form -/
def shapes : List (Int × Nat) := [(1, 3), (2, 2), (3, 5), (4, 1), (5, 1), (6, 2), (7, 2), (8, 1), (9, 1), (10, 1), (11, 2), (12, 2), (13, 4), (14, 4), (15, 3), (16, 1), (17, 1), (19, 0), (20, 0)]
theorem shape_cases {p : Int} {n k : Nat} (h : PyWrmptr.shape p = some (n, k)) : (p = 18 ∧ n = 0 ∧ k = 1) ∨ (p ≠ 18 ∧ k = 0 ∧ (p, n) ∈ shapes) := by
  unfold PyWrmptr.shape at h
  by_cases h1 : p = 1
  · rw [if_pos h1] at h
    subst h1
    cases h
    exact .inr ⟨by decide, rfl, by decide⟩
  rw [if_neg h1] at h
  by_cases h2 : p = 2
  · rw [if_pos h2] at h
    subst h2
    cases h
    exact .inr ⟨by decide, rfl, by decide⟩
  rw [if_neg h2] at h
  by_cases h3 : p = 3
  · rw [if_pos h3] at h
    subst h3
    cases h
    exact .inr ⟨by decide, rfl, by decide⟩
  rw [if_neg h3] at h
  by_cases h4 : p = 4
  · rw [if_pos h4] at h
    subst h4
    cases h
    exact .inr ⟨by decide, rfl, by decide⟩
  rw [if_neg h4] at h
  by_cases h5 : p = 5
  · rw [if_pos h5] at h
    subst h5
    cases h
    exact .inr ⟨by decide, rfl, by decide⟩
  rw [if_neg h5] at h
  by_cases h6 : p = 6
  · rw [if_pos h6] at h
    subst h6
    cases h
    exact .inr ⟨by decide, rfl, by decide⟩
  rw [if_neg h6] at h
  by_cases h7 : p = 7
  · rw [if_pos h7] at h
    subst h7
    cases h
    exact .inr ⟨by decide, rfl, by decide⟩
  rw [if_neg h7] at h
  by_cases h8 : p = 8
  · rw [if_pos h8] at h
    subst h8
    cases h
    exact .inr ⟨by decide, rfl, by decide⟩
  rw [if_neg h8] at h
  by_cases h9 : p = 9
  · rw [if_pos h9] at h
    subst h9
    cases h
    exact .inr ⟨by decide, rfl, by decide⟩
  rw [if_neg h9] at h
  by_cases h10 : p = 10
  · rw [if_pos h10] at h
    subst h10
    cases h
    exact .inr ⟨by decide, rfl, by decide⟩
  rw [if_neg h10] at h
  by_cases h11 : p = 11
  · rw [if_pos h11] at h
    subst h11
    cases h
    exact .inr ⟨by decide, rfl, by decide⟩
  rw [if_neg h11] at h
  by_cases h12 : p = 12
  · rw [if_pos h12] at h
    subst h12
    cases h
    exact .inr ⟨by decide, rfl, by decide⟩
  rw [if_neg h12] at h
  by_cases h13 : p = 13
  · rw [if_pos h13] at h
    subst h13
    cases h
    exact .inr ⟨by decide, rfl, by decide⟩
  rw [if_neg h13] at h
  by_cases h14 : p = 14
  · rw [if_pos h14] at h
    subst h14
    cases h
    exact .inr ⟨by decide, rfl, by decide⟩
  rw [if_neg h14] at h
  by_cases h15 : p = 15
  · rw [if_pos h15] at h
    subst h15
    cases h
    exact .inr ⟨by decide, rfl, by decide⟩
  rw [if_neg h15] at h
  by_cases h16 : p = 16
  · rw [if_pos h16] at h
    subst h16
    cases h
    exact .inr ⟨by decide, rfl, by decide⟩
  rw [if_neg h16] at h
  by_cases h17 : p = 17
  · rw [if_pos h17] at h
    subst h17
    cases h
    exact .inr ⟨by decide, rfl, by decide⟩
  rw [if_neg h17] at h
  by_cases h18 : p = 18
  · rw [if_pos h18] at h
    subst h18
    cases h
    exact .inl ⟨rfl, rfl, rfl⟩
  rw [if_neg h18] at h
  by_cases h19 : p = 19
  · rw [if_pos h19] at h
    subst h19
    cases h
    exact .inr ⟨by decide, rfl, by decide⟩
  rw [if_neg h19] at h
  by_cases h20 : p = 20
  · rw [if_pos h20] at h
    subst h20
    cases h
    exact .inr ⟨by decide, rfl, by decide⟩
  rw [if_neg h20] at h
  cases h
def CallAt (cs : List Int) (i j : Nat) (c : List (List Int)) : Prop := j ≤ cs.length ∧ ((cs[i]? = some 18 ∧ ∃ m : Nat, cs[i + 1]? = some (m : Int) ∧ j = i + 2 + m ∧ c = [[18], (cs.drop (i + 2)).take m]) ∨
  ∃ (k : Int) (n : Nat), cs[i]? = some k ∧ k ≠ 18 ∧ (k, n) ∈ shapes ∧ j = i + 1 + n ∧ c = [k :: (cs.drop (i + 1)).take n])
theorem call_at {cs : List Int} {i : Nat} {c : List (List Int)} {t : List Int} (h : PyFlat.call PyWrmptr.shape (cs.drop i) = some (c, t)) : ∃ j, i < j ∧ t = cs.drop j ∧ CallAt cs i j c := by
  cases hd : cs.drop i with
  | nil =>
    rw [hd] at h
    cases h
  | cons p r =>
    rw [hd] at h
    have hp : cs[i]? = some p := by
      rw [← List.head?_drop, hd]
      rfl
    have hr : cs.drop (i + 1) = r := by rw [← List.tail_drop, hd]; rfl
    have hlen := congrArg List.length hd
    rw [List.length_drop, List.length_cons] at hlen
    cases hs : PyWrmptr.shape p with
    | none =>
      unfold PyFlat.call at h
      simp only [hs] at h
      cases h
    | some nk =>
      obtain ⟨n, k⟩ := nk
      unfold PyFlat.call at h
      simp only [hs] at h
      split at h
      · cases h
      rename_i hn
      rcases shape_cases hs with ⟨rfl, rfl, rfl⟩ | ⟨h18, rfl, hm⟩
      · rw [List.drop_zero] at h
        cases r with
        | nil => cases h
        | cons m r =>
          unfold PyFlat.rows PyFlat.row at h
          simp only at h
          split at h
          · cases h
          · rename_i x s hx
            split at hx
            · cases hx
            · rename_i x2 s2 hx2
              split at hx2
              · rename_i hm
                injection hx2 with hx2
                injection hx2 with hx2 hs2
                subst hx2 hs2
                simp only [PyFlat.rows] at hx
                injection hx with hx
                injection hx with hx1 hx3
                subst hx1 hx3
                injection h with h
                injection h with h1 h2
                subst h1 h2
                have hr2 : cs.drop (i + 2) = r := by rw [← List.tail_drop, hr]; rfl
                have hm1 : cs[i + 1]? = some m := by
                  rw [← List.head?_drop, hr]
                  rfl
                rw [List.length_cons] at hlen
                refine ⟨i + 2 + m.toNat, by omega, by rw [← hr2, List.drop_drop], by omega, .inl ⟨hp, m.toNat, ?_, rfl, ?_⟩⟩
                · rw [hm1]
                  congr 1
                  omega
                · rw [hr2]
                  rfl
              · cases hx2
      · simp only [PyFlat.rows] at h
        injection h with h
        injection h with h1 h2
        subst h1 h2
        refine ⟨i + 1 + n, by omega, by rw [← hr, List.drop_drop], by omega, .inr ⟨p, n, hp, h18, hm, rfl, by rw [hr]⟩⟩
theorem whole_eq (c : List (List Int)) : PyWrmptr.whole c = c := by
  unfold PyWrmptr.whole
  split <;> rfl
theorem asked_some {c : List (List Int)} (h : asked1 c = true) : ∃ x, callOf c = some x := by
  unfold asked1 at h
  split at h
  · exact ⟨_, rfl⟩
  · exact ⟨_, rfl⟩
  · exact Option.isSome_iff_exists.mp (Bool.and_eq_true_iff.mp h).1
  · cases h
theorem nat_of {z : Int} (h : natural z = true) : ∃ n : Nat, z = (n : Int) := by
  unfold natural at h
  have h := of_decide_eq_true (Bool.and_eq_true_iff.mp h).1
  exact ⟨z.toNat, by omega⟩
theorem nats_of : ∀ {zs : List Int}, zs.all natural = true → ∃ ns : List Nat, zs = ns.map fun n => ((n : Nat) : Int)
  | [], _ => ⟨[], rfl⟩
  | z :: zs, h => by
    rw [List.all_cons, Bool.and_eq_true] at h
    obtain ⟨n, rfl⟩ := nat_of h.1
    obtain ⟨ns, rfl⟩ := nats_of h.2
    exact ⟨n :: ns, rfl⟩
theorem iv_nv (ns : List Nat) : iv (ns.map fun n => ((n : Nat) : Int)) = nv ns := by
  unfold iv nv
  rw [List.map_map]
  rfl
section
variable {P : Program} {w : World} {K : PySem.W.Frag} {mg : Str → Option Value} {base : Heap} {H : Hp} {o nn : Addr} {B : Book} {L : Lay} {Q : VK} {E : XK}
theorem held_of {k : Nat} {name : Str} {ps : List Str} {sp : Sp} (D : Def P w K mg base CX0 k name ps sp) (h : k ≤ 8) : Held P w K mg base 8 (He.ga K name) sp := by
  obtain ⟨fd, F, B⟩ := D.ex
  exact ⟨⟨fd, ps, F.mono h, D.kp, B⟩⟩
/-- a deed does what is due at a call -/
def Does (K : PySem.W.Frag) (k : Int) (n : Nat) (sp : Sp) : Prop := ∀ (o nn : Addr) (B : Book) (L : Lay) (H : Hp) (Q : VK) (zs : List Int) (x : Call), OffOn K B L o H → Good B → SqL K H nn (iv zs) → zs.length = n → callOf [k :: zs] = some x → asked1 [k :: zs] = true →
  (∀ v H', Done K o L H (step B x) v H' → Q v H') → sp [.ref o, .ref nn] H Q (fun _ _ _ => False)
theorem does_ask0 {k : Int} {f : Call} (hc : callOf [[k]] = some f) (hs : ∀ B, step B f = (B, asks B f)) : Does K k 0 (spAsk K 0 fun B _ => asks B f) := by
  intro o nn B L H Q zs x hO hG hn hl hx ha k
  cases List.length_eq_zero_iff.mp hl
  rw [hc] at hx
  obtain rfl := Option.some.inj hx
  rw [hs] at k
  exact ⟨o, nn, B, [], rfl, hO.at_, hG, hn, rfl, done_same hO hG k⟩
theorem does_ask1 {k : Int} {f : Nat → Call} (hc : ∀ a, callOf [[k, a]] = some (f (nat a))) (ha : ∀ a, asked1 [[k, a]] = true → ([a] : List Int).all natural = true) (hs : ∀ B n, step B (f n) = (B, asks B (f n))) : Does K k 1 (spAsk K 1 (c1 f)) := by
  intro o nn B L H Q zs x hO hG hn hl hx hA k
  match zs, hl with
  | [a], _ =>
    obtain ⟨ns, hns⟩ := nats_of (ha _ hA)
    rw [hns, iv_nv] at hn
    match ns, hns with
    | [m], hns =>
      have e1 : a = (m : Int) := by injection hns
      subst e1
      rw [hc] at hx
      obtain rfl := Option.some.inj hx
      rw [hs] at k
      exact ⟨o, nn, B, [m], rfl, hO.at_, hG, hn, rfl, done_same hO hG k⟩
theorem does_ask2 {k : Int} {f : Nat → Nat → Call} (hc : ∀ a b, callOf [[k, a, b]] = some (f (nat a) (nat b))) (ha : ∀ a b, asked1 [[k, a, b]] = true → ([a, b] : List Int).all natural = true) (hs : ∀ B m n, step B (f m n) = (B, asks B (f m n))) : Does K k 2 (spAsk K 2 (c2 f)) := by
  intro o nn B L H Q zs x hO hG hn hl hx hA k
  match zs, hl with
  | [a, b], _ =>
    obtain ⟨ns, hns⟩ := nats_of (ha _ _ hA)
    rw [hns, iv_nv] at hn
    match ns, hns with
    | [m1, m2], hns =>
      injection hns with e1 hns
      injection hns with e2 hns
      subst e1 e2
      rw [hc] at hx
      obtain rfl := Option.some.inj hx
      rw [hs] at k
      exact ⟨o, nn, B, [m1, m2], rfl, hO.at_, hG, hn, rfl, done_same hO hG k⟩
theorem does_ask3 {k : Int} {f : Nat → Nat → Nat → Call} (hc : ∀ a b c, callOf [[k, a, b, c]] = some (f (nat a) (nat b) (nat c))) (ha : ∀ a b c, asked1 [[k, a, b, c]] = true → ([a, b, c] : List Int).all natural = true) (hs : ∀ B l m n, step B (f l m n) = (B, asks B (f l m n))) : Does K k 3 (spAsk K 3 (c3 f)) := by
  intro o nn B L H Q zs x hO hG hn hl hx hA k
  match zs, hl with
  | [a, b, c], _ =>
    obtain ⟨ns, hns⟩ := nats_of (ha _ _ _ hA)
    rw [hns, iv_nv] at hn
    match ns, hns with
    | [m1, m2, m3], hns =>
      injection hns with e1 hns
      injection hns with e2 hns
      injection hns with e3 hns
      subst e1 e2 e3
      rw [hc] at hx
      obtain rfl := Option.some.inj hx
      rw [hs] at k
      exact ⟨o, nn, B, [m1, m2, m3], rfl, hO.at_, hG, hn, rfl, done_same hO hG k⟩
theorem does_ask4 {k : Int} {f : Nat → Nat → Nat → Nat → Call} (hc : ∀ a b c d, callOf [[k, a, b, c, d]] = some (f (nat a) (nat b) (nat c) (nat d))) (ha : ∀ a b c d, asked1 [[k, a, b, c, d]] = true → ([a, b, c, d] : List Int).all natural = true) (hs : ∀ B j l m n, step B (f j l m n) = (B, asks B (f j l m n))) : Does K k 4 (spAsk K 4 (c4 f)) := by
  intro o nn B L H Q zs x hO hG hn hl hx hA k
  match zs, hl with
  | [a, b, c, d], _ =>
    obtain ⟨ns, hns⟩ := nats_of (ha _ _ _ _ hA)
    rw [hns, iv_nv] at hn
    match ns, hns with
    | [m1, m2, m3, m4], hns =>
      injection hns with e1 hns
      injection hns with e2 hns
      injection hns with e3 hns
      injection hns with e4 hns
      subst e1 e2 e3 e4
      rw [hc] at hx
      obtain rfl := Option.some.inj hx
      rw [hs] at k
      exact ⟨o, nn, B, [m1, m2, m3, m4], rfl, hO.at_, hG, hn, rfl, done_same hO hG k⟩
theorem does_do {k : Int} {n : Nat} {f : List Nat → Call} (hc : ∀ ns : List Nat, ns.length = n → callOf [k :: ns.map fun n => ((n : Nat) : Int)] = some (f ns)) (ha : ∀ zs, zs.length = n → asked1 [k :: zs] = true → zs.all natural = true) : Does K k n (spDo K n f) := by
  intro o nn B L H Q zs x hO hG hn hl hx hA k
  obtain ⟨ns, rfl⟩ := nats_of (ha _ hl hA)
  rw [iv_nv] at hn
  rw [List.length_map] at hl
  rw [hc ns hl] at hx
  obtain rfl := Option.some.inj hx
  exact ⟨o, nn, B, L, ns, rfl, hO, hG, hn, hl, k⟩
theorem does_leg : Does K 3 5 (spAddLeg K) := by
  intro o nn B L H Q zs x hO hG hn hl hx hA k
  match zs, hl with
  | [t, p, dx, dy, l], _ =>
    have hA : (natural t && (natural p && (TravNeutral.way dx && (TravNeutral.way dy && natural l)))) = true := hA
    simp only [Bool.and_eq_true] at hA
    obtain ⟨h1, h2, _, _, h3⟩ := hA
    obtain ⟨t, rfl⟩ := nat_of h1
    obtain ⟨p, rfl⟩ := nat_of h2
    obtain ⟨l, rfl⟩ := nat_of h3
    have hx : some (Call.leg t p dx dy l) = some x := hx
    obtain rfl := Option.some.inj hx
    exact ⟨o, nn, B, L, t, p, dx, dy, l, rfl, hO, hG, hn, k⟩
theorem all_ask {k : Int} {zs : List Int} (h : asked1 [k :: zs] = true) (e : asked1 [k :: zs] = ((callOf [k :: zs]).isSome && zs.all natural) := by rfl) : zs.all natural = true := (Bool.and_eq_true_iff.mp (e ▸ h)).2
theorem deed_ok (T : Txt K mg) {k : Int} {n : Nat} (h : (k, n) ∈ shapes) : ∃ f sp, IDct K (He.ga K "DEEDS") k (.ref f) ∧ Held P w K mg base 8 f sp ∧ Does K k n sp := by
  have hI : idicB K (He.ga K "DEEDS") kv_DEEDS = true := by
    have h := T.ex
    unfold exB at h
    simp only [Bool.and_eq_true] at h
    exact h.2.2.1
  have hd : ∀ q ∈ kv_DEEDS, IDct K (He.ga K "DEEDS") q.1 (q.2.v K) := idicB_ok hI
  unfold shapes at h
  simp only [List.mem_cons, List.not_mem_nil, or_false, Prod.mk.injEq] at h
  rcases h with ⟨rfl, rfl⟩ | ⟨rfl, rfl⟩ | ⟨rfl, rfl⟩ | ⟨rfl, rfl⟩ | ⟨rfl, rfl⟩ | ⟨rfl, rfl⟩ | ⟨rfl, rfl⟩ | ⟨rfl, rfl⟩ | ⟨rfl, rfl⟩ | ⟨rfl, rfl⟩ | ⟨rfl, rfl⟩ | ⟨rfl, rfl⟩ | ⟨rfl, rfl⟩ | ⟨rfl, rfl⟩ | ⟨rfl, rfl⟩ | ⟨rfl, rfl⟩ | ⟨rfl, rfl⟩ | ⟨rfl, rfl⟩ | ⟨rfl, rfl⟩
  · exact ⟨_, _, hd (1, .glo "add_known") (List.mem_of_getElem? (i := 0) rfl), held_of (ok_add_known T) (by decide), does_do (fun ns hl => by match ns, hl with | [a, b, c], _ => rfl) fun zs hl h => by match zs, hl with | [a, b, c], _ => exact all_ask h⟩
  · exact ⟨_, _, hd (2, .glo "add_run") (List.mem_of_getElem? (i := 1) rfl), held_of (ok_add_run T) (by decide), does_do (fun ns hl => by match ns, hl with | [a, b], _ => rfl) fun zs hl h => by match zs, hl with | [a, b], _ => exact all_ask h⟩
  · exact ⟨_, _, hd (3, .glo "add_leg") (List.mem_of_getElem? (i := 2) rfl), held_of (ok_add_leg T) (by decide), does_leg⟩
  · exact ⟨_, _, hd (4, .glo "take_back") (List.mem_of_getElem? (i := 3) rfl), held_of (ok_take_back T) (by decide), does_do (fun ns hl => by match ns, hl with | [a], _ => rfl) fun zs hl h => by match zs, hl with | [a], _ => exact all_ask h⟩
  · exact ⟨_, _, hd (5, .glo "tell_miss") (List.mem_of_getElem? (i := 4) rfl), held_of (ok_tell_miss T) (by decide), does_ask1 (fun _ => rfl) (fun _ h => all_ask h) fun _ _ => rfl⟩
  · exact ⟨_, _, hd (6, .glo "tell_point") (List.mem_of_getElem? (i := 5) rfl), held_of (ok_tell_point T) (by decide), does_ask2 (fun _ _ => rfl) (fun _ _ h => all_ask h) fun _ _ _ => rfl⟩
  · exact ⟨_, _, hd (7, .glo "tell_part") (List.mem_of_getElem? (i := 6) rfl), held_of (ok_tell_part T) (by decide), does_ask2 (fun _ _ => rfl) (fun _ _ h => all_ask h) fun _ _ _ => rfl⟩
  · exact ⟨_, _, hd (8, .glo "tell_ratio") (List.mem_of_getElem? (i := 7) rfl), held_of (ok_tell_ratio T) (by decide), does_ask1 (fun _ => rfl) (fun _ h => all_ask h) fun _ _ => rfl⟩
  · exact ⟨_, _, hd (9, .glo "tell_area") (List.mem_of_getElem? (i := 8) rfl), held_of (ok_tell_area T) (by decide), does_ask1 (fun _ => rfl) (fun _ h => all_ask h) fun _ _ => rfl⟩
  · exact ⟨_, _, hd (10, .glo "tell_most") (List.mem_of_getElem? (i := 9) rfl), held_of (ok_tell_most T) (by decide), does_ask1 (fun _ => rfl) (fun _ h => all_ask h) fun _ _ => rfl⟩
  · exact ⟨_, _, hd (11, .glo "tell_readings") (List.mem_of_getElem? (i := 10) rfl), held_of (ok_tell_readings T) (by decide), does_ask2 (fun _ _ => rfl) (fun _ _ h => all_ask h) fun _ _ _ => rfl⟩
  · exact ⟨_, _, hd (12, .glo "explain") (List.mem_of_getElem? (i := 11) rfl), held_of (ok_explain T) (by decide), does_ask2 (fun _ _ => rfl) (fun _ _ h => all_ask h) fun _ _ _ => rfl⟩
  · exact ⟨_, _, hd (13, .glo "tell_with") (List.mem_of_getElem? (i := 12) rfl), held_of (ok_tell_with T) (by decide), does_ask4 (fun _ _ _ _ => rfl) (fun _ _ _ _ h => all_ask h) fun _ _ _ _ _ => rfl⟩
  · exact ⟨_, _, hd (14, .glo "mend") (List.mem_of_getElem? (i := 13) rfl), held_of (ok_mend T) (by decide), does_do (fun ns hl => by match ns, hl with | [a, b, c, d], _ => rfl) fun zs hl h => by match zs, hl with | [a, b, c, d], _ => exact all_ask h⟩
  · exact ⟨_, _, hd (15, .glo "tell_apart") (List.mem_of_getElem? (i := 14) rfl), held_of (ok_tell_apart T) (by decide), does_ask3 (fun _ _ _ => rfl) (fun _ _ _ h => all_ask h) fun _ _ _ _ => rfl⟩
  · exact ⟨_, _, hd (16, .glo "tell_passes") (List.mem_of_getElem? (i := 15) rfl), held_of (ok_tell_passes T) (by decide), does_ask1 (fun _ => rfl) (fun _ h => all_ask h) fun _ _ => rfl⟩
  · exact ⟨_, _, hd (17, .glo "tell_mean") (List.mem_of_getElem? (i := 16) rfl), held_of (ok_tell_mean T) (by decide), does_ask1 (fun _ => rfl) (fun _ h => all_ask h) fun _ _ => rfl⟩
  · exact ⟨_, _, hd (19, .glo "tell_text") (List.mem_of_getElem? (i := 17) rfl), held_of (ok_tell_text T) (by decide), does_ask0 rfl fun _ => rfl⟩
  · exact ⟨_, _, hd (20, .glo "tell_sizes") (List.mem_of_getElem? (i := 18) rfl), held_of (ok_tell_sizes T) (by decide), does_ask0 rfl fun _ => rfl⟩
end
end Trav
namespace Trav
open RunBook (Book)
open TravSpec (Call asks step)
open TravNeutral (callOf asked1 natural nat)
def spBehindC (K : PySem.W.Frag) : Sp := fun vs H Q _ => ∃ (a : Addr) (cs : List Int) (i j : Nat) (c : List (List Int)), vs = [.ref a, .int (i : Int)] ∧ SqL K H a (iv cs) ∧ CallAt cs i j c ∧ RetV (.int (j : Int)) H Q
def spAnswer (K : PySem.W.Frag) : Sp := fun vs H Q _ => ∃ (o a : Addr) (B : Book) (L : Lay) (cs : List Int) (i j : Nat) (c : List (List Int)) (x : Call), vs = [.ref o, .ref a, .int (i : Int), .int (j : Int)] ∧ OffOn K B L o H ∧ Good B ∧ SqL K H a (iv cs) ∧ CallAt cs i j c ∧
  callOf c = some x ∧ asked1 c = true ∧ (∀ v H', Done K o L H (step B x) v H' → Q v H')
def spAnswers (K : PySem.W.Frag) : Sp := fun vs H Q _ => ∃ (a : Addr) (cs : List Int), vs = [.ref a] ∧ SqL K H a (iv cs) ∧ PyWrmptr.answers_asked cs = true ∧ (∀ H' p, Ex H H' → H' p = some (.lst (iv (PyWrmptr.answers cs))) → Q (.ref p) H')
theorem iv_at {cs : List Int} {i : Nat} {k : Int} (h : cs[i]? = some k) : atI (iv cs) (i : Int) = some (.int k) := by
  unfold iv
  rw [Trav.atI_nat, List.getElem?_map, h]
  rfl
theorem iv_cut {cs : List Int} {i j : Nat} (h : i ≤ j) (hj : j ≤ cs.length) : cutV (iv cs) (some (i : Int)) (some (j : Int)) = iv ((cs.drop i).take (j - i)) := by
  unfold iv
  rw [cutV_nat h (by rw [List.length_map]; exact hj), List.map_take, List.map_drop]
theorem bytes_of : ∀ (l : List Int), (l.all fun (z : Int) => decide (0 ≤ z) && decide (z ≤ 255)) = true → iv l = bs (TravNeutral.text l)
  | [], _ => rfl
  | z :: l, h => by
    rw [List.all_cons, Bool.and_eq_true] at h
    have ih := bytes_of l h.2
    have hz := h.1
    simp only [Bool.and_eq_true, decide_eq_true_eq] at hz
    unfold iv TravNeutral.text bs at ih ⊢
    rw [List.map_cons, List.map_cons, List.map_cons, ih]
    congr 1
    show V.int z = V.int (((UInt8.ofNat z.toNat).toNat : Nat) : Int)
    have e : (UInt8.ofNat z.toNat).toNat = z.toNat := by simp [UInt8.toNat_ofNat, Nat.mod_eq_of_lt (show z.toNat < 256 by omega)]
    rw [e]
    congr 1
    omega
theorem num_dict {K : PySem.W.Frag} {mg : Str → Option Value} (T : Txt K mg) {k : Int} {n : Nat} (h : (k, n) ∈ shapes) : IDct K (He.ga K "NUMBERS") k (.int (n : Int)) := by
  have hI : idicB K (He.ga K "NUMBERS") kv_NUMBERS = true := by
    have h := T.ex
    unfold exB at h
    simp only [Bool.and_eq_true] at h
    exact h.2.2.2
  have hd : ∀ q ∈ kv_NUMBERS, IDct K (He.ga K "NUMBERS") q.1 (q.2.v K) := idicB_ok hI
  have e : shapes = kv_NUMBERS.map fun q => (q.1, match q.2 with | .int z => z.toNat | _ => 0) := by rfl
  rw [e] at h
  obtain ⟨q, hq, e2⟩ := List.mem_map.mp h
  have h2 := hd q hq
  have hall : ∀ q ∈ kv_NUMBERS, ∃ m : Nat, q.2 = .int (m : Int) := by
    intro q hq
    unfold kv_NUMBERS at hq
    simp only [List.mem_cons, List.not_mem_nil, or_false] at hq
    rcases hq with rfl | rfl | rfl | rfl | rfl | rfl | rfl | rfl | rfl | rfl | rfl | rfl | rfl | rfl | rfl | rfl | rfl | rfl | rfl
    · exact ⟨3, rfl⟩
    · exact ⟨2, rfl⟩
    · exact ⟨5, rfl⟩
    · exact ⟨1, rfl⟩
    · exact ⟨1, rfl⟩
    · exact ⟨2, rfl⟩
    · exact ⟨2, rfl⟩
    · exact ⟨1, rfl⟩
    · exact ⟨1, rfl⟩
    · exact ⟨1, rfl⟩
    · exact ⟨2, rfl⟩
    · exact ⟨2, rfl⟩
    · exact ⟨4, rfl⟩
    · exact ⟨4, rfl⟩
    · exact ⟨3, rfl⟩
    · exact ⟨1, rfl⟩
    · exact ⟨1, rfl⟩
    · exact ⟨0, rfl⟩
    · exact ⟨0, rfl⟩
  obtain ⟨m, hm⟩ := hall q hq
  obtain ⟨q1, q2⟩ := q
  have hm : q2 = .int (m : Int) := hm
  subst hm
  injection e2 with e3 e4
  have e3 : q1 = k := e3
  have e4 : ((m : Nat) : Int).toNat = n := e4
  rw [Int.toNat_natCast] at e4
  subst e3 e4
  exact h2
section
variable {K : PySem.W.Frag} {H H1 H' : Hp} {o b : Addr} {B : Book} {L : Lay} {σ : L2.St} {ta tb tc te : TE} {D : Ends} {tz tu : TS}
theorem OffOn.list {l : Addr} {xs : List V} (h : OffOn K B L o H) (f : Fr [l] H H') (hl : H l = some (.lst xs)) (hm : l ∉ L.mut) : OffOn K B L o H' := by
  obtain ⟨dx, b, h1, hB⟩ := h
  have ne : ∀ {a : Addr} {u : HO}, H a = some u → (∀ l, u ≠ .lst l) → a ∉ [l] := fun {a u} hu hn => ns fun e => by
    rw [e, hl] at hu
    exact hn _ (Option.some.inj hu).symm
  obtain ⟨db, q1⟩ := hB.bk
  refine ⟨dx, b, f.st _ _ (ne h1 fun _ => nofun) h1, hB.fr f (ne q1 fun _ => nofun) (fun a ha => ns fun e => hm (by rw [← e]; exact ha)) (fun x hx => ?_) fun a ha u hu => ?_⟩
  · obtain ⟨i, hi⟩ := List.getElem?_of_mem hx
    obtain ⟨r, _, ⟨dr, q1⟩, _⟩ := hB.run hi
    exact ne q1 fun _ => nofun
  · rw [List.mem_singleton.mp ha, hl] at hu
    rw [← Option.some.inj hu]
    trivial
theorem OffOn.off_lst {l : Addr} {xs : List V} (h : OffOn K B L o H) (hl : H l = some (.lst xs)) : l ≠ o := fun e => by
  obtain ⟨dx, b, h1, hB⟩ := h
  rw [e, h1] at hl
  cases hl
def NewOff (K : PySem.W.Frag) (H0 : Hp) : V → Hp → Prop := fun v H => ∃ o L, v = .ref o ∧ H0 o = none ∧ (∀ a ∈ L.mut, H0 a = none) ∧ OffOn K RunBook.empty L o H
theorem evp_mkoff {E : XK} : EvP (tMake (He.ga K "Office") (spOffInit K) [] E tNil) σ H (NewOff K H) := fun H1 e Q q => fun x dx hx hd hne => ⟨x, dx, rfl, upd_same, fun H' b d l h0 h1 h2 eA hH' hB => by
  have back : ∀ a, upd (upd H1 dx (.own x)) x (.ins (He.ga K "Office") dx []) a = none → H1 a = none := fun a ha => by
    have n1 : a ≠ x := fun z => by rw [z, upd_same] at ha; cases ha
    have n2 : a ≠ dx := fun z => by rw [z, upd_ne hne, upd_same] at ha; cases ha
    rw [upd_ne n1, upd_ne n2] at ha
    exact ha
  refine ⟨rfl, q _ _ (ex_made (Ex.refl H1) hx hd eA) ⟨x, ⟨d, l, []⟩, rfl, fresh_back e hx, fun a ha => ?_, dx, b, hH', hB⟩⟩
  rcases lay_mem.mp ha with rfl | rfl | ⟨y, hy, _⟩ | ⟨y, hy, _⟩
  · exact fresh_back e (back _ h1)
  · exact fresh_back e (back _ h2)
  · exact absurd hy List.not_mem_nil
  · exact absurd hy List.not_mem_nil⟩
theorem q_appS {l : Addr} {xs : List V} {v : V} (hl : H l = some (.lst xs)) (ha : Ev ta σ H (.ref l)) (h : Ev te σ H v) (hz : xs.length < sizeLine) (k : ∀ H1, Ex H H1 → tz D σ (upd H1 l (.lst (xs ++ [v])))) : tSeq (tDrop (tBM K "list" rAppend ta (tCons te tNil))) tz D σ H := ha H (Ex.refl H) _ fun H1 e1 =>
  ⟨.inl ⟨rfl, xs, sq_of (e1 l _ hl)⟩, h H1 e1 _ fun H2 e2 => ⟨l, xs, v, rfl, rfl, e2 l _ (e1 l _ hl), hz, k H2 (e1.trans e2)⟩⟩
end
section
variable {P : Program} {w : World} {K : PySem.W.Frag} {mg : Str → Option Value} {base : Heap} {σ : L2.St} {H : Hp} {ta tb tc te : TE} {D : Ends} {tz tu : TS} {x y z u v : V}
theorem sc_behind_call : FnScope ["calls", "at"] ["calls", "at"] (defScope s_behind_call) := ⟨rfl, rfl, rfl, by decide +kernel, rfl, by decide +kernel, by decide +kernel⟩
theorem ok_behind_call (T : Txt K mg) : Def P w K mg base CX0 1 "behind_call" ["calls", "at"] (spBehindC K) := by
  refine T.def_ 105 91 rfl rfl rfl rfl rfl sc_behind_call (fun _ _ _ _ _ _ us hl => match us, hl with | [_, _], _ => rfl) (fun vs H Q E h => by first | (obtain ⟨_, rfl, _⟩ := h; rfl) | (obtain ⟨_, _, rfl, _⟩ := h; rfl) | (obtain ⟨_, _, _, rfl, _⟩ := h; rfl) | (obtain ⟨_, _, _, _, rfl, _⟩ := h; rfl) | (obtain ⟨_, _, _, _, _, rfl, _⟩ := h; rfl) | (obtain ⟨_, _, _, _, _, _, rfl, _⟩ := h; rfl) | (obtain ⟨_, _, _, _, _, _, _, rfl, _⟩ := h; rfl) | (obtain ⟨_, _, _, _, _, _, _, _, rfl, _⟩ := h; rfl) | (obtain ⟨_, _, _, _, _, _, _, _, _, rfl, _⟩ := h; rfl) | (obtain ⟨_, _, _, _, _, _, _, _, _, _, rfl, _⟩ := h; rfl) | (obtain ⟨_, _, _, _, _, _, _, _, _, _, _, rfl, _⟩ := h; rfl) | (obtain ⟨_, _, _, _, _, _, _, _, _, _, _, _, rfl, _⟩ := h; rfl) | (obtain ⟨_, _, _, _, _, _, _, _, _, _, _, _, _, rfl, _⟩ := h; rfl) | (obtain ⟨_, _, _, _, _, _, _, _, _, _, _, _, _, _, rfl, _⟩ := h; rfl) | (obtain ⟨_, _, _, _, _, _, _, _, _, _, _, _, _, _, _, rfl, _⟩ := h; rfl) | (obtain ⟨_, _, _, _, _, _, _, _, _, _, _, _, _, _, _, _, rfl, _⟩ := h; rfl) | (obtain ⟨_, _, _, _, _, _, _, _, _, _, _, _, _, _, _, _, _, rfl, _⟩ := h; rfl) | (obtain ⟨_, _, _, _, _, _, _, _, _, _, _, _, _, _, _, _, _, _, rfl, _⟩ := h; rfl) | (obtain ⟨_, _, _, _, _, _, _, _, _, _, _, _, _, _, _, _, _, _, _, rfl, _⟩ := h; rfl)) (fun f cdv A outer s H vs Q E hr h => ⟨_, PSs.nox (pss_cons (ps_if (pt_cmpR op_eq (pe_ix ix_list (pv 0) (pv 1) (fun _ _ => rfl)) (pe_gi (T.int 154 rfl)) (nomark _)) (pss_one (ps_ret (pe_op op_add (pe_op op_add (pv 1) pe_int) (pe_ix ix_list (pv 0) (pe_op op_add (pv 1) pe_int) (fun _ _ => rfl))))) pss_nil) (pss_one (ps_ret (pe_op op_add (pe_op op_add (pv 1) pe_int) (pe_ix ix_idic (pe_gr (T.glo 156 rfl)) (pe_ix ix_list (pv 0) (pv 1) (fun _ _ => rfl)) (fun _ _ => rfl)))))), ?_⟩)
  obtain ⟨a, cs, i, j, c, rfl, hS, ⟨hj, hc⟩, k⟩ := h
  rcases hc with ⟨h18, m, hm, rfl, rfl⟩ | ⟨kk, n, hk, h18, hs, rfl, rfl⟩
  · refine Sv.go (sv_when (b := decide ((18 : Int) = 18)) (et_test (ev_eqI (ev_ix (ev_var rfl) (ev_var rfl) hS (iv_at h18)) ev_c)) (fun _ => ?_) fun h => absurd h (by decide))
    refine sv_ret (ev_is (ev_add (ev_add (ev_var rfl) ev_c) (ev_ix (i := ((i + 1 : Nat) : Int)) (ev_var rfl) (ev_is (ev_add (ev_var rfl) ev_c) ?_) hS (iv_at hm))) ?_) k
    · congr 1
    · congr 1
  · refine Sv.go (sv_when (b := decide (kk = 18)) (et_test (ev_eqI (ev_ix (ev_var rfl) (ev_var rfl) hS (iv_at hk)) ev_c)) (fun h => absurd (of_decide_eq_true h) h18) fun _ => ?_)
    refine sv_ret (ev_is (ev_add (ev_add (ev_var rfl) ev_c) (ev_ixI ev_c (ev_ix (ev_var rfl) (ev_var rfl) hS (iv_at hk)) (num_dict T hs))) ?_) k
    congr 1
theorem sc_answer_of : FnScope ["office", "calls", "at", "behind", "deed"] ["office", "calls", "at", "behind"] (defScope s_answer_of) := ⟨rfl, rfl, rfl, by decide +kernel, rfl, by decide +kernel, by decide +kernel⟩
theorem ok_answer_of (T : Txt K mg) : Def P w K mg base CX0 9 "answer_of" ["office", "calls", "at", "behind"] (spAnswer K) := by
  refine T.def_ 106 92 rfl rfl rfl rfl rfl sc_answer_of (fun _ _ _ _ _ _ us hl => match us, hl with | [_, _, _, _], _ => rfl) (fun vs H Q E h => by first | (obtain ⟨_, rfl, _⟩ := h; rfl) | (obtain ⟨_, _, rfl, _⟩ := h; rfl) | (obtain ⟨_, _, _, rfl, _⟩ := h; rfl) | (obtain ⟨_, _, _, _, rfl, _⟩ := h; rfl) | (obtain ⟨_, _, _, _, _, rfl, _⟩ := h; rfl) | (obtain ⟨_, _, _, _, _, _, rfl, _⟩ := h; rfl) | (obtain ⟨_, _, _, _, _, _, _, rfl, _⟩ := h; rfl) | (obtain ⟨_, _, _, _, _, _, _, _, rfl, _⟩ := h; rfl) | (obtain ⟨_, _, _, _, _, _, _, _, _, rfl, _⟩ := h; rfl) | (obtain ⟨_, _, _, _, _, _, _, _, _, _, rfl, _⟩ := h; rfl) | (obtain ⟨_, _, _, _, _, _, _, _, _, _, _, rfl, _⟩ := h; rfl) | (obtain ⟨_, _, _, _, _, _, _, _, _, _, _, _, rfl, _⟩ := h; rfl) | (obtain ⟨_, _, _, _, _, _, _, _, _, _, _, _, _, rfl, _⟩ := h; rfl) | (obtain ⟨_, _, _, _, _, _, _, _, _, _, _, _, _, _, rfl, _⟩ := h; rfl) | (obtain ⟨_, _, _, _, _, _, _, _, _, _, _, _, _, _, _, rfl, _⟩ := h; rfl) | (obtain ⟨_, _, _, _, _, _, _, _, _, _, _, _, _, _, _, _, rfl, _⟩ := h; rfl) | (obtain ⟨_, _, _, _, _, _, _, _, _, _, _, _, _, _, _, _, _, rfl, _⟩ := h; rfl) | (obtain ⟨_, _, _, _, _, _, _, _, _, _, _, _, _, _, _, _, _, _, rfl, _⟩ := h; rfl) | (obtain ⟨_, _, _, _, _, _, _, _, _, _, _, _, _, _, _, _, _, _, _, rfl, _⟩ := h; rfl)) (fun f cdv A outer s H vs Q E hr h => ⟨_, PSs.nox (pss_cons (ps_if (pt_cmpR op_eq (pe_ix ix_list (pv 1) (pv 2) (fun _ _ => rfl)) (pe_gi (T.int 154 rfl)) (nomark _)) (pss_one (ps_ret (pe_cd (ok_take_book T) hr pass0 (pa_cons (pv 0) (pa_cons (pe_slice sl_list (pv 1) (po_some (pe_op op_add (pv 2) pe_int)) (po_some (pv 3))) pa_nil))))) pss_nil) (pss_cons (ps_set (i := 4) sc_answer_of.nd rfl (Or.inl rfl) (pe_ix ix_idic (pe_gr (T.glo 155 rfl)) (pe_ix ix_list (pv 1) (pv 2) (fun _ _ => rfl)) (fun _ _ => rfl))) (pss_one (ps_ret (pe_callH (i := 4) hr rfl (Or.inl rfl) (pa_cons (pv 0) (pa_cons (pe_slice sl_list (pv 1) (po_some (pe_op op_add (pv 2) pe_int)) (po_some (pv 3))) pa_nil))))))), ?_⟩)
  obtain ⟨o, a, B, L, cs, i, j, c, x, rfl, hO, hG, hS, ⟨hj, hc⟩, hx, hA, k⟩ := h
  rcases hc with ⟨h18, m, hm, rfl, rfl⟩ | ⟨kk, n, hk, h18, hs, rfl, rfl⟩
  · refine Sv.go (sv_when (b := decide ((18 : Int) = 18)) (et_test (ev_eqI (ev_ix (ev_var rfl) (ev_var rfl) hS (iv_at h18)) ev_c)) (fun _ => ?_) fun h => absurd h (by decide))
    have hA : TravNeutral.letters ((cs.drop (i + 2)).take m) 17000 = true := hA
    have hx : some (Call.book (TravNeutral.text ((cs.drop (i + 2)).take m))) = some x := hx
    obtain rfl := Option.some.inj hx
    unfold TravNeutral.letters at hA
    rw [Bool.and_eq_true] at hA
    obtain ⟨h1, h2⟩ := hA
    have h1 := of_decide_eq_true h1
    have hb := bytes_of _ h2
    have hcut := iv_cut (cs := cs) (i := i + 2) (j := i + 2 + m) (by omega) hj
    rw [Nat.add_sub_cancel_left, hb] at hcut
    intro H1 e1
    refine ⟨.ref o, rfl, ?_⟩
    have e2 : Ex H1 H1 := Ex.refl H1
    refine evp_slice (K := K) (xs := iv cs) (lo := some ((i + 2 : Nat) : Int)) (hi := some ((i + 2 + m : Nat) : Int)) (ev_var rfl) (eo_some (ev_is (ev_add (ev_var rfl) ev_c) rfl)) (eo_some (ev_var rfl)) (ex_l (e1.trans e2) hS) H1 (Ex.refl _) _ fun v H3 e3 hv => ?_
    obtain ⟨p, rfl, hp⟩ := hv
    rw [hcut] at hp
    have eH := (e1.trans e2).trans e3
    have hln : (TravNeutral.text ((cs.drop (i + 2)).take m)).length ≤ 20000 := by
      unfold TravNeutral.text
      rw [List.length_map]
      omega
    refine ⟨o, p, B, L, _, rfl, hO.mono eH, hG, ⟨sq_of hp, hln⟩, fun v H' hd => k v H' ?_⟩
    obtain ⟨L', q1, ⟨pv, ev, hp0, hpv⟩, q3, q4, q5⟩ := hd
    exact ⟨L', q1, ⟨pv, ev, fresh_back eH hp0, hpv⟩, (Fr.of eH).trans q3, fun a ha => (q4 a ha).imp id (fresh_back eH), q5⟩
  · refine Sv.go (sv_when (b := decide (kk = 18)) (et_test (ev_eqI (ev_ix (ev_var rfl) (ev_var rfl) hS (iv_at hk)) ev_c)) (fun h => absurd (of_decide_eq_true h) h18) fun _ => ?_)
    obtain ⟨f, sp, hI, hH, hD⟩ := deed_ok (P := P) (w := w) (base := base) T hs
    refine sv_set (ev_ixI ev_c (ev_ix (ev_var rfl) (ev_var rfl) hS (iv_at hk)) hI) ?_
    have hcut := iv_cut (cs := cs) (i := i + 1) (j := i + 1 + n) (by omega) hj
    rw [Nat.add_sub_cancel_left] at hcut
    have hlen : ((cs.drop (i + 1)).take n).length = n := by
      rw [List.length_take, List.length_drop]
      omega
    intro H1 e1
    refine ⟨f, sp, rfl, hH, ?_⟩
    refine (ev_var rfl : Ev (tVar 0) _ H1 (.ref o)) H1 (Ex.refl _) _ fun H2 e2 => ?_
    refine evp_slice (K := K) (xs := iv cs) (lo := some ((i + 1 : Nat) : Int)) (hi := some ((i + 1 + n : Nat) : Int)) (ev_var rfl) (eo_some (ev_is (ev_add (ev_var rfl) ev_c) rfl)) (eo_some (ev_var rfl)) (ex_l (e1.trans e2) hS) H2 (Ex.refl _) _ fun v H3 e3 hv => ?_
    obtain ⟨p, rfl, hp⟩ := hv
    rw [hcut] at hp
    have eH := (e1.trans e2).trans e3
    refine hD o p B L H3 _ _ x (hO.mono eH) hG (sq_of hp) hlen hx hA fun v H' hd => k v H' ?_
    obtain ⟨L', q1, ⟨pv, ev, hp0, hpv⟩, q3, q4, q5⟩ := hd
    exact ⟨L', q1, ⟨pv, ev, fresh_back eH hp0, hpv⟩, (Fr.of eH).trans q3, fun a ha => (q4 a ha).imp id (fresh_back eH), q5⟩
end
end Trav
namespace Trav
open RunBook (Book)
open TravSpec (Call asks step)
open TravNeutral (callOf asked1 natural nat)
/-! ## all calls -/
theorem neutral_step {B : Book} {c : List (List Int)} {x : Call} (h : callOf c = some x) : TravNeutral.step B c = ((step B x).1, ansN (step B x).2) := by
  unfold TravNeutral.step
  rw [h]
  rfl
theorem told_cons {B : Book} {c : List (List Int)} {r : List (List (List Int))} {x : Call} (h : callOf c = some x) : PyFlat.told (PyFlat.played TravNeutral.step B (c :: r)) = ((ansN (step B x).2).length : Int) :: (ansN (step B x).2 ++ PyFlat.told (PyFlat.played TravNeutral.step (step B x).1 r)) := by
  show PyFlat.told ((TravNeutral.step B c).2 :: PyFlat.played TravNeutral.step (TravNeutral.step B c).1 r) = _
  rw [neutral_step h]
  rfl
theorem asked_facts {cs : List Int} (h : PyWrmptr.answers_asked cs = true) : ∃ raws, PyFlat.calls PyWrmptr.shape cs.length cs = some raws ∧ (∀ c ∈ raws, asked1 c = true) ∧ PyWrmptr.answers cs = PyFlat.told (PyFlat.played TravNeutral.step TravNeutral.start raws) ∧ (PyWrmptr.answers cs).length ≤ 10000000 := by
  have hw : ∀ l : List (List (List Int)), l.map PyWrmptr.whole = l := fun l => by
    have e : PyWrmptr.whole = id := funext whole_eq
    rw [e, List.map_id]
  unfold PyWrmptr.answers_asked at h
  cases hr : PyFlat.calls PyWrmptr.shape cs.length cs with
  | none =>
    rw [hr] at h
    cases h
  | some raws =>
    rw [hr] at h
    simp only [Bool.and_eq_true] at h
    obtain ⟨⟨⟨⟨_, _⟩, _⟩, h4⟩, h5⟩ := h
    refine ⟨raws, rfl, ?_, ?_, ?_⟩
    · rw [hw] at h4
      unfold TravNeutral.asked at h4
      rw [Bool.and_eq_true] at h4
      exact List.all_eq_true.mp h4.1
    · unfold PyWrmptr.answers PyWrmptr.calls
      rw [hr]
      simp only
      rw [hw]
    · unfold PyFlat.short at h5
      exact of_decide_eq_true h5
theorem calls_cons {f : Nat} {l : List Int} {raws : List (List (List Int))} (h : PyFlat.calls PyWrmptr.shape f l = some raws) (hl : l ≠ []) : ∃ f' c t r, PyFlat.call PyWrmptr.shape l = some (c, t) ∧ PyFlat.calls PyWrmptr.shape f' t = some r ∧ raws = c :: r := by
  cases l with
  | nil => exact absurd rfl hl
  | cons p l =>
    cases f with
    | zero => cases h
    | succ f =>
      unfold PyFlat.calls at h
      cases hc : PyFlat.call PyWrmptr.shape (p :: l) with
      | none =>
        rw [hc] at h
        cases h
      | some ct =>
        obtain ⟨c, t⟩ := ct
        rw [hc] at h
        simp only at h
        cases hr : PyFlat.calls PyWrmptr.shape f t with
        | none =>
          rw [hr] at h
          cases h
        | some r =>
          rw [hr] at h
          simp only at h
          exact ⟨f, c, t, r, rfl, hr, (Option.some.inj h).symm⟩
theorem calls_nil {f : Nat} {raws : List (List (List Int))} (h : PyFlat.calls PyWrmptr.shape f [] = some raws) : raws = [] := by
  cases f with
  | zero => exact (Option.some.inj h).symm
  | succ f => exact (Option.some.inj h).symm
/-- a def of the top, whatever the heap below -/
def Top (P : Program) (w : World) (K : PySem.W.Frag) (mg : Str → Option Value) (CX : CXT) (k : Nat) (x : Str) (ps : List Str) (sp : Sp) : Prop :=
  mg x = some (.ref (He.ga K x)) ∧ ∃ fd : FuncData, (∀ (s : Shared) (us : List Value), us.length = ps.length → BindsTo s fd ⟨us, []⟩ (ps.zip us)) ∧ ∀ base : Heap, FnOk P w K mg base CX k (He.ga K x) fd ps sp
theorem Txt.top_ {P : Program} {w : World} {K : PySem.W.Frag} {mg : Str → Option Value} {CX : CXT} (T : Txt K mg) (i j : Nat) {d : He.DefD} {x : Str} (h : fn[i]? = some d) (hj : fa[j]? = some (.glo x)) (ha : d.at_ = (x, none)) (h0 : d.dfl = []) (h1 : d.kwd = [])
    {N ps : List Str} {k : Nat} {sp : Sp} (S : FnScope N ps d.scope)
    (hb : ∀ (kV doc pm : Value) (an : Option Addr) (cdv ct : Value) (us : List Value), us.length = ps.length → bindArgs (PySem.W.fnOf d.name d.qual d.params d.body d.scope .none kV doc pm an cdv ct) ⟨us, []⟩ = pure (ps.zip us))
    (len : ∀ vs H Q E, sp vs H Q E → vs.length = ps.length)
    (hbody : ∀ (base : Heap) (f : Addr) (cdv : Value) (A : Around) (outer : List Env) (s : Shared) (H : Hp) (vs : List V) (Q : VK) (E : XK), Room k (A.deeper (envOfC d.qual d.scope s.heap.objs.size f cdv)) → sp vs H Q E →
      ∃ t, PSs (cxOf CX P w K mg base N d.qual d.scope f cdv A outer s H E) d.body t ∧ t { nx := fun _ H' => Q .non H', rt := Q } (start N vs) H) : Top P w K mg CX (k + 1) x ps sp := by
  obtain ⟨fd, F⟩ := T.says.def_ i h
  have e0 : d.dvs K = [] := by unfold He.DefD.dvs; rw [h0]; rfl
  have e1 : d.kws K = [] := by unfold He.DefD.kws; rw [h1]; rfl
  rw [e0, e1] at F
  have ea : He.fAd K d.at_ = He.ga K x := by rw [ha]; rfl
  rw [ea] at F
  exact ⟨T.glo j hj, fd, fun s us hl => F.bindsA hb s us hl, fun base => F.ok S len (hbody base (He.ga K x))⟩
section
variable {P : Program} {w : World} {K : PySem.W.Frag} {mg : Str → Option Value} {base : Heap} {σ : L2.St} {H : Hp} {ta tb tc te : TE} {D : Ends} {tz tu : TS} {x y z u v : V}
theorem q_ext {l : Addr} {xs ys : List V} (hl : H l = some (.lst xs)) (ha : Ev ta σ H (.ref l)) (h : EvP te σ H (NewL ys)) (hz : xs.length + ys.length ≤ sizeLine) (k : ∀ H1, Ex H H1 → tz D σ (upd H1 l (.lst (xs ++ ys)))) :
    tSeq (tDrop (tBM K "list" rExtend ta (tCons te tNil))) tz D σ H := sv_ext (D := { D with nx := tz D }) hl ha h hz k
theorem sc_answers : FnScope ["calls", "office", "told", "at", "behind", "answer"] ["calls"] (defScope s_answers) := ⟨rfl, rfl, rfl, by decide +kernel, rfl, by decide +kernel, by decide +kernel⟩
theorem ok_answers (T : Txt K mg) : Top P w K mg CX0 10 "answers" ["calls"] (spAnswers K) := by
  refine T.top_ 107 93 rfl rfl rfl rfl rfl sc_answers (fun _ _ _ _ _ _ us hl => match us, hl with | [_], _ => rfl) (fun vs H Q E h => by first | (obtain ⟨_, rfl, _⟩ := h; rfl) | (obtain ⟨_, _, rfl, _⟩ := h; rfl) | (obtain ⟨_, _, _, rfl, _⟩ := h; rfl) | (obtain ⟨_, _, _, _, rfl, _⟩ := h; rfl) | (obtain ⟨_, _, _, _, _, rfl, _⟩ := h; rfl) | (obtain ⟨_, _, _, _, _, _, rfl, _⟩ := h; rfl) | (obtain ⟨_, _, _, _, _, _, _, rfl, _⟩ := h; rfl) | (obtain ⟨_, _, _, _, _, _, _, _, rfl, _⟩ := h; rfl) | (obtain ⟨_, _, _, _, _, _, _, _, _, rfl, _⟩ := h; rfl) | (obtain ⟨_, _, _, _, _, _, _, _, _, _, rfl, _⟩ := h; rfl) | (obtain ⟨_, _, _, _, _, _, _, _, _, _, _, rfl, _⟩ := h; rfl) | (obtain ⟨_, _, _, _, _, _, _, _, _, _, _, _, rfl, _⟩ := h; rfl) | (obtain ⟨_, _, _, _, _, _, _, _, _, _, _, _, _, rfl, _⟩ := h; rfl) | (obtain ⟨_, _, _, _, _, _, _, _, _, _, _, _, _, _, rfl, _⟩ := h; rfl) | (obtain ⟨_, _, _, _, _, _, _, _, _, _, _, _, _, _, _, rfl, _⟩ := h; rfl) | (obtain ⟨_, _, _, _, _, _, _, _, _, _, _, _, _, _, _, _, rfl, _⟩ := h; rfl) | (obtain ⟨_, _, _, _, _, _, _, _, _, _, _, _, _, _, _, _, _, rfl, _⟩ := h; rfl) | (obtain ⟨_, _, _, _, _, _, _, _, _, _, _, _, _, _, _, _, _, _, rfl, _⟩ := h; rfl) | (obtain ⟨_, _, _, _, _, _, _, _, _, _, _, _, _, _, _, _, _, _, _, rfl, _⟩ := h; rfl)) (fun base f cdv A outer s H vs Q E hr h => ⟨_, PSs.nox (pss_cons (ps_set (i := 1) sc_answers.nd rfl (Or.inl rfl) (pe_mk0 (ok_Office_init T) (T.mkr 197 rfl) (T.glo 99 rfl) hr pass0)) (pss_cons (ps_set (i := 2) sc_answers.nd rfl (Or.inl rfl) (pe_lst pa_nil)) (pss_cons (ps_set (i := 3) sc_answers.nd rfl (Or.inl rfl) pe_int) (pss_cons (ps_while PassesOwn.never (pt_cmpR op_lt (pv 3) (pe_callB call_len (by rfl) (T.free 160 rfl) (by decide +kernel) (pa_cons (pv 0) pa_nil)) (nomark _)) (pss_cons (ps_set (i := 4) sc_answers.nd rfl (Or.inl rfl) (pe_cd (ok_behind_call T) hr pass0 (pa_cons (pv 0) (pa_cons (pv 3) pa_nil)))) (pss_cons (ps_set (i := 5) sc_answers.nd rfl (Or.inl rfl) (pe_cd (ok_answer_of T) hr pass0 (pa_cons (pv 1) (pa_cons (pv 0) (pa_cons (pv 3) (pa_cons (pv 4) pa_nil)))))) (pss_cons (ps_expr (pe_bm PySem.F.plainAttrs_list PySem.F.slot_list_append PySem.F.type_list_append mt_append (pv 2) (pa_cons (pe_callB call_len (by rfl) (T.free 160 rfl) (by decide +kernel) (pa_cons (pv 5) pa_nil)) pa_nil))) (pss_cons (ps_expr (pe_bm PySem.F.plainAttrs_list PySem.F.slot_list_extend PySem.F.type_list_extend mt_extend (pv 2) (pa_cons (pv 5) pa_nil))) (pss_one (ps_set (i := 3) sc_answers.nd rfl (Or.inl rfl) (pv 4)))))))) (pss_one (ps_ret (pv 2))))))), ?_⟩)
  obtain ⟨a, cs, rfl, hS, hA, k⟩ := h
  obtain ⟨raws0, hr0, has0, hans, hmost⟩ := asked_facts hA
  rw [hans] at hmost
  refine Sv.go (sv_setP (evp_mkoff (K := K)) fun v1 H1 e1 hv1 => ?_)
  obtain ⟨o, L0, rfl, ho, hL0, hO0⟩ := hv1
  refine sv_setP (P := NewLn H1 []) (fun H2 e2 Q q => ⟨sz_of (by show 0 ≤ 100000; decide), fun p hp => q _ _ (Ex.new hp) ⟨p, rfl, fresh_back e2 hp, upd_same⟩⟩) fun v2 H2 e2 hv2 => ?_
  obtain ⟨tl, rfl, htl0, htl⟩ := hv2
  have htlH := fresh_back e1 htl0
  have htlL : tl ∉ L0.mut := fun m => by
    obtain ⟨_, b, _, hB⟩ := hO0
    obtain ⟨u, hu, _⟩ := hB.there m
    rw [htl0] at hu
    cases hu
  refine sv_set ev_c ?_
  intro H3 e3
  have e03 := (e1.trans e2).trans e3
  have hlenI : ((cs.map V.int).length : Int) = (cs.length : Int) := by rw [List.length_map]
  refine q_while (fun m σ' H' => ∃ (B : Book) (L : Lay) (i f : Nat) (done : List Int) (raws : List (List (List Int))) (z0 z1 : Option V), σ' = [some (.ref a), some (.ref o), some (.ref tl), some (.int (i : Int)), z0, z1] ∧ i ≤ cs.length ∧ m = cs.length - i ∧ Ex H H' ∧ OffOn K B L o H' ∧ Good B ∧ (∀ x ∈ L.mut, H x = none) ∧ tl ∉ L.mut ∧ H' tl = some (.lst (iv done)) ∧
    PyFlat.calls PyWrmptr.shape f (cs.drop i) = some raws ∧ (∀ c ∈ raws, asked1 c = true) ∧ done ++ PyFlat.told (PyFlat.played TravNeutral.step B raws) = PyFlat.told (PyFlat.played TravNeutral.step TravNeutral.start raws0)) cs.length
    ⟨RunBook.empty, L0, 0, cs.length, [], raws0, none, none, rfl, Nat.zero_le _, rfl, e03, hO0.mono (e2.trans e3), good_empty, hL0, htlL, e3 _ _ htl, hr0, has0, rfl⟩ ?_
  rintro m σ' H4 ⟨B, L, i, f, done, raws, z0, z1, rfl, hi, rfl, e4, hO, hG, hLm, htm, htl4, hcal, hask, hsum⟩
  have hS4 := ex_l e4 hS
  refine ⟨decide ((i : Int) < ((iv cs).length : Int)), et_test (ev_op (ev_var rfl) (ev_len1 (ev_var rfl) hS4) rv_I0), fun hc H5 e5 => ?_, fun hc H5 e5 => ?_⟩
  · have hc := of_decide_eq_true hc
    have hil : (iv cs).length = cs.length := by unfold iv; rw [List.length_map]
    rw [hil] at hc
    have hne : cs.drop i ≠ [] := fun e => by
      have e := congrArg List.length e
      rw [List.length_drop, List.length_nil] at e
      omega
    obtain ⟨f', c, t, r, hcall, hcal', rfl⟩ := calls_cons hcal hne
    obtain ⟨j, hij, rfl, hCA⟩ := call_at hcall
    have hac := hask c (List.mem_cons_self ..)
    obtain ⟨x, hx⟩ := asked_some hac
    rw [told_cons hx] at hsum
    refine ⟨_, fun _ _ h => h, Sv.go (sv_set (v := .int (j : Int)) (ev_callV (ea_cons (ev_var rfl) (ea_cons (ev_var rfl) ea_nil)) fun H6 e6 Q k => ⟨a, cs, i, j, c, rfl, ex_l (e5.trans e6) hS4, hCA, k⟩) ?_)⟩
    intro H6 e6
    have e46 := e5.trans e6
    have hO6 := hO.mono e46
    refine ⟨.ref o, rfl, .ref a, rfl, .int (i : Int), rfl, .int (j : Int), rfl, o, a, B, L, cs, i, j, c, x, rfl, hO6, hG, ex_l e46 hS4, hCA, hx, hac, fun v H7 hd => ?_⟩
    obtain ⟨L', hO7, ⟨pa, rfl, hpa0, hpa⟩, f7, hm7, hG7⟩ := hd
    have htl6 := e46 _ _ htl4
    have hto : tl ≠ o := hO.off_lst htl4
    have htS : tl ∉ o :: L.mut := fun m => by
      rcases List.mem_cons.mp m with m | m
      · exact hto m
      · exact htm m
    have htl7 := f7.st _ _ htS htl6
    have hLf : ∀ y ∈ o :: L.mut, H y = none := fun y hy => by
      rcases List.mem_cons.mp hy with rfl | hy
      · exact ho
      · exact hLm y hy
    have e07 : Ex H H7 := ((Fr.of (S := []) (e4.trans e46)).step f7 fun y hy => .inr (hLf y hy)).ex fun _ h => absurd h List.not_mem_nil
    have hLm7 : ∀ y ∈ L'.mut, H y = none := fun y hy => by
      rcases hm7 y hy with h | h
      · exact hLm y h
      · exact fresh_back (e4.trans e46) h
    have htm7 : tl ∉ L'.mut := fun m => by
      rcases hm7 tl m with h | h
      · exact htm h
      · rw [htl6] at h
        cases h
    have hpt : pa ≠ tl := fun e => by
      rw [e, htl6] at hpa0
      cases hpa0
    have hlen := congrArg List.length hsum
    rw [List.length_append, List.length_cons, List.length_append] at hlen
    have hsz : sizeLine = 16777216 := sizeLine_eq
    have hivd : (iv done).length = done.length := by unfold iv; rw [List.length_map]
    have hiva : (iv (ansN (step B x).2)).length = (ansN (step B x).2).length := by unfold iv; rw [List.length_map]
    refine q_appS (v := .int ((ansN (step B x).2).length : Int)) htl7 (ev_var rfl) (ev_is (ev_len1 (ev_var rfl) (sq_of hpa)) (by rw [hiva])) (by rw [hivd]; omega) fun H8 e8 => ?_
    have fa : Fr [tl] H7 (upd H8 tl (.lst (iv done ++ [.int ((ansN (step B x).2).length : Int)]))) := fr_one e8
    refine q_ext (ys := iv (ansN (step B x).2)) upd_same (ev_var rfl) (evp_own rfl (by rw [upd_ne hpt]; exact e8 _ _ hpa)) (by rw [List.length_append, hivd, hiva, List.length_singleton]; omega) fun H9 e9 => ?_
    have fb : Fr [tl] H7 (upd H9 tl (.lst ((iv done ++ [.int ((ansN (step B x).2).length : Int)]) ++ iv (ansN (step B x).2)))) := (fa.then e9).upd (.inl (List.mem_singleton.mpr rfl))
    refine Sv.go (sv_last (ev_var rfl) fun H10 e10 => ⟨cs.length - j, by omega, (step B x).1, L', j, f', done ++ [((ansN (step B x).2).length : Int)] ++ ansN (step B x).2, r, _, _, rfl, hCA.1, rfl, ?_, (hO7.list (fb.then e10) htl7 htm7), hG7, hLm7, htm7, ?_, hcal', fun c hc => hask c (List.mem_cons_of_mem _ hc), ?_⟩)
    · exact ((Fr.of (S := []) e07).step (fb.then e10) fun y hy => .inr (by rw [List.mem_singleton.mp hy]; exact htlH)).ex fun _ h => absurd h List.not_mem_nil
    · have h := e10 _ _ (upd_same (H := H9) (a := tl) (o := .lst ((iv done ++ [.int ((ansN (step B x).2).length : Int)]) ++ iv (ansN (step B x).2))))
      rw [h]
      unfold iv
      rw [List.map_append, List.map_append]
      rfl
    · rw [← hsum]
      simp only [List.append_assoc, List.cons_append, List.nil_append]
  · have hc := of_decide_eq_false hc
    have hil : (iv cs).length = cs.length := by unfold iv; rw [List.length_map]
    rw [hil] at hc
    have hie : i = cs.length := by omega
    subst hie
    rw [List.drop_length] at hcal
    have hr := calls_nil hcal
    subst hr
    have hd : done = PyWrmptr.answers cs := by
      rw [hans, ← hsum]
      show done = done ++ []
      rw [List.append_nil]
    exact Sv.go (sv_ret (ev_var rfl) fun H6 e6 => k H6 tl ((e4.trans e5).trans e6) (by rw [← hd]; exact e6 _ _ (e5 _ _ htl4)))
end
end Trav
end
namespace Trav
open PySem PySem.Spec PyProof.Rows L2
open PySem.W (Codec OpenSpec WData)
/-! ## the end -/
theorem walk_E {r : OpenSpec} {k : Nat} {q : Program} {lo : List Str} {XP : (Str → Option Value) → Heap → Prop} {d : DefRec} {ps : List Str} {sp : PySem.W.Frag → Sp}
    (hwell : r.wellSaid = true) (hlen : r.args.length = ps.length) (hr : Room k callerA)
    (F : ∀ (w : World) (K : PySem.W.Frag) (mg : Str → Option Value) (fA : Addr) (h : Heap), K.In h → He.SaysD fa fn K → exB K = true → h.Ns mainGlobals mg → mg d.name = some (.ref fA) →
      ∃ fd : FuncData, (∀ (s : Shared) (us : List Value), us.length = ps.length → BindsTo s fd ⟨us, []⟩ (ps.zip us)) ∧ ∀ base : Heap, FnOk r.prog w K mg base CX0 k fA fd ps (sp K))
    (hsp : ∀ (K : PySem.W.Frag) (H : Hp) (xs : List V) (a : Codec.denoteAll r.args), OnlyF H → Codec.app r.args r.asked a = true → DwAll K H xs (Codec.encAll r.args a) →
      sp K xs H (fun v H' => Dw K H' v (r.ret.enc (Codec.app r.args r.f a))) fun _ _ _ => False) :
    PySem.W.WalkOS q lo XP hk.says r d [] (fun f vs => PySem.call f vs) := by
  intro w s₀ s₁ mg mb G Y fA o pm cd doc dV kV ho hd hcd hD hmg hg args vals as hpre hlay hrd hwl hlo
  obtain ⟨a, e1, e2⟩ := PySem.W.os_pre_some hpre
  obtain ⟨e3, hwi⟩ := Codec.encAll_of_decAll r.args args a e1
  subst e3
  obtain ⟨K, KX, hs, hx⟩ := Y
  obtain ⟨fd, hb, hF⟩ := F w K mg fA _ KX hs hx G.T.g hmg
  refine PySem.W.enter_call (codeAny_mono (spec_call (R := []) (cl := classAt s₀.heap) (d0 := r.ret.enc (Codec.app r.args r.f a)) KX G.T.g G.T.b G.T.builtins G.T.nolimit hg hwl (pl_encAll _ _) (layable_weight hlay) hr (fun base _ _ => hF base) hb (by rw [encAll_len]; exact hlen)
    (fun H xs hO hS => hsp K H xs a hO e2 hS) fun H e s' z => z.elim) fun r' s' hq => ?_)
  obtain ⟨u, as', rfl, h1, h2, h3, h4⟩ := hq
  exact ⟨.inl ⟨u, _, as', rfl, fun _ => rfl, h1, (OpenSpec.post_iff hwell hwi _ _).mpr rfl, fun z => Bool.noConfusion (show false = true from z)⟩, h2, h3, h4⟩
end Trav
namespace Trav
open PySem PySem.W PyProof.Rows
/-! what is asked of the text, in parts (each part by itself: the memory) -/
theorem looks_of {p : Program} (h1 : sreFenced p.main = true) (h2 : ((moduleNames p.main.body).isEmpty || lookedIntoSs (moduleNames p.main.body) p.main.body) = true) (h3 : namesResolve p = true) (h4 : (p.boundNames.all fun n => !worldNames.contains n) = true)
    (h5 : noRoadLSs { strict := !(importedModules p.main.body).all cThrough.contains, foot := none, bare := (["vars", "dir", "locals"] : List Str).filter (readsOut p p.main.body) } p.main.body = true) (h6 : (namesMeet p p.main.body fun _ n => attrL n) = true) : looksOpen p = true := by
  unfold looksOpen
  rw [h1, h2, h3, h4, h5, h6]
  rfl
theorem said_of {r : OpenSpec} (h : looksOpen r.prog = true) (h2 : r.prog.boundNames.contains r.name = true) (h3 : (!startupNames.contains r.name) = true) (h4 : specDef r.prog r.name r.args.length = true) (h5 : r.args.all Codec.fits = true) (h6 : r.ret.ok = true) : r.wellSaid = true := by
  unfold OpenSpec.wellSaid
  rw [h, h2, h3, h4, h5, h6]
  rfl
theorem end1 : sreFenced R.prog.main = true := by decide +kernel
theorem end2 : ((moduleNames R.prog.main.body).isEmpty || lookedIntoSs (moduleNames R.prog.main.body) R.prog.main.body) = true := by decide +kernel
theorem end3 : namesResolve R.prog = true := by decide +kernel
theorem end4 : (R.prog.boundNames.all fun n => !worldNames.contains n) = true := by decide +kernel
theorem end5 : noRoadLSs { strict := !(importedModules R.prog.main.body).all cThrough.contains, foot := none, bare := (["vars", "dir", "locals"] : List Str).filter (readsOut R.prog R.prog.main.body) } R.prog.main.body = true := by decide +kernel
theorem end6 : (namesMeet R.prog R.prog.main.body fun _ n => attrL n) = true := by decide +kernel
theorem end7 : R.prog.tablesWhole = true := by decide +kernel
theorem said : R.wellSaid = true := said_of (looks_of end1 end2 end3 end4 end5 end6) (by decide +kernel) (by decide +kernel) (by decide +kernel) (by decide +kernel) (by decide +kernel)
theorem okWell : (chainsOk View && opensWell R.prog) = true := by decide +kernel
end Trav
open PySem PySem.W PyProof.Rows
theorem PySem.Challenge.cw_legtraverse_s01_answers_holds : PySem.Challenge.rw_legtraverse_s01_answers.Holds := by
  refine HandSHeadRun.head_spec (q := Trav.View) (H := Trav.hk) (ob := Trav.ob) (M := 6400) (loose := Trav.loose) Trav.ob_eq (by rfl) (fun s => by rfl) Trav.run (by rfl) (by rfl) (by rfl) os_shapes Trav.said Trav.okWell ⟨rfl, rfl, rfl, rfl, rfl, Trav.end7⟩ ⟨[.list [.int 20]], by decide +kernel, by decide +kernel⟩ ?_
  refine Trav.walk_E (k := 10) (ps := ["calls"]) (sp := Trav.spAnswers) Trav.said rfl ⟨rfl, by decide, by decide⟩ ?_ ?_
  · intro w K mg fA h KX hs hx G hmg
    have T : Trav.Txt K mg := ⟨hs, hx, h, KX, G⟩
    obtain ⟨hg, fd, hb, hF⟩ := Trav.ok_answers (P := PySem.Challenge.rw_legtraverse_s01_answers.prog) (w := w) T
    have e := hmg.symm.trans hg
    have e := Value.ref.inj (Option.some.inj e)
    subst e
    exact ⟨fd, hb, hF⟩
  · intro K H xs a hO hask hx
    cases hx with
    | cons h1 h2 =>
      cases h2
      cases h1 with
      | lst hs ha =>
        have e := L2.ints_dw a.1 _ ha
        subst e
        exact ⟨_, a.1, rfl, hs, hask, fun H' p _ hp => .lst (L2.SqL.of hp) (L2.dw_ints _)⟩
