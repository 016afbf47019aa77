import PyProof.Rows.All
import Wide.All
import OpenK.AllK
import Wide.FinOn
import KE.KStateDown
import KE.KIsAll
import Lean
import HandS.ForMost
import HandS.ForExc
import HandS.Defaults
import HandS.ExcInit
import HandS.ExcField
import HandS.IsInst
import HandS.ClsMeth
import HandS.Property
import HandS.Head0
import HandS.Head1
import HandS.Head2
import HandS.HeadEnd
import HandS.HeadHook1
import HandS.HeadHook2
import HandS.HeadNt
import PySem.Challenge.RW_dayrecipes_k53_whole_set_texts_refused
import HandS.TupSets
import HandS.SetKeys
import HandS.DictComp
import HandS.Deep
import HandS.RaiseMore
import HandS.Style
import HandS.Conv
import HandS.Wide
import HandS.MakeKwOnly
import HandS.CallSlots
import HandS.Flow
import HandS.Codes
import HandS.Small
import HandS.FltList
import HandS.Zip
import HandS.ExcValue
import HandS.ExcIs
import KE.IntTextLaws
set_option Elab.async false
set_option linter.all false
set_option maxRecDepth 100000
set_option maxHeartbeats 4000000
/-! The text by places; the defs and the facts of the head as data. -/
namespace K5
open PySem PySem.Spec PyProof.Rows L2
def top (i : Nat) : Stmt := PySem.Challenge.pw_dayrecipes_k53_whole_set_texts_refused.main.body.getD i (.Pass ⟨0, 0, 0, 0⟩)
abbrev s_is_nth : Stmt := top 2
abbrev s_is_day : Stmt := top 3
abbrev s_holds_plain : Stmt := top 4
abbrev s_holds : Stmt := top 5
abbrev s_IT_init : Stmt := inClass (top 9) 0
abbrev s_is_integer : Stmt := top 21
abbrev s_is_period : Stmt := top 22
abbrev s_common_divisor : Stmt := top 23
abbrev s_common_multiple : Stmt := top 24
abbrev s_least_period : Stmt := top 26
abbrev s_number_in : Stmt := top 29
abbrev s_R_init : Stmt := inClass (top 45) 0
abbrev s_R_fail : Stmt := inClass (top 45) 1
abbrev s_R_is_next : Stmt := inClass (top 45) 2
abbrev s_R_taken : Stmt := inClass (top 45) 3
abbrev s_R_need : Stmt := inClass (top 45) 4
abbrev s_R_read_number : Stmt := inClass (top 45) 6
abbrev s_R_bounded : Stmt := inClass (top 45) 7
abbrev s_R_read_weekday : Stmt := inClass (top 45) 8
abbrev s_R_go_in : Stmt := inClass (top 45) 10
abbrev s_R_go_out : Stmt := inClass (top 45) 11
abbrev s_R_of_month : Stmt := inClass (top 45) 16
abbrev s_R_condition : Stmt := inClass (top 45) 18
abbrev s_R_term : Stmt := inClass (top 45) 19
abbrev s_R_factor : Stmt := inClass (top 45) 20
abbrev s_R_plain_factor : Stmt := inClass (top 45) 21
abbrev s_R_finish : Stmt := inClass (top 45) 22
abbrev s_set_in : Stmt := top 46
abbrev s_are_days : Stmt := top 49
abbrev s_DS_init : Stmt := inClass (top 51) 0
abbrev s_DS_read : Stmt := inClass (top 51) 8
abbrev s_is_row : Stmt := top 54
abbrev s_is_between : Stmt := top 55
abbrev s_are_years : Stmt := top 56
abbrev s_are_weekdays : Stmt := top 57
abbrev s_are_holidays : Stmt := top 58
abbrev s_month_starts : Stmt := top 59
abbrev s_month_at : Stmt := top 60
abbrev s_C_init : Stmt := inClass (top 61) 0
abbrev s_C_first_works : Stmt := inClass (top 61) 7
abbrev s_C_week : Stmt := inClass (top 61) 11
abbrev s_C_months : Stmt := inClass (top 61) 15
abbrev s_C_period : Stmt := inClass (top 61) 17
abbrev s_C_month_start : Stmt := inClass (top 61) 19
abbrev s_C_month_days : Stmt := inClass (top 61) 20
abbrev s_C_month_number : Stmt := inClass (top 61) 21
abbrev s_C_month_length : Stmt := inClass (top 61) 22
abbrev s_C_parts : Stmt := inClass (top 61) 24
abbrev s_C_weekday : Stmt := inClass (top 61) 25
abbrev s_C_is_work : Stmt := inClass (top 61) 26
abbrev s_law_pen : Stmt := top 63
abbrev s_law_draw : Stmt := top 64
abbrev s_law_pick : Stmt := top 65
abbrev s_law_shuffled : Stmt := top 66
abbrev s_law_gcd : Stmt := top 67
abbrev s_law_multiple : Stmt := top 68
abbrev s_law_any : Stmt := top 69
abbrev s_law_calendar : Stmt := top 70
abbrev s_law_cycle : Stmt := top 71
abbrev s_law_place : Stmt := top 72
abbrev s_law_weekday : Stmt := top 73
abbrev s_law_is_rest : Stmt := top 74
abbrev s_law_opened : Stmt := top 75
abbrev s_law_nth : Stmt := top 76
abbrev s_law_leaf : Stmt := top 77
abbrev s_law_tree : Stmt := top 78
abbrev s_law_words : Stmt := top 79
abbrev s_law_number : Stmt := top 80
abbrev s_law_argument_right : Stmt := top 81
abbrev s_law_first_wrong : Stmt := top 82
abbrev s_law_bent : Stmt := top 83
abbrev s_law_changed : Stmt := top 84
abbrev s_law_told : Stmt := top 85
abbrev s_law : Stmt := top 86

abbrev n_is_nth : List Str := ["calendar", "date", "number", "weekday", "year", "month", "day", "gap"]
theorem sc_is_nth : FnScope n_is_nth ["calendar", "date", "number", "weekday"] (defScope s_is_nth) := ⟨rfl, rfl, rfl, by decide +kernel, rfl, by decide +kernel, by decide +kernel⟩
abbrev n_is_day : List Str := ["calendar", "date", "number", "year", "month", "day"]
theorem sc_is_day : FnScope n_is_day ["calendar", "date", "number"] (defScope s_is_day) := ⟨rfl, rfl, rfl, by decide +kernel, rfl, by decide +kernel, by decide +kernel⟩
abbrev n_holds_plain : List Str := ["calendar", "condition", "date", "word"]
theorem sc_holds_plain : FnScope n_holds_plain ["calendar", "condition", "date"] (defScope s_holds_plain) := ⟨rfl, rfl, rfl, by decide +kernel, rfl, by decide +kernel, by decide +kernel⟩
abbrev n_holds : List Str := ["calendar", "condition", "date", "known", "word", "one"]
theorem sc_holds : FnScope n_holds ["calendar", "condition", "date", "known"] (defScope s_holds) := ⟨rfl, rfl, rfl, by decide +kernel, rfl, by decide +kernel, by decide +kernel⟩
abbrev n_IT_init : List Str := ["self", "index"]
theorem sc_IT_init : FnScope n_IT_init ["self", "index"] (defScope s_IT_init) := ⟨rfl, rfl, rfl, by decide +kernel, rfl, by decide +kernel, by decide +kernel⟩
abbrev n_is_integer : List Str := ["value"]
theorem sc_is_integer : FnScope n_is_integer ["value"] (defScope s_is_integer) := ⟨rfl, rfl, rfl, by decide +kernel, rfl, by decide +kernel, by decide +kernel⟩
abbrev n_is_period : List Str := ["value"]
theorem sc_is_period : FnScope n_is_period ["value"] (defScope s_is_period) := ⟨rfl, rfl, rfl, by decide +kernel, rfl, by decide +kernel, by decide +kernel⟩
abbrev n_common_divisor : List Str := ["one", "other"]
theorem sc_common_divisor : FnScope n_common_divisor ["one", "other"] (defScope s_common_divisor) := ⟨rfl, rfl, rfl, by decide +kernel, rfl, by decide +kernel, by decide +kernel⟩
abbrev n_common_multiple : List Str := ["one", "other"]
theorem sc_common_multiple : FnScope n_common_multiple ["one", "other"] (defScope s_common_multiple) := ⟨rfl, rfl, rfl, by decide +kernel, rfl, by decide +kernel, by decide +kernel⟩
abbrev n_least_period : List Str := ["rows", "found", "rest", "prime", "days"]
theorem sc_least_period : FnScope n_least_period ["rows"] (defScope s_least_period) := ⟨rfl, rfl, rfl, by decide +kernel, rfl, by decide +kernel, by decide +kernel⟩
abbrev n_number_in : List Str := ["word", "most", "digits", "sign"]
theorem sc_number_in : FnScope n_number_in ["word", "most"] (defScope s_number_in) := ⟨rfl, rfl, rfl, by decide +kernel, rfl, by decide +kernel, by decide +kernel⟩
abbrev n_R_init : List Str := ["self", "calendar", "text", "with_names"]
theorem sc_R_init : FnScope n_R_init ["self", "calendar", "text", "with_names"] (defScope s_R_init) := ⟨rfl, rfl, rfl, by decide +kernel, rfl, by decide +kernel, by decide +kernel⟩
abbrev n_R_fail : List Str := ["self"]
theorem sc_R_fail : FnScope n_R_fail ["self"] (defScope s_R_fail) := ⟨rfl, rfl, rfl, by decide +kernel, rfl, by decide +kernel, by decide +kernel⟩
abbrev n_R_is_next : List Str := ["self", "word"]
theorem sc_R_is_next : FnScope n_R_is_next ["self", "word"] (defScope s_R_is_next) := ⟨rfl, rfl, rfl, by decide +kernel, rfl, by decide +kernel, by decide +kernel⟩
abbrev n_R_taken : List Str := ["self"]
theorem sc_R_taken : FnScope n_R_taken ["self"] (defScope s_R_taken) := ⟨rfl, rfl, rfl, by decide +kernel, rfl, by decide +kernel, by decide +kernel⟩
abbrev n_R_need : List Str := ["self", "word"]
theorem sc_R_need : FnScope n_R_need ["self", "word"] (defScope s_R_need) := ⟨rfl, rfl, rfl, by decide +kernel, rfl, by decide +kernel, by decide +kernel⟩
abbrev n_R_read_number : List Str := ["self", "number"]
theorem sc_R_read_number : FnScope n_R_read_number ["self"] (defScope s_R_read_number) := ⟨rfl, rfl, rfl, by decide +kernel, rfl, by decide +kernel, by decide +kernel⟩
abbrev n_R_bounded : List Str := ["self", "low", "high", "number"]
theorem sc_R_bounded : FnScope n_R_bounded ["self", "low", "high"] (defScope s_R_bounded) := ⟨rfl, rfl, rfl, by decide +kernel, rfl, by decide +kernel, by decide +kernel⟩
abbrev n_R_read_weekday : List Str := ["self"]
theorem sc_R_read_weekday : FnScope n_R_read_weekday ["self"] (defScope s_R_read_weekday) := ⟨rfl, rfl, rfl, by decide +kernel, rfl, by decide +kernel, by decide +kernel⟩
abbrev n_R_go_in : List Str := ["self"]
theorem sc_R_go_in : FnScope n_R_go_in ["self"] (defScope s_R_go_in) := ⟨rfl, rfl, rfl, by decide +kernel, rfl, by decide +kernel, by decide +kernel⟩
abbrev n_R_go_out : List Str := ["self"]
theorem sc_R_go_out : FnScope n_R_go_out ["self"] (defScope s_R_go_out) := ⟨rfl, rfl, rfl, by decide +kernel, rfl, by decide +kernel, by decide +kernel⟩
abbrev n_R_of_month : List Str := ["self", "word", "number"]
theorem sc_R_of_month : FnScope n_R_of_month ["self", "word"] (defScope s_R_of_month) := ⟨rfl, rfl, rfl, by decide +kernel, rfl, by decide +kernel, by decide +kernel⟩
abbrev n_R_condition : List Str := ["self", "found"]
theorem sc_R_condition : FnScope n_R_condition ["self"] (defScope s_R_condition) := ⟨rfl, rfl, rfl, by decide +kernel, rfl, by decide +kernel, by decide +kernel⟩
abbrev n_R_term : List Str := ["self", "found"]
theorem sc_R_term : FnScope n_R_term ["self"] (defScope s_R_term) := ⟨rfl, rfl, rfl, by decide +kernel, rfl, by decide +kernel, by decide +kernel⟩
abbrev n_R_factor : List Str := ["self", "is_turned", "found"]
theorem sc_R_factor : FnScope n_R_factor ["self"] (defScope s_R_factor) := ⟨rfl, rfl, rfl, by decide +kernel, rfl, by decide +kernel, by decide +kernel⟩
abbrev n_R_plain_factor : List Str := ["self", "found", "place", "word"]
theorem sc_R_plain_factor : FnScope n_R_plain_factor ["self"] (defScope s_R_plain_factor) := ⟨rfl, rfl, rfl, by decide +kernel, rfl, by decide +kernel, by decide +kernel⟩
abbrev n_R_finish : List Str := ["self"]
theorem sc_R_finish : FnScope n_R_finish ["self"] (defScope s_R_finish) := ⟨rfl, rfl, rfl, by decide +kernel, rfl, by decide +kernel, by decide +kernel⟩
abbrev n_set_in : List Str := ["calendar", "text", "with_names", "reader", "found"]
theorem sc_set_in : FnScope n_set_in ["calendar", "text", "with_names"] (defScope s_set_in) := ⟨rfl, rfl, rfl, by decide +kernel, rfl, by decide +kernel, by decide +kernel⟩
abbrev n_are_days : List Str := ["period", "days", "day"]
theorem sc_are_days : FnScope n_are_days ["period", "days"] (defScope s_are_days) := ⟨rfl, rfl, rfl, by decide +kernel, rfl, by decide +kernel, by decide +kernel⟩
abbrev n_DS_init : List Str := ["self", "period", "days", "known", "flags", "day", "flag"]
theorem sc_DS_init : FnScope n_DS_init ["self", "period", "days"] (defScope s_DS_init) := ⟨rfl, rfl, rfl, by decide +kernel, rfl, by decide +kernel, by decide +kernel⟩
abbrev n_DS_read : List Str := ["cls", "calendar", "text", "condition", "days", "day"]
theorem sc_DS_read : FnScope n_DS_read ["cls", "calendar", "text"] (defScope s_DS_read) := ⟨rfl, rfl, rfl, by decide +kernel, rfl, by decide +kernel, by decide +kernel⟩
abbrev n_is_row : List Str := ["value"]
theorem sc_is_row : FnScope n_is_row ["value"] (defScope s_is_row) := ⟨rfl, rfl, rfl, by decide +kernel, rfl, by decide +kernel, by decide +kernel⟩
abbrev n_is_between : List Str := ["value", "low", "high"]
theorem sc_is_between : FnScope n_is_between ["value", "low", "high"] (defScope s_is_between) := ⟨rfl, rfl, rfl, by decide +kernel, rfl, by decide +kernel, by decide +kernel⟩
abbrev n_are_years : List Str := ["years", "year", "days"]
theorem sc_are_years : FnScope n_are_years ["years"] (defScope s_are_years) := ⟨rfl, rfl, rfl, by decide +kernel, rfl, by decide +kernel, by decide +kernel⟩
abbrev n_are_weekdays : List Str := ["rest", "week", "weekday"]
theorem sc_are_weekdays : FnScope n_are_weekdays ["rest", "week"] (defScope s_are_weekdays) := ⟨rfl, rfl, rfl, by decide +kernel, rfl, by decide +kernel, by decide +kernel⟩
abbrev n_are_holidays : List Str := ["holidays", "months", "holiday"]
theorem sc_are_holidays : FnScope n_are_holidays ["holidays", "months"] (defScope s_are_holidays) := ⟨rfl, rfl, rfl, by decide +kernel, rfl, by decide +kernel, by decide +kernel⟩
abbrev n_month_starts : List Str := ["lengths", "found", "days"]
theorem sc_month_starts : FnScope n_month_starts ["lengths"] (defScope s_month_starts) := ⟨rfl, rfl, rfl, by decide +kernel, rfl, by decide +kernel, by decide +kernel⟩
abbrev n_month_at : List Str := ["starts", "day", "low", "high", "middle"]
theorem sc_month_at : FnScope n_month_at ["starts", "day"] (defScope s_month_at) := ⟨rfl, rfl, rfl, by decide +kernel, rfl, by decide +kernel, by decide +kernel⟩
abbrev n_C_init : List Str := ["self", "years", "week", "first", "rest", "holidays", "year", "days"]
theorem sc_C_init : FnScope n_C_init ["self", "years", "week", "first", "rest", "holidays"] (defScope s_C_init) := ⟨rfl, rfl, rfl, by decide +kernel, rfl, by decide +kernel, by decide +kernel⟩
abbrev n_C_first_works : List Str := ["self", "period", "found", "day"]
theorem sc_C_first_works : FnScope n_C_first_works ["self"] (defScope s_C_first_works) := ⟨rfl, rfl, rfl, by decide +kernel, rfl, by decide +kernel, by decide +kernel⟩
abbrev n_C_week : List Str := ["self"]
theorem sc_C_week : FnScope n_C_week ["self"] (defScope s_C_week) := ⟨rfl, rfl, rfl, by decide +kernel, rfl, by decide +kernel, by decide +kernel⟩
abbrev n_C_months : List Str := ["self"]
theorem sc_C_months : FnScope n_C_months ["self"] (defScope s_C_months) := ⟨rfl, rfl, rfl, by decide +kernel, rfl, by decide +kernel, by decide +kernel⟩
abbrev n_C_period : List Str := ["self"]
theorem sc_C_period : FnScope n_C_period ["self"] (defScope s_C_period) := ⟨rfl, rfl, rfl, by decide +kernel, rfl, by decide +kernel, by decide +kernel⟩
abbrev n_C_month_start : List Str := ["self", "number", "many"]
theorem sc_C_month_start : FnScope n_C_month_start ["self", "number"] (defScope s_C_month_start) := ⟨rfl, rfl, rfl, by decide +kernel, rfl, by decide +kernel, by decide +kernel⟩
abbrev n_C_month_days : List Str := ["self", "number"]
theorem sc_C_month_days : FnScope n_C_month_days ["self", "number"] (defScope s_C_month_days) := ⟨rfl, rfl, rfl, by decide +kernel, rfl, by decide +kernel, by decide +kernel⟩
abbrev n_C_month_number : List Str := ["self", "date", "days"]
theorem sc_C_month_number : FnScope n_C_month_number ["self", "date"] (defScope s_C_month_number) := ⟨rfl, rfl, rfl, by decide +kernel, rfl, by decide +kernel, by decide +kernel⟩
abbrev n_C_month_length : List Str := ["self", "year", "month"]
theorem sc_C_month_length : FnScope n_C_month_length ["self", "year", "month"] (defScope s_C_month_length) := ⟨rfl, rfl, rfl, by decide +kernel, rfl, by decide +kernel, by decide +kernel⟩
abbrev n_C_parts : List Str := ["self", "date", "number"]
theorem sc_C_parts : FnScope n_C_parts ["self", "date"] (defScope s_C_parts) := ⟨rfl, rfl, rfl, by decide +kernel, rfl, by decide +kernel, by decide +kernel⟩
abbrev n_C_weekday : List Str := ["self", "date"]
theorem sc_C_weekday : FnScope n_C_weekday ["self", "date"] (defScope s_C_weekday) := ⟨rfl, rfl, rfl, by decide +kernel, rfl, by decide +kernel, by decide +kernel⟩
abbrev n_C_is_work : List Str := ["self", "date"]
theorem sc_C_is_work : FnScope n_C_is_work ["self", "date"] (defScope s_C_is_work) := ⟨rfl, rfl, rfl, by decide +kernel, rfl, by decide +kernel, by decide +kernel⟩
abbrev n_law_pen : List Str := ["_law_script"]
theorem sc_law_pen : FnScope n_law_pen ["_law_script"] (defScope s_law_pen) := ⟨rfl, rfl, rfl, by decide +kernel, rfl, by decide +kernel, by decide +kernel⟩
abbrev n_law_draw : List Str := ["_law_pen_here", "_law_many", "_law_digit", "_law_used", "_law_cell", "_law_mixed"]
theorem sc_law_draw : FnScope n_law_draw ["_law_pen_here", "_law_many"] (defScope s_law_draw) := ⟨rfl, rfl, rfl, by decide +kernel, rfl, by decide +kernel, by decide +kernel⟩
abbrev n_law_pick : List Str := ["_law_pen_here", "_law_some"]
theorem sc_law_pick : FnScope n_law_pick ["_law_pen_here", "_law_some"] (defScope s_law_pick) := ⟨rfl, rfl, rfl, by decide +kernel, rfl, by decide +kernel, by decide +kernel⟩
abbrev n_law_shuffled : List Str := ["_law_pen_here", "_law_some", "_law_idle", "_law_found"]
theorem sc_law_shuffled : FnScope n_law_shuffled ["_law_pen_here", "_law_some"] (defScope s_law_shuffled) := ⟨rfl, rfl, rfl, by decide +kernel, rfl, by decide +kernel, by decide +kernel⟩
abbrev n_law_gcd : List Str := ["_law_one", "_law_other"]
theorem sc_law_gcd : FnScope n_law_gcd ["_law_one", "_law_other"] (defScope s_law_gcd) := ⟨rfl, rfl, rfl, by decide +kernel, rfl, by decide +kernel, by decide +kernel⟩
abbrev n_law_multiple : List Str := ["_law_one", "_law_other"]
theorem sc_law_multiple : FnScope n_law_multiple ["_law_one", "_law_other"] (defScope s_law_multiple) := ⟨rfl, rfl, rfl, by decide +kernel, rfl, by decide +kernel, by decide +kernel⟩
abbrev n_law_any : List Str := ["_law_pen_here", "_law_some"]
theorem sc_law_any : FnScope n_law_any ["_law_pen_here"] (defScope s_law_any) := ⟨rfl, rfl, rfl, by decide +kernel, rfl, by decide +kernel, by decide +kernel⟩
abbrev n_law_calendar : List Str := ["_law_pen_here", "_law_most", "_law_months", "_law_many", "_law_week", "_law_years", "_law_lengths", "_law_begins", "_law_idle", "_law_free", "_law_turn", "_law_holiday", "_law_plain", "_law_year", "_law_month", "_law_day"]
theorem sc_law_calendar : FnScope n_law_calendar ["_law_pen_here", "_law_most"] (defScope s_law_calendar) := ⟨rfl, rfl, rfl, by decide +kernel, rfl, by decide +kernel, by decide +kernel⟩
abbrev n_law_cycle : List Str := ["_law_plain"]
theorem sc_law_cycle : FnScope n_law_cycle ["_law_plain"] (defScope s_law_cycle) := ⟨rfl, rfl, rfl, by decide +kernel, rfl, by decide +kernel, by decide +kernel⟩
abbrev n_law_place : List Str := ["_law_plain", "_law_date", "_law_lengths", "_law_number_here", "_law_idle", "_law_days"]
theorem sc_law_place : FnScope n_law_place ["_law_plain", "_law_date"] (defScope s_law_place) := ⟨rfl, rfl, rfl, by decide +kernel, rfl, by decide +kernel, by decide +kernel⟩
abbrev n_law_weekday : List Str := ["_law_plain", "_law_date"]
theorem sc_law_weekday : FnScope n_law_weekday ["_law_plain", "_law_date"] (defScope s_law_weekday) := ⟨rfl, rfl, rfl, by decide +kernel, rfl, by decide +kernel, by decide +kernel⟩
abbrev n_law_is_rest : List Str := ["_law_plain", "_law_date", "_law_number_here", "_law_day"]
theorem sc_law_is_rest : FnScope n_law_is_rest ["_law_plain", "_law_date"] (defScope s_law_is_rest) := ⟨rfl, rfl, rfl, by decide +kernel, rfl, by decide +kernel, by decide +kernel⟩
abbrev n_law_opened : List Str := ["_law_plain", "_law_idle", "_law_free"]
theorem sc_law_opened : FnScope n_law_opened ["_law_plain"] (defScope s_law_opened) := ⟨rfl, rfl, rfl, by decide +kernel, rfl, by decide +kernel, by decide +kernel⟩
abbrev n_law_nth : List Str := ["_law_pen_here"]
theorem sc_law_nth : FnScope n_law_nth ["_law_pen_here"] (defScope s_law_nth) := ⟨rfl, rfl, rfl, by decide +kernel, rfl, by decide +kernel, by decide +kernel⟩
abbrev n_law_leaf : List Str := ["_law_pen_here", "_law_plain", "_law_weekday_here", "_law_some"]
theorem sc_law_leaf : FnScope n_law_leaf ["_law_pen_here", "_law_plain"] (defScope s_law_leaf) := ⟨rfl, rfl, rfl, by decide +kernel, rfl, by decide +kernel, by decide +kernel⟩
abbrev n_law_tree : List Str := ["_law_pen_here", "_law_plain", "_law_deep", "_law_way", "_law_word", "_law_part"]
theorem sc_law_tree : FnScope n_law_tree ["_law_pen_here", "_law_plain", "_law_deep"] (defScope s_law_tree) := ⟨rfl, rfl, rfl, by decide +kernel, rfl, by decide +kernel, by decide +kernel⟩
abbrev n_law_words : List Str := ["_law_tree_here", "_law_layer", "_law_kind", "_law_told_here", "_law_found", "_law_inner", "_law_part", "_law_word"]
theorem sc_law_words : FnScope n_law_words ["_law_tree_here", "_law_layer"] (defScope s_law_words) := ⟨rfl, rfl, rfl, by decide +kernel, rfl, by decide +kernel, by decide +kernel⟩
abbrev n_law_number : List Str := ["_law_word", "_law_digits", "_law_sign"]
theorem sc_law_number : FnScope n_law_number ["_law_word"] (defScope s_law_number) := ⟨rfl, rfl, rfl, by decide +kernel, rfl, by decide +kernel, by decide +kernel⟩
abbrev n_law_argument_right : List Str := ["_law_plain", "_law_kind", "_law_word", "_law_number_here"]
theorem sc_law_argument_right : FnScope n_law_argument_right ["_law_plain", "_law_kind", "_law_word"] (defScope s_law_argument_right) := ⟨rfl, rfl, rfl, by decide +kernel, rfl, by decide +kernel, by decide +kernel⟩
abbrev n_law_first_wrong : List Str := ["_law_plain", "_law_value", "_law_words_here", "_law_levels", "_law_is_open", "_law_kinds", "_law_heads", "_law_at", "_law_word"]
theorem sc_law_first_wrong : FnScope n_law_first_wrong ["_law_plain", "_law_value"] (defScope s_law_first_wrong) := ⟨rfl, rfl, rfl, by decide +kernel, rfl, by decide +kernel, by decide +kernel⟩
abbrev n_law_bent : List Str := ["_law_pen_here", "_law_words_here", "_law_at", "_law_way", "_law_pool", "_law_more", "_law_rows", "_law_pair"]
theorem sc_law_bent : FnScope n_law_bent ["_law_pen_here", "_law_words_here"] (defScope s_law_bent) := ⟨rfl, rfl, rfl, by decide +kernel, rfl, by decide +kernel, by decide +kernel⟩
abbrev n_law_changed : List Str := ["_law_pen_here", "_law_text", "_law_at", "_law_signs", "_law_sign", "_law_way"]
theorem sc_law_changed : FnScope n_law_changed ["_law_pen_here", "_law_text"] (defScope s_law_changed) := ⟨rfl, rfl, rfl, by decide +kernel, rfl, by decide +kernel, by decide +kernel⟩
abbrev n_law_told : List Str := ["_law_calendar_here", "_law_value", "_law_caught", "_law_found", "e"]
theorem sc_law_told : FnScope n_law_told ["_law_calendar_here", "_law_value"] (defScope s_law_told) := ⟨rfl, rfl, rfl, by decide +kernel, rfl, by decide +kernel, by decide +kernel⟩
abbrev n_law : List Str := ["_law_script", "_law_pen_here", "_law_turn", "_law_plain", "_law_calendar_here", "_law_again", "_law_words_here", "_law_change", "_law_value"]
theorem sc_law : FnScope n_law ["_law_script"] (defScope s_law) := ⟨rfl, rfl, rfl, by decide +kernel, rfl, by decide +kernel, by decide +kernel⟩
/-! ### where the defs stand -/
def aG (x : Str) : PySem.W.Frag → Addr := fun K => He.ga K x
def aM (C m : Str) : PySem.W.Frag → Addr := fun K => He.ma K (He.ga K C) m
def aC (C m : Str) : PySem.W.Frag → Addr := fun K => He5.wf K (He.ga K C) "classmethod" m
def aP (C m : Str) : PySem.W.Frag → Addr := fun K => He5.wf K (He.ga K C) "property" m
def d_is_nth : He5.DefA := ⟨aG "is_nth", "is_nth", "is_nth", defArgs s_is_nth, defBody s_is_nth, defScope s_is_nth, [], []⟩
def d_is_day : He5.DefA := ⟨aG "is_day", "is_day", "is_day", defArgs s_is_day, defBody s_is_day, defScope s_is_day, [], []⟩
def d_holds_plain : He5.DefA := ⟨aG "holds_plain", "holds_plain", "holds_plain", defArgs s_holds_plain, defBody s_holds_plain, defScope s_holds_plain, [], []⟩
def d_holds : He5.DefA := ⟨aG "holds", "holds", "holds", defArgs s_holds, defBody s_holds, defScope s_holds, [], []⟩
def d_IT_init : He5.DefA := ⟨aM "InvalidText" "__init__", "__init__", "InvalidText.__init__", defArgs s_IT_init, defBody s_IT_init, defScope s_IT_init, [], []⟩
def d_is_integer : He5.DefA := ⟨aG "is_integer", "is_integer", "is_integer", defArgs s_is_integer, defBody s_is_integer, defScope s_is_integer, [], []⟩
def d_is_period : He5.DefA := ⟨aG "is_period", "is_period", "is_period", defArgs s_is_period, defBody s_is_period, defScope s_is_period, [], []⟩
def d_common_divisor : He5.DefA := ⟨aG "common_divisor", "common_divisor", "common_divisor", defArgs s_common_divisor, defBody s_common_divisor, defScope s_common_divisor, [], []⟩
def d_common_multiple : He5.DefA := ⟨aG "common_multiple", "common_multiple", "common_multiple", defArgs s_common_multiple, defBody s_common_multiple, defScope s_common_multiple, [], []⟩
def d_least_period : He5.DefA := ⟨aG "least_period", "least_period", "least_period", defArgs s_least_period, defBody s_least_period, defScope s_least_period, [], []⟩
def d_number_in : He5.DefA := ⟨aG "number_in", "number_in", "number_in", defArgs s_number_in, defBody s_number_in, defScope s_number_in, [], []⟩
def d_R_init : He5.DefA := ⟨aM "Reader" "__init__", "__init__", "Reader.__init__", defArgs s_R_init, defBody s_R_init, defScope s_R_init, [], []⟩
def d_R_fail : He5.DefA := ⟨aM "Reader" "fail", "fail", "Reader.fail", defArgs s_R_fail, defBody s_R_fail, defScope s_R_fail, [], []⟩
def d_R_is_next : He5.DefA := ⟨aM "Reader" "is_next", "is_next", "Reader.is_next", defArgs s_R_is_next, defBody s_R_is_next, defScope s_R_is_next, [], []⟩
def d_R_taken : He5.DefA := ⟨aM "Reader" "taken", "taken", "Reader.taken", defArgs s_R_taken, defBody s_R_taken, defScope s_R_taken, [], []⟩
def d_R_need : He5.DefA := ⟨aM "Reader" "need", "need", "Reader.need", defArgs s_R_need, defBody s_R_need, defScope s_R_need, [], []⟩
def d_R_read_number : He5.DefA := ⟨aM "Reader" "read_number", "read_number", "Reader.read_number", defArgs s_R_read_number, defBody s_R_read_number, defScope s_R_read_number, [], []⟩
def d_R_bounded : He5.DefA := ⟨aM "Reader" "bounded", "bounded", "Reader.bounded", defArgs s_R_bounded, defBody s_R_bounded, defScope s_R_bounded, [], []⟩
def d_R_read_weekday : He5.DefA := ⟨aM "Reader" "read_weekday", "read_weekday", "Reader.read_weekday", defArgs s_R_read_weekday, defBody s_R_read_weekday, defScope s_R_read_weekday, [], []⟩
def d_R_go_in : He5.DefA := ⟨aM "Reader" "go_in", "go_in", "Reader.go_in", defArgs s_R_go_in, defBody s_R_go_in, defScope s_R_go_in, [], []⟩
def d_R_go_out : He5.DefA := ⟨aM "Reader" "go_out", "go_out", "Reader.go_out", defArgs s_R_go_out, defBody s_R_go_out, defScope s_R_go_out, [], []⟩
def d_R_of_month : He5.DefA := ⟨aM "Reader" "of_month", "of_month", "Reader.of_month", defArgs s_R_of_month, defBody s_R_of_month, defScope s_R_of_month, [], []⟩
def d_R_condition : He5.DefA := ⟨aM "Reader" "condition", "condition", "Reader.condition", defArgs s_R_condition, defBody s_R_condition, defScope s_R_condition, [], []⟩
def d_R_term : He5.DefA := ⟨aM "Reader" "term", "term", "Reader.term", defArgs s_R_term, defBody s_R_term, defScope s_R_term, [], []⟩
def d_R_factor : He5.DefA := ⟨aM "Reader" "factor", "factor", "Reader.factor", defArgs s_R_factor, defBody s_R_factor, defScope s_R_factor, [], []⟩
def d_R_plain_factor : He5.DefA := ⟨aM "Reader" "plain_factor", "plain_factor", "Reader.plain_factor", defArgs s_R_plain_factor, defBody s_R_plain_factor, defScope s_R_plain_factor, [], []⟩
def d_R_finish : He5.DefA := ⟨aM "Reader" "finish", "finish", "Reader.finish", defArgs s_R_finish, defBody s_R_finish, defScope s_R_finish, [], []⟩
def d_set_in : He5.DefA := ⟨aG "set_in", "set_in", "set_in", defArgs s_set_in, defBody s_set_in, defScope s_set_in, [.bl false], []⟩
def d_are_days : He5.DefA := ⟨aG "are_days", "are_days", "are_days", defArgs s_are_days, defBody s_are_days, defScope s_are_days, [], []⟩
def d_DS_init : He5.DefA := ⟨aM "DaySet" "__init__", "__init__", "DaySet.__init__", defArgs s_DS_init, defBody s_DS_init, defScope s_DS_init, [], []⟩
def d_DS_read : He5.DefA := ⟨aC "DaySet" "read", "read", "DaySet.read", defArgs s_DS_read, defBody s_DS_read, defScope s_DS_read, [], []⟩
def d_is_row : He5.DefA := ⟨aG "is_row", "is_row", "is_row", defArgs s_is_row, defBody s_is_row, defScope s_is_row, [], []⟩
def d_is_between : He5.DefA := ⟨aG "is_between", "is_between", "is_between", defArgs s_is_between, defBody s_is_between, defScope s_is_between, [], []⟩
def d_are_years : He5.DefA := ⟨aG "are_years", "are_years", "are_years", defArgs s_are_years, defBody s_are_years, defScope s_are_years, [], []⟩
def d_are_weekdays : He5.DefA := ⟨aG "are_weekdays", "are_weekdays", "are_weekdays", defArgs s_are_weekdays, defBody s_are_weekdays, defScope s_are_weekdays, [], []⟩
def d_are_holidays : He5.DefA := ⟨aG "are_holidays", "are_holidays", "are_holidays", defArgs s_are_holidays, defBody s_are_holidays, defScope s_are_holidays, [], []⟩
def d_month_starts : He5.DefA := ⟨aG "month_starts", "month_starts", "month_starts", defArgs s_month_starts, defBody s_month_starts, defScope s_month_starts, [], []⟩
def d_month_at : He5.DefA := ⟨aG "month_at", "month_at", "month_at", defArgs s_month_at, defBody s_month_at, defScope s_month_at, [], []⟩
def d_C_init : He5.DefA := ⟨aM "Calendar" "__init__", "__init__", "Calendar.__init__", defArgs s_C_init, defBody s_C_init, defScope s_C_init, [.int 7], [("first", .int 0)]⟩
def d_C_first_works : He5.DefA := ⟨aM "Calendar" "first_works", "first_works", "Calendar.first_works", defArgs s_C_first_works, defBody s_C_first_works, defScope s_C_first_works, [], []⟩
def d_C_week : He5.DefA := ⟨aP "Calendar" "week", "week", "Calendar.week", defArgs s_C_week, defBody s_C_week, defScope s_C_week, [], []⟩
def d_C_months : He5.DefA := ⟨aP "Calendar" "months", "months", "Calendar.months", defArgs s_C_months, defBody s_C_months, defScope s_C_months, [], []⟩
def d_C_period : He5.DefA := ⟨aP "Calendar" "period", "period", "Calendar.period", defArgs s_C_period, defBody s_C_period, defScope s_C_period, [], []⟩
def d_C_month_start : He5.DefA := ⟨aM "Calendar" "month_start", "month_start", "Calendar.month_start", defArgs s_C_month_start, defBody s_C_month_start, defScope s_C_month_start, [], []⟩
def d_C_month_days : He5.DefA := ⟨aM "Calendar" "month_days", "month_days", "Calendar.month_days", defArgs s_C_month_days, defBody s_C_month_days, defScope s_C_month_days, [], []⟩
def d_C_month_number : He5.DefA := ⟨aM "Calendar" "month_number", "month_number", "Calendar.month_number", defArgs s_C_month_number, defBody s_C_month_number, defScope s_C_month_number, [], []⟩
def d_C_month_length : He5.DefA := ⟨aM "Calendar" "month_length", "month_length", "Calendar.month_length", defArgs s_C_month_length, defBody s_C_month_length, defScope s_C_month_length, [], []⟩
def d_C_parts : He5.DefA := ⟨aM "Calendar" "parts", "parts", "Calendar.parts", defArgs s_C_parts, defBody s_C_parts, defScope s_C_parts, [], []⟩
def d_C_weekday : He5.DefA := ⟨aM "Calendar" "weekday", "weekday", "Calendar.weekday", defArgs s_C_weekday, defBody s_C_weekday, defScope s_C_weekday, [], []⟩
def d_C_is_work : He5.DefA := ⟨aM "Calendar" "is_work", "is_work", "Calendar.is_work", defArgs s_C_is_work, defBody s_C_is_work, defScope s_C_is_work, [], []⟩
def d_law_pen : He5.DefA := ⟨aG "_law_pen", "_law_pen", "_law_pen", defArgs s_law_pen, defBody s_law_pen, defScope s_law_pen, [], []⟩
def d_law_draw : He5.DefA := ⟨aG "_law_draw", "_law_draw", "_law_draw", defArgs s_law_draw, defBody s_law_draw, defScope s_law_draw, [], []⟩
def d_law_pick : He5.DefA := ⟨aG "_law_pick", "_law_pick", "_law_pick", defArgs s_law_pick, defBody s_law_pick, defScope s_law_pick, [], []⟩
def d_law_shuffled : He5.DefA := ⟨aG "_law_shuffled", "_law_shuffled", "_law_shuffled", defArgs s_law_shuffled, defBody s_law_shuffled, defScope s_law_shuffled, [], []⟩
def d_law_gcd : He5.DefA := ⟨aG "_law_gcd", "_law_gcd", "_law_gcd", defArgs s_law_gcd, defBody s_law_gcd, defScope s_law_gcd, [], []⟩
def d_law_multiple : He5.DefA := ⟨aG "_law_multiple", "_law_multiple", "_law_multiple", defArgs s_law_multiple, defBody s_law_multiple, defScope s_law_multiple, [], []⟩
def d_law_any : He5.DefA := ⟨aG "_law_any", "_law_any", "_law_any", defArgs s_law_any, defBody s_law_any, defScope s_law_any, [], []⟩
def d_law_calendar : He5.DefA := ⟨aG "_law_calendar", "_law_calendar", "_law_calendar", defArgs s_law_calendar, defBody s_law_calendar, defScope s_law_calendar, [], []⟩
def d_law_cycle : He5.DefA := ⟨aG "_law_cycle", "_law_cycle", "_law_cycle", defArgs s_law_cycle, defBody s_law_cycle, defScope s_law_cycle, [], []⟩
def d_law_place : He5.DefA := ⟨aG "_law_place", "_law_place", "_law_place", defArgs s_law_place, defBody s_law_place, defScope s_law_place, [], []⟩
def d_law_weekday : He5.DefA := ⟨aG "_law_weekday", "_law_weekday", "_law_weekday", defArgs s_law_weekday, defBody s_law_weekday, defScope s_law_weekday, [], []⟩
def d_law_is_rest : He5.DefA := ⟨aG "_law_is_rest", "_law_is_rest", "_law_is_rest", defArgs s_law_is_rest, defBody s_law_is_rest, defScope s_law_is_rest, [], []⟩
def d_law_opened : He5.DefA := ⟨aG "_law_opened", "_law_opened", "_law_opened", defArgs s_law_opened, defBody s_law_opened, defScope s_law_opened, [], []⟩
def d_law_nth : He5.DefA := ⟨aG "_law_nth", "_law_nth", "_law_nth", defArgs s_law_nth, defBody s_law_nth, defScope s_law_nth, [], []⟩
def d_law_leaf : He5.DefA := ⟨aG "_law_leaf", "_law_leaf", "_law_leaf", defArgs s_law_leaf, defBody s_law_leaf, defScope s_law_leaf, [], []⟩
def d_law_tree : He5.DefA := ⟨aG "_law_tree", "_law_tree", "_law_tree", defArgs s_law_tree, defBody s_law_tree, defScope s_law_tree, [], []⟩
def d_law_words : He5.DefA := ⟨aG "_law_words", "_law_words", "_law_words", defArgs s_law_words, defBody s_law_words, defScope s_law_words, [], []⟩
def d_law_number : He5.DefA := ⟨aG "_law_number", "_law_number", "_law_number", defArgs s_law_number, defBody s_law_number, defScope s_law_number, [], []⟩
def d_law_argument_right : He5.DefA := ⟨aG "_law_argument_right", "_law_argument_right", "_law_argument_right", defArgs s_law_argument_right, defBody s_law_argument_right, defScope s_law_argument_right, [], []⟩
def d_law_first_wrong : He5.DefA := ⟨aG "_law_first_wrong", "_law_first_wrong", "_law_first_wrong", defArgs s_law_first_wrong, defBody s_law_first_wrong, defScope s_law_first_wrong, [], []⟩
def d_law_bent : He5.DefA := ⟨aG "_law_bent", "_law_bent", "_law_bent", defArgs s_law_bent, defBody s_law_bent, defScope s_law_bent, [], []⟩
def d_law_changed : He5.DefA := ⟨aG "_law_changed", "_law_changed", "_law_changed", defArgs s_law_changed, defBody s_law_changed, defScope s_law_changed, [], []⟩
def d_law_told : He5.DefA := ⟨aG "_law_told", "_law_told", "_law_told", defArgs s_law_told, defBody s_law_told, defScope s_law_told, [], []⟩
def d_law : He5.DefA := ⟨aG "law", "law", "law", defArgs s_law, defBody s_law, defScope s_law, [], []⟩
def fa0 : List He.Fa := [.glo "is_nth", .glo "is_day", .glo "holds_plain", .glo "holds", .glo "is_integer", .glo "is_period", .glo "common_divisor", .glo "common_multiple", .glo "least_period", .glo "number_in", .glo "set_in", .glo "are_days", .glo "is_row", .glo "is_between", .glo "are_years", .glo "are_weekdays", .glo "are_holidays", .glo "month_starts", .glo "month_at", .glo "_law_pen", .glo "_law_draw", .glo "_law_pick", .glo "_law_shuffled", .glo "_law_gcd", .glo "_law_multiple", .glo "_law_any", .glo "_law_calendar", .glo "_law_cycle", .glo "_law_place", .glo "_law_weekday"]
def fa1 : List He.Fa := [.glo "_law_is_rest", .glo "_law_opened", .glo "_law_nth", .glo "_law_leaf", .glo "_law_tree", .glo "_law_words", .glo "_law_number", .glo "_law_argument_right", .glo "_law_first_wrong", .glo "_law_bent", .glo "_law_changed", .glo "_law_told", .glo "law", .glo "InvalidText", .glo "InvalidSet", .glo "Reader", .glo "DaySet", .glo "Calendar", .free "len", .free "range", .free "isinstance", .free "int", .free "bool", .free "list", .free "tuple", .free "set", .free "str", .free "abs", .free "all", .free "any"]
def fa2 : List He.Fa := [.free "enumerate", .free "min", .free "sum", .free "sorted", .free "repr", .free "ValueError", .int "MAX_PERIOD" 200000, .int "MAX_YEARS" 400, .int "MAX_MONTHS" 14, .int "MAX_DAYS" 40, .int "MAX_WEEK" 10, .int "MAX_STEPS" 60, .int "MAX_DEPTH" 6, .int "MOST_DIGITS" 12, .int "SHORT_PERIOD" 2000, .str "DIGITS" "0123456789", .cls "Reader", .mkr "Reader", .noat "Reader" "guide", .noat "Reader" "words", .noat "Reader" "place", .noat "Reader" "depth", .noat "Reader" "many", .noat "Reader" "with_names", .noat "Reader" "cuts", .meth "Reader" "fail", .meth "Reader" "is_next", .meth "Reader" "taken", .meth "Reader" "need", .meth "Reader" "read_number"]
def fa3 : List He.Fa := [.meth "Reader" "bounded", .meth "Reader" "read_weekday", .meth "Reader" "go_in", .meth "Reader" "go_out", .meth "Reader" "of_month", .meth "Reader" "condition", .meth "Reader" "term", .meth "Reader" "factor", .meth "Reader" "plain_factor", .meth "Reader" "finish", .cls "DaySet", .mkr "DaySet", .noat "DaySet" "flags", .noat "DaySet" "members", .cls "Calendar", .mkr "Calendar", .noat "Calendar" "all_years", .noat "Calendar" "days_of_week", .noat "Calendar" "begins", .noat "Calendar" "rests", .noat "Calendar" "free_days", .noat "Calendar" "lengths", .noat "Calendar" "starts", .noat "Calendar" "turn", .noat "Calendar" "works", .meth "Calendar" "first_works", .meth "Calendar" "month_start", .meth "Calendar" "month_days", .meth "Calendar" "month_number", .meth "Calendar" "month_length"]
def fa4 : List He.Fa := [.meth "Calendar" "parts", .meth "Calendar" "weekday", .meth "Calendar" "is_work", .noat "InvalidText" "index", .exm "InvalidText" "InvalidText" true, .keep "DaySet"]
def fa : List He.Fa := fa0 ++ (fa1 ++ (fa2 ++ (fa3 ++ (fa4))))
def fn0 : List He5.DefA := [d_is_nth, d_is_day, d_holds_plain, d_holds, d_IT_init, d_is_integer, d_is_period, d_common_divisor, d_common_multiple, d_least_period, d_number_in, d_R_init, d_R_fail, d_R_is_next, d_R_taken, d_R_need, d_R_read_number, d_R_bounded, d_R_read_weekday, d_R_go_in, d_R_go_out, d_R_of_month, d_R_condition, d_R_term, d_R_factor]
def fn1 : List He5.DefA := [d_R_plain_factor, d_R_finish, d_set_in, d_are_days, d_DS_init, d_DS_read, d_is_row, d_is_between, d_are_years, d_are_weekdays, d_are_holidays, d_month_starts, d_month_at, d_C_init, d_C_first_works, d_C_week, d_C_months, d_C_period, d_C_month_start, d_C_month_days, d_C_month_number, d_C_month_length, d_C_parts, d_C_weekday, d_C_is_work]
def fn2 : List He5.DefA := [d_law_pen, d_law_draw, d_law_pick, d_law_shuffled, d_law_gcd, d_law_multiple, d_law_any, d_law_calendar, d_law_cycle, d_law_place, d_law_weekday, d_law_is_rest, d_law_opened, d_law_nth, d_law_leaf, d_law_tree, d_law_words, d_law_number, d_law_argument_right, d_law_first_wrong, d_law_bent, d_law_changed, d_law_told, d_law]
def fn : List He5.DefA := fn0 ++ (fn1 ++ (fn2))
def gn0 : List Str := ["InvalidText", "InvalidSet", "Reader", "DaySet", "Calendar", "is_nth", "is_day", "holds_plain", "holds", "is_integer", "is_period", "common_divisor", "common_multiple", "least_period", "number_in", "set_in", "are_days", "is_row", "is_between", "are_years", "are_weekdays", "are_holidays", "month_starts", "month_at", "_law_pen", "_law_draw", "_law_pick", "_law_shuffled", "_law_gcd", "_law_multiple"]
def gn1 : List Str := ["_law_any", "_law_calendar", "_law_cycle", "_law_place", "_law_weekday", "_law_is_rest", "_law_opened", "_law_nth", "_law_leaf", "_law_tree", "_law_words", "_law_number", "_law_argument_right", "_law_first_wrong", "_law_bent", "_law_changed", "_law_told", "law"]
def gn : List Str := gn0 ++ gn1
def mn : List Str := ["__init__", "bounded", "condition", "factor", "fail", "finish", "first_works", "go_in", "go_out", "is_next", "is_work", "month_days", "month_length", "month_number", "month_start", "months", "need", "of_month", "parts", "period", "plain_factor", "read", "read_number", "read_weekday", "taken", "term", "week", "weekday"]
def nm0 : List Str := ["_wall", "is_nth", "is_day", "holds_plain", "holds", "InvalidCalendar", "InvalidDate", "InvalidText", "InvalidSet", "InvalidCount", "TooLong", "MAX_PERIOD", "MAX_YEARS", "MAX_MONTHS", "MAX_DAYS", "MAX_WEEK", "MAX_STEPS", "MAX_DEPTH", "is_integer", "is_period", "common_divisor", "common_multiple", "common_period", "least_period", "DIGITS", "number_in", "bounded_in", "calendar_text", "week_in", "numbers_in"]
def nm1 : List Str := ["rest_in", "holiday_in", "year_in", "read_calendar", "MOST_DIGITS", "MOST", "UNITS", "TO_WEEKDAY", "WORDS", "is_name", "Reader", "set_in", "FAR", "are_days", "number_below", "DaySet", "SHORT_PERIOD", "is_row", "is_between", "are_years", "are_weekdays", "are_holidays", "month_starts", "month_at", "Calendar", "_law_pen", "_law_draw", "_law_pick", "_law_shuffled", "_law_gcd"]
def nm2 : List Str := ["_law_multiple", "_law_any", "_law_calendar", "_law_cycle", "_law_place", "_law_weekday", "_law_is_rest", "_law_opened", "_law_nth", "_law_leaf", "_law_tree", "_law_words", "_law_number", "_law_argument_right", "_law_first_wrong", "_law_bent", "_law_changed", "_law_told"]
def nm : List Str := nm0 ++ (nm1 ++ (nm2))
/-! ### further facts, as tests of the written part -/
section
open PySem.W He
def excB (K : Frag) (C : Addr) : Bool := match K.lookup C with
  | some ⟨.type "type", _, .cls cd, sl⟩ => (match cd.mro, sl.toList with
    | .ref D :: bm, [_, _, _, _, some (.builtin n), _] => decide (D = C) && (decide (n = "ValueError.__new__") && (!cd.hasDel && (cd.hasDict && PySem.HandSPX.refsVE bm)))
    | _, _ => false)
  | _ => false
def oexB (K : Frag) (C : Addr) : Bool := excB K C && (eqO (findIn K (.ref C) "__setattr__") (some (some (.builtin "object.__setattr__"))) && (decide (subIn K (.ref C) (.type "BaseException") = some true) &&
  (decide (typeIn K (.ref C) = some (.type "type")) && (keepIn K (.ref C) && (eqO (findIn K (.ref C) "__init__") (some (some (.ref (ma K C "__init__")))) && decide (typeIn K (.ref (ma K C "__init__")) = some (.type "function")))))))
def clsB (K : Frag) (C : Addr) : Bool := eqO (findIn K (.ref C) "__class__") (some (some (.builtin "object.__class__"))) && (eqO (specialIn K (.builtin "object.__class__") "__get__") (some (some (.builtin "getset_descriptor.__get__"))) &&
  (decide (takesIn K (.builtin "object.__class__") = some true) && decide (mroIn K C (.type "object") = some true)))
def propB (K : Frag) (C : Addr) (f : Str) : Bool := eqO (findIn K (.ref C) f) (some (some (.ref (ma K C f)))) && (eqO (specialIn K (.ref (ma K C f)) "__get__") (some (some (.builtin "property.__get__"))) &&
  (decide (takesIn K (.ref (ma K C f)) = some true) && (match recIn K (ma K C f) "property" with
    | some (.ref _ :: _) => true
    | _ => false)))
def readB (K : Frag) (C : Addr) : Bool := readsIn K C (.type "type") && eqO (specialIn K (.ref C) "__getattribute__") (some (some (.builtin "type.__getattribute__")))
def ex : List (Frag → Bool) := [fun K => oexB K (ga K "InvalidText"), fun K => xfB K (ga K "InvalidText"), fun K => clsB K (ga K "InvalidText"),
  fun K => decide (kitOne K (.ref (ga K "InvalidText")) (.type "ValueError") = some true), fun K => decide (kitOne K (.ref (ga K "InvalidText")) (.ref (ga K "InvalidSet")) = some false),
  fun K => clsB K (ga K "DaySet"), fun K => decide (kitOne K (.ref (ga K "DaySet")) (.ref (ga K "DaySet")) = some true), fun K => readB K (ga K "DaySet"),
  fun K => He5.wrapB K (ga K "DaySet") "classmethod" "classmethod.__get__" "read", fun K => fnIn K (aC "DaySet" "read" K),
  fun K => propB K (ga K "Calendar") "week", fun K => propB K (ga K "Calendar") "months", fun K => propB K (ga K "Calendar") "period"]
/-! ### the Hook -/
def obsM (K : Frag) : He.AlD := ((fa.all fun f => f.ok K) && ((ex.all fun f => f K) && fn.all fun d => d.ok K), fn.map fun d => He5.fnA K (d.at_ K))
def SaysM (K : Frag) : Prop := obsM K = He5.valA fn
/-- the addresses that are told: the globals of the list, their codes, the classes' dicts, the methods of the list and their codes -/
def refF (o : Obj) : List Addr := match o.data with
  | .func fd => refV fd.code ++ (refV fd.defaults ++ refV fd.kwdefaults)
  | .cls cd => [cd.ns]
  | _ => []
def refM (o : Obj) : List Addr := match o.data with
  | .dict es _ => es.toList.flatMap fun e => if mn.any (fun m => e.key.isStr m) then refV e.val else []
  | _ => []
def refR (o : Obj) : List Addr := match o.data with
  | .func fd => refV fd.code ++ (refV fd.defaults ++ refV fd.kwdefaults)
  | .fields vs => vs.toList.flatMap refV
  | _ => []
def step (g : Addr → Option Obj) (f : Obj → List Addr) (as : List Addr) : List Addr := as.flatMap fun a => match g a with
  | some o => f o
  | none => []
def asK (g : Addr → Option Obj) : List Addr :=
  let l1 := (gn.map (ga (frG g [mainGlobals])))
  let l2 := step g refF l1
  let l3 := step g refM l2
  let l4 := step g refR l3
  [mainGlobals, cStatics] ++ (l1 ++ (l2 ++ (l3 ++ (l4 ++ step g refF l4))))
def obsMG (g : Addr → Option Obj) : He.AlD := obsM (frG g (asK g))
def hk : PySem.W.Hook where
  α := He.AlD
  obs := fun s => obsMG s.heap.get?
  val := fun _ => He5.valA fn
  says := fun _ h => ∃ K : Frag, K.In h ∧ SaysM K
  of := fun _ _ e => ⟨_, frG_in, e⟩
  keeps := fun _ _ _ ⟨K, hK, c⟩ k => ⟨K, Frag.In.keeps hK k, c⟩
theorem SaysM.all {K : Frag} (c : SaysM K) : (∀ f ∈ fa, f.ok K = true) ∧ (∀ f ∈ ex, f K = true) ∧ (∀ d ∈ fn, d.ok K = true) ∧ fn.map (fun d => He5.fnA K (d.at_ K)) = fn.map He5.DefA.val := by
  obtain ⟨c1, c2⟩ := ba (show ((fa.all fun f => f.ok K) && ((ex.all fun f => f K) && fn.all fun d => d.ok K)) = true from congrArg (fun z : He.AlD => z.1) c)
  obtain ⟨c2, c3⟩ := ba c2
  exact ⟨fun f hf => List.all_eq_true.mp c1 f hf, fun f hf => List.all_eq_true.mp c2 f hf, fun d hd => List.all_eq_true.mp c3 d hd, congrArg (fun z : He.AlD => z.2) c⟩
theorem SaysM.def_ {K : Frag} (c : SaysM K) (i : Nat) {d : He5.DefA} (h : fn[i]? = some d := by rfl) : ∃ fd, FunD K d.name d.qual d.params d.body d.scope (d.dvs K) (d.kws K) (d.at_ K) fd := by
  obtain ⟨_, _, c3, e⟩ := c.all
  have e2 : (fn.map fun d => He5.fnA K (d.at_ K))[i]? = (fn.map He5.DefA.val)[i]? := by rw [e]
  rw [List.getElem?_map, List.getElem?_map, h] at e2
  exact He5.DefA.funD (Option.some.inj e2) (c3 d (List.mem_of_getElem? h))
end
end K5

set_option Elab.async false
set_option linter.all false
set_option maxRecDepth 100000
set_option maxHeartbeats 0
namespace K5
open PySem PySem.W PySem.Calls PyProof.Rows
abbrev Rw : OpenRow := OpenLaw.row PySem.Challenge.rw_dayrecipes_k53_whole_set_texts_refused
def ob (s : SharedT) : He.AlD := obsMG (HandSHeadRun.getT s)
theorem ob_eq (s : SharedT) : ob s = hk.obs s.abs := by
  have e : HandSHeadRun.getT s = s.abs.heap.get? := funext (HandSHeadRun.getT_eq s)
  show obsMG (HandSHeadRun.getT s) = obsMG s.abs.heap.get?
  rw [e]
theorem run (w : World) : HandSHeadRun.RunEq Rw (view Rw.prog [86]) hk ob 20000 nm w := by
  intro os
  kernel_rfl
end K5

set_option Elab.async false
set_option linter.all false
set_option maxRecDepth 100000
set_option maxHeartbeats 4000000
/-! Rules of my own over the hand layer: what the program asks and no module holds. -/
namespace K5
open PySem PySem.Spec PyProof.Rows L2

/-! ### repr(None) -/
def rReprN : List V → Hp → VK → Prop := fun xs H Q => xs = [.non] ∧ Q (.str "None") H
section
variable {X : Cx}
theorem cr_reprN : CallR X (.builtin "repr") rReprN := by
  rintro pins s σ H xs us Q I r ⟨rfl, q⟩
  obtain ⟨u, rfl, ru⟩ := vals1 r
  obtain rfl : u = Value.none := ru
  exact PySem.P.repr_of_none ⟨.str "None", H, I.tok _, ⟨_, rfl⟩, q⟩
/-! ### text * int -/
def rMulS : R2 := fun x y H Q => ∃ z k, x = .str z ∧ y = .int k ∧ PySem.MulOk z k ∧ Q (.str (Txt.mul z k)) H
theorem op_mulS : OpR X (binaryOp .Mult) rMulS := by
  rintro pins s σ H x y v u Q I rx ry ⟨z, k, rfl, rfl, ok, q⟩
  obtain ⟨t, rfl⟩ := rx
  obtain ⟨t', rfl⟩ := ry
  exact PySem.SB.mul ok fun t2 k2 => ⟨.str (Txt.mul z k), H, I.tok _, ⟨_, rfl⟩, q⟩
/-! ### x not in a tuple of data -/
def rNotInT (K : PySem.W.Frag) : R2 := fun x y H Q => ∃ d ds, Dp K H x d ∧ Dp K H y (.tuple ds) ∧ SeqAt.shaped d = true ∧ SeqAt.shaped (.tuple ds) = true ∧ Q (.bl (!ds.any fun z => PyData.eqv z d)) H
theorem op_notInT (hu : X.A.units + 65 < cLine) : OpR X (compareOp .NotIn) (rNotInT X.K) := by
  rintro pins s σ H x y v u Q I rx ry ⟨d, ds, hd, he, sd, se, q⟩
  obtain ⟨as, r1⟩ := Dp.reads I d x v hd rx
  obtain ⟨bs, r2⟩ := Dp.reads I (.tuple ds) y u he ry
  have l1 : PyData.canLayAll0 ds = true := SeqAt.canLay_of_shaped se
  exact SeqAt.notIn_tuple_reads r2 r1 l1 (SeqAt.canLay_of_shaped sd) (room_in_shaped sd hu) ⟨.bl _, H, I, rfl, q⟩
/-! ### len of a set of tuples -/
def rLenSetT (P : Program) (w : World) : List V → Hp → VK → Prop := fun xs H Q => ∃ a L, xs = [.ref a] ∧ H a = some (SetTO P w a L) ∧ Q (.int L.length) H
theorem cr_lenSetT : CallR X (.builtin "len") (rLenSetT X.prog X.w) := by
  rintro pins s σ H xs us Q I r ⟨a, L, rfl, ha, q⟩
  rw [Vals.ref1 r]
  have ok : ObjOk X.prog X.w H s.heap a (SetTO X.prog X.w a L) := I.hok a _ ha
  obtain ⟨es, ep, t, ⟨o, ho, hx, hd⟩, hr, tb, nd, pl, ld, rm, few⟩ := SetT0.ex ok.1
  have hl : es.size = L.length := by
    rw [← Array.length_toList, hr]
    unfold rowsOf
    simp
  have hf : t.fits es.size = true := by
    have h1 := tb.sz
    rw [List.length_map] at h1
    have h2 := tb.dm
    unfold SetTable.fits SetTable.fill
    rw [h2, hl, h1]
    simp
    omega
  exact call_len_set ho hx hd hf (by rw [hl]; omega) ⟨.int L.length, H, I.tok _, ⟨_, by rw [hl]⟩, q⟩
end
end K5

set_option Elab.async false
set_option linter.all false
set_option maxRecDepth 100000
set_option maxHeartbeats 4000000
namespace K5
open PySem PySem.Spec PyProof.Rows L2
/-! ### sum(lists, list) -/
abbrev lstO (xs : List Value) (c : Nat) : Obj := { cls := .type "list", dict := none, data := .seq xs.toArray c, slots := #[] }
theorem args_sum2 (a b : Value) : argsOk "sum" ⟨[a, b], []⟩ := by unfold argsOk; kernel_rfl
section
variable {prog : Program} {w : World} {A : Around} {E : Value → Shared → Prop} {R : Result → Shared → Prop}
/-- its: the items, references to the lists vals, all of them in g -/
structure SumS (g : Heap) (l : Addr) (its : List Value) (vals : List (List Value)) : Prop where
  at_ : g.IsList l its.toArray
  len : vals.length = its.length
  it : ∀ (i : Nat) (v : Value), its[i]? = some v → ∃ b c xs, v = .ref b ∧ vals[i]? = some xs ∧ g.get? b = some (lstO xs c)
theorem sumL_loop {g : Heap} {l I S : Addr} {its : List Value} {vals : List (List Value)} (hh : A.handled = none) (hlI : l ≠ I) (gI : g.get? I = none) (gS : g.get? S = none) (hSI : S ≠ I) (hSl : S ≠ l) (D : SumS g l its vals) :
    ∀ (k i : Nat) (s : Shared) (t : Addr) (acc : List Value) (ct c : Nat), its.length - i = k → i ≤ its.length → (∀ b o, g.get? b = some o → s.heap.get? b = some o) → s.heap.IsListIter I l i →
      s.heap.get? S = some { cls := .type "list", dict := none, data := .seq #[.ref t] c, slots := #[] } → s.heap.get? t = some (lstO acc ct) → t ≠ S → t ≠ I → acc.length + ((vals.drop i).map List.length).sum ≤ sizeLine →
      (∀ h' tk t' ct', (∀ b o, g.get? b = some o → h'.get? b = some o) → h'.get? t' = some (lstO (acc ++ (vals.drop i).flatten) ct') → (g.get? t = none ∨ i < its.length → g.get? t' = none) → R (.ok (.ret (.ref t'))) { s with heap := h', toks := tk }) →
      codeAny (model prog w) A (.builtin "sum.loop" ⟨[.ref I, .ref S, rawInt 2, rawInt 0], []⟩) R s := by
  have W := Walks.list (prog := prog) (w := w) (A := A.in1) hh I l hlI its.toArray
  have nI : ∀ {b : Addr} {o : Obj}, g.get? b = some o → b ∉ [I] := fun {b o} e m => by
    rw [List.mem_singleton.mp m, gI] at e
    cases e
  intro k
  induction k with
  | zero =>
    intro i s t acc ct c hk hi hg hit hS ht htS htI hz hR
    have hin : i = its.length := by omega
    subst hin
    refine codeAny_builtin F.entry_sum_loop ?_
    rw [Around.under_plainId F.plain_sum_loop _]
    show wpAny _ A.in1 (seqItems? (.ref S) >>= _) _ _ s
    refine wpAny_bind (wpAny_seqItems hS rfl ?_)
    show wpAny _ A.in1 (tryCatch (pyNext (.ref I)) _ >>= _) _ _ s
    have st : s.heap.IsListIter I l its.toArray.size ∧ s.heap.IsList l its.toArray := ⟨by simpa using hit, D.at_.at fun o e => hg l o e⟩
    refine wpAny_bind (wpAny_tryCatch (W.done s _ _ st fun h' tk hk' => ?_))
    have hd : vals.drop its.length = [] := List.drop_eq_nil_of_le (by rw [D.len]; exact Nat.le_refl _)
    refine wpAny_pure (hR h' tk t ct (fun b o e => hk' b o (nI e) (hg b o e)) ?_ fun z => z.elim (fun q => q) fun q => absurd q (Nat.lt_irrefl _))
    rw [hd, List.flatten_nil, List.append_nil]
    exact hk' t _ (fun m => htI (List.mem_singleton.mp m)) ht
  | succ k ih =>
    intro i s t acc ct c hk hi hg hit hS ht htS htI hz hR
    have hlt : i < its.length := by omega
    refine codeAny_builtin F.entry_sum_loop ?_
    rw [Around.under_plainId F.plain_sum_loop _]
    show wpAny _ A.in1 (seqItems? (.ref S) >>= _) _ _ s
    refine wpAny_bind (wpAny_seqItems hS rfl ?_)
    show wpAny _ A.in1 (tryCatch (pyNext (.ref I)) _ >>= _) _ _ s
    have st : s.heap.IsListIter I l i ∧ s.heap.IsList l its.toArray := ⟨hit, D.at_.at fun o e => hg l o e⟩
    refine wpAny_bind (wpAny_tryCatch (W.item i s _ _ (by simpa using hlt) st fun v h' tk hP hst' hk' => ?_))
    obtain ⟨b, cb, xs, rfl, hxs, hb⟩ := D.it i v (by simpa using hP)
    have hg' : ∀ b o, g.get? b = some o → h'.get? b = some o := fun b o e => hk' b o (nI e) (hg b o e)
    have hS' := hk' S _ (fun m => hSI (List.mem_singleton.mp m)) hS
    have ht' := hk' t _ (fun m => htI (List.mem_singleton.mp m)) ht
    have hb' : h'.get? b = some (lstO xs cb) := hg' b _ hb
    have hdr : vals.drop i = xs :: vals.drop (i + 1) := by
      obtain ⟨hl1, e1⟩ := List.getElem?_eq_some_iff.mp hxs
      rw [List.drop_eq_getElem_cons hl1, e1]
    rw [hdr, List.map_cons, List.sum_cons] at hz
    show wpAny _ A.in1 ((holding [Value.ref b] (binaryOp .Add (.ref t) (.ref b))).attempt >>= _) _ _ _
    refine wpAny_bind (wpAny_attempt (wpAny_holding (PySem.P.add_list (s := { s with heap := h', toks := tk }) ht' hb' ?_ (by rw [List.size_toArray, List.size_toArray]; omega))))
    have eN : acc.toArray ++ xs.toArray = (acc ++ xs).toArray := by simp
    rw [eN]
    obtain ⟨h2, e2⟩ : ∃ h2, h2 = h'.push { cls := .type "list", data := .seq (acc ++ xs).toArray } := ⟨_, rfl⟩
    have k2 : ∀ b o, h'.get? b = some o → h2.get? b = some o := fun b o e => by rw [e2]; exact Heap.get?_push_of_some _ e
    have n2 : h2.get? h'.objs.size = some (lstO (acc ++ xs) 0) := by rw [e2]; exact Heap.get?_push_size _ rfl
    show wpAny _ A.in1 (updateSeq S (fun _ => #[.ref h'.objs.size]) >>= _) _ _ { s with heap := h'.push { cls := .type "list", data := .seq (acc ++ xs).toArray }, toks := tk }
    rw [← e2]
    have hS2 := k2 S _ hS'
    have nN : ∀ {b : Addr} {o : Obj}, h'.get? b = some o → b ≠ h'.objs.size := fun {b o} e => Nat.ne_of_lt (Heap.lt_size e)
    refine wpAny_bind ?_
    refine wpAny_updateSeq hS2 rfl ?_
    have hS3 := Heap.get?_update_self (Obj.mapSeq fun _ => #[Value.ref h'.objs.size]) hS2 rfl
    refine wpAny_bind (wpAny_letGo ?_)
    refine wpAny_bind ?_
    refine wpAny_updateSeq hS3 rfl ?_
    have up : ∀ b o, b ≠ S → h2.get? b = some o → ((h2.update S (Obj.mapSeq fun _ => #[Value.ref h'.objs.size])).update S (Obj.mapSeq fun _ => #[Value.ref h'.objs.size])).get? b = some o := fun b o hb e => by
      rw [Heap.get?_update_other _ _ (Ne.symm hb), Heap.get?_update_other _ _ (Ne.symm hb)]
      exact e
    have gNS : ∀ {b : Addr} {o : Obj}, g.get? b = some o → b ≠ S := fun {b o} e z => by
      rw [z, gS] at e
      cases e
    obtain ⟨oI, eI, rI⟩ := id hst'.1
    refine wpAny_pure ⟨plainId_quiet F.plain_sum_loop _, ih (i + 1) _ h'.objs.size (acc ++ xs) 0 _ (by omega) hlt (fun b o e => up b o (gNS e) (k2 b o (hg' b o e)))
      ⟨oI, up I oI (Ne.symm hSI) (k2 I oI eI), rI⟩ (Heap.get?_update_self _ hS3 rfl) (up _ _ (Ne.symm (nN hS')) n2) (Ne.symm (nN hS')) (Ne.symm (nN eI)) (by rw [List.length_append]; omega) fun h'' tk'' t' ct' hk'' ht'' hn'' => ?_⟩
    refine hR h'' tk'' t' ct' hk'' ?_ fun _ => ?_
    · rw [hdr, List.flatten_cons, ← List.append_assoc]
      exact ht''
    · refine hn'' (.inl ?_)
      cases e : g.get? h'.objs.size with
      | none => rfl
      | some o => exact absurd rfl (nN (hg' _ o e))
/-- sum(l, st): l's items lists, at least one -/
theorem sumL_raw {Q : Value → Shared → Prop} {s : Shared} {l st : Addr} {its : List Value} {vals : List (List Value)} {acc : List Value} {ct : Nat} (hh : A.handled = none) (D : SumS s.heap l its vals) (hne : 0 < its.length)
    (ht : s.heap.get? st = some (lstO acc ct)) (hz : acc.length + (vals.map List.length).sum ≤ sizeLine)
    (h : ∀ h' tk t' ct', (∀ b o, s.heap.get? b = some o → h'.get? b = some o) → h'.get? t' = some (lstO (acc ++ vals.flatten) ct') → s.heap.get? t' = none → Q (.ref t') { s with heap := h', toks := tk }) :
    wpAny (model prog w) A (call (.builtin "sum") [.ref l, .ref st]) Q E s := by
  refine call_function_tree F.kind_sum F.plain_sum F.entry_sum (args_sum2 _ _) ?_
  unfold Builtin.«sum»
  simp only [List.length_cons, List.length_nil]
  rw [if_neg (by decide)]
  refine wpAny_bind (wpAny_of_eq (show Builtin.Builtins.bindParams "sum" ["start"] 0 ⟨[.ref st], []⟩ = pure [some (.ref st)] from rfl) ?_)
  refine wpAny_bind (iter_anyList D.at_ fun s₂ e si hfp hlI => ?_)
  subst e
  have k1 : ∀ b o, s.heap.get? b = some o → (s.heap.push { cls := .type "list_iterator", data := .fields #[.ref l, .int 0 0] }).get? b = some o := fun b o e => Heap.get?_push_of_some _ e
  have ty : (⟨s.heap.push { cls := .type "list_iterator", data := .fields #[.ref l, .int 0 0] }, s.gens, s.drawn, s.toks, s.os⟩ : Shared).TypeIs (.ref st) "list" := ⟨_, k1 _ _ ht, rfl⟩
  refine wpAny_bind (wpAny_pure ?_)
  simp only [List.forIn_cons, List.forIn_nil]
  refine wpAny_bind (wpAny_bind (wpAny_bind (wpAny_isInstance (T := "list") (b := false) ty PySem.F.sub_list_str ?_)))
  simp only [Bool.false_eq_true, if_false]
  refine wpAny_pure (wpAny_bind (wpAny_bind (wpAny_isInstance (T := "list") (b := false) ty PySem.F.sub_list_bytes ?_)))
  simp only [Bool.false_eq_true, if_false]
  refine wpAny_pure (wpAny_bind (wpAny_bind (wpAny_isInstance (T := "list") (b := false) ty PySem.F.sub_list_bytearray ?_)))
  simp only [Bool.false_eq_true, if_false]
  refine wpAny_pure (wpAny_pure ?_)
  refine wpAny_bind (wpAny_newObj_type ?_)
  have z1 : (s.heap.push { cls := .type "list_iterator", data := .fields #[.ref l, .int 0 0] }).objs.size = s.heap.objs.size + 1 := Heap.size_push ..
  have nS : ∀ {b : Addr} {o : Obj}, s.heap.get? b = some o → b < s.heap.objs.size := fun {b o} e => Heap.lt_size e
  have gn : ∀ {a : Addr}, s.heap.objs.size ≤ a → s.heap.get? a = none := fun {a} hle => by
    cases e : s.heap.get? a with
    | none => rfl
    | some o => exact absurd (nS e) (Nat.not_lt.mpr hle)
  have n1 : ∀ {b : Addr} {o : Obj}, s.heap.get? b = some o → b ≠ s.heap.objs.size + 1 := fun {b o} e => Nat.ne_of_lt (Nat.lt_succ_of_lt (nS e))
  obtain ⟨ol, el, rl⟩ := id D.at_
  obtain ⟨oI, eI, rI⟩ := id si.1
  refine wpAny_pure ⟨plainId_quiet F.plain_sum_loop _, sumL_loop (g := s.heap) (S := (s.heap.push { cls := .type "list_iterator", data := .fields #[.ref l, .int 0 0] }).objs.size) hh hlI (gn (Nat.le_refl _)) (gn (by rw [z1]; exact Nat.le_succ _)) (by rw [z1]; exact Nat.succ_ne_self _)
    (by rw [z1]; exact Ne.symm (n1 el)) D its.length 0 _ st acc ct 0 rfl (Nat.zero_le _) (fun b o e => Heap.get?_push_of_some _ (k1 b o e)) ⟨oI, Heap.get?_push_of_some _ eI, rI⟩ (Heap.get?_push_size _ rfl)
    (Heap.get?_push_of_some _ (k1 _ _ ht)) (by rw [z1]; exact n1 ht) (Nat.ne_of_lt (nS ht)) (by rw [List.drop_zero]; exact hz) fun h' tk t' ct' hk e1 hn => ?_⟩
  exact h h' tk t' ct' hk (by rw [List.drop_zero] at e1; exact e1) (hn (.inr hne))
end
def rSumL (K : PySem.W.Frag) : List V → Hp → VK → Prop := fun xs H Q => ∃ (l st : Addr) (bs : List Addr) (vss : List (List V)) (zs : List V), xs = [.ref l, .ref st] ∧ H l = some (.lst (bs.map V.ref)) ∧ H st = some (.lst zs) ∧
  Paired (fun b vs => H b = some (.lst vs)) bs vss ∧ bs ≠ [] ∧ zs.length + (vss.map List.length).sum ≤ sizeLine ∧ ∀ p, H p = none → Q (.ref p) (upd H p (.lst (zs ++ vss.flatten)))
theorem paired_vals {X : Cx} {pins : List (Addr × Obj)} {σ : L2.St} {H : Hp} {s : Shared} (I : Inv X pins σ H s) : ∀ {bs : List Addr} {vss : List (List V)}, Paired (fun b vs => H b = some (.lst vs)) bs vss →
    ∃ wss : List (List Value), Paired (fun b ws => ∃ c, s.heap.get? b = some (lstO ws c)) bs wss ∧ Vals vss.flatten wss.flatten ∧ wss.map List.length = vss.map List.length
  | _, _, .nil => ⟨[], .nil, .nil, rfl⟩
  | _, _, .cons h t => by
    obtain ⟨wss, p, v, e⟩ := paired_vals I t
    obtain ⟨z, its, n, r, hl, eo⟩ := I.lstM h
    exact ⟨its :: wss, .cons ⟨n, eo⟩ p, r.append v, by rw [List.map_cons, List.map_cons, e, ← r.length]⟩
theorem paired_at {α β : Type} {F : α → β → Prop} : ∀ {xs : List α} {ys : List β}, Paired F xs ys → ∀ (i : Nat) (x : α), xs[i]? = some x → ∃ y, ys[i]? = some y ∧ F x y
  | _, _, .nil, i, x, e => by simp at e
  | _, _, .cons h t, 0, x, e => by
    simp at e
    subst e
    exact ⟨_, rfl, h⟩
  | _, _, .cons h t, i + 1, x, e => by
    obtain ⟨y, e1, h1⟩ := paired_at t i x (by simpa using e)
    exact ⟨y, by simpa using e1, h1⟩
theorem vals_refsA : ∀ {bs : List Addr} {us : List Value}, Vals (bs.map V.ref) us → us = bs.map Value.ref
  | [], _, .nil => rfl
  | b :: bs, _, .cons r t => by
    cases r
    rw [vals_refsA t] <;> rfl
theorem cr_sumL {X : Cx} (hc : X.calm = true) : CallR X (.builtin "sum") (rSumL X.K) := by
  rintro pins s σ H xs us Q I r ⟨l, st, bs, vss, zs, rfl, hl, hst, hp, hne, hz, q⟩
  obtain ⟨u1, u2, rfl, r1, r2⟩ := vals2 r
  obtain rfl : u1 = Value.ref l := r1
  obtain rfl : u2 = Value.ref st := r2
  obtain ⟨z1, its, n, rv, hlen, el⟩ := I.lstM hl
  obtain ⟨z2, acc, ct, ra, hlen2, es⟩ := I.lstM hst
  obtain ⟨wss, pw, vf, el2⟩ := paired_vals I hp
  have eits := vals_refsA rv
  have D : SumS s.heap l its wss := ⟨⟨_, el, rfl, n, rfl⟩, by rw [← pw.length, eits, List.length_map], fun i v hv => by
    rw [eits, List.getElem?_map] at hv
    cases e : bs[i]? with
    | none =>
      rw [e] at hv
      cases hv
    | some b =>
      rw [e] at hv
      obtain ⟨ws, h1, c, h2⟩ := paired_at pw i b e
      exact ⟨b, c, ws, (Option.some.inj hv).symm, h1, h2⟩⟩
  have hpos : 0 < its.length := by
    rw [eits, List.length_map]
    exact List.length_pos_iff.mpr hne
  refine sumL_raw (I.ok.hd hc) D hpos es (by rw [← ra.length, el2]; exact hz) fun h' tk t' ct' hk e1 hn => ?_
  have hn1 : H t' = none := I.hok.gone hn
  have hv := ra.append vf
  exact ⟨.ref t', upd H t' (.lst (zs ++ vss.flatten)), I.laidN (t' := tk) hk hn hn1 ⟨by rw [List.length_append, List.length_flatten]; exact hz, acc ++ wss.flatten, ct', hv, e1⟩, rfl, q t' hn1⟩
end K5

set_option Elab.async false
set_option linter.all false
set_option maxRecDepth 100000
set_option maxHeartbeats 4000000
namespace L2
open PySem PySem.Spec PyProof.Rows
/-! ### an object that stands untracked is tracked from here on -/
theorem Inv.k5track {X : Cx} {pins : List (Addr × Obj)} {σ : St} {H : Hp} {s : Shared} {a : Addr} {oe : Obj} {o : HO} (I : Inv X pins σ H s) (e : s.heap.get? a = some oe) (n : H a = none) (n0 : X.s_0.heap.get? a = none) (nL : a ≠ X.env.locals)
    (nc : ∀ v, oe.data ≠ .cell v) (np : ∀ p ∈ X.pn ++ pins, p.1 ≠ a) (new : ObjOk X.prog X.w (upd H a o) s.heap a o) : Inv X pins σ (upd H a o) s where
  ok := I.ok
  os := I.os
  bare := I.bare
  base := {
    keep := I.base.keep
    slot := I.base.slot
    free := fun b u q hn hx => by
      rw [upd_ne (fun z => by rw [z, n0] at q; cases q)]
      exact I.base.free b u q hn hx
    there := I.base.there
    tups := fun b xs q => by
      have z := I.base.tups b xs q
      rw [upd_ne (ne_of_none z n)]
      exact z
    frzs := fun b u v q => by
      have z := I.base.frzs b u v q
      rw [upd_ne (ne_of_none z n)]
      exact z
    tbls := fun b ps q => by
      obtain ⟨m, z⟩ := I.base.tbls b ps q
      exact ⟨m, by rw [upd_ne (ne_of_none z n)]; exact z⟩ }
  loc := I.loc
  cell := I.cell
  free := by
    rw [upd_ne (Ne.symm nL)]
    exact I.free
  freeC := fun x c q => by
    obtain ⟨v, u, hu, hd⟩ := I.cell x c q
    have hca : c ≠ a := fun z => by
      rw [z, e] at hu
      cases hu
      exact nc _ hd
    rw [upd_ne hca]
    exact I.freeC x c q
  pin := fun p hp => by
    obtain ⟨h1, h2, h3⟩ := I.pin p hp
    exact ⟨h1, by rw [upd_ne (np p hp)]; exact h2, h3⟩
  hok := fun b u q => by
    by_cases hb : b = a
    · subst hb
      rw [upd_same] at q
      cases q
      exact new
    · rw [upd_ne hb] at q
      exact (I.hok b u q).stay (fun _ _ _ z => z) (fun c z => by rw [upd_ne (ne_of_none z n)]; exact z) fun c xs z => by rw [upd_ne (ne_of_none z n)]; exact z
  len := I.len
/-- a caught exception of the class at C, its dict at d, kept as a value -/
def exK (a C d : Addr) : HO := .ext fun h => ∃ (oe : Obj) (vs : Array Value), h.get? a = some oe ∧ Zc (.ref C) (some d) oe ∧ oe.data = .fields vs
theorem exK_ok {P : Program} {w : World} {H : Hp} {h : Heap} {a C d : Addr} {oe : Obj} {vs : Array Value} (e : h.get? a = some oe) (z : Zc (.ref C) (some d) oe) (hd : oe.data = .fields vs) : ObjOk P w H h a (exK a C d) :=
  ⟨⟨oe, vs, e, z, hd⟩, ⟨oe, e⟩, fun _ _ ⟨o, v, q, r⟩ k => ⟨o, v, k o q, r⟩⟩
theorem exK_at {P : Program} {w : World} {H : Hp} {h : Heap} {a C d : Addr} (hok : HOk P w H h) (e : H a = some (exK a C d)) : ∃ (oe : Obj) (vs : Array Value), h.get? a = some oe ∧ Zc (.ref C) (some d) oe ∧ oe.data = .fields vs := by
  have x : ObjOk P w H h a (exK a C d) := hok a _ e
  exact x.1
/-- what the clause wishes: the exception is of the class at C, with a dict; the suite's end finds it tracked -/
def wKeep (C : Addr) (i : Nat) (ts : Addr → Addr → TS) (D : Ends) : WX := fun cls d σ H => cls = .ref C ∧ ∃ dd, d = some dd ∧ ∀ a, H a = none →
  ts a dd { nx := fun σ' H' => H' a = none → D.nx (σ'.set i none) (upd H' a (exK a C dd)), rt := fun _ _ => False, bk := fun _ _ => False, ct := fun _ _ => False } (σ.set i (some (.ref a))) H
section
variable {X : Cx} {x n : Str} {C : Addr} {i : Nat} {body suite : List Stmt} {b₀ : Stmt} {np pos pos' : Pos} {tb : WX → TS} {ts : Addr → Addr → TS}
theorem ps_try_keep (hs : X.stack = X.env :: X.outer) (hf : X.env.frame = some X.env.locals) (hN : X.N.Nodup) (hi : X.N[i]? = some n) (hln : X.env.kindOf n = some .local) (hc : Names X x (.ref C)) (hm : PySem.W.exmOne X.K (.ref C) (.ref C) = some true) (hex : X.ex = [])
    (hb : ∀ (W : WX) (pn : List (Addr × Obj)) (xe : Value → Shared → Prop), Takes (X.tr pn xe) W → PassesOwn (model X.prog X.w) X.A X.env xe → PSs (X.tr pn xe) body (tb W))
    (hsu : ∀ (a dd : Addr) (oe : Obj) (pn : List (Addr × Obj)), PSs (X.suite a ((a, oe) :: pn)) (b₀ :: suite) (ts a dd)) :
    PS X (.Try body [.ExceptHandler (some (.Name x np)) (some n) (b₀ :: suite) pos'] [] [] pos) (fun D σ H => tb (wKeep C i ts D) D σ H) := by
  constructor
  intro pins s σ H D I h
  have ok := I.ok
  have fra : X.A.frames = some (X.env :: X.outer) := by rw [ok.frames, hs]
  refine wpAny_Try_except ?_
  let air : Value → Shared → Prop := fun e s₁ => wpAny (model X.prog X.w) X.A (noteFrame e X.env) (fun _ s₂ => wpAny (model X.prog X.w) X.A (setFlight e none) (fun _ s₃ =>
    wpAny (model X.prog X.w) X.A (handleBy e X.env [.ExceptHandler (some (.Name x np)) (some n) (b₀ :: suite) pos']) (SP X pins D) X.xe s₃) X.xe s₂) X.xe s₁
  have caught : Takes (X.tr (X.pn ++ pins) air) (wKeep C i ts D) := by
    rintro u s' ⟨a, B, sI, pins', σ', H', cls, d, rfl, J', nb, up, sky, na, os, ag, rfl, dd, rfl, hyes⟩
    have J : Inv X pins σ' H' sI := J'.ofTry ok
    have sky1 : Sky B (X.env :: X.outer) a (Zc (.ref C) (some dd)) X.env.locals s'.heap := by rw [← hs]; exact sky
    show wpAny (model X.prog X.w) X.A (noteFrame (.ref a) X.env) _ _ _
    refine Sky.land Zc.steady fra hf sky1 fun h3 fl up3 => ?_
    have K3 : Inv X pins σ' H' { s' with heap := h3 } := J.landed nb fl.1 (up.trans up3) os ag
    obtain ⟨o3, v3, e3, z3, d3⟩ := fl.there
    have off : a ∉ frs (X.env :: X.outer) := fun hm => by
      obtain ⟨_, o', e', hnf⟩ := fl.2.2.1.mem hm
      rw [e3] at e'
      cases e'
      exact hnf _ d3
    have nL : a ≠ X.env.locals := fun z => off (List.mem_filterMap.mpr ⟨X.env, List.mem_cons_self, by rw [hf, z]⟩)
    have nF : a ∉ X.fs := fun hm => off (by
      obtain ⟨e, he, q⟩ := List.mem_filterMap.mp hm
      exact List.mem_filterMap.mpr ⟨e, List.mem_cons_of_mem _ he, q⟩)
    -- the exception is none of the objects that stood before
    have nI : sI.heap.get? a = none := by
      cases q : sI.heap.get? a with
      | none => rfl
      | some o =>
        have z := nb a o q (by rw [hs]; exact off)
        rw [fl.2.1] at z
        cases z
    have n0 : X.s_0.heap.get? a = none := by
      cases q : X.s_0.heap.get? a with
      | none => rfl
      | some o =>
        obtain ⟨o', z⟩ := J.base.there a o q (by rw [hex]; simp)
        rw [nI] at z
        cases z
    have npin : ∀ p ∈ X.pn ++ pins, p.1 ≠ a := fun p hp z => by
      have q := (J.pin p hp).1
      rw [z, nI] at q
      cases q
    have S3 := K3.suite e3 d3 na nL nF
    refine wpAny_handleBy_cons (codeAny_handlers_test ?_) (by intro q; cases q)
    have ty : PySem.W.Looks (model X.prog X.w) h3 (typeOf (.ref a)) (.ref C) := fun A Q E s k q => wpAny_typeOf_ref (k _ _ e3) (by rw [z3.1]; exact q)
    have lm := PySem.W.exm_one (M := model X.prog X.w) K3.kIn ty hm
    have nm : ∀ {Q : Value → Shared → Prop} {E : Value → Shared → Prop}, Q (.ref C) { s' with heap := h3 } → wpAny (model X.prog X.w) (X.A.mark (some (.ref a))) (eval (.Name x np) X.env) Q E { s' with heap := h3 } := fun {Q E} q => by
      obtain ⟨hg, hdb, hm | ⟨hm, hv, hnn⟩⟩ := hc
      · exact ld_glob (X := X.suite a ((a, o3) :: (X.pn ++ pins))) S3 hg hm q hdb
      · exact ld_blt (X := X.suite a ((a, o3) :: (X.pn ++ pins))) S3 hg hm hv q hnn hdb
    refine nm (lm.here ?_)
    refine codeAny_handlers_suite_as ?_
    refine HandSPX.lands_againZ fl fun h4 fl4 up4 => ?_
    have K4 : Inv X pins σ' H' { s' with heap := h4 } := J.landed nb fl4.1 ((up.trans up3).trans up4) os ag
    obtain ⟨o4, v4, e4, z4, d4⟩ := fl4.there
    have S4 := K4.suite e4 d4 na nL nF
    refine store_ok (X := X.suite a ((a, o4) :: (X.pn ++ pins))) (v := .ref a) S4 hN hi (.inl hln) rfl (fun s5 S5 => ?_) (.inr hln)
    refine wpAny_mono ((hsu a dd o4 (X.pn ++ pins)).run [] s5 _ H' _ S5 (hyes a na)) (fun f s6 q6 => ?_) (fun _ _ z => False.elim z)
    cases f with
    | next =>
      obtain ⟨σ6, H6, S6, q6⟩ := q6
      obtain ⟨p1, p2, p3, p4, p5⟩ := S6.pin (a, o4) (by simp)
      have K6 : Inv X pins σ6 (upd H6 a (exK a C dd)) s6 := (S6.unsuite ok).k5track p1 p2 n0 p3 p5 npin (exK_ok p1 z4 d4)
      exact gone_ok K6 hN hi hln fun s7 K7 => ⟨_, _, K7, q6 p2⟩
    | brk =>
      obtain ⟨_, _, _, z⟩ := q6
      exact z.elim
    | cont =>
      obtain ⟨_, _, _, z⟩ := q6
      exact z.elim
    | ret u =>
      obtain ⟨_, _, _, _, _, z⟩ := q6
      exact z.elim
  refine wpAny_mono ((hb (wKeep C i ts D) (X.pn ++ pins) air caught PassesOwn.looking).run [] s σ H D (I.toTry _) h) (fun f s1 hsp => ?_) (fun e s1 he => he)
  cases f with
  | next =>
    obtain ⟨σ', H', J', q⟩ := hsp
    exact wpAny_execs_nil ⟨σ', H', J'.ofTry ok, q⟩
  | brk =>
    obtain ⟨σ', H', J', q⟩ := hsp
    exact ⟨σ', H', J'.ofTry ok, q⟩
  | cont =>
    obtain ⟨σ', H', J', q⟩ := hsp
    exact ⟨σ', H', J'.ofTry ok, q⟩
  | ret u =>
    obtain ⟨v, σ', H', J', r, q⟩ := hsp
    exact ⟨v, σ', H', J'.ofTry ok, r, q⟩
end
end L2

set_option Elab.async false
set_option linter.all false
set_option maxRecDepth 100000
set_option maxHeartbeats 4000000
namespace PySem.W
open PySem PySem.Spec PySem.Calls PyProof.Rows
/-- x.__class__ of an exception of an own class that has its own dict -/
theorem k5class {prog : Program} {w : World} {A : Around} {E : Value → Shared → Prop} {s : Shared} {K : Frag} {x D : Addr} {ox od : Obj} {Q : Option Value → Shared → Prop}
    (hga : findIn K (.ref D) "__getattribute__" = some (some (.builtin "BaseException.__getattribute__"))) (hgt : findIn K (.ref D) "__getattr__" = some none) (hsub : subIn K (.ref D) (.type "BaseException") = some true)
    (hdct : hasDictIn K D = true) (ha : findIn K (.ref D) "__class__" = some (some (.builtin "object.__class__")))
    (hn : specialIn K (.builtin "object.__class__") "__get__" = some (some (.builtin "getset_descriptor.__get__"))) (htk : takesIn K (.builtin "object.__class__") = some true) (hm : mroIn K D (.type "object") = some true)
    (X : K.In s.heap) (I : InstAt s.heap x ox D (some od)) (h : Q (some (.ref D)) { s with toks := s.toks + 1 }) : wpAny (model prog w) A (getAttr? (.ref x) "__class__") Q E s := by
  have hcl : (clsIn K D).isSome = true := by
    obtain ⟨cd, hc, _⟩ := any_some hdct
    rw [hc]
    rfl
  have hf : findObj K D (some od) "__class__" = some (.bind (.builtin "getset_descriptor.__get__") (.builtin "object.__class__")) := findObj_data hcl ha hn htk
  obtain ⟨hp, g, d, t, os⟩ := s
  have L0 := I.type (M := model prog w)
  have L1 := looks_findIn (M := model prog w) X hga
  have L2 := looks_findIn (M := model prog w) X hgt
  have L3 := looks_find (M := model prog w) X I hf
  have sub : Looks (model prog w) hp (isInstance (.ref x) (.type "BaseException")) true := L0.andThen (looks_subIn X hsub)
  have b0 : (false && onTheHeap (Value.builtin "BaseException.__getattribute__")) = false := rfl
  have b2 : (Value.builtin "BaseException.__getattribute__" == Value.builtin "object.__getattribute__") = false := by decide +kernel
  have b1 : (onTheHeap (Value.ref D) && Value.builtin "BaseException.__getattribute__" == Value.builtin "object.__getattribute__") = false := by
    rw [b2]
    rfl
  unfold getAttr? getAttrBy? getAttrBy
  refine wpAny_bind (wpAny_mkText (wpAny_bind (wpAny_attempt (wpAny_holding (wpAny_bind (L0.at (wpAny_bind (L1.at ?_))))))))
  show wpAny _ _ (if (onTheHeap (Value.ref D) && Value.builtin "BaseException.__getattribute__" == Value.builtin "object.__getattribute__") = true then _ else _) _ _ _
  rw [b1, if_neg Bool.false_ne_true]
  unfold getAttrByItsOwn hookBefore
  refine wpAny_bind ?_
  rw [if_pos (show onTheHeap (Value.ref D) = true from rfl)]
  refine L2.at ?_
  refine wpAny_bind (wpAny_attempt (wpAny_holding ?_))
  unfold callGetattribute
  rw [b0, if_neg Bool.false_ne_true]
  unfold boundAndCalled
  rw [PySem.F.excAttr_ValueError.ga.bind (.ref x)]
  refine wpAny_bind (wpAny_pure ?_)
  show wpAny _ _ (call (.builtin "BaseException.__getattribute__") [.ref x, .str "__class__" t]) _ _ _
  refine wpAny_call (codeAny_call_builtin PySem.F.excAttr_ValueError.ga.plain PySem.F.entry_bexc_ga ?_)
  refine @check_slot (model prog w) _ _ ⟨hp, g, d, t + 1, os⟩ "BaseException.__getattribute__" "BaseException" "__getattribute__" (.ref x) [.str "__class__" t] [] _ (by decide +kernel) (by decide +kernel) sub (PySem.F.args_bexc_ga (.ref x) (.str "__class__" t)) ?_
  unfold Builtin.«object.__getattribute__»
  refine wpAny_bind (wpAny_of_eq (a := ((Value.ref x : Value), [Value.str "__class__" t])) (by first | rfl | (simp only [slotArgs]; rfl)) ?_)
  refine wpAny_bind (wpAny_pure (wpAny_bind (L0.at (wpAny_bind (L3.at ?_)))))
  show wpAny _ _ (holding [Value.builtin "object.__class__"] (call (.builtin "getset_descriptor.__get__") [.builtin "object.__class__", .ref x, .ref D]) >>= ret) _ _ _
  refine wpAny_bind (wpAny_holding (wpAny_call (class_get (s := ⟨hp, g, d, t + 1, os⟩) (ox := ox) (od := some od) X I hm ?_)))
  refine wpAny_pure ?_
  show wpAny _ _ (handedOut (.ref D)) _ _ _
  rw [handedOut_of (v := .ref D) rfl]
  first
    | exact wpAny_pure (wpAny_pure h)
    | exact wpAny_pure h
    | exact wpAny_pure (wpAny_bind (wpAny_pure (wpAny_pure h)))
theorem k5kit {K : Frag} {x D : Addr} {ox od : Obj} (hga : findIn K (.ref D) "__getattribute__" = some (some (.builtin "BaseException.__getattribute__"))) (hgt : findIn K (.ref D) "__getattr__" = some none) (hsub : subIn K (.ref D) (.type "BaseException") = some true)
    (hdct : hasDictIn K D = true) (ha : findIn K (.ref D) "__class__" = some (some (.builtin "object.__class__"))) (hn : specialIn K (.builtin "object.__class__") "__get__" = some (some (.builtin "getset_descriptor.__get__")))
    (htk : takesIn K (.builtin "object.__class__") = some true) (hm : mroIn K D (.type "object") = some true) : KitX K (.ref x) (.ref D) (fun h => ∃ od, InstAt h x ox D (some od)) where
  ty := fun _ _ _ ⟨_, I⟩ => I.type
  it := fun _ _ X _ => by
    obtain ⟨cdD, hcD, _⟩ := any_some hdct
    unfold clsIn at hcD
    split at hcD
    · rename_i c' d' cd' sl' ho
      intro A' Q' E' s' k q
      unfold isType loadHead
      exact wpAny_bind (wpAny_loadPart (k _ _ (X _ _ ho)) (wpAny_pure q))
    · cases hcD
  ne := fun h tp dd its n sl X htp => by
    obtain ⟨cdD, hcD, _⟩ := any_some hdct
    refine Bool.eq_false_iff.mpr fun q => ?_
    have e : D = tp := Value.ref.inj (beq_iff_eq.mp q)
    subst e
    unfold clsIn at hcD
    split at hcD
    · rename_i c' d' cd' sl' ho
      have z := (X _ _ ho).symm.trans htp
      cases z
    · cases hcD
  ca := fun X I k => by
    obtain ⟨_, J⟩ := I
    exact k5class hga hgt hsub hdct ha hn htk hm X J k
end PySem.W
namespace K5
open PySem PySem.Spec PyProof.Rows L2
/-- the caught error and its dict -/
theorem exK_inst {X : Cx} {pins : List (Addr × Obj)} {σ : L2.St} {H : Hp} {s : Shared} {a C d : Addr} {fs : List (Str × V)} (I : Inv X pins σ H s) (e : H a = some (exK a C d)) (ed : H d = some (.xd fs)) :
    ∃ oe od mA, PySem.W.InstAt s.heap a oe C (some od) ∧ s.heap.Ns1 d mA ∧ (∀ f, RelO (fs.lookup f) (mA f)) ∧ (∀ f, PySem.W.lookIn f od = some (mA f)) := by
  obtain ⟨oe, vs, h1, h2, h3⟩ := exK_at I.hok e
  have hx : ObjOk X.prog X.w H s.heap d (.xd fs) := I.hok d _ ed
  obtain ⟨mA, hns, hr⟩ := hx
  obtain ⟨od, ho, hl⟩ := lookIn_ns hns
  exact ⟨oe, od, mA, ⟨h1, h2.1, by unfold PySem.W.notCls; rw [h3] <;> rfl, by rw [h2.2]; exact ho⟩, hns, hr, hl⟩
/-! ### e.f, e a kept error -/
def tKf (f : Str) (te : TE) : TE := fun σ H Q => te σ H fun x H1 => ∃ (a C d : Addr) (fs : List (Str × V)) (v : V), x = .ref a ∧ H1 a = some (exK a C d) ∧ H1 d = some (.xd fs) ∧ fs.lookup f = some v ∧ Q v H1
theorem pe_kf {X : Cx} {C0 : Addr} {e : Expr} {te : TE} {pos : Pos} {n : Str} (T : ∀ C, C = C0 → XfC X.K C ∧ PySem.W.findIn X.K (.ref C) n = some none) (he : PE X e te) (hb : attributeBase e n X.env (eval e X.env) = eval e X.env := by rfl) :
    PE X (.Attribute e n pos) (fun σ H Q => te σ H fun x H1 => ∃ (a d : Addr) (fs : List (Str × V)) (v : V), x = .ref a ∧ H1 a = some (exK a C0 d) ∧ H1 d = some (.xd fs) ∧ fs.lookup n = some v ∧ Q v H1) := by
  refine ⟨fun pins s σ H Q I h => ?_⟩
  refine attr_of hb (thn (he.run pins s σ H _ I h) fun u s1 hh => ?_)
  obtain ⟨x, H1, I1, rx, a, d, fs, v, rfl, ha, hd, l, q⟩ := hh
  obtain rfl : u = Value.ref a := rx
  obtain ⟨oe, od, mA, J, hns, hr, hl⟩ := exK_inst I1 ha hd
  obtain ⟨t1, t2⟩ := T C0 rfl
  obtain ⟨u, hu, ru⟩ := RelO.some_of (v := v) (o := mA n) (by rw [← l]; exact hr n)
  exact HandSPX.exc_get I1.kIn J t1.ga t1.gg t1.exC (PySem.W.findObj_own t1.hdC t2 rfl (by rw [hl, hu])) (handed_of ru) ⟨v, H1, I1.tok _, ru, q⟩
/-! ### isinstance(e, c), e a kept error -/
def rIsK (K : PySem.W.Frag) (C : Addr) : List V → Hp → VK → Prop := fun xs H Q => ∃ (a d : Addr) (fs : List (Str × V)) (c : V) (cv : Value) (b : Bool), xs = [.ref a, c] ∧ H a = some (exK a C d) ∧ H d = some (.xd fs) ∧ ClsV c cv ∧ PySem.W.kitOne K (.ref C) cv = some b ∧ Q (.bl b) H
theorem cr_isK {X : Cx} {C : Addr} (T : ExcC X.K C) : CallR X (.builtin "isinstance") (rIsK X.K C) := by
  rintro pins s σ H xs us Q I r ⟨a, d, fs, c, cv, b, rfl, ha, hd, hcv, e, q⟩
  obtain ⟨u1, u2, rfl, r1, r2⟩ := vals2 r
  obtain rfl : u1 = Value.ref a := r1
  have ec := hcv.eq r2
  subst ec
  obtain ⟨oe, od, mA, J, hns, hr, hl⟩ := exK_inst I ha hd
  exact PySem.W.kia_one (PySem.W.k5kit (od := od) T.hg T.hk T.hs T.hd T.ha T.hn T.ht T.hm) I.kIn ⟨od, J⟩ e (fun z => nomatch z) fun tk => ⟨.bl b, H, I.kept (t' := tk) fun _ _ z => z, rfl, q⟩
/-! ### an attribute as a target among others -/
def gFld (K : PySem.W.Frag) (ta : TE) (f : Str) : TG := fun y σ H Q => ta σ H fun x H1 => ∃ a C dx fs, x = .ref a ∧ H1 a = some (.ins C dx fs) ∧ Cls K C ∧ NoAttr K C f ∧ fs.length < 1000 ∧ Q σ (upd H1 a (.ins C dx (putF f y fs)))
theorem pg_fld {X : Cx} {o : Expr} {ta : TE} {f : Str} {pos : Pos} (ho : PE X o ta) : PG X (.Attribute o f pos) (gFld X.K ta f) := by
  refine ⟨fun pins s σ H v u Q I r h => ?_⟩
  rw [assign_Attribute]
  refine wpAny_bind (wpAny_holding (thn (ho.run pins s σ H _ I h) fun ov s1 ⟨x, H1, I1, rx, a, C, dx, fs, ex, ea, c, n, l, q⟩ => ?_))
  subst ex
  obtain rfl : ov = Value.ref a := rx
  refine wpAny_bind (wpAny_standAt (wpAny_bind (wpAny_holding (setattr_ok I1 ea c n l r fun s2 I2 => ?_))))
  exact wpAny_release ⟨σ, _, I2, q⟩
/-! ### x(e, ..), x a local name that holds a class -/
def tMakeV (i : Nat) (C : Addr) (sp : Sp) (E : XK) (t : TA) : TE := fun σ H Q => σ[i]? = some (some (.ref C)) ∧ t σ H fun vs H1 => ∀ x dx, H1 x = none → H1 dx = none → dx ≠ x →
  sp (.ref x :: vs) (upd (upd H1 dx (.own x)) x (.ins C dx [])) (fun v H2 => v = .non ∧ Q (.ref x) H2) E
theorem pe_makeV {X : Cx} {CX : CXT} {k i : Nat} {C f : Addr} {fd : FuncData} {ps : List Str} {sp : Sp} {E : XK} {x : Str} {p pos : Pos} {e : Expr} {es : List Expr} {t : TA} (M : Mk X.K C f) (F : FnOk X.prog X.w X.K X.mg X.base CX k f fd ps sp) (hr : Room (k + 1) X.A)
    (hN : X.N[i]? = some x) (hv : Vis X.env.scope x) (hb : Binds X.K fd ps []) (hx : Passes CX X E) (ha : PA X (e :: es) t) (hdb : (x == ("__debug__" : Str)) = false := by decide) (hcd : (x == ("__classdict__" : Str)) = false := by decide)
    (he : starEach (e :: es) X.env = (false, eval e X.env) :: starEach es X.env := by rfl) (hpl : (backTo pos (starEach es X.env)).any (·.1) = false := by rfl) : PE X (.Call (.Name x p) (e :: es) [] pos) (tMakeV i C sp E t) := by
  refine ⟨fun pins s σ H Q I h => ?_⟩
  obtain ⟨h1, h2⟩ := h
  refine wpAny_Call_Name_kw (thn ((pe_var (pos := p) hN hv hdb hcd).run pins s σ H (fun v H1 => v = .ref C ∧ H1 = H) I ⟨.ref C, h1, rfl, rfl⟩) fun u s1 ⟨v, H1, I1, r1, q1⟩ => ?_)
  obtain ⟨rfl, rfl⟩ := q1
  obtain rfl : u = Value.ref C := r1
  refine PySem.W.callWith_K (h₀ := X.base) I.ok.mod.kin M.kp (thn (ha.run pos pins s1 σ _ _ I1 h2) fun us s2 ⟨vs, H2, I2, r, q⟩ => ⟨I2.kIn, ?_⟩) he hpl
  exact run_make M F hr hb .nil hx I2 r (by simpa using q)
end K5

set_option Elab.async false
set_option linter.all false
set_option maxRecDepth 100000
set_option maxHeartbeats 4000000
/-! The facts of the head, each by a name. -/
namespace K5
open PySem PySem.Spec PyProof.Rows L2
structure Tx (K : PySem.W.Frag) (mg : Str → Option Value) : Prop where
  sy : SaysM K
  ns : ∃ h : Heap, K.In h ∧ h.Ns mainGlobals mg
section
variable {K : PySem.W.Frag} {mg : Str → Option Value}
theorem Tx.fact (T : Tx K mg) (i : Nat) {f : He.Fa} (h : fa[i]? = some f) : f.ok K = true := T.sy.all.1 f (List.mem_of_getElem? h)
theorem Tx.exf (T : Tx K mg) (i : Nat) {f : PySem.W.Frag → Bool} (h : ex[i]? = some f) : f K = true := T.sy.all.2.1 f (List.mem_of_getElem? h)
theorem Tx.glo (T : Tx K mg) (i : Nat) {x : Str} (h : fa[i]? = some (.glo x)) : mg x = some (.ref (He.ga K x)) := by
  obtain ⟨_, X, G⟩ := T.ns
  exact He.glo_ok X G (T.fact i h)
theorem Tx.free (T : Tx K mg) (i : Nat) {x : Str} (h : fa[i]? = some (.free x)) : mg x = none := by
  obtain ⟨_, X, G⟩ := T.ns
  exact He.free_ok X G (T.fact i h)
theorem Tx.int (T : Tx K mg) (i : Nat) {x : Str} {n : Int} (h : fa[i]? = some (.int x n)) : ∃ u, mg x = some u ∧ RelV (.int n) u := by
  obtain ⟨_, X, G⟩ := T.ns
  obtain ⟨t, e⟩ := He.int_ok X G (T.fact i h)
  exact ⟨_, e, t, rfl⟩
theorem Tx.str (T : Tx K mg) (i : Nat) {x z : Str} (h : fa[i]? = some (.str x z)) : ∃ u, mg x = some u ∧ RelV (.str z) u := by
  obtain ⟨_, X, G⟩ := T.ns
  obtain ⟨t, e⟩ := He.str_ok X G (T.fact i h)
  exact ⟨_, e, t, rfl⟩
theorem Tx.cls (T : Tx K mg) (i : Nat) {x : Str} (h : fa[i]? = some (.cls x)) : Cls K (He.ga K x) := He.cls_ok (T.fact i h)
theorem Tx.noat (T : Tx K mg) (i : Nat) {x f : Str} (h : fa[i]? = some (.noat x f)) : NoAttr K (He.ga K x) f := He.noat_ok (T.fact i h)
theorem Tx.meth (T : Tx K mg) (i : Nat) {x m : Str} (h : fa[i]? = some (.meth x m)) : Meth K (He.ga K x) m (He.ma K (He.ga K x) m) := He.meth_ok (T.fact i h)
theorem Tx.mkr (T : Tx K mg) (i : Nat) {x : Str} (h : fa[i]? = some (.mkr x)) : Mk K (He.ga K x) (He.ma K (He.ga K x) "__init__") := He.mkr_ok (T.fact i h)
theorem Tx.g_is_nth (T : Tx K mg) : mg "is_nth" = some (.ref (He.ga K "is_nth")) := T.glo 0 rfl
theorem Tx.g_is_day (T : Tx K mg) : mg "is_day" = some (.ref (He.ga K "is_day")) := T.glo 1 rfl
theorem Tx.g_holds_plain (T : Tx K mg) : mg "holds_plain" = some (.ref (He.ga K "holds_plain")) := T.glo 2 rfl
theorem Tx.g_holds (T : Tx K mg) : mg "holds" = some (.ref (He.ga K "holds")) := T.glo 3 rfl
theorem Tx.g_is_integer (T : Tx K mg) : mg "is_integer" = some (.ref (He.ga K "is_integer")) := T.glo 4 rfl
theorem Tx.g_is_period (T : Tx K mg) : mg "is_period" = some (.ref (He.ga K "is_period")) := T.glo 5 rfl
theorem Tx.g_common_divisor (T : Tx K mg) : mg "common_divisor" = some (.ref (He.ga K "common_divisor")) := T.glo 6 rfl
theorem Tx.g_common_multiple (T : Tx K mg) : mg "common_multiple" = some (.ref (He.ga K "common_multiple")) := T.glo 7 rfl
theorem Tx.g_least_period (T : Tx K mg) : mg "least_period" = some (.ref (He.ga K "least_period")) := T.glo 8 rfl
theorem Tx.g_number_in (T : Tx K mg) : mg "number_in" = some (.ref (He.ga K "number_in")) := T.glo 9 rfl
theorem Tx.g_set_in (T : Tx K mg) : mg "set_in" = some (.ref (He.ga K "set_in")) := T.glo 10 rfl
theorem Tx.g_are_days (T : Tx K mg) : mg "are_days" = some (.ref (He.ga K "are_days")) := T.glo 11 rfl
theorem Tx.g_is_row (T : Tx K mg) : mg "is_row" = some (.ref (He.ga K "is_row")) := T.glo 12 rfl
theorem Tx.g_is_between (T : Tx K mg) : mg "is_between" = some (.ref (He.ga K "is_between")) := T.glo 13 rfl
theorem Tx.g_are_years (T : Tx K mg) : mg "are_years" = some (.ref (He.ga K "are_years")) := T.glo 14 rfl
theorem Tx.g_are_weekdays (T : Tx K mg) : mg "are_weekdays" = some (.ref (He.ga K "are_weekdays")) := T.glo 15 rfl
theorem Tx.g_are_holidays (T : Tx K mg) : mg "are_holidays" = some (.ref (He.ga K "are_holidays")) := T.glo 16 rfl
theorem Tx.g_month_starts (T : Tx K mg) : mg "month_starts" = some (.ref (He.ga K "month_starts")) := T.glo 17 rfl
theorem Tx.g_month_at (T : Tx K mg) : mg "month_at" = some (.ref (He.ga K "month_at")) := T.glo 18 rfl
theorem Tx.g_law_pen (T : Tx K mg) : mg "_law_pen" = some (.ref (He.ga K "_law_pen")) := T.glo 19 rfl
theorem Tx.g_law_draw (T : Tx K mg) : mg "_law_draw" = some (.ref (He.ga K "_law_draw")) := T.glo 20 rfl
theorem Tx.g_law_pick (T : Tx K mg) : mg "_law_pick" = some (.ref (He.ga K "_law_pick")) := T.glo 21 rfl
theorem Tx.g_law_shuffled (T : Tx K mg) : mg "_law_shuffled" = some (.ref (He.ga K "_law_shuffled")) := T.glo 22 rfl
theorem Tx.g_law_gcd (T : Tx K mg) : mg "_law_gcd" = some (.ref (He.ga K "_law_gcd")) := T.glo 23 rfl
theorem Tx.g_law_multiple (T : Tx K mg) : mg "_law_multiple" = some (.ref (He.ga K "_law_multiple")) := T.glo 24 rfl
theorem Tx.g_law_any (T : Tx K mg) : mg "_law_any" = some (.ref (He.ga K "_law_any")) := T.glo 25 rfl
theorem Tx.g_law_calendar (T : Tx K mg) : mg "_law_calendar" = some (.ref (He.ga K "_law_calendar")) := T.glo 26 rfl
theorem Tx.g_law_cycle (T : Tx K mg) : mg "_law_cycle" = some (.ref (He.ga K "_law_cycle")) := T.glo 27 rfl
theorem Tx.g_law_place (T : Tx K mg) : mg "_law_place" = some (.ref (He.ga K "_law_place")) := T.glo 28 rfl
theorem Tx.g_law_weekday (T : Tx K mg) : mg "_law_weekday" = some (.ref (He.ga K "_law_weekday")) := T.glo 29 rfl
theorem Tx.g_law_is_rest (T : Tx K mg) : mg "_law_is_rest" = some (.ref (He.ga K "_law_is_rest")) := T.glo 30 rfl
theorem Tx.g_law_opened (T : Tx K mg) : mg "_law_opened" = some (.ref (He.ga K "_law_opened")) := T.glo 31 rfl
theorem Tx.g_law_nth (T : Tx K mg) : mg "_law_nth" = some (.ref (He.ga K "_law_nth")) := T.glo 32 rfl
theorem Tx.g_law_leaf (T : Tx K mg) : mg "_law_leaf" = some (.ref (He.ga K "_law_leaf")) := T.glo 33 rfl
theorem Tx.g_law_tree (T : Tx K mg) : mg "_law_tree" = some (.ref (He.ga K "_law_tree")) := T.glo 34 rfl
theorem Tx.g_law_words (T : Tx K mg) : mg "_law_words" = some (.ref (He.ga K "_law_words")) := T.glo 35 rfl
theorem Tx.g_law_number (T : Tx K mg) : mg "_law_number" = some (.ref (He.ga K "_law_number")) := T.glo 36 rfl
theorem Tx.g_law_argument_right (T : Tx K mg) : mg "_law_argument_right" = some (.ref (He.ga K "_law_argument_right")) := T.glo 37 rfl
theorem Tx.g_law_first_wrong (T : Tx K mg) : mg "_law_first_wrong" = some (.ref (He.ga K "_law_first_wrong")) := T.glo 38 rfl
theorem Tx.g_law_bent (T : Tx K mg) : mg "_law_bent" = some (.ref (He.ga K "_law_bent")) := T.glo 39 rfl
theorem Tx.g_law_changed (T : Tx K mg) : mg "_law_changed" = some (.ref (He.ga K "_law_changed")) := T.glo 40 rfl
theorem Tx.g_law_told (T : Tx K mg) : mg "_law_told" = some (.ref (He.ga K "_law_told")) := T.glo 41 rfl
theorem Tx.g_law (T : Tx K mg) : mg "law" = some (.ref (He.ga K "law")) := T.glo 42 rfl
theorem Tx.g_InvalidText (T : Tx K mg) : mg "InvalidText" = some (.ref (He.ga K "InvalidText")) := T.glo 43 rfl
theorem Tx.g_InvalidSet (T : Tx K mg) : mg "InvalidSet" = some (.ref (He.ga K "InvalidSet")) := T.glo 44 rfl
theorem Tx.g_Reader (T : Tx K mg) : mg "Reader" = some (.ref (He.ga K "Reader")) := T.glo 45 rfl
theorem Tx.g_DaySet (T : Tx K mg) : mg "DaySet" = some (.ref (He.ga K "DaySet")) := T.glo 46 rfl
theorem Tx.g_Calendar (T : Tx K mg) : mg "Calendar" = some (.ref (He.ga K "Calendar")) := T.glo 47 rfl
theorem Tx.z_len (T : Tx K mg) : mg "len" = none := T.free 48 rfl
theorem Tx.z_range (T : Tx K mg) : mg "range" = none := T.free 49 rfl
theorem Tx.z_isinstance (T : Tx K mg) : mg "isinstance" = none := T.free 50 rfl
theorem Tx.z_int (T : Tx K mg) : mg "int" = none := T.free 51 rfl
theorem Tx.z_bool (T : Tx K mg) : mg "bool" = none := T.free 52 rfl
theorem Tx.z_list (T : Tx K mg) : mg "list" = none := T.free 53 rfl
theorem Tx.z_tuple (T : Tx K mg) : mg "tuple" = none := T.free 54 rfl
theorem Tx.z_set (T : Tx K mg) : mg "set" = none := T.free 55 rfl
theorem Tx.z_str (T : Tx K mg) : mg "str" = none := T.free 56 rfl
theorem Tx.z_abs (T : Tx K mg) : mg "abs" = none := T.free 57 rfl
theorem Tx.z_all (T : Tx K mg) : mg "all" = none := T.free 58 rfl
theorem Tx.z_any (T : Tx K mg) : mg "any" = none := T.free 59 rfl
theorem Tx.z_enumerate (T : Tx K mg) : mg "enumerate" = none := T.free 60 rfl
theorem Tx.z_min (T : Tx K mg) : mg "min" = none := T.free 61 rfl
theorem Tx.z_sum (T : Tx K mg) : mg "sum" = none := T.free 62 rfl
theorem Tx.z_sorted (T : Tx K mg) : mg "sorted" = none := T.free 63 rfl
theorem Tx.z_repr (T : Tx K mg) : mg "repr" = none := T.free 64 rfl
theorem Tx.z_ValueError (T : Tx K mg) : mg "ValueError" = none := T.free 65 rfl
theorem Tx.i_MAX_PERIOD (T : Tx K mg) : ∃ u, mg "MAX_PERIOD" = some u ∧ RelV (.int 200000) u := T.int 66 rfl
theorem Tx.i_MAX_YEARS (T : Tx K mg) : ∃ u, mg "MAX_YEARS" = some u ∧ RelV (.int 400) u := T.int 67 rfl
theorem Tx.i_MAX_MONTHS (T : Tx K mg) : ∃ u, mg "MAX_MONTHS" = some u ∧ RelV (.int 14) u := T.int 68 rfl
theorem Tx.i_MAX_DAYS (T : Tx K mg) : ∃ u, mg "MAX_DAYS" = some u ∧ RelV (.int 40) u := T.int 69 rfl
theorem Tx.i_MAX_WEEK (T : Tx K mg) : ∃ u, mg "MAX_WEEK" = some u ∧ RelV (.int 10) u := T.int 70 rfl
theorem Tx.i_MAX_STEPS (T : Tx K mg) : ∃ u, mg "MAX_STEPS" = some u ∧ RelV (.int 60) u := T.int 71 rfl
theorem Tx.i_MAX_DEPTH (T : Tx K mg) : ∃ u, mg "MAX_DEPTH" = some u ∧ RelV (.int 6) u := T.int 72 rfl
theorem Tx.i_MOST_DIGITS (T : Tx K mg) : ∃ u, mg "MOST_DIGITS" = some u ∧ RelV (.int 12) u := T.int 73 rfl
theorem Tx.i_SHORT_PERIOD (T : Tx K mg) : ∃ u, mg "SHORT_PERIOD" = some u ∧ RelV (.int 2000) u := T.int 74 rfl
theorem Tx.i_DIGITS (T : Tx K mg) : ∃ u, mg "DIGITS" = some u ∧ RelV (.str "0123456789") u := T.str 75 rfl
theorem Tx.c_R (T : Tx K mg) : Cls K (He.ga K "Reader") := T.cls 76 rfl
theorem Tx.k_R (T : Tx K mg) : Mk K (He.ga K "Reader") (He.ma K (He.ga K "Reader") "__init__") := T.mkr 77 rfl
theorem Tx.n_R_guide (T : Tx K mg) : NoAttr K (He.ga K "Reader") "guide" := T.noat 78 rfl
theorem Tx.n_R_words (T : Tx K mg) : NoAttr K (He.ga K "Reader") "words" := T.noat 79 rfl
theorem Tx.n_R_place (T : Tx K mg) : NoAttr K (He.ga K "Reader") "place" := T.noat 80 rfl
theorem Tx.n_R_depth (T : Tx K mg) : NoAttr K (He.ga K "Reader") "depth" := T.noat 81 rfl
theorem Tx.n_R_many (T : Tx K mg) : NoAttr K (He.ga K "Reader") "many" := T.noat 82 rfl
theorem Tx.n_R_with_names (T : Tx K mg) : NoAttr K (He.ga K "Reader") "with_names" := T.noat 83 rfl
theorem Tx.n_R_cuts (T : Tx K mg) : NoAttr K (He.ga K "Reader") "cuts" := T.noat 84 rfl
theorem Tx.m_R_fail (T : Tx K mg) : Meth K (He.ga K "Reader") "fail" (He.ma K (He.ga K "Reader") "fail") := T.meth 85 rfl
theorem Tx.m_R_is_next (T : Tx K mg) : Meth K (He.ga K "Reader") "is_next" (He.ma K (He.ga K "Reader") "is_next") := T.meth 86 rfl
theorem Tx.m_R_taken (T : Tx K mg) : Meth K (He.ga K "Reader") "taken" (He.ma K (He.ga K "Reader") "taken") := T.meth 87 rfl
theorem Tx.m_R_need (T : Tx K mg) : Meth K (He.ga K "Reader") "need" (He.ma K (He.ga K "Reader") "need") := T.meth 88 rfl
theorem Tx.m_R_read_number (T : Tx K mg) : Meth K (He.ga K "Reader") "read_number" (He.ma K (He.ga K "Reader") "read_number") := T.meth 89 rfl
theorem Tx.m_R_bounded (T : Tx K mg) : Meth K (He.ga K "Reader") "bounded" (He.ma K (He.ga K "Reader") "bounded") := T.meth 90 rfl
theorem Tx.m_R_read_weekday (T : Tx K mg) : Meth K (He.ga K "Reader") "read_weekday" (He.ma K (He.ga K "Reader") "read_weekday") := T.meth 91 rfl
theorem Tx.m_R_go_in (T : Tx K mg) : Meth K (He.ga K "Reader") "go_in" (He.ma K (He.ga K "Reader") "go_in") := T.meth 92 rfl
theorem Tx.m_R_go_out (T : Tx K mg) : Meth K (He.ga K "Reader") "go_out" (He.ma K (He.ga K "Reader") "go_out") := T.meth 93 rfl
theorem Tx.m_R_of_month (T : Tx K mg) : Meth K (He.ga K "Reader") "of_month" (He.ma K (He.ga K "Reader") "of_month") := T.meth 94 rfl
theorem Tx.m_R_condition (T : Tx K mg) : Meth K (He.ga K "Reader") "condition" (He.ma K (He.ga K "Reader") "condition") := T.meth 95 rfl
theorem Tx.m_R_term (T : Tx K mg) : Meth K (He.ga K "Reader") "term" (He.ma K (He.ga K "Reader") "term") := T.meth 96 rfl
theorem Tx.m_R_factor (T : Tx K mg) : Meth K (He.ga K "Reader") "factor" (He.ma K (He.ga K "Reader") "factor") := T.meth 97 rfl
theorem Tx.m_R_plain_factor (T : Tx K mg) : Meth K (He.ga K "Reader") "plain_factor" (He.ma K (He.ga K "Reader") "plain_factor") := T.meth 98 rfl
theorem Tx.m_R_finish (T : Tx K mg) : Meth K (He.ga K "Reader") "finish" (He.ma K (He.ga K "Reader") "finish") := T.meth 99 rfl
theorem Tx.c_DS (T : Tx K mg) : Cls K (He.ga K "DaySet") := T.cls 100 rfl
theorem Tx.k_DS (T : Tx K mg) : Mk K (He.ga K "DaySet") (He.ma K (He.ga K "DaySet") "__init__") := T.mkr 101 rfl
theorem Tx.n_DS_flags (T : Tx K mg) : NoAttr K (He.ga K "DaySet") "flags" := T.noat 102 rfl
theorem Tx.n_DS_members (T : Tx K mg) : NoAttr K (He.ga K "DaySet") "members" := T.noat 103 rfl
theorem Tx.c_C (T : Tx K mg) : Cls K (He.ga K "Calendar") := T.cls 104 rfl
theorem Tx.k_C (T : Tx K mg) : Mk K (He.ga K "Calendar") (He.ma K (He.ga K "Calendar") "__init__") := T.mkr 105 rfl
theorem Tx.n_C_all_years (T : Tx K mg) : NoAttr K (He.ga K "Calendar") "all_years" := T.noat 106 rfl
theorem Tx.n_C_days_of_week (T : Tx K mg) : NoAttr K (He.ga K "Calendar") "days_of_week" := T.noat 107 rfl
theorem Tx.n_C_begins (T : Tx K mg) : NoAttr K (He.ga K "Calendar") "begins" := T.noat 108 rfl
theorem Tx.n_C_rests (T : Tx K mg) : NoAttr K (He.ga K "Calendar") "rests" := T.noat 109 rfl
theorem Tx.n_C_free_days (T : Tx K mg) : NoAttr K (He.ga K "Calendar") "free_days" := T.noat 110 rfl
theorem Tx.n_C_lengths (T : Tx K mg) : NoAttr K (He.ga K "Calendar") "lengths" := T.noat 111 rfl
theorem Tx.n_C_starts (T : Tx K mg) : NoAttr K (He.ga K "Calendar") "starts" := T.noat 112 rfl
theorem Tx.n_C_turn (T : Tx K mg) : NoAttr K (He.ga K "Calendar") "turn" := T.noat 113 rfl
theorem Tx.n_C_works (T : Tx K mg) : NoAttr K (He.ga K "Calendar") "works" := T.noat 114 rfl
theorem Tx.m_C_first_works (T : Tx K mg) : Meth K (He.ga K "Calendar") "first_works" (He.ma K (He.ga K "Calendar") "first_works") := T.meth 115 rfl
theorem Tx.m_C_month_start (T : Tx K mg) : Meth K (He.ga K "Calendar") "month_start" (He.ma K (He.ga K "Calendar") "month_start") := T.meth 116 rfl
theorem Tx.m_C_month_days (T : Tx K mg) : Meth K (He.ga K "Calendar") "month_days" (He.ma K (He.ga K "Calendar") "month_days") := T.meth 117 rfl
theorem Tx.m_C_month_number (T : Tx K mg) : Meth K (He.ga K "Calendar") "month_number" (He.ma K (He.ga K "Calendar") "month_number") := T.meth 118 rfl
theorem Tx.m_C_month_length (T : Tx K mg) : Meth K (He.ga K "Calendar") "month_length" (He.ma K (He.ga K "Calendar") "month_length") := T.meth 119 rfl
theorem Tx.m_C_parts (T : Tx K mg) : Meth K (He.ga K "Calendar") "parts" (He.ma K (He.ga K "Calendar") "parts") := T.meth 120 rfl
theorem Tx.m_C_weekday (T : Tx K mg) : Meth K (He.ga K "Calendar") "weekday" (He.ma K (He.ga K "Calendar") "weekday") := T.meth 121 rfl
theorem Tx.m_C_is_work (T : Tx K mg) : Meth K (He.ga K "Calendar") "is_work" (He.ma K (He.ga K "Calendar") "is_work") := T.meth 122 rfl
theorem Tx.n_IT_index (T : Tx K mg) : NoAttr K (He.ga K "InvalidText") "index" := T.noat 123 rfl
theorem Tx.b_is_nth (T : Tx K mg) : ∃ fd, Fun K "is_nth" "is_nth" s_is_nth (He.ga K "is_nth") fd ∧ Binds K fd ["calendar", "date", "number", "weekday"] [] := by
  obtain ⟨fd, F⟩ := T.sy.def_ 0 (d := d_is_nth) rfl
  have G : Fun K "is_nth" "is_nth" s_is_nth (He.ga K "is_nth") fd := He5.fun_of F
  exact ⟨fd, G, G.binds fun _ _ _ _ _ _ us hl => match us, hl with | [_, _, _, _], _ => rfl⟩
theorem Tx.b_is_day (T : Tx K mg) : ∃ fd, Fun K "is_day" "is_day" s_is_day (He.ga K "is_day") fd ∧ Binds K fd ["calendar", "date", "number"] [] := by
  obtain ⟨fd, F⟩ := T.sy.def_ 1 (d := d_is_day) rfl
  have G : Fun K "is_day" "is_day" s_is_day (He.ga K "is_day") fd := He5.fun_of F
  exact ⟨fd, G, G.binds fun _ _ _ _ _ _ us hl => match us, hl with | [_, _, _], _ => rfl⟩
theorem Tx.b_holds_plain (T : Tx K mg) : ∃ fd, Fun K "holds_plain" "holds_plain" s_holds_plain (He.ga K "holds_plain") fd ∧ Binds K fd ["calendar", "condition", "date"] [] := by
  obtain ⟨fd, F⟩ := T.sy.def_ 2 (d := d_holds_plain) rfl
  have G : Fun K "holds_plain" "holds_plain" s_holds_plain (He.ga K "holds_plain") fd := He5.fun_of F
  exact ⟨fd, G, G.binds fun _ _ _ _ _ _ us hl => match us, hl with | [_, _, _], _ => rfl⟩
theorem Tx.b_holds (T : Tx K mg) : ∃ fd, Fun K "holds" "holds" s_holds (He.ga K "holds") fd ∧ Binds K fd ["calendar", "condition", "date", "known"] [] := by
  obtain ⟨fd, F⟩ := T.sy.def_ 3 (d := d_holds) rfl
  have G : Fun K "holds" "holds" s_holds (He.ga K "holds") fd := He5.fun_of F
  exact ⟨fd, G, G.binds fun _ _ _ _ _ _ us hl => match us, hl with | [_, _, _, _], _ => rfl⟩
theorem Tx.b_IT_init (T : Tx K mg) : ∃ fd, Fun K "__init__" "InvalidText.__init__" s_IT_init (He.ma K (He.ga K "InvalidText") "__init__") fd ∧ Binds K fd ["self", "index"] [] := by
  obtain ⟨fd, F⟩ := T.sy.def_ 4 (d := d_IT_init) rfl
  have G : Fun K "__init__" "InvalidText.__init__" s_IT_init (He.ma K (He.ga K "InvalidText") "__init__") fd := He5.fun_of F
  exact ⟨fd, G, G.binds fun _ _ _ _ _ _ us hl => match us, hl with | [_, _], _ => rfl⟩
theorem Tx.b_is_integer (T : Tx K mg) : ∃ fd, Fun K "is_integer" "is_integer" s_is_integer (He.ga K "is_integer") fd ∧ Binds K fd ["value"] [] := by
  obtain ⟨fd, F⟩ := T.sy.def_ 5 (d := d_is_integer) rfl
  have G : Fun K "is_integer" "is_integer" s_is_integer (He.ga K "is_integer") fd := He5.fun_of F
  exact ⟨fd, G, G.binds fun _ _ _ _ _ _ us hl => match us, hl with | [_], _ => rfl⟩
theorem Tx.b_is_period (T : Tx K mg) : ∃ fd, Fun K "is_period" "is_period" s_is_period (He.ga K "is_period") fd ∧ Binds K fd ["value"] [] := by
  obtain ⟨fd, F⟩ := T.sy.def_ 6 (d := d_is_period) rfl
  have G : Fun K "is_period" "is_period" s_is_period (He.ga K "is_period") fd := He5.fun_of F
  exact ⟨fd, G, G.binds fun _ _ _ _ _ _ us hl => match us, hl with | [_], _ => rfl⟩
theorem Tx.b_common_divisor (T : Tx K mg) : ∃ fd, Fun K "common_divisor" "common_divisor" s_common_divisor (He.ga K "common_divisor") fd ∧ Binds K fd ["one", "other"] [] := by
  obtain ⟨fd, F⟩ := T.sy.def_ 7 (d := d_common_divisor) rfl
  have G : Fun K "common_divisor" "common_divisor" s_common_divisor (He.ga K "common_divisor") fd := He5.fun_of F
  exact ⟨fd, G, G.binds fun _ _ _ _ _ _ us hl => match us, hl with | [_, _], _ => rfl⟩
theorem Tx.b_common_multiple (T : Tx K mg) : ∃ fd, Fun K "common_multiple" "common_multiple" s_common_multiple (He.ga K "common_multiple") fd ∧ Binds K fd ["one", "other"] [] := by
  obtain ⟨fd, F⟩ := T.sy.def_ 8 (d := d_common_multiple) rfl
  have G : Fun K "common_multiple" "common_multiple" s_common_multiple (He.ga K "common_multiple") fd := He5.fun_of F
  exact ⟨fd, G, G.binds fun _ _ _ _ _ _ us hl => match us, hl with | [_, _], _ => rfl⟩
theorem Tx.b_least_period (T : Tx K mg) : ∃ fd, Fun K "least_period" "least_period" s_least_period (He.ga K "least_period") fd ∧ Binds K fd ["rows"] [] := by
  obtain ⟨fd, F⟩ := T.sy.def_ 9 (d := d_least_period) rfl
  have G : Fun K "least_period" "least_period" s_least_period (He.ga K "least_period") fd := He5.fun_of F
  exact ⟨fd, G, G.binds fun _ _ _ _ _ _ us hl => match us, hl with | [_], _ => rfl⟩
theorem Tx.b_number_in (T : Tx K mg) : ∃ fd, Fun K "number_in" "number_in" s_number_in (He.ga K "number_in") fd ∧ Binds K fd ["word", "most"] [] := by
  obtain ⟨fd, F⟩ := T.sy.def_ 10 (d := d_number_in) rfl
  have G : Fun K "number_in" "number_in" s_number_in (He.ga K "number_in") fd := He5.fun_of F
  exact ⟨fd, G, G.binds fun _ _ _ _ _ _ us hl => match us, hl with | [_, _], _ => rfl⟩
theorem Tx.b_R_init (T : Tx K mg) : ∃ fd, Fun K "__init__" "Reader.__init__" s_R_init (He.ma K (He.ga K "Reader") "__init__") fd ∧ Binds K fd ["self", "calendar", "text", "with_names"] [] := by
  obtain ⟨fd, F⟩ := T.sy.def_ 11 (d := d_R_init) rfl
  have G : Fun K "__init__" "Reader.__init__" s_R_init (He.ma K (He.ga K "Reader") "__init__") fd := He5.fun_of F
  exact ⟨fd, G, G.binds fun _ _ _ _ _ _ us hl => match us, hl with | [_, _, _, _], _ => rfl⟩
theorem Tx.b_R_fail (T : Tx K mg) : ∃ fd, Fun K "fail" "Reader.fail" s_R_fail (He.ma K (He.ga K "Reader") "fail") fd ∧ Binds K fd ["self"] [] := by
  obtain ⟨fd, F⟩ := T.sy.def_ 12 (d := d_R_fail) rfl
  have G : Fun K "fail" "Reader.fail" s_R_fail (He.ma K (He.ga K "Reader") "fail") fd := He5.fun_of F
  exact ⟨fd, G, G.binds fun _ _ _ _ _ _ us hl => match us, hl with | [_], _ => rfl⟩
theorem Tx.b_R_is_next (T : Tx K mg) : ∃ fd, Fun K "is_next" "Reader.is_next" s_R_is_next (He.ma K (He.ga K "Reader") "is_next") fd ∧ Binds K fd ["self", "word"] [] := by
  obtain ⟨fd, F⟩ := T.sy.def_ 13 (d := d_R_is_next) rfl
  have G : Fun K "is_next" "Reader.is_next" s_R_is_next (He.ma K (He.ga K "Reader") "is_next") fd := He5.fun_of F
  exact ⟨fd, G, G.binds fun _ _ _ _ _ _ us hl => match us, hl with | [_, _], _ => rfl⟩
theorem Tx.b_R_taken (T : Tx K mg) : ∃ fd, Fun K "taken" "Reader.taken" s_R_taken (He.ma K (He.ga K "Reader") "taken") fd ∧ Binds K fd ["self"] [] := by
  obtain ⟨fd, F⟩ := T.sy.def_ 14 (d := d_R_taken) rfl
  have G : Fun K "taken" "Reader.taken" s_R_taken (He.ma K (He.ga K "Reader") "taken") fd := He5.fun_of F
  exact ⟨fd, G, G.binds fun _ _ _ _ _ _ us hl => match us, hl with | [_], _ => rfl⟩
theorem Tx.b_R_need (T : Tx K mg) : ∃ fd, Fun K "need" "Reader.need" s_R_need (He.ma K (He.ga K "Reader") "need") fd ∧ Binds K fd ["self", "word"] [] := by
  obtain ⟨fd, F⟩ := T.sy.def_ 15 (d := d_R_need) rfl
  have G : Fun K "need" "Reader.need" s_R_need (He.ma K (He.ga K "Reader") "need") fd := He5.fun_of F
  exact ⟨fd, G, G.binds fun _ _ _ _ _ _ us hl => match us, hl with | [_, _], _ => rfl⟩
theorem Tx.b_R_read_number (T : Tx K mg) : ∃ fd, Fun K "read_number" "Reader.read_number" s_R_read_number (He.ma K (He.ga K "Reader") "read_number") fd ∧ Binds K fd ["self"] [] := by
  obtain ⟨fd, F⟩ := T.sy.def_ 16 (d := d_R_read_number) rfl
  have G : Fun K "read_number" "Reader.read_number" s_R_read_number (He.ma K (He.ga K "Reader") "read_number") fd := He5.fun_of F
  exact ⟨fd, G, G.binds fun _ _ _ _ _ _ us hl => match us, hl with | [_], _ => rfl⟩
theorem Tx.b_R_bounded (T : Tx K mg) : ∃ fd, Fun K "bounded" "Reader.bounded" s_R_bounded (He.ma K (He.ga K "Reader") "bounded") fd ∧ Binds K fd ["self", "low", "high"] [] := by
  obtain ⟨fd, F⟩ := T.sy.def_ 17 (d := d_R_bounded) rfl
  have G : Fun K "bounded" "Reader.bounded" s_R_bounded (He.ma K (He.ga K "Reader") "bounded") fd := He5.fun_of F
  exact ⟨fd, G, G.binds fun _ _ _ _ _ _ us hl => match us, hl with | [_, _, _], _ => rfl⟩
theorem Tx.b_R_read_weekday (T : Tx K mg) : ∃ fd, Fun K "read_weekday" "Reader.read_weekday" s_R_read_weekday (He.ma K (He.ga K "Reader") "read_weekday") fd ∧ Binds K fd ["self"] [] := by
  obtain ⟨fd, F⟩ := T.sy.def_ 18 (d := d_R_read_weekday) rfl
  have G : Fun K "read_weekday" "Reader.read_weekday" s_R_read_weekday (He.ma K (He.ga K "Reader") "read_weekday") fd := He5.fun_of F
  exact ⟨fd, G, G.binds fun _ _ _ _ _ _ us hl => match us, hl with | [_], _ => rfl⟩
theorem Tx.b_R_go_in (T : Tx K mg) : ∃ fd, Fun K "go_in" "Reader.go_in" s_R_go_in (He.ma K (He.ga K "Reader") "go_in") fd ∧ Binds K fd ["self"] [] := by
  obtain ⟨fd, F⟩ := T.sy.def_ 19 (d := d_R_go_in) rfl
  have G : Fun K "go_in" "Reader.go_in" s_R_go_in (He.ma K (He.ga K "Reader") "go_in") fd := He5.fun_of F
  exact ⟨fd, G, G.binds fun _ _ _ _ _ _ us hl => match us, hl with | [_], _ => rfl⟩
theorem Tx.b_R_go_out (T : Tx K mg) : ∃ fd, Fun K "go_out" "Reader.go_out" s_R_go_out (He.ma K (He.ga K "Reader") "go_out") fd ∧ Binds K fd ["self"] [] := by
  obtain ⟨fd, F⟩ := T.sy.def_ 20 (d := d_R_go_out) rfl
  have G : Fun K "go_out" "Reader.go_out" s_R_go_out (He.ma K (He.ga K "Reader") "go_out") fd := He5.fun_of F
  exact ⟨fd, G, G.binds fun _ _ _ _ _ _ us hl => match us, hl with | [_], _ => rfl⟩
theorem Tx.b_R_of_month (T : Tx K mg) : ∃ fd, Fun K "of_month" "Reader.of_month" s_R_of_month (He.ma K (He.ga K "Reader") "of_month") fd ∧ Binds K fd ["self", "word"] [] := by
  obtain ⟨fd, F⟩ := T.sy.def_ 21 (d := d_R_of_month) rfl
  have G : Fun K "of_month" "Reader.of_month" s_R_of_month (He.ma K (He.ga K "Reader") "of_month") fd := He5.fun_of F
  exact ⟨fd, G, G.binds fun _ _ _ _ _ _ us hl => match us, hl with | [_, _], _ => rfl⟩
theorem Tx.b_R_condition (T : Tx K mg) : ∃ fd, Fun K "condition" "Reader.condition" s_R_condition (He.ma K (He.ga K "Reader") "condition") fd ∧ Binds K fd ["self"] [] := by
  obtain ⟨fd, F⟩ := T.sy.def_ 22 (d := d_R_condition) rfl
  have G : Fun K "condition" "Reader.condition" s_R_condition (He.ma K (He.ga K "Reader") "condition") fd := He5.fun_of F
  exact ⟨fd, G, G.binds fun _ _ _ _ _ _ us hl => match us, hl with | [_], _ => rfl⟩
theorem Tx.b_R_term (T : Tx K mg) : ∃ fd, Fun K "term" "Reader.term" s_R_term (He.ma K (He.ga K "Reader") "term") fd ∧ Binds K fd ["self"] [] := by
  obtain ⟨fd, F⟩ := T.sy.def_ 23 (d := d_R_term) rfl
  have G : Fun K "term" "Reader.term" s_R_term (He.ma K (He.ga K "Reader") "term") fd := He5.fun_of F
  exact ⟨fd, G, G.binds fun _ _ _ _ _ _ us hl => match us, hl with | [_], _ => rfl⟩
theorem Tx.b_R_factor (T : Tx K mg) : ∃ fd, Fun K "factor" "Reader.factor" s_R_factor (He.ma K (He.ga K "Reader") "factor") fd ∧ Binds K fd ["self"] [] := by
  obtain ⟨fd, F⟩ := T.sy.def_ 24 (d := d_R_factor) rfl
  have G : Fun K "factor" "Reader.factor" s_R_factor (He.ma K (He.ga K "Reader") "factor") fd := He5.fun_of F
  exact ⟨fd, G, G.binds fun _ _ _ _ _ _ us hl => match us, hl with | [_], _ => rfl⟩
theorem Tx.b_R_plain_factor (T : Tx K mg) : ∃ fd, Fun K "plain_factor" "Reader.plain_factor" s_R_plain_factor (He.ma K (He.ga K "Reader") "plain_factor") fd ∧ Binds K fd ["self"] [] := by
  obtain ⟨fd, F⟩ := T.sy.def_ 25 (d := d_R_plain_factor) rfl
  have G : Fun K "plain_factor" "Reader.plain_factor" s_R_plain_factor (He.ma K (He.ga K "Reader") "plain_factor") fd := He5.fun_of F
  exact ⟨fd, G, G.binds fun _ _ _ _ _ _ us hl => match us, hl with | [_], _ => rfl⟩
theorem Tx.b_R_finish (T : Tx K mg) : ∃ fd, Fun K "finish" "Reader.finish" s_R_finish (He.ma K (He.ga K "Reader") "finish") fd ∧ Binds K fd ["self"] [] := by
  obtain ⟨fd, F⟩ := T.sy.def_ 26 (d := d_R_finish) rfl
  have G : Fun K "finish" "Reader.finish" s_R_finish (He.ma K (He.ga K "Reader") "finish") fd := He5.fun_of F
  exact ⟨fd, G, G.binds fun _ _ _ _ _ _ us hl => match us, hl with | [_], _ => rfl⟩
theorem Tx.b_set_in (T : Tx K mg) : ∃ fd, FunD K "set_in" "set_in" (defArgs s_set_in) (defBody s_set_in) (defScope s_set_in) [.bl false] [] (He.ga K "set_in") fd := T.sy.def_ 27 (d := d_set_in) rfl
theorem Tx.b_are_days (T : Tx K mg) : ∃ fd, Fun K "are_days" "are_days" s_are_days (He.ga K "are_days") fd ∧ Binds K fd ["period", "days"] [] := by
  obtain ⟨fd, F⟩ := T.sy.def_ 28 (d := d_are_days) rfl
  have G : Fun K "are_days" "are_days" s_are_days (He.ga K "are_days") fd := He5.fun_of F
  exact ⟨fd, G, G.binds fun _ _ _ _ _ _ us hl => match us, hl with | [_, _], _ => rfl⟩
theorem Tx.b_DS_init (T : Tx K mg) : ∃ fd, Fun K "__init__" "DaySet.__init__" s_DS_init (He.ma K (He.ga K "DaySet") "__init__") fd ∧ Binds K fd ["self", "period", "days"] [] := by
  obtain ⟨fd, F⟩ := T.sy.def_ 29 (d := d_DS_init) rfl
  have G : Fun K "__init__" "DaySet.__init__" s_DS_init (He.ma K (He.ga K "DaySet") "__init__") fd := He5.fun_of F
  exact ⟨fd, G, G.binds fun _ _ _ _ _ _ us hl => match us, hl with | [_, _, _], _ => rfl⟩
theorem Tx.b_DS_read (T : Tx K mg) : ∃ fd, Fun K "read" "DaySet.read" s_DS_read (He5.wf K (He.ga K "DaySet") "classmethod" "read") fd ∧ Binds K fd ["cls", "calendar", "text"] [] := by
  obtain ⟨fd, F⟩ := T.sy.def_ 30 (d := d_DS_read) rfl
  have G : Fun K "read" "DaySet.read" s_DS_read (He5.wf K (He.ga K "DaySet") "classmethod" "read") fd := He5.fun_of F
  exact ⟨fd, G, G.binds fun _ _ _ _ _ _ us hl => match us, hl with | [_, _, _], _ => rfl⟩
theorem Tx.b_is_row (T : Tx K mg) : ∃ fd, Fun K "is_row" "is_row" s_is_row (He.ga K "is_row") fd ∧ Binds K fd ["value"] [] := by
  obtain ⟨fd, F⟩ := T.sy.def_ 31 (d := d_is_row) rfl
  have G : Fun K "is_row" "is_row" s_is_row (He.ga K "is_row") fd := He5.fun_of F
  exact ⟨fd, G, G.binds fun _ _ _ _ _ _ us hl => match us, hl with | [_], _ => rfl⟩
theorem Tx.b_is_between (T : Tx K mg) : ∃ fd, Fun K "is_between" "is_between" s_is_between (He.ga K "is_between") fd ∧ Binds K fd ["value", "low", "high"] [] := by
  obtain ⟨fd, F⟩ := T.sy.def_ 32 (d := d_is_between) rfl
  have G : Fun K "is_between" "is_between" s_is_between (He.ga K "is_between") fd := He5.fun_of F
  exact ⟨fd, G, G.binds fun _ _ _ _ _ _ us hl => match us, hl with | [_, _, _], _ => rfl⟩
theorem Tx.b_are_years (T : Tx K mg) : ∃ fd, Fun K "are_years" "are_years" s_are_years (He.ga K "are_years") fd ∧ Binds K fd ["years"] [] := by
  obtain ⟨fd, F⟩ := T.sy.def_ 33 (d := d_are_years) rfl
  have G : Fun K "are_years" "are_years" s_are_years (He.ga K "are_years") fd := He5.fun_of F
  exact ⟨fd, G, G.binds fun _ _ _ _ _ _ us hl => match us, hl with | [_], _ => rfl⟩
theorem Tx.b_are_weekdays (T : Tx K mg) : ∃ fd, Fun K "are_weekdays" "are_weekdays" s_are_weekdays (He.ga K "are_weekdays") fd ∧ Binds K fd ["rest", "week"] [] := by
  obtain ⟨fd, F⟩ := T.sy.def_ 34 (d := d_are_weekdays) rfl
  have G : Fun K "are_weekdays" "are_weekdays" s_are_weekdays (He.ga K "are_weekdays") fd := He5.fun_of F
  exact ⟨fd, G, G.binds fun _ _ _ _ _ _ us hl => match us, hl with | [_, _], _ => rfl⟩
theorem Tx.b_are_holidays (T : Tx K mg) : ∃ fd, Fun K "are_holidays" "are_holidays" s_are_holidays (He.ga K "are_holidays") fd ∧ Binds K fd ["holidays", "months"] [] := by
  obtain ⟨fd, F⟩ := T.sy.def_ 35 (d := d_are_holidays) rfl
  have G : Fun K "are_holidays" "are_holidays" s_are_holidays (He.ga K "are_holidays") fd := He5.fun_of F
  exact ⟨fd, G, G.binds fun _ _ _ _ _ _ us hl => match us, hl with | [_, _], _ => rfl⟩
theorem Tx.b_month_starts (T : Tx K mg) : ∃ fd, Fun K "month_starts" "month_starts" s_month_starts (He.ga K "month_starts") fd ∧ Binds K fd ["lengths"] [] := by
  obtain ⟨fd, F⟩ := T.sy.def_ 36 (d := d_month_starts) rfl
  have G : Fun K "month_starts" "month_starts" s_month_starts (He.ga K "month_starts") fd := He5.fun_of F
  exact ⟨fd, G, G.binds fun _ _ _ _ _ _ us hl => match us, hl with | [_], _ => rfl⟩
theorem Tx.b_month_at (T : Tx K mg) : ∃ fd, Fun K "month_at" "month_at" s_month_at (He.ga K "month_at") fd ∧ Binds K fd ["starts", "day"] [] := by
  obtain ⟨fd, F⟩ := T.sy.def_ 37 (d := d_month_at) rfl
  have G : Fun K "month_at" "month_at" s_month_at (He.ga K "month_at") fd := He5.fun_of F
  exact ⟨fd, G, G.binds fun _ _ _ _ _ _ us hl => match us, hl with | [_, _], _ => rfl⟩
theorem Tx.b_C_init (T : Tx K mg) : ∃ fd, FunD K "__init__" "Calendar.__init__" (defArgs s_C_init) (defBody s_C_init) (defScope s_C_init) [.int 7] [("first", .int 0)] (He.ma K (He.ga K "Calendar") "__init__") fd := T.sy.def_ 38 (d := d_C_init) rfl
theorem Tx.b_C_first_works (T : Tx K mg) : ∃ fd, Fun K "first_works" "Calendar.first_works" s_C_first_works (He.ma K (He.ga K "Calendar") "first_works") fd ∧ Binds K fd ["self"] [] := by
  obtain ⟨fd, F⟩ := T.sy.def_ 39 (d := d_C_first_works) rfl
  have G : Fun K "first_works" "Calendar.first_works" s_C_first_works (He.ma K (He.ga K "Calendar") "first_works") fd := He5.fun_of F
  exact ⟨fd, G, G.binds fun _ _ _ _ _ _ us hl => match us, hl with | [_], _ => rfl⟩
theorem Tx.b_C_week (T : Tx K mg) : ∃ fd, Fun K "week" "Calendar.week" s_C_week (He5.wf K (He.ga K "Calendar") "property" "week") fd ∧ Binds K fd ["self"] [] := by
  obtain ⟨fd, F⟩ := T.sy.def_ 40 (d := d_C_week) rfl
  have G : Fun K "week" "Calendar.week" s_C_week (He5.wf K (He.ga K "Calendar") "property" "week") fd := He5.fun_of F
  exact ⟨fd, G, G.binds fun _ _ _ _ _ _ us hl => match us, hl with | [_], _ => rfl⟩
theorem Tx.b_C_months (T : Tx K mg) : ∃ fd, Fun K "months" "Calendar.months" s_C_months (He5.wf K (He.ga K "Calendar") "property" "months") fd ∧ Binds K fd ["self"] [] := by
  obtain ⟨fd, F⟩ := T.sy.def_ 41 (d := d_C_months) rfl
  have G : Fun K "months" "Calendar.months" s_C_months (He5.wf K (He.ga K "Calendar") "property" "months") fd := He5.fun_of F
  exact ⟨fd, G, G.binds fun _ _ _ _ _ _ us hl => match us, hl with | [_], _ => rfl⟩
theorem Tx.b_C_period (T : Tx K mg) : ∃ fd, Fun K "period" "Calendar.period" s_C_period (He5.wf K (He.ga K "Calendar") "property" "period") fd ∧ Binds K fd ["self"] [] := by
  obtain ⟨fd, F⟩ := T.sy.def_ 42 (d := d_C_period) rfl
  have G : Fun K "period" "Calendar.period" s_C_period (He5.wf K (He.ga K "Calendar") "property" "period") fd := He5.fun_of F
  exact ⟨fd, G, G.binds fun _ _ _ _ _ _ us hl => match us, hl with | [_], _ => rfl⟩
theorem Tx.b_C_month_start (T : Tx K mg) : ∃ fd, Fun K "month_start" "Calendar.month_start" s_C_month_start (He.ma K (He.ga K "Calendar") "month_start") fd ∧ Binds K fd ["self", "number"] [] := by
  obtain ⟨fd, F⟩ := T.sy.def_ 43 (d := d_C_month_start) rfl
  have G : Fun K "month_start" "Calendar.month_start" s_C_month_start (He.ma K (He.ga K "Calendar") "month_start") fd := He5.fun_of F
  exact ⟨fd, G, G.binds fun _ _ _ _ _ _ us hl => match us, hl with | [_, _], _ => rfl⟩
theorem Tx.b_C_month_days (T : Tx K mg) : ∃ fd, Fun K "month_days" "Calendar.month_days" s_C_month_days (He.ma K (He.ga K "Calendar") "month_days") fd ∧ Binds K fd ["self", "number"] [] := by
  obtain ⟨fd, F⟩ := T.sy.def_ 44 (d := d_C_month_days) rfl
  have G : Fun K "month_days" "Calendar.month_days" s_C_month_days (He.ma K (He.ga K "Calendar") "month_days") fd := He5.fun_of F
  exact ⟨fd, G, G.binds fun _ _ _ _ _ _ us hl => match us, hl with | [_, _], _ => rfl⟩
theorem Tx.b_C_month_number (T : Tx K mg) : ∃ fd, Fun K "month_number" "Calendar.month_number" s_C_month_number (He.ma K (He.ga K "Calendar") "month_number") fd ∧ Binds K fd ["self", "date"] [] := by
  obtain ⟨fd, F⟩ := T.sy.def_ 45 (d := d_C_month_number) rfl
  have G : Fun K "month_number" "Calendar.month_number" s_C_month_number (He.ma K (He.ga K "Calendar") "month_number") fd := He5.fun_of F
  exact ⟨fd, G, G.binds fun _ _ _ _ _ _ us hl => match us, hl with | [_, _], _ => rfl⟩
theorem Tx.b_C_month_length (T : Tx K mg) : ∃ fd, Fun K "month_length" "Calendar.month_length" s_C_month_length (He.ma K (He.ga K "Calendar") "month_length") fd ∧ Binds K fd ["self", "year", "month"] [] := by
  obtain ⟨fd, F⟩ := T.sy.def_ 46 (d := d_C_month_length) rfl
  have G : Fun K "month_length" "Calendar.month_length" s_C_month_length (He.ma K (He.ga K "Calendar") "month_length") fd := He5.fun_of F
  exact ⟨fd, G, G.binds fun _ _ _ _ _ _ us hl => match us, hl with | [_, _, _], _ => rfl⟩
theorem Tx.b_C_parts (T : Tx K mg) : ∃ fd, Fun K "parts" "Calendar.parts" s_C_parts (He.ma K (He.ga K "Calendar") "parts") fd ∧ Binds K fd ["self", "date"] [] := by
  obtain ⟨fd, F⟩ := T.sy.def_ 47 (d := d_C_parts) rfl
  have G : Fun K "parts" "Calendar.parts" s_C_parts (He.ma K (He.ga K "Calendar") "parts") fd := He5.fun_of F
  exact ⟨fd, G, G.binds fun _ _ _ _ _ _ us hl => match us, hl with | [_, _], _ => rfl⟩
theorem Tx.b_C_weekday (T : Tx K mg) : ∃ fd, Fun K "weekday" "Calendar.weekday" s_C_weekday (He.ma K (He.ga K "Calendar") "weekday") fd ∧ Binds K fd ["self", "date"] [] := by
  obtain ⟨fd, F⟩ := T.sy.def_ 48 (d := d_C_weekday) rfl
  have G : Fun K "weekday" "Calendar.weekday" s_C_weekday (He.ma K (He.ga K "Calendar") "weekday") fd := He5.fun_of F
  exact ⟨fd, G, G.binds fun _ _ _ _ _ _ us hl => match us, hl with | [_, _], _ => rfl⟩
theorem Tx.b_C_is_work (T : Tx K mg) : ∃ fd, Fun K "is_work" "Calendar.is_work" s_C_is_work (He.ma K (He.ga K "Calendar") "is_work") fd ∧ Binds K fd ["self", "date"] [] := by
  obtain ⟨fd, F⟩ := T.sy.def_ 49 (d := d_C_is_work) rfl
  have G : Fun K "is_work" "Calendar.is_work" s_C_is_work (He.ma K (He.ga K "Calendar") "is_work") fd := He5.fun_of F
  exact ⟨fd, G, G.binds fun _ _ _ _ _ _ us hl => match us, hl with | [_, _], _ => rfl⟩
theorem Tx.b_law_pen (T : Tx K mg) : ∃ fd, Fun K "_law_pen" "_law_pen" s_law_pen (He.ga K "_law_pen") fd ∧ Binds K fd ["_law_script"] [] := by
  obtain ⟨fd, F⟩ := T.sy.def_ 50 (d := d_law_pen) rfl
  have G : Fun K "_law_pen" "_law_pen" s_law_pen (He.ga K "_law_pen") fd := He5.fun_of F
  exact ⟨fd, G, G.binds fun _ _ _ _ _ _ us hl => match us, hl with | [_], _ => rfl⟩
theorem Tx.b_law_draw (T : Tx K mg) : ∃ fd, Fun K "_law_draw" "_law_draw" s_law_draw (He.ga K "_law_draw") fd ∧ Binds K fd ["_law_pen_here", "_law_many"] [] := by
  obtain ⟨fd, F⟩ := T.sy.def_ 51 (d := d_law_draw) rfl
  have G : Fun K "_law_draw" "_law_draw" s_law_draw (He.ga K "_law_draw") fd := He5.fun_of F
  exact ⟨fd, G, G.binds fun _ _ _ _ _ _ us hl => match us, hl with | [_, _], _ => rfl⟩
theorem Tx.b_law_pick (T : Tx K mg) : ∃ fd, Fun K "_law_pick" "_law_pick" s_law_pick (He.ga K "_law_pick") fd ∧ Binds K fd ["_law_pen_here", "_law_some"] [] := by
  obtain ⟨fd, F⟩ := T.sy.def_ 52 (d := d_law_pick) rfl
  have G : Fun K "_law_pick" "_law_pick" s_law_pick (He.ga K "_law_pick") fd := He5.fun_of F
  exact ⟨fd, G, G.binds fun _ _ _ _ _ _ us hl => match us, hl with | [_, _], _ => rfl⟩
theorem Tx.b_law_shuffled (T : Tx K mg) : ∃ fd, Fun K "_law_shuffled" "_law_shuffled" s_law_shuffled (He.ga K "_law_shuffled") fd ∧ Binds K fd ["_law_pen_here", "_law_some"] [] := by
  obtain ⟨fd, F⟩ := T.sy.def_ 53 (d := d_law_shuffled) rfl
  have G : Fun K "_law_shuffled" "_law_shuffled" s_law_shuffled (He.ga K "_law_shuffled") fd := He5.fun_of F
  exact ⟨fd, G, G.binds fun _ _ _ _ _ _ us hl => match us, hl with | [_, _], _ => rfl⟩
theorem Tx.b_law_gcd (T : Tx K mg) : ∃ fd, Fun K "_law_gcd" "_law_gcd" s_law_gcd (He.ga K "_law_gcd") fd ∧ Binds K fd ["_law_one", "_law_other"] [] := by
  obtain ⟨fd, F⟩ := T.sy.def_ 54 (d := d_law_gcd) rfl
  have G : Fun K "_law_gcd" "_law_gcd" s_law_gcd (He.ga K "_law_gcd") fd := He5.fun_of F
  exact ⟨fd, G, G.binds fun _ _ _ _ _ _ us hl => match us, hl with | [_, _], _ => rfl⟩
theorem Tx.b_law_multiple (T : Tx K mg) : ∃ fd, Fun K "_law_multiple" "_law_multiple" s_law_multiple (He.ga K "_law_multiple") fd ∧ Binds K fd ["_law_one", "_law_other"] [] := by
  obtain ⟨fd, F⟩ := T.sy.def_ 55 (d := d_law_multiple) rfl
  have G : Fun K "_law_multiple" "_law_multiple" s_law_multiple (He.ga K "_law_multiple") fd := He5.fun_of F
  exact ⟨fd, G, G.binds fun _ _ _ _ _ _ us hl => match us, hl with | [_, _], _ => rfl⟩
theorem Tx.b_law_any (T : Tx K mg) : ∃ fd, Fun K "_law_any" "_law_any" s_law_any (He.ga K "_law_any") fd ∧ Binds K fd ["_law_pen_here"] [] := by
  obtain ⟨fd, F⟩ := T.sy.def_ 56 (d := d_law_any) rfl
  have G : Fun K "_law_any" "_law_any" s_law_any (He.ga K "_law_any") fd := He5.fun_of F
  exact ⟨fd, G, G.binds fun _ _ _ _ _ _ us hl => match us, hl with | [_], _ => rfl⟩
theorem Tx.b_law_calendar (T : Tx K mg) : ∃ fd, Fun K "_law_calendar" "_law_calendar" s_law_calendar (He.ga K "_law_calendar") fd ∧ Binds K fd ["_law_pen_here", "_law_most"] [] := by
  obtain ⟨fd, F⟩ := T.sy.def_ 57 (d := d_law_calendar) rfl
  have G : Fun K "_law_calendar" "_law_calendar" s_law_calendar (He.ga K "_law_calendar") fd := He5.fun_of F
  exact ⟨fd, G, G.binds fun _ _ _ _ _ _ us hl => match us, hl with | [_, _], _ => rfl⟩
theorem Tx.b_law_cycle (T : Tx K mg) : ∃ fd, Fun K "_law_cycle" "_law_cycle" s_law_cycle (He.ga K "_law_cycle") fd ∧ Binds K fd ["_law_plain"] [] := by
  obtain ⟨fd, F⟩ := T.sy.def_ 58 (d := d_law_cycle) rfl
  have G : Fun K "_law_cycle" "_law_cycle" s_law_cycle (He.ga K "_law_cycle") fd := He5.fun_of F
  exact ⟨fd, G, G.binds fun _ _ _ _ _ _ us hl => match us, hl with | [_], _ => rfl⟩
theorem Tx.b_law_place (T : Tx K mg) : ∃ fd, Fun K "_law_place" "_law_place" s_law_place (He.ga K "_law_place") fd ∧ Binds K fd ["_law_plain", "_law_date"] [] := by
  obtain ⟨fd, F⟩ := T.sy.def_ 59 (d := d_law_place) rfl
  have G : Fun K "_law_place" "_law_place" s_law_place (He.ga K "_law_place") fd := He5.fun_of F
  exact ⟨fd, G, G.binds fun _ _ _ _ _ _ us hl => match us, hl with | [_, _], _ => rfl⟩
theorem Tx.b_law_weekday (T : Tx K mg) : ∃ fd, Fun K "_law_weekday" "_law_weekday" s_law_weekday (He.ga K "_law_weekday") fd ∧ Binds K fd ["_law_plain", "_law_date"] [] := by
  obtain ⟨fd, F⟩ := T.sy.def_ 60 (d := d_law_weekday) rfl
  have G : Fun K "_law_weekday" "_law_weekday" s_law_weekday (He.ga K "_law_weekday") fd := He5.fun_of F
  exact ⟨fd, G, G.binds fun _ _ _ _ _ _ us hl => match us, hl with | [_, _], _ => rfl⟩
theorem Tx.b_law_is_rest (T : Tx K mg) : ∃ fd, Fun K "_law_is_rest" "_law_is_rest" s_law_is_rest (He.ga K "_law_is_rest") fd ∧ Binds K fd ["_law_plain", "_law_date"] [] := by
  obtain ⟨fd, F⟩ := T.sy.def_ 61 (d := d_law_is_rest) rfl
  have G : Fun K "_law_is_rest" "_law_is_rest" s_law_is_rest (He.ga K "_law_is_rest") fd := He5.fun_of F
  exact ⟨fd, G, G.binds fun _ _ _ _ _ _ us hl => match us, hl with | [_, _], _ => rfl⟩
theorem Tx.b_law_opened (T : Tx K mg) : ∃ fd, Fun K "_law_opened" "_law_opened" s_law_opened (He.ga K "_law_opened") fd ∧ Binds K fd ["_law_plain"] [] := by
  obtain ⟨fd, F⟩ := T.sy.def_ 62 (d := d_law_opened) rfl
  have G : Fun K "_law_opened" "_law_opened" s_law_opened (He.ga K "_law_opened") fd := He5.fun_of F
  exact ⟨fd, G, G.binds fun _ _ _ _ _ _ us hl => match us, hl with | [_], _ => rfl⟩
theorem Tx.b_law_nth (T : Tx K mg) : ∃ fd, Fun K "_law_nth" "_law_nth" s_law_nth (He.ga K "_law_nth") fd ∧ Binds K fd ["_law_pen_here"] [] := by
  obtain ⟨fd, F⟩ := T.sy.def_ 63 (d := d_law_nth) rfl
  have G : Fun K "_law_nth" "_law_nth" s_law_nth (He.ga K "_law_nth") fd := He5.fun_of F
  exact ⟨fd, G, G.binds fun _ _ _ _ _ _ us hl => match us, hl with | [_], _ => rfl⟩
theorem Tx.b_law_leaf (T : Tx K mg) : ∃ fd, Fun K "_law_leaf" "_law_leaf" s_law_leaf (He.ga K "_law_leaf") fd ∧ Binds K fd ["_law_pen_here", "_law_plain"] [] := by
  obtain ⟨fd, F⟩ := T.sy.def_ 64 (d := d_law_leaf) rfl
  have G : Fun K "_law_leaf" "_law_leaf" s_law_leaf (He.ga K "_law_leaf") fd := He5.fun_of F
  exact ⟨fd, G, G.binds fun _ _ _ _ _ _ us hl => match us, hl with | [_, _], _ => rfl⟩
theorem Tx.b_law_tree (T : Tx K mg) : ∃ fd, Fun K "_law_tree" "_law_tree" s_law_tree (He.ga K "_law_tree") fd ∧ Binds K fd ["_law_pen_here", "_law_plain", "_law_deep"] [] := by
  obtain ⟨fd, F⟩ := T.sy.def_ 65 (d := d_law_tree) rfl
  have G : Fun K "_law_tree" "_law_tree" s_law_tree (He.ga K "_law_tree") fd := He5.fun_of F
  exact ⟨fd, G, G.binds fun _ _ _ _ _ _ us hl => match us, hl with | [_, _, _], _ => rfl⟩
theorem Tx.b_law_words (T : Tx K mg) : ∃ fd, Fun K "_law_words" "_law_words" s_law_words (He.ga K "_law_words") fd ∧ Binds K fd ["_law_tree_here", "_law_layer"] [] := by
  obtain ⟨fd, F⟩ := T.sy.def_ 66 (d := d_law_words) rfl
  have G : Fun K "_law_words" "_law_words" s_law_words (He.ga K "_law_words") fd := He5.fun_of F
  exact ⟨fd, G, G.binds fun _ _ _ _ _ _ us hl => match us, hl with | [_, _], _ => rfl⟩
theorem Tx.b_law_number (T : Tx K mg) : ∃ fd, Fun K "_law_number" "_law_number" s_law_number (He.ga K "_law_number") fd ∧ Binds K fd ["_law_word"] [] := by
  obtain ⟨fd, F⟩ := T.sy.def_ 67 (d := d_law_number) rfl
  have G : Fun K "_law_number" "_law_number" s_law_number (He.ga K "_law_number") fd := He5.fun_of F
  exact ⟨fd, G, G.binds fun _ _ _ _ _ _ us hl => match us, hl with | [_], _ => rfl⟩
theorem Tx.b_law_argument_right (T : Tx K mg) : ∃ fd, Fun K "_law_argument_right" "_law_argument_right" s_law_argument_right (He.ga K "_law_argument_right") fd ∧ Binds K fd ["_law_plain", "_law_kind", "_law_word"] [] := by
  obtain ⟨fd, F⟩ := T.sy.def_ 68 (d := d_law_argument_right) rfl
  have G : Fun K "_law_argument_right" "_law_argument_right" s_law_argument_right (He.ga K "_law_argument_right") fd := He5.fun_of F
  exact ⟨fd, G, G.binds fun _ _ _ _ _ _ us hl => match us, hl with | [_, _, _], _ => rfl⟩
theorem Tx.b_law_first_wrong (T : Tx K mg) : ∃ fd, Fun K "_law_first_wrong" "_law_first_wrong" s_law_first_wrong (He.ga K "_law_first_wrong") fd ∧ Binds K fd ["_law_plain", "_law_value"] [] := by
  obtain ⟨fd, F⟩ := T.sy.def_ 69 (d := d_law_first_wrong) rfl
  have G : Fun K "_law_first_wrong" "_law_first_wrong" s_law_first_wrong (He.ga K "_law_first_wrong") fd := He5.fun_of F
  exact ⟨fd, G, G.binds fun _ _ _ _ _ _ us hl => match us, hl with | [_, _], _ => rfl⟩
theorem Tx.b_law_bent (T : Tx K mg) : ∃ fd, Fun K "_law_bent" "_law_bent" s_law_bent (He.ga K "_law_bent") fd ∧ Binds K fd ["_law_pen_here", "_law_words_here"] [] := by
  obtain ⟨fd, F⟩ := T.sy.def_ 70 (d := d_law_bent) rfl
  have G : Fun K "_law_bent" "_law_bent" s_law_bent (He.ga K "_law_bent") fd := He5.fun_of F
  exact ⟨fd, G, G.binds fun _ _ _ _ _ _ us hl => match us, hl with | [_, _], _ => rfl⟩
theorem Tx.b_law_changed (T : Tx K mg) : ∃ fd, Fun K "_law_changed" "_law_changed" s_law_changed (He.ga K "_law_changed") fd ∧ Binds K fd ["_law_pen_here", "_law_text"] [] := by
  obtain ⟨fd, F⟩ := T.sy.def_ 71 (d := d_law_changed) rfl
  have G : Fun K "_law_changed" "_law_changed" s_law_changed (He.ga K "_law_changed") fd := He5.fun_of F
  exact ⟨fd, G, G.binds fun _ _ _ _ _ _ us hl => match us, hl with | [_, _], _ => rfl⟩
theorem Tx.b_law_told (T : Tx K mg) : ∃ fd, Fun K "_law_told" "_law_told" s_law_told (He.ga K "_law_told") fd ∧ Binds K fd ["_law_calendar_here", "_law_value"] [] := by
  obtain ⟨fd, F⟩ := T.sy.def_ 72 (d := d_law_told) rfl
  have G : Fun K "_law_told" "_law_told" s_law_told (He.ga K "_law_told") fd := He5.fun_of F
  exact ⟨fd, G, G.binds fun _ _ _ _ _ _ us hl => match us, hl with | [_, _], _ => rfl⟩
theorem Tx.b_law (T : Tx K mg) : ∃ fd, Fun K "law" "law" s_law (He.ga K "law") fd ∧ Binds K fd ["_law_script"] [] := by
  obtain ⟨fd, F⟩ := T.sy.def_ 73 (d := d_law) rfl
  have G : Fun K "law" "law" s_law (He.ga K "law") fd := He5.fun_of F
  exact ⟨fd, G, G.binds fun _ _ _ _ _ _ us hl => match us, hl with | [_], _ => rfl⟩
end
end K5

set_option Elab.async false
set_option linter.all false
set_option maxRecDepth 100000
set_option maxHeartbeats 4000000
/-! Walks 1: integers, periods. -/
namespace K5
open PySem PySem.Spec PyProof.Rows L2
/-! ### how a def's promise is kept with its name -/
section
variable {P : Program} {w : World} {K : PySem.W.Frag} {mg : Str → Option Value} {base : Heap}
/-- a def by its name, CX0 -/
theorem calF {x : Str} {st : Stmt} {f : Addr} {fd : FuncData} {N ps : List Str} {k : Nat} {sp : Sp} (F : Fun K x x st f fd ∧ L2.Binds K fd ps []) (g : mg x = some (.ref f)) (S : FnScope N ps (defScope st)) (len : ∀ vs H Q E, sp vs H Q E → vs.length = ps.length)
    (hbody : ∀ (cdv : Value) (A : Around) (outer : List Env) (s : Shared) (H : Hp) (vs : List V) (Q : VK) (E : XK), Room k (A.deeper (envOfC x (defScope st) s.heap.objs.size f cdv)) → sp vs H Q E →
      ∃ t, PSs (cxOf CX0 P w K mg base N x (defScope st) f cdv A outer s H E).nox (defBody st) t ∧ t { nx := fun _ H' => Q .non H', rt := Q } (start N vs) H) : C8.Cal P w K mg base (k + 1) x sp [] :=
  ⟨f, fd, ps, [], F.1.ok S len hbody, g, F.1.kp, F.2, .nil⟩
end
theorem bI : bootBuiltins "int" = some (.type "int") := by decide +kernel
theorem bB : bootBuiltins "bool" = some (.type "bool") := by decide +kernel
theorem bL : bootBuiltins "list" = some (.type "list") := by decide +kernel
theorem bT : bootBuiltins "tuple" = some (.type "tuple") := by decide +kernel
theorem bS : bootBuiltins "str" = some (.type "str") := by decide +kernel
theorem bIsi : bootBuiltins "isinstance" = some (.builtin "isinstance") := by decide +kernel
theorem bAbs : bootBuiltins "abs" = some (.builtin "abs") := by decide +kernel
theorem bLen : bootBuiltins "len" = some (.builtin "len") := by decide +kernel
/-! ### promises -/
def sp_is_integer : Sp := fun vs H Q _ => ∃ i : Int, vs = [.int i] ∧ Q (.bl true) H
def sp_is_between : Sp := fun vs H Q _ => ∃ i lo hi : Int, vs = [.int i, .int lo, .int hi] ∧ Q (.bl (decide (lo ≤ i ∧ i ≤ hi))) H
def sp_is_period : Sp := fun vs H Q _ => ∃ i : Int, vs = [.int i] ∧ Q (.bl (decide (1 ≤ i ∧ i ≤ 200000))) H
def sp_is_row : Sp := fun vs H Q _ => ∃ (a : Addr) (xs : List V), vs = [.ref a] ∧ (H a = some (.lst xs) ∨ H a = some (.tup xs)) ∧ ∀ H', Same H H' → Q (.bl true) H'
def sp_gcd : Sp := fun vs H Q _ => ∃ a b : Nat, vs = [.int a, .int b] ∧ Q (.int (Nat.gcd a b)) H
def sp_lcm : Sp := fun vs H Q _ => ∃ a b : Nat, vs = [.int a, .int b] ∧ 0 < a ∧ a < 1000 ∧ 0 < b ∧ b < 1000 ∧ Q (.int (Nat.lcm a b)) H
theorem kitLT_l {K : PySem.W.Frag} : PySem.W.kitAny K (.type "list") [.type "list", .type "tuple"] = some true := kitAny_cons (b := true) (kit_ty (by decide +kernel)) (fun z => nomatch z) fun _ => rfl
theorem kitLT_t {K : PySem.W.Frag} : PySem.W.kitAny K (.type "tuple") [.type "list", .type "tuple"] = some true :=
  kitAny_cons (b := false) (kit_ty (by decide +kernel)) (fun _ => kitAny_cons (b := true) (kit_ty (by decide +kernel)) (fun z => nomatch z) fun _ => rfl) fun z => nomatch z
theorem same_new {H : Hp} {p : Addr} {o : HO} (h : H p = none) : Same H (upd H p o) := fun b u e => by
  rw [upd_ne (ne_of_none e h)]
  exact e
section
variable {P : Program} {w : World} {K : PySem.W.Frag} {mg : Str → Option Value} {base : Heap}
theorem ok_is_integer (T : Tx K mg) : C8.Cal P w K mg base 1 "is_integer" sp_is_integer [] := by
  obtain ⟨fd, F⟩ := T.b_is_integer
  refine calF F T.g_is_integer sc_is_integer (fun vs H Q E h => ?_) (fun cdv A outer s H vs Q E hr h => ?_)
  · obtain ⟨i, rfl, _⟩ := h
    rfl
  · obtain ⟨i, rfl, k⟩ := h
    refine ⟨_, pss_one (ps_ret (pe_and (pe_callB call_isi (by rfl) T.z_isinstance bIsi (pa_cons (pv 0) (pa_cons (pe_bltn (by rfl) T.z_int bI (v := .ty "int") rfl) pa_nil)))
      (pe_one (pe_not (pe_callB call_isi (by rfl) T.z_isinstance bIsi (pa_cons (pv 0) (pa_cons (pe_bltn (by rfl) T.z_bool bB (v := .ty "bool") rfl) pa_nil))))))), ?_⟩
    refine ⟨_, rfl, _, _, _, _, true, rfl, .ty "int", .base (.int i), kit_ty (by decide +kernel), true, rfl, iteT ?_⟩
    refine ⟨_, rfl, _, _, _, _, false, rfl, .ty "bool", .base (.int i), kit_ty (by decide +kernel), false, rfl, ?_⟩
    exact k
theorem ok_is_between (T : Tx K mg) : C8.Cal P w K mg base 2 "is_between" sp_is_between [] := by
  obtain ⟨fd, F⟩ := T.b_is_between
  refine calF F T.g_is_between sc_is_between (fun vs H Q E h => ?_) (fun cdv A outer s H vs Q E hr h => ?_)
  · obtain ⟨i, lo, hi, rfl, _⟩ := h
    rfl
  · obtain ⟨i, lo, hi, rfl, k⟩ := h
    refine ⟨_, pss_one (ps_ret (pe_and (C8.pe_c (ok_is_integer T) hr (by decide) (by rfl) (pa_cons (pv 0) pa_nil)) (pe_one (pe_chain op_le op_le (pv 1) (pv 0) (pv 2))))), ?_⟩
    refine ⟨_, rfl, i, rfl, true, rfl, iteT ?_⟩
    refine ⟨_, rfl, _, rfl, _, _, rfl, rfl, _, rfl, ?_⟩
    by_cases h1 : lo ≤ i
    · rw [decide_eq_true h1]
      refine iteT ⟨_, rfl, _, _, rfl, rfl, ?_⟩
      have e : decide (lo ≤ i ∧ i ≤ hi) = decide (i ≤ hi) := by simp [h1]
      rw [e] at k
      exact k
    · rw [decide_eq_false h1]
      have e : decide (lo ≤ i ∧ i ≤ hi) = false := by simp [h1]
      rw [e] at k
      exact iteF k
theorem ok_is_period (T : Tx K mg) : C8.Cal P w K mg base 2 "is_period" sp_is_period [] := by
  obtain ⟨fd, F⟩ := T.b_is_period
  obtain ⟨uM, gM, rM⟩ := T.i_MAX_PERIOD
  refine calF F T.g_is_period sc_is_period (fun vs H Q E h => ?_) (fun cdv A outer s H vs Q E hr h => ?_)
  · obtain ⟨i, rfl, _⟩ := h
    rfl
  · obtain ⟨i, rfl, k⟩ := h
    refine ⟨_, pss_one (ps_ret (pe_and (C8.pe_c (ok_is_integer T) hr (by decide) (by rfl) (pa_cons (pv 0) pa_nil)) (pe_one (pe_chain op_le op_le pe_int (pv 0) (pe_glob (by rfl) gM rM))))), ?_⟩
    refine ⟨_, rfl, i, rfl, true, rfl, iteT ?_⟩
    refine ⟨_, rfl, _, _, rfl, rfl, _, rfl, ?_⟩
    by_cases h1 : 1 ≤ i
    · rw [decide_eq_true h1]
      refine iteT ⟨_, _, rfl, rfl, ?_⟩
      have e : decide (1 ≤ i ∧ i ≤ 200000) = decide (i ≤ 200000) := by simp [h1]
      rw [e] at k
      exact k
    · rw [decide_eq_false h1]
      have e : decide (1 ≤ i ∧ i ≤ 200000) = false := by simp [h1]
      rw [e] at k
      exact iteF k
theorem ok_is_row (T : Tx K mg) : C8.Cal P w K mg base 1 "is_row" sp_is_row [] := by
  obtain ⟨fd, F⟩ := T.b_is_row
  refine calF F T.g_is_row sc_is_row (fun vs H Q E h => ?_) (fun cdv A outer s H vs Q E hr h => ?_)
  · obtain ⟨a, xs, rfl, _⟩ := h
    rfl
  · obtain ⟨a, xs, rfl, hx, k⟩ := h
    refine ⟨_, pss_one (ps_ret (pe_callB call_isiT (by rfl) T.z_isinstance bIsi (pa_cons (pv 0) (pa_cons (pe_tup (pa_cons (pe_bltn (by rfl) T.z_list bL (v := .ty "list") rfl) (pa_cons (pe_bltn (by rfl) T.z_tuple bT (v := .ty "tuple") rfl) pa_nil))) pa_nil)))), ?_⟩
    refine ⟨_, rfl, (by decide), fun p hp => ?_⟩
    have sm := same_new (o := .tup [.ty "list", .ty "tuple"]) hp
    rcases hx with hx | hx
    · exact ⟨_, p, _, .type "list", [.type "list", .type "tuple"], true, rfl, upd_same, .cons (.ty _) (.cons (.ty _) .nil), .base (.lst (sm _ _ hx)), kitLT_l, k _ sm⟩
    · exact ⟨_, p, _, .type "tuple", [.type "list", .type "tuple"], true, rfl, upd_same, .cons (.ty _) (.cons (.ty _) .nil), .base (.tup (sm _ _ hx)), kitLT_t, k _ sm⟩
end
end K5

set_option Elab.async false
set_option linter.all false
set_option maxRecDepth 100000
set_option maxHeartbeats 4000000
/-! Walks 2: divisors, the least period. -/
namespace K5
open PySem PySem.Spec PyProof.Rows L2
def sp_least : Sp := fun vs H Q _ => ∃ (a : Addr) (bs : List Bool), vs = [.ref a] ∧ H a = some (.lst (bs.map V.bl)) ∧ 1 ≤ bs.length ∧ bs.length ≤ 1000 ∧ ∀ (n : Nat) H', 1 ≤ n → n ≤ bs.length → Same H H' → Q (.int n) H'
/-! ### lists of truth values as data -/
theorem dp_bls {K : PySem.W.Frag} {H : Hp} : ∀ bs : List Bool, DpAll K H (bs.map V.bl) (bs.map PyData.bool)
  | [] => .nil
  | b :: bs => .cons (.bl b) (dp_bls bs)
theorem lay_bls : ∀ bs : List Bool, PyData.canLayAll0 (bs.map PyData.bool) = true
  | [] => by simp [PyData.canLayAll0]
  | b :: bs => by simp [PyData.canLayAll0, PyData.canLay0, lay_bls bs]
theorem depth_bls : ∀ bs : List Bool, PyData.depthAll (bs.map PyData.bool) ≤ 1
  | [] => by simp [PyData.depthAll]
  | b :: bs => by
    have h := depth_bls bs
    simp only [List.map_cons, PyData.depthAll, PyData.depth]
    omega
theorem shaped_bls (bs : List Bool) : SeqAt.shaped (.list (bs.map PyData.bool)) = true := by
  have h := depth_bls bs
  unfold SeqAt.shaped
  rw [Bool.and_eq_true]
  refine ⟨by simp only [PyData.canLay0]; exact lay_bls bs, decide_eq_true ?_⟩
  simp only [PyData.depth]
  omega
theorem cut_bls (bs : List Bool) (lo hi : Option Int) : ∃ cs : List Bool, cutV (bs.map V.bl) lo hi = cs.map V.bl := by
  unfold cutV
  exact ⟨_, by rw [← List.map_drop, ← List.map_take]⟩
/-! ### the turn's arithmetic -/
def lpM (r p : Nat) : Nat := 2 * r + (if p ≤ r then r - p else r)
theorem lp_div {f r p q n : Nat} (e : f = r * q) (hr : 1 < r) (hp : 2 ≤ p) (hq : 1 ≤ q) (hn : f ≤ n) (h : r % p = 0) : f / p = (r / p) * q ∧ 1 ≤ r / p ∧ 1 ≤ f / p ∧ f / p < n ∧ lpM (r / p) p < lpM r p := by
  obtain ⟨t, ht⟩ : ∃ t, r = p * t := ⟨r / p, by have := Nat.div_add_mod r p; omega⟩
  have hp0 : 0 < p := by omega
  have e1 : r / p = t := by rw [ht]; exact Nat.mul_div_cancel_left t hp0
  have e2 : f / p = t * q := by rw [e, ht, Nat.mul_assoc]; exact Nat.mul_div_cancel_left _ hp0
  have ht1 : 1 ≤ t := by
    rcases Nat.eq_zero_or_pos t with z | z
    · rw [z, Nat.mul_zero] at ht
      omega
    · exact z
  have hrt : 2 * t ≤ r := by rw [ht]; exact Nat.mul_le_mul_right t hp
  have htq : 1 ≤ t * q := Nat.mul_pos ht1 hq
  have hf : 2 * (t * q) ≤ f := by
    rw [e, ← Nat.mul_assoc]
    exact Nat.mul_le_mul_right q hrt
  refine ⟨by rw [e2, e1], by omega, by omega, by omega, ?_⟩
  rw [e1]
  unfold lpM
  split <;> split <;> omega
theorem lp_up {r p : Nat} (hr : 1 < r) (hp : 2 ≤ p) (h : r % p ≠ 0) (hle : p * p ≤ r) : lpM r (p + 1) < lpM r p := by
  have h1 : 2 * p ≤ p * p := Nat.mul_le_mul_right p hp
  unfold lpM
  split <;> split <;> omega
theorem lp_jump {r p : Nat} (hr : 1 < r) (hp : 2 ≤ p) (h : r % p ≠ 0) : lpM r r < lpM r p := by
  have hne : p ≠ r := fun z => h (by rw [z, Nat.mod_self])
  unfold lpM
  split <;> split <;> omega
section
variable {P : Program} {w : World} {K : PySem.W.Frag} {mg : Str → Option Value} {base : Heap}
theorem ok_gcd (T : Tx K mg) : C8.Cal P w K mg base 1 "common_divisor" sp_gcd [] := by
  obtain ⟨fd, F⟩ := T.b_common_divisor
  refine calF F T.g_common_divisor sc_common_divisor (fun vs H Q E h => ?_) (fun cdv A outer s H vs Q E hr h => ?_)
  · obtain ⟨a, b, rfl, _⟩ := h
    rfl
  · obtain ⟨a, b, rfl, k⟩ := h
    refine ⟨_, pss_cons (ps_par (i := 0) (j := 1) rfl sc_common_divisor.nd rfl rfl (by decide) rfl rfl (pa_cons (pe_callB call_abs (by rfl) T.z_abs bAbs (pa_cons (pv 0) pa_nil)) (pa_cons (pe_callB call_abs (by rfl) T.z_abs bAbs (pa_cons (pv 1) pa_nil)) pa_nil)) (by rfl))
      (pss_cons (ps_while PassesOwn.never (pt_cmpR op_gt (pv 1) pe_int (nomark _))
        (pss_one (ps_par (i := 0) (j := 1) rfl sc_common_divisor.nd rfl rfl (by decide) rfl rfl (pa_cons (pv 1) (pa_cons (pe_op op_mod (pv 0) (pv 1)) pa_nil)) (by rfl))))
      (pss_one (ps_ret (pv 0)))), ?_⟩
    refine ⟨_, rfl, _, rfl, _, rfl, _, rfl, _, _, rfl, ?_⟩
    have ea : (if (a : Int) < 0 then -(a : Int) else (a : Int)) = (a : Int) := if_neg (by omega)
    have eb : (if (b : Int) < 0 then -(b : Int) else (b : Int)) = (b : Int) := if_neg (by omega)
    rw [ea, eb]
    refine ⟨fun m σ H' => ∃ x y : Nat, σ = [some (.int x), some (.int y)] ∧ H' = H ∧ m = y ∧ Nat.gcd x y = Nat.gcd a b, ⟨b, a, b, rfl, rfl, rfl, rfl⟩, ?_⟩
    rintro m σ H' ⟨x, y, rfl, rfl, rfl, e⟩
    refine ⟨_, rfl, _, _, rfl, rfl, _, rfl, ?_⟩
    refine ite2 (fun hc => ?_) (fun hc => ?_)
    · have hy : 0 < m := by have := of_decide_eq_true hc; omega
      refine ⟨fun σ H2 => ∃ x2 y2 : Nat, σ = [some (.int x2), some (.int y2)] ∧ H2 = H' ∧ y2 < m ∧ Nat.gcd x2 y2 = Nat.gcd a b, fun σ' H2 ⟨x2, y2, e1, e2, e3, e4⟩ => ⟨y2, e3, x2, y2, e1, e2, rfl, e4⟩, ?_⟩
      refine ⟨_, rfl, _, rfl, _, rfl, _, _, rfl, rfl, (by show (0 : Int) < (m : Int); omega), _, _, rfl, m, x % m, ?_, rfl, Nat.mod_lt _ hy, ?_⟩
      · show [some (V.int (m : Int)), some (V.int ((x : Int) % (m : Int)))] = _
        rw [Int.natCast_emod] <;> rfl
      · rw [← e, Nat.gcd_comm m, ← Nat.gcd_rec, Nat.gcd_comm]
    · have hy : m = 0 := by
        have : ¬ (0 : Int) < (m : Int) := fun z => hc (decide_eq_true z)
        omega
      subst hy
      rw [Nat.gcd_zero_right] at e
      refine ⟨_, rfl, ?_⟩
      rw [← e] at k
      exact k
theorem ok_lcm (T : Tx K mg) : C8.Cal P w K mg base 2 "common_multiple" sp_lcm [] := by
  obtain ⟨fd, F⟩ := T.b_common_multiple
  refine calF F T.g_common_multiple sc_common_multiple (fun vs H Q E h => ?_) (fun cdv A outer s H vs Q E hr h => ?_)
  · obtain ⟨a, b, rfl, _⟩ := h
    rfl
  · obtain ⟨a, b, rfl, ha, ha2, hb, hb2, k⟩ := h
    refine ⟨_, pss_one (ps_ret (pe_op op_mul (pe_op op_fdiv (pv 0) (C8.pe_c (ok_gcd T) hr (by decide) (by rfl) (pa_cons (pv 0) (pa_cons (pv 1) pa_nil)))) (pv 1))), ?_⟩
    have hg : 0 < Nat.gcd a b := Nat.gcd_pos_of_pos_left _ ha
    have hg2 : Nat.gcd a b ≤ a := Nat.gcd_le_left _ ha
    refine ⟨_, rfl, _, rfl, _, rfl, a, b, rfl, ?_⟩
    refine ⟨_, _, rfl, rfl, ⟨by omega, by omega⟩, _, rfl, _, _, rfl, rfl, .inr ⟨by omega, by omega⟩, ?_⟩
    have e : ((a : Int) / ((Nat.gcd a b : Nat) : Int)) * (b : Int) = ((Nat.lcm a b : Nat) : Int) := by
      rw [← Int.natCast_ediv, ← Int.natCast_mul]
      congr 1
      unfold Nat.lcm
      rw [Nat.mul_comm, ← Nat.mul_div_assoc _ (Nat.gcd_dvd_left a b), Nat.mul_comm]
    show Q (V.int ((a : Int) / ((Nat.gcd a b : Nat) : Int) * (b : Int))) H
    rw [e]
    exact k
theorem ok_least (T : Tx K mg) : C8.Cal P w K mg base 1 "least_period" sp_least [] := by
  obtain ⟨fd, F⟩ := T.b_least_period
  refine calF F T.g_least_period sc_least_period (fun vs H Q E h => ?_) (fun cdv A outer s H vs Q E hr h => ?_)
  · obtain ⟨a, bs, rfl, _⟩ := h
    rfl
  · obtain ⟨a, bs, rfl, hl, h1, h2, k⟩ := h
    have nd := sc_least_period.nd
    refine ⟨_, pss_cons (ps_par3 (i := 1) (j := 2) (l := 3) rfl nd rfl rfl rfl (by decide) (by decide) (by decide) rfl rfl rfl (pa_cons (pe_callB call_len_seq (by rfl) T.z_len bLen (pa_cons (pv 0) pa_nil)) (pa_cons (pe_callB call_len_seq (by rfl) T.z_len bLen (pa_cons (pv 0) pa_nil)) (pa_cons pe_int pa_nil))) (by rfl))
      (pss_cons (ps_while PassesOwn.never (pt_cmpR op_gt (pv 2) pe_int (nomark _))
        (pss_one (ps_if (pt_cmpR op_eq (pe_op op_mod (pv 2) (pv 3)) pe_int (nomark _))
          (pss_cons (ps_par (i := 2) (j := 4) rfl nd rfl rfl (by decide) rfl rfl (pa_cons (pe_op op_fdiv (pv 2) (pv 3)) (pa_cons (pe_op op_fdiv (pv 1) (pv 3)) pa_nil)) (by rfl))
            (pss_one (ps_if (PW.pt (pw_and (pt_cmpR op_eq (pe_ix ix_list (pv 0) pe_int (fun _ _ => rfl)) (pe_ix ix_list (pv 0) (pv 4) (fun _ _ => rfl)) (nomark _))
              (pw_and1 (pt_cmpR (op_eqD hr.units) (pe_slice sl_list (pv 0) (po_some (pv 4)) po_none) (pe_slice sl_list (pv 0) po_none (po_some (pe_un un_neg (pv 4)))) (nomark _)))))
              (pss_one (ps_set (i := 1) nd rfl (Or.inl rfl) (pv 4))) pss_nil)))
          (pss_one (ps_set (i := 3) nd rfl (Or.inl rfl) (pe_ifExp (pt_cmpR op_le (pe_op op_mul (pv 3) (pv 3)) (pv 2) (nomark _)) (pe_op op_add (pv 3) pe_int) (pv 2)))))))
      (pss_one (ps_ret (pv 1)))), ?_⟩
    have hq : ∀ {H'}, Same H H' → SqL K H' a (bs.map V.bl) := fun sm => SqL.of (sm _ _ hl)
    obtain ⟨N, eN⟩ : ∃ N : Int, N = ((bs.map V.bl).length : Int) := ⟨_, rfl⟩
    have eN2 : N = (bs.length : Int) := by rw [eN, List.length_map]
    refine ⟨_, rfl, a, _, rfl, .inl (hq (Same.refl H)), _, rfl, a, _, rfl, .inl (hq (Same.refl H)), _, _, _, rfl, ?_⟩
    refine ⟨fun m σ H' => ∃ (f r p q : Nat) (x y z : Int) (v : Option V), σ = [some (.ref a), some (.int x), some (.int y), some (.int z), v] ∧ x = f ∧ y = r ∧ z = p ∧ Same H H' ∧ m = lpM r p ∧ f = r * q ∧ 1 ≤ r ∧ 2 ≤ p ∧ 1 ≤ q ∧ p ≤ bs.length + 2 ∧ r ≤ bs.length ∧ f ≤ bs.length ∧ 1 ≤ f,
      ⟨_, bs.length, bs.length, 2, 1, _, _, _, none, rfl, eN.symm.trans eN2, eN.symm.trans eN2, rfl, Same.refl H, rfl, by omega, h1, by omega, by omega, by omega, by omega, by omega, h1⟩, ?_⟩
    rintro m σ H' ⟨f, r, p, q, x, y, z, v, rfl, ex, ey, ez, sm, rfl, e, hr1, hp, hq1, hp2, hrn, hfn, hf1⟩
    refine ⟨_, rfl, _, _, rfl, rfl, _, rfl, ?_⟩
    refine ite2 (fun hc => ?_) (fun hc => ?_)
    · have hr2 : 1 < r := by have := of_decide_eq_true hc; omega
      refine ⟨fun σ H2 => ∃ (f' r' p' q' : Nat) (x y z : Int) (v : Option V), σ = [some (.ref a), some (.int x), some (.int y), some (.int z), v] ∧ x = f' ∧ y = r' ∧ z = p' ∧ Same H H2 ∧ lpM r' p' < lpM r p ∧ f' = r' * q' ∧ 1 ≤ r' ∧ 2 ≤ p' ∧ 1 ≤ q' ∧ p' ≤ bs.length + 2 ∧ r' ≤ bs.length ∧ f' ≤ bs.length ∧ 1 ≤ f',
        fun σ' H2 ⟨f', r', p', q', x, y, z, v', e1, e2, e3, e4, e5, e6, e7⟩ => ⟨lpM r' p', e6, f', r', p', q', x, y, z, v', e1, e2, e3, e4, e5, rfl, e7⟩, ?_⟩
      refine ⟨_, rfl, _, rfl, _, _, rfl, rfl, (by show (0 : Int) < z; omega), rfl, _, rfl, ?_⟩
      have ediv : ∀ n : Nat, ((n : Int) / (p : Int)) = ((n / p : Nat) : Int) := fun n => (Int.natCast_ediv n p).symm
      have emod : ((r : Int) % (p : Int)) = ((r % p : Nat) : Int) := (Int.natCast_emod r p).symm
      refine ite2 (fun hz => ?_) (fun hz => ?_)
      · have hz' : r % p = 0 := by
          have z1 := of_decide_eq_true hz
          have z2 : y % z = 0 := V.int.inj z1
          rw [ey, ez, emod] at z2
          omega
        obtain ⟨d1, d2, d3, d4, d5⟩ := lp_div e hr2 hp hq1 hfn hz'
        have hdl : r / p ≤ r := Nat.div_le_self _ _
        refine ⟨_, rfl, _, rfl, _, _, rfl, rfl, ⟨by omega, by omega⟩, _, rfl, _, rfl, _, _, rfl, rfl, ⟨by omega, by omega⟩, _, _, rfl, ?_⟩
        obtain ⟨X, eX⟩ : ∃ X : Int, X = x / z := ⟨_, rfl⟩
        obtain ⟨Y, eY⟩ : ∃ Y : Int, Y = y / z := ⟨_, rfl⟩
        have eX2 : X = ((f / p : Nat) : Int) := by rw [eX, ex, ez, ediv]
        have eY2 : Y = ((r / p : Nat) : Int) := by rw [eY, ey, ez, ediv]
        obtain ⟨b0, eb0⟩ : ∃ b0, bs[0]? = some b0 := ⟨bs[0], List.getElem?_eq_getElem (by omega)⟩
        obtain ⟨b1, eb1⟩ : ∃ b1, bs[f / p]? = some b1 := ⟨bs[f / p], List.getElem?_eq_getElem (by omega)⟩
        refine ⟨_, rfl, _, _, _, _, rfl, rfl, hq sm, at_of (j := 0) rfl (by rw [List.getElem?_map, eb0] <;> rfl), _, rfl, _, rfl, _, _, _, _, rfl, rfl, hq sm, at_of (j := f / p) (eX.symm.trans eX2) (by rw [List.getElem?_map, eb1] <;> rfl), rfl, _, rfl, ?_⟩
        have last : ∀ H2, Same H H2 → ∃ (f' r' p' q' : Nat) (x1 y1 z1 : Int) (v : Option V), [some (V.ref a), some (V.int x), some (V.int (y / z)), some (V.int z), some (V.int (x / z))] = [some (.ref a), some (.int x1), some (.int y1), some (.int z1), v] ∧ x1 = f' ∧ y1 = r' ∧ z1 = p' ∧ Same H H2 ∧ lpM r' p' < lpM r p ∧ f' = r' * q' ∧ 1 ≤ r' ∧ 2 ≤ p' ∧ 1 ≤ q' ∧ p' ≤ bs.length + 2 ∧ r' ≤ bs.length ∧ f' ≤ bs.length ∧ 1 ≤ f' := fun H2 s2 => by
          obtain ⟨t, ht⟩ : ∃ t, r = p * t := ⟨r / p, by have := Nat.div_add_mod r p; omega⟩
          have e1 : r / p = t := by rw [ht]; exact Nat.mul_div_cancel_left t (by omega)
          exact ⟨f, r / p, p, p * q, _, _, _, _, rfl, ex, eY.symm.trans eY2, ez, s2, d5, by rw [e1, e, ht, Nat.mul_comm p t, Nat.mul_assoc], d2, hp, Nat.mul_pos (by omega) hq1, hp2, by omega, hfn, hf1⟩
        refine ite2 (fun hb => ?_) (fun hb => iteF (last _ sm))
        refine ⟨_, rfl, _, rfl, _, rfl, a, _, rfl, hq sm, fun x1 n1 => ?_⟩
        have s1 : Same H (upd H' x1 (.lst (cutV (bs.map V.bl) (some (x / z)) none))) := sm.trans (same_new n1)
        refine ⟨_, rfl, _, rfl, _, rfl, _, rfl, a, _, rfl, hq s1, fun x2 n2 => ?_⟩
        have s2 := s1.trans (same_new (o := .lst (cutV (bs.map V.bl) none (some (-(x / z))))) n2)
        obtain ⟨c1, hc1⟩ := cut_bls bs (some (x / z)) none
        obtain ⟨c2, hc2⟩ := cut_bls bs none (some (-(x / z)))
        have t1 : SqL K (upd (upd H' x1 (.lst (cutV (bs.map V.bl) (some (x / z)) none))) x2 (.lst (cutV (bs.map V.bl) none (some (-(x / z)))))) x1 (c1.map V.bl) := SqL.of (by
          rw [← hc1]
          exact same_new n2 _ _ upd_same)
        have t2 : SqL K (upd (upd H' x1 (.lst (cutV (bs.map V.bl) (some (x / z)) none))) x2 (.lst (cutV (bs.map V.bl) none (some (-(x / z)))))) x2 (c2.map V.bl) := SqL.of (by
          rw [← hc2]
          exact upd_same)
        refine ⟨_, _, .lst t1 (dp_bls c1), .lst t2 (dp_bls c2), shaped_bls c1, shaped_bls c2, _, rfl, ?_⟩
        refine ite2 (fun hb2 => ?_) (fun hb2 => last _ s2)
        exact ⟨_, rfl, f / p, r / p, p, q, _, _, _, _, rfl, eX.symm.trans eX2, eY.symm.trans eY2, ez, s2, d5, d1, d2, hp, hq1, hp2, by omega, by omega, d3⟩
      · have hz' : r % p ≠ 0 := fun z0 => hz (decide_eq_true (by
          show V.int (y % z) = V.int 0
          rw [ey, ez, emod, z0] <;> rfl))
        refine ⟨_, rfl, _, rfl, _, _, rfl, rfl, .inl ⟨by omega, by omega⟩, _, rfl, _, _, rfl, rfl, _, rfl, ?_⟩
        refine ite2 (fun hb => ?_) (fun hb => ?_)
        · have hpp : p * p ≤ r := by
            have z1 := of_decide_eq_true hb
            rw [ez, ey, ← Int.natCast_mul] at z1
            omega
          have hpp2 : p ≤ p * p := Nat.le_mul_self p
          exact ⟨_, rfl, _, _, rfl, rfl, f, r, p + 1, q, _, _, _, v, rfl, ex, ey, (by omega), sm, lp_up hr2 hp hz' hpp, e, hr1, by omega, hq1, by omega, hrn, hfn, hf1⟩
        · exact ⟨_, rfl, f, r, r, q, _, _, _, v, rfl, ex, ey, ey, sm, lp_jump hr2 hp hz', e, hr1, by omega, hq1, by omega, hrn, hfn, hf1⟩
    · refine ⟨_, rfl, ?_⟩
      subst ex
      exact k f H' hf1 hfn sm
end
end K5

set_option Elab.async false
set_option linter.all false
set_option maxRecDepth 100000
set_option maxHeartbeats 4000000
/-! Mathematics 1: months of a cycle, rest days. -/
namespace K5
/-- the place of a day among the months: the month's index, the day in it from 0 -/
def locate : List Int → Int → Nat × Int
  | [], d => (0, d)
  | l :: ls, d => if d < l then (0, d) else ((locate ls (d - l)).1 + 1, (locate ls (d - l)).2)
def sumI : List Int → Int
  | [] => 0
  | l :: ls => l + sumI ls
theorem sumI_eq : ∀ ls : List Int, ls.sum = sumI ls
  | [] => rfl
  | l :: ls => by rw [List.sum_cons, sumI_eq ls]; rfl
theorem sumI_app : ∀ (a b : List Int), sumI (a ++ b) = sumI a + sumI b
  | [], b => by simp [sumI]
  | l :: a, b => by simp only [List.cons_append, sumI, sumI_app a b]; omega
/-- the first days of the months, and the number of all days at the end -/
def startsFrom : Int → List Int → List Int
  | b, [] => [b]
  | b, l :: ls => b :: startsFrom (b + l) ls
abbrev startsOf (ls : List Int) : List Int := startsFrom 0 ls
theorem startsFrom_length : ∀ (ls : List Int) (b : Int), (startsFrom b ls).length = ls.length + 1
  | [], _ => rfl
  | l :: ls, b => by simp [startsFrom, startsFrom_length ls]
theorem startsFrom_at : ∀ (ls : List Int) (b : Int) (i : Nat), i ≤ ls.length → (startsFrom b ls)[i]? = some (b + sumI (ls.take i))
  | [], b, i, h => by
    have : i = 0 := by simpa using h
    subst this
    simp [startsFrom, sumI]
  | l :: ls, b, 0, h => by simp [startsFrom, sumI]
  | l :: ls, b, i + 1, h => by
    simp only [startsFrom, List.getElem?_cons_succ, List.take_succ_cons, sumI]
    rw [startsFrom_at ls (b + l) i (by simpa using h)]
    congr 1
    omega
theorem locate_of : ∀ (ls : List Int) (d : Int) (i : Nat), (∀ l ∈ ls, 0 ≤ l) → i < ls.length → sumI (ls.take i) ≤ d → d < sumI (ls.take (i + 1)) → locate ls d = (i, d - sumI (ls.take i))
  | [], d, i, hl, h, _, _ => absurd h (by simp)
  | l :: ls, d, 0, hl, h, h1, h2 => by
    simp only [List.take_succ_cons, List.take_zero, sumI] at h1 h2
    simp only [locate]
    rw [if_pos (by omega)]
    simp [sumI]
  | l :: ls, d, i + 1, hl, h, h1, h2 => by
    simp only [List.take_succ_cons, sumI] at h1 h2
    have hpos : ∀ (xs : List Int), (∀ l ∈ xs, 0 ≤ l) → 0 ≤ sumI xs := by
      intro xs
      induction xs with
      | nil => intro _; simp [sumI]
      | cons x xs ih =>
        intro hx
        have a := hx x (List.mem_cons_self ..)
        have b := ih fun y hy => hx y (List.mem_cons_of_mem _ hy)
        simp only [sumI]
        omega
    have p := hpos (ls.take i) fun y hy => hl y (List.mem_cons_of_mem _ (List.mem_of_mem_take hy))
    simp only [locate]
    rw [if_neg (by omega), locate_of ls (d - l) i (fun y hy => hl y (List.mem_cons_of_mem _ hy)) (by simpa using h) (by omega) (by omega)]
    simp only [List.take_succ_cons, sumI]
    congr 1
    omega
theorem locate_is : ∀ (ls : List Int) (d : Int), 0 ≤ d → d < sumI ls → (locate ls d).1 < ls.length ∧ 0 ≤ (locate ls d).2 ∧ (locate ls d).2 = d - sumI (ls.take (locate ls d).1) ∧ ∃ l, ls[(locate ls d).1]? = some l ∧ (locate ls d).2 < l
  | [], d, h0, h => by simp only [sumI] at h; omega
  | l :: ls, d, h0, h => by
    simp only [sumI] at h
    simp only [locate]
    by_cases c : d < l
    · rw [if_pos c]
      exact ⟨by simp, h0, by simp [sumI], l, by simp, c⟩
    · rw [if_neg c]
      obtain ⟨a1, a2, a3, m, a4, a5⟩ := locate_is ls (d - l) (by omega) (by omega)
      refine ⟨by simpa using a1, a2, ?_, m, by simpa using a4, a5⟩
      simp only [List.take_succ_cons, sumI]
      omega
/-! ### a calendar as data -/
structure CalD where
  Y : List (List Int)
  w : Int
  f : Int
  R : List Int
  HD : List (Int × Int)
namespace CalD
variable (c : CalD)
def M : Nat := (c.Y.headD []).length
def ls : List Int := c.Y.flatten
def S : Int := sumI c.ls
def per : Nat := Nat.lcm c.S.toNat c.w.toNat
/-- a date from 0 on: its month's index in the cycle, its day from 0 -/
def loc (d : Int) : Nat × Int := locate c.ls (d % c.S)
def mon (d : Int) : Int := ((c.loc d).1 : Int) % (c.M : Int) + 1
def day (d : Int) : Int := (c.loc d).2 + 1
def isRest (d : Int) : Bool := decide ((d + c.f) % c.w ∈ c.R) || decide ((c.mon d, c.day d) ∈ c.HD)
end CalD
structure CalOk (c : CalD) : Prop where
  y1 : 1 ≤ c.Y.length
  y2 : c.Y.length ≤ 2
  rows : ∀ y ∈ c.Y, y.length = c.M
  m1 : 1 ≤ c.M
  m2 : c.M ≤ 14
  days : ∀ y ∈ c.Y, ∀ d ∈ y, 1 ≤ d ∧ d ≤ 40
  s : c.S ≤ 60
  w1 : 1 ≤ c.w
  w2 : c.w ≤ 6
  f1 : 0 ≤ c.f
  f2 : c.f < c.w
  rin : ∀ r ∈ c.R, 0 ≤ r ∧ r < c.w
  rnd : c.R.Nodup
  hin : ∀ h ∈ c.HD, 1 ≤ h.1 ∧ h.1 ≤ c.M ∧ 1 ≤ h.2 ∧ h.2 ≤ 40
  hnd : c.HD.Nodup
  h2 : c.HD.length ≤ 2
/-- .. with a work day -/
def HasWork (c : CalD) : Prop := ∃ d : Nat, d < c.per ∧ c.isRest d = false
section
variable {c : CalD}
theorem CalOk.lsn (k : CalOk c) : c.ls.length = c.Y.length * c.M := by
  have h : ∀ (Y : List (List Int)) (m : Nat), (∀ y ∈ Y, y.length = m) → Y.flatten.length = Y.length * m := by
    intro Y m
    induction Y with
    | nil => intro _; simp
    | cons y Y ih =>
      intro hy
      rw [List.flatten_cons, List.length_append, ih fun z hz => hy z (List.mem_cons_of_mem _ hz), hy y (List.mem_cons_self ..), List.length_cons, Nat.succ_mul]
      omega
  exact h c.Y c.M k.rows
theorem CalOk.lin (k : CalOk c) : ∀ l ∈ c.ls, 1 ≤ l ∧ l ≤ 40 := fun l hl => by
  obtain ⟨y, hy, h⟩ := List.mem_flatten.mp hl
  exact k.days y hy l h
theorem CalOk.ln1 (k : CalOk c) : 1 ≤ c.ls.length := by
  rw [k.lsn]
  exact Nat.mul_pos k.y1 k.m1
theorem CalOk.ln2 (k : CalOk c) : c.ls.length ≤ 28 := by
  rw [k.lsn]
  exact Nat.mul_le_mul k.y2 k.m2
theorem sumI_ge : ∀ (ls : List Int), (∀ l ∈ ls, 1 ≤ l) → (ls.length : Int) ≤ sumI ls
  | [], _ => by simp [sumI]
  | l :: ls, h => by
    have a := h l (List.mem_cons_self ..)
    have b := sumI_ge ls fun y hy => h y (List.mem_cons_of_mem _ hy)
    simp only [List.length_cons, sumI]
    omega
theorem CalOk.s1 (k : CalOk c) : 1 ≤ c.S := by
  have a := sumI_ge c.ls fun l hl => (k.lin l hl).1
  have b := k.ln1
  unfold CalD.S
  omega
theorem CalOk.per1 (k : CalOk c) : 1 ≤ c.per := by
  have a := k.s1
  have b := k.w1
  exact Nat.lcm_pos (by omega) (by omega)
theorem CalOk.per2 (k : CalOk c) : c.per ≤ 360 := by
  have a := k.s1
  have b := k.w1
  have a2 := k.s
  have b2 := k.w2
  have h := Nat.le_of_dvd (Nat.mul_pos (show 0 < c.S.toNat by omega) (show 0 < c.w.toNat by omega)) (Nat.lcm_dvd_mul c.S.toNat c.w.toNat)
  have h2 : c.S.toNat * c.w.toNat ≤ 60 * 6 := Nat.mul_le_mul (by omega) (by omega)
  unfold CalD.per
  omega
theorem CalOk.m_len (k : CalOk c) (d : Int) : (c.loc d).1 < c.ls.length ∧ 0 ≤ (c.loc d).2 ∧ (c.loc d).2 = d % c.S - sumI (c.ls.take (c.loc d).1) ∧ ∃ l, c.ls[(c.loc d).1]? = some l ∧ (c.loc d).2 < l :=
  locate_is c.ls (d % c.S) (Int.emod_nonneg _ (by have := k.s1; omega)) (Int.emod_lt_of_pos _ (by have := k.s1; omega))
end
end K5

set_option Elab.async false
set_option linter.all false
set_option maxRecDepth 100000
set_option maxHeartbeats 4000000
/-! Walks 3: the calendar's questions. -/
namespace K5
open PySem PySem.Spec PyProof.Rows L2
/-! ### methods, properties by name -/
section
variable {P : Program} {w : World} {K : PySem.W.Frag} {mg : Str → Option Value} {base : Heap}
theorem metF {m qual : Str} {C f : Addr} {st : Stmt} {fd : FuncData} {N ps : List Str} {k : Nat} {sp : Sp} (c : Cls K C) (me : Meth K C m f) (F : Fun K m qual st f fd ∧ L2.Binds K fd ps []) (S : FnScope N ps (defScope st)) (len : ∀ vs H Q E, sp vs H Q E → vs.length = ps.length)
    (hbody : ∀ (cdv : Value) (A : Around) (outer : List Env) (s : Shared) (H : Hp) (vs : List V) (Q : VK) (E : XK), Room k (A.deeper (envOfC qual (defScope st) s.heap.objs.size f cdv)) → sp vs H Q E →
      ∃ t, PSs (cxOf CX0 P w K mg base N qual (defScope st) f cdv A outer s H E).nox (defBody st) t ∧ t { nx := fun _ H' => Q .non H', rt := Q } (start N vs) H) : C8.Met P w K mg base (k + 1) C m sp [] :=
  ⟨f, fd, ps, [], c, me, F.1.ok S len hbody, F.2, .nil⟩
structure Prp (P : Program) (w : World) (K : PySem.W.Frag) (mg : Str → Option Value) (base : Heap) (k : Nat) (C : Addr) (m : Str) (sp : Sp) : Prop where
  ex : ∃ (p g : Addr) (fd : FuncData), Cls K C ∧ PropOf K C m p g ∧ FnOk P w K mg base CX0 k g fd ["self"] sp ∧ L2.Binds K fd ["self"] []
theorem propB_ok {C : Addr} {f : Str} (h : propB K C f = true) : PropOf K C f (He.ma K C f) (He5.wf K C "property" f) := by
  obtain ⟨h1, h⟩ := He.ba h
  obtain ⟨h2, h⟩ := He.ba h
  obtain ⟨h3, h4⟩ := He.ba h
  refine ⟨He.eqO_ok h1, He.eqO_ok h2, of_decide_eq_true h3, ?_⟩
  unfold He5.wf
  split at h4
  · rename_i g r e
    exact ⟨r, by rw [e]⟩
  · cases h4
theorem prpF {m qual : Str} {C : Addr} {st : Stmt} {fd : FuncData} {N : List Str} {k : Nat} {sp : Sp} (c : Cls K C) (hp : propB K C m = true) (F : Fun K m qual st (He5.wf K C "property" m) fd ∧ L2.Binds K fd ["self"] []) (S : FnScope N ["self"] (defScope st)) (len : ∀ vs H Q E, sp vs H Q E → vs.length = ["self"].length)
    (hbody : ∀ (cdv : Value) (A : Around) (outer : List Env) (s : Shared) (H : Hp) (vs : List V) (Q : VK) (E : XK), Room k (A.deeper (envOfC qual (defScope st) s.heap.objs.size (He5.wf K C "property" m) cdv)) → sp vs H Q E →
      ∃ t, PSs (cxOf CX0 P w K mg base N qual (defScope st) (He5.wf K C "property" m) cdv A outer s H E).nox (defBody st) t ∧ t { nx := fun _ H' => Q .non H', rt := Q } (start N vs) H) : Prp P w K mg base (k + 1) C m sp :=
  ⟨_, _, fd, c, propB_ok hp, F.1.ok S len hbody, F.2⟩
end
theorem pe_pr {X : Cx} {k j : Nat} {C : Addr} {f : Str} {sp : Sp} {e : Expr} {pos : Pos} {ta : TE} (c : Prp X.prog X.w X.K X.mg X.base k C f sp) (hr : Room j X.A) (hk : k + 1 ≤ j) (he : PE X e ta) (hab : attributeBase e f X.env (eval e X.env) = eval e X.env := by rfl) :
    PE X (.Attribute e f pos) (tProp C sp [] E0 ta) := by
  obtain ⟨p, g, fd, c, hp, F, hb⟩ := c.ex
  exact pe_prop he c hp F (hr.mono hk) hb .nil pass0 hab
/-! ### a calendar on the heap -/
def calNames : List Str := ["all_years", "days_of_week", "begins", "rests", "free_days", "lengths", "starts", "turn", "works"]
abbrev gl (fs : List (Str × V)) (x : Str) : Option V := fs.lookup x
structure CalF (H : Hp) (fs : List (Str × V)) (c : CalD) : Prop where
  ay : ∃ (p : Addr) (bs : List Addr), gl fs "all_years" = some (.ref p) ∧ H p = some (.tup (bs.map V.ref)) ∧ Paired (fun b y => H b = some (.tup (y.map V.int))) bs c.Y
  dw : gl fs "days_of_week" = some (.int c.w)
  bg : gl fs "begins" = some (.int c.f)
  rs : ∃ (p : Addr) (R' : List Int), gl fs "rests" = some (.ref p) ∧ H p = some (.tup (R'.map V.int)) ∧ R'.Perm c.R
  fd : ∃ (p : Addr) (bs : List Addr) (HD' : List (Int × Int)), gl fs "free_days" = some (.ref p) ∧ H p = some (.tup (bs.map V.ref)) ∧ Paired (fun (b : Addr) (h : Int × Int) => H b = some (.tup [.int h.1, .int h.2])) bs HD' ∧ HD'.Perm c.HD
  ln : ∃ p : Addr, gl fs "lengths" = some (.ref p) ∧ H p = some (.lst (c.ls.map V.int))
  st : ∃ p : Addr, gl fs "starts" = some (.ref p) ∧ H p = some (.lst ((startsOf c.ls).map V.int))
  tn : gl fs "turn" = some (.int c.per)
  no : ∀ m : Str, m ∉ calNames → gl fs m = none
abbrev cC (K : PySem.W.Frag) : Addr := He.ga K "Calendar"
structure CalAt (K : PySem.W.Frag) (H : Hp) (a : Addr) (c : CalD) : Prop where
  ob : ∃ dx fs, H a = some (.ins (cC K) dx fs) ∧ CalF H fs c
theorem Paired.same {α : Type} {F G : Addr → α → Prop} (h : ∀ b x, F b x → G b x) : ∀ {bs : List Addr} {xs : List α}, Paired F bs xs → Paired G bs xs
  | _, _, .nil => .nil
  | _, _, .cons r t => .cons (h _ _ r) (Paired.same h t)
theorem CalF.same {H H' : Hp} {fs : List (Str × V)} {c : CalD} (h : CalF H fs c) (s : Same H H') : CalF H' fs c := by
  obtain ⟨⟨p1, b1, a1, a2, a3⟩, dw, bg, ⟨p2, r2, e1, e2, e3⟩, ⟨p3, b3, h3, f1, f2, f3, f4⟩, ⟨p4, l1, l2⟩, ⟨p5, s1, s2⟩, tn, no⟩ := h
  exact ⟨⟨p1, b1, a1, s _ _ a2, Paired.same (fun _ _ q => s _ _ q) a3⟩, dw, bg, ⟨p2, r2, e1, s _ _ e2, e3⟩, ⟨p3, b3, h3, f1, s _ _ f2, Paired.same (fun _ _ q => s _ _ q) f3, f4⟩, ⟨p4, l1, s _ _ l2⟩, ⟨p5, s1, s _ _ s2⟩, tn, no⟩
theorem CalAt.same {K : PySem.W.Frag} {H H' : Hp} {a : Addr} {c : CalD} (h : CalAt K H a c) (s : Same H H') : CalAt K H' a c := by
  obtain ⟨dx, fs, h1, h2⟩ := h.ob
  exact ⟨dx, fs, s _ _ h1, h2.same s⟩
/-! ### promises -/
def sp_C_week (K : PySem.W.Frag) : Sp := fun vs H Q _ => ∃ (a : Addr) (c : CalD), vs = [.ref a] ∧ CalAt K H a c ∧ Q (.int c.w) H
def sp_C_months (K : PySem.W.Frag) : Sp := fun vs H Q _ => ∃ (a : Addr) (c : CalD), vs = [.ref a] ∧ CalAt K H a c ∧ CalOk c ∧ Q (.int c.M) H
def sp_C_period (K : PySem.W.Frag) : Sp := fun vs H Q _ => ∃ (a : Addr) (c : CalD), vs = [.ref a] ∧ CalAt K H a c ∧ Q (.int c.per) H
def sp_C_month_start (K : PySem.W.Frag) : Sp := fun vs H Q _ => ∃ (a : Addr) (c : CalD) (n : Int), vs = [.ref a, .int n] ∧ CalAt K H a c ∧ CalOk c ∧ Q (.int (n / c.ls.length * c.S + sumI (c.ls.take (n % c.ls.length).toNat))) H
def sp_C_month_days (K : PySem.W.Frag) : Sp := fun vs H Q _ => ∃ (a : Addr) (c : CalD) (n : Int), vs = [.ref a, .int n] ∧ CalAt K H a c ∧ CalOk c ∧ ∀ l : Int, 1 ≤ l → l ≤ 40 → Q (.int l) H
def sp_month_at : Sp := fun vs H Q _ => ∃ (a : Addr) (ls : List Int) (d : Int), vs = [.ref a, .int d] ∧ H a = some (.lst ((startsOf ls).map V.int)) ∧ (∀ l ∈ ls, 0 ≤ l) ∧ ls.length ≤ 1000 ∧ 0 ≤ d ∧ d < sumI ls ∧ Q (.int (locate ls d).1) H
def sp_C_month_number (K : PySem.W.Frag) : Sp := fun vs H Q _ => ∃ (a : Addr) (c : CalD) (d : Int), vs = [.ref a, .int d] ∧ CalAt K H a c ∧ CalOk c ∧ Q (.int (d / c.S * c.ls.length + (c.loc d).1)) H
def sp_C_month_length (K : PySem.W.Frag) : Sp := fun vs H Q _ => ∃ (a : Addr) (c : CalD) (y m : Int), vs = [.ref a, .int y, .int m] ∧ CalAt K H a c ∧ CalOk c ∧ 1 ≤ m ∧ m ≤ c.M ∧ ∀ l : Int, 1 ≤ l → l ≤ 40 → Q (.int l) H
def sp_C_parts (K : PySem.W.Frag) : Sp := fun vs H Q _ => ∃ (a : Addr) (c : CalD) (d : Int), vs = [.ref a, .int d] ∧ CalAt K H a c ∧ CalOk c ∧ ∀ (y : Int) (p : Addr) H', Same H H' → H' p = some (.tup [.int y, .int (c.mon d), .int (c.day d)]) → Q (.ref p) H'
def sp_C_weekday (K : PySem.W.Frag) : Sp := fun vs H Q _ => ∃ (a : Addr) (c : CalD) (d : Int), vs = [.ref a, .int d] ∧ CalAt K H a c ∧ CalOk c ∧ Q (.int ((d + c.f) % c.w)) H
def sp_C_is_work (K : PySem.W.Frag) : Sp := fun vs H Q _ => ∃ (a : Addr) (c : CalD) (d : Int), vs = [.ref a, .int d] ∧ CalAt K H a c ∧ CalOk c ∧ ∀ H', Same H H' → Q (.bl (!c.isRest d)) H'
section
variable {P : Program} {w : World} {K : PySem.W.Frag} {mg : Str → Option Value} {base : Heap}
theorem ok_C_week (T : Tx K mg) : Prp P w K mg base 1 (cC K) "week" (sp_C_week K) := by
  obtain ⟨fd, F⟩ := T.b_C_week
  refine prpF T.c_C (T.exf 10 rfl) F sc_C_week (fun vs H Q E h => ?_) (fun cdv A outer s H vs Q E hr h => ?_)
  · obtain ⟨a, c, rfl, _⟩ := h
    rfl
  · obtain ⟨a, c, rfl, A1, k⟩ := h
    obtain ⟨dx, fs, ha, hf⟩ := A1.ob
    exact ⟨_, pss_one (ps_ret (pe_fld (pv 0) rfl)), _, rfl, a, _, dx, fs, _, rfl, ha, T.c_C, T.n_C_days_of_week, hf.dw, k⟩
theorem ok_C_period (T : Tx K mg) : Prp P w K mg base 1 (cC K) "period" (sp_C_period K) := by
  obtain ⟨fd, F⟩ := T.b_C_period
  refine prpF T.c_C (T.exf 12 rfl) F sc_C_period (fun vs H Q E h => ?_) (fun cdv A outer s H vs Q E hr h => ?_)
  · obtain ⟨a, c, rfl, _⟩ := h
    rfl
  · obtain ⟨a, c, rfl, A1, k⟩ := h
    obtain ⟨dx, fs, ha, hf⟩ := A1.ob
    exact ⟨_, pss_one (ps_ret (pe_fld (pv 0) rfl)), _, rfl, a, _, dx, fs, _, rfl, ha, T.c_C, T.n_C_turn, hf.tn, k⟩
theorem ok_C_months (T : Tx K mg) : Prp P w K mg base 1 (cC K) "months" (sp_C_months K) := by
  obtain ⟨fd, F⟩ := T.b_C_months
  refine prpF T.c_C (T.exf 11 rfl) F sc_C_months (fun vs H Q E h => ?_) (fun cdv A outer s H vs Q E hr h => ?_)
  · obtain ⟨a, c, rfl, _⟩ := h
    rfl
  · obtain ⟨a, c, rfl, A1, ok, k⟩ := h
    obtain ⟨dx, fs, ha, hf⟩ := A1.ob
    obtain ⟨p, bs, l1, l2, l3⟩ := hf.ay
    obtain ⟨y0, hy0⟩ : ∃ y0, c.Y[0]? = some y0 := ⟨c.Y[0]'ok.y1, List.getElem?_eq_getElem ok.y1⟩
    obtain ⟨b0, hb0⟩ : ∃ b0, bs[0]? = some b0 := by
      have := l3.length
      have := ok.y1
      exact ⟨bs[0]'(by omega), List.getElem?_eq_getElem (by omega)⟩
    obtain ⟨y1, e1, e2⟩ := paired_at l3 0 b0 hb0
    rw [hy0] at e1
    cases e1
    have em : c.M = y0.length := ok.rows y0 (List.mem_of_getElem? hy0) |>.symm
    refine ⟨_, pss_one (ps_ret (pe_callB call_len_seq (by rfl) T.z_len bLen (pa_cons (pe_ix ix_tup (pe_fld (pv 0) rfl) pe_int (fun _ _ => rfl)) pa_nil))), ?_⟩
    refine ⟨_, rfl, a, _, dx, fs, _, rfl, ha, T.c_C, T.n_C_all_years, l1, p, _, _, _, rfl, rfl, SqT.of l2, at_of (j := 0) rfl (by rw [List.getElem?_map, hb0] <;> rfl), b0, _, rfl, .inr (SqT.of e2), ?_⟩
    rw [List.length_map, ← em]
    exact k
theorem ok_C_weekday (T : Tx K mg) : C8.Met P w K mg base 1 (cC K) "weekday" (sp_C_weekday K) [] := by
  obtain ⟨fd, F⟩ := T.b_C_weekday
  refine metF T.c_C T.m_C_weekday F sc_C_weekday (fun vs H Q E h => ?_) (fun cdv A outer s H vs Q E hr h => ?_)
  · obtain ⟨a, c, d, rfl, _⟩ := h
    rfl
  · obtain ⟨a, c, d, rfl, A1, ok, k⟩ := h
    obtain ⟨dx, fs, ha, hf⟩ := A1.ob
    refine ⟨_, pss_one (ps_ret (pe_op op_mod (pe_op op_add (pv 1) (pe_fld (pv 0) rfl)) (pe_fld (pv 0) rfl))), ?_⟩
    exact ⟨_, rfl, _, rfl, a, _, dx, fs, _, rfl, ha, T.c_C, T.n_C_begins, hf.bg, _, _, rfl, rfl, _, rfl, a, _, dx, fs, _, rfl, ha, T.c_C, T.n_C_days_of_week, hf.dw, _, _, rfl, rfl, (by have := ok.w1; show 0 < c.w; omega), k⟩
theorem starts_at {c : CalD} (i : Nat) (h : i ≤ c.ls.length) : ((startsOf c.ls).map V.int)[i]? = some (V.int (sumI (c.ls.take i))) := by
  rw [List.getElem?_map, startsFrom_at c.ls 0 i h]
  simp
theorem atI_m1 {α : Type} {xs : List α} {v : α} (h0 : 0 < xs.length) (h : xs[xs.length - 1]? = some v) : atI xs (-1) = some v := by
  have e : ixN xs.length (-1) = some (xs.length - 1) := by
    unfold ixN
    rw [if_neg (by decide), if_pos (by omega)]
    congr 1
    omega
  unfold atI
  rw [e]
  exact h
theorem starts_last {c : CalD} : atI ((startsOf c.ls).map V.int) (-1) = some (V.int c.S) := by
  have h := starts_at (c := c) c.ls.length (Nat.le_refl _)
  have hl : ((startsOf c.ls).map V.int).length = c.ls.length + 1 := by rw [List.length_map, startsFrom_length]
  rw [List.take_length] at h
  exact atI_m1 (by rw [hl]; omega) (by rw [hl]; exact h)
end
end K5

set_option Elab.async false
set_option linter.all false
set_option maxRecDepth 100000
set_option maxHeartbeats 4000000
/-! Walks 4: the calendar's months, parts, work days. -/
namespace K5
open PySem PySem.Spec PyProof.Rows L2
section
variable {P : Program} {w : World} {K : PySem.W.Frag} {mg : Str → Option Value} {base : Heap}
theorem ok_month_at (T : Tx K mg) : C8.Cal P w K mg base 1 "month_at" sp_month_at [] := by
  obtain ⟨fd, F⟩ := T.b_month_at
  refine calF F T.g_month_at sc_month_at (fun vs H Q E h => ?_) (fun cdv A outer s H vs Q E hr h => ?_)
  · obtain ⟨a, ls, d, rfl, _⟩ := h
    rfl
  · obtain ⟨a, ls, d, rfl, ha, hpos, hlen, hd0, hd1, k⟩ := h
    have nd := sc_month_at.nd
    refine ⟨_, pss_cons (ps_par (i := 2) (j := 3) rfl nd rfl rfl (by decide) rfl rfl (pa_cons pe_int (pa_cons (pe_op op_sub (pe_callB call_len_seq (by rfl) T.z_len bLen (pa_cons (pv 0) pa_nil)) pe_int) pa_nil)) (by rfl))
      (pss_cons (ps_while PassesOwn.never (pt_cmpR op_gt (pe_op op_sub (pv 3) (pv 2)) pe_int (nomark _))
        (pss_cons (ps_set (i := 4) nd rfl (Or.inl rfl) (pe_op op_fdiv (pe_op op_add (pv 2) (pv 3)) pe_int))
        (pss_one (ps_if (pt_cmpR op_le (pe_ix ix_list (pv 0) (pv 4) (fun _ _ => rfl)) (pv 1) (nomark _))
          (pss_one (ps_set (i := 2) nd rfl (Or.inl rfl) (pv 4))) (pss_one (ps_set (i := 3) nd rfl (Or.inl rfl) (pv 4)))))))
      (pss_one (ps_ret (pv 2)))), ?_⟩
    have hq : SqL K H a ((startsOf ls).map V.int) := SqL.of ha
    have hz : ((startsOf ls).map V.int).length = ls.length + 1 := by rw [List.length_map, startsFrom_length]
    have at_ : ∀ i, i ≤ ls.length → ((startsOf ls).map V.int)[i]? = some (V.int (sumI (ls.take i))) := fun i hi => by
      rw [List.getElem?_map, startsFrom_at ls 0 i hi]
      simp
    have hl0 : 0 < ls.length := by
      cases ls with
      | nil => simp only [sumI] at hd1; omega
      | cons x r => simp
    refine ⟨_, rfl, a, _, rfl, .inl hq, _, _, rfl, rfl, _, _, rfl, ?_⟩
    refine ⟨fun m σ H' => ∃ (lo hi : Nat) (x y : Int) (v : Option V), σ = [some (.ref a), some (.int d), some (.int x), some (.int y), v] ∧ x = lo ∧ y = hi ∧ H' = H ∧ m = hi - lo ∧ lo < hi ∧ hi ≤ ls.length ∧ sumI (ls.take lo) ≤ d ∧ d < sumI (ls.take hi),
      ⟨_, 0, ls.length, _, _, none, rfl, rfl, by rw [hz]; omega, rfl, rfl, hl0, Nat.le_refl _, by simpa [sumI] using hd0, by rw [List.take_length]; exact hd1⟩, ?_⟩
    rintro m σ H' ⟨lo, hi, x, y, v, rfl, ex, ey, rfl, rfl, h1, h2, h3, h4⟩
    refine ⟨_, rfl, _, rfl, _, _, rfl, rfl, _, _, rfl, rfl, _, rfl, ?_⟩
    refine ite2 (fun hc => ?_) (fun hc => ?_)
    · have hgap : 1 < hi - lo := by have z := of_decide_eq_true hc; omega
      refine ⟨fun σ H2 => ∃ (lo' hi' : Nat) (x y : Int) (v : Option V), σ = [some (.ref a), some (.int d), some (.int x), some (.int y), v] ∧ x = lo' ∧ y = hi' ∧ H2 = H' ∧ hi' - lo' < hi - lo ∧ lo' < hi' ∧ hi' ≤ ls.length ∧ sumI (ls.take lo') ≤ d ∧ d < sumI (ls.take hi'),
        fun σ' H2 ⟨lo', hi', x, y, v, e1, e2, e3, e4, e5, e6⟩ => ⟨_, e5, lo', hi', x, y, v, e1, e2, e3, e4, rfl, e6⟩, ?_⟩
      refine ⟨_, rfl, _, rfl, _, _, rfl, rfl, _, _, rfl, rfl, ⟨by decide, by decide⟩, ?_⟩
      have em : (x + y) / 2 = (((lo + hi) / 2 : Nat) : Int) := by rw [ex, ey]; omega
      have hm1 : lo < (lo + hi) / 2 := by omega
      have hm2 : (lo + hi) / 2 < hi := by omega
      refine ⟨_, rfl, _, rfl, a, _, _, _, rfl, rfl, hq, at_of (j := (lo + hi) / 2) em (at_ _ (by omega)), _, rfl, _, _, rfl, rfl, _, rfl, ?_⟩
      refine ite2 (fun hb => ?_) (fun hb => ?_)
      · exact ⟨_, rfl, (lo + hi) / 2, hi, _, _, _, rfl, em, ey, rfl, by omega, hm2, h2, of_decide_eq_true hb, h4⟩
      · have hb' : ¬ sumI (ls.take ((lo + hi) / 2)) ≤ d := fun z => hb (decide_eq_true z)
        exact ⟨_, rfl, lo, (lo + hi) / 2, _, _, _, rfl, ex, em, rfl, by omega, hm1, by omega, h3, by omega⟩
    · have hgap : hi = lo + 1 := by
        have z : ¬ 1 < y - x := fun z => hc (decide_eq_true z)
        omega
      subst hgap
      have e := locate_of ls d lo hpos (by omega) h3 h4
      rw [e] at k
      subst ex
      exact ⟨_, rfl, k⟩
theorem ok_C_month_start (T : Tx K mg) : C8.Met P w K mg base 1 (cC K) "month_start" (sp_C_month_start K) [] := by
  obtain ⟨fd, F⟩ := T.b_C_month_start
  refine metF T.c_C T.m_C_month_start F sc_C_month_start (fun vs H Q E h => ?_) (fun cdv A outer s H vs Q E hr h => ?_)
  · obtain ⟨a, c, n, rfl, _⟩ := h
    rfl
  · obtain ⟨a, c, n, rfl, A1, ok, k⟩ := h
    obtain ⟨dx, fs, ha, hf⟩ := A1.ob
    obtain ⟨pl, l1, l2⟩ := hf.ln
    obtain ⟨ps, s1, s2⟩ := hf.st
    have nd := sc_C_month_start.nd
    refine ⟨_, pss_cons (ps_set (i := 2) nd rfl (Or.inl rfl) (pe_callB call_len_seq (by rfl) T.z_len bLen (pa_cons (pe_fld (pv 0) rfl) pa_nil)))
      (pss_one (ps_ret (pe_op op_add (pe_op op_mul (pe_op op_fdiv (pv 1) (pv 2)) (pe_ix ix_list (pe_fld (pv 0) rfl) (pe_un un_neg pe_int) (fun _ _ => rfl))) (pe_ix ix_list (pe_fld (pv 0) rfl) (pe_op op_mod (pv 1) (pv 2)) (fun _ _ => rfl))))), ?_⟩
    have hL := ok.ln1
    have hL2 := ok.ln2
    have hS := ok.s
    have hS1 := ok.s1
    obtain ⟨N, eN⟩ : ∃ N : Int, N = ((c.ls.map V.int).length : Int) := ⟨_, rfl⟩
    have eN2 : N = (c.ls.length : Int) := by rw [eN, List.length_map]
    refine ⟨_, rfl, a, _, dx, fs, _, rfl, ha, T.c_C, T.n_C_lengths, l1, pl, _, rfl, .inl (SqL.of l2), ?_⟩
    have m0 : 0 ≤ n % (c.ls.length : Int) := Int.emod_nonneg _ (by omega)
    have m1 : n % (c.ls.length : Int) < c.ls.length := Int.emod_lt_of_pos _ (by omega)
    refine ⟨_, rfl, _, rfl, _, _, rfl, rfl, ⟨by rw [← eN]; omega, by rw [← eN]; omega⟩, _, rfl, a, _, dx, fs, _, rfl, ha, T.c_C, T.n_C_starts, s1, _, rfl, ps, _, _, _, rfl, rfl, SqL.of s2, starts_last, _, _, rfl, rfl, .inr ⟨by omega, by omega⟩,
      _, rfl, a, _, dx, fs, _, rfl, ha, T.c_C, T.n_C_starts, s1, _, rfl, _, rfl, _, _, rfl, rfl, (by rw [← eN]; omega), ps, _, _, _, rfl, rfl, SqL.of s2, at_of (j := (n % (c.ls.length : Int)).toNat) (by rw [← eN, eN2]; omega) (starts_at _ (by omega)), _, _, rfl, rfl, ?_⟩
    rw [List.length_map]
    exact k
theorem ok_C_month_days (T : Tx K mg) : C8.Met P w K mg base 1 (cC K) "month_days" (sp_C_month_days K) [] := by
  obtain ⟨fd, F⟩ := T.b_C_month_days
  refine metF T.c_C T.m_C_month_days F sc_C_month_days (fun vs H Q E h => ?_) (fun cdv A outer s H vs Q E hr h => ?_)
  · obtain ⟨a, c, n, rfl, _⟩ := h
    rfl
  · obtain ⟨a, c, n, rfl, A1, ok, k⟩ := h
    obtain ⟨dx, fs, ha, hf⟩ := A1.ob
    obtain ⟨pl, l1, l2⟩ := hf.ln
    refine ⟨_, pss_one (ps_ret (pe_ix ix_list (pe_fld (pv 0) rfl) (pe_op op_mod (pv 1) (pe_callB call_len_seq (by rfl) T.z_len bLen (pa_cons (pe_fld (pv 0) rfl) pa_nil))) (fun _ _ => rfl))), ?_⟩
    have hL := ok.ln1
    obtain ⟨N, eN⟩ : ∃ N : Int, N = ((c.ls.map V.int).length : Int) := ⟨_, rfl⟩
    have eN2 : N = (c.ls.length : Int) := by rw [eN, List.length_map]
    have m0 : 0 ≤ n % N := Int.emod_nonneg _ (by omega)
    have m1 : n % N < N := Int.emod_lt_of_pos _ (by omega)
    have hi : (n % N).toNat < c.ls.length := by omega
    have hx : (c.ls.map V.int)[(n % N).toNat]? = some (V.int c.ls[(n % N).toNat]) := by rw [List.getElem?_map, List.getElem?_eq_getElem hi] <;> rfl
    have hb := ok.lin _ (List.getElem_mem hi)
    exact ⟨_, rfl, a, _, dx, fs, _, rfl, ha, T.c_C, T.n_C_lengths, l1, _, rfl, _, rfl, a, _, dx, fs, _, rfl, ha, T.c_C, T.n_C_lengths, l1, pl, _, rfl, .inl (SqL.of l2), _, _, rfl, rfl, (by rw [← eN]; omega), pl, _, _, _, rfl, rfl, SqL.of l2, at_of (by rw [← eN]; omega) hx, k _ hb.1 hb.2⟩
theorem ok_C_month_number (T : Tx K mg) : C8.Met P w K mg base 2 (cC K) "month_number" (sp_C_month_number K) [] := by
  obtain ⟨fd, F⟩ := T.b_C_month_number
  refine metF T.c_C T.m_C_month_number F sc_C_month_number (fun vs H Q E h => ?_) (fun cdv A outer s H vs Q E hr h => ?_)
  · obtain ⟨a, c, d, rfl, _⟩ := h
    rfl
  · obtain ⟨a, c, d, rfl, A1, ok, k⟩ := h
    obtain ⟨dx, fs, ha, hf⟩ := A1.ob
    obtain ⟨pl, l1, l2⟩ := hf.ln
    obtain ⟨ps, s1, s2⟩ := hf.st
    have nd := sc_C_month_number.nd
    refine ⟨_, pss_cons (ps_set (i := 2) nd rfl (Or.inl rfl) (pe_ix ix_list (pe_fld (pv 0) rfl) (pe_un un_neg pe_int) (fun _ _ => rfl)))
      (pss_one (ps_ret (pe_op op_add (pe_op op_mul (pe_op op_fdiv (pv 1) (pv 2)) (pe_callB call_len_seq (by rfl) T.z_len bLen (pa_cons (pe_fld (pv 0) rfl) pa_nil)))
        (C8.pe_c (ok_month_at T) hr (by decide) (by rfl) (pa_cons (pe_fld (pv 0) rfl) (pa_cons (pe_op op_mod (pv 1) (pv 2)) pa_nil)))))), ?_⟩
    have hS := ok.s
    have hS1 := ok.s1
    have hL2 := ok.ln2
    refine ⟨_, rfl, a, _, dx, fs, _, rfl, ha, T.c_C, T.n_C_starts, s1, _, rfl, ps, _, _, _, rfl, rfl, SqL.of s2, starts_last, ?_⟩
    refine ⟨_, rfl, _, rfl, _, _, rfl, rfl, ⟨by omega, by omega⟩, _, rfl, a, _, dx, fs, _, rfl, ha, T.c_C, T.n_C_lengths, l1, pl, _, rfl, .inl (SqL.of l2), _, _, rfl, rfl, .inr (by rw [List.length_map]; exact ⟨by omega, by omega⟩),
      _, rfl, a, _, dx, fs, _, rfl, ha, T.c_C, T.n_C_starts, s1, _, rfl, _, rfl, _, _, rfl, rfl, (by omega), ps, c.ls, _, rfl, s2, fun l hl => (by have := (ok.lin l hl).1; omega), by omega, Int.emod_nonneg _ (by omega), Int.emod_lt_of_pos _ (by omega), _, _, rfl, rfl, ?_⟩
    rw [List.length_map]
    exact k
theorem ok_C_month_length (T : Tx K mg) : C8.Met P w K mg base 3 (cC K) "month_length" (sp_C_month_length K) [] := by
  obtain ⟨fd, F⟩ := T.b_C_month_length
  refine metF T.c_C T.m_C_month_length F sc_C_month_length (fun vs H Q E h => ?_) (fun cdv A outer s H vs Q E hr h => ?_)
  · obtain ⟨a, c, y, m, rfl, _⟩ := h
    rfl
  · obtain ⟨a, c, y, m, rfl, A1, ok, hm1, hm2, k⟩ := h
    obtain ⟨dx, fs, ha, hf⟩ := A1.ob
    have hM := ok.m2
    refine ⟨_, pss_cons (ps_if (pt_not (pt_val (C8.pe_c (ok_is_between T) hr (by decide) (by rfl) (pa_cons (pv 2) (pa_cons pe_int (pa_cons (pe_pr (ok_C_months T) hr (by decide) (pv 0)) pa_nil)))))) (pss_one ps_never) pss_nil)
      (pss_one (ps_ret (C8.pe_mt (ok_C_month_days T) hr (by decide) (pv 0) (pa_cons (pe_op op_sub (pe_op op_add (pe_op op_mul (pv 1) (pe_pr (ok_C_months T) hr (by decide) (pv 0))) (pv 2)) pe_int) pa_nil)))), ?_⟩
    refine ⟨_, rfl, _, rfl, a, dx, fs, rfl, ha, a, c, rfl, A1, ok, m, 1, c.M, rfl, _, rfl, ?_⟩
    refine iteNS ⟨hm1, hm2⟩ ?_
    exact ⟨_, rfl, a, dx, fs, rfl, ha, hf.no _ (by decide +kernel), _, rfl, _, rfl, a, dx, fs, rfl, ha, a, c, rfl, A1, ok, _, _, rfl, rfl, .inr ⟨by omega, by omega⟩, _, rfl, _, _, rfl, rfl, _, _, rfl, rfl, a, c, _, rfl, A1, ok, k⟩
end
end K5

set_option Elab.async false
set_option linter.all false
set_option maxRecDepth 100000
set_option maxHeartbeats 4000000
/-! Walks 5: parts of a date, work days. -/
namespace K5
open PySem PySem.Spec PyProof.Rows L2
theorem u65 {k : Nat} {A : Around} (r : Room k A) : A.units + 65 < cLine := by
  have := r.un
  omega
/-! ### pairs of ints as data -/
abbrev prI (h : Int × Int) : PyData := .tuple [.int h.1, .int h.2]
theorem prI_shaped (h : Int × Int) : SeqAt.shaped (prI h) = true := by
  unfold SeqAt.shaped prI
  simp [PyData.canLay0, PyData.canLayAll0, PyData.depth, PyData.depthAll]
theorem prIs_lay : ∀ hs : List (Int × Int), PyData.canLayAll0 (hs.map prI) = true
  | [] => by simp [PyData.canLayAll0]
  | h :: hs => by simp [PyData.canLayAll0, PyData.canLay0, prIs_lay hs]
theorem prIs_depth : ∀ hs : List (Int × Int), PyData.depthAll (hs.map prI) ≤ 3
  | [] => by simp [PyData.depthAll]
  | h :: hs => by
    have q := prIs_depth hs
    simp only [List.map_cons, PyData.depthAll, PyData.depth]
    omega
theorem prIs_shapedT (hs : List (Int × Int)) : SeqAt.shaped (.tuple (hs.map prI)) = true := by
  have q := prIs_depth hs
  unfold SeqAt.shaped
  rw [Bool.and_eq_true]
  refine ⟨by simp only [PyData.canLay0]; exact prIs_lay hs, decide_eq_true ?_⟩
  simp only [PyData.depth]
  omega
theorem prIs_shapedL (hs : List (Int × Int)) : SeqAt.shaped (.list (hs.map prI)) = true := by
  have q := prIs_depth hs
  unfold SeqAt.shaped
  rw [Bool.and_eq_true]
  refine ⟨by simp only [PyData.canLay0]; exact prIs_lay hs, decide_eq_true ?_⟩
  simp only [PyData.depth]
  omega
theorem prI_eqv (z h : Int × Int) : PyData.eqv (prI z) (prI h) = decide (z = h) := by
  obtain ⟨a, b⟩ := z
  obtain ⟨x, y⟩ := h
  have e : PyData.eqv (prI (a, b)) (prI (x, y)) = ((a == x) && ((b == y) && true)) := by simp only [prI, PyData.eqv, PyData.eqvAll]
  rw [e]
  by_cases h1 : a = x
  · by_cases h2 : b = y
    · subst h1 h2
      simp
    · rw [beq_eq_false_iff_ne.mpr h2]
      simp [h2]
  · rw [beq_eq_false_iff_ne.mpr h1]
    simp [h1]
theorem prIs_any (hs : List (Int × Int)) (h : Int × Int) : ((hs.map prI).any fun z => PyData.eqv z (prI h)) = decide (h ∈ hs) := by
  rw [List.any_map]
  induction hs with
  | nil => simp
  | cons x hs ih =>
    rw [List.any_cons, ih]
    show (PyData.eqv (prI x) (prI h) || _) = _
    rw [prI_eqv]
    by_cases e : x = h
    · simp [e]
    · have e2 : ¬ h = x := fun z => e z.symm
      simp [e, e2]
theorem dp_prI {K : PySem.W.Frag} {H : Hp} {b : Addr} {h : Int × Int} (e : H b = some (.tup [.int h.1, .int h.2])) : Dp K H (.ref b) (prI h) := .tup (SqT.of e) (.cons (.int _) (.cons (.int _) .nil))
theorem dp_prIs {K : PySem.W.Frag} {H : Hp} : ∀ {bs : List Addr} {hs : List (Int × Int)}, Paired (fun (b : Addr) (h : Int × Int) => H b = some (.tup [.int h.1, .int h.2])) bs hs → DpAll K H (bs.map V.ref) (hs.map prI)
  | _, _, .nil => .nil
  | _, _, .cons r t => .cons (dp_prI r) (dp_prIs t)
theorem inV_int (k : Int) (xs : List Int) : inV (.int k) (xs.map V.int) = decide (k ∈ xs) := by
  unfold inV
  rw [List.any_map]
  induction xs with
  | nil => simp
  | cons x xs ih =>
    rw [List.any_cons, ih]
    show ((x == k) || _) = _
    by_cases e : x = k
    · simp [e]
    · have e2 : ¬ k = x := fun z => e z.symm
      rw [beq_eq_false_iff_ne.mpr e]
      simp [e2]
theorem flat_ints (xs : List Int) : (xs.map V.int).all flatV = true := by
  rw [List.all_map]
  exact List.all_eq_true.mpr fun _ _ => rfl
/-! ### a date's parts -/
theorem dm_q {q i L : Int} (h0 : 0 ≤ i) (h1 : i < L) : (q * L + i) / L = q ∧ (q * L + i) % L = i := by
  have hL : L ≠ 0 := by omega
  refine ⟨?_, ?_⟩
  · rw [Int.add_comm, Int.add_mul_ediv_right i q hL, Int.ediv_eq_zero_of_lt h0 h1, Int.zero_add]
  · rw [Int.add_comm, Int.add_mul_emod_self_right, Int.emod_eq_of_lt h0 h1]
section
variable {P : Program} {w : World} {K : PySem.W.Frag} {mg : Str → Option Value} {base : Heap}
theorem ok_C_parts (T : Tx K mg) : C8.Met P w K mg base 3 (cC K) "parts" (sp_C_parts K) [] := by
  obtain ⟨fd, F⟩ := T.b_C_parts
  refine metF T.c_C T.m_C_parts F sc_C_parts (fun vs H Q E h => ?_) (fun cdv A outer s H vs Q E hr h => ?_)
  · obtain ⟨a, c, d, rfl, _⟩ := h
    rfl
  · obtain ⟨a, c, d, rfl, A1, ok, k⟩ := h
    obtain ⟨dx, fs, ha, hf⟩ := A1.ob
    have nd := sc_C_parts.nd
    refine ⟨_, pss_cons (ps_set (i := 2) nd rfl (Or.inl rfl) (C8.pe_mt (ok_C_month_number T) hr (by decide) (pv 0) (pa_cons (pv 1) pa_nil)))
      (pss_one (ps_ret (pe_tup (pa_cons (pe_op op_fdiv (pv 2) (pe_pr (ok_C_months T) hr (by decide) (pv 0))) (pa_cons (pe_op op_add (pe_op op_mod (pv 2) (pe_pr (ok_C_months T) hr (by decide) (pv 0))) pe_int)
        (pa_cons (pe_op op_add (pe_op op_sub (pv 1) (C8.pe_mt (ok_C_month_start T) hr (by decide) (pv 0) (pa_cons (pv 2) pa_nil))) pe_int) pa_nil)))))), ?_⟩
    have hM := ok.m1
    have hM2 := ok.m2
    obtain ⟨i1, i2, i3, _⟩ := ok.m_len d
    obtain ⟨N, eN⟩ : ∃ N : Int, N = d / c.S * c.ls.length + (c.loc d).1 := ⟨_, rfl⟩
    obtain ⟨q1, q2⟩ := dm_q (q := d / c.S) (i := ((c.loc d).1 : Int)) (L := (c.ls.length : Int)) (by omega) (by omega)
    rw [← eN] at q1 q2
    have e1 : N % (c.M : Int) + 1 = c.mon d := by
      unfold CalD.mon
      rw [eN, ok.lsn, Int.natCast_mul, ← Int.mul_assoc, Int.add_comm (d / c.S * (c.Y.length : Int) * (c.M : Int)), Int.add_mul_emod_self_right]
    have e2 : d - (N / c.ls.length * c.S + sumI (c.ls.take (N % c.ls.length).toNat)) + 1 = c.day d := by
      unfold CalD.day
      rw [q1, q2, i3, Int.emod_def]
      have : ((c.loc d).1 : Int).toNat = (c.loc d).1 := by omega
      rw [this, Int.mul_comm c.S]
      omega
    have no : ∀ {m : Str}, m ∉ calNames → gl fs m = none := fun h => hf.no _ h
    refine ⟨_, rfl, a, dx, fs, rfl, ha, hf.no _ (by decide +kernel), _, rfl, a, c, d, rfl, A1, ok, ?_⟩
    refine ⟨_, rfl, _, rfl, a, dx, fs, rfl, ha, a, c, rfl, A1, ok, _, _, rfl, rfl, ⟨by omega, by omega⟩, _, rfl, _, rfl, a, dx, fs, rfl, ha, a, c, rfl, A1, ok, _, _, rfl, rfl, (by omega), _, _, rfl, rfl,
      _, rfl, _, rfl, a, dx, fs, rfl, ha, hf.no _ (by decide +kernel), _, rfl, a, c, N, (by rw [eN] <;> rfl), A1, ok, _, _, rfl, rfl, _, _, rfl, rfl, (by show 3 ≤ sizeLine; decide), fun p hp => ?_⟩
    refine k ((d / c.S * c.ls.length + (c.loc d).1) / (c.M : Int)) p _ (same_new hp) (upd_same.trans ?_)
    show some (HO.tup [_, .int ((d / c.S * c.ls.length + (c.loc d).1) % (c.M : Int) + 1), .int (d - (N / c.ls.length * c.S + sumI (c.ls.take (N % c.ls.length).toNat)) + 1)]) = _
    rw [← eN, e1, e2]
theorem ok_C_is_work (T : Tx K mg) : C8.Met P w K mg base 4 (cC K) "is_work" (sp_C_is_work K) [] := by
  obtain ⟨fd, F⟩ := T.b_C_is_work
  refine metF T.c_C T.m_C_is_work F sc_C_is_work (fun vs H Q E h => ?_) (fun cdv A outer s H vs Q E hr h => ?_)
  · obtain ⟨a, c, d, rfl, _⟩ := h
    rfl
  · obtain ⟨a, c, d, rfl, A1, ok, k⟩ := h
    obtain ⟨dx, fs, ha, hf⟩ := A1.ob
    obtain ⟨pr, R', r1, r2, r3⟩ := hf.rs
    obtain ⟨pf, bs, HD', f1, f2, f3, f4⟩ := hf.fd
    refine ⟨_, pss_cons (ps_if (pt_cmpR op_in_seq (C8.pe_mt (ok_C_weekday T) hr (by decide) (pv 0) (pa_cons (pv 1) pa_nil)) (pe_fld (pv 0) rfl) (by rfl)) (pss_one (ps_ret pe_bl)) pss_nil)
      (pss_one (ps_ret (pe_or (pe_cmpR (op_eqD hr.units) (pe_fld (pv 0) rfl) (pe_tup pa_nil) (nomark _))
        (pe_one (pe_cmpR (op_notInT (u65 hr)) (pe_slice sl_tup (C8.pe_mt (ok_C_parts T) hr (by decide) (pv 0) (pa_cons (pv 1) pa_nil)) (po_some pe_int) po_none) (pe_fld (pv 0) rfl) (by rfl)))))), ?_⟩
    refine ⟨_, rfl, a, dx, fs, rfl, ha, hf.no _ (by decide +kernel), _, rfl, a, c, d, rfl, A1, ok, _, rfl, a, _, dx, fs, _, rfl, ha, T.c_C, T.n_C_rests, r1, pr, _, rfl, .inr (SqT.of r2), rfl, flat_ints _, _, rfl, ?_⟩
    have eR : decide ((d + c.f) % c.w ∈ R') = decide ((d + c.f) % c.w ∈ c.R) := by simp only [r3.mem_iff]
    have eH : decide ((c.mon d, c.day d) ∈ HD') = decide ((c.mon d, c.day d) ∈ c.HD) := by simp only [f4.mem_iff]
    show if (if false = true then !inV (.int ((d + c.f) % c.w)) (R'.map V.int) else inV (.int ((d + c.f) % c.w)) (R'.map V.int)) = true then _ else _
    rw [if_neg Bool.false_ne_true, inV_int, eR]
    refine ite2 (fun hb => ?_) (fun hb => ?_)
    · have z := k H (Same.refl H)
      unfold CalD.isRest at z
      rw [hb, Bool.true_or] at z
      exact z
    · have hb' : decide ((d + c.f) % c.w ∈ c.R) = false := by simpa using hb
      unfold CalD.isRest at k
      rw [hb', Bool.false_or, ← eH] at k
      refine ⟨_, rfl, a, _, dx, fs, _, rfl, ha, T.c_C, T.n_C_free_days, f1, (by decide), fun p hp => ?_⟩
      have s1 := same_new (o := .tup []) hp
      refine ⟨_, _, .tup (SqT.of (s1 _ _ f2)) (dp_prIs (Paired.same (fun _ _ q => s1 _ _ q) f3)), .tup (SqT.of upd_same) .nil, prIs_shapedT HD', by decide +kernel, _, rfl, ?_⟩
      cases HD' with
      | nil => exact iteT (k _ s1)
      | cons h0 hs =>
        have e0 : PyData.eqv (.tuple ((h0 :: hs).map prI)) (.tuple []) = false := by simp [PyData.eqv, PyData.eqvAll]
        rw [e0]
        have hf1 := hf.same s1
        refine iteF ⟨_, rfl, a, dx, fs, rfl, s1 _ _ ha, hf.no _ (by decide +kernel), _, rfl, a, c, d, rfl, A1.same s1, ok, fun y p2 H2 s2 hp2 => ?_⟩
        have s12 := s1.trans s2
        refine ⟨_, rfl, p2, _, rfl, SqT.of hp2, (fun z => absurd (show HT.sIx 3 0 (some 1) = 0 from z.1) (by decide)), fun p3 hp3 => ?_⟩
        have s3 := s12.trans (same_new (o := .tup (cutV [V.int y, V.int (c.mon d), V.int (c.day d)] (some 1) none)) hp3)
        refine ⟨_, rfl, a, _, dx, fs, _, rfl, s3 _ _ ha, T.c_C, T.n_C_free_days, f1, prI (c.mon d, c.day d), _, dp_prI (h := (c.mon d, c.day d)) (upd_same.trans rfl), .tup (SqT.of (s3 _ _ f2)) (dp_prIs (Paired.same (fun _ _ q => s3 _ _ q) f3)), prI_shaped _, prIs_shapedT _, ?_⟩
        rw [prIs_any]
        exact k _ s3
end
end K5

set_option Elab.async false
set_option linter.all false
set_option maxRecDepth 100000
set_option maxHeartbeats 4000000
/-! Walks 6: whether a date is in a set. -/
namespace K5
open PySem PySem.Spec PyProof.Rows L2
theorem ifF {c A B : Prop} [Decidable c] (h : ¬ c) (b : B) : if decide c = true then A else B := by
  rw [decide_eq_false h]
  exact iteF b
theorem ifT {c A B : Prop} [Decidable c] (h : c) (a : A) : if decide c = true then A else B := by
  rw [decide_eq_true h]
  exact iteT a
/-! ### what a text of a set is read as -/
inductive PlainC (H : Hp) (a : Addr) : Prop where
  | all (h : H a = some (.tup [.str "all"]))
  | none (h : H a = some (.tup [.str "none"]))
  | work (h : H a = some (.tup [.str "work"]))
  | rest (h : H a = some (.tup [.str "rest"]))
  | wd (k : Int) (h : H a = some (.tup [.str "weekday", .int k]))
  | month (k : Int) (h : H a = some (.tup [.str "month", .int k]))
  | day (k : Int) (h : H a = some (.tup [.str "day", .int k]))
  | nth (k j : Int) (h : H a = some (.tup [.str "nth", .int k, .int j]))
inductive CondAt (H : Hp) : Nat → V → Prop where
  | plain {n : Nat} {a : Addr} (h : PlainC H a) : CondAt H n (.ref a)
  | not {n : Nat} {a : Addr} {v : V} (h : H a = some (.tup [.str "not", v])) (c : CondAt H n v) : CondAt H (n + 1) (.ref a)
  | and {n : Nat} {a b : Addr} {vs : List V} (h : H a = some (.tup [.str "and", .ref b])) (hb : H b = some (.tup vs)) (hl : vs.length ≤ sizeLine) (c : ∀ v ∈ vs, CondAt H n v) : CondAt H (n + 1) (.ref a)
  | or {n : Nat} {a b : Addr} {vs : List V} (h : H a = some (.tup [.str "or", .ref b])) (hb : H b = some (.tup vs)) (hl : vs.length ≤ sizeLine) (c : ∀ v ∈ vs, CondAt H n v) : CondAt H (n + 1) (.ref a)
theorem PlainC.same {H H' : Hp} {a : Addr} (s : Same H H') (h : PlainC H a) : PlainC H' a := by
  cases h with
  | all h => exact .all (s _ _ h)
  | none h => exact .none (s _ _ h)
  | work h => exact .work (s _ _ h)
  | rest h => exact .rest (s _ _ h)
  | wd k h => exact .wd k (s _ _ h)
  | month k h => exact .month k (s _ _ h)
  | day k h => exact .day k (s _ _ h)
  | nth k j h => exact .nth k j (s _ _ h)
theorem CondAt.same {H H' : Hp} (s : Same H H') {n : Nat} {v : V} (h : CondAt H n v) : CondAt H' n v := by
  induction h with
  | plain h => exact .plain (h.same s)
  | not h c ih => exact .not (s _ _ h) ih
  | and h hb hl c ih => exact .and (s _ _ h) (s _ _ hb) hl ih
  | or h hb hl c ih => exact .or (s _ _ h) (s _ _ hb) hl ih
theorem CondAt.mono {H : Hp} {n : Nat} {v : V} (h : CondAt H n v) : ∀ m, n ≤ m → CondAt H m v := by
  induction h with
  | plain h => intro m _; exact .plain h
  | not h c ih =>
    intro m hm
    obtain ⟨j, rfl⟩ : ∃ j, m = j + 1 := ⟨m - 1, by omega⟩
    exact .not h (ih j (by omega))
  | and h hb hl c ih =>
    intro m hm
    obtain ⟨j, rfl⟩ : ∃ j, m = j + 1 := ⟨m - 1, by omega⟩
    exact .and h hb hl fun v hv => ih v hv j (by omega)
  | or h hb hl c ih =>
    intro m hm
    obtain ⟨j, rfl⟩ : ∃ j, m = j + 1 := ⟨m - 1, by omega⟩
    exact .or h hb hl fun v hv => ih v hv j (by omega)
/-! ### promises -/
def sp_is_day (K : PySem.W.Frag) : Sp := fun vs H Q _ => ∃ (a : Addr) (c : CalD) (d n : Int), vs = [.ref a, .int d, .int n] ∧ CalAt K H a c ∧ CalOk c ∧ ∀ b H', Same H H' → Q (.bl b) H'
def sp_is_nth (K : PySem.W.Frag) : Sp := fun vs H Q _ => ∃ (a : Addr) (c : CalD) (d n j : Int), vs = [.ref a, .int d, .int n, .int j] ∧ CalAt K H a c ∧ CalOk c ∧ ∀ b H', Same H H' → Q (.bl b) H'
def sp_holds_plain (K : PySem.W.Frag) : Sp := fun vs H Q _ => ∃ (a p : Addr) (c : CalD) (d : Int), vs = [.ref a, .ref p, .int d] ∧ CalAt K H a c ∧ CalOk c ∧ PlainC H p ∧ ∀ b H', Same H H' → Q (.bl b) H'
def sp_holds (K : PySem.W.Frag) (n : Nat) : Sp := fun vs H Q _ => ∃ (a : Addr) (v kn : V) (c : CalD) (d : Int), vs = [.ref a, v, .int d, kn] ∧ CalAt K H a c ∧ CalOk c ∧ CondAt H n v ∧ ∀ b H', Same H H' → Q (.bl b) H'
theorem mon_bd {c : CalD} (ok : CalOk c) (d : Int) : 1 ≤ c.mon d ∧ c.mon d ≤ c.M := by
  have h := ok.m1
  have a := Int.emod_nonneg ((c.loc d).1 : Int) (show (c.M : Int) ≠ 0 by omega)
  have b := Int.emod_lt_of_pos ((c.loc d).1 : Int) (show (0 : Int) < c.M by omega)
  unfold CalD.mon
  omega
section
variable {P : Program} {w : World} {K : PySem.W.Frag} {mg : Str → Option Value} {base : Heap}
theorem ok_is_day (T : Tx K mg) : C8.Cal P w K mg base 4 "is_day" (sp_is_day K) [] := by
  obtain ⟨fd, F⟩ := T.b_is_day
  refine calF F T.g_is_day sc_is_day (fun vs H Q E h => ?_) (fun cdv A outer s H vs Q E hr h => ?_)
  · obtain ⟨a, c, d, n, rfl, _⟩ := h
    rfl
  · obtain ⟨a, c, d, n, rfl, A1, ok, k⟩ := h
    obtain ⟨dx, fs, ha, hf⟩ := A1.ob
    have nd := sc_is_day.nd
    refine ⟨_, pss_cons (ps_asg (C8.pe_mt (ok_C_parts T) hr (by decide) (pv 0) (pa_cons (pv 1) pa_nil)) (pg_tup (by rfl) (pgs_cons (pg_name (i := 3) nd rfl (.inl rfl)) (pgs_cons (pg_name (i := 4) nd rfl (.inl rfl)) (pgs_cons (pg_name (i := 5) nd rfl (.inl rfl)) pgs_nil)))))
      (pss_one (ps_ret (pe_cmpR op_eq (pv 5) (pe_ifExp (pt_cmpR op_gt (pv 2) pe_int (nomark _)) (pv 2) (pe_op op_add (pe_op op_add (C8.pe_mt (ok_C_month_length T) hr (by decide) (pv 0) (pa_cons (pv 3) (pa_cons (pv 4) pa_nil))) pe_int) (pv 2))) (nomark _)))), ?_⟩
    refine ⟨_, rfl, a, dx, fs, rfl, ha, hf.no _ (by decide +kernel), _, rfl, a, c, d, rfl, A1, ok, fun y p H1 s1 hp => ?_⟩
    refine ⟨p, _, rfl, SqT.of hp, rfl, _, _, rfl, _, _, rfl, _, _, rfl, rfl, ?_⟩
    refine ⟨_, rfl, _, rfl, _, _, rfl, rfl, _, rfl, ?_⟩
    refine ite2 (fun _ => ?_) (fun _ => ?_)
    · exact ⟨_, rfl, rfl, k _ _ s1⟩
    · obtain ⟨b1, b2⟩ := mon_bd ok d
      exact ⟨_, rfl, a, dx, fs, rfl, s1 _ _ ha, hf.no _ (by decide +kernel), _, rfl, _, rfl, a, c, _, _, rfl, A1.same s1, ok, b1, b2, fun l _ _ => ⟨_, _, rfl, rfl, _, rfl, _, _, rfl, rfl, rfl, k _ _ s1⟩⟩
theorem ok_is_nth (T : Tx K mg) : C8.Cal P w K mg base 4 "is_nth" (sp_is_nth K) [] := by
  obtain ⟨fd, F⟩ := T.b_is_nth
  refine calF F T.g_is_nth sc_is_nth (fun vs H Q E h => ?_) (fun cdv A outer s H vs Q E hr h => ?_)
  · obtain ⟨a, c, d, n, j, rfl, _⟩ := h
    rfl
  · obtain ⟨a, c, d, n, j, rfl, A1, ok, k⟩ := h
    obtain ⟨dx, fs, ha, hf⟩ := A1.ob
    have nd := sc_is_nth.nd
    refine ⟨_, pss_cons (ps_asg (C8.pe_mt (ok_C_parts T) hr (by decide) (pv 0) (pa_cons (pv 1) pa_nil)) (pg_tup (by rfl) (pgs_cons (pg_name (i := 4) nd rfl (.inl rfl)) (pgs_cons (pg_name (i := 5) nd rfl (.inl rfl)) (pgs_cons (pg_name (i := 6) nd rfl (.inl rfl)) pgs_nil)))))
      (pss_cons (ps_set (i := 7) nd rfl (Or.inl rfl) (pe_ifExp (pt_cmpR op_gt (pv 2) pe_int (nomark _)) (pe_op op_sub (pv 6) pe_int) (pe_op op_sub (C8.pe_mt (ok_C_month_length T) hr (by decide) (pv 0) (pa_cons (pv 4) (pa_cons (pv 5) pa_nil))) (pv 6))))
      (pss_one (ps_ret (pe_and (pe_cmpR op_eq (C8.pe_mt (ok_C_weekday T) hr (by decide) (pv 0) (pa_cons (pv 1) pa_nil)) (pv 3) (nomark _))
        (pe_one (pe_cmpR op_eq (pe_op op_add (pe_op op_fdiv (pv 7) (pe_pr (ok_C_week T) hr (by decide) (pv 0))) pe_int) (pe_callB call_abs (by rfl) T.z_abs bAbs (pa_cons (pv 2) pa_nil)) (nomark _))))))), ?_⟩
    refine ⟨_, rfl, a, dx, fs, rfl, ha, hf.no _ (by decide +kernel), _, rfl, a, c, d, rfl, A1, ok, fun y p H1 s1 hp => ?_⟩
    refine ⟨p, _, rfl, SqT.of hp, rfl, _, _, rfl, _, _, rfl, _, _, rfl, rfl, ?_⟩
    have hw := ok.w1
    have hw2 := ok.w2
    have A2 := A1.same s1
    refine ⟨_, rfl, _, _, rfl, rfl, _, rfl, ?_⟩
    refine ite2 (fun _ => ?_) (fun _ => ?_)
    · refine ⟨_, rfl, _, _, rfl, rfl, _, rfl, a, dx, fs, rfl, s1 _ _ ha, hf.no _ (by decide +kernel), _, rfl, a, c, d, rfl, A2, ok, _, rfl, rfl, _, rfl, ?_⟩
      refine ite2 (fun _ => ?_) (fun _ => k _ _ s1)
      exact ⟨_, rfl, _, rfl, a, dx, fs, rfl, s1 _ _ ha, a, c, rfl, A2, _, _, rfl, rfl, ⟨by omega, by omega⟩, _, _, rfl, rfl, _, rfl, _, rfl, rfl, k _ _ s1⟩
    · obtain ⟨b1, b2⟩ := mon_bd ok d
      refine ⟨_, rfl, a, dx, fs, rfl, s1 _ _ ha, hf.no _ (by decide +kernel), _, rfl, _, rfl, a, c, _, _, rfl, A2, ok, b1, b2, fun l _ _ => ⟨_, rfl, _, _, rfl, rfl, _, rfl, a, dx, fs, rfl, s1 _ _ ha, hf.no _ (by decide +kernel), _, rfl, a, c, d, rfl, A2, ok, _, rfl, rfl, _, rfl, ?_⟩⟩
      refine ite2 (fun _ => ?_) (fun _ => k _ _ s1)
      exact ⟨_, rfl, _, rfl, a, dx, fs, rfl, s1 _ _ ha, a, c, rfl, A2, _, _, rfl, rfl, ⟨by omega, by omega⟩, _, _, rfl, rfl, _, rfl, _, rfl, rfl, k _ _ s1⟩
end
end K5

set_option Elab.async false
set_option linter.all false
set_option maxRecDepth 100000
set_option maxHeartbeats 4000000
/-! Walks 7: holds_plain, holds. -/
namespace K5
open PySem PySem.Spec PyProof.Rows L2
theorem bAll : bootBuiltins "all" = some (.builtin "all") := by decide +kernel
theorem bAny : bootBuiltins "any" = some (.builtin "any") := by decide +kernel
section
variable {P : Program} {w : World} {K : PySem.W.Frag} {mg : Str → Option Value} {base : Heap}
theorem ok_holds_plain (T : Tx K mg) : C8.Cal P w K mg base 5 "holds_plain" (sp_holds_plain K) [] := by
  obtain ⟨fd, F⟩ := T.b_holds_plain
  refine calF F T.g_holds_plain sc_holds_plain (fun vs H Q E h => ?_) (fun cdv A outer s H vs Q E hr h => ?_)
  · obtain ⟨a, p, c, d, rfl, _⟩ := h
    rfl
  · obtain ⟨a, p, c, d, rfl, A1, ok, hp, k⟩ := h
    obtain ⟨dx, fs, ha, hf⟩ := A1.ob
    have nd := sc_holds_plain.nd
    refine ⟨_, pss_cons (ps_set (i := 3) nd rfl (Or.inl rfl) (pe_ix ix_tup (pv 1) pe_int (fun _ _ => rfl)))
      (pss_cons (ps_if (pt_cmpR op_in_seq (pv 3) (pe_tup (pa_cons pe_str (pa_cons pe_str pa_nil))) (by rfl)) (pss_one (ps_ret (pe_cmpR op_eq (C8.pe_mt (ok_C_is_work T) hr (by decide) (pv 0) (pa_cons (pv 2) pa_nil)) (pe_cmpR op_eq (pv 3) pe_str (nomark _)) (nomark _)))) pss_nil)
      (pss_cons (ps_if (pt_cmpR op_eq (pv 3) pe_str (nomark _)) (pss_one (ps_ret (pe_cmpR op_eq (C8.pe_mt (ok_C_weekday T) hr (by decide) (pv 0) (pa_cons (pv 2) pa_nil)) (pe_ix ix_tup (pv 1) pe_int (fun _ _ => rfl)) (nomark _)))) pss_nil)
      (pss_cons (ps_if (pt_cmpR op_eq (pv 3) pe_str (nomark _)) (pss_one (ps_ret (pe_cmpR op_eq (pe_ix ix_tup (C8.pe_mt (ok_C_parts T) hr (by decide) (pv 0) (pa_cons (pv 2) pa_nil)) pe_int (fun _ _ => rfl)) (pe_ix ix_tup (pv 1) pe_int (fun _ _ => rfl)) (nomark _)))) pss_nil)
      (pss_cons (ps_if (pt_cmpR op_eq (pv 3) pe_str (nomark _)) (pss_one (ps_ret (C8.pe_c (ok_is_day T) hr (by decide) (by rfl) (pa_cons (pv 0) (pa_cons (pv 2) (pa_cons (pe_ix ix_tup (pv 1) pe_int (fun _ _ => rfl)) pa_nil)))))) pss_nil)
      (pss_cons (ps_if (pt_cmpR op_eq (pv 3) pe_str (nomark _)) (pss_one (ps_ret (C8.pe_c (ok_is_nth T) hr (by decide) (by rfl) (pa_cons (pv 0) (pa_cons (pv 2) (pa_cons (pe_ix ix_tup (pv 1) pe_int (fun _ _ => rfl)) (pa_cons (pe_ix ix_tup (pv 1) pe_int (fun _ _ => rfl)) pa_nil))))))) pss_nil)
      (pss_one (ps_ret (pe_cmpR op_eq (pv 3) pe_str (nomark _))))))))), ?_⟩
    -- the word of the set, then the tests in turn
    have two : (2 : Nat) ≤ sizeLine := by decide
    have i0 : ∀ {y : Str} {r : List V}, atI (V.str y :: r) 0 = some (V.str y) := fun {y r} => at_of (j := 0) rfl rfl
    cases hp with
    | work h =>
      refine ⟨_, rfl, p, _, _, _, rfl, rfl, SqT.of h, i0, _, rfl, two, fun t ht => ⟨t, _, rfl, .inr (SqT.of upd_same), rfl, rfl, _, rfl, ?_⟩⟩
      have s1 := same_new (o := .tup [.str "work", .str "rest"]) ht
      have e : inV (.str "work") [.str "work", .str "rest"] = true := by decide +kernel
      show if (if false = true then _ else inV (.str "work") [.str "work", .str "rest"]) = true then _ else _
      rw [if_neg Bool.false_ne_true, e]
      refine iteT ⟨_, rfl, a, dx, fs, rfl, s1 _ _ ha, hf.no _ (by decide +kernel), _, rfl, a, c, d, rfl, A1.same s1, ok, fun H2 s2 => ⟨_, rfl, rfl, rfl, k _ _ (s1.trans s2)⟩⟩
    | rest h =>
      refine ⟨_, rfl, p, _, _, _, rfl, rfl, SqT.of h, i0, _, rfl, two, fun t ht => ⟨t, _, rfl, .inr (SqT.of upd_same), rfl, rfl, _, rfl, ?_⟩⟩
      have s1 := same_new (o := .tup [.str "work", .str "rest"]) ht
      have e : inV (.str "rest") [.str "work", .str "rest"] = true := by decide +kernel
      show if (if false = true then _ else inV (.str "rest") [.str "work", .str "rest"]) = true then _ else _
      rw [if_neg Bool.false_ne_true, e]
      refine iteT ⟨_, rfl, a, dx, fs, rfl, s1 _ _ ha, hf.no _ (by decide +kernel), _, rfl, a, c, d, rfl, A1.same s1, ok, fun H2 s2 => ⟨_, rfl, rfl, rfl, k _ _ (s1.trans s2)⟩⟩
    | all h =>
      refine ⟨_, rfl, p, _, _, _, rfl, rfl, SqT.of h, i0, _, rfl, two, fun t ht => ⟨t, _, rfl, .inr (SqT.of upd_same), rfl, rfl, _, rfl, ?_⟩⟩
      have s1 := same_new (o := .tup [.str "work", .str "rest"]) ht
      have e : inV (.str "all") [.str "work", .str "rest"] = false := by decide +kernel
      show if (if false = true then _ else inV (.str "all") [.str "work", .str "rest"]) = true then _ else _
      rw [if_neg Bool.false_ne_true, e]
      refine iteF ⟨_, rfl, rfl, _, rfl, ifF (by decide +kernel) ⟨_, rfl, rfl, _, rfl, ifF (by decide +kernel) ⟨_, rfl, rfl, _, rfl, ifF (by decide +kernel) ⟨_, rfl, rfl, _, rfl, ifF (by decide +kernel) ⟨_, rfl, rfl, k _ _ s1⟩⟩⟩⟩⟩
    | none h =>
      refine ⟨_, rfl, p, _, _, _, rfl, rfl, SqT.of h, i0, _, rfl, two, fun t ht => ⟨t, _, rfl, .inr (SqT.of upd_same), rfl, rfl, _, rfl, ?_⟩⟩
      have s1 := same_new (o := .tup [.str "work", .str "rest"]) ht
      have e : inV (.str "none") [.str "work", .str "rest"] = false := by decide +kernel
      show if (if false = true then _ else inV (.str "none") [.str "work", .str "rest"]) = true then _ else _
      rw [if_neg Bool.false_ne_true, e]
      refine iteF ⟨_, rfl, rfl, _, rfl, ifF (by decide +kernel) ⟨_, rfl, rfl, _, rfl, ifF (by decide +kernel) ⟨_, rfl, rfl, _, rfl, ifF (by decide +kernel) ⟨_, rfl, rfl, _, rfl, ifF (by decide +kernel) ⟨_, rfl, rfl, k _ _ s1⟩⟩⟩⟩⟩
    | wd j h =>
      refine ⟨_, rfl, p, _, _, _, rfl, rfl, SqT.of h, i0, _, rfl, two, fun t ht => ⟨t, _, rfl, .inr (SqT.of upd_same), rfl, rfl, _, rfl, ?_⟩⟩
      have s1 := same_new (o := .tup [.str "work", .str "rest"]) ht
      have e : inV (.str "weekday") [.str "work", .str "rest"] = false := by decide +kernel
      show if (if false = true then _ else inV (.str "weekday") [.str "work", .str "rest"]) = true then _ else _
      rw [if_neg Bool.false_ne_true, e]
      refine iteF ⟨_, rfl, rfl, _, rfl, ifT rfl ⟨_, rfl, a, dx, fs, rfl, s1 _ _ ha, hf.no _ (by decide +kernel), _, rfl, a, c, d, rfl, A1.same s1, ok, _, rfl, p, _, _, _, rfl, rfl, SqT.of (s1 _ _ h), at_of (j := 1) rfl rfl, rfl, k _ _ s1⟩⟩
    | month j h =>
      refine ⟨_, rfl, p, _, _, _, rfl, rfl, SqT.of h, i0, _, rfl, two, fun t ht => ⟨t, _, rfl, .inr (SqT.of upd_same), rfl, rfl, _, rfl, ?_⟩⟩
      have s1 := same_new (o := .tup [.str "work", .str "rest"]) ht
      have e : inV (.str "month") [.str "work", .str "rest"] = false := by decide +kernel
      show if (if false = true then _ else inV (.str "month") [.str "work", .str "rest"]) = true then _ else _
      rw [if_neg Bool.false_ne_true, e]
      refine iteF ⟨_, rfl, rfl, _, rfl, ifF (by decide +kernel) ⟨_, rfl, rfl, _, rfl, ifT rfl ⟨_, rfl, a, dx, fs, rfl, s1 _ _ ha, hf.no _ (by decide +kernel), _, rfl, a, c, d, rfl, A1.same s1, ok, fun y q H2 s2 hq =>
        ⟨q, _, _, _, rfl, rfl, SqT.of hq, at_of (j := 1) rfl rfl, _, rfl, p, _, _, _, rfl, rfl, SqT.of (s2 _ _ (s1 _ _ h)), at_of (j := 1) rfl rfl, rfl, k _ _ (s1.trans s2)⟩⟩⟩⟩
    | day j h =>
      refine ⟨_, rfl, p, _, _, _, rfl, rfl, SqT.of h, i0, _, rfl, two, fun t ht => ⟨t, _, rfl, .inr (SqT.of upd_same), rfl, rfl, _, rfl, ?_⟩⟩
      have s1 := same_new (o := .tup [.str "work", .str "rest"]) ht
      have e : inV (.str "day") [.str "work", .str "rest"] = false := by decide +kernel
      show if (if false = true then _ else inV (.str "day") [.str "work", .str "rest"]) = true then _ else _
      rw [if_neg Bool.false_ne_true, e]
      refine iteF ⟨_, rfl, rfl, _, rfl, ifF (by decide +kernel) ⟨_, rfl, rfl, _, rfl, ifF (by decide +kernel) ⟨_, rfl, rfl, _, rfl, ifT rfl ⟨_, rfl, _, rfl, _, rfl, p, _, _, _, rfl, rfl, SqT.of (s1 _ _ h), at_of (j := 1) rfl rfl, a, c, d, j, rfl, A1.same s1, ok, fun b H2 s2 => k _ _ (s1.trans s2)⟩⟩⟩⟩
    | nth j i h =>
      refine ⟨_, rfl, p, _, _, _, rfl, rfl, SqT.of h, i0, _, rfl, two, fun t ht => ⟨t, _, rfl, .inr (SqT.of upd_same), rfl, rfl, _, rfl, ?_⟩⟩
      have s1 := same_new (o := .tup [.str "work", .str "rest"]) ht
      have e : inV (.str "nth") [.str "work", .str "rest"] = false := by decide +kernel
      show if (if false = true then _ else inV (.str "nth") [.str "work", .str "rest"]) = true then _ else _
      rw [if_neg Bool.false_ne_true, e]
      refine iteF ⟨_, rfl, rfl, _, rfl, ifF (by decide +kernel) ⟨_, rfl, rfl, _, rfl, ifF (by decide +kernel) ⟨_, rfl, rfl, _, rfl, ifF (by decide +kernel) ⟨_, rfl, rfl, _, rfl, ifT rfl ⟨_, rfl, _, rfl, _, rfl, p, _, _, _, rfl, rfl, SqT.of (s1 _ _ h), at_of (j := 1) rfl rfl,
        _, rfl, p, _, _, _, rfl, rfl, SqT.of (s1 _ _ h), at_of (j := 2) rfl rfl, a, c, d, j, i, rfl, A1.same s1, ok, fun b H2 s2 => k _ _ (s1.trans s2)⟩⟩⟩⟩⟩
end
end K5

set_option Elab.async false
set_option linter.all false
set_option maxRecDepth 100000
set_option maxHeartbeats 4000000
/-! Walks 8: holds. -/
namespace K5
open PySem PySem.Spec PyProof.Rows L2
theorem same_upd {H H' : Hp} {D : Addr} {o : HO} (s : Same H H') (n : H D = none) : Same H (upd H' D o) := fun b u e => by
  rw [upd_ne (ne_of_none e n)]
  exact s b u e
theorem PlainC.word {H : Hp} {p : Addr} (h : PlainC H p) : ∃ (x : Str) (r : List V), H p = some (.tup (.str x :: r)) ∧ ¬ (V.str x = V.str "not") ∧ ¬ (V.str x = V.str "and") ∧ ¬ (V.str x = V.str "or") ∧ ¬ (V.str x = V.str "in") := by
  cases h with
  | all h => exact ⟨_, _, h, by decide +kernel, by decide +kernel, by decide +kernel, by decide +kernel⟩
  | none h => exact ⟨_, _, h, by decide +kernel, by decide +kernel, by decide +kernel, by decide +kernel⟩
  | work h => exact ⟨_, _, h, by decide +kernel, by decide +kernel, by decide +kernel, by decide +kernel⟩
  | rest h => exact ⟨_, _, h, by decide +kernel, by decide +kernel, by decide +kernel, by decide +kernel⟩
  | wd k h => exact ⟨_, _, h, by decide +kernel, by decide +kernel, by decide +kernel, by decide +kernel⟩
  | month k h => exact ⟨_, _, h, by decide +kernel, by decide +kernel, by decide +kernel, by decide +kernel⟩
  | day k h => exact ⟨_, _, h, by decide +kernel, by decide +kernel, by decide +kernel, by decide +kernel⟩
  | nth k j h => exact ⟨_, _, h, by decide +kernel, by decide +kernel, by decide +kernel, by decide +kernel⟩
section
variable {P : Program} {w : World} {K : PySem.W.Frag} {mg : Str → Option Value} {base : Heap}
theorem ok_holds (T : Tx K mg) : ∀ n, C8.Cal P w K mg base (6 + n) "holds" (sp_holds K n) []
  | 0 => by
    obtain ⟨fd, F⟩ := T.b_holds
    refine calF F T.g_holds sc_holds (fun vs H Q E h => ?_) (fun cdv A outer s H vs Q E hr h => ?_)
    · obtain ⟨a, v, kn, c, d, rfl, _⟩ := h
      rfl
    · obtain ⟨a, v, kn, c, d, rfl, A1, ok, hc, k⟩ := h
      have nd := sc_holds.nd
      refine ⟨_, pss_cons (ps_set (i := 4) nd rfl (Or.inl rfl) (pe_ix ix_tup (pv 1) pe_int (fun _ _ => rfl)))
        (pss_cons (ps_if (pt_cmpR op_eq (pv 4) pe_str (nomark _)) (pss_one ps_never) pss_nil)
        (pss_cons (ps_if (pt_cmpR op_eq (pv 4) pe_str (nomark _)) (pss_one ps_never) pss_nil)
        (pss_cons (ps_if (pt_cmpR op_eq (pv 4) pe_str (nomark _)) (pss_one ps_never) pss_nil)
        (pss_cons (ps_if (pt_cmpR op_eq (pv 4) pe_str (nomark _)) (pss_one ps_never) pss_nil)
        (pss_one (ps_ret (C8.pe_c (ok_holds_plain T) hr (by decide) (by rfl) (pa_cons (pv 0) (pa_cons (pv 1) (pa_cons (pv 2) pa_nil)))))))))), ?_⟩
      cases hc with
      | @plain _ p hp =>
        obtain ⟨x, r, h, h1, h2, h3, h4⟩ := hp.word
        exact ⟨_, rfl, p, _, _, _, rfl, rfl, SqT.of h, at_of (j := 0) rfl rfl, _, rfl, rfl, _, rfl, ifF h1 ⟨_, rfl, rfl, _, rfl, ifF h2 ⟨_, rfl, rfl, _, rfl, ifF h3 ⟨_, rfl, rfl, _, rfl, ifF h4 ⟨_, rfl, _, rfl, _, rfl, a, p, c, d, rfl, A1, ok, hp, fun b H2 s2 => k b H2 s2⟩⟩⟩⟩⟩
  | n + 1 => by
    obtain ⟨fd, F⟩ := T.b_holds
    have IH := ok_holds T n
    refine calF F T.g_holds sc_holds (fun vs H Q E h => ?_) (fun cdv A outer s H vs Q E hr h => ?_)
    · obtain ⟨a, v, kn, c, d, rfl, _⟩ := h
      rfl
    · obtain ⟨a, v, kn, c, d, rfl, A1, ok, hc, k⟩ := h
      have nd := sc_holds.nd
      refine ⟨_, pss_cons (ps_set (i := 4) nd rfl (Or.inl rfl) (pe_ix ix_tup (pv 1) pe_int (fun _ _ => rfl)))
        (pss_cons (ps_if (pt_cmpR op_eq (pv 4) pe_str (nomark _)) (pss_one (ps_ret (pe_not (C8.pe_c IH hr (Nat.le_refl _) (by rfl) (pa_cons (pv 0) (pa_cons (pe_ix ix_tup (pv 1) pe_int (fun _ _ => rfl)) (pa_cons (pv 2) (pa_cons (pv 3) pa_nil)))))))) pss_nil)
        (pss_cons (ps_if (pt_cmpR op_eq (pv 4) pe_str (nomark _)) (pss_one (ps_ret (pe_callB (cr_all rfl) (by rfl) T.z_all bAll (pa_cons
          (pe_lc (own := [("one", 5)]) (g := gName 5) (tt := tYes) rfl nd (pi_tup (pe_ix ix_tup (pv 1) pe_int (fun _ _ => rfl))) (blkOk_by (own := [("one", 5)]) (N := n_holds) (sc := defScope s_holds) (by decide +kernel)) (fun _ _ _ _ _ => pg_name (i := 5) nd rfl (Or.inl rfl)) (fun _ _ _ _ _ => pts_nil)
            (fun _ _ _ _ _ => C8.pe_c IH hr (Nat.le_refl _) (by rfl) (pa_cons (pv 0) (pa_cons (pv 5) (pa_cons (pv 2) (pa_cons (pv 3) pa_nil)))))) pa_nil)))) pss_nil)
        (pss_cons (ps_if (pt_cmpR op_eq (pv 4) pe_str (nomark _)) (pss_one (ps_ret (pe_callB (cr_any rfl) (by rfl) T.z_any bAny (pa_cons
          (pe_lc (own := [("one", 5)]) (g := gName 5) (tt := tYes) rfl nd (pi_tup (pe_ix ix_tup (pv 1) pe_int (fun _ _ => rfl))) (blkOk_by (own := [("one", 5)]) (N := n_holds) (sc := defScope s_holds) (by decide +kernel)) (fun _ _ _ _ _ => pg_name (i := 5) nd rfl (Or.inl rfl)) (fun _ _ _ _ _ => pts_nil)
            (fun _ _ _ _ _ => C8.pe_c IH hr (Nat.le_refl _) (by rfl) (pa_cons (pv 0) (pa_cons (pv 5) (pa_cons (pv 2) (pa_cons (pv 3) pa_nil)))))) pa_nil)))) pss_nil)
        (pss_cons (ps_if (pt_cmpR op_eq (pv 4) pe_str (nomark _)) (pss_one ps_never) pss_nil)
        (pss_one (ps_ret (C8.pe_c (ok_holds_plain T) hr (by show 5 ≤ 6 + n; omega) (by rfl) (pa_cons (pv 0) (pa_cons (pv 1) (pa_cons (pv 2) pa_nil)))))))))), ?_⟩
      cases hc with
      | @plain _ p hp =>
        obtain ⟨x, r, h, h1, h2, h3, h4⟩ := hp.word
        exact ⟨_, rfl, p, _, _, _, rfl, rfl, SqT.of h, at_of (j := 0) rfl rfl, _, rfl, rfl, _, rfl, ifF h1 ⟨_, rfl, rfl, _, rfl, ifF h2 ⟨_, rfl, rfl, _, rfl, ifF h3 ⟨_, rfl, rfl, _, rfl, ifF h4 ⟨_, rfl, _, rfl, _, rfl, a, p, c, d, rfl, A1, ok, hp, fun b H2 s2 => k b H2 s2⟩⟩⟩⟩⟩
      | @not _ p v1 h hc1 =>
        exact ⟨_, rfl, p, _, _, _, rfl, rfl, SqT.of h, at_of (j := 0) rfl rfl, _, rfl, rfl, _, rfl, ifT rfl ⟨_, rfl, _, rfl, p, _, _, _, rfl, rfl, SqT.of h, at_of (j := 1) rfl rfl, _, rfl, _, rfl, a, v1, kn, c, d, rfl, A1, ok, hc1, fun b H2 s2 => ⟨b, rfl, k _ H2 s2⟩⟩⟩
      | @and _ p b vs h hb hl hcs =>
        refine ⟨_, rfl, p, _, _, _, rfl, rfl, SqT.of h, at_of (j := 0) rfl rfl, _, rfl, rfl, _, rfl, ifF (by decide +kernel) ⟨_, rfl, rfl, _, rfl, ifT rfl ?_⟩⟩
        refine ⟨_, rfl, p, _, _, _, rfl, rfl, SqT.of h, at_of (j := 1) rfl rfl, b, rfl, ⟨_, SqT.of hb⟩, fun D hD => ?_⟩
        refine lc_tup (K := K) (a := b) (xs := vs) (fun i H' => Same H H' ∧ ∃ bs : List Bool, H' D = some (.lst (bs.map V.bl)) ∧ bs.length = i) ⟨same_new hD, [], upd_same, rfl⟩ (fun i H' _ q => SqT.of (q.1 _ _ hb)) ?_ ?_
        · rintro i x H' hx ⟨sm, bs, hbs, rfl⟩
          have hi : bs.length < vs.length := (List.getElem?_eq_some_iff.mp hx).1
          exact ⟨rfl, _, rfl, _, rfl, _, rfl, _, rfl, a, x, kn, c, d, rfl, A1.same sm, ok, (hcs x (List.mem_of_getElem? hx)).same sm, fun r H2 s2 => ⟨_, s2 _ _ hbs, by rw [List.length_map]; omega, same_upd (sm.trans s2) hD, bs ++ [r], by rw [List.map_append]; exact upd_same, by simp⟩⟩
        · rintro H' ⟨sm, bs, hbs, _⟩
          exact ⟨D, bs, rfl, SqL.of hbs, k _ _ sm⟩
      | @or _ p b vs h hb hl hcs =>
        refine ⟨_, rfl, p, _, _, _, rfl, rfl, SqT.of h, at_of (j := 0) rfl rfl, _, rfl, rfl, _, rfl, ifF (by decide +kernel) ⟨_, rfl, rfl, _, rfl, ifF (by decide +kernel) ⟨_, rfl, rfl, _, rfl, ifT rfl ?_⟩⟩⟩
        refine ⟨_, rfl, p, _, _, _, rfl, rfl, SqT.of h, at_of (j := 1) rfl rfl, b, rfl, ⟨_, SqT.of hb⟩, fun D hD => ?_⟩
        refine lc_tup (K := K) (a := b) (xs := vs) (fun i H' => Same H H' ∧ ∃ bs : List Bool, H' D = some (.lst (bs.map V.bl)) ∧ bs.length = i) ⟨same_new hD, [], upd_same, rfl⟩ (fun i H' _ q => SqT.of (q.1 _ _ hb)) ?_ ?_
        · rintro i x H' hx ⟨sm, bs, hbs, rfl⟩
          have hi : bs.length < vs.length := (List.getElem?_eq_some_iff.mp hx).1
          exact ⟨rfl, _, rfl, _, rfl, _, rfl, _, rfl, a, x, kn, c, d, rfl, A1.same sm, ok, (hcs x (List.mem_of_getElem? hx)).same sm, fun r H2 s2 => ⟨_, s2 _ _ hbs, by rw [List.length_map]; omega, same_upd (sm.trans s2) hD, bs ++ [r], by rw [List.map_append]; exact upd_same, by simp⟩⟩
        · rintro H' ⟨sm, bs, hbs, _⟩
          exact ⟨D, bs, rfl, SqL.of hbs, k _ _ sm⟩
end
end K5

set_option Elab.async false
set_option linter.all false
set_option maxRecDepth 100000
set_option maxHeartbeats 4000000
/-! Walks 9: what the calendar's maker asks of its arguments. -/
namespace K5
open PySem PySem.Spec PyProof.Rows L2
theorem ix_listK {X : Cx} (K : PySem.W.Frag) (h : X.K = K := by rfl) : IxR X (rIxL K) := h ▸ ix_list
theorem ix_tupK {X : Cx} (K : PySem.W.Frag) (h : X.K = K := by rfl) : IxR X (rIxT K) := h ▸ ix_tup
theorem call_len_seqK {X : Cx} (K : PySem.W.Frag) (h : X.K = K := by rfl) : CallR X (.builtin "len") (fun xs H Q => ∃ p ys, xs = [.ref p] ∧ (SqL K H p ys ∨ SqT K H p ys) ∧ Q (.int ys.length) H) := h ▸ call_len_seq
/-- a walk of a list, whatever a turn does -/
theorem out_list {K : PySem.W.Frag} {a : Addr} {xs : List V} {H0 : Hp} {Qd : Hp → Prop} {G : V → Hp → (Hp → Prop) → Prop} (Pv : Nat → Hp → Prop) (h0 : Pv 0 H0) (hl : ∀ i H, Pv i H → SqL K H a xs) (hs : ∀ i x H, xs[i]? = some x → Pv i H → G x H (Pv (i + 1))) (hd : ∀ H, Pv xs.length H → Qd H) :
    ∃ W : Nat → Nat → Hp → Prop, (∃ m, W 0 m H0) ∧ ∀ i m H, W i m H → ((Itl K a).stop i H ∧ Qd H) ∨ ((Itl K a).go i H ∧ ∃ Nx : Hp → Prop, (∀ H', Nx H' → ∃ m', m' < m ∧ W (i + 1) m' H') ∧ ∀ x H', (Itl K a).yld i H x H' → G x H' Nx) := by
  refine ⟨fun i m H => m = xs.length - i ∧ i ≤ xs.length ∧ Pv i H, ⟨_, rfl, Nat.zero_le _, h0⟩, ?_⟩
  rintro i m H ⟨rfl, hi, p⟩
  have q := hl i H p
  by_cases c : i < xs.length
  · refine .inr ⟨⟨xs, xs[i], q, List.getElem?_eq_getElem c⟩, Pv (i + 1), fun H' z => ⟨xs.length - (i + 1), by omega, rfl, c, z⟩, ?_⟩
    rintro x H' ⟨rfl, y⟩
    exact hs i x H' (y xs q) p
  · have e : i = xs.length := by omega
    subst e
    exact .inl ⟨⟨xs, q, Nat.le_refl _⟩, hd H p⟩
theorem rep_all (n : Nat) : (List.replicate n true).all id = true := by
  rw [List.all_eq_true]
  intro x hx
  exact (List.mem_replicate.mp hx).2
theorem rep_more (n : Nat) : (List.replicate n true).map V.bl ++ [V.bl true] = (List.replicate (n + 1) true).map V.bl := by
  rw [List.replicate_succ', List.map_append] <;> rfl
abbrev RowsL (H : Hp) (bs : List Addr) (Y : List (List Int)) : Prop := Paired (fun (b : Addr) (y : List Int) => H b = some (.lst (y.map V.int))) bs Y
abbrev PairsL (H : Hp) (bs : List Addr) (hs : List (Int × Int)) : Prop := Paired (fun (b : Addr) (h : Int × Int) => H b = some (.tup [.int h.1, .int h.2])) bs hs
theorem small_le {n m : Nat} (h : n ≤ m) (hm : m ≤ 1000) : n < sizeLine := small1000 (Nat.le_trans h hm)
def sp_are_years : Sp := fun vs H Q _ => ∃ (a : Addr) (bs : List Addr) (Y : List (List Int)) (M : Nat), vs = [.ref a] ∧ H a = some (.lst (bs.map V.ref)) ∧ RowsL H bs Y ∧ 1 ≤ Y.length ∧ Y.length ≤ 2 ∧ 1 ≤ M ∧ M ≤ 14 ∧ (∀ y ∈ Y, y.length = M) ∧ (∀ y ∈ Y, ∀ d ∈ y, 1 ≤ d ∧ d ≤ 40) ∧ ∀ H', Same H H' → Q (.bl true) H'
def sp_are_weekdays : Sp := fun vs H Q _ => ∃ (a : Addr) (R : List Int) (n : Int), vs = [.ref a, .int n] ∧ H a = some (.lst (R.map V.int)) ∧ R.length ≤ 100 ∧ R.Nodup ∧ (∀ r ∈ R, 0 ≤ r ∧ r < n) ∧ ∀ H', Same H H' → Q (.bl true) H'
section
variable {P : Program} {w : World} {K : PySem.W.Frag} {mg : Str → Option Value} {base : Heap}
theorem ok_are_years (T : Tx K mg) : C8.Cal P w K mg base 3 "are_years" sp_are_years [] := by
  obtain ⟨fd, F⟩ := T.b_are_years
  obtain ⟨u1, g1, r1⟩ := T.i_MAX_YEARS
  obtain ⟨u2, g2, r2⟩ := T.i_MAX_MONTHS
  obtain ⟨u3, g3, r3⟩ := T.i_MAX_DAYS
  refine calF F T.g_are_years sc_are_years (fun vs H Q E h => ?_) (fun cdv A outer s H vs Q E hr h => ?_)
  · obtain ⟨a, bs, Y, M, rfl, _⟩ := h
    rfl
  · obtain ⟨a, bs, Y, M, rfl, ha, hY, y1, y2, m1, m2, hM, hd, k⟩ := h
    have nd := sc_are_years.nd
    have bl := hY.length
    refine ⟨_, pss_cons (ps_if (PW.pt (pw_or (pt_not (pt_val (C8.pe_c (ok_is_row T) hr (by decide) (by rfl) (pa_cons (pv 0) pa_nil))))
        (pw_or (pt_not (pt_chain op_le op_le pe_int (pe_callB call_len_seq (by rfl) T.z_len bLen (pa_cons (pv 0) pa_nil)) (pe_glob (by rfl) g1 r1)))
        (pw_or1 (pt_not (pt_val (pe_callB (cr_all rfl) (by rfl) T.z_all bAll (pa_cons (pe_lc (own := [("year", 1)]) (g := gName 1) (tt := tYes) rfl nd (pi_list (pv 0)) (blkOk_by (own := [("year", 1)]) (N := n_are_years) (sc := defScope s_are_years) (by decide +kernel)) (fun _ _ _ _ _ => pg_name (i := 1) nd rfl (Or.inl rfl)) (fun _ _ _ _ _ => pts_nil)
          (fun _ _ _ _ _ => C8.pe_c (ok_is_row T) hr (by decide) (by rfl) (pa_cons (pv 1) pa_nil))) pa_nil)))))))) (pss_one (ps_ret pe_bl)) pss_nil)
      (pss_cons (ps_if (PW.pt (pw_or (pt_not (pt_chain op_le op_le pe_int (pe_callB call_len_seq (by rfl) T.z_len bLen (pa_cons (pe_ix ix_list (pv 0) pe_int (fun _ _ => rfl)) pa_nil)) (pe_glob (by rfl) g2 r2)))
        (pw_or1 (pt_not (pt_val (pe_callB (cr_all rfl) (by rfl) T.z_all bAll (pa_cons (pe_lc (own := [("year", 1)]) (g := gName 1) (tt := tYes) rfl nd (pi_list (pv 0)) (blkOk_by (own := [("year", 1)]) (N := n_are_years) (sc := defScope s_are_years) (by decide +kernel)) (fun _ _ _ _ _ => pg_name (i := 1) nd rfl (Or.inl rfl)) (fun _ _ _ _ _ => pts_nil)
          (fun _ _ _ _ _ => pe_cmpR op_eq (pe_callB (call_len_seqK K) (by rfl) T.z_len bLen (pa_cons (pv 1) pa_nil)) (pe_callB (call_len_seqK K) (by rfl) T.z_len bLen (pa_cons (pe_ix (ix_listK K) (pv 0) pe_int (fun _ _ => rfl)) pa_nil)) (nomark _))) pa_nil))))))) (pss_one (ps_ret pe_bl)) pss_nil)
      (pss_one (ps_ret (pe_callB (cr_all rfl) (by rfl) T.z_all bAll (pa_cons (pe_lc2 (own := [("year", 1), ("days", 2)]) (vs1 := [2]) (wi1 := iList K (tVar 1)) (g := gName 1) (tt := tYes) (g1 := gName 2) (tt1 := tYes) rfl nd (pi_list (pv 0)) (blkOk_by (own := [("year", 1), ("days", 2)]) (N := n_are_years) (sc := defScope s_are_years) (by decide +kernel)) (by decide)
          (fun _ _ _ _ _ => pg_name (i := 1) nd rfl (Or.inl rfl)) (fun _ _ _ _ _ => pts_nil) (fun _ _ _ _ _ => pi_list (pv 1)) (fun _ _ _ _ _ => pg_name (i := 2) nd rfl (Or.inl rfl)) (fun _ _ _ _ _ => pts_nil)
          (fun _ _ _ _ _ => C8.pe_c (ok_is_between T) hr (by decide) (by rfl) (pa_cons (pv 2) (pa_cons pe_int (pa_cons (pe_glob (by rfl) g3 r3) pa_nil))))) pa_nil))))), ?_⟩
    have row : ∀ {H' : Hp} {i : Nat} {x : V}, Same H H' → (bs.map V.ref)[i]? = some x → ∃ (b : Addr) (y : List Int), x = .ref b ∧ H' b = some (.lst (y.map V.int)) ∧ y ∈ Y ∧ Y[i]? = some y := fun {H' i x} sm hx => by
      rw [List.getElem?_map] at hx
      cases e : bs[i]? with
      | none =>
        rw [e] at hx
        cases hx
      | some b =>
        rw [e] at hx
        obtain ⟨y, e1, e2⟩ := paired_at hY i b e
        exact ⟨b, y, (Option.some.inj hx).symm, sm _ _ e2, List.mem_of_getElem? e1, e1⟩
    obtain ⟨b0, hb0⟩ : ∃ b0, (bs.map V.ref)[0]? = some b0 := ⟨_, List.getElem?_eq_getElem (by rw [List.length_map]; omega)⟩
    have len0 : ∀ {H' : Hp}, Same H H' → ∃ (b : Addr) (y : List Int), b0 = .ref b ∧ H' b = some (.lst (y.map V.int)) ∧ y.length = M := fun {H'} sm => by
      obtain ⟨b, y, e1, e2, e3, _⟩ := row sm hb0
      exact ⟨b, y, e1, e2, hM y e3⟩
    -- the first test
    refine ⟨_, rfl, a, _, rfl, .inl ha, fun H1 s1 => ⟨true, rfl, iteF ?_⟩⟩
    refine ⟨_, rfl, a, _, rfl, .inl (SqL.of (s1 _ _ ha)), _, _, rfl, rfl, _, rfl, ?_⟩
    rw [List.length_map]
    refine ifT (by omega) ⟨_, _, rfl, rfl, _, rfl, ?_⟩
    have e2 : decide ((bs.length : Int) ≤ 400) = true := decide_eq_true (by omega)
    rw [e2]
    refine iteF ⟨_, rfl, a, rfl, ⟨_, SqL.of (s1 _ _ ha)⟩, fun D hD => ?_⟩
    refine lc_list (K := K) (a := a) (xs := bs.map V.ref) (fun i H' => Same H1 H' ∧ H' D = some (.lst ((List.replicate i true).map V.bl))) ⟨same_new hD, upd_same⟩ (fun i H' _ q => SqL.of (q.1 _ _ (s1 _ _ ha))) ?_ ?_
    · rintro i x H' hx ⟨sm, hb⟩
      obtain ⟨b, y, rfl, h2, _, _⟩ := row (s1.trans sm) hx
      have hi : i < bs.length := by have z := (List.getElem?_eq_some_iff.mp hx).1; rwa [List.length_map] at z
      exact ⟨rfl, _, rfl, b, _, rfl, .inl h2, fun H2 s2 => ⟨_, s2 _ _ hb, by rw [List.length_map, List.length_replicate]; exact small_le (Nat.le_of_lt hi) (by omega), same_upd (sm.trans s2) hD, by rw [rep_more]; exact upd_same⟩⟩
    rintro H2 ⟨s2', hb2⟩
    have s2 := s1.trans s2'
    refine ⟨D, _, rfl, SqL.of hb2, true, ?_, iteF ?_⟩
    · show V.bl ((List.replicate (bs.map V.ref).length true).all id) = _
      rw [rep_all]
    -- the second test
    obtain ⟨b, y, rfl, h2, hy⟩ := len0 s2
    refine ⟨_, rfl, a, _, _, _, rfl, rfl, SqL.of (s2 _ _ ha), at_of (j := 0) rfl hb0, b, _, rfl, .inl (SqL.of h2), _, _, rfl, rfl, _, rfl, ?_⟩
    rw [List.length_map, hy]
    refine ifT (by omega) ⟨_, _, rfl, rfl, _, rfl, ?_⟩
    have e3 : decide ((M : Int) ≤ 14) = true := decide_eq_true (by omega)
    rw [e3]
    refine iteF ⟨_, rfl, a, rfl, ⟨_, SqL.of (s2 _ _ ha)⟩, fun D2 hD2 => ?_⟩
    refine lc_list (K := K) (a := a) (xs := bs.map V.ref) (fun i H' => Same H2 H' ∧ H' D2 = some (.lst ((List.replicate i true).map V.bl))) ⟨same_new hD2, upd_same⟩ (fun i H' _ q => SqL.of (q.1 _ _ (s2 _ _ ha))) ?_ ?_
    · rintro i x H' hx ⟨sm, hb⟩
      obtain ⟨b', y', rfl, h3, hy', _⟩ := row (s2.trans sm) hx
      have hi : i < bs.length := by have z := (List.getElem?_eq_some_iff.mp hx).1; rwa [List.length_map] at z
      refine ⟨rfl, _, rfl, b', _, rfl, .inl (SqL.of h3), _, rfl, a, _, _, _, rfl, rfl, SqL.of (sm _ _ (s2 _ _ ha)), at_of (j := 0) rfl hb0, b, _, rfl, .inl (SqL.of (sm _ _ h2)), rfl, _, hb, by rw [List.length_map, List.length_replicate]; exact small_le (Nat.le_of_lt hi) (by omega), same_upd sm hD2, ?_⟩
      rw [List.length_map, List.length_map, hy, hM y' hy', decide_eq_true rfl, rep_more]
      exact upd_same
    rintro H3 ⟨s3', hb3⟩
    have s3 := s2.trans s3'
    refine ⟨D2, _, rfl, SqL.of hb3, true, ?_, iteF ?_⟩
    · show V.bl ((List.replicate (bs.map V.ref).length true).all id) = _
      rw [rep_all]
    -- the days
    refine ⟨_, rfl, a, rfl, ⟨_, SqL.of (s3 _ _ ha)⟩, fun D3 hD3 => ?_⟩
    refine out_list (K := K) (a := a) (xs := bs.map V.ref) (fun i H' => Same H3 H' ∧ ∃ n, n ≤ 14 * i ∧ H' D3 = some (.lst ((List.replicate n true).map V.bl))) ⟨same_new hD3, 0, Nat.zero_le _, upd_same⟩ (fun i H' q => SqL.of (q.1 _ _ (s3 _ _ ha))) ?_ ?_
    · rintro i x H' hx ⟨sm, n, hn, hb⟩
      obtain ⟨b', y', rfl, h3, hy', _⟩ := row (s3.trans sm) hx
      have hi : i < bs.length := by have z := (List.getElem?_eq_some_iff.mp hx).1; rwa [List.length_map] at z
      have hm := hM y' hy'
      refine ⟨rfl, _, rfl, b', rfl, ⟨_, SqL.of h3⟩, ?_⟩
      refine out_list (K := K) (a := b') (xs := y'.map V.int) (fun j H2 => Same H3 H2 ∧ H2 D3 = some (.lst ((List.replicate (n + j) true).map V.bl)) ∧ H2 b' = some (.lst (y'.map V.int))) ⟨sm, hb, h3⟩ (fun j H2 q => SqL.of q.2.2) ?_ ?_
      · rintro j z H2 hz ⟨sm2, hb2, h4⟩
        rw [List.getElem?_map] at hz
        obtain ⟨d, hd1, rfl⟩ : ∃ d, y'[j]? = some d ∧ z = .int d := by
          cases e : y'[j]? with
          | none =>
            rw [e] at hz
            cases hz
          | some d =>
            rw [e] at hz
            exact ⟨d, rfl, (Option.some.inj hz).symm⟩
        have hj : j < y'.length := (List.getElem?_eq_some_iff.mp hd1).1
        have hdd := hd y' hy' d (List.mem_of_getElem? hd1)
        refine ⟨rfl, _, rfl, d, 1, 40, rfl, _, hb2, by rw [List.length_map, List.length_replicate]; exact small1000 (by omega), same_upd sm2 hD3, ?_, ?_⟩
        · rw [decide_eq_true (show (1 : Int) ≤ d ∧ d ≤ 40 from hdd), rep_more]
          exact upd_same
        · rw [upd_ne (ne_of h4 hb2 ?_)]
          · exact h4
          · intro z
            have z2 := HO.lst.inj z
            cases y' with
            | nil => simp at hj
            | cons q r =>
              cases e : n + j with
              | zero =>
                rw [e] at z2
                cases z2
              | succ m =>
                rw [e, List.replicate_succ] at z2
                cases z2
      · rintro H2 ⟨sm2, hb2, h4⟩
        refine ⟨sm2, n + y'.length, by omega, ?_⟩
        rw [List.length_map] at hb2
        exact hb2
    · rintro H4 ⟨sm4, n, hn, hb4⟩
      refine ⟨D3, _, rfl, SqL.of hb4, ?_⟩
      rw [rep_all]
      exact k _ (s3.trans sm4)
end
end K5

set_option Elab.async false
set_option linter.all false
set_option maxRecDepth 100000
set_option maxHeartbeats 4000000
/-! Walks 10: weekdays, holidays, starts. -/
namespace K5
open PySem PySem.Spec PyProof.Rows L2
def sp_are_holidays : Sp := fun vs H Q _ => ∃ (a : Addr) (bs : List Addr) (hs : List (Int × Int)) (n : Int), vs = [.ref a, .int n] ∧ H a = some (.lst (bs.map V.ref)) ∧ PairsL H bs hs ∧ hs.length ≤ 20 ∧ hs.Nodup ∧ (∀ h ∈ hs, 1 ≤ h.1 ∧ h.1 ≤ n ∧ 1 ≤ h.2 ∧ h.2 ≤ 40) ∧ ∀ H', Same H H' → Q (.bl true) H'
def sp_month_starts : Sp := fun vs H Q _ => ∃ (a : Addr) (ls : List Int), vs = [.ref a] ∧ H a = some (.lst (ls.map V.int)) ∧ ls.length ≤ 100 ∧ ∀ (p : Addr) H', Same H H' → H' p = some (.lst ((startsOf ls).map V.int)) → Q (.ref p) H'
theorem int_at {xs : List Int} {i : Nat} {x : V} (h : (xs.map V.int)[i]? = some x) : ∃ k : Int, xs[i]? = some k ∧ x = .int k := by
  rw [List.getElem?_map] at h
  cases e : xs[i]? with
  | none =>
    rw [e] at h
    cases h
  | some d =>
    rw [e] at h
    exact ⟨d, rfl, (Option.some.inj h).symm⟩
theorem ref_at {bs : List Addr} {i : Nat} {x : V} (h : (bs.map V.ref)[i]? = some x) : ∃ b : Addr, bs[i]? = some b ∧ x = .ref b := by
  rw [List.getElem?_map] at h
  cases e : bs[i]? with
  | none =>
    rw [e] at h
    cases h
  | some d =>
    rw [e] at h
    exact ⟨d, rfl, (Option.some.inj h).symm⟩
theorem pairs_zip {H : Hp} : ∀ {bs : List Addr} {hs : List (Int × Int)}, PairsL H bs hs → ∃ ks : List (Addr × List Int), ks.map (fun p => V.ref p.1) = bs.map V.ref ∧ ks.length = bs.length ∧ ks.map (·.2) = hs.map (fun h => [h.1, h.2]) ∧ ∀ p ∈ ks, H p.1 = some (.tup (p.2.map V.int))
  | _, _, .nil => ⟨[], rfl, rfl, rfl, fun _ h => nomatch h⟩
  | b :: bs, h :: hs, .cons r t => by
    obtain ⟨ks, e1, e2, e3, e4⟩ := pairs_zip t
    refine ⟨(b, [h.1, h.2]) :: ks, by rw [List.map_cons, e1] <;> rfl, by simp [e2], by rw [List.map_cons, e3] <;> rfl, fun p hp => ?_⟩
    rcases List.mem_cons.mp hp with e | hp
    · subst e
      exact r
    · exact e4 p hp
theorem nodup_pair {hs : List (Int × Int)} (h : hs.Nodup) : (hs.map (fun h => [h.1, h.2])).Nodup := by
  induction hs with
  | nil => exact List.Pairwise.nil
  | cons x xs ih =>
    have z := List.nodup_cons.mp h
    refine List.nodup_cons.mpr ⟨fun m => ?_, ih z.2⟩
    obtain ⟨y, hy, e⟩ := List.mem_map.mp m
    have e1 : y.1 = x.1 ∧ y.2 = x.2 := by simpa using e
    exact z.1 (by rw [show x = y from Prod.ext e1.1.symm e1.2.symm]; exact hy)
theorem startsFrom_app : ∀ (a : List Int) (b x : Int), startsFrom b (a ++ [x]) = startsFrom b a ++ [b + sumI a + x]
  | [], b, x => by simp [startsFrom, sumI]
  | l :: a, b, x => by
    simp only [List.cons_append, startsFrom, sumI, startsFrom_app a (b + l) x]
    rw [Int.add_assoc b l] <;> rfl
theorem starts_snoc {ls : List Int} {i : Nat} {d : Int} (h : i < ls.length) (e : ls[i]? = some d) : startsOf (ls.take (i + 1)) = startsOf (ls.take i) ++ [sumI (ls.take i) + d] := by
  rw [List.take_succ, e]
  show startsFrom 0 (ls.take i ++ [d]) = _
  rw [startsFrom_app, Int.zero_add]
/-- as many as there are: a list without doubles that holds the same -/
theorem len_of_cover {α : Type} {as bs : List α} (ha : as.Nodup) (hb : bs.Nodup) (h1 : ∀ x ∈ as, x ∈ bs) (h2 : ∀ x ∈ bs, x ∈ as) : as.length = bs.length :=
  Nat.le_antisymm (List.Nodup.length_le_of_subset ha (fun x => h1 x)) (List.Nodup.length_le_of_subset hb (fun x => h2 x))
theorem u64 {k : Nat} {A : Around} (r : Room k A) : A.units + 64 < cLine := by
  have := r.un
  omega
/-- len of a set of tuples; no tuple stands in it twice -/
def rLenSetTN (P : Program) (w : World) : List V → Hp → VK → Prop := fun xs H Q => ∃ a L, xs = [.ref a] ∧ H a = some (SetTO P w a L) ∧ ((L.map (·.2)).Nodup → Q (.int L.length) H)
theorem cr_lenSetTN {X : Cx} : CallR X (.builtin "len") (rLenSetTN X.prog X.w) := by
  rintro pins s σ H xs us Q I r ⟨a, L, rfl, ha, q⟩
  have ok : ObjOk X.prog X.w H s.heap a (SetTO X.prog X.w a L) := I.hok a _ ha
  obtain ⟨es, ep, t, _, _, _, nd, _⟩ := SetT0.ex ok.1
  exact cr_lenSetT pins s σ H _ us Q I r ⟨a, L, rfl, ha, q nd⟩
section
variable {P : Program} {w : World} {K : PySem.W.Frag} {mg : Str → Option Value} {base : Heap}
theorem ok_are_weekdays (T : Tx K mg) : C8.Cal P w K mg base 3 "are_weekdays" sp_are_weekdays [] := by
  obtain ⟨fd, F⟩ := T.b_are_weekdays
  refine calF F T.g_are_weekdays sc_are_weekdays (fun vs H Q E h => ?_) (fun cdv A outer s H vs Q E hr h => ?_)
  · obtain ⟨a, R, n, rfl, _⟩ := h
    rfl
  · obtain ⟨a, R, n, rfl, ha, hl, hnd, hR, k⟩ := h
    have nd := sc_are_weekdays.nd
    refine ⟨_, pss_cons (ps_if (PW.pt (pw_or (pt_not (pt_val (C8.pe_c (ok_is_row T) hr (by decide) (by rfl) (pa_cons (pv 0) pa_nil))))
        (pw_or1 (pt_not (pt_val (pe_callB (cr_all rfl) (by rfl) T.z_all bAll (pa_cons (pe_lc (own := [("weekday", 2)]) (g := gName 2) (tt := tYes) rfl nd (pi_list (pv 0)) (blkOk_by (own := [("weekday", 2)]) (N := n_are_weekdays) (sc := defScope s_are_weekdays) (by decide +kernel)) (fun _ _ _ _ _ => pg_name (i := 2) nd rfl (Or.inl rfl)) (fun _ _ _ _ _ => pts_nil)
          (fun _ _ _ _ _ => C8.pe_c (ok_is_between T) hr (by decide) (by rfl) (pa_cons (pv 2) (pa_cons pe_int (pa_cons (pe_op op_sub (pv 1) pe_int) pa_nil))))) pa_nil))))))) (pss_one (ps_ret pe_bl)) pss_nil)
      (pss_one (ps_ret (pe_cmpR op_eq (RZ.pe_lenSetI (by rfl) T.z_len (by rfl) T.z_set (pv 0)) (pe_callB call_len_seq (by rfl) T.z_len bLen (pa_cons (pv 0) pa_nil)) (nomark _)))), ?_⟩
    refine ⟨_, rfl, a, _, rfl, .inl ha, fun H1 s1 => ⟨true, rfl, iteF ?_⟩⟩
    refine ⟨_, rfl, a, rfl, ⟨_, SqL.of (s1 _ _ ha)⟩, fun D hD => ?_⟩
    refine lc_list (K := K) (a := a) (xs := R.map V.int) (fun i H' => Same H1 H' ∧ H' D = some (.lst ((List.replicate i true).map V.bl))) ⟨same_new hD, upd_same⟩ (fun i H' _ q => SqL.of (q.1 _ _ (s1 _ _ ha))) ?_ ?_
    · rintro i x H' hx ⟨sm, hb⟩
      have hi : i < R.length := by have z := (List.getElem?_eq_some_iff.mp hx).1; rwa [List.length_map] at z
      obtain ⟨r, e1, rfl⟩ := int_at hx
      obtain ⟨r1, r2⟩ := hR r (List.mem_of_getElem? e1)
      refine ⟨rfl, _, rfl, _, rfl, _, _, rfl, rfl, r, 0, n - 1, rfl, _, hb, by rw [List.length_map, List.length_replicate]; exact small_le (Nat.le_of_lt hi) (by omega), same_upd sm hD, ?_⟩
      rw [decide_eq_true (show (0 : Int) ≤ r ∧ r ≤ n - 1 by omega), rep_more]
      exact upd_same
    rintro H2 ⟨s2', hb2⟩
    have s2 := s1.trans s2'
    refine ⟨D, _, rfl, SqL.of hb2, true, ?_, iteF ?_⟩
    · show V.bl ((List.replicate (R.map V.int).length true).all id) = _
      rw [rep_all]
    refine ⟨_, rfl, a, R, rfl, SqL.of (s2 _ _ ha), hnd, by omega, _, rfl, a, _, rfl, .inl (SqL.of (s2 _ _ ha)), rfl, ?_⟩
    rw [List.length_map, decide_eq_true rfl]
    exact k _ s2
theorem ok_are_holidays (T : Tx K mg) : C8.Cal P w K mg base 3 "are_holidays" sp_are_holidays [] := by
  obtain ⟨fd, F⟩ := T.b_are_holidays
  obtain ⟨u3, g3, r3⟩ := T.i_MAX_DAYS
  refine calF F T.g_are_holidays sc_are_holidays (fun vs H Q E h => ?_) (fun cdv A outer s H vs Q E hr h => ?_)
  · obtain ⟨a, bs, hs, n, rfl, _⟩ := h
    rfl
  · obtain ⟨a, bs, hs, n, rfl, ha, hb, hl, hnd, hR, k⟩ := h
    have nd := sc_are_holidays.nd
    have bl := hb.length
    refine ⟨_, pss_cons (ps_if (pt_not (pt_val (C8.pe_c (ok_is_row T) hr (by decide) (by rfl) (pa_cons (pv 0) pa_nil)))) (pss_one (ps_ret pe_bl)) pss_nil)
      (pss_cons (ps_for PassesOwn.never rfl (pi_list (pv 0)) (pg_name (i := 2) nd rfl (.inl rfl))
        (pss_cons (ps_if (PW.pt (pw_or (pt_not (pt_val (pe_callB call_isi (by rfl) T.z_isinstance bIsi (pa_cons (pv 2) (pa_cons (pe_bltn (by rfl) T.z_tuple bT (v := .ty "tuple") rfl) pa_nil)))))
          (pw_or1 (pt_cmpR op_ne (pe_callB call_len_seq (by rfl) T.z_len bLen (pa_cons (pv 2) pa_nil)) pe_int (nomark _))))) (pss_one (ps_ret pe_bl)) pss_nil)
        (pss_one (ps_if (PW.pt (pw_or (pt_not (pt_val (C8.pe_c (ok_is_between T) hr (by decide) (by rfl) (pa_cons (pe_ix ix_tup (pv 2) pe_int (fun _ _ => rfl)) (pa_cons pe_int (pa_cons (pv 1) pa_nil))))))
          (pw_or1 (pt_not (pt_val (C8.pe_c (ok_is_between T) hr (by decide) (by rfl) (pa_cons (pe_ix ix_tup (pv 2) pe_int (fun _ _ => rfl)) (pa_cons pe_int (pa_cons (pe_glob (by rfl) g3 r3) pa_nil))))))))) (pss_one (ps_ret pe_bl)) pss_nil))))
      (pss_one (ps_ret (pe_cmpR op_eq (pe_callB cr_lenSetTN (by rfl) T.z_len bLen (pa_cons (pe_callTy (cr_setOfT rfl (u64 hr)) (by rfl) T.z_set (by decide +kernel) (pa_cons (pv 0) pa_nil)) pa_nil)) (pe_callB call_len_seq (by rfl) T.z_len bLen (pa_cons (pv 0) pa_nil)) (nomark _))))), ?_⟩
    refine ⟨_, rfl, a, _, rfl, .inl ha, fun H1 s1 => ⟨true, rfl, iteF ?_⟩⟩
    refine ⟨_, rfl, a, rfl, ⟨_, SqL.of (s1 _ _ ha)⟩, ?_⟩
    refine for_list (K := K) (a := a) (xs := bs.map V.ref) (fun i σ H' => H' = H1 ∧ ∃ v, σ = [some (.ref a), some (.int n), v]) ⟨rfl, _, rfl⟩ (fun i σ H' _ q => by obtain ⟨rfl, _⟩ := q; exact SqL.of (s1 _ _ ha)) ?_ ?_
    · rintro i x σ H' hx ⟨rfl, v, rfl⟩
      obtain ⟨b, e1, rfl⟩ := ref_at hx
      obtain ⟨h, e2, e3⟩ := paired_at hb i b e1
      obtain ⟨q1, q2, q3, q4⟩ := hR h (List.mem_of_getElem? e2)
      have hb1 := s1 _ _ e3
      refine ⟨_, rfl, _, _, _, _, true, rfl, .ty "tuple", .base (.tup hb1), kit_ty (by decide +kernel), true, rfl, iteF ?_⟩
      refine ⟨_, rfl, b, _, rfl, .inr (SqT.of hb1), rfl, _, rfl, iteF ?_⟩
      refine ⟨_, rfl, b, _, _, _, rfl, rfl, SqT.of hb1, at_of (j := 0) rfl rfl, _, rfl, h.1, 1, n, rfl, true, by rw [decide_eq_true (show (1 : Int) ≤ h.1 ∧ h.1 ≤ n from ⟨q1, q2⟩)], iteF ?_⟩
      refine ⟨_, rfl, b, _, _, _, rfl, rfl, SqT.of hb1, at_of (j := 1) rfl rfl, h.2, 1, 40, rfl, true, by rw [decide_eq_true (show (1 : Int) ≤ h.2 ∧ h.2 ≤ 40 from ⟨q3, q4⟩)], iteF ?_⟩
      exact ⟨rfl, _, rfl⟩
    · rintro σ H' ⟨rfl, v, rfl⟩
      obtain ⟨ks, k1, k2, k3, k4⟩ := pairs_zip hb
      refine ⟨_, rfl, a, ks, rfl, SqL.of (by rw [k1]; exact s1 _ _ ha), fun p hp => SqT.of (s1 _ _ (k4 p hp)), by omega, fun q L hq hL1 hL2 => ?_⟩
      have s2 := s1.trans (same_new (o := SetTO P w q L) hq)
      refine ⟨q, L, rfl, upd_same, fun hnL => ⟨_, rfl, a, _, rfl, .inl (SqL.of (s2 _ _ ha)), rfl, ?_⟩⟩
      have el : L.length = ks.length := by
        have e := len_of_cover (as := L.map (·.2)) (bs := ks.map (·.2)) hnL (by rw [k3]; exact nodup_pair hnd) (fun x hx => by
          obtain ⟨p, hp, rfl⟩ := List.mem_map.mp hx
          exact List.mem_map.mpr ⟨p, hL1 p hp, rfl⟩) (fun x hx => by
          obtain ⟨p, hp, rfl⟩ := List.mem_map.mp hx
          exact hL2 p hp)
        rwa [List.length_map, List.length_map] at e
      have e2 : decide (V.int (L.length : Int) = V.int ((bs.map V.ref).length : Int)) = true := decide_eq_true (by rw [List.length_map, el, k2])
      refine cast (congrArg (fun z => Q (V.bl z) _) e2.symm) (k _ s2)
theorem ok_month_starts (T : Tx K mg) : C8.Cal P w K mg base 1 "month_starts" sp_month_starts [] := by
  obtain ⟨fd, F⟩ := T.b_month_starts
  refine calF F T.g_month_starts sc_month_starts (fun vs H Q E h => ?_) (fun cdv A outer s H vs Q E hr h => ?_)
  · obtain ⟨a, ls, rfl, _⟩ := h
    rfl
  · obtain ⟨a, ls, rfl, ha, hl, k⟩ := h
    have nd := sc_month_starts.nd
    refine ⟨_, pss_cons (ps_set (i := 1) nd rfl (Or.inl rfl) (pe_lst (pa_cons pe_int pa_nil)))
      (pss_cons (ps_for PassesOwn.never rfl (pi_list (pv 0)) (pg_name (i := 2) nd rfl (.inl rfl))
        (pss_one (ps_expr (pe_bm PySem.F.plainAttrs_list PySem.F.slot_list_append PySem.F.type_list_append mt_append (pv 1) (pa_cons (pe_op op_add (pe_ix ix_list (pv 1) (pe_un un_neg pe_int) (fun _ _ => rfl)) (pv 2)) pa_nil)))))
      (pss_one (ps_ret (pv 1)))), ?_⟩
    refine ⟨(by show 1 ≤ sizeLine; decide), fun l hl0 => ?_⟩
    have s1 := same_new (o := .lst [.int 0]) hl0
    refine ⟨_, rfl, a, rfl, ⟨_, SqL.of (s1 _ _ ha)⟩, ?_⟩
    refine for_list (K := K) (a := a) (xs := ls.map V.int) (fun i σ H' => Same H H' ∧ H' l = some (.lst ((startsOf (ls.take i)).map V.int)) ∧ ∃ v, σ = [some (.ref a), some (.ref l), v]) ⟨s1, upd_same, _, rfl⟩ (fun i σ H' _ q => SqL.of (q.1 _ _ ha)) ?_ ?_
    · rintro i x σ H' hx ⟨sm, hb, v, rfl⟩
      obtain ⟨d, e1, rfl⟩ := int_at hx
      have hi : i < ls.length := (List.getElem?_eq_some_iff.mp e1).1
      have hlen : ((startsOf (ls.take i)).map V.int).length = i + 1 := by
        rw [List.length_map, startsFrom_length, List.length_take]
        omega
      have hlast : ((startsOf (ls.take i)).map V.int)[((startsOf (ls.take i)).map V.int).length - 1]? = some (V.int (sumI (ls.take i))) := by
        rw [hlen, List.getElem?_map, startsFrom_at (ls.take i) 0 (i + 1 - 1) (by rw [List.length_take]; omega), Nat.add_sub_cancel, List.take_take, Nat.min_self, Int.zero_add] <;> rfl
      refine ⟨_, rfl, .inl ⟨rfl, _, SqL.of hb⟩, _, rfl, _, rfl, l, _, _, _, rfl, rfl, SqL.of hb, atI_m1 (by rw [hlen]; omega) hlast, _, rfl, _, _, rfl, rfl, l, _, _, rfl, rfl, hb, by rw [hlen]; exact small1000 (by omega), same_upd sm hl0, ?_, _, rfl⟩
      refine upd_same.trans ?_
      rw [starts_snoc hi e1, List.map_append] <;> rfl
    · rintro σ H' ⟨sm, hb, v, rfl⟩
      rw [List.length_map, List.take_length] at hb
      exact ⟨_, rfl, k l H' sm hb⟩
end
end K5

set_option Elab.async false
set_option linter.all false
set_option maxRecDepth 100000
set_option maxHeartbeats 4000000
/-! Walks 11: the calendar's maker. -/
namespace K5
open PySem PySem.Spec PyProof.Rows L2
/-! ### a new object that is being filled -/
def SX (a : Addr) (H H' : Hp) : Prop := ∀ b u, b ≠ a → H b = some u → H' b = some u
theorem SX.refl {a : Addr} (H : Hp) : SX a H H := fun _ _ _ e => e
theorem SX.trans {a : Addr} {H H1 H2 : Hp} (x : SX a H H1) (y : SX a H1 H2) : SX a H H2 := fun b u n e => y b u n (x b u n e)
theorem SX.of {a : Addr} {H H' : Hp} (s : Same H H') : SX a H H' := fun b u _ e => s b u e
theorem SX.put {a : Addr} {H : Hp} {o : HO} : SX a H (upd H a o) := fun b u n e => by rw [upd_ne n]; exact e
theorem lk_same {f : Str} {v : V} {fs : List (Str × V)} : (putF f v fs).lookup f = some v := by rw [lookup_putF, if_pos rfl]
theorem lk_ne {f g : Str} {v : V} {fs : List (Str × V)} (h : g ≠ f) : (putF f v fs).lookup g = fs.lookup g := by rw [lookup_putF, if_neg h]
theorem len_putF (f : Str) (v : V) : ∀ fs : List (Str × V), (putF f v fs).length ≤ fs.length + 1
  | [] => by simp [putF]
  | (g, x) :: r => by
    unfold putF
    split
    · simp
    · have := len_putF f v r
      simp only [List.length_cons]
      omega
theorem Paired.snoc {α : Type} {F : Addr → α → Prop} {b : Addr} {y : α} (r : F b y) : ∀ {bs : List Addr} {xs : List α}, Paired F bs xs → Paired F (bs ++ [b]) (xs ++ [y])
  | _, _, .nil => .cons r .nil
  | _, _, .cons q t => .cons q (Paired.snoc r t)
theorem perm_back {α β : Type} {f : α → β} {l ys : List β} (h : l.Perm ys) : ∀ xs : List α, l = xs.map f → ∃ xs' : List α, xs'.Perm xs ∧ ys = xs'.map f := by
  induction h with
  | nil =>
    intro xs e
    have : xs = [] := by simpa using e.symm
    subst this
    exact ⟨[], .refl _, rfl⟩
  | cons x p ih =>
    intro xs e
    cases xs with
    | nil => cases e
    | cons a t =>
      rw [List.map_cons] at e
      obtain ⟨e1, e2⟩ := List.cons.inj e
      obtain ⟨t', p', e3⟩ := ih t e2
      exact ⟨a :: t', p'.cons a, by rw [e1, e3] <;> rfl⟩
  | swap x y l =>
    intro xs e
    match xs, e with
    | [], e => cases e
    | [_], e => simp at e
    | a :: b :: t, e =>
      simp only [List.map_cons] at e
      obtain ⟨e1, e2⟩ := List.cons.inj e
      obtain ⟨e3, e4⟩ := List.cons.inj e2
      exact ⟨b :: a :: t, .swap _ _ _, by rw [e1, e3, e4] <;> rfl⟩
  | trans p q i1 i2 =>
    intro xs e
    obtain ⟨x1, p1, e1⟩ := i1 xs e
    obtain ⟨x2, p2, e2⟩ := i2 x1 e1
    exact ⟨x2, p2.trans p1, e2⟩
theorem pairs_perm {H : Hp} {bs : List Addr} {hs : List (Int × Int)} {ys : List V} (h : PairsL H bs hs) (p : ys.Perm (bs.map V.ref)) : ∃ bs' hs', ys = bs'.map V.ref ∧ PairsL H bs' hs' ∧ hs'.Perm hs := by
  have h0 : ∃ ks : List (Addr × (Int × Int)), ks.map (·.1) = bs ∧ ks.map (·.2) = hs ∧ ∀ k ∈ ks, H k.1 = some (.tup [.int k.2.1, .int k.2.2]) := by
    clear p
    induction h with
    | nil => exact ⟨[], rfl, rfl, fun _ h => nomatch h⟩
    | @cons b x bs xs r t ih =>
      obtain ⟨ks, e1, e2, e3⟩ := ih
      refine ⟨(b, x) :: ks, by rw [List.map_cons, e1], by rw [List.map_cons, e2], fun k hk => ?_⟩
      rcases List.mem_cons.mp hk with rfl | hk
      · exact r
      · exact e3 k hk
  obtain ⟨ks, e1, e2, e3⟩ := h0
  obtain ⟨ks', p', e4⟩ := perm_back (f := fun k : Addr × (Int × Int) => V.ref k.1) p.symm ks (by rw [← e1, List.map_map] <;> rfl)
  refine ⟨ks'.map (·.1), ks'.map (·.2), by rw [e4, List.map_map] <;> rfl, ?_, by rw [← e2]; exact p'.map _⟩
  have h4 : ∀ k ∈ ks', H k.1 = some (.tup [.int k.2.1, .int k.2.2]) := fun k hk => e3 k (p'.mem_iff.mp hk)
  clear p' e4
  induction ks' with
  | nil => exact .nil
  | cons k ks' ih => exact .cons (h4 k (List.mem_cons_self ..)) (ih fun z hz => h4 z (List.mem_cons_of_mem _ hz))
theorem ints_lay : ∀ ns : List Int, PyData.canLayAll0 (ns.map PyData.int) = true
  | [] => by simp [PyData.canLayAll0]
  | b :: bs => by simp [PyData.canLayAll0, PyData.canLay0, ints_lay bs]
theorem ints_depth : ∀ bs : List Int, PyData.depthAll (bs.map PyData.int) ≤ 1
  | [] => by simp [PyData.depthAll]
  | b :: bs => by
    have h := ints_depth bs
    simp only [List.map_cons, PyData.depthAll, PyData.depth]
    omega
theorem ints_shapedL (bs : List Int) : SeqAt.shaped (.list (bs.map PyData.int)) = true := by
  have h := ints_depth bs
  unfold SeqAt.shaped
  rw [Bool.and_eq_true]
  refine ⟨by simp only [PyData.canLay0]; exact ints_lay bs, decide_eq_true ?_⟩
  simp only [PyData.depth]
  omega
theorem dp_ints {K : PySem.W.Frag} {H : Hp} : ∀ bs : List Int, DpAll K H (bs.map V.int) (bs.map PyData.int)
  | [] => .nil
  | b :: bs => .cons (.int b) (dp_ints bs)
def sp_C_first_works (K : PySem.W.Frag) : Sp := fun vs H Q _ => ∃ (a : Addr) (c : CalD), vs = [.ref a] ∧ CalAt K H a c ∧ CalOk c ∧ HasWork c ∧ ∀ (p : Addr) (xs : List Int) H', Same H H' → H' p = some (.lst (xs.map V.int)) → H p = none → xs ≠ [] → Q (.ref p) H'
def sp_C_init (K : PySem.W.Frag) : Sp := fun vs H Q _ => ∃ (a dx ay ar ah : Addr) (bs hs : List Addr) (c : CalD), vs = [.ref a, .ref ay, .int c.w, .int c.f, .ref ar, .ref ah] ∧ H a = some (.ins (cC K) dx []) ∧
  H ay = some (.lst (bs.map V.ref)) ∧ RowsL H bs c.Y ∧ H ar = some (.lst (c.R.map V.int)) ∧ H ah = some (.lst (hs.map V.ref)) ∧ PairsL H hs c.HD ∧ CalOk c ∧ HasWork c ∧ ∀ H', SX a H H' → CalAt K H' a c → Q .non H'
section
variable {P : Program} {w : World} {K : PySem.W.Frag} {mg : Str → Option Value} {base : Heap}
theorem ok_C_first_works (T : Tx K mg) : C8.Met P w K mg base 5 (cC K) "first_works" (sp_C_first_works K) [] := by
  obtain ⟨fd, F⟩ := T.b_C_first_works
  obtain ⟨u1, g1, r1⟩ := T.i_SHORT_PERIOD
  refine metF T.c_C T.m_C_first_works F sc_C_first_works (fun vs H Q E h => ?_) (fun cdv A outer s H vs Q E hr h => ?_)
  · obtain ⟨a, c, rfl, _⟩ := h
    rfl
  · obtain ⟨a, c, rfl, A1, ok, hw, k⟩ := h
    obtain ⟨dx, fs, ha, hf⟩ := A1.ob
    have nd := sc_C_first_works.nd
    refine ⟨_, pss_cons (ps_par (i := 1) (j := 2) rfl nd rfl rfl (by decide) rfl rfl (pa_cons (pe_pr (ok_C_period T) hr (by decide) (pv 0)) (pa_cons (pe_lst pa_nil) pa_nil)) (by rfl))
      (pss_cons (ps_for PassesOwn.never rfl (pi_range1 (by rfl) T.z_range (pa_cons (pv 1) pa_nil)) (pg_name (i := 3) nd rfl (.inl rfl))
        (pss_one (ps_if (pt_val (C8.pe_mt (ok_C_is_work T) hr (by decide) (pv 0) (pa_cons (pv 3) pa_nil)))
          (pss_cons (ps_expr (pe_bm PySem.F.plainAttrs_list PySem.F.slot_list_append PySem.F.type_list_append mt_append (pv 2) (pa_cons (pv 3) pa_nil)))
            (pss_one (ps_if (pt_cmpR op_gt (pv 1) (pe_glob (by rfl) g1 r1) (nomark _)) (pss_one (ps_ret (pv 2))) pss_nil))) pss_nil)))
      (pss_one (ps_ret (pv 2)))), ?_⟩
    have hp := ok.per2
    refine ⟨_, rfl, a, dx, fs, rfl, ha, a, c, rfl, A1, (by show 0 ≤ sizeLine; decide), fun l hl => ⟨_, _, rfl, ?_⟩⟩
    have s1 := same_new (o := .lst []) hl
    refine ⟨_, rfl, _, rfl, (by omega), (by omega), ?_⟩
    refine for_range (lo := 0) (n := c.per) (fun i σ H' => Same H H' ∧ (∃ xs : List Int, H' l = some (.lst (xs.map V.int)) ∧ xs.length ≤ i ∧ ((∃ d : Nat, d < i ∧ c.isRest d = false) → xs ≠ [])) ∧ ∃ v, σ = [some (.ref a), some (.int c.per), some (.ref l), v])
      ⟨s1, ⟨[], upd_same, Nat.zero_le _, fun ⟨d, h, _⟩ => absurd h (Nat.not_lt_zero _)⟩, _, rfl⟩ ?_ ?_
    · rintro i σ H' hi ⟨sm, ⟨xs, hx, hlx, hne⟩, v, rfl⟩
      have e0 : (0 : Int) + (i : Int) = (i : Int) := by omega
      rw [e0]
      refine ⟨_, rfl, a, dx, fs, rfl, sm _ _ ha, hf.no _ (by decide +kernel), _, rfl, a, c, _, rfl, A1.same sm, ok, fun H2 s2 => ⟨_, rfl, ?_⟩⟩
      refine ite2 (fun hb => ?_) (fun hb => ?_)
      · refine ⟨_, rfl, .inl ⟨rfl, _, SqL.of (s2 _ _ hx)⟩, _, rfl, l, _, _, rfl, rfl, s2 _ _ hx, by rw [List.length_map]; exact small1000 (by omega), ?_⟩
        refine ⟨_, rfl, _, _, rfl, rfl, _, rfl, ifF (by omega) ⟨same_upd (sm.trans s2) hl, ⟨xs ++ [(i : Int)], by rw [List.map_append]; exact upd_same, by simp; omega, fun _ => by simp⟩, _, rfl⟩⟩
      · refine ⟨sm.trans s2, ⟨xs, s2 _ _ hx, by omega, fun ⟨d, hd, hr⟩ => ?_⟩, _, rfl⟩
        rcases Nat.lt_or_ge d i with h1 | h1
        · exact hne ⟨d, h1, hr⟩
        · obtain rfl : d = i := by omega
          rw [hr] at hb
          exact absurd rfl hb
    · rintro σ H' ⟨sm, ⟨xs, hx, hlx, hne⟩, v, rfl⟩
      obtain ⟨d, h1, h2⟩ := hw
      exact ⟨_, rfl, k l xs H' sm hx hl (hne ⟨d, h1, h2⟩)⟩
end
end K5

set_option Elab.async false
set_option linter.all false
set_option maxRecDepth 100000
set_option maxHeartbeats 4000000
/-! Walks 12: the calendar's maker, its walk. -/
namespace K5
open PySem PySem.Spec PyProof.Rows L2
theorem call_tupleK {X : Cx} (K : PySem.W.Frag) (h : X.K = K := by rfl) : CallR X (.type "tuple") (fun xs H Q => ∃ p ys, xs = [.ref p] ∧ ((SqL K H p ys ∧ ∀ l, H l = none → Q (.ref l) (upd H l (.tup ys))) ∨ (SqT K H p ys ∧ Q (.ref p) H))) := h ▸ call_tuple_of
theorem SX.get {a C dx : Addr} {fs : List (Str × V)} {H H' : Hp} (sx : SX a H H') (ha : H a = some (.ins C dx fs)) {b : Addr} {u : HO} (hu : ∀ C d f, u ≠ .ins C d f) (e : H b = some u) : H' b = some u := sx b u (fun z => by
  subst z
  rw [ha] at e
  exact hu _ _ _ (Option.some.inj e).symm) e
theorem SX.tup {a C dx : Addr} {fs : List (Str × V)} {H H' : Hp} (sx : SX a H H') (ha : H a = some (.ins C dx fs)) {b : Addr} {xs : List V} (e : H b = some (.tup xs)) : H' b = some (.tup xs) := sx.get ha (by intro _ _ _ z; cases z) e
theorem SX.lst {a C dx : Addr} {fs : List (Str × V)} {H H' : Hp} (sx : SX a H H') (ha : H a = some (.ins C dx fs)) {b : Addr} {xs : List V} (e : H b = some (.lst xs)) : H' b = some (.lst xs) := sx.get ha (by intro _ _ _ z; cases z) e
theorem CalF.works {H : Hp} {fs : List (Str × V)} {c : CalD} {v : V} (h : CalF H fs c) : CalF H (putF "works" v fs) c := by
  have e : ∀ m : Str, m ≠ "works" → gl (putF "works" v fs) m = gl fs m := fun m h => lk_ne h
  obtain ⟨⟨p1, b1, a1, a2, a3⟩, dw, bg, ⟨p2, r2, e1, e2, e3⟩, ⟨p3, b3, h3, f1, f2, f3, f4⟩, ⟨p4, l1, l2⟩, ⟨p5, s1, s2⟩, tn, no⟩ := h
  exact ⟨⟨p1, b1, (e _ (by decide +kernel)).trans a1, a2, a3⟩, (e _ (by decide +kernel)).trans dw, (e _ (by decide +kernel)).trans bg, ⟨p2, r2, (e _ (by decide +kernel)).trans e1, e2, e3⟩, ⟨p3, b3, h3, (e _ (by decide +kernel)).trans f1, f2, f3, f4⟩, ⟨p4, (e _ (by decide +kernel)).trans l1, l2⟩, ⟨p5, (e _ (by decide +kernel)).trans s1, s2⟩, (e _ (by decide +kernel)).trans tn,
    fun m hm => (e m (fun z => hm (by rw [z]; decide +kernel))).trans (no m hm)⟩
theorem CalF.sx {a C dx : Addr} {gs : List (Str × V)} {H H' : Hp} {fs : List (Str × V)} {c : CalD} (h : CalF H fs c) (ha : H a = some (.ins C dx gs)) (s : SX a H H') : CalF H' fs c := by
  obtain ⟨⟨p1, b1, a1, a2, a3⟩, dw, bg, ⟨p2, r2, e1, e2, e3⟩, ⟨p3, b3, h3, f1, f2, f3, f4⟩, ⟨p4, l1, l2⟩, ⟨p5, s1, s2⟩, tn, no⟩ := h
  exact ⟨⟨p1, b1, a1, s.tup ha a2, Paired.same (fun _ _ q => s.tup ha q) a3⟩, dw, bg, ⟨p2, r2, e1, s.tup ha e2, e3⟩, ⟨p3, b3, h3, f1, s.tup ha f2, Paired.same (fun _ _ q => s.tup ha q) f3, f4⟩, ⟨p4, l1, s.lst ha l2⟩, ⟨p5, s1, s.lst ha s2⟩, tn, no⟩
theorem r_len {c : CalD} (ok : CalOk c) : c.R.length ≤ 6 := by
  have h := List.Nodup.length_le_of_subset (l₂ := [0, 1, 2, 3, 4, 5]) ok.rnd (fun r hr => by
    have h1 := ok.rin r hr
    have h2 := ok.w2
    have h3 : r = 0 ∨ r = 1 ∨ r = 2 ∨ r = 3 ∨ r = 4 ∨ r = 5 := by omega
    simpa using h3)
  simpa using h
section
variable {P : Program} {w : World} {K : PySem.W.Frag} {mg : Str → Option Value} {base : Heap}
theorem ok_C_init (T : Tx K mg) : ∃ fd : FuncData, FunD K "__init__" "Calendar.__init__" (defArgs s_C_init) (defBody s_C_init) (defScope s_C_init) [.int 7] [("first", .int 0)] (He.ma K (He.ga K "Calendar") "__init__") fd ∧
    FnOk P w K mg base CX0 6 (He.ma K (He.ga K "Calendar") "__init__") fd ["self", "years", "week", "first", "rest", "holidays"] (sp_C_init K) := by
  obtain ⟨fd, F⟩ := T.b_C_init
  obtain ⟨u1, g1, r1⟩ := T.i_MAX_WEEK
  obtain ⟨u2, g2, r2⟩ := T.i_MAX_PERIOD
  refine ⟨fd, F, F.ok sc_C_init (fun vs H Q E h => ?_) (fun cdv A outer s H vs Q E hr h => ?_)⟩
  · obtain ⟨a, dx, ay, ar, ah, bs, hs, c, rfl, _⟩ := h
    rfl
  · obtain ⟨a, dx, ay, ar, ah, bs, hs, c, rfl, ha, hay, hY, har, hah, hHD, ok, hw, k⟩ := h
    have nd := sc_C_init.nd
    refine ⟨_, pss_cons (ps_if (pt_not (pt_val (C8.pe_c (ok_are_years T) hr (by decide) (by rfl) (pa_cons (pv 1) pa_nil)))) (pss_one ps_never) pss_nil)
      (pss_cons (ps_if (pt_not (pt_val (C8.pe_c (ok_is_between T) hr (by decide) (by rfl) (pa_cons (pv 2) (pa_cons pe_int (pa_cons (pe_glob (by rfl) g1 r1) pa_nil)))))) (pss_one ps_never) pss_nil)
      (pss_cons (ps_if (pt_not (pt_val (C8.pe_c (ok_is_between T) hr (by decide) (by rfl) (pa_cons (pv 3) (pa_cons pe_int (pa_cons (pe_op op_sub (pv 2) pe_int) pa_nil)))))) (pss_one ps_never) pss_nil)
      (pss_cons (ps_if (pt_not (pt_val (C8.pe_c (ok_are_weekdays T) hr (by decide) (by rfl) (pa_cons (pv 4) (pa_cons (pv 2) pa_nil))))) (pss_one ps_never) pss_nil)
      (pss_cons (ps_if (pt_not (pt_val (C8.pe_c (ok_are_holidays T) hr (by decide) (by rfl) (pa_cons (pv 5) (pa_cons (pe_callB call_len_seq (by rfl) T.z_len bLen (pa_cons (pe_ix ix_list (pv 1) pe_int (fun _ _ => rfl)) pa_nil)) pa_nil))))) (pss_one ps_never) pss_nil)
      (pss_cons (ps_fld (pv 0) (pe_callTy call_tuple_of (by rfl) T.z_tuple bT (pa_cons (pe_lc (own := [("year", 6)]) (g := gName 6) (tt := tYes) rfl nd (pi_list (pv 1)) (blkOk_by (own := [("year", 6)]) (N := n_C_init) (sc := defScope s_C_init) (by decide +kernel)) (fun _ _ _ _ _ => pg_name (i := 6) nd rfl (Or.inl rfl)) (fun _ _ _ _ _ => pts_nil)
          (fun _ _ _ _ _ => pe_callTy (call_tupleK K) (by rfl) T.z_tuple bT (pa_cons (pv 6) pa_nil))) pa_nil)) rfl)
      (pss_cons (ps_asg (pe_tup (pa_cons (pv 2) (pa_cons (pv 3) pa_nil))) (pg_tup (by rfl) (pgs_cons (pg_fld (pv 0)) (pgs_cons (pg_fld (pv 0)) pgs_nil))))
      (pss_cons (ps_asg (pe_tup (pa_cons (pe_callTy call_tuple_of (by rfl) T.z_tuple bT (pa_cons (pe_callB cr_sorted (by rfl) T.z_sorted (by decide +kernel) (pa_cons (pv 4) pa_nil)) pa_nil)) (pa_cons (pe_callTy call_tuple_of (by rfl) T.z_tuple bT (pa_cons (pe_callB cr_sortedP (by rfl) T.z_sorted (by decide +kernel) (pa_cons (pv 5) pa_nil)) pa_nil)) pa_nil)))
          (pg_tup (by rfl) (pgs_cons (pg_fld (pv 0)) (pgs_cons (pg_fld (pv 0)) pgs_nil))))
      (pss_cons (ps_fld (pv 0) (pe_lc2 (own := [("year", 6), ("days", 7)]) (vs1 := [7]) (wi1 := iList K (tVar 6)) (g := gName 6) (tt := tYes) (g1 := gName 7) (tt1 := tYes) rfl nd (pi_list (pv 1)) (blkOk_by (own := [("year", 6), ("days", 7)]) (N := n_C_init) (sc := defScope s_C_init) (by decide +kernel)) (by decide)
          (fun _ _ _ _ _ => pg_name (i := 6) nd rfl (Or.inl rfl)) (fun _ _ _ _ _ => pts_nil) (fun _ _ _ _ _ => pi_list (pv 6)) (fun _ _ _ _ _ => pg_name (i := 7) nd rfl (Or.inl rfl)) (fun _ _ _ _ _ => pts_nil) (fun _ _ _ _ _ => pv 7)) rfl)
      (pss_cons (ps_fld (pv 0) (C8.pe_c (ok_month_starts T) hr (by decide) (by rfl) (pa_cons (pe_fld (pv 0) rfl) pa_nil)) rfl)
      (pss_cons (ps_fld (pv 0) (C8.pe_c (ok_lcm T) hr (by decide) (by rfl) (pa_cons (pe_ix ix_list (pe_fld (pv 0) rfl) (pe_un un_neg pe_int) (fun _ _ => rfl)) (pa_cons (pv 2) pa_nil))) rfl)
      (pss_cons (ps_if (pt_cmpR op_gt (pe_pr (ok_C_period T) hr (by decide) (pv 0)) (pe_glob (by rfl) g2 r2) (nomark _)) (pss_one ps_never) pss_nil)
      (pss_cons (ps_fld (pv 0) (C8.pe_mt0 (ok_C_first_works T) hr (by decide) (pv 0)) rfl)
      (pss_one (ps_if (pt_cmpR (op_eqD hr.units) (pe_fld (pv 0) rfl) (pe_lst pa_nil) (nomark _)) (pss_one ps_never) pss_nil)))))))))))))), ?_⟩
    have keep : ∀ {b : Addr} {u : HO} {H' : Hp}, SX a H H' → (∀ C d f, u ≠ .ins C d f) → H b = some u → H' b = some u := fun {b u H'} sx hu e => sx b u (fun z => by
      subst z
      rw [ha] at e
      exact hu _ _ _ (Option.some.inj e).symm) e
    have kayL : ∀ {H' : Hp}, SX a H H' → H' ay = some (.lst (bs.map V.ref)) := fun sx => keep sx (fun _ _ _ z => nomatch z) hay
    have karL : ∀ {H' : Hp}, SX a H H' → H' ar = some (.lst (c.R.map V.int)) := fun sx => keep sx (fun _ _ _ z => nomatch z) har
    have kahL : ∀ {H' : Hp}, SX a H H' → H' ah = some (.lst (hs.map V.ref)) := fun sx => keep sx (fun _ _ _ z => nomatch z) hah
    have kY : ∀ {H' : Hp}, SX a H H' → RowsL H' bs c.Y := fun sx => Paired.same (fun _ _ q => keep sx (by intro _ _ _ z; cases z) q) hY
    have kHD : ∀ {H' : Hp}, SX a H H' → PairsL H' hs c.HD := fun sx => Paired.same (fun _ _ q => keep sx (by intro _ _ _ z; cases z) q) hHD
    have hRl : c.R.length ≤ 6 := r_len ok
    have hbl := hY.length
    have y1 := ok.y1
    have y2 := ok.y2
    have m1 := ok.m1
    have m2 := ok.m2
    have w1 := ok.w1
    have w2 := ok.w2
    -- the tests of the arguments
    refine ⟨_, rfl, ay, bs, c.Y, c.M, rfl, hay, hY, ok.y1, ok.y2, ok.m1, ok.m2, ok.rows, ok.days, fun H1 s1 => ⟨true, rfl, iteF ?_⟩⟩
    have x1 : SX a H H1 := .of s1
    refine ⟨_, rfl, c.w, 1, 10, rfl, true, by rw [decide_eq_true (show (1 : Int) ≤ c.w ∧ c.w ≤ 10 by omega)], iteF ?_⟩
    refine ⟨_, rfl, _, rfl, _, _, rfl, rfl, c.f, 0, c.w - 1, rfl, true, by rw [decide_eq_true (show (0 : Int) ≤ c.f ∧ c.f ≤ c.w - 1 by have := ok.f1; have := ok.f2; omega)], iteF ?_⟩
    refine ⟨_, rfl, _, rfl, ar, c.R, c.w, rfl, karL x1, by omega, ok.rnd, ok.rin, fun H2 s2 => ⟨true, rfl, iteF ?_⟩⟩
    have x2 : SX a H H2 := .of (s1.trans s2)
    obtain ⟨b0, hb0⟩ : ∃ b0, bs[0]? = some b0 := ⟨_, List.getElem?_eq_getElem (by omega)⟩
    obtain ⟨yy, e1, e2⟩ := paired_at (kY x2) 0 b0 hb0
    have hyl : yy.length = c.M := ok.rows yy (List.mem_of_getElem? e1)
    refine ⟨_, rfl, _, rfl, ay, _, _, _, rfl, rfl, SqL.of (kayL x2), at_of (j := 0) rfl (by rw [List.getElem?_map, hb0] <;> rfl), b0, _, rfl, .inl (SqL.of e2), ah, hs, c.HD, _, rfl, kahL x2, kHD x2, (by have := ok.h2; omega), ok.hnd, (fun h hh => by
      obtain ⟨h1, h2, h3, h4⟩ := ok.hin h hh
      rw [List.length_map, hyl]
      exact ⟨h1, h2, h3, h4⟩), fun H3 s3 => ⟨true, rfl, iteF ?_⟩⟩
    have s13 := (s1.trans s2).trans s3
    have x3 : SX a H H3 := .of s13
    -- all_years
    refine ⟨_, rfl, ay, rfl, ⟨_, SqL.of (kayL x3)⟩, fun D hD => ?_⟩
    refine lc_list (K := K) (a := ay) (xs := bs.map V.ref) (fun i H' => Same H3 H' ∧ ∃ bs', H' D = some (.lst (bs'.map V.ref)) ∧ Paired (fun (b : Addr) (y : List Int) => H' b = some (.tup (y.map V.int))) bs' (c.Y.take i)) ⟨same_new hD, [], upd_same, .nil⟩ (fun i H' _ q => SqL.of (kayL (x3.trans (.of q.1)))) ?_ ?_
    · rintro i x H' hx ⟨sm, bs', hb, hp⟩
      obtain ⟨b, eb, rfl⟩ := ref_at hx
      obtain ⟨y, ey1, ey2⟩ := paired_at (kY (x3.trans (.of sm))) i b eb
      have hi : i < c.Y.length := (List.getElem?_eq_some_iff.mp ey1).1
      have hl := hp.length
      rw [List.length_take] at hl
      refine ⟨rfl, _, rfl, b, _, rfl, .inl ⟨SqL.of ey2, fun l hl2 => ⟨_, same_new hl2 _ _ hb, by rw [List.length_map]; exact small1000 (by omega), same_upd (sm.trans (same_new hl2)) hD, bs' ++ [l], by rw [List.map_append]; exact upd_same, ?_⟩⟩⟩
      rw [List.take_succ, ey1]
      have hne : ∀ {q : Addr} {z : List V}, upd H' l (.tup (y.map V.int)) q = some (.tup z) → upd (upd H' l (.tup (y.map V.int))) D (.lst (bs'.map V.ref ++ [V.ref l])) q = some (.tup z) := fun {q z} e => by
        rw [upd_ne (ne_of e (same_new hl2 _ _ hb) (by intro z; cases z))]
        exact e
      exact Paired.snoc (hne upd_same) (Paired.same (fun _ _ q => hne (same_new hl2 _ _ q)) hp)
    rintro H4 ⟨s4, bs', hbs', hp4⟩
    have x4 : SX a H H4 := .of (s13.trans s4)
    have ha4 : H4 a = some (.ins (cC K) dx []) := (s13.trans s4) _ _ ha
    rw [List.length_map, hbl, List.take_length] at hp4
    refine ⟨D, _, rfl, .inl ⟨SqL.of hbs', fun l5 hl5 => ?_⟩⟩
    have ha5 := same_new (o := .tup (bs'.map V.ref)) hl5 _ _ ha4
    refine ⟨_, rfl, a, _, dx, _, rfl, ha5, T.c_C, T.n_C_all_years, (by show 0 < 1000; decide), ?_⟩
    have st5 : SX a H (upd (upd H4 l5 (.tup (bs'.map V.ref))) a (.ins (cC K) dx (putF "all_years" (.ref l5) []))) := (x4.trans (.of (same_new hl5))).trans .put
    have ay5 : (upd (upd H4 l5 (.tup (bs'.map V.ref))) a (.ins (cC K) dx (putF "all_years" (.ref l5) []))) l5 = some (.tup (bs'.map V.ref)) := by
      rw [upd_ne (ne_of upd_same ha5 (by intro z; cases z))]
      exact upd_same
    have ayp5 : Paired (fun (b : Addr) (y : List Int) => (upd (upd H4 l5 (.tup (bs'.map V.ref))) a (.ins (cC K) dx (putF "all_years" (.ref l5) []))) b = some (.tup (y.map V.int))) bs' c.Y := Paired.same (fun b y q => by
      have q1 := same_new (o := .tup (bs'.map V.ref)) hl5 _ _ q
      rw [upd_ne (ne_of q1 ha5 (by intro z; cases z))]
      exact q1) hp4
    have hs5 : (upd (upd H4 l5 (.tup (bs'.map V.ref))) a (.ins (cC K) dx (putF "all_years" (.ref l5) []))) a = some (.ins (cC K) dx (putF "all_years" (.ref l5) [])) := upd_same
    generalize upd (upd H4 l5 (.tup (bs'.map V.ref))) a (.ins (cC K) dx (putF "all_years" (.ref l5) [])) = H5 at st5 ay5 ayp5 hs5 ⊢
    have nk : ∀ {H' : Hp} {b : Addr} {u : HO}, SX a H5 H' → (∀ C d f, u ≠ .ins C d f) → H5 b = some u → H' b = some u := fun {H' b u} sx hu e => sx b u (fun z => by
      subst z
      rw [hs5] at e
      exact hu _ _ _ (Option.some.inj e).symm) e
    -- week, first
    refine ⟨_, rfl, _, rfl, (by show 2 ≤ sizeLine; decide), fun t6 ht6 => ⟨t6, _, rfl, SqT.of upd_same, rfl, ?_⟩⟩
    have x6 : SX a H5 (upd H5 t6 (.tup [.int c.w, .int c.f])) := .of (same_new ht6)
    refine ⟨_, _, rfl, _, rfl, a, _, dx, _, rfl, same_new ht6 _ _ hs5, T.c_C, T.n_C_days_of_week, (by show 1 < 1000; decide), _, _, rfl, _, rfl, a, _, dx, _, rfl, upd_same, T.c_C, T.n_C_begins, (by show 2 < 1000; decide), rfl, ?_⟩
    have x7 := (x6.trans (.put (o := .ins (cC K) dx (putF "days_of_week" (.int c.w) (putF "all_years" (.ref l5) []))))).trans (.put (o := .ins (cC K) dx (putF "begins" (.int c.f) (putF "days_of_week" (.int c.w) (putF "all_years" (.ref l5) [])))))
    have hs7 : (upd (upd (upd H5 t6 (.tup [.int c.w, .int c.f])) a (.ins (cC K) dx (putF "days_of_week" (.int c.w) (putF "all_years" (.ref l5) [])))) a (.ins (cC K) dx (putF "begins" (.int c.f) (putF "days_of_week" (.int c.w) (putF "all_years" (.ref l5) []))))) a = some (.ins (cC K) dx (putF "begins" (.int c.f) (putF "days_of_week" (.int c.w) (putF "all_years" (.ref l5) [])))) := upd_same
    generalize upd (upd (upd H5 t6 (.tup [.int c.w, .int c.f])) a (.ins (cC K) dx (putF "days_of_week" (.int c.w) (putF "all_years" (.ref l5) [])))) a (.ins (cC K) dx (putF "begins" (.int c.f) (putF "days_of_week" (.int c.w) (putF "all_years" (.ref l5) [])))) = H7 at x7 hs7 ⊢
    -- rest, holidays
    have st7 := st5.trans x7
    refine ⟨_, rfl, ar, c.R, rfl, SqL.of (karL st7), by omega, fun R' p8 perm8 _ hp8 => ⟨p8, _, rfl, .inl ⟨SqL.of upd_same, fun l8 hl8 => ?_⟩⟩⟩
    have s8 := (same_new (o := .lst (R'.map V.int)) hp8).trans (same_new (o := .tup (R'.map V.int)) hl8)
    have r8 : (upd (upd H7 p8 (.lst (R'.map V.int))) l8 (.tup (R'.map V.int))) l8 = some (.tup (R'.map V.int)) := upd_same
    generalize upd (upd H7 p8 (.lst (R'.map V.int))) l8 (.tup (R'.map V.int)) = H8 at s8 r8 ⊢
    have st8 := st7.trans (.of s8)
    refine ⟨_, rfl, ah, _, rfl, SqL.of (kahL st8), (fun x hx => by
      obtain ⟨j, hj, ej⟩ := List.getElem_of_mem hx
      obtain ⟨b, eb, rfl⟩ := ref_at ((List.getElem?_eq_getElem hj).trans (congrArg some ej))
      obtain ⟨hh, _, ehh⟩ := paired_at (kHD st8) j b eb
      exact ⟨b, _, _, rfl, ehh⟩), fun ys p9 perm9 hp9 => ⟨p9, _, rfl, .inl ⟨SqL.of upd_same, fun l9 hl9 => ?_⟩⟩⟩
    obtain ⟨hs', HD', rfl, hPD, hperm⟩ := pairs_perm (kHD st8) perm9
    have s9 := (same_new (o := .lst (hs'.map V.ref)) hp9).trans (same_new (o := .tup (hs'.map V.ref)) hl9)
    have r9 : (upd (upd H8 p9 (.lst (hs'.map V.ref))) l9 (.tup (hs'.map V.ref))) l9 = some (.tup (hs'.map V.ref)) := upd_same
    generalize upd (upd H8 p9 (.lst (hs'.map V.ref))) l9 (.tup (hs'.map V.ref)) = H9 at s9 r9 ⊢
    refine ⟨(by show 2 ≤ sizeLine; decide), fun t10 ht10 => ⟨t10, _, rfl, SqT.of upd_same, rfl, ?_⟩⟩
    have s10 := same_new (o := .tup [.ref l8, .ref l9]) ht10
    refine ⟨_, _, rfl, _, rfl, a, _, dx, _, rfl, s10 _ _ (s9 _ _ (s8 _ _ hs7)), T.c_C, T.n_C_rests, (by show 3 < 1000; decide), _, _, rfl, _, rfl, a, _, dx, _, rfl, upd_same, T.c_C, T.n_C_free_days, (by show 4 < 1000; decide), rfl, ?_⟩
    have hs8 := s8 _ _ hs7
    have hs9 := s9 _ _ hs8
    have x11 : SX a H9 (upd (upd (upd H9 t10 (.tup [.ref l8, .ref l9])) a (.ins (cC K) dx (putF "rests" (.ref l8) (putF "begins" (.int c.f) (putF "days_of_week" (.int c.w) (putF "all_years" (.ref l5) [])))))) a (.ins (cC K) dx (putF "free_days" (.ref l9) (putF "rests" (.ref l8) (putF "begins" (.int c.f) (putF "days_of_week" (.int c.w) (putF "all_years" (.ref l5) []))))))) := ((SX.of s10).trans .put).trans .put
    have hs11 : (upd (upd (upd H9 t10 (.tup [.ref l8, .ref l9])) a (.ins (cC K) dx (putF "rests" (.ref l8) (putF "begins" (.int c.f) (putF "days_of_week" (.int c.w) (putF "all_years" (.ref l5) [])))))) a (.ins (cC K) dx (putF "free_days" (.ref l9) (putF "rests" (.ref l8) (putF "begins" (.int c.f) (putF "days_of_week" (.int c.w) (putF "all_years" (.ref l5) []))))))) a = some _ := upd_same
    generalize upd (upd (upd H9 t10 (.tup [.ref l8, .ref l9])) a (.ins (cC K) dx (putF "rests" (.ref l8) (putF "begins" (.int c.f) (putF "days_of_week" (.int c.w) (putF "all_years" (.ref l5) [])))))) a (.ins (cC K) dx (putF "free_days" (.ref l9) (putF "rests" (.ref l8) (putF "begins" (.int c.f) (putF "days_of_week" (.int c.w) (putF "all_years" (.ref l5) [])))))) = H11 at x11 hs11 ⊢
    have x911 := (SX.of s9).trans x11
    have st11 := (st8.trans (.of s9)).trans x11
    have e8 := x911.tup hs8 r8
    have e9 := x11.tup hs9 r9
    have e9p : PairsL H11 hs' HD' := Paired.same (fun _ _ q => x911.tup hs8 q) hPD
    have x5_11 := ((x7.trans (.of s8)).trans (.of s9)).trans x11
    have e5 := x5_11.tup hs5 ay5
    have e5p : Paired (fun (b : Addr) (y : List Int) => H11 b = some (.tup (y.map V.int))) bs' c.Y := Paired.same (fun _ _ q => x5_11.tup hs5 q) ayp5
    clear x911 r8 r9 hPD ayp5 ay5 hs8 hs9 hs7 x7 s8 s9 s10 st8 st7 x5_11
    -- lengths
    refine ⟨_, rfl, ay, rfl, ⟨_, SqL.of (kayL st11)⟩, fun D hD => ?_⟩
    refine out_list (K := K) (a := ay) (xs := bs.map V.ref) (fun i H' => Same H11 H' ∧ H' D = some (.lst ((c.Y.take i).flatten.map V.int))) ⟨same_new hD, upd_same⟩ (fun i H' q => SqL.of (kayL (st11.trans (.of q.1)))) ?_ ?_
    · rintro i x H' hx ⟨sm, hb⟩
      obtain ⟨b, eb, rfl⟩ := ref_at hx
      obtain ⟨y, ey1, ey2⟩ := paired_at (kY (st11.trans (.of sm))) i b eb
      have hi : i < c.Y.length := (List.getElem?_eq_some_iff.mp ey1).1
      have hfl : ∀ Y : List (List Int), (∀ y ∈ Y, y.length = c.M) → Y.flatten.length = Y.length * c.M := by
        intro Y
        induction Y with
        | nil => intro _; simp
        | cons y Y ih =>
          intro hy
          rw [List.flatten_cons, List.length_append, ih fun z hz => hy z (List.mem_cons_of_mem _ hz), hy y (List.mem_cons_self ..), List.length_cons, Nat.succ_mul]
          omega
      have hf1 : (c.Y.take i).flatten.length ≤ 28 := by
        rw [hfl _ fun z hz => ok.rows z (List.mem_of_mem_take hz), List.length_take]
        exact Nat.mul_le_mul (show min i c.Y.length ≤ 2 by omega) ok.m2
      have hyl2 : y.length ≤ 14 := by rw [ok.rows y (List.mem_of_getElem? ey1)]; exact ok.m2
      refine ⟨rfl, _, rfl, b, rfl, ⟨_, SqL.of ey2⟩, ?_⟩
      refine out_list (K := K) (a := b) (xs := y.map V.int) (fun j H2 => Same H11 H2 ∧ H2 b = some (.lst (y.map V.int)) ∧ H2 D = some (.lst (((c.Y.take i).flatten ++ y.take j).map V.int))) ⟨sm, ey2, by rw [List.take_zero, List.append_nil]; exact hb⟩ (fun j H2 q => SqL.of q.2.1) ?_ ?_
      · rintro j z H2 hz ⟨sm2, h4, hb2⟩
        obtain ⟨d, hd1, rfl⟩ := int_at hz
        have hj : j < y.length := (List.getElem?_eq_some_iff.mp hd1).1
        refine ⟨rfl, _, rfl, _, hb2, by rw [List.length_map, List.length_append, List.length_take]; exact small1000 (by omega), same_upd sm2 hD, ?_, ?_⟩
        · have q0 := kY st11
          obtain ⟨y', q1, q2⟩ := paired_at q0 i b eb
          have hbD : b ≠ D := ne_of_none q2 hD
          rw [upd_ne hbD]
          exact h4
        · refine upd_same.trans ?_
          rw [List.take_succ, hd1, List.map_append, List.map_append, List.map_append, List.append_assoc] <;> rfl
      · rintro H2 ⟨sm2, h4, hb2⟩
        refine ⟨sm2, ?_⟩
        rw [List.length_map, List.take_length] at hb2
        rw [List.take_succ, ey1, List.flatten_append]
        show H2 D = some (HO.lst (((c.Y.take i).flatten ++ [y].flatten).map V.int))
        rw [show [y].flatten = y by simp]
        exact hb2
    rintro H12 ⟨s12, hD12⟩
    rw [List.length_map, hbl, List.take_length] at hD12
    refine ⟨_, rfl, a, _, dx, _, rfl, s12 _ _ hs11, T.c_C, T.n_C_lengths, (by show 5 < 1000; decide), ?_⟩
    have x13 : SX a H12 (upd H12 a (.ins (cC K) dx (putF "lengths" (.ref D) (putF "free_days" (.ref l9) (putF "rests" (.ref l8) (putF "begins" (.int c.f) (putF "days_of_week" (.int c.w) (putF "all_years" (.ref l5) [])))))))) := .put
    have hs13 : upd H12 a (.ins (cC K) dx (putF "lengths" (.ref D) (putF "free_days" (.ref l9) (putF "rests" (.ref l8) (putF "begins" (.int c.f) (putF "days_of_week" (.int c.w) (putF "all_years" (.ref l5) []))))))) a = some _ := upd_same
    generalize upd H12 a (.ins (cC K) dx (putF "lengths" (.ref D) (putF "free_days" (.ref l9) (putF "rests" (.ref l8) (putF "begins" (.int c.f) (putF "days_of_week" (.int c.w) (putF "all_years" (.ref l5) []))))))) = H13 at x13 hs13 ⊢
    have hD13 := x13.lst (s12 _ _ hs11) hD12
    -- starts
    have hln2 := ok.ln2
    refine ⟨_, rfl, a, _, dx, _, _, rfl, hs13, T.c_C, T.n_C_lengths, lk_same, D, c.ls, rfl, hD13, by omega, fun p14 H14 s14 hp14 => ?_⟩
    refine ⟨_, rfl, a, _, dx, _, rfl, s14 _ _ hs13, T.c_C, T.n_C_starts, (by show 6 < 1000; decide), ?_⟩
    have x15 : SX a H14 (upd H14 a (.ins (cC K) dx (putF "starts" (.ref p14) (putF "lengths" (.ref D) (putF "free_days" (.ref l9) (putF "rests" (.ref l8) (putF "begins" (.int c.f) (putF "days_of_week" (.int c.w) (putF "all_years" (.ref l5) []))))))))) := .put
    have hs15 : upd H14 a (.ins (cC K) dx (putF "starts" (.ref p14) (putF "lengths" (.ref D) (putF "free_days" (.ref l9) (putF "rests" (.ref l8) (putF "begins" (.int c.f) (putF "days_of_week" (.int c.w) (putF "all_years" (.ref l5) [])))))))) a = some _ := upd_same
    generalize upd H14 a (.ins (cC K) dx (putF "starts" (.ref p14) (putF "lengths" (.ref D) (putF "free_days" (.ref l9) (putF "rests" (.ref l8) (putF "begins" (.int c.f) (putF "days_of_week" (.int c.w) (putF "all_years" (.ref l5) [])))))))) = H15 at x15 hs15 ⊢
    have hst15 := x15.lst (s14 _ _ hs13) hp14
    -- turn
    have hS := ok.s
    have hS1 := ok.s1
    refine ⟨_, rfl, a, _, dx, _, _, rfl, hs15, T.c_C, T.n_C_starts, lk_same, _, rfl, p14, _, _, _, rfl, rfl, SqL.of hst15, starts_last, _, rfl, c.S.toNat, c.w.toNat, (by rw [Int.toNat_of_nonneg (show 0 ≤ c.S by omega), Int.toNat_of_nonneg (show 0 ≤ c.w by omega)] <;> rfl), by omega, by omega, by omega, by omega, ?_⟩
    refine ⟨_, rfl, a, _, dx, _, rfl, hs15, T.c_C, T.n_C_turn, (by show 7 < 1000; decide), ?_⟩
    have x16 : SX a H15 (upd H15 a (.ins (cC K) dx (putF "turn" (.int ((Nat.lcm c.S.toNat c.w.toNat : Nat) : Int)) (putF "starts" (.ref p14) (putF "lengths" (.ref D) (putF "free_days" (.ref l9) (putF "rests" (.ref l8) (putF "begins" (.int c.f) (putF "days_of_week" (.int c.w) (putF "all_years" (.ref l5) [])))))))))) := .put
    have hs16 : upd H15 a (.ins (cC K) dx (putF "turn" (.int ((Nat.lcm c.S.toNat c.w.toNat : Nat) : Int)) (putF "starts" (.ref p14) (putF "lengths" (.ref D) (putF "free_days" (.ref l9) (putF "rests" (.ref l8) (putF "begins" (.int c.f) (putF "days_of_week" (.int c.w) (putF "all_years" (.ref l5) []))))))))) a = some _ := upd_same
    generalize upd H15 a (.ins (cC K) dx (putF "turn" (.int ((Nat.lcm c.S.toNat c.w.toNat : Nat) : Int)) (putF "starts" (.ref p14) (putF "lengths" (.ref D) (putF "free_days" (.ref l9) (putF "rests" (.ref l8) (putF "begins" (.int c.f) (putF "days_of_week" (.int c.w) (putF "all_years" (.ref l5) []))))))))) = H16 at x16 hs16 ⊢
    have xx : SX a H11 H16 := ((((SX.of s12).trans x13).trans (.of s14)).trans x15).trans x16
    have A16 : CalF H16 (putF "turn" (.int ((Nat.lcm c.S.toNat c.w.toNat : Nat) : Int)) (putF "starts" (.ref p14) (putF "lengths" (.ref D) (putF "free_days" (.ref l9) (putF "rests" (.ref l8) (putF "begins" (.int c.f) (putF "days_of_week" (.int c.w) (putF "all_years" (.ref l5) [])))))))) c := by
      refine ⟨⟨l5, bs', by rfl, xx.tup hs11 e5, Paired.same (fun _ _ q => xx.tup hs11 q) e5p⟩, by rfl, by rfl, ⟨l8, R', by rfl, xx.tup hs11 e8, perm8⟩, ⟨l9, hs', HD', by rfl, xx.tup hs11 e9, Paired.same (fun _ _ q => xx.tup hs11 q) e9p, hperm⟩, ⟨D, by rfl, ?_⟩, ⟨p14, by rfl, x16.lst hs15 hst15⟩, by rfl, fun m hm => ?_⟩
      · exact (((SX.of s14).trans x15).trans x16).lst hs13 hD13
      · have nx : ∀ y, y ∈ calNames → m ≠ y := fun y hy z => hm (z ▸ hy)
        show List.lookup m _ = none
        rw [lk_ne (nx "turn" (by decide +kernel)), lk_ne (nx "starts" (by decide +kernel)), lk_ne (nx "lengths" (by decide +kernel)), lk_ne (nx "free_days" (by decide +kernel)), lk_ne (nx "rests" (by decide +kernel)), lk_ne (nx "begins" (by decide +kernel)), lk_ne (nx "days_of_week" (by decide +kernel)), lk_ne (nx "all_years" (by decide +kernel))] <;> rfl
    have A16c : CalAt K H16 a c := ⟨dx, _, hs16, A16⟩
    have hp2 := ok.per2
    refine ⟨_, rfl, a, dx, _, rfl, hs16, a, c, rfl, A16c, _, _, rfl, rfl, _, rfl, ifF (by omega) ?_⟩
    refine ⟨_, rfl, a, dx, _, rfl, hs16, A16.no _ (by decide +kernel), a, c, rfl, A16c, ok, hw, fun p17 xs17 H17 s17 hp17 hn17 hne => ?_⟩
    refine ⟨_, rfl, a, _, dx, _, rfl, s17 _ _ hs16, T.c_C, T.n_C_works, (by show 8 < 1000; decide), ?_⟩
    have hpa : p17 ≠ a := ne_of hp17 (s17 _ _ hs16) (by intro z; cases z)
    have x18 : SX a H17 (upd H17 a (.ins (cC K) dx (putF "works" (.ref p17) (putF "turn" (.int ((Nat.lcm c.S.toNat c.w.toNat : Nat) : Int)) (putF "starts" (.ref p14) (putF "lengths" (.ref D) (putF "free_days" (.ref l9) (putF "rests" (.ref l8) (putF "begins" (.int c.f) (putF "days_of_week" (.int c.w) (putF "all_years" (.ref l5) []))))))))))) := .put
    have hs18 : upd H17 a (.ins (cC K) dx (putF "works" (.ref p17) (putF "turn" (.int ((Nat.lcm c.S.toNat c.w.toNat : Nat) : Int)) (putF "starts" (.ref p14) (putF "lengths" (.ref D) (putF "free_days" (.ref l9) (putF "rests" (.ref l8) (putF "begins" (.int c.f) (putF "days_of_week" (.int c.w) (putF "all_years" (.ref l5) [])))))))))) a = some _ := upd_same
    generalize upd H17 a (.ins (cC K) dx (putF "works" (.ref p17) (putF "turn" (.int ((Nat.lcm c.S.toNat c.w.toNat : Nat) : Int)) (putF "starts" (.ref p14) (putF "lengths" (.ref D) (putF "free_days" (.ref l9) (putF "rests" (.ref l8) (putF "begins" (.int c.f) (putF "days_of_week" (.int c.w) (putF "all_years" (.ref l5) [])))))))))) = H18 at x18 hs18 ⊢
    have A18 : CalF H18 _ c := (A16.same s17).works (v := .ref p17) |> fun q => CalF.sx q (s17 _ _ hs16) x18
    refine ⟨_, rfl, a, _, dx, _, _, rfl, hs18, T.c_C, T.n_C_works, lk_same, (by decide), fun q hq => ?_⟩
    have s19 := same_new (o := .lst []) hq
    refine ⟨_, _, .lst (SqL.of (s19 _ _ (x18.lst (s17 _ _ hs16) hp17))) (dp_ints xs17), .lst (SqL.of upd_same) .nil, ints_shapedL xs17, by decide +kernel, _, rfl, ?_⟩
    have e0 : PyData.eqv (.list (xs17.map PyData.int)) (.list []) = false := by
      cases xs17 with
      | nil => exact absurd rfl hne
      | cons x xs => simp [PyData.eqv, PyData.eqvAll]
    rw [e0]
    refine iteF ?_
    have sx : SX a H _ := ((((st11.trans xx).trans (.of s17)).trans x18).trans (.of s19))
    exact k _ sx ⟨dx, _, s19 _ _ hs18, A18.same s19⟩
end
end K5

set_option Elab.async false
set_option linter.all false
set_option maxRecDepth 100000
set_option maxHeartbeats 4000000
/-! Mathematics 2: numbers of texts, the law's reader of words as steps. -/
namespace K5
open PySem PySem.Spec PyProof.Rows L2
/-! ### numbers -/
def dgs (x : Str) : Str := if cutS x none (some 1) = "-" then cutS x (some 1) none else x
def digC (c : Nat) : Bool := decide (c ∈ (Str.ofString "0123456789").cps.toList)
/-- as the program and the law ask it: the text is a number -/
def numB (x : Str) : Bool := decide (1 ≤ (dgs x).length) && (decide ((dgs x).length ≤ 12) && ((dgs x).cps.toList.all digC && (decide (x = "0") || decide ((dgs x).cps.toList.head? ≠ some 48))))
def numT (x : Str) : Option Int := if numB x = true then PySem.intText? x else none
theorem digC_iff (c : Nat) : digC c = true → 48 ≤ c ∧ c ≤ 57 := by
  intro h
  have h' := of_decide_eq_true h
  have e : (Str.ofString "0123456789").cps.toList = [48, 49, 50, 51, 52, 53, 54, 55, 56, 57] := by decide +kernel
  rw [e] at h'
  simp at h'
  omega
theorem cut_from (x : Str) : cutS x (some 1) none = _root_.SX.S (x.cps.toList.drop 1) := by
  rw [C8.cutS_slice]
  have h := _root_.SX.slice_from (a := x.cps.toList) (i := 1) (by decide)
  rw [_root_.SX.S_tl] at h
  exact h
theorem cut_to (x : Str) : cutS x none (some 1) = _root_.SX.S (x.cps.toList.take 1) := by
  rw [C8.cutS_slice]
  have h := _root_.SX.slice_to (a := x.cps.toList) (i := 1) (by decide)
  rw [_root_.SX.S_tl] at h
  exact h
theorem dgs_len (x : Str) : (dgs x).length ≤ x.length := by
  unfold dgs
  split
  · rw [cut_from, _root_.SX.S_len, List.length_drop]
    show x.cps.toList.length - 1 ≤ x.length
    rw [Array.length_toList]
    exact Nat.sub_le _ _
  · exact Nat.le_refl _
theorem num_some {x : Str} (h : numB x = true) (hl : x.length ≤ 100000) : ∃ n, PySem.intText? x = some n ∧ x.length ≤ 640 := by
  unfold numB at h
  obtain ⟨h1, h⟩ := Bool.and_eq_true_iff.mp h
  obtain ⟨h2, h⟩ := Bool.and_eq_true_iff.mp h
  obtain ⟨h3, _⟩ := Bool.and_eq_true_iff.mp h
  have l1 := of_decide_eq_true h1
  have l2 := of_decide_eq_true h2
  have ad : PySem.NumText.AllDigits (dgs x).cps.toList := fun c hc => digC_iff c (List.all_eq_true.mp h3 c hc)
  unfold dgs at l1 l2 ad
  split at l1
  · rename_i hm
    rw [if_pos hm] at l2 ad
    rw [cut_to] at hm
    rw [cut_from] at ad l1 l2
    rw [_root_.SX.S_len] at l1 l2
    have ad' : PySem.NumText.AllDigits (x.cps.toList.drop 1) := by
      have e : (_root_.SX.S (x.cps.toList.drop 1)).cps.toList = x.cps.toList.drop 1 := by simp [_root_.SX.S]
      rw [e] at ad
      exact ad
    have e1 : x.cps.toList.take 1 = [45] := _root_.SX.S_inj (hm.trans (by decide +kernel))
    have e2 : x.cps.toList = 45 :: x.cps.toList.drop 1 := by
      rw [← List.take_append_drop 1 x.cps.toList, e1]
      simp
    have hx : x.length = x.cps.toList.length := by rw [Array.length_toList] <;> rfl
    have l3 : x.cps.toList.length ≤ 13 := by
      rw [List.length_drop] at l2
      omega
    exact ⟨_, PySem.intText_neg e2 ad' (by intro z; rw [z] at l1; simp at l1) (by omega), by omega⟩
  · rename_i hm
    rw [if_neg hm] at l2 ad
    have hx : x.length = x.cps.toList.length := by rw [Array.length_toList] <;> rfl
    exact ⟨_, PySem.intText_digits ad (by intro z; rw [hx, z] at l1; simp at l1) (by omega), by omega⟩
/-! ### the law's reading, word by word -/
structure FS where
  d : Nat
  o : Bool
  ks : List Str
def argR (c : CalD) (k x : Str) : Bool := match numT x with
  | none => false
  | some n => if k = "weekday" then decide (0 ≤ n) && decide (n < c.w) else if k = "month" then decide (0 < n) && decide (n ≤ c.M) else decide (n ≠ 0) && (decide (-40 ≤ n) && decide (n ≤ 40))
def headsOf (x : Str) : Option (List Str) := if x = "weekday" then some ["weekday"] else if x = "month" then some ["month"] else if x = "day" then some ["day"] else if x = "nth" then some ["day", "weekday"] else none
def leafW (x : Str) : Bool := decide (x = "all") || (decide (x = "none") || (decide (x = "work") || decide (x = "rest")))
def fstep (c : CalD) (s : FS) (x : Str) : Option FS := match s.ks with
  | k :: r => if argR c k x = true then some ⟨s.d, s.o, r⟩ else none
  | [] => if s.o = true then
      if leafW x = true then some ⟨s.d, false, []⟩ else match headsOf x with
        | some ks => some ⟨s.d, false, ks⟩
        | none => if x = "(" ∧ s.d < 6 then some ⟨s.d + 1, true, []⟩ else if x = "not" then some ⟨s.d, true, []⟩ else none
    else if x = "and" ∨ x = "or" then some ⟨s.d, true, []⟩ else if x = ")" ∧ 0 < s.d then some ⟨s.d - 1, false, []⟩ else none
def fopen (s : FS) : Bool := s.o || (!s.ks.isEmpty || decide (0 < s.d))
def fw (c : CalD) : FS → List Str → Nat → Option Nat
  | s, [], i => if fopen s = true then some i else none
  | s, x :: xs, i => match fstep c s x with
    | none => some i
    | some s' => fw c s' xs (i + 1)
def fwA (c : CalD) (ws : List Str) (i : Nat) (s : FS) : Option Nat := fw c s (ws.drop i) i
theorem drop_of {ws : List Str} {i : Nat} {x : Str} (h : ws[i]? = some x) : ws.drop i = x :: ws.drop (i + 1) := by
  obtain ⟨hi, e⟩ := List.getElem?_eq_some_iff.mp h
  rw [List.drop_eq_getElem_cons hi, e]
theorem fwA_step {c : CalD} {ws : List Str} {i : Nat} {x : Str} {s s' : FS} (h : ws[i]? = some x) (e : fstep c s x = some s') : fwA c ws i s = fwA c ws (i + 1) s' := by
  unfold fwA
  rw [drop_of h]
  show (match fstep c s x with
    | none => some i
    | some s' => fw c s' (ws.drop (i + 1)) (i + 1)) = _
  rw [e]
theorem fwA_bad {c : CalD} {ws : List Str} {i : Nat} {x : Str} {s : FS} (h : ws[i]? = some x) (e : fstep c s x = none) : fwA c ws i s = some i := by
  unfold fwA
  rw [drop_of h]
  show (match fstep c s x with
    | none => some i
    | some s' => fw c s' (ws.drop (i + 1)) (i + 1)) = _
  rw [e]
theorem fwA_end {c : CalD} {ws : List Str} {s : FS} (e : fopen s = true) : fwA c ws ws.length s = some ws.length := by
  unfold fwA
  rw [List.drop_length]
  show (if fopen s = true then some ws.length else none) = _
  rw [if_pos e]
theorem fwA_none {c : CalD} {ws : List Str} {s : FS} (e : fopen s = false) : fwA c ws ws.length s = none := by
  unfold fwA
  rw [List.drop_length]
  show (if fopen s = true then some ws.length else none) = _
  rw [e, if_neg Bool.false_ne_true]
/-- a state's word is wrong, or there is none -/
theorem fwA_stop {c : CalD} {ws : List Str} {i : Nat} {s : FS} (hi : i ≤ ws.length) (ho : fopen s = true) (h : ∀ x, ws[i]? = some x → fstep c s x = none) : fwA c ws i s = some i := by
  rcases Nat.lt_or_ge i ws.length with h1 | h1
  · exact fwA_bad (List.getElem?_eq_getElem h1) (h _ (List.getElem?_eq_getElem h1))
  · obtain rfl : i = ws.length := by omega
    exact fwA_end ho
end K5

set_option Elab.async false
set_option linter.all false
set_option maxRecDepth 100000
set_option maxHeartbeats 4000000
/-! Walks 13: numbers in texts. -/
namespace K5
open PySem PySem.Spec PyProof.Rows L2
def ovI : Option Int → V
  | none => .non
  | some n => .int n
theorem out_str {z : Str} {H0 : Hp} {Qd : Hp → Prop} {G : V → Hp → (Hp → Prop) → Prop} (Pv : Nat → Hp → Prop) (h0 : Pv 0 H0) (hs : ∀ i c H, z.cps.toList[i]? = some c → Pv i H → G (.str ⟨#[c]⟩) H (Pv (i + 1))) (hd : ∀ H, Pv z.cps.toList.length H → Qd H) :
    ∃ W : Nat → Nat → Hp → Prop, (∃ m, W 0 m H0) ∧ ∀ i m H, W i m H → ((Its z).stop i H ∧ Qd H) ∨ ((Its z).go i H ∧ ∃ Nx : Hp → Prop, (∀ H', Nx H' → ∃ m', m' < m ∧ W (i + 1) m' H') ∧ ∀ x H', (Its z).yld i H x H' → G x H' Nx) := by
  have hl : z.cps.toList.length = z.cps.size := Array.length_toList
  refine ⟨fun i m H => m = z.cps.size - i ∧ i ≤ z.cps.size ∧ Pv i H, ⟨_, rfl, Nat.zero_le _, h0⟩, ?_⟩
  rintro i m H ⟨rfl, hi, p⟩
  by_cases c : i < z.cps.size
  · refine .inr ⟨c, Pv (i + 1), fun H' q => ⟨z.cps.size - (i + 1), by omega, rfl, c, q⟩, ?_⟩
    rintro x H' ⟨rfl, d, e, rfl⟩
    exact hs i d H' (by rw [Array.getElem?_toList]; exact e) p
  · have e : i = z.cps.size := by omega
    subst e
    exact .inl ⟨Nat.le_refl _, hd H (by rw [hl]; exact p)⟩
theorem one_zero (c : Nat) : decide (V.str ⟨#[c]⟩ = V.str (Str.ofString "0")) = decide (c = 48) := by
  have e : Str.ofString "0" = ⟨#[48]⟩ := by decide +kernel
  rw [e]
  by_cases h : c = 48
  · subst h
    rw [decide_eq_true rfl, decide_eq_true rfl]
  · rw [decide_eq_false h, decide_eq_false]
    intro z
    injection z with z
    injection z with z
    have z2 : [c] = [48] := congrArg Array.toList z
    simp at z2
    exact h z2
def sp_number_in : Sp := fun vs H Q _ => ∃ (x : Str), vs = [.str x, .int 12] ∧ x.length ≤ 100000 ∧ ∀ H', Same H H' → Q (ovI (numT x)) H'
section
variable {P : Program} {w : World} {K : PySem.W.Frag} {mg : Str → Option Value} {base : Heap}
theorem ok_number_in (T : Tx K mg) : C8.Cal P w K mg base 1 "number_in" sp_number_in [] := by
  obtain ⟨fd, F⟩ := T.b_number_in
  obtain ⟨uD, gD, rD⟩ := T.i_DIGITS
  refine calF F T.g_number_in sc_number_in (fun vs H Q E h => ?_) (fun cdv A outer s H vs Q E hr h => ?_)
  · obtain ⟨x, rfl, _⟩ := h
    rfl
  · obtain ⟨x, rfl, hx, k⟩ := h
    have nd := sc_number_in.nd
    refine ⟨_, C8.pss_cut (ps_set (i := 2) nd rfl (Or.inl rfl) (pe_ifExp (pt_cmpR op_eq (pe_slice sl_str (pv 0) po_none (po_some pe_int)) pe_str (nomark _)) (pe_slice sl_str (pv 0) (po_some pe_int) po_none) (pv 0)))
      (pss_cons (ps_if (PW.pt (pw_or (pt_not (pt_chain op_le op_le pe_int (pe_callB call_len_str (by rfl) T.z_len bLen (pa_cons (pv 2) pa_nil)) (pv 1)))
        (pw_or1 (pt_not (pt_val (pe_callB (cr_all rfl) (by rfl) T.z_all bAll (pa_cons (pe_lc (own := [("sign", 3)]) (g := gName 3) (tt := tYes) rfl nd (pi_str (pv 2)) (blkOk_by (own := [("sign", 3)]) (N := n_number_in) (sc := defScope s_number_in) (by decide +kernel)) (fun _ _ _ _ _ => pg_name (i := 3) nd rfl (Or.inl rfl)) (fun _ _ _ _ _ => pts_nil)
          (fun _ _ _ _ _ => pe_cmpR op_in_sign (pv 3) (pe_glob (by rfl) gD rD) (by rfl))) pa_nil))))))) (pss_one (ps_ret pe_non)) pss_nil)
      (pss_one (ps_ret (pe_ifExp (PW.pt (pw_or (pt_cmpR op_eq (pv 0) pe_str (nomark _)) (pw_or1 (pt_cmpR op_ne (pe_ix ix_str (pv 2) pe_int (fun _ _ => rfl)) pe_str (nomark _))))) (pe_callTy call_int_str (by rfl) T.z_int bI (pa_cons (pv 0) pa_nil)) pe_non)))), ?_⟩
    have hsz : sizeLine = 16777216 := sizeLine_eq
    have hdl := dgs_len x
    refine ⟨fun σ H' => σ = [some (V.str x), some (.int 12), some (.str (dgs x)), none] ∧ H' = H, ?_, ?_⟩
    · refine ⟨_, rfl, _, rfl, x, rfl, by omega, rfl, _, rfl, ?_⟩
      by_cases h1 : cutS x none (some 1) = "-"
      · refine cast (congrArg (fun z : Bool => if z = true then _ else _) (decide_eq_true (congrArg V.str h1)).symm) ?_
        refine iteT ⟨_, rfl, _, rfl, x, rfl, by omega, ?_, rfl⟩
        have e : dgs x = cutS x (some 1) none := if_pos h1
        rw [e] <;> rfl
      · have h2 : ¬ V.str (cutS x none (some 1)) = V.str "-" := fun z => h1 (V.str.inj z)
        refine ifF h2 ⟨_, rfl, ?_, rfl⟩
        have e : dgs x = x := if_neg h1
        rw [e] <;> rfl
    rintro σ H' ⟨rfl, rfl⟩
    -- the tests
    have nope : numB x = false → Q .non H' := fun e => by
      have z := k H' (Same.refl H')
      unfold numT at z
      rw [e] at z
      exact z
    refine ⟨_, rfl, _, rfl, by omega, _, _, rfl, rfl, _, rfl, ?_⟩
    by_cases h1 : 1 ≤ (dgs x).length
    · refine ifT (by omega) ⟨_, rfl, _, _, rfl, rfl, _, rfl, ?_⟩
      by_cases h2 : (dgs x).length ≤ 12
      · have e2 : decide (((dgs x).length : Int) ≤ 12) = true := decide_eq_true (by omega)
        rw [e2]
        refine iteF ⟨_, rfl, _, rfl, fun D hD => ?_⟩
        have hlen : (dgs x).cps.toList.length = (dgs x).length := Array.length_toList
        refine out_str (z := dgs x) (fun i H2 => Same H' H2 ∧ H2 D = some (.lst ((((dgs x).cps.toList.take i).map digC).map V.bl))) ⟨same_new hD, upd_same⟩ ?_ ?_
        · rintro i c H2 hc ⟨sm, hb⟩
          have hi : i < (dgs x).cps.toList.length := (List.getElem?_eq_some_iff.mp hc).1
          refine ⟨rfl, _, rfl, _, _, rfl, rfl, _, hb, by rw [List.length_map, List.length_map, List.length_take]; omega, same_upd sm hD, ?_⟩
          rw [List.take_succ, hc, List.map_append, List.map_append]
          exact upd_same
        rintro H2 ⟨sm, hb⟩
        rw [List.take_length] at hb
        refine ⟨D, _, rfl, SqL.of hb, _, rfl, ?_⟩
        have eall : ((dgs x).cps.toList.map digC).all id = (dgs x).cps.toList.all digC := by rw [List.all_map] <;> rfl
        rw [eall]
        have nope2 : numB x = false → Q .non H2 := fun e => by
          have z := k H2 sm
          unfold numT at z
          rw [e] at z
          exact z
        cases h3 : (dgs x).cps.toList.all digC with
        | false => exact iteT (nope2 (by unfold numB; rw [h3]; simp))
        | true =>
          refine iteF ⟨_, rfl, rfl, _, rfl, ?_⟩
          have fin : (decide (x = "0") || decide ((dgs x).cps.toList.head? ≠ some 48)) = true → ∃ a n, [V.str x] = [.str a] ∧ PySem.intText? a = some n ∧ a.length ≤ 640 ∧ Q (.int n) H2 := fun h4 => by
            have hB : numB x = true := by
              unfold numB
              rw [decide_eq_true h1, decide_eq_true h2, h3, h4]
              rfl
            obtain ⟨n, e1, e2⟩ := num_some hB hx
            have z := k H2 sm
            unfold numT at z
            rw [hB, if_pos rfl, e1] at z
            exact ⟨x, n, rfl, e1, e2, z⟩
          by_cases h4 : x = "0"
          · refine ifT (congrArg V.str h4) ⟨_, rfl, fin (by rw [decide_eq_true h4] <;> rfl)⟩
          · refine ifF (fun z => h4 (V.str.inj z)) ?_
            obtain ⟨c, hc⟩ : ∃ c, (dgs x).cps.toList[0]? = some c := ⟨_, List.getElem?_eq_getElem (by omega)⟩
            have hh : (dgs x).cps.toList.head? = some c := by rw [List.head?_eq_getElem?]; exact hc
            refine ⟨_, rfl, dgs x, 0, c, rfl, rfl, by omega, (show atI (dgs x).cps.toList ((0 : Nat) : Int) = some c from atI_nat hc), rfl, _, rfl, ?_⟩
            rw [one_zero]
            by_cases h5 : c = 48
            · rw [decide_eq_true h5]
              refine iteF (nope2 ?_)
              unfold numB
              rw [decide_eq_false h4, hh, h5]
              simp
            · rw [decide_eq_false h5]
              refine iteT ⟨_, rfl, fin ?_⟩
              rw [hh]
              simp [h5]
      · have e2 : decide (((dgs x).length : Int) ≤ 12) = false := decide_eq_false (by omega)
        rw [e2]
        refine iteT (nope ?_)
        unfold numB
        rw [decide_eq_false h2]
        simp
    · refine ifF (by omega) ⟨_, rfl, iteT (nope ?_)⟩
      unfold numB
      rw [decide_eq_false h1]
      simp
end
end K5

set_option Elab.async false
set_option linter.all false
set_option maxRecDepth 100000
set_option maxHeartbeats 4000000
/-! Walks 14: the reader of texts, its small steps. -/
namespace K5
open PySem PySem.Spec PyProof.Rows L2
theorem oexB_ok {K : PySem.W.Frag} {C : Addr} (h : oexB K C = true) : OexC K C ∧ PySem.W.findIn K (.ref C) "__init__" = some (some (.ref (He.ma K C "__init__"))) ∧ PySem.W.typeIn K (.ref (He.ma K C "__init__")) = some (.type "function") := by
  obtain ⟨h1, h⟩ := He.ba h
  obtain ⟨h2, h⟩ := He.ba h
  obtain ⟨h3, h⟩ := He.ba h
  obtain ⟨h4, h⟩ := He.ba h
  obtain ⟨h5, h⟩ := He.ba h
  obtain ⟨h6, h7⟩ := He.ba h
  refine ⟨⟨?_, He.eqO_ok h2, of_decide_eq_true h3, of_decide_eq_true h4, h5⟩, He.eqO_ok h6, of_decide_eq_true h7⟩
  unfold excB at h1
  split at h1
  · rename_i dct cd sl e
    split at h1
    · rename_i D bm a0 a1 a2 a3 n a5 em es
      obtain ⟨q1, h1⟩ := He.ba h1
      obtain ⟨q2, h1⟩ := He.ba h1
      obtain ⟨q3, h1⟩ := He.ba h1
      obtain ⟨q4, q5⟩ := He.ba h1
      have q1 := of_decide_eq_true q1
      have q2 := of_decide_eq_true q2
      have es2 : sl = #[a0, a1, a2, a3, some (.builtin n), a5] := by
        rw [← Array.toArray_toList (xs := sl), es]
      obtain ⟨nm, q, ns, bases, mro, hasDict, slots, subs, ab, col, hasDel⟩ := cd
      simp only at em q3 q4
      subst q1 q2 es2 em
      simp only [Bool.not_eq_true'] at q3
      subst q3 q4
      exact ⟨_, _, _, _, _, _, _, _, _, _, _, _, _, _, _, e, q5⟩
    · cases h1
  · cases h1
abbrev cIT (K : PySem.W.Frag) : Addr := He.ga K "InvalidText"
abbrev cR (K : PySem.W.Frag) : Addr := He.ga K "Reader"
/-! ### defs that may raise, by name -/
structure MetX (P : Program) (w : World) (K : PySem.W.Frag) (mg : Str → Option Value) (base : Heap) (k : Nat) (C : Addr) (m : Str) (sp : Sp) : Prop where
  ex : ∃ (f : Addr) (fd : FuncData) (ps : List Str), Cls K C ∧ Meth K C m f ∧ FnOk P w K mg base (L2.CX P w) k f fd ps sp ∧ L2.Binds K fd ps []
theorem metXF {P : Program} {w : World} {K : PySem.W.Frag} {mg : Str → Option Value} {base : Heap} {m qual : Str} {C f : Addr} {st : Stmt} {fd : FuncData} {N ps : List Str} {k : Nat} {sp : Sp} (c : Cls K C) (me : Meth K C m f) (F : Fun K m qual st f fd ∧ L2.Binds K fd ps []) (S : FnScope N ps (defScope st)) (len : ∀ vs H Q E, sp vs H Q E → vs.length = ps.length)
    (hbody : ∀ (cdv : Value) (A : Around) (outer : List Env) (s : Shared) (H : Hp) (vs : List V) (Q : VK) (E : XK), Room k (A.deeper (envOfC qual (defScope st) s.heap.objs.size f cdv)) → sp vs H Q E →
      ∃ t, PSs (cxOf (L2.CX P w) P w K mg base N qual (defScope st) f cdv A outer s H E) (defBody st) t ∧ t { nx := fun _ H' => Q .non H', rt := Q } (start N vs) H) : MetX P w K mg base (k + 1) C m sp :=
  ⟨f, fd, ps, c, me, F.1.okX S len hbody, F.2⟩
section
variable {X : Cx} {k j : Nat} {C : Addr} {m : Str} {sp : Sp} {E : XK} {o e : Expr} {es : List Expr} {apos pos : Pos} {ta : TE} {t : TA}
theorem pe_mx {pl : Sem Bool} (c : MetX X.prog X.w X.K X.mg X.base k C m sp) (hr : Room j X.A) (hk : k ≤ j) (hx : Passes (L2.CX X.prog X.w) X E) (he : PE X o ta) (ha : PA X (e :: es) t)
    (hst : starEach (e :: es) X.env = (false, eval e X.env) :: starEach es X.env := by rfl) (hpl : (backTo pos (starEach es X.env)).any (·.1) = false := by rfl)
    (ht : eval (.Call (.Attribute o m apos) (e :: es) [] pos) X.env = (do
      let ov ← eval o X.env
      standAt apos.atName
      let (f, first) ← holding [ov] (getMethod ov m pl)
      callWith pos f first (backTo pos (starEach (e :: es) X.env)) (backToKw pos (keywordEach [] X.env))) := by rfl) :
    PE X (.Call (.Attribute o m apos) (e :: es) [] pos) (tMeth C m sp [] E ta t) := by
  obtain ⟨f, fd, ps, c1, c2, F, b⟩ := c.ex
  exact pe_meth he c1 c2 F (hr.mono hk) b .nil hx ha hst hpl ht
theorem pe_mx0 {pl : Sem Bool} (c : MetX X.prog X.w X.K X.mg X.base k C m sp) (hr : Room j X.A) (hk : k ≤ j) (hx : Passes (L2.CX X.prog X.w) X E) (he : PE X o ta)
    (ht : eval (.Call (.Attribute o m apos) [] [] pos) X.env = (do
      let ov ← eval o X.env
      standAt apos.atName
      let (f, first) ← holding [ov] (getMethod ov m pl)
      callWith pos f first (backTo pos (starEach [] X.env)) (backToKw pos (keywordEach [] X.env))) := by rfl) :
    PE X (.Call (.Attribute o m apos) [] [] pos) (tMeth C m sp [] E ta tNil) := by
  obtain ⟨f, fd, ps, c1, c2, F, b⟩ := c.ex
  exact pe_meth0 he c1 c2 F (hr.mono hk) b .nil hx ht
end
/-! ### the reader on the heap -/
structure RP where
  a : Addr
  dx : Addr
  cal : Addr
  wl : Addr
  cu : Addr
  ws : List Str
def rdF (r : RP) (i d : Int) : List (Str × V) := [("guide", .ref r.cal), ("words", .ref r.wl), ("place", .int i), ("depth", .int d), ("many", .int 0), ("with_names", .bl false), ("cuts", .ref r.cu)]
structure RdAt (K : PySem.W.Frag) (H : Hp) (r : RP) (c : CalD) (i d : Nat) : Prop where
  ob : H r.a = some (.ins (cR K) r.dx (rdF r i d))
  wl : H r.wl = some (.lst (r.ws.map V.str))
  ne : r.cal ≠ r.a
  cal : CalAt K H r.cal c
  ok : CalOk c
  len : r.ws.length ≤ 100000
  wlen : ∀ x ∈ r.ws, x.length ≤ 100000
  le : i ≤ r.ws.length
  dle : d ≤ 6
theorem CalAt.sx {K : PySem.W.Frag} {a b C dx : Addr} {gs : List (Str × V)} {H H' : Hp} {c : CalD} (h : CalAt K H b c) (ne : b ≠ a) (ha : H a = some (.ins C dx gs)) (s : SX a H H') : CalAt K H' b c := by
  obtain ⟨d, fs, h1, h2⟩ := h.ob
  exact ⟨d, fs, s b _ ne h1, h2.sx ha s⟩
theorem RdAt.same {K : PySem.W.Frag} {H H' : Hp} {r : RP} {c : CalD} {i d : Nat} (h : RdAt K H r c i d) (s : Same H H') : RdAt K H' r c i d :=
  ⟨s _ _ h.ob, s _ _ h.wl, h.ne, h.cal.same s, h.ok, h.len, h.wlen, h.le, h.dle⟩
theorem RdAt.put {K : PySem.W.Frag} {H : Hp} {r : RP} {c : CalD} {i d i' d' : Nat} (h : RdAt K H r c i d) (hi : i' ≤ r.ws.length) (hd : d' ≤ 6) : RdAt K (upd H r.a (.ins (cR K) r.dx (rdF r i' d'))) r c i' d' :=
  ⟨upd_same, SX.put.lst h.ob h.wl, h.ne, h.cal.sx h.ne h.ob .put, h.ok, h.len, h.wlen, hi, hd⟩
theorem RdAt.word {K : PySem.W.Frag} {H : Hp} {r : RP} {c : CalD} {i d : Nat} (h : RdAt K H r c i d) {x : Str} (hx : r.ws[i]? = some x) : (r.ws.map V.str)[i]? = some (V.str x) := by
  rw [List.getElem?_map, hx] <;> rfl
/-- the way out by an error at a word -/
def Er (K : PySem.W.Frag) (a : Addr) (H : Hp) (E : XK) (k : Nat) : Prop := ∀ (x : Addr) (H' : Hp), SX a H H' → H' x = some (.xd [("index", .int k)]) → E (.ref (cIT K)) (some x) H'
theorem Er.back {K : PySem.W.Frag} {a : Addr} {H H1 : Hp} {E : XK} {k : Nat} (h : Er K a H E k) (s : SX a H H1) : Er K a H1 E k := fun x H' s' e => h x H' (s.trans s') e
def sp_IT_init (K : PySem.W.Frag) : Sp := fun vs H Q _ => ∃ (a : Addr) (v : V), vs = [.ref a, v] ∧ H a = some (exo a (cIT K) none) ∧ ∀ dx, H dx = none → dx ≠ a → Q .non (upd (upd H dx (exd dx [("index", v)])) a (exo a (cIT K) (some dx)))
def sp_R_fail (K : PySem.W.Frag) : Sp := fun vs H Q E => ∃ (r : RP) (c : CalD) (i d : Nat), vs = [.ref r.a] ∧ RdAt K H r c i d ∧ Er K r.a H E i
def sp_R_is_next (K : PySem.W.Frag) : Sp := fun vs H Q _ => ∃ (r : RP) (c : CalD) (i d : Nat) (x : Str), vs = [.ref r.a, .str x] ∧ RdAt K H r c i d ∧ Q (.bl (decide (r.ws[i]? = some x))) H
def sp_R_taken (K : PySem.W.Frag) : Sp := fun vs H Q E => ∃ (r : RP) (c : CalD) (i d : Nat), vs = [.ref r.a] ∧ RdAt K H r c i d ∧ (∀ x H', r.ws[i]? = some x → SX r.a H H' → RdAt K H' r c (i + 1) d → Q (.str x) H') ∧ (i = r.ws.length → Er K r.a H E i)
def sp_R_need (K : PySem.W.Frag) : Sp := fun vs H Q E => ∃ (r : RP) (c : CalD) (i d : Nat) (x : Str), vs = [.ref r.a, .str x] ∧ RdAt K H r c i d ∧ (∀ H', r.ws[i]? = some x → SX r.a H H' → RdAt K H' r c (i + 1) d → Q .non H') ∧ (r.ws[i]? ≠ some x → Er K r.a H E i)
section
variable {P : Program} {w : World} {K : PySem.W.Frag} {mg : Str → Option Value} {base : Heap}
theorem ok_IT_init (T : Tx K mg) : ∃ fd : FuncData, FnOk P w K mg base CX0 1 (He.ma K (cIT K) "__init__") fd ["self", "index"] (sp_IT_init K) ∧ L2.Binds K fd ["self", "index"] [] := by
  obtain ⟨fd, F, b⟩ := T.b_IT_init
  obtain ⟨O, _, _⟩ := oexB_ok (T.exf 0 rfl)
  refine ⟨fd, F.ok sc_IT_init (fun vs H Q E h => ?_) (fun cdv A outer s H vs Q E hr h => ?_), b⟩
  · obtain ⟨a, v, rfl, _⟩ := h
    rfl
  · obtain ⟨a, v, rfl, ha, k⟩ := h
    refine ⟨_, pss_one (ps_ost (pv 0) (pv 1)), ?_⟩
    exact ⟨_, rfl, _, rfl, a, cIT K, rfl, O, T.n_IT_index, .inl ⟨ha, fun dx h1 h2 => k dx h1 h2⟩⟩
theorem ok_R_fail (T : Tx K mg) : MetX P w K mg base 3 (cR K) "fail" (sp_R_fail K) := by
  obtain ⟨fd, F⟩ := T.b_R_fail
  obtain ⟨O, iC, tI⟩ := oexB_ok (T.exf 0 rfl)
  obtain ⟨fdI, FI, bI⟩ := ok_IT_init (P := P) (w := w) (base := base) T
  refine metXF T.c_R T.m_R_fail F sc_R_fail (fun vs H Q E h => ?_) (fun cdv A outer s H vs Q E hr h => ?_)
  · obtain ⟨r, c, i, d, rfl, _⟩ := h
    rfl
  · obtain ⟨r, c, i, d, rfl, R, e⟩ := h
    refine ⟨_, pss_one (ps_raise rfl (takes_of rfl rfl rfl rfl) (pmk_oex O iC tI FI hr bI .nil C8.pass0 (by rfl) T.g_InvalidText (pa_cons (pe_fld (pv 0) rfl) pa_nil))), ?_⟩
    refine ⟨_, rfl, r.a, _, r.dx, _, _, rfl, R.ob, T.c_R, T.n_R_place, rfl, (by show 1 ≤ 1000; decide), fun x hx => ⟨x, _, rfl, upd_same, fun dd h1 h2 => ⟨rfl, dd, [("index", .int (i : Int))], upd_same, ?_, ?_, ?_⟩⟩⟩
    · rw [upd_ne h2]
      exact upd_same
    · rw [upd_ne h2] at h1
      exact h1
    · refine e dd _ (.of fun b u q => ?_) upd_same
      have hbx : b ≠ x := ne_of_none q hx
      have hbd : b ≠ dd := fun z => by
        subst z
        rw [upd_ne h2] at h1
        rw [h1] at q
        cases q
      rw [upd_ne hbd, del_ne hbx, upd_ne hbx, upd_ne hbd, upd_ne hbx]
      exact q
theorem ok_R_is_next (T : Tx K mg) : C8.Met P w K mg base 1 (cR K) "is_next" (sp_R_is_next K) [] := by
  obtain ⟨fd, F⟩ := T.b_R_is_next
  refine metF T.c_R T.m_R_is_next F sc_R_is_next (fun vs H Q E h => ?_) (fun cdv A outer s H vs Q E hr h => ?_)
  · obtain ⟨r, c, i, d, x, rfl, _⟩ := h
    rfl
  · obtain ⟨r, c, i, d, x, rfl, R, k⟩ := h
    refine ⟨_, pss_one (ps_ret (pe_and (pe_cmpR op_lt (pe_fld (pv 0) rfl) (pe_callB call_len_seq (by rfl) T.z_len bLen (pa_cons (pe_fld (pv 0) rfl) pa_nil)) (nomark _)) (pe_one (pe_cmpR op_eq (pe_ix ix_list (pe_fld (pv 0) rfl) (pe_fld (pv 0) rfl) (fun _ _ => rfl)) (pv 1) (nomark _))))), ?_⟩
    refine ⟨_, rfl, r.a, _, r.dx, _, _, rfl, R.ob, T.c_R, T.n_R_place, rfl, _, rfl, r.a, _, r.dx, _, _, rfl, R.ob, T.c_R, T.n_R_words, rfl, r.wl, _, rfl, .inl (SqL.of R.wl), _, _, rfl, rfl, _, rfl, ?_⟩
    rw [List.length_map]
    by_cases h1 : i < r.ws.length
    · obtain ⟨y, hy⟩ : ∃ y, r.ws[i]? = some y := ⟨_, List.getElem?_eq_getElem h1⟩
      refine ifT (by omega) ⟨_, rfl, r.a, _, r.dx, _, _, rfl, R.ob, T.c_R, T.n_R_words, rfl, _, rfl, r.a, _, r.dx, _, _, rfl, R.ob, T.c_R, T.n_R_place, rfl, r.wl, _, _, _, rfl, rfl, SqL.of R.wl, at_of rfl (R.word hy), _, rfl, rfl, ?_⟩
      have e : decide (V.str y = V.str x) = decide (r.ws[i]? = some x) := by
        rw [hy]
        by_cases h2 : y = x
        · rw [decide_eq_true (congrArg V.str h2), decide_eq_true (congrArg some h2)]
        · rw [decide_eq_false (fun z => h2 (V.str.inj z)), decide_eq_false (fun z => h2 (Option.some.inj z))]
      rw [e]
      exact k
    · have e : decide (r.ws[i]? = some x) = false := decide_eq_false fun z => h1 (List.getElem?_eq_some_iff.mp z).1
      rw [e] at k
      exact ifF (by omega) k
theorem ok_R_taken (T : Tx K mg) : MetX P w K mg base 4 (cR K) "taken" (sp_R_taken K) := by
  obtain ⟨fd, F⟩ := T.b_R_taken
  refine metXF T.c_R T.m_R_taken F sc_R_taken (fun vs H Q E h => ?_) (fun cdv A outer s H vs Q E hr h => ?_)
  · obtain ⟨r, c, i, d, rfl, _⟩ := h
    rfl
  · obtain ⟨r, c, i, d, rfl, R, k, e⟩ := h
    refine ⟨_, pss_cons (ps_if (pt_cmpR op_eq (pe_fld (pv 0) rfl) (pe_callB call_len_seq (by rfl) T.z_len bLen (pa_cons (pe_fld (pv 0) rfl) pa_nil)) (nomark _)) (pss_one (ps_expr (pe_mx0 (ok_R_fail T) hr (by decide) (passes_call (takes_of rfl rfl rfl rfl) (fun _ _ _ _ h => h)) (pv 0)))) pss_nil)
      (pss_cons (ps_fldaug (pv 0) pe_int in_add)
      (pss_one (ps_ret (pe_ix ix_list (pe_fld (pv 0) rfl) (pe_op op_sub (pe_fld (pv 0) rfl) pe_int) (fun _ _ => rfl))))), ?_⟩
    refine ⟨_, rfl, r.a, _, r.dx, _, _, rfl, R.ob, T.c_R, T.n_R_place, rfl, _, rfl, r.a, _, r.dx, _, _, rfl, R.ob, T.c_R, T.n_R_words, rfl, r.wl, _, rfl, .inl (SqL.of R.wl), rfl, _, rfl, ?_⟩
    rw [List.length_map]
    have hle := R.le
    by_cases h1 : i = r.ws.length
    · refine ifT (by rw [h1]) ⟨_, rfl, r.a, r.dx, _, rfl, R.ob, rfl, r, c, i, d, rfl, R, e h1⟩
    · refine ifF (fun z => h1 (by have := V.int.inj z; omega)) ?_
      obtain ⟨y, hy⟩ : ∃ y, r.ws[i]? = some y := ⟨_, List.getElem?_eq_getElem (by omega)⟩
      refine ⟨_, rfl, r.a, _, r.dx, _, _, rfl, R.ob, T.c_R, T.n_R_place, rfl, _, _, rfl, rfl, r.dx, _, R.ob, (by show 7 < 1000; decide), ?_⟩
      have R2 := R.put (i' := i + 1) (d' := d) (by omega) R.dle
      exact ⟨_, rfl, r.a, _, r.dx, _, _, rfl, upd_same, T.c_R, T.n_R_words, rfl, _, rfl, r.a, _, r.dx, _, _, rfl, upd_same, T.c_R, T.n_R_place, rfl, _, _, rfl, rfl, r.wl, _, _, _, rfl, rfl, SqL.of R2.wl, at_of (by omega) (R.word hy), k y _ hy .put R2⟩
theorem ok_R_need (T : Tx K mg) : MetX P w K mg base 4 (cR K) "need" (sp_R_need K) := by
  obtain ⟨fd, F⟩ := T.b_R_need
  refine metXF T.c_R T.m_R_need F sc_R_need (fun vs H Q E h => ?_) (fun cdv A outer s H vs Q E hr h => ?_)
  · obtain ⟨r, c, i, d, x, rfl, _⟩ := h
    rfl
  · obtain ⟨r, c, i, d, x, rfl, R, k, e⟩ := h
    refine ⟨_, pss_cons (ps_if (pt_not (pt_val (C8.pe_mt (ok_R_is_next T) hr (by decide) (pv 0) (pa_cons (pv 1) pa_nil)))) (pss_one (ps_expr (pe_mx0 (ok_R_fail T) hr (by decide) (passes_call (takes_of rfl rfl rfl rfl) (fun _ _ _ _ h => h)) (pv 0)))) pss_nil)
      (pss_one (ps_fldaug (pv 0) pe_int in_add)), ?_⟩
    refine ⟨_, rfl, r.a, r.dx, _, rfl, R.ob, rfl, _, rfl, r, c, i, d, x, rfl, R, _, rfl, ?_⟩
    by_cases h1 : r.ws[i]? = some x
    · rw [decide_eq_true h1]
      have hi := (List.getElem?_eq_some_iff.mp h1).1
      refine iteF ⟨_, rfl, r.a, _, r.dx, _, _, rfl, R.ob, T.c_R, T.n_R_place, rfl, _, _, rfl, rfl, r.dx, _, R.ob, (by show 7 < 1000; decide), ?_⟩
      exact k _ h1 .put (R.put (i' := i + 1) (d' := d) (by omega) R.dle)
    · rw [decide_eq_false h1]
      exact iteT ⟨_, rfl, r.a, r.dx, _, rfl, R.ob, rfl, r, c, i, d, rfl, R, e h1⟩
end
end K5

set_option Elab.async false
set_option linter.all false
set_option maxRecDepth 100000
set_option maxHeartbeats 4000000
/-! Walks 15: the reader's numbers, parentheses. -/
namespace K5
open PySem PySem.Spec PyProof.Rows L2
def numAt (ws : List Str) (i : Nat) : Option Int := match ws[i]? with
  | none => none
  | some x => numT x
def okN (lo hi n : Int) : Prop := lo ≤ n ∧ n ≤ hi ∧ ¬ (lo < 0 ∧ n = 0)
def argN (c : CalD) (k : Str) (n : Int) : Bool := if k = "weekday" then decide (0 ≤ n) && decide (n < c.w) else if k = "month" then decide (0 < n) && decide (n ≤ c.M) else decide (n ≠ 0) && (decide (-40 ≤ n) && decide (n ≤ 40))
theorem argR_eq (c : CalD) (k x : Str) : argR c k x = match numT x with
  | none => false
  | some n => argN c k n := rfl
theorem arg_ok {c : CalD} {ws : List Str} {i d : Nat} {o : Bool} {k : Str} {ks : List Str} {n : Int} (h : numAt ws i = some n) (t : argN c k n = true) : fwA c ws i ⟨d, o, k :: ks⟩ = fwA c ws (i + 1) ⟨d, o, ks⟩ := by
  unfold numAt at h
  split at h
  · cases h
  · rename_i x hx
    refine fwA_step hx ?_
    show (if argR c k x = true then _ else _) = _
    rw [argR_eq, h]
    show (if argN c k n = true then _ else _) = _
    rw [t, if_pos rfl]
theorem arg_bad {c : CalD} {ws : List Str} {i d : Nat} {o : Bool} {k : Str} {ks : List Str} (hi : i ≤ ws.length) (h : ∀ n, numAt ws i = some n → argN c k n = false) : fwA c ws i ⟨d, o, k :: ks⟩ = some i := by
  refine fwA_stop hi (by unfold fopen; simp) fun x hx => ?_
  show (if argR c k x = true then _ else _) = _
  rw [argR_eq]
  have e : numAt ws i = numT x := by unfold numAt; rw [hx]
  rw [e] at h
  cases hn : numT x with
  | none => exact if_neg Bool.false_ne_true
  | some n =>
    show (if argN c k n = true then _ else _) = _
    rw [h n hn, if_neg Bool.false_ne_true]
theorem argN_wd {c : CalD} {n : Int} : argN c "weekday" n = true ↔ okN 0 (c.w - 1) n := by
  unfold argN okN
  rw [if_pos rfl]
  simp
  omega
theorem argN_month {c : CalD} {n : Int} : argN c "month" n = true ↔ okN 1 c.M n := by
  unfold argN okN
  rw [if_neg (by decide +kernel), if_pos rfl]
  simp
  omega
theorem argN_day {c : CalD} {n : Int} : argN c "day" n = true ↔ okN (-40) 40 n := by
  unfold argN okN
  rw [if_neg (by decide +kernel), if_neg (by decide +kernel)]
  simp
  omega
def sp_R_read_number (K : PySem.W.Frag) : Sp := fun vs H Q E => ∃ (r : RP) (c : CalD) (i d : Nat), vs = [.ref r.a] ∧ RdAt K H r c i d ∧ (∀ n H', numAt r.ws i = some n → i < r.ws.length → SX r.a H H' → RdAt K H' r c (i + 1) d → Q (.int n) H') ∧ (numAt r.ws i = none → Er K r.a H E i)
def sp_R_bounded (K : PySem.W.Frag) : Sp := fun vs H Q E => ∃ (r : RP) (c : CalD) (i d : Nat) (lo hi : Int), vs = [.ref r.a, .int lo, .int hi] ∧ RdAt K H r c i d ∧ (∀ n H', numAt r.ws i = some n → okN lo hi n → SX r.a H H' → RdAt K H' r c (i + 1) d → Q (.int n) H') ∧ ((∀ n, numAt r.ws i = some n → ¬ okN lo hi n) → Er K r.a H E i)
def sp_R_read_weekday (K : PySem.W.Frag) : Sp := fun vs H Q E => ∃ (r : RP) (c : CalD) (i d : Nat), vs = [.ref r.a] ∧ RdAt K H r c i d ∧ (∀ n H', numAt r.ws i = some n → okN 0 (c.w - 1) n → SX r.a H H' → RdAt K H' r c (i + 1) d → Q (.int n) H') ∧ ((∀ n, numAt r.ws i = some n → ¬ okN 0 (c.w - 1) n) → Er K r.a H E i)
def sp_R_go_in (K : PySem.W.Frag) : Sp := fun vs H Q E => ∃ (r : RP) (c : CalD) (i d : Nat), vs = [.ref r.a] ∧ RdAt K H r c i d ∧ (∀ H', d < 6 → r.ws[i]? = some ("(" : Str) → SX r.a H H' → RdAt K H' r c (i + 1) (d + 1) → Q .non H') ∧ ((d = 6 ∨ r.ws[i]? ≠ some ("(" : Str)) → Er K r.a H E i)
def sp_R_go_out (K : PySem.W.Frag) : Sp := fun vs H Q E => ∃ (r : RP) (c : CalD) (i d : Nat), vs = [.ref r.a] ∧ RdAt K H r c i (d + 1) ∧ (∀ H', r.ws[i]? = some (")" : Str) → SX r.a H H' → RdAt K H' r c (i + 1) d → Q .non H') ∧ (r.ws[i]? ≠ some (")" : Str) → Er K r.a H E i)
section
variable {P : Program} {w : World} {K : PySem.W.Frag} {mg : Str → Option Value} {base : Heap}
theorem ok_R_read_number (T : Tx K mg) : MetX P w K mg base 4 (cR K) "read_number" (sp_R_read_number K) := by
  obtain ⟨fd, F⟩ := T.b_R_read_number
  obtain ⟨u1, g1, r1⟩ := T.i_MOST_DIGITS
  refine metXF T.c_R T.m_R_read_number F sc_R_read_number (fun vs H Q E h => ?_) (fun cdv A outer s H vs Q E hr h => ?_)
  · obtain ⟨r, c, i, d, rfl, _⟩ := h
    rfl
  · obtain ⟨r, c, i, d, rfl, R, k, e⟩ := h
    have nd := sc_R_read_number.nd
    refine ⟨_, C8.pss_cut (ps_set (i := 1) nd rfl (Or.inl rfl) (pe_ifExp (pt_cmpR op_lt (pe_fld (pv 0) rfl) (pe_callB call_len_seq (by rfl) T.z_len bLen (pa_cons (pe_fld (pv 0) rfl) pa_nil)) (nomark _))
        (C8.pe_c (ok_number_in T) hr (by decide) (by rfl) (pa_cons (pe_ix ix_list (pe_fld (pv 0) rfl) (pe_fld (pv 0) rfl) (fun _ _ => rfl)) (pa_cons (pe_glob (by rfl) g1 r1) pa_nil))) pe_non))
      (pss_cons (ps_if (pt_cmp (pc_isN (pv 1))) (pss_one (ps_expr (pe_mx0 (ok_R_fail T) hr (by decide) (passes_call (takes_of rfl rfl rfl rfl) (fun _ _ _ _ h => h)) (pv 0)))) pss_nil)
      (pss_cons (ps_fldaug (pv 0) pe_int in_add)
      (pss_one (ps_ret (pv 1))))), ?_⟩
    refine ⟨fun σ H' => σ = [some (.ref r.a), some (ovI (numAt r.ws i))] ∧ Same H H', ?_, ?_⟩
    · refine ⟨_, rfl, r.a, _, r.dx, _, _, rfl, R.ob, T.c_R, T.n_R_place, rfl, _, rfl, r.a, _, r.dx, _, _, rfl, R.ob, T.c_R, T.n_R_words, rfl, r.wl, _, rfl, .inl (SqL.of R.wl), _, _, rfl, rfl, _, rfl, ?_⟩
      rw [List.length_map]
      by_cases h1 : i < r.ws.length
      · obtain ⟨y, hy⟩ : ∃ y, r.ws[i]? = some y := ⟨_, List.getElem?_eq_getElem h1⟩
        have en : numAt r.ws i = numT y := by unfold numAt; rw [hy]
        refine ifT (by omega) ⟨_, rfl, r.a, _, r.dx, _, _, rfl, R.ob, T.c_R, T.n_R_words, rfl, _, rfl, r.a, _, r.dx, _, _, rfl, R.ob, T.c_R, T.n_R_place, rfl, r.wl, _, _, _, rfl, rfl, SqL.of R.wl, at_of rfl (R.word hy), y, rfl, R.wlen y (List.mem_of_getElem? hy), fun H1 s1 => ⟨?_, s1⟩⟩
        rw [en] <;> rfl
      · have en : numAt r.ws i = none := by
          unfold numAt
          rw [List.getElem?_eq_none (by omega)]
        refine ifF (by omega) ⟨?_, Same.refl H⟩
        rw [en] <;> rfl
    rintro σ H1 ⟨rfl, s1⟩
    have R1 := R.same s1
    cases hn : numAt r.ws i with
    | none =>
      exact ⟨_, rfl, true, rfl, iteT ⟨_, rfl, r.a, r.dx, _, rfl, R1.ob, rfl, r, c, i, d, rfl, R1, (e hn).back (.of s1)⟩⟩
    | some n =>
      have h1 : i < r.ws.length := by
        rcases Nat.lt_or_ge i r.ws.length with h | h
        · exact h
        · unfold numAt at hn
          rw [List.getElem?_eq_none h] at hn
          cases hn
      refine ⟨_, rfl, false, rfl, iteF ⟨_, rfl, r.a, _, r.dx, _, _, rfl, R1.ob, T.c_R, T.n_R_place, rfl, _, _, rfl, rfl, r.dx, _, R1.ob, (by show 7 < 1000; decide), ?_⟩⟩
      exact ⟨_, rfl, k n _ hn h1 ((SX.of s1).trans .put) (R1.put (i' := i + 1) (d' := d) (by omega) R.dle)⟩
theorem ok_R_bounded (T : Tx K mg) : MetX P w K mg base 5 (cR K) "bounded" (sp_R_bounded K) := by
  obtain ⟨fd, F⟩ := T.b_R_bounded
  refine metXF T.c_R T.m_R_bounded F sc_R_bounded (fun vs H Q E h => ?_) (fun cdv A outer s H vs Q E hr h => ?_)
  · obtain ⟨r, c, i, d, lo, hi, rfl, _⟩ := h
    rfl
  · obtain ⟨r, c, i, d, lo, hi, rfl, R, k, e⟩ := h
    have nd := sc_R_bounded.nd
    refine ⟨_, pss_cons (ps_set (i := 3) nd rfl (Or.inl rfl) (pe_mx0 (ok_R_read_number T) hr (by decide) (passes_call (takes_of rfl rfl rfl rfl) (fun _ _ _ _ h => h)) (pv 0)))
      (pss_cons (ps_if (PW.pt (pw_or (pt_not (pt_chain op_le op_le (pv 1) (pv 3) (pv 2))) (pw_or1 (PW.pt (pw_and (pt_cmpR op_lt (pv 1) pe_int (nomark _)) (pw_and1 (pt_cmpR op_eq (pv 3) pe_int (nomark _))))))))
        (pss_cons (ps_fldaug (pv 0) pe_int in_sub) (pss_one (ps_expr (pe_mx0 (ok_R_fail T) hr (by decide) (passes_call (takes_of rfl rfl rfl rfl) (fun _ _ _ _ h => h)) (pv 0))))) pss_nil)
      (pss_one (ps_ret (pv 3)))), ?_⟩
    refine ⟨_, rfl, r.a, r.dx, _, rfl, R.ob, rfl, r, c, i, d, rfl, R, fun n H1 hn hlt s1 R1 => ?_, fun hn => e (fun n h => by rw [hn] at h; cases h)⟩
    have bad : ¬ okN lo hi n → tSeq (sFldAug K (tVar 0) (tC (.int 1)) L2.rSub "place") (tDrop (tMeth (cR K) "fail" (sp_R_fail K) [] E (tVar 0) tNil)) { nx := fun σ' H' => tRet (tVar 3) { nx := fun _ H' => Q .non H', rt := Q } σ' H', rt := Q } [some (.ref r.a), some (.int lo), some (.int hi), some (.int n)] H1 := fun hno => by
      have hle := R1.le
      refine ⟨_, rfl, r.a, _, r.dx, _, _, rfl, R1.ob, T.c_R, T.n_R_place, rfl, _, _, rfl, rfl, r.dx, _, R1.ob, (by show 7 < 1000; decide), ?_⟩
      have R2 := R1.put (i' := i) (d' := d) (by omega) R.dle
      have e2 : (((i + 1 : Nat) : Int) - 1) = (i : Int) := by omega
      refine ⟨_, rfl, r.a, r.dx, rdF r ((i + 1 : Nat) - 1) d, rfl, upd_same, rfl, r, c, i, d, rfl, ?_, ?_⟩
      · show RdAt K (upd H1 r.a (.ins (cR K) r.dx (rdF r (((i + 1 : Nat) : Int) - 1) d))) r c i d
        rw [e2]
        exact R2
      · exact (e fun m hm => by rw [hn] at hm; cases hm; exact hno).back (s1.trans .put)
    refine ⟨_, rfl, _, rfl, _, _, rfl, rfl, _, rfl, ?_⟩
    by_cases h1 : lo ≤ n
    · refine ifT h1 ⟨_, rfl, _, _, rfl, rfl, _, rfl, ?_⟩
      by_cases h2 : n ≤ hi
      · rw [decide_eq_true h2]
        refine iteF ⟨_, rfl, _, _, rfl, rfl, _, rfl, ?_⟩
        by_cases h3 : lo < 0
        · refine ifT h3 ⟨_, rfl, rfl, _, rfl, ?_⟩
          by_cases h4 : n = 0
          · exact ifT (congrArg V.int h4) (bad fun z => z.2.2 ⟨h3, h4⟩)
          · exact ifF (fun z => h4 (V.int.inj z)) ⟨_, rfl, k n H1 hn ⟨h1, h2, fun z => h4 z.2⟩ s1 R1⟩
        · exact ifF h3 (iteF ⟨_, rfl, k n H1 hn ⟨h1, h2, fun z => h3 z.1⟩ s1 R1⟩)
      · rw [decide_eq_false h2]
        exact iteT (bad fun z => h2 z.2.1)
    · exact ifF h1 ⟨_, rfl, iteT (bad fun z => h1 z.1)⟩
end
end K5

set_option Elab.async false
set_option linter.all false
set_option maxRecDepth 100000
set_option maxHeartbeats 4000000
/-! Walks 16: the reader's weekday, parentheses, days and months. -/
namespace K5
open PySem PySem.Spec PyProof.Rows L2
def monthW (x : Str) : Prop := x = "day" ∨ x = "month" ∨ x = "nth"
def sp_R_of_month (K : PySem.W.Frag) : Sp := fun vs H Q E => ∃ (r : RP) (c : CalD) (i d : Nat) (x : Str) (ks : List Str), vs = [.ref r.a, .str x] ∧ RdAt K H r c i d ∧ monthW x ∧ headsOf x = some ks ∧
  (∀ p j H', i ≤ j → SX r.a H H' → RdAt K H' r c j d → PlainC H' p → fwA c r.ws i ⟨d, false, ks⟩ = fwA c r.ws j ⟨d, false, []⟩ → Q (.ref p) H') ∧ (∀ k, fwA c r.ws i ⟨d, false, ks⟩ = some k → Er K r.a H E k)
theorem heads_day : headsOf "day" = some [("day" : Str)] := by decide +kernel
theorem heads_month : headsOf "month" = some [("month" : Str)] := by decide +kernel
theorem heads_nth : headsOf "nth" = some [("day" : Str), ("weekday" : Str)] := by decide +kernel
theorem heads_wd : headsOf "weekday" = some [("weekday" : Str)] := by decide +kernel
section
variable {P : Program} {w : World} {K : PySem.W.Frag} {mg : Str → Option Value} {base : Heap}
theorem ok_R_read_weekday (T : Tx K mg) : MetX P w K mg base 6 (cR K) "read_weekday" (sp_R_read_weekday K) := by
  obtain ⟨fd, F⟩ := T.b_R_read_weekday
  refine metXF T.c_R T.m_R_read_weekday F sc_R_read_weekday (fun vs H Q E h => ?_) (fun cdv A outer s H vs Q E hr h => ?_)
  · obtain ⟨r, c, i, d, rfl, _⟩ := h
    rfl
  · obtain ⟨r, c, i, d, rfl, R, k, e⟩ := h
    obtain ⟨cdx, cfs, hca, hcf⟩ := R.cal.ob
    refine ⟨_, pss_one (ps_ret (pe_mx (ok_R_bounded T) hr (by decide) (passes_call (takes_of rfl rfl rfl rfl) (fun _ _ _ _ h => h)) (pv 0) (pa_cons pe_int (pa_cons (pe_op op_sub (pe_pr (ok_C_week T) hr (by decide) (pe_fld (pv 0) rfl)) pe_int) pa_nil)))), ?_⟩
    exact ⟨_, rfl, r.a, r.dx, _, rfl, R.ob, rfl, _, rfl, r.a, _, r.dx, _, _, rfl, R.ob, T.c_R, T.n_R_guide, rfl, r.cal, cdx, cfs, rfl, hca, r.cal, c, rfl, R.cal, _, _, rfl, rfl, r, c, i, d, 0, c.w - 1, rfl, R, k, e⟩
theorem ok_R_go_in (T : Tx K mg) : MetX P w K mg base 5 (cR K) "go_in" (sp_R_go_in K) := by
  obtain ⟨fd, F⟩ := T.b_R_go_in
  obtain ⟨u1, g1, r1⟩ := T.i_MAX_DEPTH
  refine metXF T.c_R T.m_R_go_in F sc_R_go_in (fun vs H Q E h => ?_) (fun cdv A outer s H vs Q E hr h => ?_)
  · obtain ⟨r, c, i, d, rfl, _⟩ := h
    rfl
  · obtain ⟨r, c, i, d, rfl, R, k, e⟩ := h
    refine ⟨_, pss_cons (ps_if (pt_cmpR op_eq (pe_fld (pv 0) rfl) (pe_glob (by rfl) g1 r1) (nomark _)) (pss_one (ps_expr (pe_mx0 (ok_R_fail T) hr (by decide) (passes_call (takes_of rfl rfl rfl rfl) (fun _ _ _ _ h => h)) (pv 0)))) pss_nil)
      (pss_cons (ps_expr (pe_mx (ok_R_need T) hr (by decide) (passes_call (takes_of rfl rfl rfl rfl) (fun _ _ _ _ h => h)) (pv 0) (pa_cons pe_str pa_nil)))
      (pss_one (ps_fldaug (pv 0) pe_int in_add))), ?_⟩
    refine ⟨_, rfl, r.a, _, r.dx, _, _, rfl, R.ob, T.c_R, T.n_R_depth, rfl, rfl, _, rfl, ?_⟩
    have hd := R.dle
    by_cases h1 : d = 6
    · exact ifT (by rw [h1] <;> rfl) ⟨_, rfl, r.a, r.dx, _, rfl, R.ob, rfl, r, c, i, d, rfl, R, e (.inl h1)⟩
    · refine ifF (fun z => h1 (by have := V.int.inj z; omega)) ⟨_, rfl, r.a, r.dx, _, rfl, R.ob, rfl, r, c, i, d, "(", rfl, R, fun H1 hw s1 R1 => ?_, fun hn => e (.inr hn)⟩
      refine ⟨_, rfl, r.a, _, r.dx, _, _, rfl, R1.ob, T.c_R, T.n_R_depth, rfl, _, _, rfl, rfl, r.dx, _, R1.ob, (by show 7 < 1000; decide), ?_⟩
      exact k _ (by omega) hw (s1.trans .put) (R1.put (i' := i + 1) (d' := d + 1) R1.le (by omega))
theorem ok_R_go_out (T : Tx K mg) : MetX P w K mg base 5 (cR K) "go_out" (sp_R_go_out K) := by
  obtain ⟨fd, F⟩ := T.b_R_go_out
  refine metXF T.c_R T.m_R_go_out F sc_R_go_out (fun vs H Q E h => ?_) (fun cdv A outer s H vs Q E hr h => ?_)
  · obtain ⟨r, c, i, d, rfl, _⟩ := h
    rfl
  · obtain ⟨r, c, i, d, rfl, R, k, e⟩ := h
    refine ⟨_, pss_cons (ps_expr (pe_mx (ok_R_need T) hr (by decide) (passes_call (takes_of rfl rfl rfl rfl) (fun _ _ _ _ h => h)) (pv 0) (pa_cons pe_str pa_nil)))
      (pss_one (ps_fldaug (pv 0) pe_int in_sub)), ?_⟩
    refine ⟨_, rfl, r.a, r.dx, _, rfl, R.ob, rfl, r, c, i, d + 1, ")", rfl, R, fun H1 hw s1 R1 => ?_, e⟩
    refine ⟨_, rfl, r.a, _, r.dx, _, _, rfl, R1.ob, T.c_R, T.n_R_depth, rfl, _, _, rfl, rfl, r.dx, _, R1.ob, (by show 7 < 1000; decide), ?_⟩
    have R2 := R1.put (i' := i + 1) (d' := d) R1.le (by have := R1.dle; omega)
    have e2 : (((d + 1 : Nat) : Int) - 1) = (d : Int) := by omega
    refine k _ hw (s1.trans .put) ?_
    show RdAt K (upd H1 r.a (.ins (cR K) r.dx (rdF r (i + 1 : Nat) (((d + 1 : Nat) : Int) - 1)))) r c (i + 1) d
    rw [e2]
    exact R2
theorem ok_R_of_month (T : Tx K mg) : MetX P w K mg base 7 (cR K) "of_month" (sp_R_of_month K) := by
  obtain ⟨fd, F⟩ := T.b_R_of_month
  obtain ⟨u1, g1, r1⟩ := T.i_MAX_DAYS
  refine metXF T.c_R T.m_R_of_month F sc_R_of_month (fun vs H Q E h => ?_) (fun cdv A outer s H vs Q E hr h => ?_)
  · obtain ⟨r, c, i, d, x, ks, rfl, _⟩ := h
    rfl
  · obtain ⟨r, c, i, d, x, ks, rfl, R, hm, hk, k, e⟩ := h
    obtain ⟨cdx, cfs, hca, hcf⟩ := R.cal.ob
    have nd := sc_R_of_month.nd
    have two : (2 : Nat) ≤ sizeLine := by decide
    have three : (3 : Nat) ≤ sizeLine := by decide
    refine ⟨_, pss_cons (ps_if (pt_cmpR op_eq (pv 1) pe_str (nomark _)) (pss_one (ps_ret (pe_tup (pa_cons (pv 1) (pa_cons (pe_mx (ok_R_bounded T) hr (by decide) (passes_call (takes_of rfl rfl rfl rfl) (fun _ _ _ _ h => h)) (pv 0) (pa_cons pe_int (pa_cons (pe_pr (ok_C_months T) hr (by decide) (pe_fld (pv 0) rfl)) pa_nil))) pa_nil))))) pss_nil)
      (pss_cons (ps_set (i := 2) nd rfl (Or.inl rfl) (pe_mx (ok_R_bounded T) hr (by decide) (passes_call (takes_of rfl rfl rfl rfl) (fun _ _ _ _ h => h)) (pv 0) (pa_cons (pe_un un_neg (pe_glob (by rfl) g1 r1)) (pa_cons (pe_glob (by rfl) g1 r1) pa_nil))))
      (pss_one (ps_ret (pe_ifExp (pt_cmpR op_eq (pv 1) pe_str (nomark _)) (pe_tup (pa_cons (pv 1) (pa_cons (pv 2) pa_nil))) (pe_tup (pa_cons (pv 1) (pa_cons (pv 2) (pa_cons (pe_mx0 (ok_R_read_weekday T) hr (by decide) (passes_call (takes_of rfl rfl rfl rfl) (fun _ _ _ _ h => h)) (pv 0)) pa_nil)))))))), ?_⟩
    have hM := R.ok.m1
    rcases hm with rfl | rfl | rfl
    · -- day
      rw [heads_day] at hk
      cases hk
      refine ⟨_, rfl, rfl, _, rfl, ifF (by decide +kernel) ⟨_, rfl, r.a, r.dx, _, rfl, R.ob, rfl, _, rfl, r, c, i, d, -40, 40, rfl, R, fun n H1 hn hok s1 R1 => ?_, fun hb => e i (arg_bad R.le fun n hn => ?_)⟩⟩
      · refine ⟨_, rfl, rfl, _, rfl, ifT rfl ⟨_, rfl, _, rfl, two, fun p hp => ?_⟩⟩
        have s2 := same_new (o := .tup [.str "day", .int n]) hp
        exact k p (i + 1) _ (by omega) (s1.trans (.of s2)) (R1.same s2) (.day n upd_same) (arg_ok hn (argN_day.mpr hok))
      · have z := hb n hn
        rw [← argN_day (c := c)] at z
        simpa using z
    · -- month
      rw [heads_month] at hk
      cases hk
      refine ⟨_, rfl, rfl, _, rfl, ifT rfl ⟨_, rfl, _, rfl, r.a, r.dx, _, rfl, R.ob, rfl, _, rfl, r.a, _, r.dx, _, _, rfl, R.ob, T.c_R, T.n_R_guide, rfl, r.cal, cdx, cfs, rfl, hca, r.cal, c, rfl, R.cal, R.ok, r, c, i, d, 1, c.M, rfl, R, fun n H1 hn hok s1 R1 => ⟨two, fun p hp => ?_⟩, fun hb => e i (arg_bad R.le fun n hn => ?_)⟩⟩
      · have s2 := same_new (o := .tup [.str "month", .int n]) hp
        exact k p (i + 1) _ (by omega) (s1.trans (.of s2)) (R1.same s2) (.month n upd_same) (arg_ok hn (argN_month.mpr hok))
      · have z := hb n hn
        rw [← argN_month (c := c)] at z
        simpa using z
    · -- nth
      rw [heads_nth] at hk
      cases hk
      refine ⟨_, rfl, rfl, _, rfl, ifF (by decide +kernel) ⟨_, rfl, r.a, r.dx, _, rfl, R.ob, rfl, _, rfl, r, c, i, d, -40, 40, rfl, R, fun n H1 hn hok s1 R1 => ?_, fun hb => e i (arg_bad R.le fun n hn => ?_)⟩⟩
      · have st := arg_ok (c := c) (d := d) (o := false) (ks := ["weekday"]) hn (argN_day.mpr hok)
        refine ⟨_, rfl, rfl, _, rfl, ifF (by decide +kernel) ⟨_, rfl, _, rfl, _, rfl, r.a, r.dx, _, rfl, R1.ob, rfl, r, c, i + 1, d, rfl, R1, fun m H2 hm hok2 s2 R2 => ⟨three, fun p hp => ?_⟩, fun hb => ?_⟩⟩
        · have s3 := same_new (o := .tup [.str "nth", .int n, .int m]) hp
          exact k p (i + 1 + 1) _ (by omega) ((s1.trans s2).trans (.of s3)) (R2.same s3) (.nth n m upd_same) (st.trans (arg_ok hm (argN_wd.mpr hok2)))
        · refine (e (i + 1) (st.trans (arg_bad R1.le fun n hn => ?_))).back s1
          have z := hb n hn
          rw [← argN_wd (c := c)] at z
          simpa using z
      · have z := hb n hn
        rw [← argN_day (c := c)] at z
        simpa using z
end
end K5

set_option Elab.async false
set_option linter.all false
set_option maxRecDepth 100000
set_option maxHeartbeats 4000000
/-! Walks 17: the reader's plain factor. -/
namespace K5
open PySem PySem.Spec PyProof.Rows L2
theorem inV_str (k : Str) (xs : List Str) : inV (.str k) (xs.map V.str) = decide (k ∈ xs) := by
  unfold inV
  rw [List.any_map]
  induction xs with
  | nil => simp
  | cons x xs ih =>
    rw [List.any_cons, ih]
    show ((x == k) || _) = _
    by_cases e : x = k
    · subst e
      simp
    · have e2 : ¬ k = x := fun z => e z.symm
      rw [beq_eq_false_iff_ne.mpr e]
      simp [e2]
def SpP (K : PySem.W.Frag) (N : Nat) (ok0 after : RP → Nat → Prop) (lim : Nat → Prop) : Sp := fun vs H Q E => ∃ (r : RP) (c : CalD) (i d : Nat), vs = [.ref r.a] ∧ RdAt K H r c i d ∧ lim d ∧ ok0 r i ∧
  (∀ v j H', i ≤ j → SX r.a H H' → RdAt K H' r c j d → CondAt H' N v → after r j → fwA c r.ws i ⟨d, true, []⟩ = fwA c r.ws j ⟨d, false, []⟩ → Q v H') ∧ (∀ k, fwA c r.ws i ⟨d, true, []⟩ = some k → Er K r.a H E k)
abbrev spPF (K : PySem.W.Frag) (n : Nat) : Sp := SpP K (3 * n) (fun r i => r.ws[i]? ≠ some ("not" : Str)) (fun _ _ => True) (fun d => 6 ≤ n + d)
abbrev spF (K : PySem.W.Frag) (n : Nat) : Sp := SpP K (3 * n + 1) (fun _ _ => True) (fun _ _ => True) (fun d => 6 ≤ n + d)
abbrev spT (K : PySem.W.Frag) (n : Nat) : Sp := SpP K (3 * n + 2) (fun _ _ => True) (fun r j => r.ws[j]? ≠ some ("and" : Str)) (fun d => 6 ≤ n + d)
abbrev spC (K : PySem.W.Frag) (n : Nat) : Sp := SpP K (3 * n) (fun _ _ => True) (fun r j => r.ws[j]? ≠ some ("and" : Str) ∧ r.ws[j]? ≠ some ("or" : Str)) (fun d => 6 < n + d)
theorem SpP.len {K : PySem.W.Frag} {N : Nat} {ok0 after : RP → Nat → Prop} {lim : Nat → Prop} {vs : List V} {H : Hp} {Q : VK} {E : XK} (h : SpP K N ok0 after lim vs H Q E) : vs.length = ["self"].length := by
  obtain ⟨r, c, i, d, rfl, _⟩ := h
  rfl
/-! ### one word of the law, from an open place -/
theorem fs_open (c : CalD) (d : Nat) (x : Str) : fstep c ⟨d, true, []⟩ x = (if leafW x = true then some ⟨d, false, []⟩ else match headsOf x with
    | some ks => some ⟨d, false, ks⟩
    | none => if x = "(" ∧ d < 6 then some ⟨d + 1, true, []⟩ else if x = "not" then some ⟨d, true, []⟩ else none) := rfl
theorem fs_shut (c : CalD) (d : Nat) (x : Str) : fstep c ⟨d, false, []⟩ x = (if x = "and" ∨ x = "or" then some ⟨d, true, []⟩ else if x = ")" ∧ 0 < d then some ⟨d - 1, false, []⟩ else none) := rfl
theorem st_leaf {c : CalD} {d : Nat} {x : Str} (h : leafW x = true) : fstep c ⟨d, true, []⟩ x = some ⟨d, false, []⟩ := by
  rw [fs_open, if_pos h]
theorem st_head {c : CalD} {d : Nat} {x : Str} {ks : List Str} (h : leafW x = false) (e : headsOf x = some ks) : fstep c ⟨d, true, []⟩ x = some ⟨d, false, ks⟩ := by
  rw [fs_open, h, if_neg Bool.false_ne_true, e]
theorem st_none {c : CalD} {d : Nat} {x : Str} (h : leafW x = false) (e : headsOf x = none) (h1 : x = "(" → d = 6) (h2 : x ≠ "not") (hd : d ≤ 6) : fstep c ⟨d, true, []⟩ x = none := by
  rw [fs_open, h, if_neg Bool.false_ne_true, e]
  show (if x = "(" ∧ d < 6 then some (⟨d + 1, true, []⟩ : FS) else if x = "not" then some ⟨d, true, []⟩ else none) = _
  rw [if_neg (fun z => by have := h1 z.1; omega), if_neg h2]
theorem st_shut {c : CalD} {d : Nat} {x : Str} (h : x = "and" ∨ x = "or") : fstep c ⟨d, false, []⟩ x = some ⟨d, true, []⟩ := by
  rw [fs_shut, if_pos h]
theorem st_close {c : CalD} {d : Nat} : fstep c ⟨d + 1, false, []⟩ ")" = some ⟨d, false, []⟩ := by
  rw [fs_shut, if_neg (by decide +kernel), if_pos ⟨rfl, by omega⟩]
  rfl
theorem st_stray {c : CalD} {d : Nat} {x : Str} (h : ¬ (x = "and" ∨ x = "or")) (h2 : ¬ (x = ")" ∧ 0 < d)) : fstep c ⟨d, false, []⟩ x = none := by
  rw [fs_shut, if_neg h, if_neg h2]
theorem leaf_open : leafW "(" = false := by decide +kernel
theorem heads_open : headsOf "(" = none := by decide +kernel
theorem leaf_not : leafW "not" = false := by decide +kernel
theorem heads_not : headsOf "not" = none := by decide +kernel
theorem st_open {c : CalD} {d : Nat} (hd : d < 6) : fstep c ⟨d, true, []⟩ "(" = some ⟨d + 1, true, []⟩ := by
  rw [fs_open, leaf_open, if_neg Bool.false_ne_true, heads_open]
  exact if_pos ⟨rfl, hd⟩
theorem st_not {c : CalD} {d : Nat} : fstep c ⟨d, true, []⟩ "not" = some ⟨d, true, []⟩ := by
  rw [fs_open, leaf_not, if_neg Bool.false_ne_true, heads_not]
  show (if ("not" : Str) = "(" ∧ d < 6 then some (⟨d + 1, true, []⟩ : FS) else if ("not" : Str) = "not" then some ⟨d, true, []⟩ else none) = _
  rw [if_neg (fun z => absurd z.1 (by decide +kernel)), if_pos rfl]
theorem leaf_iff (x : Str) : leafW x = decide (x ∈ [("all" : Str), "none", "work", "rest"]) := by
  unfold leafW
  by_cases h1 : x = "all"
  · simp [h1]
  · by_cases h2 : x = "none"
    · simp [h2]
    · by_cases h3 : x = "work"
      · simp [h3]
      · simp [h1, h2, h3]
theorem heads_else {x : Str} (h1 : x ≠ "weekday") (h2 : ¬ monthW x) : headsOf x = none := by
  unfold headsOf
  rw [if_neg h1, if_neg (fun z => h2 (.inr (.inl z))), if_neg (fun z => h2 (.inl z)), if_neg (fun z => h2 (.inr (.inr z)))]
theorem heads_some {x : Str} (h : monthW x) : ∃ ks, headsOf x = some ks := by
  rcases h with rfl | rfl | rfl
  · exact ⟨_, heads_day⟩
  · exact ⟨_, heads_month⟩
  · exact ⟨_, heads_nth⟩
theorem CondAt.tups {H H' : Hp} (t : ∀ b xs, H b = some (.tup xs) → H' b = some (.tup xs)) {n : Nat} {v : V} (h : CondAt H n v) : CondAt H' n v := by
  induction h with
  | plain h =>
    refine .plain ?_
    cases h with
    | all h => exact .all (t _ _ h)
    | none h => exact .none (t _ _ h)
    | work h => exact .work (t _ _ h)
    | rest h => exact .rest (t _ _ h)
    | wd k h => exact .wd k (t _ _ h)
    | month k h => exact .month k (t _ _ h)
    | day k h => exact .day k (t _ _ h)
    | nth k j h => exact .nth k j (t _ _ h)
  | not h c ih => exact .not (t _ _ h) ih
  | and h hb hl c ih => exact .and (t _ _ h) (t _ _ hb) hl ih
  | or h hb hl c ih => exact .or (t _ _ h) (t _ _ hb) hl ih
section
variable {P : Program} {w : World} {K : PySem.W.Frag} {mg : Str → Option Value} {base : Heap}
theorem ok_R_plain_factor (T : Tx K mg) (n : Nat) (hC : MetX P w K mg base (7 + 4 * n) (cR K) "condition" (spC K n)) : MetX P w K mg base (8 + 4 * n) (cR K) "plain_factor" (spPF K n) := by
  obtain ⟨fd, F⟩ := T.b_R_plain_factor
  have e8 : 8 + 4 * n = (7 + 4 * n) + 1 := by omega
  rw [e8]
  refine metXF T.c_R T.m_R_plain_factor F sc_R_plain_factor (fun vs H Q E h => h.len) (fun cdv A outer s H vs Q E hr h => ?_)
  obtain ⟨r, c, i, d, rfl, R, hlim, hnot, k, e⟩ := h
  have nd := sc_R_plain_factor.nd
  have one : (1 : Nat) ≤ sizeLine := by decide
  have two : (2 : Nat) ≤ sizeLine := by decide
  have three : (3 : Nat) ≤ sizeLine := by decide
  have four : (4 : Nat) ≤ sizeLine := by decide
  refine ⟨_, pss_cons (ps_if (pt_val (C8.pe_mt (ok_R_is_next T) hr (by omega) (pv 0) (pa_cons pe_str pa_nil)))
        (pss_cons (ps_expr (pe_mx0 (ok_R_go_in T) hr (by omega) (passes_call (takes_of rfl rfl rfl rfl) (fun _ _ _ _ h => h)) (pv 0)))
        (pss_cons (ps_set (i := 1) nd rfl (Or.inl rfl) (pe_mx0 hC hr (by omega) (passes_call (takes_of rfl rfl rfl rfl) (fun _ _ _ _ h => h)) (pv 0)))
        (pss_cons (ps_expr (pe_mx0 (ok_R_go_out T) hr (by omega) (passes_call (takes_of rfl rfl rfl rfl) (fun _ _ _ _ h => h)) (pv 0)))
        (pss_one (ps_ret (pv 1)))))) pss_nil)
    (pss_cons (ps_par (i := 2) (j := 3) rfl nd rfl rfl (by decide) rfl rfl (pa_cons (pe_fld (pv 0) rfl) (pa_cons (pe_mx0 (ok_R_taken T) hr (by omega) (passes_call (takes_of rfl rfl rfl rfl) (fun _ _ _ _ h => h)) (pv 0)) pa_nil)) (by rfl))
    (pss_cons (ps_if (pt_cmpR op_in_seq (pv 3) (pe_tup (pa_cons pe_str (pa_cons pe_str (pa_cons pe_str (pa_cons pe_str pa_nil))))) (by rfl)) (pss_one (ps_ret (pe_tup (pa_cons (pv 3) pa_nil)))) pss_nil)
    (pss_cons (ps_if (pt_cmpR op_eq (pv 3) pe_str (nomark _)) (pss_one (ps_ret (pe_tup (pa_cons (pv 3) (pa_cons (pe_mx0 (ok_R_read_weekday T) hr (by omega) (passes_call (takes_of rfl rfl rfl rfl) (fun _ _ _ _ h => h)) (pv 0)) pa_nil))))) pss_nil)
    (pss_cons (ps_if (pt_cmpR op_in_seq (pv 3) (pe_tup (pa_cons pe_str (pa_cons pe_str (pa_cons pe_str pa_nil)))) (by rfl)) (pss_one (ps_ret (pe_mx (ok_R_of_month T) hr (by omega) (passes_call (takes_of rfl rfl rfl rfl) (fun _ _ _ _ h => h)) (pv 0) (pa_cons (pv 3) pa_nil)))) pss_nil)
    (pss_cons (ps_if (PW.pt (pw_and (pt_cmpR op_eq (pv 3) pe_str (nomark _)) (pw_and1 (pt_val (pe_fld (pv 0) rfl))))) (pss_one ps_never) pss_nil)
    (pss_cons (ps_fld (pv 0) (pv 2) rfl)
    (pss_one (ps_ret (pe_mx0 (ok_R_fail T) hr (by omega) (passes_call (takes_of rfl rfl rfl rfl) (fun _ _ _ _ h => h)) (pv 0)))))))))), ?_⟩
  have hd6 := R.dle
  refine ⟨_, rfl, r.a, r.dx, _, rfl, R.ob, rfl, r, c, i, d, "(", rfl, R, _, rfl, ?_⟩
  by_cases hp : r.ws[i]? = some ("(" : Str)
  · rw [decide_eq_true hp]
    refine iteT ⟨_, rfl, r.a, r.dx, _, rfl, R.ob, rfl, r, c, i, d, rfl, R, fun H1 hd6 _ s1 R1 => ?_, fun hb => e i (fwA_bad hp (st_none leaf_open heads_open (fun _ => ?_) (by decide +kernel) R.dle))⟩
    · have f1 := fwA_step (c := c) hp (st_open (c := c) hd6)
      refine ⟨_, rfl, r.a, r.dx, _, rfl, R1.ob, rfl, r, c, i + 1, d + 1, rfl, R1, (by omega), trivial, fun v j H2 hij s2 R2 hc ha f2 => ?_, fun k hk => (e k (f1.trans hk)).back s1⟩
      refine ⟨_, rfl, r.a, r.dx, _, rfl, R2.ob, rfl, r, c, j, d, rfl, R2, fun H3 hw s3 R3 => ?_, fun hw => ?_⟩
      · refine ⟨_, rfl, k v (j + 1) H3 (by omega) ((s1.trans s2).trans s3) R3 (hc.tups fun b xs q => s3.tup R2.ob q) trivial ?_⟩
        rw [f1, f2]
        exact fwA_step hw st_close
      · refine (e j ?_).back (s1.trans s2)
        rw [f1, f2]
        refine fwA_stop R2.le (by unfold fopen; simp) fun x hx => ?_
        refine st_stray (fun z => ?_) (fun z => hw (by rw [hx, z.1]))
        rcases z with z | z
        · exact ha.1 (by rw [hx, z])
        · exact ha.2 (by rw [hx, z])
    · rcases hb with hb | hb
      · exact hb
      · exact absurd hp hb
  · rw [decide_eq_false hp]
    refine iteF ⟨_, rfl, r.a, _, r.dx, _, _, rfl, R.ob, T.c_R, T.n_R_place, rfl, _, rfl, r.a, r.dx, _, rfl, R.ob, rfl, r, c, i, d, rfl, R, fun x H1 hx s1 R1 => ⟨_, _, rfl, ?_⟩, fun hi => e i (by rw [hi]; exact fwA_end rfl)⟩
    refine ⟨_, rfl, four, fun t ht => ⟨t, _, rfl, .inr (SqT.of upd_same), rfl, rfl, _, rfl, ?_⟩⟩
    have s2 := same_new (o := .tup [.str "all", .str "none", .str "work", .str "rest"]) ht
    have R2 := R1.same s2
    have sx2 := s1.trans (.of s2)
    have e4 : inV (.str x) [.str "all", .str "none", .str "work", .str "rest"] = leafW x := (inV_str x ["all", "none", "work", "rest"]).trans (leaf_iff x).symm
    show if (if false = true then _ else inV (.str x) [.str "all", .str "none", .str "work", .str "rest"]) = true then _ else _
    rw [if_neg Bool.false_ne_true, e4]
    cases hl : leafW x with
    | true =>
      refine iteT ⟨_, rfl, one, fun p hp2 => ?_⟩
      have s3 := same_new (o := .tup [.str x]) hp2
      refine k (.ref p) (i + 1) _ (by omega) (sx2.trans (.of s3)) (R2.same s3) (.plain ?_) trivial (fwA_step hx (st_leaf hl))
      rw [leaf_iff] at hl
      have hl2 := of_decide_eq_true hl
      simp only [List.mem_cons, List.not_mem_nil, or_false] at hl2
      rcases hl2 with rfl | rfl | rfl | rfl
      · exact .all upd_same
      · exact .none upd_same
      · exact .work upd_same
      · exact .rest upd_same
    | false =>
      refine iteF ⟨_, rfl, rfl, _, rfl, ?_⟩
      by_cases hwd : x = "weekday"
      · subst hwd
        have f1 := fwA_step (c := c) hx (st_head (c := c) (d := d) hl heads_wd)
        refine ifT rfl ⟨_, rfl, _, rfl, r.a, r.dx, _, rfl, R2.ob, rfl, r, c, i + 1, d, rfl, R2, fun n H3 hn hok s3 R3 => ⟨two, fun p hp2 => ?_⟩, fun hb => (e (i + 1) (f1.trans (arg_bad R2.le fun n hn => ?_))).back sx2⟩
        · have s4 := same_new (o := .tup [.str "weekday", .int n]) hp2
          exact k (.ref p) (i + 1 + 1) _ (by omega) ((sx2.trans s3).trans (.of s4)) (R3.same s4) (.plain (.wd n upd_same)) trivial (f1.trans (arg_ok hn (argN_wd.mpr hok)))
        · have z := hb n hn
          rw [← argN_wd (c := c)] at z
          simpa using z
      · refine ifF (fun z => hwd (V.str.inj z)) ?_
        refine ⟨_, rfl, three, fun t2 ht2 => ⟨t2, _, rfl, .inr (SqT.of upd_same), rfl, rfl, _, rfl, ?_⟩⟩
        have s3 := same_new (o := .tup [.str "day", .str "month", .str "nth"]) ht2
        have R3 := R2.same s3
        have sx3 := sx2.trans (.of s3)
        have e3 : inV (.str x) [.str "day", .str "month", .str "nth"] = decide (x ∈ [("day" : Str), "month", "nth"]) := inV_str x ["day", "month", "nth"]
        show if (if false = true then _ else inV (.str x) [.str "day", .str "month", .str "nth"]) = true then _ else _
        rw [if_neg Bool.false_ne_true, e3]
        have em : x ∈ [("day" : Str), "month", "nth"] ↔ monthW x := by
          unfold monthW
          simp
        by_cases hm : monthW x
        · rw [decide_eq_true (em.mpr hm)]
          obtain ⟨ks, hks⟩ := heads_some hm
          have f1 := fwA_step (c := c) hx (st_head (c := c) (d := d) hl hks)
          exact iteT ⟨_, rfl, r.a, r.dx, _, rfl, R3.ob, rfl, _, rfl, r, c, i + 1, d, x, ks, rfl, R3, hm, hks, fun p j H4 hij s4 R4 hp4 f2 => k (.ref p) j H4 (by omega) (sx3.trans s4) R4 (.plain hp4) trivial (f1.trans f2), fun q hq => (e q (f1.trans hq)).back sx3⟩
        · rw [decide_eq_false (fun z => hm (em.mp z))]
          refine iteF ⟨_, rfl, rfl, _, rfl, ?_⟩
          have hbad := e i (fwA_bad hx (st_none hl (heads_else hwd hm) (fun z => absurd (z ▸ hx) hp) (fun z => hnot (z ▸ hx)) R.dle))
          have fin : tSeq (sFld K (tVar 0) (tVar 2) "place") (tRet (tMeth (cR K) "fail" (sp_R_fail K) [] E (tVar 0) tNil)) { nx := fun _ H' => Q .non H', rt := Q } [some (.ref r.a), none, some (.int i), some (.str x)] (upd (upd H1 t (.tup [.str "all", .str "none", .str "work", .str "rest"])) t2 (.tup [.str "day", .str "month", .str "nth"])) := by
            refine ⟨_, rfl, _, rfl, r.a, _, r.dx, _, rfl, R3.ob, T.c_R, T.n_R_place, (by show 7 < 1000; decide), ?_⟩
            have R4 := R3.put (i' := i) (d' := d) R.le R.dle
            exact ⟨_, rfl, r.a, r.dx, _, rfl, upd_same, rfl, r, c, i, d, rfl, R4, hbad.back (sx3.trans .put)⟩
          by_cases hin : x = "in"
          · exact ifT (congrArg V.str hin) ⟨_, rfl, r.a, _, r.dx, _, _, rfl, R3.ob, T.c_R, T.n_R_with_names, rfl, false, rfl, iteF fin⟩
          · exact ifF (fun z => hin (V.str.inj z)) fin
end
end K5

set_option Elab.async false
set_option linter.all false
set_option maxRecDepth 100000
set_option maxHeartbeats 4000000
/-! Walks 18: the reader's factor, term, condition, end. -/
namespace K5
open PySem PySem.Spec PyProof.Rows L2
def sp_R_finish (K : PySem.W.Frag) : Sp := fun vs H Q E => ∃ (r : RP) (c : CalD) (i d : Nat), vs = [.ref r.a] ∧ RdAt K H r c i d ∧ (i = r.ws.length → Q .non H) ∧ (i < r.ws.length → Er K r.a H E i)
/-- a list that a def fills -/
theorem CondAt.lst {H : Hp} {l : Addr} {xs ys : List V} (hl : H l = some (.lst xs)) {n : Nat} {v : V} (h : CondAt H n v) : CondAt (upd H l (.lst ys)) n v := h.tups fun b zs q => by
  rw [upd_ne (ne_of q hl (by intro z; cases z))]
  exact q
theorem SX.fill {a l : Addr} {H H' : Hp} {o : HO} (s : SX a H H') (h : H l = none) : SX a H (upd H' l o) := fun b u n e => by
  rw [upd_ne (ne_of_none e h)]
  exact s b u n e
theorem SX.none {a l : Addr} {C dx : Addr} {fs : List (Str × V)} {H H' : Hp} (s : SX a H H') (ha : H' a = some (.ins C dx fs)) (h : H' l = none) : H l = none := by
  cases e : H l with
  | none => rfl
  | some u =>
    by_cases n : l = a
    · subst n
      rw [h] at ha
      cases ha
    · have := s l u n e
      rw [h] at this
      cases this
theorem RdAt.fill {K : PySem.W.Frag} {H H' : Hp} {r : RP} {c : CalD} {i d j e : Nat} {l : Addr} {xs ys : List V} (R : RdAt K H r c i d) (R' : RdAt K H' r c j e) (s : SX r.a H H') (h0 : H l = none) (hl : H' l = some (.lst xs)) : RdAt K (upd H' l (.lst ys)) r c j e :=
  ⟨by rw [upd_ne (ne_of R'.ob hl (by intro z; cases z))]; exact R'.ob, by rw [upd_ne (ne_of_none R.wl h0)]; exact R'.wl, R.ne, R.cal.sx R.ne R.ob (s.fill h0), R.ok, R.len, R.wlen, R'.le, R'.dle⟩
section
variable {P : Program} {w : World} {K : PySem.W.Frag} {mg : Str → Option Value} {base : Heap}
theorem ok_R_factor (T : Tx K mg) (n : Nat) (hP : MetX P w K mg base (8 + 4 * n) (cR K) "plain_factor" (spPF K n)) : MetX P w K mg base (9 + 4 * n) (cR K) "factor" (spF K n) := by
  obtain ⟨fd, F⟩ := T.b_R_factor
  have e8 : 9 + 4 * n = (8 + 4 * n) + 1 := by omega
  rw [e8]
  refine metXF T.c_R T.m_R_factor F sc_R_factor (fun vs H Q E h => h.len) (fun cdv A outer s H vs Q E hr h => ?_)
  obtain ⟨r, c, i, d, rfl, R, hlim, _, k, e⟩ := h
  have nd := sc_R_factor.nd
  have two : (2 : Nat) ≤ sizeLine := by decide
  refine ⟨_, pss_cons (ps_set (i := 1) nd rfl (Or.inl rfl) pe_bl)
    (pss_cons (ps_while (passes_of rfl) (pt_val (C8.pe_mt (ok_R_is_next T) hr (by omega) (pv 0) (pa_cons pe_str pa_nil)))
      (pss_cons (ps_fldaug (pv 0) pe_int in_add) (pss_one (ps_set (i := 1) nd rfl (Or.inl rfl) (pe_not (pv 1))))))
    (pss_cons (ps_set (i := 2) nd rfl (Or.inl rfl) (pe_mx0 hP hr (by omega) (passes_call (takes_of rfl rfl rfl rfl) (fun _ _ _ _ h => h)) (pv 0)))
    (pss_one (ps_ret (pe_ifExp (pt_val (pv 1)) (pe_tup (pa_cons pe_str (pa_cons (pv 2) pa_nil))) (pv 2)))))), ?_⟩
  refine ⟨fun m σ H' => ∃ (j : Nat) (b : Bool), σ = [some (.ref r.a), some (.bl b), none] ∧ m = r.ws.length - j ∧ i ≤ j ∧ SX r.a H H' ∧ RdAt K H' r c j d ∧ fwA c r.ws i ⟨d, true, []⟩ = fwA c r.ws j ⟨d, true, []⟩, ⟨_, i, false, rfl, rfl, Nat.le_refl _, .refl H, R, rfl⟩, ?_⟩
  rintro m σ H1 ⟨j, b, rfl, rfl, hle, s1, R1, f1⟩
  refine ⟨_, rfl, r.a, r.dx, _, rfl, R1.ob, rfl, r, c, j, d, "not", rfl, R1, _, rfl, ?_⟩
  by_cases hn : r.ws[j]? = some ("not" : Str)
  · rw [decide_eq_true hn]
    have hj := (List.getElem?_eq_some_iff.mp hn).1
    refine iteT ⟨fun σ' H' => ∃ (j' : Nat) (b : Bool), σ' = [some (.ref r.a), some (.bl b), none] ∧ r.ws.length - j' < r.ws.length - j ∧ i ≤ j' ∧ SX r.a H H' ∧ RdAt K H' r c j' d ∧ fwA c r.ws i ⟨d, true, []⟩ = fwA c r.ws j' ⟨d, true, []⟩,
      fun σ' H2 ⟨j', b, h1, h2, h3⟩ => ⟨_, h2, j', b, h1, rfl, h3⟩, ?_⟩
    refine ⟨_, rfl, r.a, _, r.dx, _, _, rfl, R1.ob, T.c_R, T.n_R_place, rfl, _, _, rfl, rfl, r.dx, _, R1.ob, (by show 7 < 1000; decide), _, rfl, _, rfl, j + 1, !b, rfl, by omega, by omega, s1.trans .put, R1.put (i' := j + 1) (d' := d) (by omega) R.dle, f1.trans (fwA_step hn st_not)⟩
  · rw [decide_eq_false hn]
    refine iteF ⟨_, rfl, r.a, r.dx, _, rfl, R1.ob, rfl, r, c, j, d, rfl, R1, hlim, hn, fun v j2 H2 hij s2 R2 hc _ f2 => ?_, fun q hq => (e q (f1.trans hq)).back s1⟩
    refine ⟨_, rfl, b, rfl, ?_⟩
    cases b with
    | true =>
      refine iteT ⟨_, rfl, two, fun p hp => ?_⟩
      have s3 := same_new (o := .tup [.str "not", v]) hp
      exact k (.ref p) j2 _ (by omega) ((s1.trans s2).trans (.of s3)) (R2.same s3) (.not upd_same (hc.same s3)) trivial (f1.trans f2)
    | false => exact iteF ⟨_, rfl, k v j2 H2 (by omega) (s1.trans s2) R2 (hc.mono _ (by omega)) trivial (f1.trans f2)⟩
theorem ok_R_term (T : Tx K mg) (n : Nat) (hF : MetX P w K mg base (9 + 4 * n) (cR K) "factor" (spF K n)) : MetX P w K mg base (10 + 4 * n) (cR K) "term" (spT K n) := by
  obtain ⟨fd, F⟩ := T.b_R_term
  have e8 : 10 + 4 * n = (9 + 4 * n) + 1 := by omega
  rw [e8]
  refine metXF T.c_R T.m_R_term F sc_R_term (fun vs H Q E h => h.len) (fun cdv A outer s H vs Q E hr h => ?_)
  obtain ⟨r, c, i, d, rfl, R, hlim, _, k, e⟩ := h
  have nd := sc_R_term.nd
  have one : (1 : Nat) ≤ sizeLine := by decide
  have two : (2 : Nat) ≤ sizeLine := by decide
  have big : (100002 : Nat) ≤ sizeLine := by decide
  refine ⟨_, pss_cons (ps_set (i := 1) nd rfl (Or.inl rfl) (pe_lst (pa_cons (pe_mx0 hF hr (by omega) (passes_call (takes_of rfl rfl rfl rfl) (fun _ _ _ _ h => h)) (pv 0)) pa_nil)))
    (pss_cons (ps_while (passes_of rfl) (pt_val (C8.pe_mt (ok_R_is_next T) hr (by omega) (pv 0) (pa_cons pe_str pa_nil)))
      (pss_cons (ps_fldaug (pv 0) pe_int in_add) (pss_one (ps_expr (pe_bm PySem.F.plainAttrs_list PySem.F.slot_list_append PySem.F.type_list_append mt_append (pv 1) (pa_cons (pe_mx0 hF hr (by omega) (passes_call (takes_of rfl rfl rfl rfl) (fun _ _ _ _ h => h)) (pv 0)) pa_nil))))))
    (pss_one (ps_ret (pe_ifExp (pt_cmpR op_eq (pe_callB call_len_seq (by rfl) T.z_len bLen (pa_cons (pv 1) pa_nil)) pe_int (nomark _)) (pe_ix ix_list (pv 1) pe_int (fun _ _ => rfl)) (pe_tup (pa_cons pe_str (pa_cons (pe_callTy call_tuple_of (by rfl) T.z_tuple bT (pa_cons (pv 1) pa_nil)) pa_nil))))))), ?_⟩
  refine ⟨_, rfl, r.a, r.dx, _, rfl, R.ob, rfl, r, c, i, d, rfl, R, hlim, trivial, fun v j H1 hij s1 R1 hc _ f1 => ⟨one, fun l hl => ?_⟩, fun q hq => e q hq⟩
  have l0 : H l = none := s1.none R1.ob hl
  have s2 := same_new (o := .lst [v]) hl
  refine ⟨fun m σ H' => ∃ (j : Nat) (vs : List V), σ = [some (.ref r.a), some (.ref l)] ∧ m = r.ws.length - j ∧ i ≤ j ∧ SX r.a H H' ∧ RdAt K H' r c j d ∧ H' l = some (.lst vs) ∧ 1 ≤ vs.length ∧ vs.length ≤ j + 1 ∧ (∀ v ∈ vs, CondAt H' (3 * n + 1) v) ∧ fwA c r.ws i ⟨d, true, []⟩ = fwA c r.ws j ⟨d, false, []⟩,
    ⟨_, j, [v], rfl, rfl, hij, s1.trans (.of s2), R1.same s2, upd_same, Nat.le_refl _, by simp, fun x hx => by
      obtain rfl : x = v := by simpa using hx
      exact hc.same s2, f1⟩, ?_⟩
  clear hc f1 R1 s1 s2 hij hl
  rintro m σ H1 ⟨j, vs, rfl, rfl, hij, s1, R1, hl, hv1, hv2, hc, f1⟩
  refine ⟨_, rfl, r.a, r.dx, _, rfl, R1.ob, rfl, r, c, j, d, "and", rfl, R1, _, rfl, ?_⟩
  have hjl := R1.le
  have hwl := R.len
  by_cases hn : r.ws[j]? = some ("and" : Str)
  · rw [decide_eq_true hn]
    have hj := (List.getElem?_eq_some_iff.mp hn).1
    refine iteT ⟨fun σ' H' => ∃ (j' : Nat) (vs : List V), σ' = [some (.ref r.a), some (.ref l)] ∧ r.ws.length - j' < r.ws.length - j ∧ i ≤ j' ∧ SX r.a H H' ∧ RdAt K H' r c j' d ∧ H' l = some (.lst vs) ∧ 1 ≤ vs.length ∧ vs.length ≤ j' + 1 ∧ (∀ v ∈ vs, CondAt H' (3 * n + 1) v) ∧ fwA c r.ws i ⟨d, true, []⟩ = fwA c r.ws j' ⟨d, false, []⟩,
      fun σ' H2 ⟨j', b, h1, h2, h3⟩ => ⟨_, h2, j', b, h1, rfl, h3⟩, ?_⟩
    refine ⟨_, rfl, r.a, _, r.dx, _, _, rfl, R1.ob, T.c_R, T.n_R_place, rfl, _, _, rfl, rfl, r.dx, _, R1.ob, (by show 7 < 1000; decide), ?_⟩
    have R2 := R1.put (i' := j + 1) (d' := d) (by omega) R.dle
    have f2 := f1.trans (fwA_step (c := c) hn (st_shut (c := c) (d := d) (.inl rfl)))
    have hl2 := (SX.put (o := .ins (cR K) r.dx (rdF r ((j + 1 : Nat) : Int) d))).lst R1.ob hl
    have s2 := s1.trans (SX.put (o := .ins (cR K) r.dx (rdF r ((j + 1 : Nat) : Int) d)))
    have hc2 : ∀ v ∈ vs, CondAt (upd H1 r.a (.ins (cR K) r.dx (rdF r ((j + 1 : Nat) : Int) d))) (3 * n + 1) v := fun v hv => (hc v hv).tups fun b xs q => (SX.put (o := .ins (cR K) r.dx (rdF r ((j + 1 : Nat) : Int) d))).tup R1.ob q
    refine ⟨_, rfl, .inl ⟨rfl, _, SqL.of hl2⟩, _, rfl, r.a, r.dx, _, rfl, upd_same, rfl, r, c, j + 1, d, rfl, R2, hlim, trivial, fun v j2 H2 hj2 s3 R3 hv _ f3 => ?_, fun q hq => (e q (f2.trans hq)).back s2⟩
    have hl3 := s3.lst R2.ob hl2
    have hjl2 := R3.le
    refine ⟨l, vs, v, rfl, rfl, hl3, by omega, j2, vs ++ [v], rfl, by omega, by omega, (s2.trans s3).fill l0, R.fill R3 (s2.trans s3) l0 hl3, upd_same, by simp, by simp; omega, fun x hx => ?_, f2.trans f3⟩
    rcases List.mem_append.mp hx with hx | hx
    · exact ((hc2 x hx).tups fun b xs q => s3.tup R2.ob q).lst hl3
    · obtain rfl : x = v := by simpa using hx
      exact hv.lst hl3
  · rw [decide_eq_false hn]
    refine iteF ⟨_, rfl, l, _, rfl, .inl (SqL.of hl), rfl, _, rfl, ?_⟩
    by_cases h1 : vs.length = 1
    · refine ifT (by rw [h1] <;> rfl) ?_
      obtain ⟨x, hx⟩ : ∃ x, vs[0]? = some x := ⟨_, List.getElem?_eq_getElem (by omega)⟩
      refine ⟨_, rfl, l, _, _, _, rfl, rfl, SqL.of hl, at_of (j := 0) rfl hx, ?_⟩
      exact k x j H1 hij s1 R1 ((hc x (List.mem_of_getElem? hx)).mono _ (by omega)) hn f1
    · refine ifF (fun z => h1 (by have := V.int.inj z; omega)) ⟨_, rfl, l, _, rfl, .inl ⟨SqL.of hl, fun t ht => ?_⟩⟩
      have s3 := same_new (o := .tup vs) ht
      refine ⟨two, fun p hp => ?_⟩
      have s4 := s3.trans (same_new (o := .tup [.str "and", .ref t]) hp)
      exact k (.ref p) j _ hij (s1.trans (.of s4)) (R1.same s4) (.and upd_same (same_new hp _ _ upd_same) (by omega) fun v hv => (hc v hv).same s4) hn f1
theorem ok_R_condition (T : Tx K mg) (n : Nat) (hF : MetX P w K mg base (10 + 4 * n) (cR K) "term" (spT K n)) : MetX P w K mg base (7 + 4 * (n + 1)) (cR K) "condition" (spC K (n + 1)) := by
  obtain ⟨fd, F⟩ := T.b_R_condition
  have e8 : 7 + 4 * (n + 1) = (10 + 4 * n) + 1 := by omega
  rw [e8]
  refine metXF T.c_R T.m_R_condition F sc_R_condition (fun vs H Q E h => h.len) (fun cdv A outer s H vs Q E hr h => ?_)
  obtain ⟨r, c, i, d, rfl, R, hlim, _, k, e⟩ := h
  have nd := sc_R_condition.nd
  have one : (1 : Nat) ≤ sizeLine := by decide
  have two : (2 : Nat) ≤ sizeLine := by decide
  have big : (100002 : Nat) ≤ sizeLine := by decide
  refine ⟨_, pss_cons (ps_set (i := 1) nd rfl (Or.inl rfl) (pe_lst (pa_cons (pe_mx0 hF hr (by omega) (passes_call (takes_of rfl rfl rfl rfl) (fun _ _ _ _ h => h)) (pv 0)) pa_nil)))
    (pss_cons (ps_while (passes_of rfl) (pt_val (C8.pe_mt (ok_R_is_next T) hr (by omega) (pv 0) (pa_cons pe_str pa_nil)))
      (pss_cons (ps_fldaug (pv 0) pe_int in_add) (pss_one (ps_expr (pe_bm PySem.F.plainAttrs_list PySem.F.slot_list_append PySem.F.type_list_append mt_append (pv 1) (pa_cons (pe_mx0 hF hr (by omega) (passes_call (takes_of rfl rfl rfl rfl) (fun _ _ _ _ h => h)) (pv 0)) pa_nil))))))
    (pss_one (ps_ret (pe_ifExp (pt_cmpR op_eq (pe_callB call_len_seq (by rfl) T.z_len bLen (pa_cons (pv 1) pa_nil)) pe_int (nomark _)) (pe_ix ix_list (pv 1) pe_int (fun _ _ => rfl)) (pe_tup (pa_cons pe_str (pa_cons (pe_callTy call_tuple_of (by rfl) T.z_tuple bT (pa_cons (pv 1) pa_nil)) pa_nil))))))), ?_⟩
  refine ⟨_, rfl, r.a, r.dx, _, rfl, R.ob, rfl, r, c, i, d, rfl, R, (by omega), trivial, fun v j H1 hij s1 R1 hc hna f1 => ⟨one, fun l hl => ?_⟩, fun q hq => e q hq⟩
  have l0 : H l = none := s1.none R1.ob hl
  have s2 := same_new (o := .lst [v]) hl
  refine ⟨fun m σ H' => ∃ (j : Nat) (vs : List V), σ = [some (.ref r.a), some (.ref l)] ∧ m = r.ws.length - j ∧ i ≤ j ∧ SX r.a H H' ∧ RdAt K H' r c j d ∧ H' l = some (.lst vs) ∧ 1 ≤ vs.length ∧ vs.length ≤ j + 1 ∧ (∀ v ∈ vs, CondAt H' (3 * n + 2) v) ∧ fwA c r.ws i ⟨d, true, []⟩ = fwA c r.ws j ⟨d, false, []⟩ ∧ r.ws[j]? ≠ some ("and" : Str),
    ⟨_, j, [v], rfl, rfl, hij, s1.trans (.of s2), R1.same s2, upd_same, Nat.le_refl _, by simp, fun x hx => by
      obtain rfl : x = v := by simpa using hx
      exact hc.same s2, f1, hna⟩, ?_⟩
  clear hc hna f1 R1 s1 s2 hij hl
  rintro m σ H1 ⟨j, vs, rfl, rfl, hij, s1, R1, hl, hv1, hv2, hc, f1, hna⟩
  refine ⟨_, rfl, r.a, r.dx, _, rfl, R1.ob, rfl, r, c, j, d, "or", rfl, R1, _, rfl, ?_⟩
  have hjl := R1.le
  have hwl := R.len
  by_cases hn : r.ws[j]? = some ("or" : Str)
  · rw [decide_eq_true hn]
    have hj := (List.getElem?_eq_some_iff.mp hn).1
    refine iteT ⟨fun σ' H' => ∃ (j' : Nat) (vs : List V), σ' = [some (.ref r.a), some (.ref l)] ∧ r.ws.length - j' < r.ws.length - j ∧ i ≤ j' ∧ SX r.a H H' ∧ RdAt K H' r c j' d ∧ H' l = some (.lst vs) ∧ 1 ≤ vs.length ∧ vs.length ≤ j' + 1 ∧ (∀ v ∈ vs, CondAt H' (3 * n + 2) v) ∧ fwA c r.ws i ⟨d, true, []⟩ = fwA c r.ws j' ⟨d, false, []⟩ ∧ r.ws[j']? ≠ some ("and" : Str),
      fun σ' H2 ⟨j', b, h1, h2, h3⟩ => ⟨_, h2, j', b, h1, rfl, h3⟩, ?_⟩
    refine ⟨_, rfl, r.a, _, r.dx, _, _, rfl, R1.ob, T.c_R, T.n_R_place, rfl, _, _, rfl, rfl, r.dx, _, R1.ob, (by show 7 < 1000; decide), ?_⟩
    have R2 := R1.put (i' := j + 1) (d' := d) (by omega) R.dle
    have f2 := f1.trans (fwA_step (c := c) hn (st_shut (c := c) (d := d) (.inr rfl)))
    have hl2 := (SX.put (o := .ins (cR K) r.dx (rdF r ((j + 1 : Nat) : Int) d))).lst R1.ob hl
    have s2 := s1.trans (SX.put (o := .ins (cR K) r.dx (rdF r ((j + 1 : Nat) : Int) d)))
    have hc2 : ∀ v ∈ vs, CondAt (upd H1 r.a (.ins (cR K) r.dx (rdF r ((j + 1 : Nat) : Int) d))) (3 * n + 2) v := fun v hv => (hc v hv).tups fun b xs q => (SX.put (o := .ins (cR K) r.dx (rdF r ((j + 1 : Nat) : Int) d))).tup R1.ob q
    refine ⟨_, rfl, .inl ⟨rfl, _, SqL.of hl2⟩, _, rfl, r.a, r.dx, _, rfl, upd_same, rfl, r, c, j + 1, d, rfl, R2, (by omega), trivial, fun v j2 H2 hj2 s3 R3 hv hna2 f3 => ?_, fun q hq => (e q (f2.trans hq)).back s2⟩
    have hl3 := s3.lst R2.ob hl2
    have hjl2 := R3.le
    refine ⟨l, vs, v, rfl, rfl, hl3, by omega, j2, vs ++ [v], rfl, by omega, by omega, (s2.trans s3).fill l0, R.fill R3 (s2.trans s3) l0 hl3, upd_same, by simp, by simp; omega, fun x hx => ?_, f2.trans f3, hna2⟩
    rcases List.mem_append.mp hx with hx | hx
    · exact ((hc2 x hx).tups fun b xs q => s3.tup R2.ob q).lst hl3
    · obtain rfl : x = v := by simpa using hx
      exact hv.lst hl3
  · rw [decide_eq_false hn]
    refine iteF ⟨_, rfl, l, _, rfl, .inl (SqL.of hl), rfl, _, rfl, ?_⟩
    by_cases h1 : vs.length = 1
    · refine ifT (by rw [h1] <;> rfl) ?_
      obtain ⟨x, hx⟩ : ∃ x, vs[0]? = some x := ⟨_, List.getElem?_eq_getElem (by omega)⟩
      refine ⟨_, rfl, l, _, _, _, rfl, rfl, SqL.of hl, at_of (j := 0) rfl hx, ?_⟩
      exact k x j H1 hij s1 R1 ((hc x (List.mem_of_getElem? hx)).mono _ (by omega)) ⟨hna, hn⟩ f1
    · refine ifF (fun z => h1 (by have := V.int.inj z; omega)) ⟨_, rfl, l, _, rfl, .inl ⟨SqL.of hl, fun t ht => ?_⟩⟩
      have s3 := same_new (o := .tup vs) ht
      refine ⟨two, fun p hp => ?_⟩
      have s4 := s3.trans (same_new (o := .tup [.str "or", .ref t]) hp)
      exact k (.ref p) j _ hij (s1.trans (.of s4)) (R1.same s4) (.or upd_same (same_new hp _ _ upd_same) (by omega) fun v hv => (hc v hv).same s4) ⟨hna, hn⟩ f1
theorem ok_R_finish (T : Tx K mg) : MetX P w K mg base 4 (cR K) "finish" (sp_R_finish K) := by
  obtain ⟨fd, F⟩ := T.b_R_finish
  obtain ⟨u1, g1, r1⟩ := T.i_MAX_STEPS
  refine metXF T.c_R T.m_R_finish F sc_R_finish (fun vs H Q E h => ?_) (fun cdv A outer s H vs Q E hr h => ?_)
  · obtain ⟨r, c, i, d, rfl, _⟩ := h
    rfl
  · obtain ⟨r, c, i, d, rfl, R, k, e⟩ := h
    refine ⟨_, pss_cons (ps_if (pt_cmpR op_lt (pe_fld (pv 0) rfl) (pe_callB call_len_seq (by rfl) T.z_len bLen (pa_cons (pe_fld (pv 0) rfl) pa_nil)) (nomark _)) (pss_one (ps_expr (pe_mx0 (ok_R_fail T) hr (by decide) (passes_call (takes_of rfl rfl rfl rfl) (fun _ _ _ _ h => h)) (pv 0)))) pss_nil)
      (pss_one (ps_if (pt_cmpR op_gt (pe_fld (pv 0) rfl) (pe_glob (by rfl) g1 r1) (nomark _)) (pss_one ps_never) pss_nil)), ?_⟩
    refine ⟨_, rfl, r.a, _, r.dx, _, _, rfl, R.ob, T.c_R, T.n_R_place, rfl, _, rfl, r.a, _, r.dx, _, _, rfl, R.ob, T.c_R, T.n_R_words, rfl, r.wl, _, rfl, .inl (SqL.of R.wl), _, _, rfl, rfl, _, rfl, ?_⟩
    rw [List.length_map]
    have hle := R.le
    by_cases h1 : i < r.ws.length
    · exact ifT (by omega) ⟨_, rfl, r.a, r.dx, _, rfl, R.ob, rfl, r, c, i, d, rfl, R, e h1⟩
    · refine ifF (by omega) ⟨_, rfl, r.a, _, r.dx, _, _, rfl, R.ob, T.c_R, T.n_R_many, rfl, _, _, rfl, rfl, _, rfl, ifF (by omega) (k (by omega))⟩
/-- the recursion is made -/
theorem ok_R_cond (T : Tx K mg) : ∀ n : Nat, MetX P w K mg base (7 + 4 * n) (cR K) "condition" (spC K n)
  | 0 => by
    obtain ⟨fd, F⟩ := T.b_R_condition
    refine metXF T.c_R T.m_R_condition F sc_R_condition (fun vs H Q E h => h.len) (fun cdv A outer s H vs Q E hr h => ?_)
    obtain ⟨r, c, i, d, rfl, R, hlim, _⟩ := h
    have := R.dle
    omega
  | n + 1 => ok_R_condition T n (ok_R_term T n (ok_R_factor T n (ok_R_plain_factor T n (ok_R_cond T n))))
end
end K5

set_option Elab.async false
set_option linter.all false
set_option maxRecDepth 100000
set_option maxHeartbeats 4000000
/-! Walks 19: a reader is made, a whole text is read. -/
namespace K5
open PySem PySem.Spec PyProof.Rows L2
def wordsOf (t : Str) : List Str := Txt.split t " "
theorem spl_bd (S : List Nat) : ∀ (l : List Nat) (k : Nat) (acc : List Nat), (TL.spl S k acc l).length ≤ l.length + 1 ∧ ∀ p ∈ TL.spl S k acc l, p.length ≤ acc.length + l.length
  | [], k, acc => by
    rw [TL.spl_nil]
    exact ⟨by simp, fun p hp => by
      obtain rfl : p = acc := by simpa using hp
      simp⟩
  | c :: r, 0, acc => by
    by_cases h : TL.pre S (c :: r) = true
    · rw [TL.spl_hit h]
      obtain ⟨h1, h2⟩ := spl_bd S r (S.length - 1) []
      refine ⟨by simp only [List.length_cons]; omega, fun p hp => ?_⟩
      rcases List.mem_cons.mp hp with rfl | hp
      · omega
      · have := h2 p hp
        simp only [List.length_cons, List.length_nil] at this ⊢
        omega
    · have h' : TL.pre S (c :: r) = false := by simpa using h
      rw [TL.spl_miss h']
      obtain ⟨h1, h2⟩ := spl_bd S r 0 (acc ++ [c])
      refine ⟨by simp only [List.length_cons]; omega, fun p hp => ?_⟩
      have := h2 p hp
      simp only [List.length_append, List.length_cons, List.length_nil] at this ⊢
      omega
  | c :: r, k + 1, acc => by
    obtain ⟨h1, h2⟩ := spl_bd S r k acc
    refine ⟨by show (TL.spl S k acc r).length ≤ _; simp only [List.length_cons]; omega, fun p hp => ?_⟩
    have := h2 p hp
    simp only [List.length_cons]
    omega
theorem words_bd (t : Str) : (wordsOf t).length ≤ t.length + 1 ∧ ∀ x ∈ wordsOf t, x.length ≤ t.length := by
  have e1 : Str.ofString " " = _root_.SX.S [32] := by decide +kernel
  have e2 : wordsOf t = (TL.spl [32] 0 [] t.cps.toList).map _root_.SX.S := by
    have h := _root_.SX.split_S (a := t.cps.toList) (b := [32]) (by decide) (by decide)
    rw [_root_.SX.S_tl] at h
    unfold wordsOf
    rw [e1]
    exact h
  have hl : t.cps.toList.length = t.length := Array.length_toList
  obtain ⟨h1, h2⟩ := spl_bd [32] t.cps.toList 0 []
  rw [e2]
  refine ⟨by rw [List.length_map]; omega, fun x hx => ?_⟩
  obtain ⟨p, hp, rfl⟩ := List.mem_map.mp hx
  have := h2 p hp
  rw [_root_.SX.S_len]
  simp only [List.length_nil] at this
  omega
theorem words_ne (t : Str) : wordsOf t ≠ [] := by
  have e1 : Str.ofString " " = _root_.SX.S [32] := by decide +kernel
  have e2 : wordsOf t = (TL.spl [32] 0 [] t.cps.toList).map _root_.SX.S := by
    have h := _root_.SX.split_S (a := t.cps.toList) (b := [32]) (by decide) (by decide)
    rw [_root_.SX.S_tl] at h
    unfold wordsOf
    rw [e1]
    exact h
  rw [e2]
  have : ∀ (l : List Nat) (k : Nat) (acc : List Nat), TL.spl [32] k acc l ≠ [] := by
    intro l
    induction l with
    | nil => intro k acc; rw [TL.spl_nil]; exact List.cons_ne_nil _ _
    | cons c r ih =>
      intro k acc
      cases k with
      | zero =>
        by_cases h : TL.pre [32] (c :: r) = true
        · rw [TL.spl_hit h]
          exact List.cons_ne_nil _ _
        · rw [TL.spl_miss (by simpa using h)]
          exact ih _ _
      | succ k => exact ih k acc
  intro z
  exact this _ _ _ (List.map_eq_nil_iff.mp z)
/-- values of the law that are no text -/
inductive NS (H : Hp) : V → Prop where
  | non : NS H .non
  | bl (b : Bool) : NS H (.bl b)
  | int (i : Int) : NS H (.int i)
  | lst {a : Addr} {xs : List V} (h : H a = some (.lst xs)) : NS H (.ref a)
  | tup {a : Addr} {xs : List V} (h : H a = some (.tup xs)) : NS H (.ref a)
  | dK {a : Addr} {kvs : List (Key × V)} (h : H a = some (.dK kvs)) : NS H (.ref a)
theorem NS.same {H H' : Hp} {v : V} (h : NS H v) (s : Same H H') : NS H' v := by
  cases h with
  | non => exact .non
  | bl b => exact .bl b
  | int i => exact .int i
  | lst h => exact .lst (s _ _ h)
  | tup h => exact .tup (s _ _ h)
  | dK h => exact .dK (s _ _ h)
theorem NS.ty {K : PySem.W.Frag} {H : Hp} {v : V} (h : NS H v) : ∃ t, TyX K H v t ∧ PySem.W.kitOne K t (.type "str") = some false := by
  cases h with
  | non => exact ⟨_, .base .non, kit_ty (by decide +kernel)⟩
  | bl b => exact ⟨_, .base (.bl b), kit_ty (by decide +kernel)⟩
  | int i => exact ⟨_, .base (.int i), kit_ty (by decide +kernel)⟩
  | lst h => exact ⟨_, .base (.lst h), kit_ty (by decide +kernel)⟩
  | tup h => exact ⟨_, .base (.tup h), kit_ty (by decide +kernel)⟩
  | dK h => exact ⟨_, .base (.dK h), kit_ty (by decide +kernel)⟩
/-- the law's answer -/
def lawAns (c : CalD) : V → Option Nat
  | .str t => fwA c (wordsOf t) 0 ⟨0, true, []⟩
  | _ => some 0
theorem NS.ans {H : Hp} {v : V} (h : NS H v) (c : CalD) : lawAns c v = some 0 := by cases h <;> rfl
def VOk (H : Hp) (v : V) : Prop := (∃ t, v = .str t ∧ t.length + 2 ≤ 100000) ∨ NS H v
theorem VOk.same {H H' : Hp} {v : V} (h : VOk H v) (s : Same H H') : VOk H' v := h.imp id fun q => q.same s
def sp_R_init (K : PySem.W.Frag) : Sp := fun vs H Q _ => ∃ (a dx cal : Addr) (c : CalD) (t : Str), vs = [.ref a, .ref cal, .str t, .bl false] ∧ H a = some (.ins (cR K) dx []) ∧ CalAt K H cal c ∧ CalOk c ∧ cal ≠ a ∧ t.length + 2 ≤ 100000 ∧
  ∀ (r : RP) H', r.a = a → r.ws = wordsOf t → SX a H H' → RdAt K H' r c 0 0 → Q .non H'
def sp_set_in (K : PySem.W.Frag) : Sp := fun vs H Q E => ∃ (cal : Addr) (c : CalD) (v : V), vs = [.ref cal, v, .bl false] ∧ CalAt K H cal c ∧ CalOk c ∧ VOk H v ∧
  (∀ u H', lawAns c v = none → Same H H' → CondAt H' 21 u → Q u H') ∧ (∀ k x H', lawAns c v = some k → Same H H' → H' x = some (.xd [("index", .int k)]) → E (.ref (cIT K)) (some x) H')
section
variable {P : Program} {w : World} {K : PySem.W.Frag} {mg : Str → Option Value} {base : Heap}
theorem ok_R_init (T : Tx K mg) : ∃ fd : FuncData, FnOk P w K mg base CX0 1 (He.ma K (cR K) "__init__") fd ["self", "calendar", "text", "with_names"] (sp_R_init K) ∧ L2.Binds K fd ["self", "calendar", "text", "with_names"] [] := by
  obtain ⟨fd, F, b⟩ := T.b_R_init
  refine ⟨fd, F.ok sc_R_init (fun vs H Q E h => ?_) (fun cdv A outer s H vs Q E hr h => ?_), b⟩
  · obtain ⟨a, dx, cal, c, t, rfl, _⟩ := h
    rfl
  · obtain ⟨a, dx, cal, c, t, rfl, ha, hc, ok, hne, ht, k⟩ := h
    refine ⟨_, pss_cons (ps_fld (pv 0) (pv 1) rfl) (pss_cons (ps_fld (pv 0) (pe_split (pv 2) pe_str) rfl) (pss_cons (ps_fld (pv 0) pe_int rfl) (pss_cons (ps_fld (pv 0) pe_int rfl) (pss_cons (ps_fld (pv 0) pe_int rfl) (pss_cons (ps_fld (pv 0) (pv 3) rfl) (pss_one (ps_fld (pv 0) (pe_lst pa_nil) rfl))))))), ?_⟩
    have hsz : sizeLine = 16777216 := sizeLine_eq
    obtain ⟨w1, w2⟩ := words_bd t
    refine ⟨_, rfl, _, rfl, a, _, dx, _, rfl, ha, T.c_R, T.n_R_guide, (by show 0 < 1000; decide), ?_⟩
    refine ⟨_, rfl, ⟨_, rfl⟩, t, _, rfl, rfl, (by decide +kernel), by omega, fun p hp => ?_⟩
    have s1 : SX a H (upd (upd H a (.ins (cR K) dx (putF "guide" (.ref cal) []))) p (.lst ((Txt.split t " ").map V.str))) := SX.put.trans (.of (same_new hp))
    have h1 : (upd (upd H a (.ins (cR K) dx (putF "guide" (.ref cal) []))) p (.lst ((Txt.split t " ").map V.str))) a = some (.ins (cR K) dx (putF "guide" (.ref cal) [])) := same_new hp _ _ upd_same
    have hw : (upd (upd H a (.ins (cR K) dx (putF "guide" (.ref cal) []))) p (.lst ((Txt.split t " ").map V.str))) p = some (.lst ((Txt.split t " ").map V.str)) := upd_same
    generalize upd (upd H a (.ins (cR K) dx (putF "guide" (.ref cal) []))) p (.lst ((Txt.split t " ").map V.str)) = H2 at s1 h1 hw ⊢
    have fin : ∀ (cu : Addr) H', SX a H2 H' → H' a = some (.ins (cR K) dx (rdF ⟨a, dx, cal, p, cu, wordsOf t⟩ (0 : Nat) (0 : Nat))) → Q .non H' := fun cu H' x hx =>
      k ⟨a, dx, cal, p, cu, wordsOf t⟩ H' rfl rfl (s1.trans x) ⟨hx, x.lst h1 hw, hne, hc.sx hne ha (s1.trans x), ok, (by show (wordsOf t).length ≤ _; omega), (fun y hy => by have := w2 y hy; omega), Nat.zero_le _, by omega⟩
    refine ⟨_, rfl, a, _, dx, _, rfl, h1, T.c_R, T.n_R_words, (by show 1 < 1000; decide), ?_⟩
    refine ⟨_, rfl, a, _, dx, _, rfl, upd_same, T.c_R, T.n_R_place, (by show 2 < 1000; decide), ?_⟩
    refine ⟨_, rfl, a, _, dx, _, rfl, upd_same, T.c_R, T.n_R_depth, (by show 3 < 1000; decide), ?_⟩
    refine ⟨_, rfl, a, _, dx, _, rfl, upd_same, T.c_R, T.n_R_many, (by show 4 < 1000; decide), ?_⟩
    refine ⟨_, rfl, _, rfl, a, _, dx, _, rfl, upd_same, T.c_R, T.n_R_with_names, (by show 5 < 1000; decide), ?_⟩
    refine ⟨(by show 0 ≤ sizeLine; decide), fun cu hcu => ?_⟩
    refine ⟨_, rfl, a, _, dx, _, rfl, same_new hcu _ _ upd_same, T.c_R, T.n_R_cuts, (by show 6 < 1000; decide), ?_⟩
    exact fin cu _ ((((((SX.put.trans .put).trans .put).trans .put).trans .put).trans (.of (same_new hcu))).trans .put) upd_same
theorem ok_set_in (T : Tx K mg) : ∃ fd : FuncData, FunD K "set_in" "set_in" (defArgs s_set_in) (defBody s_set_in) (defScope s_set_in) [.bl false] [] (He.ga K "set_in") fd ∧ FnOk P w K mg base (L2.CX P w) 36 (He.ga K "set_in") fd ["calendar", "text", "with_names"] (sp_set_in K) := by
  obtain ⟨fd, F⟩ := T.b_set_in
  obtain ⟨O, iC, tI⟩ := oexB_ok (T.exf 0 rfl)
  obtain ⟨fdI, FI, bI'⟩ := ok_IT_init (P := P) (w := w) (base := base) T
  obtain ⟨fdR, FR, bR⟩ := ok_R_init (P := P) (w := w) (base := base) T
  refine ⟨fd, F, F.ok sc_set_in (fun vs H Q E h => ?_) (fun cdv A outer s H vs Q E hr h => ?_)⟩
  · obtain ⟨cal, c, v, rfl, _⟩ := h
    rfl
  · obtain ⟨cal, c, v, rfl, hc, ok, hv, k, e⟩ := h
    have nd := sc_set_in.nd
    have MR : C8.Mak P w K mg base 1 "Reader" (cR K) (sp_R_init K) [] := ⟨_, fdR, _, [], T.k_R, FR, T.g_Reader, bR, .nil⟩
    refine ⟨_, pss_cons (ps_if (pt_not (pt_val (pe_callB call_isi (by rfl) T.z_isinstance bIsi (pa_cons (pv 1) (pa_cons (pe_bltn (by rfl) T.z_str bS (v := .ty "str") rfl) pa_nil)))))
          (pss_one (ps_raise rfl (takes_of rfl rfl rfl rfl) (pmk_oex O iC tI FI (hr.mono (by decide)) bI' .nil C8.pass0 (by rfl) T.g_InvalidText (pa_cons pe_int pa_nil)))) pss_nil)
      (pss_cons (ps_set (i := 3) nd rfl (Or.inl rfl) (C8.pe_mk MR hr (by decide) (by rfl) (pa_cons (pv 0) (pa_cons (pv 1) (pa_cons (pv 2) pa_nil)))))
      (pss_cons (ps_set (i := 4) nd rfl (Or.inl rfl) (pe_mx0 (ok_R_cond T 7) hr (by decide) (passes_call (takes_of rfl rfl rfl rfl) (fun _ _ _ _ h => h)) (pv 3)))
      (pss_cons (ps_expr (pe_mx0 (ok_R_finish T) hr (by decide) (passes_call (takes_of rfl rfl rfl rfl) (fun _ _ _ _ h => h)) (pv 3)))
      (pss_one (ps_ret (pv 4)))))), ?_⟩
    rcases hv with ⟨t, rfl, ht⟩ | hns
    · refine ⟨_, rfl, _, _, _, _, true, rfl, .ty "str", .base (.str t), kit_ty (by decide +kernel), true, rfl, iteF ?_⟩
      refine ⟨_, rfl, _, rfl, _, rfl, fun a dx ha hdx hda => ?_⟩
      have s1 : Same H (upd (upd H dx (.own a)) a (.ins (cR K) dx [])) := (same_new hdx).trans (same_new (by rw [upd_ne (fun z => hda z.symm)]; exact ha))
      obtain ⟨cdx, cfs, hca, _⟩ := hc.ob
      refine ⟨a, dx, cal, c, t, rfl, upd_same, hc.same s1, ok, ne_of_none hca ha, ht, fun r H1 hra hrw sx R => ⟨rfl, ?_⟩⟩
      subst hra
      have keep : ∀ H2, SX r.a (upd (upd H dx (.own r.a)) r.a (.ins (cR K) dx [])) H2 → Same H H2 := fun H2 x b u q => x b u (ne_of_none q ha) (s1 _ _ q)
      have er : ∀ (i : Nat) (H2 : Hp), SX r.a (upd (upd H dx (.own r.a)) r.a (.ins (cR K) dx [])) H2 → fwA c r.ws 0 ⟨0, true, []⟩ = some i → Er K r.a H2 E i := fun i H2 x hf y H3 sy hy => e i y H3 (by
        rw [hrw] at hf
        exact hf) (keep H3 (x.trans sy)) hy
      refine ⟨_, rfl, r.a, r.dx, _, rfl, R.ob, rfl, r, c, 0, 0, rfl, R, (by decide), trivial, fun u j H2 _ s2 R2 hcu hna f => ?_, fun i hf => er i H1 sx hf⟩
      refine ⟨_, rfl, r.a, r.dx, _, rfl, R2.ob, rfl, r, c, j, 0, rfl, R2, fun hj => ?_, fun hj => er j H2 (sx.trans s2) ?_⟩
      · refine ⟨_, rfl, k u H2 ?_ (keep H2 (sx.trans s2)) hcu⟩
        show fwA c (wordsOf t) 0 ⟨0, true, []⟩ = none
        rw [← hrw, f, hj]
        exact fwA_none rfl
      · rw [f]
        refine fwA_bad (List.getElem?_eq_getElem hj) (st_stray (fun z => ?_) (fun z => absurd z.2 (by decide)))
        rcases z with z | z
        · exact hna.1 (by rw [List.getElem?_eq_getElem hj, z])
        · exact hna.2 (by rw [List.getElem?_eq_getElem hj, z])
    · obtain ⟨ty, h1, h2⟩ := hns.ty (K := K)
      refine ⟨_, rfl, _, _, _, _, false, rfl, .ty "str", h1, h2, false, rfl, iteT ?_⟩
      refine ⟨(by show 1 ≤ 1000; decide), fun x hx => ⟨x, _, rfl, upd_same, fun dd h1 h2 => ⟨rfl, dd, [("index", .int ((0 : Nat) : Int))], upd_same, ?_, ?_, ?_⟩⟩⟩
      · rw [upd_ne h2]
        exact upd_same
      · rw [upd_ne h2] at h1
        exact h1
      · refine e 0 dd _ (hns.ans c) (fun b u q => ?_) upd_same
        have hbx : b ≠ x := ne_of_none q hx
        have hbd : b ≠ dd := fun z => by
          subst z
          rw [upd_ne h2] at h1
          rw [h1] at q
          cases q
        rw [upd_ne hbd, del_ne hbx, upd_ne hbx, upd_ne hbd, upd_ne hbx]
        exact q
end
end K5

set_option Elab.async false
set_option linter.all false
set_option maxRecDepth 100000
set_option maxHeartbeats 4000000
/-! Walks 20: sets of days. -/
namespace K5
open PySem PySem.Spec PyProof.Rows L2
abbrev cDS (K : PySem.W.Frag) : Addr := He.ga K "DaySet"
theorem out_enum {K : PySem.W.Frag} {a : Addr} {xs : List V} {H0 : Hp} {Qd : Hp → Prop} {G : V → Hp → (Hp → Prop) → Prop} (Pv : Nat → Hp → Prop) (h0 : Pv 0 H0) (hl : ∀ i H, Pv i H → SqL K H a xs) (hs : ∀ i x T H, xs[i]? = some x → Pv i H → H T = none → G (.ref T) (upd H T (.tup [.int (i : Nat), x])) (Pv (i + 1))) (hd : ∀ H, Pv xs.length H → Qd H) :
    ∃ W : Nat → Nat → Hp → Prop, (∃ m, W 0 m H0) ∧ ∀ i m H, W i m H → ((Ite K a).stop i H ∧ Qd H) ∨ ((Ite K a).go i H ∧ ∃ Nx : Hp → Prop, (∀ H', Nx H' → ∃ m', m' < m ∧ W (i + 1) m' H') ∧ ∀ x H', (Ite K a).yld i H x H' → G x H' Nx) := by
  refine ⟨fun i m H => m = xs.length - i ∧ i ≤ xs.length ∧ Pv i H, ⟨_, rfl, Nat.zero_le _, h0⟩, ?_⟩
  rintro i m H ⟨rfl, hi, p⟩
  have q := hl i H p
  by_cases c : i < xs.length
  · refine .inr ⟨⟨xs, xs[i], q, List.getElem?_eq_getElem c⟩, Pv (i + 1), fun H' z => ⟨xs.length - (i + 1), by omega, rfl, c, z⟩, ?_⟩
    rintro v H' ⟨T, x, rfl, hT, rfl, y⟩
    exact hs i x T H (y xs q) p hT
  · have e : i = xs.length := by omega
    subst e
    exact .inl ⟨⟨xs, q, Nat.le_refl _⟩, hd H p⟩
theorem dc_list {K : PySem.W.Frag} {a : Addr} {xs : List V} {H0 : Hp} {Qd : Hp → Prop} {G : V → Hp → (Hp → Prop) → Prop} (Pv : Nat → Hp → Prop) (h0 : Pv 0 H0) (hl : ∀ i H, Pv i H → SqL K H a xs) (hs : ∀ i x H, xs[i]? = some x → Pv i H → G x H (Pv (i + 1))) (hd : ∀ H, Pv xs.length H → Qd H) :
    ∃ W : Nat → Nat → Hp → Prop, (∃ m, W 0 m H0) ∧ ∀ i m H, W i m H → ((Itl K a).stop i H ∧ Qd H) ∨ ((Itl K a).go i H ∧ ∃ Nx : Hp → Prop, (∀ H', Nx H' → ∃ m', m' < m ∧ W (i + 1) m' H') ∧ ∀ x H', (Itl K a).yld i H x H' → G x H' Nx) := out_list Pv h0 hl hs hd
theorem pg_tupK {X : Cx} {es : List Expr} {k : Nat} {t : TGs} {n : Nat} {pos : Pos} (K : PySem.W.Frag) (hc : X.calm = true) (h : PGs X es t) (hK : X.K = K := by rfl) (hn : (assignEach es X.env).length = n := by rfl) (hst : (assignEach es X.env).findIdx? (·.1) = none := by rfl) : PG X (.Tuple es k pos) (gTup K n t) := hK ▸ pg_tup hc h hn hst
def sp_are_days : Sp := fun vs H Q _ => ∃ (a : Addr) (xs : List Int) (n : Int), vs = [.int n, .ref a] ∧ H a = some (.lst (xs.map V.int)) ∧ xs.Nodup ∧ xs.length ≤ 1000 ∧ (∀ x ∈ xs, 0 ≤ x ∧ x < n) ∧ ∀ H', Same H H' → Q (.bl true) H'
def sp_DS_init (K : PySem.W.Frag) : Sp := fun vs H Q _ => ∃ (a dx ad : Addr) (n : Nat) (xs : List Int), vs = [.ref a, .int n, .ref ad] ∧ H a = some (.ins (cDS K) dx []) ∧ H ad = some (.lst (xs.map V.int)) ∧ xs.Nodup ∧ xs.length ≤ 1000 ∧ (∀ x ∈ xs, 0 ≤ x ∧ x < (n : Int)) ∧ 1 ≤ n ∧ n ≤ 1000 ∧
  ∀ fs H', SX a H H' → H' a = some (.ins (cDS K) dx fs) → Q .non H'
section
variable {P : Program} {w : World} {K : PySem.W.Frag} {mg : Str → Option Value} {base : Heap}
theorem ok_are_days (T : Tx K mg) : C8.Cal P w K mg base 2 "are_days" sp_are_days [] := by
  obtain ⟨fd, F⟩ := T.b_are_days
  refine calF F T.g_are_days sc_are_days (fun vs H Q E h => ?_) (fun cdv A outer s H vs Q E hr h => ?_)
  · obtain ⟨a, xs, n, rfl, _⟩ := h
    rfl
  · obtain ⟨a, xs, n, rfl, ha, hnd, hl, hR, k⟩ := h
    have nd := sc_are_days.nd
    refine ⟨_, pss_cons (ps_if (PW.pt (pw_or (pt_not (pt_val (pe_callB call_isiT (by rfl) T.z_isinstance bIsi (pa_cons (pv 1) (pa_cons (pe_tup (pa_cons (pe_bltn (by rfl) T.z_list bL (v := .ty "list") rfl) (pa_cons (pe_bltn (by rfl) T.z_tuple bT (v := .ty "tuple") rfl) pa_nil))) pa_nil)))))
        (pw_or1 (pt_not (pt_val (pe_callB (cr_all rfl) (by rfl) T.z_all bAll (pa_cons (pe_lc (own := [("day", 2)]) (g := gName 2) (tt := tYes) rfl nd (pi_list (pv 1)) (blkOk_by (own := [("day", 2)]) (N := n_are_days) (sc := defScope s_are_days) (by decide +kernel)) (fun _ _ _ _ _ => pg_name (i := 2) nd rfl (Or.inl rfl)) (fun _ _ _ _ _ => pts_nil)
          (fun _ _ _ _ _ => pe_and (C8.pe_c (ok_is_integer T) hr (by decide) (by rfl) (pa_cons (pv 2) pa_nil)) (pe_one (pe_chain op_le op_lt pe_int (pv 2) (pv 0))))) pa_nil))))))) (pss_one (ps_ret pe_bl)) pss_nil)
      (pss_one (ps_ret (pe_cmpR op_eq (RZ.pe_lenSetI (by rfl) T.z_len (by rfl) T.z_set (pv 1)) (pe_callB call_len_seq (by rfl) T.z_len bLen (pa_cons (pv 1) pa_nil)) (nomark _)))), ?_⟩
    refine ⟨_, rfl, (by decide), fun p hp => ?_⟩
    have s1 := same_new (o := .tup [.ty "list", .ty "tuple"]) hp
    refine ⟨_, p, _, .type "list", [.type "list", .type "tuple"], true, rfl, upd_same, .cons (.ty _) (.cons (.ty _) .nil), .base (.lst (s1 _ _ ha)), kitLT_l, true, rfl, iteF ?_⟩
    refine ⟨_, rfl, a, rfl, ⟨_, SqL.of (s1 _ _ ha)⟩, fun D hD => ?_⟩
    refine lc_list (K := K) (a := a) (xs := xs.map V.int) (fun i H' => Same H H' ∧ H' D = some (.lst ((List.replicate i true).map V.bl))) ⟨s1.trans (same_new hD), upd_same⟩ (fun i H' _ q => SqL.of (q.1 _ _ ha)) ?_ ?_
    · rintro i x H' hx ⟨sm, hb⟩
      have hi : i < xs.length := by have z := (List.getElem?_eq_some_iff.mp hx).1; rwa [List.length_map] at z
      obtain ⟨r, e1, rfl⟩ := int_at hx
      obtain ⟨r1, r2⟩ := hR r (List.mem_of_getElem? e1)
      have hD0 : H D = none := by
        cases e : H D with
        | none => rfl
        | some u => exact absurd (s1 _ _ e) (by rw [hD]; intro z; cases z)
      refine ⟨rfl, _, rfl, r, rfl, true, rfl, iteT ⟨_, rfl, _, _, rfl, rfl, _, rfl, ifT r1 ⟨_, rfl, _, _, rfl, rfl, _, hb, by rw [List.length_map, List.length_replicate]; exact small_le (Nat.le_of_lt hi) (by omega), same_upd sm hD0, ?_⟩⟩⟩
      refine upd_same.trans ?_
      show some (HO.lst ((List.replicate i true).map V.bl ++ [V.bl (decide (r < n))])) = _
      rw [decide_eq_true r2, rep_more]
    rintro H2 ⟨s2, hb2⟩
    refine ⟨D, _, rfl, SqL.of hb2, true, ?_, iteF ?_⟩
    · show V.bl ((List.replicate (xs.map V.int).length true).all id) = _
      rw [rep_all]
    refine ⟨_, rfl, a, xs, rfl, SqL.of (s2 _ _ ha), hnd, by omega, _, rfl, a, _, rfl, .inl (SqL.of (s2 _ _ ha)), rfl, ?_⟩
    rw [List.length_map, decide_eq_true rfl]
    exact k _ s2
theorem ok_DS_init (T : Tx K mg) : ∃ fd : FuncData, FnOk P w K mg base CX0 3 (He.ma K (cDS K) "__init__") fd ["self", "period", "days"] (sp_DS_init K) ∧ L2.Binds K fd ["self", "period", "days"] [] := by
  obtain ⟨fd, F, b⟩ := T.b_DS_init
  refine ⟨fd, F.ok sc_DS_init (fun vs H Q E h => ?_) (fun cdv A outer s H vs Q E hr h => ?_), b⟩
  · obtain ⟨a, dx, ad, n, xs, rfl, _⟩ := h
    rfl
  · obtain ⟨a, dx, ad, n, xs, rfl, ha, had, hnd, hl, hR, hn1, hn2, k⟩ := h
    have nd := sc_DS_init.nd
    refine ⟨_, pss_cons (ps_if (pt_not (pt_val (C8.pe_c (ok_is_period T) hr (by decide) (by rfl) (pa_cons (pv 1) pa_nil)))) (pss_one ps_never) pss_nil)
      (pss_cons (ps_if (pt_not (pt_val (C8.pe_c (ok_are_days T) hr (by decide) (by rfl) (pa_cons (pv 1) (pa_cons (pv 2) pa_nil))))) (pss_one ps_never) pss_nil)
      (pss_cons (ps_set (i := 3) nd rfl (Or.inr rfl) (pe_dc (own := [("day", 5)]) (g := gName 5) (tt := tYes) rfl nd (pi_list (pv 2)) (blkOk_by (own := [("day", 5)]) (N := n_DS_init) (sc := defScope s_DS_init) (by decide +kernel)) (fun _ _ _ _ _ => pg_name (i := 5) nd rfl (Or.inl rfl)) (fun _ _ _ _ _ => pts_nil) (fun _ _ _ _ _ => pv 5) (fun _ _ _ _ _ => pe_bl)))
      (pss_cons (ps_setLc (i := 4) (own := [("day", 5)]) (g := gName 5) (tt := tYes) rfl nd rfl rfl (sw_true rfl rfl rfl (by decide +kernel)) (pi_range1 (by rfl) T.z_range (pa_cons (pv 1) pa_nil)) (blkOk_by (own := [("day", 5)]) (N := n_DS_init) (sc := defScope s_DS_init) (by decide +kernel)) (fun _ _ _ _ _ => pg_name (i := 5) nd rfl (Or.inl rfl)) (fun _ _ _ _ _ => pts_nil)
          (fun _ _ _ _ _ => pe_cmp (pc_din (hu_of hr) (pv 5) (pv 3)) rfl))
      (pss_cons (ps_fld (pv 0) (pe_slice sl_list (pv 4) po_none (po_some (C8.pe_c (ok_least T) hr (by decide) (by rfl) (pa_cons (pv 4) pa_nil)))) rfl)
      (pss_one (ps_fld (pv 0) (pe_callTy call_tuple_of (by rfl) T.z_tuple bT (pa_cons (pe_lc (own := [("day", 5), ("flag", 6)]) rfl nd (pi_enum (by rfl) T.z_enumerate (pa_cons (pe_fld (pv 0) rfl) pa_nil)) (blkOk_by (own := [("day", 5), ("flag", 6)]) (N := n_DS_init) (sc := defScope s_DS_init) (by decide +kernel)) (fun _ _ _ _ _ => pg_tupK (n := 2) K (by rfl) (pgs_cons (pg_name (i := 5) nd rfl (Or.inl rfl)) (pgs_cons (pg_name (i := 6) nd rfl (Or.inl rfl)) pgs_nil)))
          (fun _ _ _ _ _ => pts_one (pt_val (pv 6))) (fun _ _ _ _ _ => pv 5)) pa_nil)) rfl)))))), ?_⟩
    have hpe : decide (1 ≤ (n : Int) ∧ (n : Int) ≤ 200000) = true := decide_eq_true (by omega)
    refine ⟨_, rfl, n, rfl, true, by rw [hpe], iteF ?_⟩
    refine ⟨_, rfl, _, rfl, ad, xs, n, rfl, had, hnd, hl, hR, fun H1 s1 => ⟨true, rfl, iteF ?_⟩⟩
    have ha1 := s1 _ _ ha
    -- known
    refine ⟨_, rfl, ad, rfl, ⟨_, SqL.of (s1 _ _ had)⟩, fun D hD => ?_⟩
    refine dc_list (K := K) (a := ad) (xs := xs.map V.int) (fun i H' => Same H1 H' ∧ ∃ kvs : List (Key × V), H' D = some (.dK kvs) ∧ kvs.length ≤ i) ⟨same_new hD, [], upd_same, Nat.le_refl _⟩ (fun i H' q => SqL.of (q.1 _ _ (s1 _ _ had))) ?_ ?_
    · rintro i x H' hx ⟨sm, kvs, hk, hkl⟩
      obtain ⟨r, e1, rfl⟩ := int_at hx
      have hi : i < xs.length := (List.getElem?_eq_some_iff.mp e1).1
      exact ⟨rfl, _, rfl, kvs, .inl r, rfl, hk, small1000 (by omega), same_upd sm hD, _, upd_same, by have := length_putK kvs (.inl r : Key) (.bl true); omega⟩
    rintro H2 ⟨s2, kvs, hk, _⟩
    -- flags
    refine ⟨_, rfl, (n : Int), rfl, (by omega), (by omega), fun G hG => ?_⟩
    refine lc_range (lo := 0) (n := n) (fun i H' => Same H2 H' ∧ ∃ bs : List Bool, H' G = some (.lst (bs.map V.bl)) ∧ bs.length = i) ⟨same_new hG, [], upd_same, rfl⟩ ?_ ?_
    · rintro i H' hi ⟨sm, bs, hb, rfl⟩
      exact ⟨rfl, _, rfl, _, rfl, D, _, rfl, DGet.k (k := .inl (0 + (bs.length : Int))) (sm _ _ hk), _, hb, by rw [List.length_map]; exact small1000 (by omega), same_upd sm hG, _, by rw [← List.map_singleton, ← List.map_append]; exact upd_same, by simp⟩
    rintro H3 ⟨s3, bs, hb, hbl⟩
    have ha3 := s3 _ _ (s2 _ _ ha1)
    -- self.flags
    refine ⟨_, rfl, _, rfl, G, bs, rfl, hb, by omega, by omega, fun m H4 _ _ s4 => ⟨_, rfl, G, _, rfl, SqL.of (s4 _ _ hb), fun p hp => ?_⟩⟩
    obtain ⟨cs, hcs⟩ := cut_bls bs none (some (m : Int))
    have s5 := same_new (o := .lst (cutV (bs.map V.bl) none (some (m : Int)))) hp
    have hp5 : (upd H4 p (.lst (cutV (bs.map V.bl) none (some (m : Int))))) p = some (.lst (cs.map V.bl)) := by
      rw [← hcs]
      exact upd_same
    refine ⟨_, rfl, a, _, dx, _, rfl, s5 _ _ (s4 _ _ ha3), T.c_DS, T.n_DS_flags, (by show 0 < 1000; decide), ?_⟩
    have x6 : SX a (upd H4 p (.lst (cutV (bs.map V.bl) none (some (m : Int))))) (upd (upd H4 p (.lst (cutV (bs.map V.bl) none (some (m : Int))))) a (.ins (cDS K) dx (putF "flags" (.ref p) []))) := .put
    have h6 : (upd (upd H4 p (.lst (cutV (bs.map V.bl) none (some (m : Int))))) a (.ins (cDS K) dx (putF "flags" (.ref p) []))) a = some _ := upd_same
    generalize upd (upd H4 p (.lst (cutV (bs.map V.bl) none (some (m : Int))))) a (.ins (cDS K) dx (putF "flags" (.ref p) [])) = H6 at x6 h6 ⊢
    have hp6 := x6.lst (s5 _ _ (s4 _ _ ha3)) hp5
    have xx : SX a H H6 := ((((((SX.of s1).trans (.of s2)).trans (.of s3)).trans (.of s4)).trans (.of s5))).trans x6
    refine ⟨_, rfl, a, _, dx, _, _, rfl, h6, T.c_DS, T.n_DS_flags, lk_same, p, _, rfl, SqL.of hp6, fun D2 hD2 => ?_⟩
    have hcl : cs.length ≤ 1000 := by
      have e1 : (cutV (bs.map V.bl) none (some (m : Int))).length ≤ (bs.map V.bl).length := by
        unfold cutV
        rw [List.length_take, List.length_drop]
        omega
      rw [hcs, List.length_map, List.length_map] at e1
      omega
    refine out_enum (K := K) (a := p) (xs := cs.map V.bl) (fun i H' => Same H6 H' ∧ ∃ acc : List V, H' D2 = some (.lst acc) ∧ acc.length ≤ i) ⟨same_new hD2, [], upd_same, Nat.le_refl _⟩ (fun i H' q => SqL.of (q.1 _ _ hp6)) ?_ ?_
    · rintro i x T2 H' hx ⟨sm, acc, hacc, hal⟩ hT2
      have hi : i < cs.length := by have z := (List.getElem?_eq_some_iff.mp hx).1; rwa [List.length_map] at z
      obtain ⟨b, rfl⟩ : ∃ b, x = V.bl b := by
        have z := List.mem_of_getElem? hx
        obtain ⟨b, _, e⟩ := List.mem_map.mp z
        exact ⟨b, e.symm⟩
      have s7 := same_new (o := .tup [.int (i : Nat), .bl b]) hT2
      refine ⟨T2, _, rfl, SqT.of upd_same, rfl, _, _, rfl, _, _, rfl, rfl, rfl, _, rfl, b, rfl, ?_⟩
      cases b with
      | true => exact iteT ⟨_, rfl, acc, s7 _ _ hacc, small1000 (by omega), same_upd (sm.trans s7) hD2, _, upd_same, by simp; omega⟩
      | false => exact iteF ⟨sm.trans s7, acc, s7 _ _ hacc, by omega⟩
    rintro H7 ⟨s7, acc, hacc, _⟩
    refine ⟨D2, _, rfl, .inl ⟨SqL.of hacc, fun t ht => ?_⟩⟩
    have s8 := s7.trans (same_new (o := .tup acc) ht)
    refine ⟨_, rfl, a, _, dx, _, rfl, s8 _ _ h6, T.c_DS, T.n_DS_members, (by show 1 < 1000; decide), ?_⟩
    exact k _ _ ((xx.trans (.of s8)).trans .put) upd_same
end
def sp_DS_read (K : PySem.W.Frag) : Sp := fun vs H Q E => ∃ (cal : Addr) (c : CalD) (v : V), vs = [.ref (cDS K), .ref cal, v] ∧ CalAt K H cal c ∧ CalOk c ∧ VOk H v ∧
  (∀ a dx fs H', lawAns c v = none → Same H H' → H' a = some (.ins (cDS K) dx fs) → Q (.ref a) H') ∧ (∀ k x H', lawAns c v = some k → Same H H' → H' x = some (.xd [("index", .int k)]) → E (.ref (cIT K)) (some x) H')
section
variable {P : Program} {w : World} {K : PySem.W.Frag} {mg : Str → Option Value} {base : Heap}
theorem ok_DS_read (T : Tx K mg) : ∃ fd : FuncData, FnOk P w K mg base (L2.CX P w) 37 (He5.wf K (cDS K) "classmethod" "read") fd ["cls", "calendar", "text"] (sp_DS_read K) ∧ L2.Binds K fd ["cls", "calendar", "text"] [] := by
  obtain ⟨fd, F, b⟩ := T.b_DS_read
  obtain ⟨fdS, FS, OS⟩ := ok_set_in (P := P) (w := w) (base := base) T
  obtain ⟨fdD, OD, bD⟩ := ok_DS_init (P := P) (w := w) (base := base) T
  obtain ⟨dsS, vS, bS2⟩ := FS.binds1 (ps := ["calendar", "text", "with_names"]) 2 0 (by decide) rfl (fun TT kV doc pm an cdv ct us its h1 h2 => by
    match us, its, h1, h2 with
    | [_, _], [_], _, _ => exact ⟨_, rfl, rfl⟩)
  refine ⟨fd, F.okX sc_DS_read (fun vs H Q E h => ?_) (fun cdv A outer s H vs Q E hr h => ?_), b⟩
  · obtain ⟨cal, c, v, rfl, _⟩ := h
    rfl
  · obtain ⟨cal, c, v, rfl, hc, ok, hv, k, e⟩ := h
    have nd := sc_DS_read.nd
    refine ⟨_, pss_cons (ps_asg (pe_tup (pa_cons (pe_call OS (hr.mono (by decide)) (by rfl) T.g_set_in FS.kp bS2 vS (passes_call (takes_of rfl rfl rfl rfl) (fun _ _ _ _ h => h)) (pa_cons (pv 1) (pa_cons (pv 2) pa_nil))) (pa_cons (pe_pr (ok_C_period T) hr (by decide) (pv 1)) pa_nil))) (pg_tup (by rfl) (pgs_cons (pg_name (i := 3) nd rfl (.inr rfl)) (pgs_cons (pg_name (i := 4) nd rfl (.inl rfl)) pgs_nil))))
      (pss_one (ps_ret (pe_makeV (E := C8.E0) (i := 0) T.k_DS OD (hr.mono (by decide)) rfl (.inl rfl) bD C8.pass0 (pa_cons (pv 4) (pa_cons (pe_lc (own := [("day", 5)]) (g := gName 5) rfl nd (pi_range1 (by rfl) T.z_range (pa_cons (pv 4) pa_nil)) (blkOk_by (own := [("day", 5)]) (N := n_DS_read) (sc := defScope s_DS_read) (by decide +kernel)) (fun _ _ _ _ _ => pg_name (i := 5) nd rfl (Or.inl rfl))
          (fun _ _ _ _ _ => pts_one (pt_val (C8.pe_c (ok_holds T 21) hr (by decide) (by rfl) (pa_cons (pv 1) (pa_cons (pv 3) (pa_cons (pv 5) (pa_cons pe_dnewK pa_nil))))))) (fun _ _ _ _ _ => pv 5)) pa_nil))))), ?_⟩
    refine ⟨_, rfl, _, rfl, cal, c, v, rfl, hc, ok, hv, fun u H1 hn s1 hcu => ?_, fun q x H' h1 h2 h3 => e q x H' h1 h2 h3⟩
    have hc1 := hc.same s1
    obtain ⟨cdx, cfs, hca, _⟩ := hc1.ob
    refine ⟨_, rfl, cal, cdx, cfs, rfl, hca, cal, c, rfl, hc1, (by show 2 ≤ sizeLine; decide), fun t ht => ⟨t, _, rfl, SqT.of upd_same, rfl, _, _, rfl, _, _, rfl, rfl, ?_⟩⟩
    have s2 := s1.trans (same_new (o := .tup [u, .int c.per]) ht)
    have hcu2 := hcu.same (same_new (o := .tup [u, .int c.per]) ht)
    generalize upd H1 t (.tup [u, .int c.per]) = H2 at s2 hcu2 ⊢
    have hp2 := ok.per2
    have hp1 := ok.per1
    refine ⟨rfl, _, rfl, _, rfl, (c.per : Int), rfl, (by omega), (by omega), fun D hD => ?_⟩
    refine lc_range (lo := 0) (n := c.per) (fun i H' => Same H2 H' ∧ ∃ xs : List Int, H' D = some (.lst (xs.map V.int)) ∧ xs.Nodup ∧ xs.length ≤ i ∧ ∀ x ∈ xs, 0 ≤ x ∧ x < (i : Int)) ⟨same_new hD, [], upd_same, List.Pairwise.nil, Nat.le_refl _, fun _ h => nomatch h⟩ ?_ ?_
    · rintro i H' hi ⟨sm, xs, hx, hnd, hl, hb⟩
      refine ⟨rfl, _, rfl, _, rfl, _, rfl, fun dd hdd => ?_⟩
      have s3 := sm.trans (same_new (o := .dK []) hdd)
      refine ⟨cal, u, .ref dd, c, _, rfl, hc.same (s2.trans s3), ok, hcu2.same s3, fun b H3 s4 => ⟨b, rfl, ?_⟩⟩
      have hx3 := s4 _ _ ((same_new (o := .dK []) hdd) _ _ hx)
      cases b with
      | true =>
        refine iteT ⟨_, rfl, _, hx3, by rw [List.length_map]; exact small1000 (by omega), same_upd (s3.trans s4) hD, xs ++ [0 + (i : Int)], by rw [List.map_append]; exact upd_same, ?_, by simp; omega, fun x hx => ?_⟩
        · refine List.nodup_append.mpr ⟨hnd, List.Pairwise.cons (fun _ h => nomatch h) List.Pairwise.nil, fun x hx y hy => ?_⟩
          have h1 := hb x hx
          have h2 : y = 0 + (i : Int) := by simpa using hy
          omega
        · rcases List.mem_append.mp hx with hx | hx
          · have := hb x hx
            omega
          · have h2 : x = 0 + (i : Int) := by simpa using hx
            omega
      | false => exact iteF ⟨s3.trans s4, xs, hx3, hnd, by omega, fun x hx => by have := hb x hx; omega⟩
    rintro H3 ⟨s3, xs, hx, hnd, hl, hb⟩
    intro x dx hx0 hdx hne
    have s4 : Same H3 (upd (upd H3 dx (.own x)) x (.ins (cDS K) dx [])) := (same_new hdx).trans (same_new (by rw [upd_ne (fun z => hne z.symm)]; exact hx0))
    refine ⟨x, dx, D, c.per, xs, rfl, upd_same, s4 _ _ hx, hnd, by omega, hb, hp1, by omega, fun fs H4 sx hx4 => ⟨rfl, k x dx fs H4 hn (fun b o q => ?_) hx4⟩⟩
    have q3 := s3 _ _ (s2 _ _ q)
    exact sx b o (ne_of_none q3 hx0) (s4 _ _ q3)
end
end K5

set_option Elab.async false
set_option linter.all false
set_option maxRecDepth 100000
set_option maxHeartbeats 4000000
/-! Walks 21: the law's pen. -/
namespace K5
open PySem PySem.Spec PyProof.Rows L2
def penK (ca : Addr) (used left : Int) : List (Key × V) := [(.inr "cells", .ref ca), (.inr "used", .int used), (.inr "left", .int left)]
structure PenP where
  p : Addr
  ca : Addr
structure PenAt (H : Hp) (pn : PenP) (n : Nat) : Prop where
  ob : ∃ (cells : List Int) (used left : Int), H pn.p = some (.dK (penK pn.ca used left)) ∧ H pn.ca = some (.lst (cells.map V.int)) ∧ 0 ≤ used ∧ used ≤ n ∧ 0 ≤ left
theorem PenAt.mono {H : Hp} {p : PenP} {n m : Nat} (h : PenAt H p n) (k : n ≤ m) : PenAt H p m := by
  obtain ⟨cells, used, left, h1, h2, h3, h4, h5⟩ := h.ob
  exact ⟨cells, used, left, h1, h2, h3, by omega, h5⟩
theorem PenAt.same {H H' : Hp} {p : PenP} {n : Nat} (h : PenAt H p n) (s : Same H H') : PenAt H' p n := by
  obtain ⟨cells, used, left, h1, h2, h3⟩ := h.ob
  exact ⟨cells, used, left, s _ _ h1, s _ _ h2, h3⟩
/-- a new object is written to -/
theorem PenAt.fill {H H' : Hp} {p : PenP} {n m : Nat} {l : Addr} {o : HO} (h : PenAt H p n) (h' : PenAt H' p m) (hl : H l = none) : PenAt (upd H' l o) p m := by
  obtain ⟨cells, used, left, h1, h2, h3⟩ := h.ob
  obtain ⟨cells', used', left', q1, q2, q3⟩ := h'.ob
  exact ⟨cells', used', left', by rw [upd_ne (ne_of_none h1 hl)]; exact q1, by rw [upd_ne (ne_of_none h2 hl)]; exact q2, q3⟩
theorem PenAt.dk {H : Hp} {p : PenP} {n : Nat} (h : PenAt H p n) : ∃ kvs, H p.p = some (.dK kvs) := by
  obtain ⟨cells, used, left, h1, _⟩ := h.ob
  exact ⟨_, h1⟩
/-- a list of the heap that is no pen -/
theorem SX.lstD {a : Addr} {kvs : List (Key × V)} {H H' : Hp} (sx : SX a H H') (ha : H a = some (.dK kvs)) {b : Addr} {xs : List V} (e : H b = some (.lst xs)) : H' b = some (.lst xs) := sx b _ (ne_of e ha (by intro z; cases z)) e
def cutL {α : Type} (xs : List α) (lo hi : Option Int) : List α := (xs.drop (HT.sIx xs.length 0 lo)).take (HT.sIx xs.length xs.length hi - HT.sIx xs.length 0 lo)
theorem cutV_map {α : Type} (f : α → V) (xs : List α) (lo hi : Option Int) : cutV (xs.map f) lo hi = (cutL xs lo hi).map f := by
  unfold cutV cutL
  rw [List.length_map, List.map_take, List.map_drop]
theorem cutL_mem {α : Type} {xs : List α} {lo hi : Option Int} {x : α} (h : x ∈ cutL xs lo hi) : x ∈ xs := List.mem_of_mem_drop (List.mem_of_mem_take h)
theorem cutL_len {α : Type} (xs : List α) (lo hi : Option Int) : (cutL xs lo hi).length ≤ xs.length := by
  unfold cutL
  rw [List.length_take, List.length_drop]
  omega
theorem cutL_nodup {α : Type} {xs : List α} (h : xs.Nodup) (lo hi : Option Int) : (cutL xs lo hi).Nodup := by
  unfold cutL
  exact (h.sublist (List.drop_sublist _ _)).sublist (List.take_sublist _ _)
def sp_pen (K : PySem.W.Frag) : Sp := fun vs H Q _ => ∃ (a : Addr) (xs : List Int), vs = [.ref a] ∧ SqL K H a (xs.map V.int) ∧ ∀ (pn : PenP) H', Same H H' → H pn.p = none → PenAt H' pn 0 → Q (.ref pn.p) H'
def sp_draw : Sp := fun vs H Q _ => ∃ (pn : PenP) (n many : Nat), vs = [.ref pn.p, .int many] ∧ PenAt H pn n ∧ n ≤ 1000000000 ∧ 1 ≤ many ∧ many ≤ 1000000 ∧ ∀ (r : Nat) H', r < many → SX pn.p H H' → PenAt H' pn (n + 1) → Q (.int r) H'
section
variable {P : Program} {w : World} {K : PySem.W.Frag} {mg : Str → Option Value} {base : Heap}
theorem ok_pen (T : Tx K mg) : C8.Cal P w K mg base 1 "_law_pen" (sp_pen K) [] := by
  obtain ⟨fd, F⟩ := T.b_law_pen
  refine calF F T.g_law_pen sc_law_pen (fun vs H Q E h => ?_) (fun cdv A outer s H vs Q E hr h => ?_)
  · obtain ⟨a, xs, rfl, _⟩ := h
    rfl
  · obtain ⟨a, xs, rfl, ha, k⟩ := h
    refine ⟨_, pss_one (ps_ret (pe_disp (pps_cons pe_str (pe_callTy call_list_of (by rfl) T.z_list bL (pa_cons (pe_slice sl_list (pv 0) po_none (po_some pe_int)) pa_nil)) (pps_cons pe_str pe_int (pps_cons pe_str pe_int pps_nil))) (by rfl) (by rfl) (fun z => by cases z) (by decide))), ?_⟩
    intro p hp
    refine ⟨_, rfl, _, rfl, a, _, rfl, (same_new hp).seq ha, fun q hq => ⟨q, _, rfl, .inl (SqL.of upd_same), fun l hl => ?_⟩⟩
    have s1 := ((same_new (o := .dK []) hp).trans (same_new (o := .lst (cutV (xs.map V.int) none (some 63))) hq)).trans (same_new (o := .lst (cutV (xs.map V.int) none (some 63))) hl)
    have hp1 := same_new (o := .lst (cutV (xs.map V.int) none (some 63))) hl _ _ (same_new (o := .lst (cutV (xs.map V.int) none (some 63))) hq _ _ (upd_same (a := p) (o := .dK []) (H := H)))
    refine ⟨hp1, [(.inr "cells", .ref l), (.inr "used", .int 0), (.inr "left", .int 0)], rfl, (by show 3 ≤ 15; decide), ?_⟩
    refine k ⟨p, l⟩ _ (fun b u q => ?_) hp ⟨cutL xs none (some 63), 0, 0, upd_same, ?_, by omega, by omega, by omega⟩
    · rw [upd_ne (ne_of_none q hp)]
      exact s1 _ _ q
    · rw [upd_ne (ne_of (upd_same (a := l)) hp1 (by intro z; cases z))]
      refine upd_same.trans ?_
      have e := cutV_map V.int xs none (some 63)
      rw [e]
theorem ok_draw (T : Tx K mg) : C8.Cal P w K mg base 1 "_law_draw" sp_draw [] := by
  obtain ⟨fd, F⟩ := T.b_law_draw
  refine calF F T.g_law_draw sc_law_draw (fun vs H Q E h => ?_) (fun cdv A outer s H vs Q E hr h => ?_)
  · obtain ⟨p, n, many, rfl, _⟩ := h
    rfl
  · obtain ⟨⟨p, ca⟩, n, many, rfl, hpen, hn, m1, m2, k⟩ := h
    have nd := sc_law_draw.nd
    have hu := hu_of hr
    refine ⟨_, pss_cons (ps_if (pt_cmpR op_gt (pe_dget hu (pv 0) pe_str (fun _ _ => rfl)) pe_int (nomark _))
        (pss_cons (ps_set (i := 2) nd rfl (Or.inl rfl) (pe_op op_mod (pe_dget hu (pv 0) pe_str (fun _ _ => rfl)) (pv 1)))
        (pss_cons (ps_dput hu (pv 0) pe_str (pe_op op_fdiv (pe_dget hu (pv 0) pe_str (fun _ _ => rfl)) (pv 1)) rfl)
        (pss_one (ps_ret (pv 2))))) pss_nil)
      (pss_cons (ps_set (i := 3) nd rfl (Or.inl rfl) (pe_dget hu (pv 0) pe_str (fun _ _ => rfl)))
      (pss_cons (ps_dput hu (pv 0) pe_str (pe_op op_add (pv 3) pe_int) rfl)
      (pss_cons (ps_set (i := 4) nd rfl (Or.inl rfl) (pe_op op_add (pe_op op_mul pe_int (pv 3)) pe_int))
      (C8.pss_cut (ps_if (pt_cmpR (op_neD hr.units) (pe_dget hu (pv 0) pe_str (fun _ _ => rfl)) (pe_lst pa_nil) (nomark _))
        (pss_one (ps_set (i := 4) nd rfl (Or.inl rfl) (pe_ix ix_list (pe_dget hu (pv 0) pe_str (fun _ _ => rfl)) (pe_op op_mod (pv 3) (pe_callB call_len_seq (by rfl) T.z_len bLen (pa_cons (pe_dget hu (pv 0) pe_str (fun _ _ => rfl)) pa_nil))) (fun _ _ => rfl)))) pss_nil)
      (C8.pss_cut (ps_if (PW.pt (pw_and (pt_cmpR op_lt (pv 3) (pe_callB call_len_seq (by rfl) T.z_len bLen (pa_cons (pe_dget hu (pv 0) pe_str (fun _ _ => rfl)) pa_nil)) (nomark _)) (pw_and1 (pt_cmpR op_ge (pe_callB call_abs (by rfl) T.z_abs bAbs (pa_cons (pv 4) pa_nil)) (pe_op op_pow pe_int pe_int) (nomark _)))))
        (pss_cons (ps_dput hu (pv 0) pe_str (pe_op op_fdiv (pe_op op_sub (pe_callB call_abs (by rfl) T.z_abs bAbs (pa_cons (pv 4) pa_nil)) (pe_op op_pow pe_int pe_int)) (pv 1)) rfl)
        (pss_one (ps_ret (pe_op op_mod (pe_op op_sub (pe_callB call_abs (by rfl) T.z_abs bAbs (pa_cons (pv 4) pa_nil)) (pe_op op_pow pe_int pe_int)) (pv 1))))) pss_nil)
      (pss_cons (ps_set (i := 5) nd rfl (Or.inl rfl) (pe_op op_mod (pe_op op_add (pe_op op_add (pe_op op_add (pe_op op_mul (pe_op op_mod (pv 4) pe_int) pe_int) (pe_op op_mul (pe_op op_mul pe_int (pv 3)) (pv 3))) (pe_op op_mul pe_int (pv 3))) pe_int) pe_int))
      (pss_cons (ps_set (i := 5) nd rfl (Or.inl rfl) (pe_op op_mod (pe_op op_add (pe_op op_add (pe_op op_add (pe_op op_mul (pv 5) (pv 5)) (pe_op op_mul pe_int (pv 5))) (pe_op op_mul pe_int (pv 3))) pe_int) pe_int))
      (pss_one (ps_ret (pe_op op_mod (pe_op op_fdiv (pe_op op_mod (pe_op op_mul (pv 5) (pe_op op_add (pv 5) pe_int)) pe_int) pe_int) (pv 1))))))))))), ?_⟩
    obtain ⟨cells, used, left, hp, hca, u0, un, l0⟩ := hpen.ob
    have gL : ∀ {H' : Hp} {ca : Addr} {u l : Int}, H' p = some (.dK (penK ca u l)) → DGet H' p (.str "left") (some (.int l)) := fun h => DGet.k (k := .inr "left") h
    have gU : ∀ {H' : Hp} {ca : Addr} {u l : Int}, H' p = some (.dK (penK ca u l)) → DGet H' p (.str "used") (some (.int u)) := fun h => DGet.k (k := .inr "used") h
    have gC : ∀ {H' : Hp} {ca : Addr} {u l : Int}, H' p = some (.dK (penK ca u l)) → DGet H' p (.str "cells") (some (.ref ca)) := fun h => DGet.k (k := .inr "cells") h
    have res : ∀ (x : Int) H', SX p H H' → PenAt H' ⟨p, ca⟩ (n + 1) → Q (.int (x % (many : Int))) H' := fun x H' h1 h2 => by
      have a0 := Int.emod_nonneg x (show (many : Int) ≠ 0 by omega)
      have a1 := Int.emod_lt_of_pos x (show (0 : Int) < many by omega)
      have z := k (x % (many : Int)).toNat H' (by omega) h1 h2
      rw [Int.toNat_of_nonneg a0] at z
      exact z
    have kca : ∀ {H' : Hp} {o : HO}, H' p = some (.dK (penK ca (used + 1) left)) → H' ca = some (.lst (cells.map V.int)) → upd H' p o ca = some (.lst (cells.map V.int)) := fun h1 h2 => by
      rw [upd_ne (ne_of h2 h1 (by intro z; cases z))]
      exact h2
    refine ⟨_, rfl, p, .int left, rfl, gL hp, _, _, rfl, rfl, _, rfl, ?_⟩
    refine ite2 (fun hc => ?_) (fun hc => ?_)
    · have hl : 0 < left := of_decide_eq_true hc
      refine ⟨_, rfl, p, .int left, rfl, gL hp, _, rfl, _, _, rfl, rfl, (by show (0 : Int) < many; omega), ?_⟩
      refine ⟨_, rfl, p, .int left, rfl, gL hp, _, rfl, _, _, rfl, rfl, ⟨by omega, by omega⟩, _, rfl, p, _, rfl, DPut.k (k := .inr "left") hp (by show 3 < sizeLine; decide), _, rfl, ?_⟩
      refine res left _ .put ⟨cells, used, left / many, upd_same, ?_, u0, by omega, Int.ediv_nonneg l0 (by omega)⟩
      rw [upd_ne (ne_of hca hp (by intro z; cases z))]
      exact hca
    · refine ⟨_, rfl, p, .int used, rfl, gU hp, ?_⟩
      refine ⟨_, rfl, _, _, rfl, rfl, _, rfl, p, _, rfl, DPut.k (k := .inr "used") hp (by show 3 < sizeLine; decide), ?_⟩
      have hp1 : (upd H p (.dK (putK (penK ca used left) (.inr "used") (.int (used + 1))))) p = some (.dK (penK ca (used + 1) left)) := upd_same
      have hca1 : (upd H p (.dK (putK (penK ca used left) (.inr "used") (.int (used + 1))))) ca = some (.lst (cells.map V.int)) := by
        rw [upd_ne (ne_of hca hp (by intro z; cases z))]
        exact hca
      have x1 : SX p H (upd H p (.dK (putK (penK ca used left) (.inr "used") (.int (used + 1))))) := .put
      generalize upd H p (.dK (putK (penK ca used left) (.inr "used") (.int (used + 1)))) = H1 at hp1 hca1 x1 ⊢
      refine ⟨_, rfl, _, _, rfl, rfl, .inl ⟨by omega, by omega⟩, _, _, rfl, rfl, ?_⟩
      refine ⟨fun σ H2 => Same H1 H2 ∧ ∃ cell : Int, σ = [some (.ref p), some (.int many), none, some (.int used), some (.int cell), none], ?_, ?_⟩
      · refine ⟨_, rfl, p, .ref ca, rfl, gC hp1, (by decide), fun q hq => ?_⟩
        have s2 := same_new (o := .lst []) hq
        refine ⟨_, _, .lst (SqL.of (s2 _ _ hca1)) (dp_ints cells), .lst (SqL.of upd_same) .nil, ints_shapedL cells, by decide +kernel, _, rfl, ?_⟩
        cases hcs : cells with
        | nil => exact iteF ⟨s2, _, rfl⟩
        | cons x xs =>
          have e0 : PyData.eqv (.list ((x :: xs).map PyData.int)) (.list []) = false := by simp [PyData.eqv, PyData.eqvAll]
          rw [e0]
          have hl1 : 0 < cells.length := by rw [hcs]; simp
          obtain ⟨N, eN⟩ : ∃ N : Int, N = ((cells.map V.int).length : Int) := ⟨_, rfl⟩
          have eN2 : N = (cells.length : Int) := by rw [eN, List.length_map]
          have m0 : 0 ≤ used % N := Int.emod_nonneg _ (by omega)
          have m1 : used % N < N := Int.emod_lt_of_pos _ (by omega)
          have hi : (used % N).toNat < cells.length := by omega
          have hx : (cells.map V.int)[(used % N).toNat]? = some (V.int cells[(used % N).toNat]) := by rw [List.getElem?_map, List.getElem?_eq_getElem hi] <;> rfl
          refine iteT ⟨_, rfl, p, .ref ca, rfl, gC (s2 _ _ hp1), _, rfl, _, rfl, p, .ref ca, rfl, gC (s2 _ _ hp1), ca, _, rfl, .inl (SqL.of (s2 _ _ hca1)), _, _, rfl, rfl, (by rw [← eN]; omega), ca, _, _, _, rfl, rfl, SqL.of (s2 _ _ hca1), at_of (by rw [← eN]; omega) hx, s2, _, rfl⟩
      rintro σ H2 ⟨s2, cell, rfl⟩
      have hp2 := s2 _ _ hp1
      have hca2 := s2 _ _ hca1
      have x2 := x1.trans (.of s2)
      refine ⟨fun σ H3 => H3 = H2 ∧ σ = [some (.ref p), some (.int many), none, some (.int used), some (.int cell), none], ?_, ?_⟩
      · refine ⟨_, rfl, _, rfl, p, .ref ca, rfl, gC hp2, ca, _, rfl, .inl (SqL.of hca2), _, _, rfl, rfl, _, rfl, ?_⟩
        refine ite2 (fun _ => ?_) (fun _ => ⟨rfl, rfl⟩)
        refine ⟨_, rfl, _, rfl, _, _, rfl, rfl, (by show (0 : Int) ≤ 18 ∧ (18 : Int) ≤ 1000000 ∧ (10 : Int).natAbs < 2 ^ 64; decide), _, _, rfl, rfl, _, rfl, ?_⟩
        refine ite2 (fun hb => ?_) (fun _ => ⟨rfl, rfl⟩)
        have hb' := of_decide_eq_true hb
        obtain ⟨A1, eA⟩ : ∃ A1 : Int, A1 = (if cell < 0 then -cell else cell) := ⟨_, rfl⟩
        refine ⟨_, rfl, _, rfl, _, _, rfl, rfl, (by show (0 : Int) ≤ 18 ∧ (18 : Int) ≤ 1000000 ∧ (10 : Int).natAbs < 2 ^ 64; decide), _, _, rfl, rfl, _, rfl, _, _, rfl, rfl, ⟨by omega, by omega⟩, _, rfl, p, _, rfl, DPut.k (k := .inr "left") hp2 (by show 3 < sizeLine; decide), ?_⟩
        refine ⟨_, rfl, _, rfl, _, _, rfl, rfl, (by show (0 : Int) ≤ 18 ∧ (18 : Int) ≤ 1000000 ∧ (10 : Int).natAbs < 2 ^ 64; decide), _, _, rfl, rfl, _, rfl, _, _, rfl, rfl, (by show (0 : Int) < many; omega), ?_⟩
        refine res _ _ (x2.trans .put) ⟨cells, used + 1, _, upd_same, kca hp2 hca2, by omega, by omega, Int.ediv_nonneg (Int.sub_nonneg.mpr hb') (by omega)⟩
      rintro σ H3 ⟨rfl, rfl⟩
      have c0 := Int.emod_nonneg cell (show (2147483629 : Int) ≠ 0 by decide)
      have c1 := Int.emod_lt_of_pos cell (show (0 : Int) < 2147483629 by decide)
      refine ⟨_, rfl, _, _, rfl, rfl, (by show (0 : Int) < 2147483629; decide), _, _, rfl, rfl, .inl ⟨by omega, by omega⟩, _, rfl, _, _, rfl, rfl, .inl ⟨by omega, by omega⟩, _, rfl, _, _, rfl, rfl, .inl ⟨by omega, by omega⟩, _, _, rfl, rfl, _, rfl, _, _, rfl, rfl, .inl ⟨by omega, by omega⟩, _, _, rfl, rfl, _, _, rfl, rfl, _, _, rfl, rfl, (by show (0 : Int) < 2147483647; decide), ?_⟩
      refine ⟨_, rfl, _, rfl, _, _, rfl, rfl, .inl ⟨by omega, by omega⟩, _, rfl, _, _, rfl, rfl, .inl ⟨by omega, by omega⟩, _, _, rfl, rfl, _, rfl, _, _, rfl, rfl, .inl ⟨by omega, by omega⟩, _, _, rfl, rfl, _, _, rfl, rfl, _, _, rfl, rfl, (by show (0 : Int) < 2147483587; decide), ?_⟩
      refine ⟨_, rfl, _, rfl, _, _, rfl, rfl, _, _, rfl, rfl, .inl ⟨by omega, by omega⟩, _, _, rfl, rfl, (by show (0 : Int) < 2147483563; decide), _, _, rfl, rfl, ⟨by decide, by decide⟩, _, rfl, _, _, rfl, rfl, (by show (0 : Int) < many; omega), ?_⟩
      exact res _ _ x2 ⟨cells, used + 1, left, hp2, hca2, by omega, by omega, l0⟩
end
end K5

set_option Elab.async false
set_option linter.all false
set_option maxRecDepth 100000
set_option maxHeartbeats 4000000
/-! Walks 22: the law's pick, its days. -/
namespace K5
open PySem PySem.Spec PyProof.Rows L2
def plK (ay al ar ah : Addr) (w f : Int) : List (Key × V) := [(.inr "years", .ref ay), (.inr "lengths", .ref al), (.inr "week", .int w), (.inr "first", .int f), (.inr "rest", .ref ar), (.inr "holidays", .ref ah)]
structure PlainAt (H : Hp) (p : Addr) (c : CalD) : Prop where
  ob : ∃ (ay al ar ah : Addr) (bs hs : List Addr), H p = some (.dK (plK ay al ar ah c.w c.f)) ∧ H ay = some (.lst (bs.map V.ref)) ∧ RowsL H bs c.Y ∧ H al = some (.lst (c.ls.map V.int)) ∧ H ar = some (.lst (c.R.map V.int)) ∧ H ah = some (.lst (hs.map V.ref)) ∧ PairsL H hs c.HD
theorem PlainAt.same {H H' : Hp} {p : Addr} {c : CalD} (h : PlainAt H p c) (s : Same H H') : PlainAt H' p c := by
  obtain ⟨ay, al, ar, ah, bs, hs, h1, h2, h3, h4, h5, h6, h7⟩ := h.ob
  exact ⟨ay, al, ar, ah, bs, hs, s _ _ h1, s _ _ h2, Paired.same (fun _ _ q => s _ _ q) h3, s _ _ h4, s _ _ h5, s _ _ h6, Paired.same (fun _ _ q => s _ _ q) h7⟩
def sp_pick : Sp := fun vs H Q _ => ∃ (p : PenP) (n : Nat) (v : V), vs = [.ref p.p, v] ∧ PenAt H p n ∧ n ≤ 1000000000 ∧
  ((∃ l xs, v = .ref l ∧ H l = some (.lst xs) ∧ 1 ≤ xs.length ∧ xs.length ≤ 1000 ∧ ∀ x H', x ∈ xs → SX p.p H H' → PenAt H' p (n + 1) → Q x H') ∨
   (∃ z : Str, v = .str z ∧ 1 ≤ z.length ∧ z.length ≤ 1000 ∧ ∀ c H', c ∈ z.cps.toList → SX p.p H H' → PenAt H' p (n + 1) → Q (.str ⟨#[c]⟩) H'))
def sp_shuffled : Sp := fun vs H Q _ => ∃ (p : PenP) (l : Addr) (n : Nat) (xs : List Int), vs = [.ref p.p, .ref l] ∧ PenAt H p n ∧ n ≤ 900000000 ∧ H l = some (.lst (xs.map V.int)) ∧ xs.length ≤ 10 ∧
  ∀ (ys : List Int) (q : Addr) H', ys.Perm xs → SX p.p H H' → PenAt H' p (n + 10) → H' q = some (.lst (ys.map V.int)) → Q (.ref q) H'
def sp_cycle : Sp := fun vs H Q _ => ∃ (p : Addr) (c : CalD), vs = [.ref p] ∧ PlainAt H p c ∧ CalOk c ∧ Q (.int c.per) H
def sp_place : Sp := fun vs H Q _ => ∃ (p : Addr) (c : CalD) (d : Int), vs = [.ref p, .int d] ∧ PlainAt H p c ∧ CalOk c ∧ ∀ (q : Addr) H', Same H H' → H' q = some (.tup [.int (d / c.S * c.ls.length + (c.loc d).1), .int (c.loc d).2]) → Q (.ref q) H'
def sp_lweekday : Sp := fun vs H Q _ => ∃ (p : Addr) (c : CalD) (d : Int), vs = [.ref p, .int d] ∧ PlainAt H p c ∧ CalOk c ∧ Q (.int ((d + c.f) % c.w)) H
def sp_is_rest : Sp := fun vs H Q _ => ∃ (p : Addr) (c : CalD) (d : Int), vs = [.ref p, .int d] ∧ PlainAt H p c ∧ CalOk c ∧ ∀ H', Same H H' → Q (.bl (c.isRest d)) H'
theorem seqIx {i : Nat} {n : Nat} (h : i < n) : seqIndex? (i : Int) n = some i := by
  unfold seqIndex?
  have e : (if (i : Int) < 0 then (i : Int) + (n : Int) else (i : Int)) = (i : Int) := if_neg (by omega)
  simp only [e]
  rw [if_pos (by simp; omega)]
  simp
theorem erase_map {α β : Type} (f : α → β) : ∀ (xs : List α) (k : Nat), (xs.map f).eraseIdx k = (xs.eraseIdx k).map f
  | [], _ => rfl
  | _ :: _, 0 => rfl
  | x :: xs, k + 1 => by simp [erase_map f xs k]
theorem erase_perm {α : Type} : ∀ {xs : List α} {k : Nat} {x : α}, xs[k]? = some x → (x :: xs.eraseIdx k).Perm xs
  | [], _, _, h => by simp at h
  | y :: ys, 0, x, h => by
    have e : y = x := by simpa using h
    subst e
    exact .refl _
  | y :: ys, k + 1, x, h => by
    have ih := erase_perm (xs := ys) (k := k) (x := x) (by simpa using h)
    exact (List.Perm.swap y x _).trans (ih.cons y)
section
variable {P : Program} {w : World} {K : PySem.W.Frag} {mg : Str → Option Value} {base : Heap}
theorem ok_pick (T : Tx K mg) : C8.Cal P w K mg base 2 "_law_pick" sp_pick [] := by
  obtain ⟨fd, F⟩ := T.b_law_pick
  refine calF F T.g_law_pick sc_law_pick (fun vs H Q E h => ?_) (fun cdv A outer s H vs Q E hr h => ?_)
  · obtain ⟨p, n, v, rfl, _⟩ := h
    rfl
  · obtain ⟨p, n, v, rfl, hp, hn, h⟩ := h
    refine ⟨_, pss_one <| ps_ret <| pe_ix ix_seq (pv 1) (C8.pe_c (ok_draw T) hr (by decide) (by rfl) (pa_cons (pv 0) (pa_cons (pe_callB call_len (by rfl) T.z_len bLen (pa_cons (pv 1) pa_nil)) pa_nil))) (fun _ _ => rfl), ?_⟩
    rcases h with ⟨l, xs, rfl, hl, h1, h2, k⟩ | ⟨z, rfl, h1, h2, k⟩
    · refine ⟨_, rfl, _, rfl, _, rfl, _, xs.length, rfl, .inl ⟨_, SqL.of hl, rfl⟩, p, n, xs.length, rfl, hp, hn, h1, (by omega), fun r H' hr sx hp' => ?_⟩
      obtain ⟨x, hx⟩ : ∃ x, xs[r]? = some x := ⟨_, List.getElem?_eq_getElem hr⟩
      obtain ⟨kvs, h3⟩ := hp.dk
      exact .inl ⟨l, xs, _, x, rfl, rfl, SqL.of (sx.lstD h3 hl), atI_nat hx, k x H' (List.mem_of_getElem? hx) sx hp'⟩
    · refine ⟨_, rfl, _, rfl, _, rfl, _, z.length, rfl, ⟨by have := sizeLine_eq; omega, rfl⟩, p, n, z.length, rfl, hp, hn, h1, (by omega), fun r H' hr sx hp' => ?_⟩
      obtain ⟨x, hx⟩ : ∃ x, z.cps.toList[r]? = some x := ⟨_, List.getElem?_eq_getElem (by rw [Array.length_toList]; exact hr)⟩
      exact .inr (.inr ⟨z, _, x, rfl, rfl, by have := sizeLine_eq; omega, atI_nat hx, k x H' (List.mem_of_getElem? hx) sx hp'⟩)
theorem ok_lgcd (T : Tx K mg) : C8.Cal P w K mg base 1 "_law_gcd" sp_gcd [] := by
  obtain ⟨fd, F⟩ := T.b_law_gcd
  refine calF F T.g_law_gcd sc_law_gcd (fun vs H Q E h => ?_) (fun cdv A outer s H vs Q E hr h => ?_)
  · obtain ⟨a, b, rfl, _⟩ := h
    rfl
  · obtain ⟨a, b, rfl, k⟩ := h
    refine ⟨_, pss_cons (ps_par (i := 0) (j := 1) rfl sc_law_gcd.nd rfl rfl (by decide) rfl rfl (pa_cons (pe_callB call_abs (by rfl) T.z_abs bAbs (pa_cons (pv 0) pa_nil)) (pa_cons (pe_callB call_abs (by rfl) T.z_abs bAbs (pa_cons (pv 1) pa_nil)) pa_nil)) (by rfl))
      (pss_cons (ps_while PassesOwn.never (pt_cmpR op_gt (pv 1) pe_int (nomark _))
        (pss_one (ps_par (i := 0) (j := 1) rfl sc_law_gcd.nd rfl rfl (by decide) rfl rfl (pa_cons (pv 1) (pa_cons (pe_op op_mod (pv 0) (pv 1)) pa_nil)) (by rfl))))
      (pss_one (ps_ret (pv 0)))), ?_⟩
    refine ⟨_, rfl, _, rfl, _, rfl, _, rfl, _, _, rfl, ?_⟩
    have ea : (if (a : Int) < 0 then -(a : Int) else (a : Int)) = (a : Int) := if_neg (by omega)
    have eb : (if (b : Int) < 0 then -(b : Int) else (b : Int)) = (b : Int) := if_neg (by omega)
    rw [ea, eb]
    refine ⟨fun m σ H' => ∃ x y : Nat, σ = [some (.int x), some (.int y)] ∧ H' = H ∧ m = y ∧ Nat.gcd x y = Nat.gcd a b, ⟨b, a, b, rfl, rfl, rfl, rfl⟩, ?_⟩
    rintro m σ H' ⟨x, y, rfl, rfl, rfl, e⟩
    refine ⟨_, rfl, _, _, rfl, rfl, _, rfl, ?_⟩
    refine ite2 (fun hc => ?_) (fun hc => ?_)
    · have hy : 0 < m := by have := of_decide_eq_true hc; omega
      refine ⟨fun σ H2 => ∃ x2 y2 : Nat, σ = [some (.int x2), some (.int y2)] ∧ H2 = H' ∧ y2 < m ∧ Nat.gcd x2 y2 = Nat.gcd a b, fun σ' H2 ⟨x2, y2, e1, e2, e3, e4⟩ => ⟨y2, e3, x2, y2, e1, e2, rfl, e4⟩, ?_⟩
      refine ⟨_, rfl, _, rfl, _, rfl, _, _, rfl, rfl, (by show (0 : Int) < (m : Int); omega), _, _, rfl, m, x % m, ?_, rfl, Nat.mod_lt _ hy, ?_⟩
      · show [some (V.int (m : Int)), some (V.int ((x : Int) % (m : Int)))] = _
        rw [Int.natCast_emod] <;> rfl
      · rw [← e, Nat.gcd_comm m, ← Nat.gcd_rec, Nat.gcd_comm]
    · have hy : m = 0 := by
        have : ¬ (0 : Int) < (m : Int) := fun z => hc (decide_eq_true z)
        omega
      subst hy
      rw [Nat.gcd_zero_right] at e
      refine ⟨_, rfl, ?_⟩
      rw [← e] at k
      exact k
theorem ok_lmult (T : Tx K mg) : C8.Cal P w K mg base 2 "_law_multiple" sp_lcm [] := by
  obtain ⟨fd, F⟩ := T.b_law_multiple
  refine calF F T.g_law_multiple sc_law_multiple (fun vs H Q E h => ?_) (fun cdv A outer s H vs Q E hr h => ?_)
  · obtain ⟨a, b, rfl, _⟩ := h
    rfl
  · obtain ⟨a, b, rfl, ha, ha2, hb, hb2, k⟩ := h
    refine ⟨_, pss_one (ps_ret (pe_op op_mul (pe_op op_fdiv (pv 0) (C8.pe_c (ok_lgcd T) hr (by decide) (by rfl) (pa_cons (pv 0) (pa_cons (pv 1) pa_nil)))) (pv 1))), ?_⟩
    have hg : 0 < Nat.gcd a b := Nat.gcd_pos_of_pos_left _ ha
    have hg2 : Nat.gcd a b ≤ a := Nat.gcd_le_left _ ha
    refine ⟨_, rfl, _, rfl, _, rfl, a, b, rfl, ?_⟩
    refine ⟨_, _, rfl, rfl, ⟨by omega, by omega⟩, _, rfl, _, _, rfl, rfl, .inr ⟨by omega, by omega⟩, ?_⟩
    have e : ((a : Int) / ((Nat.gcd a b : Nat) : Int)) * (b : Int) = ((Nat.lcm a b : Nat) : Int) := by
      rw [← Int.natCast_ediv, ← Int.natCast_mul]
      congr 1
      unfold Nat.lcm
      rw [Nat.mul_comm, ← Nat.mul_div_assoc _ (Nat.gcd_dvd_left a b), Nat.mul_comm]
    show Q (V.int ((a : Int) / ((Nat.gcd a b : Nat) : Int) * (b : Int))) H
    rw [e]
    exact k
theorem ok_shuffled (T : Tx K mg) : C8.Cal P w K mg base 2 "_law_shuffled" sp_shuffled [] := by
  obtain ⟨fd, F⟩ := T.b_law_shuffled
  refine calF F T.g_law_shuffled sc_law_shuffled (fun vs H Q E h => ?_) (fun cdv A outer s H vs Q E hr h => ?_)
  · obtain ⟨p, l, n, xs, rfl, _⟩ := h
    rfl
  · obtain ⟨p, l, n, xs, rfl, hp, hn, hl, hx, k⟩ := h
    have nd := sc_law_shuffled.nd
    refine ⟨_, pss_cons (ps_par (i := 2) (j := 3) rfl nd rfl rfl (by decide) rfl rfl (pa_cons (pe_callTy call_list_of (by rfl) T.z_list bL (pa_cons (pv 1) pa_nil)) (pa_cons (pe_lst pa_nil) pa_nil)) (by rfl)) <|
      pss_cons (ps_while PassesOwn.never (pt_cmpR (op_neD hr.units) (pv 2) (pe_lst pa_nil) (nomark _))
        (pss_one <| ps_expr <| pe_bm PySem.F.plainAttrs_list PySem.F.slot_list_append PySem.F.type_list_append mt_append (pv 3) <| pa_cons (pe_bm PySem.F.plainAttrs_list PySem.F.slot_list_pop PySem.F.type_list_pop mt_popAt (pv 2) <|
          pa_cons (C8.pe_c (ok_draw T) hr (by decide) (by rfl) (pa_cons (pv 0) (pa_cons (pe_callB call_len_seq (by rfl) T.z_len bLen (pa_cons (pv 2) pa_nil)) pa_nil))) pa_nil) pa_nil)) <|
      pss_one (ps_ret (pv 3)), ?_⟩
    refine ⟨_, rfl, l, _, rfl, .inl (SqL.of hl), fun i hi => ⟨(by show 0 ≤ sizeLine; decide), fun f hf => ⟨_, _, rfl, ?_⟩⟩⟩
    have s1 := same_new (o := .lst (xs.map V.int)) hi
    have s2 := same_new (o := .lst []) hf
    have i0 : H i = none := hi
    have f0 : H f = none := by
      cases e : H f with
      | none => rfl
      | some u => exact absurd (s1 _ _ e) (by rw [hf]; intro z; cases z)
    refine ⟨fun m σ H' => ∃ idle found : List Int, σ = [some (.ref p.p), some (.ref l), some (.ref i), some (.ref f)] ∧ m = idle.length ∧ H' i = some (.lst (idle.map V.int)) ∧ H' f = some (.lst (found.map V.int)) ∧ i ≠ f ∧ (found ++ idle).Perm xs ∧ SX p.p H H' ∧ PenAt H' p (n + found.length),
      ⟨_, xs, [], rfl, rfl, s2 _ _ upd_same, upd_same, ne_of_none upd_same hf, .refl _, (SX.of s1).trans (.of s2), (hp.same s1).same s2⟩, ?_⟩
    rintro m σ H' ⟨idle, found, rfl, rfl, hI, hF, hne, hperm, sx, hP⟩
    have hlen : found.length + idle.length = xs.length := by
      have := hperm.length_eq
      rwa [List.length_append] at this
    refine ⟨_, rfl, (by show 0 ≤ sizeLine; decide), fun q hq => ?_⟩
    have s3 := same_new (o := .lst []) hq
    refine ⟨_, _, .lst (SqL.of (s3 _ _ hI)) (dp_ints idle), .lst (SqL.of upd_same) .nil, ints_shapedL idle, by decide +kernel, _, rfl, ?_⟩
    cases hid : idle with
    | nil =>
      subst hid
      have hp2 : found.Perm xs := by simpa using hperm
      refine iteF ⟨_, rfl, k found f _ hp2 (sx.trans (.of s3)) ((hP.same s3).mono (by have := hp2.length_eq; omega)) (s3 _ _ hF)⟩
    | cons x0 r0 =>
      have e0 : PyData.eqv (.list ((x0 :: r0).map PyData.int)) (.list []) = false := by simp [PyData.eqv, PyData.eqvAll]
      rw [e0]
      have hl1 : 1 ≤ idle.length := by rw [hid]; simp
      refine iteT ⟨fun σ' H2 => ∃ idle2 found2 : List Int, σ' = [some (.ref p.p), some (.ref l), some (.ref i), some (.ref f)] ∧ idle2.length < (x0 :: r0).length ∧ H2 i = some (.lst (idle2.map V.int)) ∧ H2 f = some (.lst (found2.map V.int)) ∧ i ≠ f ∧ (found2 ++ idle2).Perm xs ∧ SX p.p H H2 ∧ PenAt H2 p (n + found2.length),
        fun σ' H2 ⟨i2, f2, h1, h2, h3⟩ => ⟨_, h2, i2, f2, h1, rfl, h3⟩, ?_⟩
      refine ⟨_, rfl, .inl ⟨rfl, _, SqL.of (s3 _ _ hF)⟩, _, rfl, .inl ⟨rfl, _, SqL.of (s3 _ _ hI)⟩, _, rfl, _, rfl, i, _, rfl, .inl (SqL.of (s3 _ _ hI)), p, n + found.length, idle.length, by rw [List.length_map] <;> rfl, hP.same s3, by omega, hl1, by omega, fun r H2 hr sx2 hP2 => ?_⟩
      obtain ⟨kvd, hpd⟩ := (hP.same s3).dk
      have hI2 := sx2.lstD hpd (s3 _ _ hI)
      have hF2 := sx2.lstD hpd (s3 _ _ hF)
      have hx2 : (idle.map V.int)[r]? = some (V.int idle[r]) := by rw [List.getElem?_map, List.getElem?_eq_getElem hr] <;> rfl
      refine ⟨i, _, _, r, _, rfl, rfl, hI2, by omega, by omega, by rw [List.length_map]; exact seqIx hr, hx2, ?_⟩
      have hF3 : upd H2 i (.lst ((idle.map V.int).eraseIdx r)) f = some (.lst (found.map V.int)) := by
        rw [upd_ne (fun z => hne z.symm)]
        exact hF2
      refine ⟨f, _, _, rfl, rfl, hF3, by rw [List.length_map]; exact small1000 (by omega), idle.eraseIdx r, found ++ [idle[r]], rfl, ?_, ?_, ?_, hne, ?_, ?_, ?_⟩
      · rw [List.length_eraseIdx, if_pos hr, ← hid]
        omega
      · rw [upd_ne hne]
        refine upd_same.trans ?_
        rw [erase_map]
      · rw [List.map_append]
        exact upd_same
      · rw [List.append_assoc]
        exact ((List.Perm.append_left found (erase_perm (List.getElem?_eq_getElem hr))).trans hperm)
      · have h1 : H i = none := i0
        exact ((((sx.trans (.of s3)).trans sx2).fill i0).fill f0)
      · refine (hp.fill (hp.fill hP2 i0) f0).mono ?_
        simp
        omega
end
end K5

set_option Elab.async false
set_option linter.all false
set_option maxRecDepth 100000
set_option maxHeartbeats 4000000
/-! Walks 23: the law's days, its calendar opened. -/
namespace K5
open PySem PySem.Spec PyProof.Rows L2
theorem bSum : bootBuiltins "sum" = some (.builtin "sum") := by decide +kernel
def sp_opened (K : PySem.W.Frag) : Sp := fun vs H Q _ => ∃ (p : Addr) (c : CalD), vs = [.ref p] ∧ PlainAt H p c ∧ CalOk c ∧ HasWork c ∧ ∀ a H', Same H H' → CalAt K H' a c → Q (.ref a) H'
section
variable {H : Hp} {p ay al ar ah : Addr} {w f : Int}
theorem gYears (h : H p = some (.dK (plK ay al ar ah w f))) : DGet H p (.str "years") (some (.ref ay)) := DGet.k (k := .inr "years") h
theorem gLengths (h : H p = some (.dK (plK ay al ar ah w f))) : DGet H p (.str "lengths") (some (.ref al)) := DGet.k (k := .inr "lengths") h
theorem gWeek (h : H p = some (.dK (plK ay al ar ah w f))) : DGet H p (.str "week") (some (.int w)) := DGet.k (k := .inr "week") h
theorem gFirst (h : H p = some (.dK (plK ay al ar ah w f))) : DGet H p (.str "first") (some (.int f)) := DGet.k (k := .inr "first") h
theorem gRest (h : H p = some (.dK (plK ay al ar ah w f))) : DGet H p (.str "rest") (some (.ref ar)) := DGet.k (k := .inr "rest") h
theorem gHol (h : H p = some (.dK (plK ay al ar ah w f))) : DGet H p (.str "holidays") (some (.ref ah)) := DGet.k (k := .inr "holidays") h
end
section
variable {P : Program} {w : World} {K : PySem.W.Frag} {mg : Str → Option Value} {base : Heap}
theorem ok_cycle (T : Tx K mg) : C8.Cal P w K mg base 3 "_law_cycle" sp_cycle [] := by
  obtain ⟨fd, F⟩ := T.b_law_cycle
  refine calF F T.g_law_cycle sc_law_cycle (fun vs H Q E h => ?_) (fun cdv A outer s H vs Q E hr h => ?_)
  · obtain ⟨p, c, rfl, _⟩ := h
    rfl
  · obtain ⟨p, c, rfl, hp, ok, k⟩ := h
    have hu := hu_of hr
    refine ⟨_, pss_one <| ps_ret <| C8.pe_c (ok_lmult T) hr (by decide) (by rfl) <| pa_cons (pe_callB (cr_sum rfl) (by rfl) T.z_sum bSum (pa_cons (pe_dget hu (pv 0) pe_str (fun _ _ => rfl)) pa_nil)) <| pa_cons (pe_dget hu (pv 0) pe_str (fun _ _ => rfl)) pa_nil, ?_⟩
    obtain ⟨ay, al, ar, ah, bs, hs, h1, h2, h3, h4, h5, h6, h7⟩ := hp.ob
    have a1 := ok.s
    have a2 := ok.s1
    have a3 := ok.w1
    have a4 := ok.w2
    refine ⟨_, rfl, p, _, rfl, gLengths h1, al, c.ls, rfl, SqL.of h4, _, rfl, p, _, rfl, gWeek h1, c.S.toNat, c.w.toNat, ?_, by omega, by omega, by omega, by omega, k⟩
    rw [sumI_eq, Int.toNat_of_nonneg (show 0 ≤ c.S by omega), Int.toNat_of_nonneg (show 0 ≤ c.w by omega)] <;> rfl
theorem ok_place (T : Tx K mg) : C8.Cal P w K mg base 1 "_law_place" sp_place [] := by
  obtain ⟨fd, F⟩ := T.b_law_place
  refine calF F T.g_law_place sc_law_place (fun vs H Q E h => ?_) (fun cdv A outer s H vs Q E hr h => ?_)
  · obtain ⟨p, c, d, rfl, _⟩ := h
    rfl
  · obtain ⟨p, c, d, rfl, hp, ok, k⟩ := h
    have hu := hu_of hr
    have nd := sc_law_place.nd
    refine ⟨_, pss_cons (ps_set (i := 2) nd rfl (Or.inl rfl) (pe_dget hu (pv 0) pe_str (fun _ _ => rfl))) <|
      pss_cons (ps_par (i := 3) (j := 4) rfl nd rfl rfl (by decide) rfl rfl (pa_cons (pe_op op_mul (pe_op op_fdiv (pv 1) (pe_callB (cr_sum rfl) (by rfl) T.z_sum bSum (pa_cons (pv 2) pa_nil))) (pe_callB call_len_seq (by rfl) T.z_len bLen (pa_cons (pv 2) pa_nil))) (pa_cons (pe_op op_mod (pv 1) (pe_callB (cr_sum rfl) (by rfl) T.z_sum bSum (pa_cons (pv 2) pa_nil))) pa_nil)) (by rfl)) <|
      pss_cons (ps_for PassesOwn.never rfl (pi_list (pv 2)) (pg_name (i := 5) nd rfl (.inl rfl))
        (pss_cons (ps_if (pt_cmpR op_lt (pv 4) (pv 5) (nomark _)) (pss_one (ps_ret (pe_tup (pa_cons (pv 3) (pa_cons (pv 4) pa_nil))))) pss_nil)
          (pss_one (ps_par (i := 3) (j := 4) rfl nd rfl rfl (by decide) rfl rfl (pa_cons (pe_op op_add (pv 3) pe_int) (pa_cons (pe_op op_sub (pv 4) (pv 5)) pa_nil)) (by rfl))))) <|
      pss_one (ps_ret pe_non), ?_⟩
    obtain ⟨ay, al, ar, ah, bs, hs, h1, h2, h3, h4, h5, h6, h7⟩ := hp.ob
    have a1 := ok.s
    have a2 := ok.s1
    have b1 := ok.ln1
    have b2 := ok.ln2
    have eS : c.ls.sum = c.S := sumI_eq c.ls
    have m0 : 0 ≤ d % c.S := Int.emod_nonneg _ (by omega)
    have m1 : d % c.S < c.S := Int.emod_lt_of_pos _ (by omega)
    refine ⟨_, rfl, p, _, rfl, gLengths h1, _, rfl, _, rfl, al, c.ls, rfl, SqL.of h4, _, _, rfl, rfl, (by rw [eS]; exact ⟨by omega, by omega⟩), _, rfl, al, _, rfl, .inl (SqL.of h4), _, _, rfl, rfl, .inr (by rw [List.length_map]; exact ⟨by omega, by omega⟩), _, rfl, _, rfl, al, c.ls, rfl, SqL.of h4, _, _, rfl, rfl, (by rw [eS]; omega), _, _, rfl, ?_⟩
    refine ⟨_, rfl, al, rfl, ⟨_, SqL.of h4⟩, ?_⟩
    refine for_list (K := K) (a := al) (xs := c.ls.map V.int) (fun i σ H' => H' = H ∧ ∃ (n idle : Int) (v : Option V), σ = [some (.ref p), some (.int d), some (.ref al), some (.int n), some (.int idle), v] ∧ n = d / c.S * c.ls.length + i ∧ 0 ≤ idle ∧ idle = d % c.S - sumI (c.ls.take i) ∧ (c.loc d).1 = (locate (c.ls.drop i) idle).1 + i ∧ (c.loc d).2 = (locate (c.ls.drop i) idle).2)
      ⟨rfl, _, _, none, rfl, ?_, ?_, ?_, ?_, ?_⟩ (fun i σ H' _ q => by obtain ⟨rfl, _⟩ := q; exact SqL.of h4) ?_ ?_
    · show d / c.ls.sum * ((c.ls.map V.int).length : Int) = _
      rw [eS, List.length_map]
      simp
    · show 0 ≤ d % c.ls.sum
      rw [eS]
      exact m0
    · show d % c.ls.sum = _
      rw [eS]
      simp [sumI]
    · show _ = (locate c.ls (d % c.ls.sum)).1 + 0
      rw [eS]
      rfl
    · show _ = (locate c.ls (d % c.ls.sum)).2
      rw [eS]
      rfl
    · rintro i x σ H' hx ⟨rfl, n, idle, v, rfl, e1, e2, e3, e4, e5⟩
      obtain ⟨y, ey, rfl⟩ := int_at hx
      have hi : i < c.ls.length := (List.getElem?_eq_some_iff.mp ey).1
      have ed : c.ls.drop i = y :: c.ls.drop (i + 1) := by
        rw [List.drop_eq_getElem_cons hi, (List.getElem?_eq_some_iff.mp ey).2]
      rw [ed] at e4 e5
      refine ⟨_, rfl, _, rfl, _, _, rfl, rfl, _, rfl, ?_⟩
      refine ite2 (fun hc => ?_) (fun hc => ?_)
      · have hlt : idle < y := of_decide_eq_true hc
        simp only [locate] at e4 e5
        rw [if_pos hlt] at e4 e5
        refine ⟨_, rfl, _, rfl, (by show 2 ≤ sizeLine; decide), fun q hq => k q _ (same_new hq) (upd_same.trans ?_)⟩
        rw [e1, e4, e5]
        simp
      · have hlt : ¬ idle < y := fun z => hc (decide_eq_true z)
        simp only [locate] at e4 e5
        rw [if_neg hlt] at e4 e5
        refine ⟨_, rfl, _, _, rfl, rfl, _, rfl, _, rfl, _, _, rfl, rfl, _, _, rfl, rfl, _, _, _, rfl, ?_, by omega, ?_, ?_, e5⟩
        · rw [e1]
          omega
        · rw [List.take_succ, ey, sumI_app, e3]
          simp [sumI]
          omega
        · rw [e4]
          omega
    · rintro σ H' ⟨rfl, n, idle, v, rfl, e1, e2, e3, e4, e5⟩
      rw [List.length_map, List.take_length] at e3
      have : sumI c.ls = c.S := rfl
      omega
theorem ok_lweekday (T : Tx K mg) : C8.Cal P w K mg base 1 "_law_weekday" sp_lweekday [] := by
  obtain ⟨fd, F⟩ := T.b_law_weekday
  refine calF F T.g_law_weekday sc_law_weekday (fun vs H Q E h => ?_) (fun cdv A outer s H vs Q E hr h => ?_)
  · obtain ⟨p, c, d, rfl, _⟩ := h
    rfl
  · obtain ⟨p, c, d, rfl, hp, ok, k⟩ := h
    have hu := hu_of hr
    refine ⟨_, pss_one <| ps_ret <| pe_op op_mod (pe_op op_add (pv 1) (pe_dget hu (pv 0) pe_str (fun _ _ => rfl))) (pe_dget hu (pv 0) pe_str (fun _ _ => rfl)), ?_⟩
    obtain ⟨ay, al, ar, ah, bs, hs, h1, h2, h3, h4, h5, h6, h7⟩ := hp.ob
    exact ⟨_, rfl, _, rfl, p, _, rfl, gFirst h1, _, _, rfl, rfl, _, rfl, p, _, rfl, gWeek h1, _, _, rfl, rfl, (by have := ok.w1; show 0 < c.w; omega), k⟩
theorem ok_is_rest (T : Tx K mg) : C8.Cal P w K mg base 2 "_law_is_rest" sp_is_rest [] := by
  obtain ⟨fd, F⟩ := T.b_law_is_rest
  refine calF F T.g_law_is_rest sc_law_is_rest (fun vs H Q E h => ?_) (fun cdv A outer s H vs Q E hr h => ?_)
  · obtain ⟨p, c, d, rfl, _⟩ := h
    rfl
  · obtain ⟨p, c, d, rfl, hp, ok, k⟩ := h
    have hu := hu_of hr
    have nd := sc_law_is_rest.nd
    refine ⟨_, pss_cons (ps_asg (C8.pe_c (ok_place T) hr (by decide) (by rfl) (pa_cons (pv 0) (pa_cons (pv 1) pa_nil))) (pg_tup (by rfl) (pgs_cons (pg_name (i := 2) nd rfl (.inl rfl)) (pgs_cons (pg_name (i := 3) nd rfl (.inl rfl)) pgs_nil)))) <|
      pss_cons (ps_if (pt_cmpR op_in_seq (C8.pe_c (ok_lweekday T) hr (by decide) (by rfl) (pa_cons (pv 0) (pa_cons (pv 1) pa_nil))) (pe_dget hu (pv 0) pe_str (fun _ _ => rfl)) (by rfl)) (pss_one (ps_ret pe_bl)) pss_nil) <|
      pss_one <| ps_ret <| pe_cmpR (op_inD (u65 hr)) (pe_tup (pa_cons (pe_op op_add (pe_op op_mod (pv 2) (pe_callB call_len_seq (by rfl) T.z_len bLen (pa_cons (pe_ix ix_list (pe_dget hu (pv 0) pe_str (fun _ _ => rfl)) pe_int (fun _ _ => rfl)) pa_nil))) pe_int) (pa_cons (pe_op op_add (pv 3) pe_int) pa_nil))) (pe_dget hu (pv 0) pe_str (fun _ _ => rfl)) (by rfl), ?_⟩
    refine ⟨_, rfl, _, rfl, p, c, d, rfl, hp, ok, fun t H1 s1 ht => ?_⟩
    refine ⟨t, _, rfl, SqT.of ht, rfl, _, _, rfl, _, _, rfl, rfl, ?_⟩
    have hp1 := hp.same s1
    obtain ⟨ay, al, ar, ah, bs, hs, h1, h2, h3, h4, h5, h6, h7⟩ := hp1.ob
    refine ⟨_, rfl, _, rfl, p, c, d, rfl, hp1, ok, _, rfl, p, _, rfl, gRest h1, ar, _, rfl, .inl (SqL.of h5), rfl, flat_ints _, _, rfl, ?_⟩
    show if (if false = true then !inV (.int ((d + c.f) % c.w)) (c.R.map V.int) else inV (.int ((d + c.f) % c.w)) (c.R.map V.int)) = true then _ else _
    rw [if_neg Bool.false_ne_true, inV_int]
    refine ite2 (fun hb => ?_) (fun hb => ?_)
    · have z := k H1 s1
      unfold CalD.isRest at z
      rw [hb, Bool.true_or] at z
      exact z
    · have hb' : decide ((d + c.f) % c.w ∈ c.R) = false := by simpa using hb
      have hM := ok.m1
      obtain ⟨b0, hb0⟩ : ∃ b0, bs[0]? = some b0 := ⟨_, List.getElem?_eq_getElem (by have := h3.length; have := ok.y1; omega)⟩
      obtain ⟨y0, e1, e2⟩ := paired_at h3 0 b0 hb0
      have em : y0.length = c.M := ok.rows y0 (List.mem_of_getElem? e1)
      refine ⟨_, rfl, _, rfl, p, _, rfl, gYears h1, ay, _, _, _, rfl, rfl, SqL.of h2, at_of (j := 0) rfl (by rw [List.getElem?_map, hb0] <;> rfl), b0, _, rfl, .inl (SqL.of e2), _, _, rfl, rfl, (by rw [List.length_map, em]; show (0 : Int) < c.M; omega), _, _, rfl, rfl, _, rfl, _, _, rfl, rfl, (by show 2 ≤ sizeLine; decide), fun q hq => ?_⟩
      have s2 : ∀ o, Same H1 (upd H1 q o) := fun o => same_new hq
      have ev : ∀ L : Int, (d / c.S * (c.ls.length : Int) + ((c.loc d).1 : Int)) % (c.M : Int) + 1 = c.mon d := fun L => by
        unfold CalD.mon
        rw [ok.lsn, Int.natCast_mul, ← Int.mul_assoc, Int.add_comm (d / c.S * (c.Y.length : Int) * (c.M : Int)), Int.add_mul_emod_self_right]
      refine ⟨_, rfl, p, _, rfl, gHol (s2 _ _ _ h1), prI (c.mon d, c.day d), c.HD.map prI, dp_prI (h := (c.mon d, c.day d)) (upd_same.trans ?_), .lst (SqL.of (s2 _ _ _ h6)) (dp_prIs (Paired.same (fun _ _ z => s2 _ _ _ z) h7)), prI_shaped _, prIs_shapedL _, ?_⟩
      · show some (HO.tup [.int ((d / c.S * (c.ls.length : Int) + ((c.loc d).1 : Int)) % ((y0.map V.int).length : Int) + 1), .int ((c.loc d).2 + 1)]) = _
        rw [List.length_map, em, ev 0]
        rfl
      · rw [prIs_any]
        unfold CalD.isRest at k
        rw [hb', Bool.false_or] at k
        exact k _ (s1.trans (s2 _))
theorem ok_opened (T : Tx K mg) : C8.Cal P w K mg base 8 "_law_opened" (sp_opened K) [] := by
  obtain ⟨fd, F⟩ := T.b_law_opened
  obtain ⟨fdC, FC, OC⟩ := ok_C_init (P := P) (w := w) (base := base) T
  obtain ⟨its, mv, hb⟩ := FC.kbinds (ps := ["self", "years", "week", "first", "rest", "holidays"]) 3 ["first", "rest", "holidays"] [] (fun us its mv ws => us ++ ws) (by decide) (by decide) (fun q hq => nomatch hq) (fun r1 _ _ r4 => r1.append r4)
    (fun TT D doc pm an cdv ct us its mv ws h1 h2 h3 h4 => by
      match us, its, mv, ws, h1, h2, h3, h4 with
      | [_, _, _], [_], [], [_, _, _], _, _, _, _ => exact ⟨_, rfl, rfl⟩)
  refine calF F T.g_law_opened sc_law_opened (fun vs H Q E h => ?_) (fun cdv A outer s H vs Q E hr h => ?_)
  · obtain ⟨p, c, rfl, _⟩ := h
    rfl
  · obtain ⟨p, c, rfl, hp, ok, hw, k⟩ := h
    have hu := hu_of hr
    have nd := sc_law_opened.nd
    refine ⟨_, pss_cons (ps_par (i := 1) (j := 2) rfl nd rfl rfl (by decide) rfl rfl (pa_cons (pe_callTy call_list_of (by rfl) T.z_list bL (pa_cons (pe_dget hu (pv 0) pe_str (fun _ _ => rfl)) pa_nil)) (pa_cons (pe_callTy call_list_of (by rfl) T.z_list bL (pa_cons (pe_dget hu (pv 0) pe_str (fun _ _ => rfl)) pa_nil)) pa_nil)) (by rfl)) <|
      pss_one <| ps_ret <| pe_makeK (E := C8.E0) T.k_C OC (hr.mono (by decide)) (by rfl) T.g_Calendar hb C8.pass0 (pa_cons (pe_dget hu (pv 0) pe_str (fun _ _ => rfl)) (pa_cons (pe_dget hu (pv 0) pe_str (fun _ _ => rfl)) pa_nil)) (pk_cons (pe_dget hu (pv 0) pe_str (fun _ _ => rfl)) (pk_cons (pv 1) (pk_cons (pv 2) pk_nil))), ?_⟩
    obtain ⟨ay, al, ar, ah, bs, hs, h1, h2, h3, h4, h5, h6, h7⟩ := hp.ob
    refine ⟨_, rfl, p, _, rfl, gRest h1, ar, _, rfl, .inl (SqL.of h5), fun r hr1 => ?_⟩
    have s1 : ∀ o, Same H (upd H r o) := fun o => same_new hr1
    refine ⟨_, rfl, p, _, rfl, gHol (s1 _ _ _ h1), ah, _, rfl, .inl (SqL.of (s1 _ _ _ h6)), fun q hq => ⟨_, _, rfl, ?_⟩⟩
    have s2 := (s1 (.lst (c.R.map V.int))).trans (same_new (o := .lst (hs.map V.ref)) hq)
    have er := same_new (o := .lst (hs.map V.ref)) hq _ _ (upd_same (a := r) (o := .lst (c.R.map V.int)) (H := H))
    have eq' : (upd (upd H r (.lst (c.R.map V.int))) q (.lst (hs.map V.ref))) q = some (.lst (hs.map V.ref)) := upd_same
    generalize upd (upd H r (.lst (c.R.map V.int))) q (.lst (hs.map V.ref)) = H2 at s2 er eq' ⊢
    have g1 := s2 _ _ h1
    refine ⟨_, rfl, p, _, rfl, gYears g1, _, rfl, p, _, rfl, gWeek g1, _, rfl, p, _, rfl, gFirst g1, _, rfl, _, rfl, rfl, rfl, fun x dx hx hdx hne => ?_⟩
    have s4 : Same H2 (upd (upd H2 dx (.own x)) x (.ins (cC K) dx [])) := (same_new hdx).trans (same_new (by rw [upd_ne (fun z => hne z.symm)]; exact hx))
    have s5 := s2.trans s4
    refine ⟨x, dx, ay, r, q, bs, hs, c, rfl, upd_same, s5 _ _ h2, Paired.same (fun _ _ z => s5 _ _ z) h3, s4 _ _ er, s4 _ _ eq', Paired.same (fun _ _ z => s5 _ _ z) h7, ok, hw, fun H' sx hc => ⟨rfl, k x H' (fun b o z => ?_) hc⟩⟩
    have z2 := s2 _ _ z
    exact sx b o (ne_of_none z2 hx) (s4 _ _ z2)
end
end K5

set_option Elab.async false
set_option linter.all false
set_option maxRecDepth 100000
set_option maxHeartbeats 4000000
/-! Walks 24: the law's reader of numbers. -/
namespace K5
open PySem PySem.Spec PyProof.Rows L2
abbrev okS (x : Str) : Prop := PyData.strOk x = true
theorem okS_iff (x : Str) : okS x ↔ ∀ c ∈ x.cps.toList, c < 0x110000 := by
  show x.cps.all (· < 0x110000) = true ↔ _
  rw [← Array.all_toList, List.all_eq_true]
  exact ⟨fun h c hc => of_decide_eq_true (h c hc), fun h c hc => decide_eq_true (h c hc)⟩
theorem okS_dgs {x : Str} (h : okS x) : okS (dgs x) := by
  rw [okS_iff] at h ⊢
  unfold dgs
  split
  · rw [cut_from]
    intro c hc
    have e : (_root_.SX.S (x.cps.toList.drop 1)).cps.toList = x.cps.toList.drop 1 := by simp [_root_.SX.S]
    rw [e] at hc
    exact h c (List.mem_of_mem_drop hc)
  · exact h
theorem strs_lay : ∀ ns : List Str, (∀ x ∈ ns, okS x) → PyData.canLayAll0 (ns.map PyData.str) = true
  | [], _ => by simp [PyData.canLayAll0]
  | b :: bs, h => by
    have h1 : PyData.strOk b = true := h b (List.mem_cons_self ..)
    simp [PyData.canLayAll0, PyData.canLay0, h1, strs_lay bs fun x hx => h x (List.mem_cons_of_mem _ hx)]
theorem strs_depth : ∀ bs : List Str, PyData.depthAll (bs.map PyData.str) ≤ 1
  | [] => by simp [PyData.depthAll]
  | b :: bs => by
    have h := strs_depth bs
    simp only [List.map_cons, PyData.depthAll, PyData.depth]
    omega
theorem strs_shapedL (bs : List Str) (ok : ∀ x ∈ bs, okS x) : SeqAt.shaped (.list (bs.map PyData.str)) = true := by
  have h := strs_depth bs
  unfold SeqAt.shaped
  rw [Bool.and_eq_true]
  refine ⟨by simp only [PyData.canLay0]; exact strs_lay bs ok, decide_eq_true ?_⟩
  simp only [PyData.depth]
  omega
theorem dp_strs {K : PySem.W.Frag} {H : Hp} : ∀ bs : List Str, DpAll K H (bs.map V.str) (bs.map PyData.str)
  | [] => .nil
  | b :: bs => .cons (.str b) (dp_strs bs)
theorem strs_nil (bs : List Str) : PyData.eqv (.list (bs.map PyData.str)) (.list []) = bs.isEmpty := by
  cases bs with
  | nil => decide +kernel
  | cons x xs => simp [PyData.eqv, PyData.eqvAll]
def sp_number : Sp := fun vs H Q _ => ∃ (x : Str), vs = [.str x] ∧ x.length ≤ 100000 ∧ okS x ∧ ∀ H', Same H H' → Q (ovI (numT x)) H'
def sp_arg_right : Sp := fun vs H Q _ => ∃ (p : Addr) (c : CalD) (k x : Str), vs = [.ref p, .str k, .str x] ∧ PlainAt H p c ∧ CalOk c ∧ x.length ≤ 100000 ∧ okS x ∧ ∀ H', Same H H' → Q (.bl (argR c k x)) H'
section
variable {P : Program} {w : World} {K : PySem.W.Frag} {mg : Str → Option Value} {base : Heap}
theorem ok_number (T : Tx K mg) : C8.Cal P w K mg base 1 "_law_number" sp_number [] := by
  obtain ⟨fd, F⟩ := T.b_law_number
  refine calF F T.g_law_number sc_law_number (fun vs H Q E h => ?_) (fun cdv A outer s H vs Q E hr h => ?_)
  · obtain ⟨x, rfl, _⟩ := h
    rfl
  · obtain ⟨x, rfl, hx, hok, k⟩ := h
    have nd := sc_law_number.nd
    refine ⟨_, C8.pss_cut (ps_set (i := 1) nd rfl (Or.inl rfl) (pe_ifExp (pt_cmpR op_eq (pe_slice sl_str (pv 0) po_none (po_some pe_int)) pe_str (nomark _)) (pe_slice sl_str (pv 0) (po_some pe_int) po_none) (pv 0))) <|
      pss_cons (ps_if (PW.pt (pw_or (pt_cmpR op_eq (pv 1) pe_str (nomark _))
        (pw_or (pt_cmpR (op_neD hr.units) (pe_lc (own := [("_law_sign", 2)]) (g := gName 2) rfl nd (pi_str (pv 1)) (blkOk_by (own := [("_law_sign", 2)]) (N := n_law_number) (sc := defScope s_law_number) (by decide +kernel)) (fun _ _ _ _ _ => pg_name (i := 2) nd rfl (Or.inl rfl)) (fun _ _ _ _ _ => pts_one (pt_cmpR op_notIn_sign (pv 2) pe_str (by rfl))) (fun _ _ _ _ _ => pv 2)) (pe_lst pa_nil) (nomark _))
        (pw_or1 (pt_cmpR op_gt (pe_callB call_len_str (by rfl) T.z_len bLen (pa_cons (pv 1) pa_nil)) pe_int (nomark _)))))) (pss_one (ps_ret pe_non)) pss_nil) <|
      pss_one (ps_ret (pe_ifExp (PW.pt (pw_or (pt_cmpR op_eq (pv 0) pe_str (nomark _)) (pw_or1 (pt_cmpR op_ne (pe_ix ix_str (pv 1) pe_int (fun _ _ => rfl)) pe_str (nomark _))))) (pe_callTy call_int_str (by rfl) T.z_int bI (pa_cons (pv 0) pa_nil)) pe_non)), ?_⟩
    have hsz : sizeLine = 16777216 := sizeLine_eq
    have hdl := dgs_len x
    refine ⟨fun σ H' => σ = [some (V.str x), some (.str (dgs x)), none] ∧ H' = H, ?_, ?_⟩
    · refine ⟨_, rfl, _, rfl, x, rfl, by omega, rfl, _, rfl, ?_⟩
      by_cases h1 : cutS x none (some 1) = "-"
      · refine cast (congrArg (fun z : Bool => if z = true then _ else _) (decide_eq_true (congrArg V.str h1)).symm) ?_
        refine iteT ⟨_, rfl, _, rfl, x, rfl, by omega, ?_, rfl⟩
        have e : dgs x = cutS x (some 1) none := if_pos h1
        rw [e] <;> rfl
      · have h2 : ¬ V.str (cutS x none (some 1)) = V.str "-" := fun z => h1 (V.str.inj z)
        refine ifF h2 ⟨_, rfl, ?_, rfl⟩
        have e : dgs x = x := if_neg h1
        rw [e] <;> rfl
    rintro σ H' ⟨rfl, rfl⟩
    have nope : ∀ {H2}, Same H' H2 → numB x = false → Q .non H2 := fun sm e => by
      have z := k _ sm
      unfold numT at z
      rw [e] at z
      exact z
    have hlen : (dgs x).cps.toList.length = (dgs x).length := Array.length_toList
    refine ⟨_, rfl, rfl, _, rfl, ?_⟩
    by_cases h0 : dgs x = ""
    · refine ifT (congrArg V.str h0) (nope (Same.refl _) ?_)
      unfold numB
      have e : (dgs x).length = 0 := by rw [h0] <;> decide +kernel
      rw [e]
      rfl
    · refine ifF (fun z => h0 (V.str.inj z)) ?_
      have h1 : 1 ≤ (dgs x).length := by
        rcases Nat.eq_zero_or_pos (dgs x).length with e | e
        · refine absurd ?_ h0
          have e2 : (dgs x).cps.toList = [] := List.eq_nil_of_length_eq_zero (by omega)
          have e3 : dgs x = ⟨(dgs x).cps.toList.toArray⟩ := by cases dgs x; simp
          rw [e3, e2]
          decide +kernel
        · exact e
      refine ⟨_, rfl, _, rfl, fun D hD => ?_⟩
      refine out_str (z := dgs x) (fun i H2 => Same H' H2 ∧ H2 D = some (.lst (((((dgs x).cps.toList.take i).filter fun c => !digC c).map fun c => (⟨#[c]⟩ : Str)).map V.str))) ⟨same_new hD, upd_same⟩ ?_ ?_
      · rintro i c H2 hc ⟨sm, hb⟩
        have hi : i < (dgs x).cps.toList.length := (List.getElem?_eq_some_iff.mp hc).1
        refine ⟨rfl, _, rfl, c, _, rfl, rfl, _, rfl, ?_⟩
        have ec : (decide (c ∈ (Str.ofString "0123456789").cps.toList)) = digC c := rfl
        rw [ec]
        have et : (dgs x).cps.toList.take (i + 1) = (dgs x).cps.toList.take i ++ [c] := by
          rw [List.take_succ, hc]
          rfl
        cases hd : digC c with
        | true =>
          refine iteF ⟨sm, ?_⟩
          rw [et, List.filter_append]
          simp [hd]
          simpa using hb
        | false =>
          have hll : ((((dgs x).cps.toList.take i).filter fun c => !digC c).map fun c => (⟨#[c]⟩ : Str)).length ≤ i := by
            rw [List.length_map]
            exact Nat.le_trans (List.length_filter_le _ _) (by rw [List.length_take]; omega)
          refine iteT ⟨_, rfl, _, hb, by rw [List.length_map]; omega, same_upd sm hD, ?_⟩
          rw [et, List.filter_append, List.map_append, List.map_append]
          refine upd_same.trans ?_
          simp [hd]
      rintro H2 ⟨sm, hb⟩
      rw [List.take_length] at hb
      have okL : ∀ y ∈ ((dgs x).cps.toList.filter fun c => !digC c).map fun c => (⟨#[c]⟩ : Str), okS y := fun y hy => by
        obtain ⟨c, hc, rfl⟩ := List.mem_map.mp hy
        rw [okS_iff]
        intro z hz
        have e : z = c := by simpa using hz
        rw [e]
        exact (okS_iff _).mp (okS_dgs hok) c (List.mem_filter.mp hc).1
      refine ⟨(by decide), fun q hq => ?_⟩
      have s3 := sm.trans (same_new (o := .lst []) hq)
      refine ⟨_, _, .lst (SqL.of (same_new (o := .lst []) hq _ _ hb)) (dp_strs _), .lst (SqL.of upd_same) .nil, strs_shapedL _ okL, by decide +kernel, _, rfl, ?_⟩
      rw [strs_nil]
      have eA : ((((dgs x).cps.toList.filter fun c => !digC c).map fun c => (⟨#[c]⟩ : Str)).isEmpty) = (dgs x).cps.toList.all digC := by
        generalize (dgs x).cps.toList = l
        induction l with
        | nil => rfl
        | cons c l ih =>
          rw [List.filter_cons, List.all_cons]
          cases hd : digC c with
          | true => simpa [hd] using ih
          | false => simp [hd]
      rw [eA]
      cases h3 : (dgs x).cps.toList.all digC with
      | false => exact iteT (nope s3 (by unfold numB; rw [h3]; simp))
      | true =>
        refine iteF ⟨_, rfl, _, rfl, by omega, _, _, rfl, rfl, _, rfl, ?_⟩
        by_cases h2 : (dgs x).length ≤ 12
        · refine ifF (by omega) ⟨_, rfl, rfl, _, rfl, ?_⟩
          have fin : (decide (x = "0") || decide ((dgs x).cps.toList.head? ≠ some 48)) = true → ∃ a n, [V.str x] = [.str a] ∧ PySem.intText? a = some n ∧ a.length ≤ 640 ∧ Q (.int n) (upd H2 q (.lst [])) := fun h4 => by
            have hB : numB x = true := by
              unfold numB
              rw [decide_eq_true h1, decide_eq_true h2, h3, h4]
              rfl
            obtain ⟨n, e1, e2⟩ := num_some hB hx
            have z := k _ s3
            unfold numT at z
            rw [hB, if_pos rfl, e1] at z
            exact ⟨x, n, rfl, e1, e2, z⟩
          by_cases h4 : x = "0"
          · refine ifT (congrArg V.str h4) ⟨_, rfl, fin (by rw [decide_eq_true h4] <;> rfl)⟩
          · refine ifF (fun z => h4 (V.str.inj z)) ?_
            obtain ⟨c, hc⟩ : ∃ c, (dgs x).cps.toList[0]? = some c := ⟨_, List.getElem?_eq_getElem (by omega)⟩
            have hh : (dgs x).cps.toList.head? = some c := by rw [List.head?_eq_getElem?]; exact hc
            refine ⟨_, rfl, dgs x, 0, c, rfl, rfl, by omega, (show atI (dgs x).cps.toList ((0 : Nat) : Int) = some c from atI_nat hc), rfl, _, rfl, ?_⟩
            rw [one_zero]
            by_cases h5 : c = 48
            · rw [decide_eq_true h5]
              refine iteF (nope s3 ?_)
              unfold numB
              rw [decide_eq_false h4, hh, h5]
              simp
            · rw [decide_eq_false h5]
              refine iteT ⟨_, rfl, fin ?_⟩
              rw [hh]
              simp [h5]
        · refine ifT (by omega) (nope s3 ?_)
          unfold numB
          rw [decide_eq_false h2]
          simp
theorem ok_arg_right (T : Tx K mg) : C8.Cal P w K mg base 2 "_law_argument_right" sp_arg_right [] := by
  obtain ⟨fd, F⟩ := T.b_law_argument_right
  refine calF F T.g_law_argument_right sc_law_argument_right (fun vs H Q E h => ?_) (fun cdv A outer s H vs Q E hr h => ?_)
  · obtain ⟨p, c, k, x, rfl, _⟩ := h
    rfl
  · obtain ⟨p, c, kd, x, rfl, hp, ok, hx, hok, k⟩ := h
    have nd := sc_law_argument_right.nd
    have hu := hu_of hr
    refine ⟨_, pss_cons (ps_set (i := 3) nd rfl (Or.inl rfl) (C8.pe_c (ok_number T) hr (by decide) (by rfl) (pa_cons (pv 2) pa_nil))) <|
      pss_cons (ps_if (pt_cmp (pc_isN (pv 3))) (pss_one (ps_ret pe_bl)) pss_nil) <|
      pss_cons (ps_if (pt_cmpR op_eq (pv 1) pe_str (nomark _)) (pss_one (ps_ret (pe_chain op_le op_lt pe_int (pv 3) (pe_dget hu (pv 0) pe_str (fun _ _ => rfl))))) pss_nil) <|
      pss_cons (ps_if (pt_cmpR op_eq (pv 1) pe_str (nomark _)) (pss_one (ps_ret (pe_chain op_lt op_le pe_int (pv 3) (pe_callB call_len_seq (by rfl) T.z_len bLen (pa_cons (pe_ix ix_list (pe_dget hu (pv 0) pe_str (fun _ _ => rfl)) pe_int (fun _ _ => rfl)) pa_nil))))) pss_nil) <|
      pss_one (ps_ret (pe_and (pe_cmpR op_ne (pv 3) pe_int (nomark _)) (pe_one (pe_chain op_le op_le (pe_un un_neg pe_int) (pv 3) pe_int)))), ?_⟩
    refine ⟨_, rfl, x, rfl, hx, hok, fun H1 s1 => ?_⟩
    have hp1 := hp.same s1
    obtain ⟨ay, al, ar, ah, bs, hs, h1, h2, h3, h4, h5, h6, h7⟩ := hp1.ob
    have k1 := k H1 s1
    rw [argR_eq] at k1
    cases hn : numT x with
    | none =>
      rw [hn] at k1
      exact ⟨_, rfl, true, rfl, iteT k1⟩
    | some n =>
      rw [hn] at k1
      have k2 : Q (.bl (argN c kd n)) H1 := k1
      unfold argN at k2
      refine ⟨_, rfl, false, rfl, iteF ⟨_, rfl, rfl, _, rfl, ?_⟩⟩
      by_cases e1 : kd = "weekday"
      · rw [if_pos e1] at k2
        refine ifT (congrArg V.str e1) ⟨_, rfl, _, _, rfl, rfl, _, rfl, ?_⟩
        by_cases g1 : 0 ≤ n
        · rw [decide_eq_true g1, Bool.true_and] at k2
          exact ifT g1 ⟨_, rfl, p, _, rfl, gWeek h1, _, _, rfl, rfl, k2⟩
        · rw [decide_eq_false g1, Bool.false_and] at k2
          exact ifF g1 k2
      · rw [if_neg e1] at k2
        refine ifF (fun z => e1 (V.str.inj z)) ⟨_, rfl, rfl, _, rfl, ?_⟩
        by_cases e2 : kd = "month"
        · rw [if_pos e2] at k2
          obtain ⟨b0, hb0⟩ : ∃ b0, bs[0]? = some b0 := ⟨_, List.getElem?_eq_getElem (by have := h3.length; have := ok.y1; omega)⟩
          obtain ⟨y0, q1, q2⟩ := paired_at h3 0 b0 hb0
          have em : y0.length = c.M := ok.rows y0 (List.mem_of_getElem? q1)
          refine ifT (congrArg V.str e2) ⟨_, rfl, _, _, rfl, rfl, _, rfl, ?_⟩
          by_cases g1 : 0 < n
          · rw [decide_eq_true g1, Bool.true_and, ← em] at k2
            refine ifT g1 ⟨_, rfl, p, _, rfl, gYears h1, ay, _, _, _, rfl, rfl, SqL.of h2, at_of (j := 0) rfl (by rw [List.getElem?_map, hb0] <;> rfl), b0, _, rfl, .inl (SqL.of q2), _, _, rfl, rfl, ?_⟩
            rw [List.length_map]
            exact k2
          · rw [decide_eq_false g1, Bool.false_and] at k2
            exact ifF g1 k2
        · rw [if_neg e2] at k2
          refine ifF (fun z => e2 (V.str.inj z)) ⟨_, rfl, rfl, _, rfl, ?_⟩
          by_cases g0 : n = 0
          · subst g0
            exact iteF k2
          · have e0 : decide (V.int n = V.int 0) = false := decide_eq_false fun z => g0 (V.int.inj z)
            show if (!decide (V.int n = V.int 0)) = true then _ else _
            rw [e0]
            rw [decide_eq_true (show n ≠ 0 from g0), Bool.true_and] at k2
            refine iteT ⟨_, rfl, _, rfl, _, _, rfl, rfl, _, rfl, ?_⟩
            by_cases g1 : -40 ≤ n
            · rw [decide_eq_true g1, Bool.true_and] at k2
              exact ifT g1 ⟨_, _, rfl, rfl, k2⟩
            · rw [decide_eq_false g1, Bool.false_and] at k2
              exact ifF g1 k2
end
end K5

set_option Elab.async false
set_option linter.all false
set_option maxRecDepth 100000
set_option maxHeartbeats 4000000
/-! Walks 25: the law's own reader. -/
namespace K5
open PySem PySem.Spec PyProof.Rows L2
def ovN : Option Nat → V
  | none => .non
  | some n => .int n
theorem spl_codes (S : List Nat) : ∀ (l : List Nat) (k : Nat) (acc : List Nat), ∀ p ∈ TL.spl S k acc l, ∀ c ∈ p, c ∈ acc ∨ c ∈ l
  | [], k, acc => by
    rw [TL.spl_nil]
    intro p hp c hc
    obtain rfl : p = acc := by simpa using hp
    exact .inl hc
  | a :: r, 0, acc => by
    intro p hp c hc
    by_cases h : TL.pre S (a :: r) = true
    · rw [TL.spl_hit h] at hp
      rcases List.mem_cons.mp hp with rfl | hp
      · exact .inl hc
      · rcases spl_codes S r _ _ p hp c hc with h1 | h1
        · cases h1
        · exact .inr (List.mem_cons_of_mem _ h1)
    · have h' : TL.pre S (a :: r) = false := by simpa using h
      rw [TL.spl_miss h'] at hp
      rcases spl_codes S r _ _ p hp c hc with h1 | h1
      · rcases List.mem_append.mp h1 with h1 | h1
        · exact .inl h1
        · obtain rfl : c = a := by simpa using h1
          exact .inr (List.mem_cons_self ..)
      · exact .inr (List.mem_cons_of_mem _ h1)
  | a :: r, k + 1, acc => by
    intro p hp c hc
    rcases spl_codes S r k acc p hp c hc with h1 | h1
    · exact .inl h1
    · exact .inr (List.mem_cons_of_mem _ h1)
theorem words_ok {t : Str} (h : okS t) : ∀ x ∈ wordsOf t, okS x := by
  have e1 : Str.ofString " " = _root_.SX.S [32] := by decide +kernel
  have e2 : wordsOf t = (TL.spl [32] 0 [] t.cps.toList).map _root_.SX.S := by
    have h := _root_.SX.split_S (a := t.cps.toList) (b := [32]) (by decide) (by decide)
    rw [_root_.SX.S_tl] at h
    unfold wordsOf
    rw [e1]
    exact h
  rw [e2]
  intro x hx
  obtain ⟨p, hp, rfl⟩ := List.mem_map.mp hx
  rw [okS_iff] at h ⊢
  intro c hc
  have hc' : c ∈ p := by simpa [_root_.SX.S] using hc
  rcases spl_codes [32] _ _ _ p hp c hc' with h1 | h1
  · cases h1
  · exact h c h1
def VT (H : Hp) (v : V) : Prop := VOk H v ∧ ∀ t, v = .str t → okS t
theorem VT.same {H H' : Hp} {v : V} (h : VT H v) (s : Same H H') : VT H' v := ⟨h.1.same s, h.2⟩
def headK (a1 a2 a3 a4 : Addr) : List (Key × V) := [(.inr "weekday", .ref a1), (.inr "month", .ref a2), (.inr "day", .ref a3), (.inr "nth", .ref a4)]
theorem head_val (a1 a2 a3 a4 : Addr) (x : Str) : valV (headK a1 a2 a3 a4) (.inr x : Key) = if x = "weekday" then some (.ref a1) else if x = "month" then some (.ref a2) else if x = "day" then some (.ref a3) else if x = "nth" then some (.ref a4) else none := by
  unfold valV headK
  by_cases h1 : x = "weekday"
  · rw [if_pos h1, List.find?_cons_of_pos (by simp [h1])]
    rfl
  · rw [if_neg h1, List.find?_cons_of_neg (by simpa using fun z : Str.ofString "weekday" = x => h1 z.symm)]
    by_cases h2 : x = "month"
    · rw [if_pos h2, List.find?_cons_of_pos (by simp [h2])]
      rfl
    · rw [if_neg h2, List.find?_cons_of_neg (by simpa using fun z : Str.ofString "month" = x => h2 z.symm)]
      by_cases h3 : x = "day"
      · rw [if_pos h3, List.find?_cons_of_pos (by simp [h3])]
        rfl
      · rw [if_neg h3, List.find?_cons_of_neg (by simpa using fun z : Str.ofString "day" = x => h3 z.symm)]
        by_cases h4 : x = "nth"
        · rw [if_pos h4, List.find?_cons_of_pos (by simp [h4])]
          rfl
        · rw [if_neg h4, List.find?_cons_of_neg (by simpa using fun z : Str.ofString "nth" = x => h4 z.symm)]
          rfl
def sp_first_wrong : Sp := fun vs H Q _ => ∃ (p : Addr) (c : CalD) (v : V), vs = [.ref p, v] ∧ PlainAt H p c ∧ CalOk c ∧ VT H v ∧ ∀ H', Same H H' → Q (ovN (lawAns c v)) H'
theorem cutV_1 (k : Str) (ks : List Str) : cutV ((k :: ks).map V.str) (some 1) none = ks.map V.str := by
  rw [cutV_map]
  congr 1
  unfold cutL
  have e1 : HT.sIx (k :: ks).length 0 (some 1) = 1 := by
    show (if (1 : Int) < 0 then ((1 : Int) + ((k :: ks).length : Int)).toNat else min (1 : Int).toNat (k :: ks).length) = 1
    rw [if_neg (by decide)]
    simp
  rw [e1]
  show List.take ((k :: ks).length - 1) ks = ks
  exact List.take_of_length_le (by simp)
theorem leaf_heads {x : Str} (h : leafW x = true) : headsOf x = none := by
  rw [leaf_iff] at h
  have h2 := of_decide_eq_true h
  simp only [List.mem_cons, List.not_mem_nil, or_false] at h2
  rcases h2 with rfl | rfl | rfl | rfl <;> decide +kernel
section
variable {P : Program} {w : World} {K : PySem.W.Frag} {mg : Str → Option Value} {base : Heap}
theorem ok_first_wrong (T : Tx K mg) : C8.Cal P w K mg base 3 "_law_first_wrong" sp_first_wrong [] := by
  obtain ⟨fd, F⟩ := T.b_law_first_wrong
  refine calF F T.g_law_first_wrong sc_law_first_wrong (fun vs H Q E h => ?_) (fun cdv A outer s H vs Q E hr h => ?_)
  · obtain ⟨p, c, v, rfl, _⟩ := h
    rfl
  · obtain ⟨p, c, v, rfl, hp, ok, hv, k⟩ := h
    have nd := sc_law_first_wrong.nd
    have hu := hu_of hr
    refine ⟨_, pss_cons (ps_if (pt_not (pt_val (pe_callB call_isi (by rfl) T.z_isinstance bIsi (pa_cons (pv 1) (pa_cons (pe_bltn (by rfl) T.z_str bS (v := .ty "str") rfl) pa_nil))))) (pss_one (ps_ret pe_int)) pss_nil) <|
      pss_cons (ps_asg (pe_tup (pa_cons (pe_split (pv 1) pe_str) (pa_cons pe_int (pa_cons pe_bl (pa_cons (pe_lst pa_nil) pa_nil))))) (pg_tup (by rfl) (pgs_cons (pg_name (i := 2) nd rfl (.inl rfl)) (pgs_cons (pg_name (i := 3) nd rfl (.inl rfl)) (pgs_cons (pg_name (i := 4) nd rfl (.inl rfl)) (pgs_cons (pg_name (i := 5) nd rfl (.inl rfl)) pgs_nil)))))) <|
      pss_cons (ps_set (i := 6) nd rfl (Or.inl rfl) (pe_disp (pps_cons pe_str (pe_lst (pa_cons pe_str pa_nil)) (pps_cons pe_str (pe_lst (pa_cons pe_str pa_nil)) (pps_cons pe_str (pe_lst (pa_cons pe_str pa_nil)) (pps_cons pe_str (pe_lst (pa_cons pe_str (pa_cons pe_str pa_nil))) pps_nil)))) (by rfl) (by rfl) (fun z => by cases z) (by decide))) <|
      pss_cons (ps_for PassesOwn.never rfl (pi_range1 (by rfl) T.z_range (pa_cons (pe_callB call_len_seq (by rfl) T.z_len bLen (pa_cons (pv 2) pa_nil)) pa_nil)) (pg_name (i := 7) nd rfl (.inl rfl))
        (pss_cons (ps_set (i := 8) nd rfl (Or.inl rfl) (pe_ix ix_list (pv 2) (pv 7) (fun _ _ => rfl))) <|
         pss_one <| ps_if (pt_cmpR (op_neD hr.units) (pv 5) (pe_lst pa_nil) (nomark _))
          (pss_cons (ps_if (pt_not (pt_val (C8.pe_c (ok_arg_right T) hr (by decide) (by rfl) (pa_cons (pv 0) (pa_cons (pe_ix ix_list (pv 5) pe_int (fun _ _ => rfl)) (pa_cons (pv 8) pa_nil)))))) (pss_one (ps_ret (pv 7))) pss_nil) <|
            pss_one (ps_set (i := 5) nd rfl (Or.inl rfl) (pe_slice sl_list (pv 5) (po_some pe_int) po_none)))
          (pss_one <| ps_if (pt_val (pv 4))
            (pss_one <| ps_if (PW.pt (pw_or (pt_cmpR op_in_seq (pv 8) (pe_tup (pa_cons pe_str (pa_cons pe_str (pa_cons pe_str (pa_cons pe_str pa_nil))))) (by rfl)) (pw_or1 (pt_cmp (pc_din hu (pv 8) (pv 6))))))
              (pss_one (ps_par (i := 4) (j := 5) rfl nd rfl rfl (by decide) rfl rfl (pa_cons pe_bl (pa_cons (pe_dget2 hu (pv 6) (pv 8) (pe_lst pa_nil) (by first | exact ⟨rfl, rfl, rfl⟩ | exact ⟨rfl, rfl, rfl, rfl⟩)) pa_nil)) (by rfl)))
              (pss_one <| ps_if (PW.pt (pw_and (pt_cmpR op_eq (pv 8) pe_str (nomark _)) (pw_and1 (pt_cmpR op_lt (pv 3) pe_int (nomark _)))))
                (pss_one (ps_set (i := 3) nd rfl (Or.inl rfl) (pe_op op_add (pv 3) pe_int)))
                (pss_one <| ps_if (pt_cmpR op_ne (pv 8) pe_str (nomark _)) (pss_one (ps_ret (pv 7))) pss_nil)))
            (pss_one <| ps_if (pt_cmpR op_in_seq (pv 8) (pe_tup (pa_cons pe_str (pa_cons pe_str pa_nil))) (by rfl))
              (pss_one (ps_set (i := 4) nd rfl (Or.inl rfl) pe_bl))
              (pss_one <| ps_if (PW.pt (pw_and (pt_cmpR op_eq (pv 8) pe_str (nomark _)) (pw_and1 (pt_cmpR op_gt (pv 3) pe_int (nomark _)))))
                (pss_one (ps_set (i := 3) nd rfl (Or.inl rfl) (pe_op op_sub (pv 3) pe_int)))
                (pss_one (ps_ret (pv 7)))))))) <|
      pss_one (ps_ret (pe_ifExp (PW.pt (pw_or (pt_val (pv 4)) (pw_or (pt_cmpR (op_neD hr.units) (pv 5) (pe_lst pa_nil) (nomark _)) (pw_or1 (pt_cmpR op_gt (pv 3) pe_int (nomark _)))))) (pe_callB call_len_seq (by rfl) T.z_len bLen (pa_cons (pv 2) pa_nil)) pe_non)), ?_⟩
    rcases hv.1 with ⟨t, rfl, ht⟩ | hns
    · have hokt := hv.2 t rfl
      refine ⟨_, rfl, _, _, _, _, true, rfl, .ty "str", .base (.str t), kit_ty (by decide +kernel), true, rfl, iteF ?_⟩
      obtain ⟨wb1, wb2⟩ := words_bd t
      have wok := words_ok hokt
      have hsz : sizeLine = 16777216 := sizeLine_eq
      have z0 : (0 : Nat) ≤ sizeLine := by decide
      have z1 : (1 : Nat) ≤ sizeLine := by decide
      have z2 : (2 : Nat) ≤ sizeLine := by decide
      have z4 : (4 : Nat) ≤ sizeLine := by decide
      refine ⟨_, rfl, ⟨_, rfl⟩, t, _, rfl, rfl, (by decide +kernel), by omega, fun wl hwl => ⟨z0, fun kd hkd => ⟨z4, fun tp htp => ⟨tp, _, rfl, SqT.of upd_same, rfl, _, _, rfl, _, _, rfl, _, _, rfl, _, _, rfl, rfl, ?_⟩⟩⟩⟩
      have sa : Same H (upd (upd (upd H wl (.lst ((Txt.split t " ").map V.str))) kd (.lst [])) tp (.tup [.ref wl, .int 0, .bl true, .ref kd])) := ((same_new hwl).trans (same_new hkd)).trans (same_new htp)
      have wlh : (upd (upd (upd H wl (.lst ((Txt.split t " ").map V.str))) kd (.lst [])) tp (.tup [.ref wl, .int 0, .bl true, .ref kd])) wl = some (.lst ((wordsOf t).map V.str)) := same_new htp _ _ (same_new hkd _ _ upd_same)
      have kdh : (upd (upd (upd H wl (.lst ((Txt.split t " ").map V.str))) kd (.lst [])) tp (.tup [.ref wl, .int 0, .bl true, .ref kd])) kd = some (.lst []) := same_new htp _ _ upd_same
      generalize upd (upd (upd H wl (.lst ((Txt.split t " ").map V.str))) kd (.lst [])) tp (.tup [.ref wl, .int 0, .bl true, .ref kd]) = H1 at sa wlh kdh ⊢
      intro hd hhd
      refine ⟨z1, fun a1 n1 => ⟨z1, fun a2 n2 => ⟨z1, fun a3 n3 => ⟨z2, fun a4 n4 => ?_⟩⟩⟩⟩
      have t1 := same_new (o := .lst [.str "weekday"]) n1
      have t2 := same_new (o := .lst [.str "month"]) n2
      have t3 := same_new (o := .lst [.str "day"]) n3
      have t4 := same_new (o := .lst [.str "day", .str "weekday"]) n4
      have t14 := ((t1.trans t2).trans t3).trans t4
      have hh := t14 _ _ (upd_same (a := hd) (o := .dK []) (H := H1))
      have q1 := t4 _ _ (t3 _ _ (t2 _ _ (upd_same (a := a1) (o := .lst [.str "weekday"]))))
      have q2 := t4 _ _ (t3 _ _ (upd_same (a := a2) (o := .lst [.str "month"])))
      have q3 := t4 _ _ (upd_same (a := a3) (o := .lst [.str "day"]))
      have q4 := (upd_same (a := a4) (o := .lst [.str "day", .str "weekday"]) (H := upd (upd (upd (upd H1 hd (.dK [])) a1 (.lst [.str "weekday"])) a2 (.lst [.str "month"])) a3 (.lst [.str "day"])))
      refine ⟨hh, headK a1 a2 a3 a4, rfl, (by show 4 ≤ 15; decide), ?_⟩
      have lift : ∀ {b : Addr} {xs : List V} {o : HO}, (upd (upd (upd (upd (upd H1 hd (.dK [])) a1 (.lst [.str "weekday"])) a2 (.lst [.str "month"])) a3 (.lst [.str "day"])) a4 (.lst [.str "day", .str "weekday"])) b = some (.lst xs) → upd (upd (upd (upd (upd (upd H1 hd (.dK [])) a1 (.lst [.str "weekday"])) a2 (.lst [.str "month"])) a3 (.lst [.str "day"])) a4 (.lst [.str "day", .str "weekday"])) hd o b = some (.lst xs) := fun {b xs o} e => by
        rw [upd_ne (ne_of e hh (by intro z; cases z))]
        exact e
      have sb : Same H1 (upd (upd (upd (upd (upd (upd H1 hd (.dK [])) a1 (.lst [.str "weekday"])) a2 (.lst [.str "month"])) a3 (.lst [.str "day"])) a4 (.lst [.str "day", .str "weekday"])) hd (.dK (mergeK [] (headK a1 a2 a3 a4)))) := same_upd ((same_new hhd).trans t14) hhd
      have r1 := lift (o := .dK (mergeK [] (headK a1 a2 a3 a4))) q1
      have r2 := lift (o := .dK (mergeK [] (headK a1 a2 a3 a4))) q2
      have r3 := lift (o := .dK (mergeK [] (headK a1 a2 a3 a4))) q3
      have r4 := lift (o := .dK (mergeK [] (headK a1 a2 a3 a4))) q4
      have hh2 : (upd (upd (upd (upd (upd (upd H1 hd (.dK [])) a1 (.lst [.str "weekday"])) a2 (.lst [.str "month"])) a3 (.lst [.str "day"])) a4 (.lst [.str "day", .str "weekday"])) hd (.dK (mergeK [] (headK a1 a2 a3 a4)))) hd = some (.dK (headK a1 a2 a3 a4)) := upd_same
      generalize upd (upd (upd (upd (upd (upd H1 hd (.dK [])) a1 (.lst [.str "weekday"])) a2 (.lst [.str "month"])) a3 (.lst [.str "day"])) a4 (.lst [.str "day", .str "weekday"])) hd (.dK (mergeK [] (headK a1 a2 a3 a4))) = H2 at sb r1 r2 r3 r4 hh2 ⊢
      clear lift q1 q2 q3 q4 hh t14 t1 t2 t3 t4
      have s2 := sa.trans sb
      have wl2 := sb _ _ wlh
      have kd2 := sb _ _ kdh
      have hget : ∀ x : Str, (headsOf x = none ∧ valV (headK a1 a2 a3 a4) (.inr x : Key) = none) ∨ ∃ (ks : List Str) (aj : Addr), headsOf x = some ks ∧ valV (headK a1 a2 a3 a4) (.inr x : Key) = some (.ref aj) ∧ H2 aj = some (.lst (ks.map V.str)) ∧ (∀ k ∈ ks, okS k) ∧ ks.length ≤ 2 := fun x => by
        rw [head_val]
        unfold headsOf
        by_cases e1 : x = "weekday"
        · rw [if_pos e1, if_pos e1]
          exact .inr ⟨_, a1, rfl, rfl, r1, by decide +kernel, by decide⟩
        · rw [if_neg e1, if_neg e1]
          by_cases e2 : x = "month"
          · rw [if_pos e2, if_pos e2]
            exact .inr ⟨_, a2, rfl, rfl, r2, by decide +kernel, by decide⟩
          · rw [if_neg e2, if_neg e2]
            by_cases e3 : x = "day"
            · rw [if_pos e3, if_pos e3]
              exact .inr ⟨_, a3, rfl, rfl, r3, by decide +kernel, by decide⟩
            · rw [if_neg e3, if_neg e3]
              by_cases e4 : x = "nth"
              · rw [if_pos e4, if_pos e4]
                exact .inr ⟨_, a4, rfl, rfl, r4, by decide +kernel, by decide⟩
              · rw [if_neg e4, if_neg e4]
                exact .inl ⟨rfl, rfl⟩
      obtain ⟨ws, ews⟩ : ∃ ws, ws = wordsOf t := ⟨_, rfl⟩
      rw [← ews] at wl2 wb1 wb2 wok
      have kA : ∀ H', Same H H' → Q (ovN (fwA c ws 0 ⟨0, true, []⟩)) H' := fun H' s' => by
        rw [ews]
        exact k H' s'
      refine ⟨_, rfl, wl, _, rfl, .inl (SqL.of wl2), _, rfl, by rw [List.length_map]; omega, by rw [List.length_map]; omega, ?_⟩
      have en : ((ws.map V.str).length : Int).toNat = ws.length := by rw [List.length_map]; omega
      rw [en]
      refine for_range (lo := 0) (n := ws.length) (fun i σ H' => Same H2 H' ∧ ∃ (d : Nat) (o : Bool) (ks : List Str) (kd : Addr) (v7 v8 : Option V), σ = [some (.ref p), some (.str t), some (.ref wl), some (.int d), some (.bl o), some (.ref kd), some (.ref hd), v7, v8] ∧ H' kd = some (.lst (ks.map V.str)) ∧ d ≤ 6 ∧ (∀ k ∈ ks, okS k) ∧ ks.length ≤ 2 ∧ fwA c ws 0 ⟨0, true, []⟩ = fwA c ws i ⟨d, o, ks⟩)
        ⟨Same.refl _, 0, true, [], kd, none, none, rfl, kd2, by omega, (fun _ h => nomatch h), by decide, rfl⟩ ?_ ?_
      · rintro i σ H3 hi ⟨s3, d, o, ks, kd, v7, v8, rfl, hkd3, hd6, hks, hkl, f1⟩
        obtain ⟨x, hx⟩ : ∃ x, ws[i]? = some x := ⟨_, List.getElem?_eq_getElem hi⟩
        have hxv : (ws.map V.str)[i]? = some (V.str x) := by rw [List.getElem?_map, hx] <;> rfl
        have hxm := List.mem_of_getElem? hx
        have back : ∀ {H'}, Same H3 H' → fwA c ws i ⟨d, o, ks⟩ = some i → Q (.int (0 + (i : Int))) H' := fun s' e => by
          have z := kA _ ((s2.trans s3).trans s')
          rw [f1, e] at z
          rw [Int.zero_add]
          exact z
        refine ⟨_, rfl, _, rfl, wl, _, _, _, rfl, rfl, SqL.of (s3 _ _ wl2), at_of (j := i) (by omega) hxv, ?_⟩
        refine ⟨_, rfl, z0, fun q hq => ?_⟩
        have s4 := same_new (o := .lst []) hq
        refine ⟨_, _, .lst (SqL.of (s4 _ _ hkd3)) (dp_strs ks), .lst (SqL.of upd_same) .nil, strs_shapedL ks hks, by decide +kernel, _, rfl, ?_⟩
        rw [strs_nil]
        cases ks with
        | cons k0 r =>
          refine iteT ⟨_, rfl, _, rfl, kd, _, _, _, rfl, rfl, SqL.of (s4 _ _ hkd3), at_of (j := 0) rfl rfl, _, rfl, p, c, k0, x, rfl, ((hp.same s2).same s3).same s4, ok, by have := wb2 x hxm; omega, wok x hxm, fun H5 s5 => ⟨_, rfl, ?_⟩⟩
          cases ha : argR c k0 x with
          | false =>
            refine iteT ⟨_, rfl, back (s4.trans s5) (fwA_bad hx ?_)⟩
            show (if argR c k0 x = true then some (⟨d, o, r⟩ : FS) else none) = none
            rw [ha, if_neg Bool.false_ne_true]
          | true =>
            refine iteF ⟨_, rfl, _, rfl, kd, _, rfl, SqL.of (s5 _ _ (s4 _ _ hkd3)), fun q2 hq2 => ?_⟩
            refine ⟨((s3.trans s4).trans s5).trans (same_new hq2), d, o, r, q2, _, _, rfl, ?_, hd6, fun y hy => hks y (List.mem_cons_of_mem _ hy), by simp at hkl; omega, f1.trans (fwA_step hx ?_)⟩
            · rw [cutV_1]
              exact upd_same
            · show (if argR c k0 x = true then some (⟨d, o, r⟩ : FS) else none) = _
              rw [ha, if_pos rfl]
        | nil =>
          refine iteF ⟨_, rfl, o, rfl, ?_⟩
          cases o with
          | true =>
            refine iteT ⟨_, rfl, z4, fun t1 ht1 => ⟨t1, _, rfl, .inr (SqT.of upd_same), rfl, rfl, _, rfl, ?_⟩⟩
            have s5 := s4.trans (same_new (o := .tup [.str "all", .str "none", .str "work", .str "rest"]) ht1)
            have e4 : inV (.str x) [.str "all", .str "none", .str "work", .str "rest"] = leafW x := (inV_str x ["all", "none", "work", "rest"]).trans (leaf_iff x).symm
            show if (if false = true then _ else inV (.str x) [.str "all", .str "none", .str "work", .str "rest"]) = true then _ else _
            rw [if_neg Bool.false_ne_true, e4]
            have s35 := s3.trans s5
            generalize upd (upd H3 q (.lst [])) t1 (.tup [.str "all", .str "none", .str "work", .str "rest"]) = H5 at s5 s35 ⊢
            cases hl : leafW x with
            | true =>
              refine iteT ⟨_, rfl, hd, rfl, .inl ⟨_, .inl (s35 _ _ hh2)⟩, _, rfl, z0, fun e he => ⟨_, DGet.k (k := .inr x) (same_new he _ _ (s35 _ _ hh2)), _, _, rfl, ?_⟩⟩
              rcases hget x with ⟨_, g2⟩ | ⟨ks, aj, g1, _⟩
              · rw [g2]
                exact ⟨s35.trans (same_new he), d, false, [], e, _, _, rfl, upd_same, hd6, (fun _ h => nomatch h), by decide, f1.trans (fwA_step hx (st_leaf hl))⟩
              · rw [leaf_heads hl] at g1
                cases g1
            | false =>
              refine iteF ⟨_, rfl, _, rfl, hd, _, rfl, DGet.k (k := .inr x) (s35 _ _ hh2), _, rfl, ?_⟩
              rcases hget x with ⟨g1, g2⟩ | ⟨ks, aj, g1, g2, g3, g4, g5⟩
              · rw [g2]
                refine iteF ⟨_, rfl, rfl, _, rfl, ?_⟩
                have nn : ∀ {H'}, Same H5 H' → (x = "(" → d = 6) → tIfS (tTest (tOp rNe (tVar 8) (tC (.str "not")))) (tRet (tVar 7)) tNext { nx := fun σ' H' => Same H2 H' ∧ ∃ (d : Nat) (o : Bool) (ks : List Str) (kd : Addr) (v7 v8 : Option V), σ' = [some (.ref p), some (.str t), some (.ref wl), some (.int d), some (.bl o), some (.ref kd), some (.ref hd), v7, v8] ∧ H' kd = some (.lst (ks.map V.str)) ∧ d ≤ 6 ∧ (∀ k ∈ ks, okS k) ∧ ks.length ≤ 2 ∧ fwA c ws 0 ⟨0, true, []⟩ = fwA c ws (i + 1) ⟨d, o, ks⟩, rt := Q } [some (.ref p), some (.str t), some (.ref wl), some (.int d), some (.bl true), some (.ref kd), some (.ref hd), some (.int (0 + (i : Int))), some (.str x)] H' := fun {H'} s6 hpar => by
                  refine ⟨_, rfl, rfl, _, rfl, ?_⟩
                  by_cases hn : x = "not"
                  · subst hn
                    refine iteF ⟨s35.trans s6, d, true, [], kd, _, _, rfl, s6 _ _ (s5 _ _ hkd3), hd6, (fun _ h => nomatch h), by decide, f1.trans (fwA_step hx st_not)⟩
                  · have e0 : decide (V.str x = V.str "not") = false := decide_eq_false fun z => hn (V.str.inj z)
                    show if (!decide (V.str x = V.str "not")) = true then _ else _
                    rw [e0]
                    exact iteT ⟨_, rfl, back (s5.trans s6) (fwA_bad hx (st_none hl g1 hpar hn hd6))⟩
                by_cases hpar : x = "("
                · refine ifT (congrArg V.str hpar) ⟨_, rfl, _, _, rfl, rfl, _, rfl, ?_⟩
                  by_cases hlt : d < 6
                  · refine ifT (by omega) ⟨_, rfl, _, _, rfl, rfl, s35, d + 1, true, [], kd, _, _, rfl, s5 _ _ hkd3, by omega, (fun _ h => nomatch h), by decide, f1.trans (fwA_step hx ?_)⟩
                    rw [hpar]
                    exact st_open hlt
                  · exact ifF (by omega) (nn (Same.refl _) fun _ => by omega)
                · exact ifF (fun z => hpar (V.str.inj z)) (nn (Same.refl _) fun z => absurd z hpar)
              · rw [g2]
                refine iteT ⟨_, rfl, hd, rfl, .inl ⟨_, .inl (s35 _ _ hh2)⟩, _, rfl, z0, fun e he => ⟨_, DGet.k (k := .inr x) (same_new he _ _ (s35 _ _ hh2)), _, _, rfl, ?_⟩⟩
                rw [g2]
                exact ⟨s35.trans (same_new he), d, false, ks, aj, _, _, rfl, same_new he _ _ (s35 _ _ g3), hd6, g4, g5, f1.trans (fwA_step hx (st_head hl g1))⟩
          | false =>
            refine iteF ⟨_, rfl, z2, fun t1 ht1 => ⟨t1, _, rfl, .inr (SqT.of upd_same), rfl, rfl, _, rfl, ?_⟩⟩
            have s5 := s4.trans (same_new (o := .tup [.str "and", .str "or"]) ht1)
            have e4 : inV (.str x) [.str "and", .str "or"] = decide (x ∈ [("and" : Str), "or"]) := inV_str x ["and", "or"]
            show if (if false = true then _ else inV (.str x) [.str "and", .str "or"]) = true then _ else _
            rw [if_neg Bool.false_ne_true, e4]
            have s35 := s3.trans s5
            generalize upd (upd H3 q (.lst [])) t1 (.tup [.str "and", .str "or"]) = H5 at s5 s35 ⊢
            have em : x ∈ [("and" : Str), "or"] ↔ (x = "and" ∨ x = "or") := by simp
            by_cases hao : x = "and" ∨ x = "or"
            · rw [decide_eq_true (em.mpr hao)]
              exact iteT ⟨s35, d, true, [], kd, _, _, rfl, s5 _ _ hkd3, hd6, (fun _ h => nomatch h), by decide, f1.trans (fwA_step hx (st_shut hao))⟩
            · rw [decide_eq_false (fun z => hao (em.mp z))]
              refine iteF ⟨_, rfl, rfl, _, rfl, ?_⟩
              by_cases hpar : x = ")"
              · refine ifT (congrArg V.str hpar) ⟨_, rfl, _, _, rfl, rfl, _, rfl, ?_⟩
                by_cases hlt : 0 < d
                · obtain ⟨e, rfl⟩ : ∃ e, d = e + 1 := ⟨d - 1, by omega⟩
                  refine ifT (by omega) ⟨_, rfl, _, _, rfl, rfl, s35, e, false, [], kd, some (.int (0 + (i : Int))), some (.str x), ?_, s5 _ _ hkd3, by omega, (fun _ h => nomatch h), by decide, f1.trans (fwA_step hx ?_)⟩
                  · have e2 : (((e + 1 : Nat) : Int) - 1) = (e : Int) := by omega
                    show [some (V.ref p), some (.str t), some (.ref wl), some (.int (((e + 1 : Nat) : Int) - 1)), some (.bl false), some (.ref kd), some (.ref hd), some (.int (0 + (i : Int))), some (.str x)] = _
                    rw [e2]
                  · rw [hpar]
                    exact st_close
                · exact ifF (by omega) ⟨_, rfl, back s5 (fwA_bad hx (st_stray hao fun z => hlt z.2))⟩
              · exact ifF (fun z => hpar (V.str.inj z)) ⟨_, rfl, back s5 (fwA_bad hx (st_stray hao fun z => hpar z.1))⟩
      · rintro σ H3 ⟨s3, d, o, ks, kd, v7, v8, rfl, hkd3, hd6, hks, hkl, f1⟩
        have kE : ∀ {H'}, Same H3 H' → fopen ⟨d, o, ks⟩ = true → Q (.int ((ws.map V.str).length : Int)) H' := fun s' e => by
          have z := kA _ ((s2.trans s3).trans s')
          rw [f1, fwA_end e] at z
          rw [List.length_map]
          exact z
        refine ⟨_, rfl, o, rfl, ?_⟩
        cases o with
        | true => exact iteT ⟨_, rfl, wl, _, rfl, .inl (SqL.of (s3 _ _ wl2)), kE (Same.refl _) rfl⟩
        | false =>
          refine iteF ⟨_, rfl, z0, fun q hq => ?_⟩
          have s4 := same_new (o := .lst []) hq
          refine ⟨_, _, .lst (SqL.of (s4 _ _ hkd3)) (dp_strs ks), .lst (SqL.of upd_same) .nil, strs_shapedL ks hks, by decide +kernel, _, rfl, ?_⟩
          rw [strs_nil]
          cases ks with
          | cons k0 r => exact iteT ⟨_, rfl, wl, _, rfl, .inl (SqL.of (s4 _ _ (s3 _ _ wl2))), kE s4 (by unfold fopen; simp)⟩
          | nil =>
            refine iteF ⟨_, rfl, _, _, rfl, rfl, _, rfl, ?_⟩
            by_cases hlt : 0 < d
            · exact ifT (by omega) ⟨_, rfl, wl, _, rfl, .inl (SqL.of (s4 _ _ (s3 _ _ wl2))), kE s4 (by unfold fopen; simp [hlt])⟩
            · refine ifF (by omega) ?_
              have z := kA _ ((s2.trans s3).trans s4)
              rw [f1, fwA_none (by unfold fopen; simp [hlt])] at z
              exact z
    · obtain ⟨ty, h1, h2⟩ := hns.ty (K := K)
      refine ⟨_, rfl, _, _, _, _, false, rfl, .ty "str", h1, h2, false, rfl, iteT ?_⟩
      have z := k H (Same.refl H)
      rw [hns.ans] at z
      exact z
end
end K5

set_option Elab.async false
set_option linter.all false
set_option maxRecDepth 100000
set_option maxHeartbeats 4000000
namespace K5
open PySem PySem.Spec PyProof.Rows L2
theorem exm_self {K : PySem.W.Frag} {C : Addr} (O : OexC K C) : PySem.W.exmOne K (.ref C) (.ref C) = some true := by
  obtain ⟨nm, q, N, bs, bm, sn, sub, ab, col, dd, k0, k1, k2, k3, k5, hC, hbm⟩ := O.cls
  unfold PySem.W.exmOne
  have h1 := O.exC
  rw [h1]
  have e1 : (some true == some true) = true := rfl
  rw [e1, if_pos rfl]
  unfold PySem.W.kitCls
  have hc : PySem.W.clsIn K C = some { name := nm, bases := bs, mro := .ref C :: bm, ns := N, qualname := q, hasDict := true, slotNames := sn, subclasses := sub, abstract := ab, collection := col, hasDel := false } := by
    unfold PySem.W.clsIn
    rw [hC]
  show (if ((PySem.W.clsIn K C).isSome && (PySem.W.typeIn K (.ref C) == some (Value.type "type"))) = true then PySem.W.subIn K (.ref C) (.ref C) else none) = some true
  rw [hc, O.tyC]
  show (if (true && (some (Value.type "type") == some (Value.type "type"))) = true then PySem.W.subIn K (.ref C) (.ref C) else none) = some true
  have e2 : (true && (some (Value.type "type") == some (Value.type "type"))) = true := by decide +kernel
  rw [if_pos e2]
  show PySem.W.mroIn K C (.ref C) = some true
  unfold PySem.W.mroIn
  rw [hc]
  simp
/-! ### a classmethod that may raise, in a try -/
section
open ClX
variable {X : Cx} {CX : CXT} {k : Nat} {C p g : Addr} {mc : Value} {sp : Sp} {E : L2.St → XK} {o e : Expr} {es : List Expr} {m : Str} {pos apos : Pos} {ta : TE} {t : TA} {pl : Sem Bool}
def tCMethS (C : Addr) (sp : Sp) (E : L2.St → XK) (ta : TE) (t : TA) : TE := fun σ H Q => ta σ H fun x H1 => x = .ref C ∧ t σ H1 fun vs H2 => sp (.ref C :: vs) H2 Q (E σ)
theorem run_cmS {pins : List (Addr × Obj)} {σ : L2.St} {H : Hp} {s : Shared} {q : Addr} {E : XK} {Q : VK} {us : List Value} {vs : List V} (F : FnR X.prog X.w X.K X.mg X.base CX k g sp) (hr : Room k X.A) (hx : PassesAt CX X σ E) (I : Inv X ((q, PySem.W.methodObj (.ref g) (.ref C)) :: pins) σ H s)
    (r : Vals vs us) (h : sp (.ref C :: vs) H Q E) : wpAny (model X.prog X.w) X.A (call (.ref q) us) (EP X pins σ Q) X.xe s := by
  have z : wpAny (model X.prog X.w) X.A (call (.ref q) us) (EP X ((q, PySem.W.methodObj (.ref g) (.ref C)) :: pins) σ Q) X.xe s := by
    refine wpAny_call (PySem.W.method_call (pin_at I) ?_)
    refine codeAny_mono (F X.A X.stack s H (.ref C :: us) (.ref C :: vs) Q E hr I.env0 (.cons rfl r) h) fun r s' hq => ?_
    cases r with
    | error e => exact hx _ H s e s' I hq
    | ok fl =>
      cases fl with
      | ret u => exact I.after hq
      | next => exact False.elim hq
      | brk => exact False.elim hq
      | cont => exact False.elim hq
  exact thn z fun _ _ y => unpinE y
theorem pe_cmethS (he : PE X o ta) (r : CRead X.K C mc) (c : CMet X.K C mc m p g) (F : FnR X.prog X.w X.K X.mg X.base CX k g sp) (hr : Room k X.A) (hx : ∀ σ, PassesAt CX X σ (E σ)) (ha : PA X (e :: es) t)
    (hst : starEach (e :: es) X.env = (false, eval e X.env) :: starEach es X.env := by rfl) (hpl : (backTo pos (starEach es X.env)).any (·.1) = false := by rfl)
    (ht : eval (.Call (.Attribute o m apos) (e :: es) [] pos) X.env = (do
      let ov ← eval o X.env
      standAt apos.atName
      let (f, first) ← holding [ov] (getMethod ov m pl)
      callWith pos f first (backTo pos (starEach (e :: es) X.env)) (backToKw pos (keywordEach [] X.env))) := by rfl) :
    PE X (.Call (.Attribute o m apos) (e :: es) [] pos) (tCMethS C sp E ta t) := by
  refine ⟨fun pins s σ H Q I h => ?_⟩
  refine PySem.W.methodCall_KW (pl := pl) (thn (he.run pins s σ H _ I h) fun u s1 ⟨x, H1, I1, rx, ex, q⟩ => ?_) ht
  subst ex
  obtain rfl : u = Value.ref C := rx
  refine getmethcm_ok I1 r c fun s2 I2 => ?_
  refine callwith_cm I2 (base_none I1 (Nat.le_refl _)) c.fi (thn (ha.run pos _ s2 σ H1 _ I2 q) fun us s3 ⟨vs, H2, I3, rv, q2⟩ => ⟨⟨pin_at I3, I3.kIn⟩, ?_⟩) hst hpl
  exact run_cmS F hr (hx σ) I3 rv q2
end
theorem readB_ok {K : PySem.W.Frag} {C : Addr} (h : readB K C = true) : ClX.CRead K C (.type "type") := by
  obtain ⟨h1, h2⟩ := He.ba h
  exact ⟨h1, He.eqO_ok h2⟩
theorem clsB_exc {K : PySem.W.Frag} {C : Addr} (h : clsB K C = true) (x : XfC K C) : ExcC K C := by
  obtain ⟨h1, h⟩ := He.ba h
  obtain ⟨h2, h⟩ := He.ba h
  obtain ⟨h3, h4⟩ := He.ba h
  exact ⟨x.ga, x.gg, x.exC, x.hdC, He.eqO_ok h1, He.eqO_ok h2, of_decide_eq_true h3, of_decide_eq_true h4⟩
def sp_told (K : PySem.W.Frag) : Sp := fun vs H Q _ => ∃ (cal : Addr) (c : CalD) (v : V), vs = [.ref cal, v] ∧ CalAt K H cal c ∧ CalOk c ∧ VOk H v ∧ ∀ H', Same H H' → Q (ovN (lawAns c v)) H'
section
variable {P : Program} {w : World} {K : PySem.W.Frag} {mg : Str → Option Value} {base : Heap}
theorem ok_told (T : Tx K mg) : C8.Cal P w K mg base 38 "_law_told" (sp_told K) [] := by
  obtain ⟨fd, F⟩ := T.b_law_told
  obtain ⟨fdR, FR, bR⟩ := ok_DS_read (P := P) (w := w) (base := base) T
  obtain ⟨O, _, _⟩ := oexB_ok (T.exf 0 rfl)
  have xf : XfC K (cIT K) := xfB_ok (T.exf 1 rfl)
  have xc : ExcC K (cIT K) := clsB_exc (T.exf 2 rfl) xf
  have k1 : PySem.W.kitOne K (.ref (cIT K)) (.type "ValueError") = some true := of_decide_eq_true (T.exf 3 rfl)
  have k2 : PySem.W.kitOne K (.ref (cIT K)) (.ref (He.ga K "InvalidSet")) = some false := of_decide_eq_true (T.exf 4 rfl)
  have k3 : PySem.W.kitOne K (.ref (cDS K)) (.ref (cDS K)) = some true := of_decide_eq_true (T.exf 6 rfl)
  have cr := readB_ok (T.exf 7 rfl)
  have cm := He5.cmet_of (T.exf 8 rfl) (T.exf 9 rfl)
  refine calF F T.g_law_told sc_law_told (fun vs H Q E h => ?_) (fun cdv A outer s H vs Q E hr h => ?_)
  · obtain ⟨cal, c, v, rfl, _⟩ := h
    rfl
  · obtain ⟨cal, c, v, rfl, hc, ok, hv, k⟩ := h
    have nd := sc_law_told.nd
    refine ⟨_, pss_cons (ps_asg (pe_tup (pa_cons pe_non (pa_cons pe_non pa_nil))) (pg_tup (by rfl) (pgs_cons (pg_name (i := 2) nd rfl (.inl rfl)) (pgs_cons (pg_name (i := 3) nd rfl (.inl rfl)) pgs_nil)))) <|
      C8.pss_cut (ps_try_keep (i := 4) rfl rfl nd rfl rfl ⟨rfl, by decide, .inl T.g_InvalidText⟩ (exm_self O) rfl
        (fun W pn xe tk _ => pss_one (ps_set (i := 3) nd rfl (.inl rfl) (pe_cmethS (pe_glob (v := .ref (cDS K)) (by rfl) T.g_DaySet rfl) cr cm (FR.raw bR .nil) hr (fun σ => passAt tk σ) (pa_cons (pv 0) (pa_cons (pv 1) pa_nil)))))
        (fun a dd oe pn => pss_one (ps_set (i := 2) nd rfl (.inl rfl) (pv 4)))) <|
      pss_cons (ps_if (pt_cmp (pc_isN (pv 2))) (pss_one (ps_ret (pe_ifExp (pt_val (pe_callB call_isi (by rfl) T.z_isinstance bIsi (pa_cons (pv 3) (pa_cons (pe_glob (v := .ref (cDS K)) (by rfl) T.g_DaySet rfl) pa_nil)))) pe_non pe_str))) pss_nil) <|
      pss_one (ps_ret (pe_ifExp (PW.pt (pw_and (pt_val (pe_callB (cr_isK xc) (by rfl) T.z_isinstance bIsi (pa_cons (pv 2) (pa_cons (pe_bltn (by rfl) T.z_ValueError (by decide +kernel) (v := .ty "ValueError") rfl) pa_nil))))
        (pw_and1 (pt_not (pt_val (pe_callB (cr_isK xc) (by rfl) T.z_isinstance bIsi (pa_cons (pv 2) (pa_cons (pe_glob (v := .ref (He.ga K "InvalidSet")) (by rfl) T.g_InvalidSet rfl) pa_nil)))))))) (pe_kf (C0 := cIT K) (fun C e => by subst e; exact ⟨xf, T.n_IT_index⟩) (pv 2)) pe_str)), ?_⟩
    refine ⟨(by decide), fun t0 ht0 => ⟨t0, _, rfl, SqT.of upd_same, rfl, _, _, rfl, _, _, rfl, rfl, ?_⟩⟩
    have s0 := same_new (o := .tup [.non, .non]) ht0
    have sok := (T.exf 5 rfl)
    refine ⟨fun σ H' => Same H H' ∧ ((lawAns c v = none ∧ ∃ (a dx : Addr) (fs : List (Str × V)), σ = [some (.ref cal), some v, some .non, some (.ref a), none] ∧ H' a = some (.ins (cDS K) dx fs)) ∨
      ∃ (n : Nat) (a dd : Addr), lawAns c v = some n ∧ σ = [some (.ref cal), some v, some (.ref a), some .non, none] ∧ H' a = some (exK a (cIT K) dd) ∧ H' dd = some (.xd [("index", .int n)])), ?_, ?_⟩
    · refine ⟨rfl, _, rfl, _, rfl, cal, c, v, rfl, hc.same s0, ok, hv.same s0, fun a dx fs H1 hn s1 ha => ?_, fun n x H1 hn s1 hx => ?_⟩
      · exact ⟨s0.trans s1, .inl ⟨hn, a, dx, fs, rfl, ha⟩⟩
      · refine ⟨rfl, x, rfl, fun a ha => ?_⟩
        refine ⟨_, rfl, fun _ => ⟨(s0.trans s1).trans (same_new ha), .inr ⟨n, a, x, hn, rfl, upd_same, same_new ha _ _ hx⟩⟩⟩
    · rintro σ H1 ⟨s1, ⟨hn, a, dx, fs, rfl, ha⟩ | ⟨n, a, dd, hn, rfl, ha, hd⟩⟩
      · obtain ⟨h1, h⟩ := He.ba sok
        obtain ⟨h2, h⟩ := He.ba h
        obtain ⟨h3, h4⟩ := He.ba h
        have z := k H1 s1
        rw [hn] at z
        refine ⟨_, rfl, true, rfl, iteT ⟨_, rfl, _, _, _, _, true, rfl, .own _, .base (.ins ha T.c_DS (He.eqO_ok h1) (He.eqO_ok h2) (of_decide_eq_true h3) (of_decide_eq_true h4)), k3, true, rfl, iteT z⟩⟩
      · have z := k H1 s1
        rw [hn] at z
        refine ⟨_, rfl, false, rfl, iteF ⟨_, rfl, a, dd, _, _, _, true, rfl, ha, hd, .ty "ValueError", k1, true, rfl, iteT ⟨_, rfl, a, dd, _, _, _, false, rfl, ha, hd, .own _, k2, false, rfl, iteT ⟨_, rfl, a, dd, _, _, rfl, ha, hd, rfl, z⟩⟩⟩⟩
end
end K5

set_option Elab.async false
set_option linter.all false
set_option maxRecDepth 100000
set_option maxHeartbeats 4000000
/-! Walks 27: the law's leaves. -/
namespace K5
open PySem PySem.Spec PyProof.Rows L2
def LeafV (v : V) : Prop := (∃ s, v = .str s ∧ okS s ∧ s.length ≤ 10) ∨ ∃ i : Int, v = .int i ∧ -100 ≤ i ∧ i ≤ 100
def LL (H0 H : Hp) (x : V) : Prop := ∃ (l : Addr) (lv : List V), x = .ref l ∧ H l = some (.lst lv) ∧ lv ≠ [] ∧ lv.length ≤ 3 ∧ (∀ v ∈ lv, LeafV v) ∧ H0 l = none
theorem LL.same {H0 H H' : Hp} {x : V} (h : LL H0 H x) (s : Same H H') : LL H0 H' x := by
  obtain ⟨l, lv, e, h1, h2⟩ := h
  exact ⟨l, lv, e, s _ _ h1, h2⟩
theorem LL.sx {H0 H H' : Hp} {x : V} {a : Addr} {kvs : List (Key × V)} (h : LL H0 H x) (ha : H a = some (.dK kvs)) (s : SX a H H') : LL H0 H' x := by
  obtain ⟨l, lv, e, h1, h2⟩ := h
  exact ⟨l, lv, e, s.lstD ha h1, h2⟩
/-- a list of such lists is written to -/
theorem LL.put {H0 H : Hp} {x : V} {s : Addr} {xs ys : List V} (h : LL H0 H x) (hs : H s = some (.lst xs)) (hx : ∀ x ∈ xs, ∃ l, x = V.ref l) : LL H0 (upd H s (.lst ys)) x := by
  obtain ⟨l, lv, e, h1, h2, h3, h4, h5⟩ := h
  refine ⟨l, lv, e, ?_, h2, h3, h4, h5⟩
  have ne : l ≠ s := fun z => by
    subst z
    rw [h1] at hs
    obtain rfl : lv = xs := HO.lst.inj (Option.some.inj hs)
    cases lv with
    | nil => exact h2 rfl
    | cons v r =>
      obtain ⟨q, e2⟩ := hx v (List.mem_cons_self ..)
      rcases h4 v (List.mem_cons_self ..) with ⟨_, e3, _⟩ | ⟨_, e3, _⟩ <;> rw [e2] at e3 <;> cases e3
  rw [upd_ne ne]
  exact h1
theorem LL.ref {H0 H : Hp} {x : V} (h : LL H0 H x) : ∃ l, x = V.ref l := by
  obtain ⟨l, _, e, _⟩ := h
  exact ⟨l, e⟩
theorem PlainAt.sx {H H' : Hp} {p a : Addr} {c : CalD} {kvs : List (Key × V)} (h : PlainAt H p c) (ne : p ≠ a) (ha : H a = some (.dK kvs)) (s : SX a H H') : PlainAt H' p c := by
  obtain ⟨ay, al, ar, ah, bs, hs, h1, h2, h3, h4, h5, h6, h7⟩ := h.ob
  have t : ∀ {b : Addr} {xs : List V}, H b = some (.tup xs) → H' b = some (.tup xs) := fun e => s _ _ (ne_of e ha (by intro z; cases z)) e
  exact ⟨ay, al, ar, ah, bs, hs, s _ _ ne h1, s.lstD ha h2, Paired.same (fun _ _ q => s.lstD ha q) h3, s.lstD ha h4, s.lstD ha h5, s.lstD ha h6, Paired.same (fun _ _ q => t q) h7⟩
def sp_nth : Sp := fun vs H Q _ => ∃ (pn : PenP) (n : Nat), vs = [.ref pn.p] ∧ PenAt H pn n ∧ n ≤ 900000000 ∧ ∀ (i : Int) H', -100 ≤ i → i ≤ 100 → SX pn.p H H' → PenAt H' pn (n + 3) → Q (.int i) H'
def sp_leaf : Sp := fun vs H Q _ => ∃ (pn : PenP) (p : Addr) (n : Nat) (c : CalD), vs = [.ref pn.p, .ref p] ∧ PenAt H pn n ∧ n ≤ 800000000 ∧ PlainAt H p c ∧ CalOk c ∧ p ≠ pn.p ∧ ∀ x H', LL H H' x → SX pn.p H H' → PenAt H' pn (n + 15) → Q x H'
theorem none_back {H H' : Hp} {a l : Addr} {kvs : List (Key × V)} (s : SX a H H') (ha : H' a = some (.dK kvs)) (h : H' l = none) : H l = none := by
  cases e : H l with
  | none => rfl
  | some u =>
    by_cases n : l = a
    · subst n
      rw [h] at ha
      cases ha
    · have := s l u n e
      rw [h] at this
      cases this
section
variable {P : Program} {w : World} {K : PySem.W.Frag} {mg : Str → Option Value} {base : Heap}
theorem ok_nth (T : Tx K mg) : C8.Cal P w K mg base 3 "_law_nth" sp_nth [] := by
  obtain ⟨fd, F⟩ := T.b_law_nth
  refine calF F T.g_law_nth sc_law_nth (fun vs H Q E h => ?_) (fun cdv A outer s H vs Q E hr h => ?_)
  · obtain ⟨pn, n, rfl, _⟩ := h
    rfl
  · obtain ⟨pn, n, rfl, hp, hn, k⟩ := h
    refine ⟨_, pss_one <| ps_ret <| C8.pe_c (ok_pick T) hr (by decide) (by rfl) <| pa_cons (pv 0) <| pa_cons (pe_lst <| pa_cons pe_int <| pa_cons pe_int <| pa_cons pe_int <| pa_cons (pe_un un_neg pe_int) <| pa_cons (pe_un un_neg pe_int) <| pa_cons (pe_un un_neg pe_int) <|
      pa_cons (pe_op op_add pe_int (C8.pe_c (ok_draw T) hr (by decide) (by rfl) (pa_cons (pv 0) (pa_cons pe_int pa_nil)))) <| pa_cons (pe_op op_sub (pe_un un_neg pe_int) (C8.pe_c (ok_draw T) hr (by decide) (by rfl) (pa_cons (pv 0) (pa_cons pe_int pa_nil)))) <| pa_cons pe_int <| pa_cons pe_int pa_nil) pa_nil, ?_⟩
    refine ⟨_, rfl, _, rfl, _, rfl, _, rfl, _, rfl, pn, n, 40, rfl, hp, by omega, by decide, by decide, fun r1 H1 hr1 s1 p1 => ⟨_, _, rfl, rfl, ?_⟩⟩
    refine ⟨_, rfl, _, rfl, pn, n + 1, 40, rfl, p1, by omega, by decide, by decide, fun r2 H2 hr2 s2 p2 => ⟨_, _, rfl, rfl, (by show 10 ≤ sizeLine; decide), fun l hl => ?_⟩⟩
    have s3 := same_new (o := .lst [.int 1, .int 2, .int 3, .int (-1), .int (-2), .int (-3), .int (1 + (r1 : Int)), .int (-1 - (r2 : Int)), .int 1, .int 4]) hl
    refine ⟨pn, n + 2, _, rfl, p2.same s3, by omega, .inl ⟨l, _, rfl, upd_same, (by show 1 ≤ 10; decide), (by show 10 ≤ 1000; decide), fun x H4 hx s4 p4 => ?_⟩⟩
    have e : ∃ i : Int, x = .int i ∧ -100 ≤ i ∧ i ≤ 100 := by
      have hx' : x ∈ [V.int 1, .int 2, .int 3, .int (-1), .int (-2), .int (-3), .int (1 + (r1 : Int)), .int (-1 - (r2 : Int)), .int 1, .int 4] := hx
      simp only [List.mem_cons, List.not_mem_nil, or_false] at hx'
      rcases hx' with rfl | rfl | rfl | rfl | rfl | rfl | rfl | rfl | rfl | rfl <;> exact ⟨_, rfl, by omega, by omega⟩
    obtain ⟨i, rfl, i1, i2⟩ := e
    exact k i H4 i1 i2 (((s1.trans s2).trans (.of s3)).trans s4) p4
theorem ok_leaf (T : Tx K mg) : C8.Cal P w K mg base 4 "_law_leaf" sp_leaf [] := by
  obtain ⟨fd, F⟩ := T.b_law_leaf
  refine calF F T.g_law_leaf sc_law_leaf (fun vs H Q E h => ?_) (fun cdv A outer s H vs Q E hr h => ?_)
  · obtain ⟨pn, p, n, c, rfl, _⟩ := h
    rfl
  · obtain ⟨pn, p, n, c, rfl, hp, hn, hpl, ok, hne, k⟩ := h
    have nd := sc_law_leaf.nd
    have hu := hu_of hr
    have z1 : (1 : Nat) ≤ sizeLine := by decide
    have z2 : (2 : Nat) ≤ sizeLine := by decide
    have z3 : (3 : Nat) ≤ sizeLine := by decide
    refine ⟨_, pss_cons (ps_set (i := 2) nd rfl (Or.inl rfl) (C8.pe_c (ok_draw T) hr (by decide) (by rfl) (pa_cons (pv 0) (pa_cons (pe_dget hu (pv 1) pe_str (fun _ _ => rfl)) pa_nil)))) <|
      C8.pss_cut (ps_set (i := 3) nd rfl (Or.inl rfl) (pe_lst <| pa_cons (pe_lst (pa_cons pe_str pa_nil)) <| pa_cons (pe_lst (pa_cons pe_str pa_nil)) <| pa_cons (pe_lst (pa_cons pe_str pa_nil)) <| pa_cons (pe_lst (pa_cons pe_str pa_nil)) <| pa_cons (pe_lst (pa_cons pe_str pa_nil)) <| pa_cons (pe_lst (pa_cons pe_str (pa_cons (pv 2) pa_nil))) <| pa_cons (pe_lst (pa_cons pe_str (pa_cons (pv 2) pa_nil))) pa_nil)) <|
      C8.pss_cut (ps_set (i := 3) nd rfl (Or.inl rfl) (pe_op op_cat (pv 3) (pe_lst <| pa_cons (pe_lst (pa_cons pe_str (pa_cons (pe_op op_add pe_int (C8.pe_c (ok_draw T) hr (by decide) (by rfl) (pa_cons (pv 0) (pa_cons (pe_callB call_len_seq (by rfl) T.z_len bLen (pa_cons (pe_ix ix_list (pe_dget hu (pv 1) pe_str (fun _ _ => rfl)) pe_int (fun _ _ => rfl)) pa_nil)) pa_nil)))) pa_nil))) <|
        pa_cons (pe_lst (pa_cons pe_str (pa_cons (C8.pe_c (ok_nth T) hr (by decide) (by rfl) (pa_cons (pv 0) pa_nil)) pa_nil))) pa_nil))) <|
      C8.pss_cut (ps_expr (pe_bm PySem.F.plainAttrs_list PySem.F.slot_list_append PySem.F.type_list_append mt_append (pv 3) (pa_cons (pe_lst (pa_cons pe_str (pa_cons (C8.pe_c (ok_nth T) hr (by decide) (by rfl) (pa_cons (pv 0) pa_nil)) pa_nil))) pa_nil))) <|
      pss_one <| ps_ret <| C8.pe_c (ok_pick T) hr (by decide) (by rfl) <| pa_cons (pv 0) <| pa_cons (pe_op op_cat (pv 3) (pe_lst (pa_cons (pe_lst (pa_cons pe_str (pa_cons (C8.pe_c (ok_nth T) hr (by decide) (by rfl) (pa_cons (pv 0) pa_nil)) (pa_cons (pv 2) pa_nil)))) pa_nil))) pa_nil, ?_⟩
    obtain ⟨ay, al, ar, ah, bs, hs, h1, h2, h3, h4, h5, h6, h7⟩ := hpl.ob
    have w1 := ok.w1
    have w2 := ok.w2
    have hwn : (c.w.toNat : Int) = c.w := Int.toNat_of_nonneg (by omega)
    refine ⟨_, rfl, _, rfl, p, _, rfl, gWeek h1, pn, n, c.w.toNat, by rw [hwn] <;> rfl, hp, by omega, by omega, by omega, fun wd H1 hwd sx1 p1 => ?_⟩
    obtain ⟨kv0, hd0⟩ := hp.dk
    obtain ⟨kv1, hd1⟩ := p1.dk
    have nb : ∀ {l}, H1 l = none → H l = none := fun h => none_back sx1 hd1 h
    have lvs : ∀ s : Str, okS s → s.length ≤ 10 → LeafV (.str s) := fun s h1 h2 => .inl ⟨s, rfl, h1, h2⟩
    have lvi : ∀ i : Int, -100 ≤ i → i ≤ 100 → LeafV (.int i) := fun i h1 h2 => .inr ⟨i, rfl, h1, h2⟩
    have wdl : LeafV (.int (wd : Int)) := lvi _ (by omega) (by omega)
    have mk1 : ∀ {Ha : Hp} {l : Addr} {v : V}, Ha l = none → H l = none → LeafV v → LL H (upd Ha l (.lst [v])) (.ref l) := fun _ h hv => ⟨_, _, rfl, upd_same, by simp, by simp, fun x hx => by
      obtain rfl : x = _ := List.mem_singleton.mp hx
      exact hv, h⟩
    have mk2 : ∀ {Ha : Hp} {l : Addr} {v v' : V}, Ha l = none → H l = none → LeafV v → LeafV v' → LL H (upd Ha l (.lst [v, v'])) (.ref l) := fun _ h hv hv' => ⟨_, _, rfl, upd_same, by simp, by simp, fun x hx => by
      rcases List.mem_cons.mp hx with rfl | hx
      · exact hv
      · obtain rfl : x = _ := List.mem_singleton.mp hx
        exact hv', h⟩
    have mk3 : ∀ {Ha : Hp} {l : Addr} {v v' v2 : V}, Ha l = none → H l = none → LeafV v → LeafV v' → LeafV v2 → LL H (upd Ha l (.lst [v, v', v2])) (.ref l) := fun _ h hv hv' hv2 => ⟨_, _, rfl, upd_same, by simp, by simp, fun x hx => by
      rcases List.mem_cons.mp hx with rfl | hx
      · exact hv
      · rcases List.mem_cons.mp hx with rfl | hx
        · exact hv'
        · obtain rfl : x = _ := List.mem_singleton.mp hx
          exact hv2, h⟩
    have wds : LeafV (.str "weekday") := lvs _ (by decide +kernel) (by decide +kernel)
    have dys : LeafV (.str "day") := lvs _ (by decide +kernel) (by decide +kernel)
    have mos : LeafV (.str "month") := lvs _ (by decide +kernel) (by decide +kernel)
    have nts : LeafV (.str "nth") := lvs _ (by decide +kernel) (by decide +kernel)
    -- some, first
    refine ⟨fun σ H' => ∃ (s : Addr) (xs : List V), σ = [some (.ref pn.p), some (.ref p), some (.int wd), some (.ref s)] ∧ SX pn.p H H' ∧ PenAt H' pn (n + 1) ∧ H' s = some (.lst xs) ∧ H s = none ∧ xs.length = 7 ∧ ∀ x ∈ xs, LL H H' x, ?_, ?_⟩
    · refine ⟨z1, fun l1 n1 => ⟨z1, fun l2 n2 => ⟨z1, fun l3 n3 => ⟨z1, fun l4 n4 => ⟨z1, fun l5 n5 => ⟨_, rfl, z2, fun l6 n6 => ⟨_, rfl, z2, fun l7 n7 => ⟨(by show 7 ≤ sizeLine; decide), fun s hs => ?_⟩⟩⟩⟩⟩⟩⟩⟩
      have t1 := same_new (o := .lst [.str "all"]) n1
      have t2 := same_new (o := .lst [.str "none"]) n2
      have t3 := same_new (o := .lst [.str "work"]) n3
      have t4 := same_new (o := .lst [.str "rest"]) n4
      have t5 := same_new (o := .lst [.str "work"]) n5
      have t6 := same_new (o := .lst [.str "weekday", .int (wd : Int)]) n6
      have t7 := same_new (o := .lst [.str "weekday", .int (wd : Int)]) n7
      have t8 := same_new (o := .lst [.ref l1, .ref l2, .ref l3, .ref l4, .ref l5, .ref l6, .ref l7]) hs
      have nbk : ∀ {Ha : Hp} {l}, Same H1 Ha → Ha l = none → H l = none := fun {Ha l} sm h => nb (by
        cases e : H1 l with
        | none => rfl
        | some u =>
          have := sm l u e
          rw [h] at this
          cases this)
      have g1 : LL H _ (.ref l1) := mk1 n1 (nb n1) (lvs "all" (by decide +kernel) (by decide +kernel))
      have g2 : LL H _ (.ref l2) := mk1 n2 (nbk t1 n2) (lvs "none" (by decide +kernel) (by decide +kernel))
      have g3 : LL H _ (.ref l3) := mk1 n3 (nbk (t1.trans t2) n3) (lvs "work" (by decide +kernel) (by decide +kernel))
      have g4 : LL H _ (.ref l4) := mk1 n4 (nbk ((t1.trans t2).trans t3) n4) (lvs "rest" (by decide +kernel) (by decide +kernel))
      have g5 : LL H _ (.ref l5) := mk1 n5 (nbk (((t1.trans t2).trans t3).trans t4) n5) (lvs "work" (by decide +kernel) (by decide +kernel))
      have g6 : LL H _ (.ref l6) := mk2 n6 (nbk ((((t1.trans t2).trans t3).trans t4).trans t5) n6) wds wdl
      have g7 : LL H _ (.ref l7) := mk2 n7 (nbk (((((t1.trans t2).trans t3).trans t4).trans t5).trans t6) n7) wds wdl
      have sall := ((((((t1.trans t2).trans t3).trans t4).trans t5).trans t6).trans t7).trans t8
      refine ⟨s, _, rfl, sx1.trans (.of sall), p1.same sall, upd_same, nbk ((((((t1.trans t2).trans t3).trans t4).trans t5).trans t6).trans t7) hs, rfl, fun x hx => ?_⟩
      have hx' : x ∈ [V.ref l1, .ref l2, .ref l3, .ref l4, .ref l5, .ref l6, .ref l7] := hx
      simp only [List.mem_cons, List.not_mem_nil, or_false] at hx'
      rcases hx' with rfl | rfl | rfl | rfl | rfl | rfl | rfl
      · exact g1.same ((((((t2.trans t3).trans t4).trans t5).trans t6).trans t7).trans t8)
      · exact g2.same (((((t3.trans t4).trans t5).trans t6).trans t7).trans t8)
      · exact g3.same ((((t4.trans t5).trans t6).trans t7).trans t8)
      · exact g4.same (((t5.trans t6).trans t7).trans t8)
      · exact g5.same ((t6.trans t7).trans t8)
      · exact g6.same (t7.trans t8)
      · exact g7.same t8
    rintro σ H2 ⟨s, xs, rfl, sx2, p2, hs2, hs0, hl2, hx2⟩
    clear nb lvs p1 sx1 hd1
    have pl2 := hpl.sx hne hd0 sx2
    -- month, day
    refine ⟨fun σ H' => ∃ (s : Addr) (xs : List V), σ = [some (.ref pn.p), some (.ref p), some (.int wd), some (.ref s)] ∧ SX pn.p H H' ∧ PenAt H' pn (n + 5) ∧ H' s = some (.lst xs) ∧ H s = none ∧ xs.length = 9 ∧ ∀ x ∈ xs, LL H H' x, ?_, ?_⟩
    · obtain ⟨ay, al, ar, ah, bs, hs, h1, h2, h3, h4, h5, h6, h7⟩ := pl2.ob
      obtain ⟨b0, hb0⟩ : ∃ b0, bs[0]? = some b0 := ⟨_, List.getElem?_eq_getElem (by have := h3.length; have := ok.y1; omega)⟩
      obtain ⟨y0, q1, q2⟩ := paired_at h3 0 b0 hb0
      have em : y0.length = c.M := ok.rows y0 (List.mem_of_getElem? q1)
      have m1 := ok.m1
      have m2 := ok.m2
      refine ⟨_, rfl, _, rfl, _, rfl, p, _, rfl, gYears h1, ay, _, _, _, rfl, rfl, SqL.of h2, at_of (j := 0) rfl (by rw [List.getElem?_map, hb0] <;> rfl), b0, _, rfl, .inl (SqL.of q2), pn, n + 1, c.M, by rw [List.length_map, em] <;> rfl, p2, by omega, m1, by omega, fun r H3 hr sx3 p3 => ⟨_, _, rfl, rfl, z2, fun l1 n1 => ?_⟩⟩
      obtain ⟨kv2, hd2⟩ := p2.dk
      obtain ⟨kv3, hd3⟩ := p3.dk
      have t1 := same_new (o := .lst [.str "month", .int (1 + (r : Int))]) n1
      have p3' := p3.same t1
      refine ⟨_, rfl, pn, n + 2, rfl, p3', by omega, fun i H4 i1 i2 sx4 p4 => ⟨z2, fun l2 n2 => ⟨z2, fun l3 n3 => ?_⟩⟩⟩
      obtain ⟨kv3', hd3'⟩ := p3'.dk
      obtain ⟨kv4, hd4⟩ := p4.dk
      have t2 := same_new (o := .lst [.str "day", .int i]) n2
      have t3 := same_new (o := .lst [.ref l1, .ref l2]) n3
      have g1 : LL H _ (.ref l1) := mk2 n1 (none_back (sx2.trans sx3) hd3 n1) mos (lvi (1 + (r : Int)) (by omega) (by omega))
      have sx24 := ((sx2.trans sx3).trans (.of t1)).trans sx4
      have g2 : LL H _ (.ref l2) := mk2 n2 (none_back sx24 hd4 n2) dys (lvi i i1 i2)
      have g1' := (g1.sx hd3' sx4).same (t2.trans t3)
      have g2' := g2.same t3
      have hs4 := t3 _ _ (t2 _ _ (sx4.lstD hd3' (t1 _ _ (sx3.lstD hd2 hs2))))
      refine ⟨s, l3, xs, _, rfl, rfl, hs4, upd_same, (by show xs.length + 2 ≤ sizeLine; rw [hl2]; decide), fun s' ns' => ?_⟩
      have t4 := same_new (o := .lst (xs ++ [.ref l1, .ref l2])) ns'
      refine ⟨s', _, rfl, ((sx24.trans (.of t2)).trans (.of t3)).trans (.of t4), (((p4.same t2).same t3).same t4).mono (by omega), upd_same, none_back ((sx24.trans (.of t2)).trans (.of t3)) ((p4.same t2).same t3).dk.choose_spec ns', by simp [hl2], fun x hx => ?_⟩
      rcases List.mem_append.mp hx with hx | hx
      · exact ((((((hx2 x hx).sx hd2 sx3).same t1).sx hd3' sx4).same (t2.trans t3)).same t4)
      · have hx' : x ∈ [V.ref l1, .ref l2] := hx
        simp only [List.mem_cons, List.not_mem_nil, or_false] at hx'
        rcases hx' with rfl | rfl
        · exact g1'.same t4
        · exact g2'.same t4
    clear hs2 hs0 hx2 p2 sx2 pl2 hl2
    rintro σ H2 ⟨s, xs, rfl, sx2, p2, hs2, hs0, hl2, hx2⟩
    -- day again
    obtain ⟨kv2, hd2⟩ := p2.dk
    refine ⟨fun σ H' => ∃ (s : Addr) (xs : List V), σ = [some (.ref pn.p), some (.ref p), some (.int wd), some (.ref s)] ∧ SX pn.p H H' ∧ PenAt H' pn (n + 8) ∧ H' s = some (.lst xs) ∧ H s = none ∧ xs.length = 10 ∧ ∀ x ∈ xs, LL H H' x, ?_, ?_⟩
    · refine ⟨_, rfl, .inl ⟨rfl, _, SqL.of hs2⟩, _, rfl, pn, n + 5, rfl, p2, by omega, fun i H4 i1 i2 sx4 p4 => ⟨z2, fun l1 n1 => ?_⟩⟩
      obtain ⟨kv4, hd4⟩ := p4.dk
      have t1 := same_new (o := .lst [.str "day", .int i]) n1
      have g1 : LL H _ (.ref l1) := mk2 n1 (none_back (sx2.trans sx4) hd4 n1) dys (lvi i i1 i2)
      have hs4 := t1 _ _ (sx4.lstD hd2 hs2)
      have rfs : ∀ x ∈ xs, ∃ l, x = V.ref l := fun x hx => (hx2 x hx).ref
      refine ⟨s, xs, _, rfl, rfl, hs4, by rw [hl2]; decide, s, xs ++ [.ref l1], rfl, ((sx2.trans sx4).trans (.of t1)).fill hs0, (hp.fill (p4.same t1) hs0).mono (by omega), upd_same, hs0, by simp [hl2], fun x hx => ?_⟩
      rcases List.mem_append.mp hx with hx | hx
      · exact (((hx2 x hx).sx hd2 sx4).same t1).put hs4 rfs
      · obtain rfl : x = V.ref l1 := List.mem_singleton.mp hx
        exact g1.put hs4 rfs
    clear hs2 hs0 hx2 p2 sx2 hl2 hd2
    rintro σ H2 ⟨s, xs, rfl, sx2, p2, hs2, hs0, hl2, hx2⟩
    obtain ⟨kv2, hd2⟩ := p2.dk
    refine ⟨_, rfl, _, rfl, _, rfl, pn, n + 8, rfl, p2, by omega, fun i H4 i1 i2 sx4 p4 => ⟨_, rfl, z3, fun l1 n1 => ⟨z1, fun l2 n2 => ?_⟩⟩⟩
    obtain ⟨kv4, hd4⟩ := p4.dk
    have t1 := same_new (o := .lst [.str "nth", .int i, .int (wd : Int)]) n1
    have t2 := same_new (o := .lst [.ref l1]) n2
    have g1 : LL H _ (.ref l1) := mk3 n1 (none_back (sx2.trans sx4) hd4 n1) nts (lvi i i1 i2) wdl
    refine ⟨s, l2, xs, _, rfl, rfl, t2 _ _ (t1 _ _ (sx4.lstD hd2 hs2)), upd_same, (by show xs.length + 1 ≤ sizeLine; rw [hl2]; decide), fun s' ns' => ?_⟩
    have t3 := same_new (o := .lst (xs ++ [.ref l1])) ns'
    have t13 := (t1.trans t2).trans t3
    refine ⟨pn, n + 11, _, rfl, p4.same t13, by omega, .inl ⟨s', _, rfl, upd_same, by simp, by simp [hl2], fun x H5 hx sx5 p5 => ?_⟩⟩
    obtain ⟨kv5, hd5⟩ := (p4.same t13).dk
    refine k x H5 ?_ (((sx2.trans sx4).trans (.of t13)).trans sx5) (p5.mono (by omega))
    rcases List.mem_append.mp hx with hx | hx
    · exact ((((hx2 x hx).sx hd2 sx4).same t13).sx hd5 sx5)
    · obtain rfl : x = V.ref l1 := List.mem_singleton.mp hx
      exact (g1.same (t2.trans t3)).sx hd5 sx5
end
end K5

set_option Elab.async false
set_option linter.all false
set_option maxRecDepth 100000
set_option maxHeartbeats 4000000
/-! Walks 28: the law's trees. -/
namespace K5
open PySem PySem.Spec PyProof.Rows L2
inductive TreeAt (old : Addr → Prop) (H : Hp) : Nat → V → Prop where
  | plain {n : Nat} {t l : Addr} {lv : List V} (h : H t = some (.tup [.str "plain", .ref l])) (hl : H l = some (.lst lv)) (ne : ¬ old l) (h3 : lv.length ≤ 3) (lf : ∀ v ∈ lv, LeafV v) : TreeAt old H (n + 1) (.ref t)
  | one {n : Nat} {t : Addr} {k : Str} {u : V} (h : H t = some (.tup [.str k, u])) (hk : k = "not" ∨ k = "in") (c : TreeAt old H n u) : TreeAt old H (n + 1) (.ref t)
  | many {n : Nat} {t l : Addr} {k : Str} {us : List V} (h : H t = some (.tup [.str k, .ref l])) (hk : k = "and" ∨ k = "or") (hl : H l = some (.lst us)) (ne : ¬ old l) (h1 : 1 ≤ us.length) (h3 : us.length ≤ 3) (c : ∀ u ∈ us, TreeAt old H n u) : TreeAt old H (n + 1) (.ref t)
theorem TreeAt.keep {old old' : Addr → Prop} {H H' : Hp} (ht : ∀ b xs, H b = some (.tup xs) → H' b = some (.tup xs)) (hl : ∀ b xs, H b = some (.lst xs) → ¬ old b → H' b = some (.lst xs)) (ho : ∀ b, old' b → old b) {n : Nat} {v : V} (t : TreeAt old H n v) : TreeAt old' H' n v := by
  induction t with
  | plain h hl2 ne h3 lf => exact .plain (ht _ _ h) (hl _ _ hl2 ne) (fun z => ne (ho _ z)) h3 lf
  | one h hk c ih => exact .one (ht _ _ h) hk ih
  | many h hk hl2 ne h1 h3 c ih => exact .many (ht _ _ h) hk (hl _ _ hl2 ne) (fun z => ne (ho _ z)) h1 h3 ih
theorem TreeAt.same {old : Addr → Prop} {H H' : Hp} {n : Nat} {v : V} (t : TreeAt old H n v) (s : Same H H') : TreeAt old H' n v := t.keep (fun _ _ q => s _ _ q) (fun _ _ q _ => s _ _ q) (fun _ z => z)
def tc : Nat → Nat
  | 0 => 0
  | m + 1 => 3 * (tc m + 1) + 30
def sp_tree (m : Nat) : Sp := fun vs H Q _ => ∃ (pn : PenP) (p : Addr) (n d : Nat) (c : CalD), vs = [.ref pn.p, .ref p, .int d] ∧ d < m ∧ m ≤ 3 ∧ PenAt H pn n ∧ n + tc m ≤ 700000000 ∧ PlainAt H p c ∧ CalOk c ∧ p ≠ pn.p ∧
  ∀ v H', TreeAt (fun l => H l ≠ none) H' m v → SX pn.p H H' → PenAt H' pn (n + tc m) → Q v H'
theorem tc_le {m : Nat} (h : m ≤ 3) : tc m ≤ 1000 := by
  have h' : m = 0 ∨ m = 1 ∨ m = 2 ∨ m = 3 := by omega
  rcases h' with rfl | rfl | rfl | rfl <;> decide
section
variable {P : Program} {w : World} {K : PySem.W.Frag} {mg : Str → Option Value} {base : Heap}
theorem ok_tree_step (T : Tx K mg) (m : Nat) (hR : C8.Cal P w K mg base (4 + m) "_law_tree" (sp_tree m) []) : C8.Cal P w K mg base (5 + m) "_law_tree" (sp_tree (m + 1)) [] := by
  obtain ⟨fd, F⟩ := T.b_law_tree
  have e5 : 5 + m = (4 + m) + 1 := by omega
  rw [e5]
  refine calF F T.g_law_tree sc_law_tree (fun vs H Q E h => ?_) (fun cdv A outer s H vs Q E hr h => ?_)
  · obtain ⟨pn, p, n, d, c, rfl, _⟩ := h
    rfl
  · obtain ⟨pn, p, n, d, c, rfl, hd, hm, hp, hn, hpl, ok, hne, k⟩ := h
    have nd := sc_law_tree.nd
    have z2 : (2 : Nat) ≤ sizeLine := by decide
    have z3 : (3 : Nat) ≤ sizeLine := by decide
    have htc : tc m ≤ 1000 := tc_le (by omega)
    have etc : tc (m + 1) = 3 * (tc m + 1) + 30 := rfl
    refine ⟨_, C8.pss_cut (ps_set (i := 3) nd rfl (Or.inl rfl) (pe_ifExp (pt_cmpR op_gt (pv 2) pe_int (nomark _)) (C8.pe_c (ok_draw T) hr (by omega) (by rfl) (pa_cons (pv 0) (pa_cons pe_int pa_nil))) pe_int)) <|
      pss_cons (ps_if (pt_cmpR op_lt (pv 3) pe_int (nomark _)) (pss_one (ps_ret (pe_tup (pa_cons pe_str (pa_cons (C8.pe_c (ok_leaf T) hr (by omega) (by rfl) (pa_cons (pv 0) (pa_cons (pv 1) pa_nil))) pa_nil))))) pss_nil) <|
      pss_cons (ps_if (pt_cmpR op_lt (pv 3) pe_int (nomark _)) (pss_one (ps_ret (pe_tup (pa_cons (pe_ix ix_list (pe_lst (pa_cons pe_str (pa_cons pe_str pa_nil))) (pe_op op_sub (pv 3) pe_int) (fun _ _ => rfl)) (pa_cons (C8.pe_c hR hr (by omega) (by rfl) (pa_cons (pv 0) (pa_cons (pv 1) (pa_cons (pe_op op_sub (pv 2) pe_int) pa_nil)))) pa_nil))))) pss_nil) <|
      pss_cons (ps_set (i := 4) nd rfl (Or.inl rfl) (pe_ix ix_list (pe_lst (pa_cons pe_str (pa_cons pe_str (pa_cons pe_str pa_nil)))) (pe_op op_sub (pv 3) pe_int) (fun _ _ => rfl))) <|
      pss_one <| ps_ret <| pe_tup <| pa_cons (pv 4) <| pa_cons (pe_lc (own := [("_law_part", 5)]) (g := gName 5) (tt := tYes) rfl nd (pi_range1 (by rfl) T.z_range (pa_cons (pe_op op_add pe_int (C8.pe_c (ok_draw T) hr (by omega) (by rfl) (pa_cons (pv 0) (pa_cons pe_int pa_nil)))) pa_nil)) (blkOk_by (own := [("_law_part", 5)]) (N := n_law_tree) (sc := defScope s_law_tree) (by decide +kernel)) (fun _ _ _ _ _ => pg_name (i := 5) nd rfl (Or.inl rfl)) (fun _ _ _ _ _ => pts_nil)
        (fun _ _ _ _ _ => C8.pe_c hR hr (by omega) (by rfl) (pa_cons (pv 0) (pa_cons (pv 1) (pa_cons (C8.pe_c (ok_draw T) hr (by omega) (by rfl) (pa_cons (pv 0) (pa_cons (pv 2) pa_nil))) pa_nil))))) pa_nil, ?_⟩
    obtain ⟨kv0, hd0⟩ := hp.dk
    refine ⟨fun σ H' => ∃ r : Nat, σ = [some (.ref pn.p), some (.ref p), some (.int d), some (.int r), none, none] ∧ r < 7 ∧ (d = 0 → r = 0) ∧ SX pn.p H H' ∧ PenAt H' pn (n + 1), ?_, ?_⟩
    · refine ⟨_, rfl, _, _, rfl, rfl, _, rfl, ?_⟩
      by_cases h0 : 0 < d
      · refine ifT (by omega) ⟨_, rfl, pn, n, 7, rfl, hp, by omega, by decide, by decide, fun r H1 hr1 sx p1 => ⟨r, rfl, hr1, by omega, sx, p1⟩⟩
      · exact ifF (by omega) ⟨0, rfl, by decide, fun _ => rfl, .refl _, hp.mono (by omega)⟩
    rintro σ H1 ⟨r, rfl, hr7, hr0, sx1, p1⟩
    have pl1 := hpl.sx hne hd0 sx1
    obtain ⟨kv1, hd1⟩ := p1.dk
    have oldup : ∀ {Ha : Hp}, SX pn.p H Ha → PenAt Ha pn (n + 1) → ∀ b, H b ≠ none → Ha b ≠ none := fun {Ha} sx pa b hb z => by
      obtain ⟨kva, hda⟩ := pa.dk
      exact hb (none_back sx hda z)
    refine ⟨_, rfl, _, _, rfl, rfl, _, rfl, ?_⟩
    by_cases c2 : r < 2
    · refine ifT (by omega) ⟨_, rfl, _, rfl, pn, p, n + 1, c, rfl, p1, by omega, pl1, ok, hne, fun x H2 hx sx2 p2 => ⟨z2, fun t ht => ?_⟩⟩
      obtain ⟨l, lv, rfl, hl, _, hl3, hlf, hl0⟩ := hx
      have s3 := same_new (o := .tup [.str "plain", .ref l]) ht
      refine k (.ref t) _ (.plain upd_same (s3 _ _ hl) (fun z => oldup sx1 p1 l z hl0) hl3 hlf) ((sx1.trans sx2).trans (.of s3)) ((p2.same s3).mono (by omega))
    · have hd1' : 1 ≤ d := by
        rcases Nat.eq_zero_or_pos d with h | h
        · have := hr0 h
          omega
        · exact h
      refine ifF (by omega) ⟨_, rfl, _, _, rfl, rfl, _, rfl, ?_⟩
      by_cases c4 : r < 4
      · refine ifT (by omega) ⟨z2, fun l hl => ?_⟩
        have s2 := same_new (o := .lst [.str "not", .str "in"]) hl
        obtain ⟨j, hj, rfl⟩ : ∃ j, j < 2 ∧ r = j + 2 := ⟨r - 2, by omega, by omega⟩
        have hx : ∃ w : Str, [V.str "not", .str "in"][j]? = some (V.str w) ∧ (w = "not" ∨ w = "in") := by
          have h' : j = 0 ∨ j = 1 := by omega
          rcases h' with rfl | rfl
          · exact ⟨_, rfl, .inl rfl⟩
          · exact ⟨_, rfl, .inr rfl⟩
        obtain ⟨wd, hw1, hw2⟩ := hx
        have p2 := p1.same s2
        have pl2 := pl1.same s2
        obtain ⟨kv2, hd2⟩ := p2.dk
        refine ⟨_, rfl, _, _, rfl, rfl, l, _, _, _, rfl, rfl, SqL.of upd_same, at_of (j := j) (by omega) hw1, ?_⟩
        refine ⟨_, rfl, _, rfl, _, rfl, _, _, rfl, rfl, pn, p, n + 1, d - 1, c, ?_, by omega, by omega, p2, by omega, pl2, ok, hne, fun v H3 hv sx3 p3 => ⟨z2, fun t ht => ?_⟩⟩
        · have e : ((d : Int) - 1) = ((d - 1 : Nat) : Int) := by omega
          rw [← e] <;> rfl
        · have s4 := same_new (o := .tup [.str wd, v]) ht
          refine k (.ref t) _ (.one upd_same hw2 (hv.keep (fun _ _ q => s4 _ _ q) (fun _ _ q _ => s4 _ _ q) (fun b hb => oldup (sx1.trans (.of s2)) p2 b hb))) (((sx1.trans (.of s2)).trans sx3).trans (.of s4)) ((p3.same s4).mono (by omega))
      · refine ifF (by omega) ⟨z3, fun l hl => ?_⟩
        have s2 := same_new (o := .lst [.str "and", .str "or", .str "and"]) hl
        obtain ⟨j, hj, rfl⟩ : ∃ j, j < 3 ∧ r = j + 4 := ⟨r - 4, by omega, by omega⟩
        have hx : ∃ w : Str, [V.str "and", .str "or", .str "and"][j]? = some (V.str w) ∧ (w = "and" ∨ w = "or") := by
          have h' : j = 0 ∨ j = 1 ∨ j = 2 := by omega
          rcases h' with rfl | rfl | rfl
          · exact ⟨_, rfl, .inl rfl⟩
          · exact ⟨_, rfl, .inr rfl⟩
          · exact ⟨_, rfl, .inl rfl⟩
        obtain ⟨wd, hw1, hw2⟩ := hx
        have p2 := p1.same s2
        have pl2 := pl1.same s2
        have sx2 := sx1.trans (.of s2)
        refine ⟨_, rfl, _, _, rfl, rfl, l, _, _, _, rfl, rfl, SqL.of upd_same, at_of (j := j) (by omega) hw1, ?_⟩
        generalize upd H1 l (.lst [.str "and", .str "or", .str "and"]) = H2 at s2 p2 pl2 sx2 ⊢
        obtain ⟨kv2, hd2⟩ := p2.dk
        refine ⟨_, rfl, _, rfl, pn, n + 1, 3, rfl, p2, by omega, by decide, by decide, fun r2 H3 hr2 sx3 p3 => ⟨_, _, rfl, rfl, ?_⟩⟩
        obtain ⟨kv3, hd3⟩ := p3.dk
        have pl3 := pl2.sx hne hd2 sx3
        have sx3' := sx2.trans sx3
        refine ⟨(1 + (r2 : Int)), rfl, by omega, by omega, fun D hD => ?_⟩
        have en : (1 + (r2 : Int)).toNat = r2 + 1 := by omega
        rw [en]
        have D0 : H D = none := none_back sx3' hd3 hD
        have t3 := same_new (o := .lst []) hD
        refine lc_range (lo := 0) (n := r2 + 1) (fun i H' => SX pn.p H H' ∧ PlainAt H' p c ∧ PenAt H' pn (n + 2 + i * (tc m + 1)) ∧ ∃ us : List V, H' D = some (.lst us) ∧ us.length = i ∧ ∀ u ∈ us, TreeAt (fun l => H l ≠ none ∨ l = D) H' m u)
          ⟨sx3'.trans (.of t3), pl3.same t3, (p3.same t3).mono (by omega), [], upd_same, rfl, fun _ h => nomatch h⟩ ?_ ?_
        · rintro i H' hi ⟨sx, pl, pa, us, hus, hul, htr⟩
          have hmul : i * (tc m + 1) ≤ 3 * 1001 := Nat.mul_le_mul (by omega) (by omega)
          have hmul3 : (i + 1) * (tc m + 1) ≤ 3 * (tc m + 1) := Nat.mul_le_mul_right _ (by omega)
          have hmul2 : (i + 1) * (tc m + 1) = i * (tc m + 1) + (tc m + 1) := Nat.succ_mul _ _
          obtain ⟨kva, hda⟩ := pa.dk
          refine ⟨rfl, _, rfl, _, rfl, _, rfl, _, rfl, pn, n + 2 + i * (tc m + 1), d, rfl, pa, by omega, hd1', by omega, fun r3 H4 hr3 sx4 p4 => ?_⟩
          have pl4 := pl.sx hne hda sx4
          have hus4 := sx4.lstD hda hus
          obtain ⟨kv4, hd4⟩ := p4.dk
          have sx04 := sx.trans sx4
          refine ⟨pn, p, _, r3, c, rfl, by omega, by omega, p4, by omega, pl4, ok, hne, fun v H5 hv sx5 p5 => ?_⟩
          have pl5 := pl4.sx hne hd4 sx5
          have hus5 := sx5.lstD hd4 hus4
          have sx05 := sx04.trans sx5
          obtain ⟨kv5, hd5⟩ := p5.dk
          have put : ∀ {u : V}, TreeAt (fun l => H l ≠ none ∨ l = D) H5 m u → TreeAt (fun l => H l ≠ none ∨ l = D) (upd H5 D (.lst (us ++ [v]))) m u := fun t => t.keep (fun b xs q => by
            rw [upd_ne (ne_of q hus5 (by intro z; cases z))]
            exact q) (fun b xs q no => by
            rw [upd_ne (fun z => no (.inr z))]
            exact q) (fun _ z => z)
          refine ⟨us, hus5, by rw [hul]; exact small1000 (by omega), sx05.fill D0, ?_, ?_, us ++ [v], upd_same, by simp [hul], fun u hu => ?_⟩
          · obtain ⟨ay, al, ar, ah, bs, hs, h1, h2, h3, h4, h5, h6, h7⟩ := hpl.ob
            exact hpl.sx hne hd0 (sx05.fill D0)
          · exact (hp.fill p5 D0).mono (by omega)
          · rcases List.mem_append.mp hu with hu | hu
            · have tu := htr u hu
              refine put (tu.keep (fun b xs q => ?_) (fun b xs q _ => sx5.lstD hd4 (sx4.lstD hda q)) (fun _ z => z))
              have q4 := sx4 b _ (ne_of q hda (by intro z; cases z)) q
              exact sx5 b _ (ne_of q4 hd4 (by intro z; cases z)) q4
            · obtain rfl : u = v := by simpa using hu
              refine put (hv.keep (fun _ _ q => q) (fun _ _ q _ => q) (fun b hb z => ?_))
              rcases hb with hb | hb
              · exact hb (none_back sx04 hd4 z)
              · subst hb
                rw [hus4] at z
                cases z
        rintro H' ⟨sx, pl, pa, us, hus, hul, htr⟩
        have hmul : (r2 + 1) * (tc m + 1) ≤ 3 * (tc m + 1) := Nat.mul_le_mul_right _ (by omega)
        refine ⟨z2, fun t ht => ?_⟩
        have s4 := same_new (o := .tup [.str wd, .ref D]) ht
        refine k (.ref t) _ (.many upd_same hw2 (s4 _ _ hus) (fun z => z D0) (by omega) (by omega) fun u hu => (htr u hu).keep (fun _ _ q => s4 _ _ q) (fun _ _ q _ => s4 _ _ q) (fun _ z => .inl z)) (sx.trans (.of s4)) ((pa.same s4).mono (by omega))
theorem ok_tree (T : Tx K mg) : ∀ m : Nat, C8.Cal P w K mg base (4 + m) "_law_tree" (sp_tree m) []
  | 0 => by
    obtain ⟨fd, F⟩ := T.b_law_tree
    refine calF F T.g_law_tree sc_law_tree (fun vs H Q E h => ?_) (fun cdv A outer s H vs Q E hr h => ?_)
    · obtain ⟨pn, p, n, d, c, rfl, _⟩ := h
      rfl
    · obtain ⟨pn, p, n, d, c, rfl, hd, _⟩ := h
      omega
  | m + 1 => by
    have := ok_tree_step T m (ok_tree T m)
    have e : 4 + (m + 1) = 5 + m := by omega
    rw [e]
    exact this
end
end K5

set_option Elab.async false
set_option linter.all false
set_option maxRecDepth 100000
set_option maxHeartbeats 4000000
/-! Walks 29: the law's words. -/
namespace K5
open PySem PySem.Spec PyProof.Rows L2
def WS (s : Str) : Prop := okS s ∧ s.length ≤ 50
structure WL (H : Hp) (p : Addr) (n : Nat) : Prop where
  ob : ∃ ss : List Str, H p = some (.lst (ss.map V.str)) ∧ ss.length ≤ n ∧ ∀ s ∈ ss, WS s
theorem num_ok : ∀ i : Int, -100 ≤ i → i ≤ 100 → WS (Str.ofString (toString i)) := by
  have h : ((List.range 101).all fun n => PyData.strOk (Str.ofString (toString (n : Int))) && decide ((Str.ofString (toString (n : Int))).length ≤ 50) && (PyData.strOk (Str.ofString (toString (-(n : Int)))) && decide ((Str.ofString (toString (-(n : Int)))).length ≤ 50))) = true := by decide +kernel
  intro i h1 h2
  have h3 := List.all_eq_true.mp h i.natAbs (List.mem_range.mpr (by omega))
  rw [Bool.and_eq_true, Bool.and_eq_true, Bool.and_eq_true] at h3
  obtain ⟨⟨a1, a2⟩, a3, a4⟩ := h3
  have a2 := of_decide_eq_true a2
  have a4 := of_decide_eq_true a4
  rcases Int.natAbs_eq i with e | e
  · rw [e]
    exact ⟨a1, a2⟩
  · rw [e]
    exact ⟨a3, a4⟩
def wm : Nat → Nat
  | 0 => 0
  | n + 1 => 3 * (wm n + 1) + 5
theorem wm_le {m : Nat} (h : m ≤ 3) : wm m ≤ 200 := by
  have h' : m = 0 ∨ m = 1 ∨ m = 2 ∨ m = 3 := by omega
  rcases h' with rfl | rfl | rfl | rfl <;> decide
def sp_words (m : Nat) : Sp := fun vs H Q _ => ∃ (v : V) (layer : Int) (old : Addr → Prop), vs = [v, .int layer] ∧ TreeAt old H m v ∧ m ≤ 3 ∧ ∀ p H', Same H H' → WL H' p (wm m) → Q (.ref p) H'
theorem flat_one (x : V) : ∀ k : Nat, (List.replicate k [x]).flatten = List.replicate k x
  | 0 => rfl
  | k + 1 => by rw [List.replicate_succ, List.flatten_cons, flat_one x k] <;> rfl
theorem ws_not : WS "not" := ⟨by decide +kernel, by decide +kernel⟩
theorem ws_and : WS "and" := ⟨by decide +kernel, by decide +kernel⟩
theorem ws_or : WS "or" := ⟨by decide +kernel, by decide +kernel⟩
theorem ws_open : WS "(" := ⟨by decide +kernel, by decide +kernel⟩
theorem ws_close : WS ")" := ⟨by decide +kernel, by decide +kernel⟩
section
variable {P : Program} {w : World} {K : PySem.W.Frag} {mg : Str → Option Value} {base : Heap}
theorem ok_words_step (T : Tx K mg) (m : Nat) (hR : C8.Cal P w K mg base (1 + m) "_law_words" (sp_words m) []) : C8.Cal P w K mg base (2 + m) "_law_words" (sp_words (m + 1)) [] := by
  obtain ⟨fd, F⟩ := T.b_law_words
  have e5 : 2 + m = (1 + m) + 1 := by omega
  rw [e5]
  refine calF F T.g_law_words sc_law_words (fun vs H Q E h => ?_) (fun cdv A outer s H vs Q E hr h => ?_)
  · obtain ⟨v, layer, old, rfl, _⟩ := h
    rfl
  · obtain ⟨v, layer, old, rfl, ht, hm, k⟩ := h
    have nd := sc_law_words.nd
    have z0 : (0 : Nat) ≤ sizeLine := by decide
    have z1 : (1 : Nat) ≤ sizeLine := by decide
    have hsz : sizeLine = 16777216 := sizeLine_eq
    have hwm : wm m ≤ 200 := wm_le (by omega)
    have ewm : wm (m + 1) = 3 * (wm m + 1) + 5 := rfl
    refine ⟨_, pss_cons (ps_asg (pv 0) (pg_tup (by rfl) (pgs_cons (pg_name (i := 2) nd rfl (.inl rfl)) (pgs_cons (pg_name (i := 3) nd rfl (.inl rfl)) pgs_nil)))) <|
      pss_cons (ps_if (pt_cmpR op_eq (pv 2) pe_str (nomark _)) (pss_one (ps_ret (pe_lc (own := [("_law_word", 7)]) (g := gName 7) (tt := tYes) rfl nd (pi_list (pv 3)) (blkOk_by (own := [("_law_word", 7)]) (N := n_law_words) (sc := defScope s_law_words) (by decide +kernel)) (fun _ _ _ _ _ => pg_name (i := 7) nd rfl (Or.inl rfl)) (fun _ _ _ _ _ => pts_nil)
        (fun _ _ _ _ _ => pe_callTy (call_str_int.or SkE.call_str_str) (by rfl) T.z_str bS (pa_cons (pv 7) pa_nil))))) pss_nil) <|
      pss_cons (ps_if (pt_cmpR op_eq (pv 2) pe_str (nomark _)) (pss_one (ps_ret (pe_op op_cat (pe_lst (pa_cons pe_str pa_nil)) (C8.pe_c hR hr (by omega) (by rfl) (pa_cons (pv 3) (pa_cons pe_int pa_nil)))))) pss_nil) <|
      pss_cons (ps_if (pt_cmpR op_eq (pv 2) pe_str (nomark _)) (pss_one (ps_ret (pe_op op_cat (pe_op op_cat (pe_lst (pa_cons pe_str pa_nil)) (C8.pe_c hR hr (by omega) (by rfl) (pa_cons (pv 3) (pa_cons pe_int pa_nil)))) (pe_lst (pa_cons pe_str pa_nil))))) pss_nil) <|
      pss_cons (ps_if (pt_cmpR op_eq (pe_callB call_len_seq (by rfl) T.z_len bLen (pa_cons (pv 3) pa_nil)) pe_int (nomark _)) (pss_one (ps_ret (C8.pe_c hR hr (by omega) (by rfl) (pa_cons (pe_ix ix_list (pv 3) pe_int (fun _ _ => rfl)) (pa_cons (pv 1) pa_nil))))) pss_nil) <|
      C8.pss_cut (ps_par (i := 4) (j := 5) rfl nd rfl rfl (by decide) rfl rfl (pa_cons (pe_lst pa_nil) (pa_cons (pe_ifExp (pt_cmpR op_eq (pv 2) pe_str (nomark _)) pe_int pe_int) pa_nil)) (by rfl)) <|
      pss_cons (ps_for PassesOwn.never rfl (pi_list (pv 3)) (pg_name (i := 6) nd rfl (.inl rfl))
        (pss_one (ps_set (i := 4) nd rfl (Or.inl rfl) (pe_op op_cat (pe_op op_cat (pv 4) (pe_op op_rep (pe_lst (pa_cons (pv 2) pa_nil)) (pe_callTy call_int1 (by rfl) T.z_int bI (pa_cons (pe_cmpR (op_neD hr.units) (pv 4) (pe_lst pa_nil) (nomark _)) pa_nil)))) (C8.pe_c hR hr (by omega) (by rfl) (pa_cons (pv 6) (pa_cons (pv 5) pa_nil))))))) <|
      pss_cons (ps_if (pt_cmpR op_gt (pv 1) (pe_ifExp (pt_cmpR op_eq (pv 2) pe_str (nomark _)) pe_int pe_int) (nomark _)) (pss_one (ps_ret (pe_op op_cat (pe_op op_cat (pe_lst (pa_cons pe_str pa_nil)) (pv 4)) (pe_lst (pa_cons pe_str pa_nil))))) pss_nil) <|
      pss_one (ps_ret (pv 4)), ?_⟩
    cases ht with
    | @plain _ t l lv h hl ne h3 lf =>
      refine ⟨_, rfl, t, _, rfl, SqT.of h, rfl, _, _, rfl, _, _, rfl, rfl, ?_⟩
      refine ⟨_, rfl, rfl, _, rfl, ifT rfl ⟨_, rfl, l, rfl, ⟨_, SqL.of hl⟩, fun D hD => ?_⟩⟩
      refine lc_list (K := K) (a := l) (xs := lv) (fun i H' => Same H H' ∧ ∃ ss : List Str, H' D = some (.lst (ss.map V.str)) ∧ ss.length = i ∧ ∀ s ∈ ss, WS s) ⟨same_new hD, [], upd_same, rfl, fun _ h => nomatch h⟩ (fun i H' _ q => SqL.of (q.1 _ _ hl)) ?_ ?_
      · rintro i x H' hx ⟨sm, ss, hss, hsl, hws⟩
        have hi : i < lv.length := (List.getElem?_eq_some_iff.mp hx).1
        rcases lf x (List.mem_of_getElem? hx) with ⟨y, rfl, y1, y2⟩ | ⟨y, rfl, y1, y2⟩
        · refine ⟨rfl, _, rfl, .inr ⟨y, rfl, _, hss, by rw [List.length_map]; omega, same_upd sm hD, ss ++ [y], by rw [List.map_append]; exact upd_same, by simp [hsl], fun s hs => ?_⟩⟩
          rcases List.mem_append.mp hs with hs | hs
          · exact hws s hs
          · obtain rfl : s = y := by simpa using hs
            exact ⟨y1, by omega⟩
        · refine ⟨rfl, _, rfl, .inl ⟨y, rfl, ?_, _, hss, by rw [List.length_map]; omega, same_upd sm hD, ss ++ [Str.ofString (toString y)], by rw [List.map_append]; exact upd_same, by simp [hsl], fun s hs => ?_⟩⟩
          · have h1 : y.natAbs < 2 ^ 7 := by omega
            have h2 := PySem.Flt.log2_lt_of (by decide) h1
            omega
          · rcases List.mem_append.mp hs with hs | hs
            · exact hws s hs
            · obtain rfl : s = _ := List.mem_singleton.mp hs
              exact num_ok y y1 y2
      rintro H' ⟨sm, ss, hss, hsl, hws⟩
      exact k D H' sm ⟨ss, hss, by omega, hws⟩
    | @one _ t kd u h hk hc =>
      refine ⟨_, rfl, t, _, rfl, SqT.of h, rfl, _, _, rfl, _, _, rfl, rfl, ?_⟩
      have np : kd ≠ "plain" := by rcases hk with rfl | rfl <;> decide +kernel
      refine ⟨_, rfl, rfl, _, rfl, ifF (fun z => np (V.str.inj z)) ⟨_, rfl, rfl, _, rfl, ?_⟩⟩
      by_cases h1 : kd = "not"
      · refine ifT (congrArg V.str h1) ⟨z1, fun l hl => ?_⟩
        have s1 := same_new (o := .lst [.str "not"]) hl
        refine ⟨_, rfl, u, 2, old, rfl, hc.same s1, by omega, fun q H2 s2 hw => ?_⟩
        obtain ⟨ss, h2, h3, h4⟩ := hw.ob
        refine ⟨l, q, [.str "not"], ss.map V.str, rfl, rfl, s2 _ _ upd_same, h2, by simp; omega, fun q2 n2 => k q2 _ ((s1.trans s2).trans (same_new n2)) ⟨("not" : Str) :: ss, upd_same, by simp; omega, fun s hs => ?_⟩⟩
        rcases List.mem_cons.mp hs with rfl | hs
        · exact ws_not
        · exact h4 s hs
      · have h2 : kd = "in" := hk.resolve_left h1
        refine ifF (fun z => h1 (V.str.inj z)) ⟨_, rfl, rfl, _, rfl, ifT (congrArg V.str h2) ⟨z1, fun l hl => ?_⟩⟩
        have s1 := same_new (o := .lst [.str "("]) hl
        refine ⟨_, rfl, u, 0, old, rfl, hc.same s1, by omega, fun q H2 s2 hw => ?_⟩
        obtain ⟨ss, h2, h3, h4⟩ := hw.ob
        refine ⟨l, q, [.str "("], ss.map V.str, rfl, rfl, s2 _ _ upd_same, h2, by simp; omega, fun q2 n2 => ⟨z1, fun q3 n3 => ⟨q2, q3, _, _, rfl, rfl, same_new n3 _ _ upd_same, upd_same, by simp; omega, fun q4 n4 => ?_⟩⟩⟩
        refine k q4 _ ((((s1.trans s2).trans (same_new n2)).trans (same_new n3)).trans (same_new n4)) ⟨("(" : Str) :: (ss ++ [(")" : Str)]), upd_same.trans ?_, by simp; omega, fun s hs => ?_⟩
        · simp
        · rcases List.mem_cons.mp hs with rfl | hs
          · exact ws_open
          · rcases List.mem_append.mp hs with hs | hs
            · exact h4 s hs
            · obtain rfl : s = _ := List.mem_singleton.mp hs
              exact ws_close
    | @many _ t l kd us h hk hl ne h1 h3 hc =>
      refine ⟨_, rfl, t, _, rfl, SqT.of h, rfl, _, _, rfl, _, _, rfl, rfl, ?_⟩
      have np : kd ≠ "plain" := by rcases hk with rfl | rfl <;> decide +kernel
      have nn : kd ≠ "not" := by rcases hk with rfl | rfl <;> decide +kernel
      have ni : kd ≠ "in" := by rcases hk with rfl | rfl <;> decide +kernel
      have wk : WS kd := by
        rcases hk with rfl | rfl
        · exact ws_and
        · exact ws_or
      refine ⟨_, rfl, rfl, _, rfl, ifF (fun z => np (V.str.inj z)) ⟨_, rfl, rfl, _, rfl, ifF (fun z => nn (V.str.inj z)) ⟨_, rfl, rfl, _, rfl, ifF (fun z => ni (V.str.inj z)) ⟨_, rfl, l, _, rfl, .inl (SqL.of hl), rfl, _, rfl, ?_⟩⟩⟩⟩
      by_cases e1 : us.length = 1
      · obtain ⟨u0, hu0⟩ : ∃ u0, us[0]? = some u0 := ⟨_, List.getElem?_eq_getElem (by omega)⟩
        refine ifT (by rw [e1] <;> rfl) ⟨_, rfl, l, _, _, _, rfl, rfl, SqL.of hl, at_of (j := 0) rfl hu0, _, rfl, u0, layer, old, rfl, hc u0 (List.mem_of_getElem? hu0), by omega, fun q H2 s2 hw => k q H2 s2 ?_⟩
        obtain ⟨ss, g1, g2, g3⟩ := hw.ob
        exact ⟨ss, g1, by omega, g3⟩
      · refine ifF (fun z => e1 (by have := V.int.inj z; omega)) ?_
        refine ⟨fun σ H' => ∃ (inner : Int) (f : Addr), σ = [some (.ref t), some (.int layer), some (.str kd), some (.ref l), some (.ref f), some (.int inner), none, none] ∧ Same H H' ∧ H' f = some (.lst []), ?_, ?_⟩
        · refine ⟨z0, fun f hf => ⟨_, rfl, rfl, _, rfl, ?_⟩⟩
          exact ite2 (fun _ => ⟨_, _, rfl, _, f, rfl, same_new hf, upd_same⟩) (fun _ => ⟨_, _, rfl, _, f, rfl, same_new hf, upd_same⟩)
        rintro σ H1 ⟨inner, f, rfl, s1, hf⟩
        refine ⟨_, rfl, l, rfl, ⟨_, SqL.of (s1 _ _ hl)⟩, ?_⟩
        refine for_list (K := K) (a := l) (xs := us) (fun i σ H' => Same H H' ∧ ∃ (f : Addr) (ss : List Str) (v6 : Option V), σ = [some (.ref t), some (.int layer), some (.str kd), some (.ref l), some (.ref f), some (.int inner), v6, none] ∧ H' f = some (.lst (ss.map V.str)) ∧ ss.length ≤ i * (wm m + 1) ∧ ∀ s ∈ ss, WS s)
          ⟨s1, f, [], none, rfl, hf, by simp, fun _ h => nomatch h⟩ (fun i σ H' _ q => SqL.of (q.1 _ _ hl)) ?_ ?_
        · rintro i x σ H' hx ⟨sm, f, ss, v6, rfl, hss, hsl, hws⟩
          have hi : i < us.length := (List.getElem?_eq_some_iff.mp hx).1
          have hmul : i * (wm m + 1) ≤ 3 * 201 := Nat.mul_le_mul (by omega) (by omega)
          have hmul2 : (i + 1) * (wm m + 1) = i * (wm m + 1) + (wm m + 1) := Nat.succ_mul _ _
          refine ⟨_, rfl, _, rfl, z1, fun a ha => ?_⟩
          have t1 := same_new (o := .lst [.str kd]) ha
          refine ⟨_, rfl, z0, fun b hb => ?_⟩
          have t2 := same_new (o := .lst []) hb
          have hf2 := t2 _ _ (t1 _ _ hss)
          have ha2 := t2 _ _ (upd_same (a := a) (o := .lst [.str kd]) (H := H'))
          refine ⟨_, _, .lst (SqL.of hf2) (dp_strs ss), .lst (SqL.of upd_same) .nil, strs_shapedL ss (fun s hs => (hws s hs).1), by decide +kernel, .inr ⟨_, rfl, ?_⟩⟩
          obtain ⟨kk, ekk⟩ : ∃ kk : Int, kk = (if (!PyData.eqv (.list (ss.map PyData.str)) (.list [])) = true then 1 else 0) := ⟨_, rfl⟩
          obtain ⟨kn, hk1, ekn⟩ : ∃ kn : Nat, kn ≤ 1 ∧ kk = (kn : Int) := by
            rw [ekk]
            split
            · exact ⟨1, by omega, rfl⟩
            · exact ⟨0, by omega, rfl⟩
          refine ⟨a, kk, _, rfl, by rw [ekk], ha2, by omega, by omega, by simp; omega, fun c nc => ?_⟩
          have en : kk.toNat = kn := by omega
          have t3 := (t1.trans t2).trans (same_new (o := .lst (List.replicate kk.toNat [V.str kd]).flatten) nc)
          refine ⟨f, c, _, _, rfl, rfl, t3 _ _ hss, upd_same, ?_, fun q nq => ?_⟩
          · rw [flat_one, List.length_map, List.length_replicate]
            omega
          have t4 := t3.trans (same_new (o := .lst (ss.map V.str ++ (List.replicate kk.toNat [V.str kd]).flatten)) nq)
          have eq4 : (ss.map V.str ++ (List.replicate kk.toNat [V.str kd]).flatten) = (ss ++ List.replicate kn kd).map V.str := by
            rw [flat_one, en, List.map_append, List.map_replicate]
          refine ⟨_, rfl, _, rfl, x, inner, old, rfl, (hc x (List.mem_of_getElem? hx)).same (sm.trans t4), by omega, fun q2 H5 s5 hw => ?_⟩
          obtain ⟨ws, g1, g2, g3⟩ := hw.ob
          have hq5 := s5 _ _ (upd_same (a := q) (o := .lst (ss.map V.str ++ (List.replicate kk.toNat [V.str kd]).flatten)))
          rw [eq4] at hq5
          refine ⟨q, q2, (ss ++ List.replicate kn kd).map V.str, ws.map V.str, rfl, rfl, ?_, g1, by simp; omega, fun q3 n3 => ?_⟩
          · rw [← eq4] at hq5 ⊢
            exact hq5
          · refine ⟨((sm.trans t4).trans s5).trans (same_new n3), q3, (ss ++ List.replicate kn kd) ++ ws, _, rfl, ?_, by simp; omega, fun s hs => ?_⟩
            · refine upd_same.trans ?_
              rw [List.map_append (l₁ := ss ++ List.replicate kn kd)]
            · rcases List.mem_append.mp hs with hs | hs
              · rcases List.mem_append.mp hs with hs | hs
                · exact hws s hs
                · rw [(List.mem_replicate.mp hs).2]
                  exact wk
              · exact g3 s hs
        rintro σ H' ⟨sm, f, ss, v6, rfl, hss, hsl, hws⟩
        have hmul : us.length * (wm m + 1) ≤ 3 * (wm m + 1) := Nat.mul_le_mul_right _ (by omega)
        have out : ∀ p H2, Same H' H2 → WL H2 p (wm (m + 1)) → Q (.ref p) H2 := fun p H2 s2 hw => k p H2 (sm.trans s2) hw
        refine ⟨_, rfl, _, rfl, rfl, _, rfl, ite2 (fun _ => ⟨_, _, rfl, rfl, _, rfl, ite2 (fun _ => ?_) (fun _ => ⟨_, rfl, out f H' (Same.refl _) ⟨ss, hss, by omega, hws⟩⟩)⟩) (fun _ => ⟨_, _, rfl, rfl, _, rfl, ite2 (fun _ => ?_) (fun _ => ⟨_, rfl, out f H' (Same.refl _) ⟨ss, hss, by omega, hws⟩⟩)⟩)⟩
        all_goals
          refine ⟨z1, fun l1 n1 => ⟨_, rfl, l1, f, [.str "("], ss.map V.str, rfl, rfl, upd_same, same_new n1 _ _ hss, by simp; omega, fun q2 n2 => ⟨z1, fun q3 n3 => ⟨q2, q3, _, _, rfl, rfl, same_new n3 _ _ upd_same, upd_same, by simp; omega, fun q4 n4 => ?_⟩⟩⟩⟩
          refine out q4 _ ((((same_new n1).trans (same_new n2)).trans (same_new n3)).trans (same_new n4)) ⟨("(" : Str) :: (ss ++ [(")" : Str)]), upd_same.trans ?_, by simp; omega, fun s hs => ?_⟩
          · simp
          · rcases List.mem_cons.mp hs with rfl | hs
            · exact ws_open
            · rcases List.mem_append.mp hs with hs | hs
              · exact hws s hs
              · obtain rfl : s = _ := List.mem_singleton.mp hs
                exact ws_close
theorem ok_words (T : Tx K mg) : ∀ m : Nat, C8.Cal P w K mg base (1 + m) "_law_words" (sp_words m) []
  | 0 => by
    obtain ⟨fd, F⟩ := T.b_law_words
    refine calF F T.g_law_words sc_law_words (fun vs H Q E h => ?_) (fun cdv A outer s H vs Q E hr h => ?_)
    · obtain ⟨v, layer, old, rfl, _⟩ := h
      rfl
    · obtain ⟨v, layer, old, rfl, ht, _⟩ := h
      cases ht
  | m + 1 => by
    have := ok_words_step T m (ok_words T m)
    have e : 1 + (m + 1) = 2 + m := by omega
    rw [e]
    exact this
end
end K5

set_option Elab.async false
set_option linter.all false
set_option maxRecDepth 100000
set_option maxHeartbeats 4000000
/-! Walks 30: the law's bent words. -/
namespace K5
open PySem PySem.Spec PyProof.Rows L2
theorem WL.same {H H' : Hp} {p : Addr} {n : Nat} (h : WL H p n) (s : Same H H') : WL H' p n := by
  obtain ⟨ss, h1, h2⟩ := h.ob
  exact ⟨ss, s _ _ h1, h2⟩
theorem WL.sx {H H' : Hp} {p a : Addr} {n : Nat} {kvs : List (Key × V)} (h : WL H p n) (ha : H a = some (.dK kvs)) (s : SX a H H') : WL H' p n := by
  obtain ⟨ss, h1, h2⟩ := h.ob
  exact ⟨ss, s.lstD ha h1, h2⟩
theorem WL.mono {H : Hp} {p : Addr} {n m : Nat} (h : WL H p n) (k : n ≤ m) : WL H p m := by
  obtain ⟨ss, h1, h2, h3⟩ := h.ob
  exact ⟨ss, h1, by omega, h3⟩
/-- a list of lists is written to -/
theorem WL.put {H : Hp} {p r : Addr} {n : Nat} {xs ys : List V} (h : WL H p n) (hr : H r = some (.lst xs)) (h0 : xs ≠ []) (hx : ∀ x ∈ xs, ∃ l, x = V.ref l) : WL (upd H r (.lst ys)) p n := by
  obtain ⟨ss, h1, h2⟩ := h.ob
  have ne : p ≠ r := fun z => by
    subst z
    rw [h1] at hr
    obtain rfl : ss.map V.str = xs := HO.lst.inj (Option.some.inj hr)
    cases ss with
    | nil => exact h0 rfl
    | cons v r =>
      obtain ⟨q, e2⟩ := hx (.str v) (List.mem_cons_self ..)
      cases e2
  exact ⟨ss, by rw [upd_ne ne]; exact h1, h2⟩
/-! ### expressions that give new lists of words -/
def Row (F : Hp → Prop) (σ : L2.St) (M : Nat) (t : TE) : Prop := ∀ (H : Hp) (Q : VK), F H → (∀ q H', Same H H' → F H' → WL H' q M → Q (.ref q) H') → t σ H Q
def PartOk (σ : L2.St) (t : TO) : Prop := ∀ (H : Hp) (Q : Option Int → Hp → Prop), (∀ i, Q i H) → t σ H Q
section
variable {F : Hp → Prop} {σ : L2.St} {K : PySem.W.Frag}
theorem part_none : PartOk σ tNoPart := fun H Q k => k none
theorem part_var {i : Nat} {n : Int} (h : σ[i]? = some (some (.int n))) : PartOk σ (tPart (tVar i)) := fun H Q k => ⟨_, h, _, rfl, k _⟩
theorem part_add {i : Nat} {n m : Int} (h : σ[i]? = some (some (.int n))) : PartOk σ (tPart (tOp L2.rAdd (tVar i) (tC (.int m)))) := fun H Q k => ⟨_, h, _, _, rfl, rfl, _, rfl, k _⟩
theorem row_cat (hF : ∀ {H H'}, Same H H' → F H → F H') {a b : TE} {M1 M2 M : Nat} (ha : Row F σ M1 a) (hb : Row F σ M2 b) (h : M1 + M2 ≤ M) (hM : M ≤ 100000) : Row F σ M (tOp rCat a b) := fun H Q f k => by
  refine ha H _ f fun q1 H1 s1 f1 w1 => hb H1 _ f1 fun q2 H2 s2 f2 w2 => ?_
  obtain ⟨xs, x1, x2, x3⟩ := (w1.same s2).ob
  obtain ⟨ys, y1, y2, y3⟩ := w2.ob
  have hsz : sizeLine = 16777216 := sizeLine_eq
  refine ⟨q1, q2, _, _, rfl, rfl, x1, y1, by rw [List.length_map, List.length_map]; omega, fun p hp => ?_⟩
  have s3 := same_new (o := .lst (xs.map V.str ++ ys.map V.str)) hp
  refine k p _ ((s1.trans s2).trans s3) (hF s3 f2) ⟨xs ++ ys, by rw [List.map_append]; exact upd_same, by rw [List.length_append]; omega, fun s hs => ?_⟩
  rcases List.mem_append.mp hs with hs | hs
  · exact x3 s hs
  · exact y3 s hs
theorem row_cut (hF : ∀ {H H'}, Same H H' → F H → F H') {i N : Nat} {l : Addr} {tl th : TO} (hi : σ[i]? = some (some (.ref l))) (hl : ∀ H, F H → WL H l N) (pl : PartOk σ tl) (ph : PartOk σ th) : Row F σ N (tSl (rSlL K) (tVar i) tl th) := fun H Q f k => by
  refine ⟨_, hi, pl H _ fun lo => ph H _ fun hi => ?_⟩
  obtain ⟨ss, h1, h2, h3⟩ := (hl H f).ob
  refine ⟨l, _, rfl, SqL.of h1, fun p hp => ?_⟩
  have s1 := same_new (o := .lst (cutV (ss.map V.str) lo hi)) hp
  refine k p _ s1 (hF s1 f) ⟨cutL ss lo hi, by rw [← cutV_map]; exact upd_same, Nat.le_trans (cutL_len _ _ _) h2, fun s hs => h3 s (cutL_mem hs)⟩
theorem row_var {i : Nat} (hF : ∀ {H H'}, Same H H' → F H → F H') {s : Str} (hi : σ[i]? = some (some (.str s))) (hs : WS s) : Row F σ 1 (tLst (tCons (tVar i) tNil)) := fun H Q f k => by
  refine ⟨_, hi, (by show 1 ≤ sizeLine; decide), fun p hp => ?_⟩
  have s1 := same_new (o := .lst [.str s]) hp
  exact k p _ s1 (hF s1 f) ⟨[s], upd_same, by simp, fun x hx => by
    obtain rfl : x = s := by simpa using hx
    exact hs⟩
theorem row_con (hF : ∀ {H H'}, Same H H' → F H → F H') {s : Str} (hs : WS s) : Row F σ 1 (tLst (tCons (tC (.str s)) tNil)) := fun H Q f k => by
  refine ⟨(by show 1 ≤ sizeLine; decide), fun p hp => ?_⟩
  have s1 := same_new (o := .lst [.str s]) hp
  exact k p _ s1 (hF s1 f) ⟨[s], upd_same, by simp, fun x hx => by
    obtain rfl : x = s := by simpa using hx
    exact hs⟩
theorem row_rep (hF : ∀ {H H'}, Same H H' → F H → F H') {a : TE} (ha : Row F σ 1 a) : Row F σ 7 (tOp rRep a (tC (.int 7))) := fun H Q f k => by
  refine ha H _ f fun q1 H1 s1 f1 w1 => ?_
  obtain ⟨ss, h1, h2, h3⟩ := w1.ob
  refine ⟨q1, 7, _, rfl, rfl, h1, by decide, by decide, by
    show (ss.map V.str).length * 7 ≤ sizeLine
    rw [List.length_map]
    have := sizeLine_eq
    omega, fun p hp => ?_⟩
  have s3 := same_new (o := .lst (List.replicate (7 : Int).toNat (ss.map V.str)).flatten) hp
  refine k p _ (s1.trans s3) (hF s3 f1) ⟨(List.replicate 7 ss).flatten, upd_same.trans ?_, ?_, fun s hs => ?_⟩
  · rw [List.map_flatten, List.map_replicate] <;> rfl
  · simp
    omega
  · obtain ⟨l, hl, hs⟩ := List.mem_flatten.mp hs
    rw [(List.mem_replicate.mp hl).2] at hs
    exact h3 s hs
theorem row_rev (hF : ∀ {H H'}, Same H H' → F H → F H') {i N : Nat} {l : Addr} (hi : σ[i]? = some (some (.ref l))) (hl : ∀ H, F H → WL H l N) : Row F σ N (tRevL K (tVar i)) := fun H Q f k => by
  obtain ⟨ss, h1, h2, h3⟩ := (hl H f).ob
  refine ⟨_, hi, l, _, rfl, SqL.of h1, fun p hp => ?_⟩
  have s1 := same_new (o := .lst (ss.map V.str).reverse) hp
  exact k p _ s1 (hF s1 f) ⟨ss.reverse, by rw [List.map_reverse]; exact upd_same, by rw [List.length_reverse]; exact h2, fun s hs => h3 s (List.mem_reverse.mp hs)⟩
end
theorem cut2 {α : Type} (xs : List α) (a : Nat) : (cutL xs (some (a : Int)) (some ((a : Int) + 2))).length ≤ 2 := by
  unfold cutL
  rw [List.length_take, List.length_drop]
  have e1 : HT.sIx xs.length 0 (some (a : Int)) = min a xs.length := HT.sIx_nat _ _ _
  have e2 : HT.sIx xs.length xs.length (some ((a : Int) + 2)) = min (a + 2) xs.length := by
    have : ((a : Int) + 2) = ((a + 2 : Nat) : Int) := by omega
    rw [this]
    exact HT.sIx_nat _ _ _
  rw [e1, e2]
  omega
def pool1 : List Str := ["", "(", ")", "and", "or", "not", "all", "none", "work", "rest", "weekday", "day", "month", "nth", "in"]
def pool2 : List Str := ["a", "0", "1", "-1", "-0", "01", "+1", "40", "41", "-40", "-41", "7", "1.0", "then", "days", "Work"]
def pool3 : List Str := [("1" : Str) ++ Txt.mul "0" 12, Txt.mul "9" 13, ("-" : Str) ++ Txt.mul "9" 45]
def wsB (s : Str) : Bool := PyData.strOk s && decide (s.length ≤ 50)
theorem pool_ok : ∀ s ∈ pool1 ++ pool2 ++ pool3, WS s := by
  have h : (pool1 ++ pool2 ++ pool3).all wsB = true := by decide +kernel
  intro s hs
  have h2 := List.all_eq_true.mp h s hs
  unfold wsB at h2
  rw [Bool.and_eq_true] at h2
  exact ⟨h2.1, of_decide_eq_true h2.2⟩
def RowL (H : Hp) (r : Addr) (k N : Nat) : Prop := ∃ xs : List V, H r = some (.lst xs) ∧ xs.length = k ∧ ∀ x ∈ xs, ∃ q, x = V.ref q ∧ WL H q N
theorem RowL.same {H H' : Hp} {r : Addr} {k N : Nat} (h : RowL H r k N) (s : Same H H') : RowL H' r k N := by
  obtain ⟨xs, h1, h2, h3⟩ := h
  exact ⟨xs, s _ _ h1, h2, fun x hx => by obtain ⟨q, e, w⟩ := h3 x hx; exact ⟨q, e, w.same s⟩⟩
theorem RowL.push {H H' : Hp} {r : Addr} {k N : Nat} (h : RowL H r (k + 1) N) (s : Same H H') {q : Addr} (w : WL H' q N) : ∃ xs, H' r = some (.lst xs) ∧ xs.length = k + 1 ∧ RowL (upd H' r (.lst (xs ++ [V.ref q]))) r (k + 2) N ∧ ∀ {p m}, WL H' p m → WL (upd H' r (.lst (xs ++ [V.ref q]))) p m := by
  obtain ⟨xs, h1, h2, h3⟩ := h.same s
  have h0 : xs ≠ [] := fun z => by rw [z] at h2; cases h2
  have hx : ∀ x ∈ xs, ∃ l, x = V.ref l := fun x hx => by obtain ⟨q, e, _⟩ := h3 x hx; exact ⟨q, e⟩
  refine ⟨xs, h1, h2, ⟨_, upd_same, by simp [h2], fun x hx' => ?_⟩, fun w => w.put h1 h0 hx⟩
  rcases List.mem_append.mp hx' with hx' | hx'
  · obtain ⟨q, e, w⟩ := h3 x hx'
    exact ⟨q, e, w.put h1 h0 hx⟩
  · obtain rfl : x = V.ref q := List.mem_singleton.mp hx'
    exact ⟨q, rfl, w.put h1 h0 hx⟩
def sp_bent : Sp := fun vs H Q _ => ∃ (pn : PenP) (l : Addr) (n N : Nat), vs = [.ref pn.p, .ref l] ∧ PenAt H pn n ∧ n ≤ 900000000 ∧ WL H l N ∧ N ≤ 500 ∧ ∀ q H', WL H' q (2 * N + 20) → SX pn.p H H' → PenAt H' pn (n + 3) → Q (.ref q) H'
section
variable {P : Program} {w : World} {K : PySem.W.Frag} {mg : Str → Option Value} {base : Heap}
theorem ok_bent (T : Tx K mg) : C8.Cal P w K mg base 3 "_law_bent" sp_bent [] := by
  obtain ⟨fd, F⟩ := T.b_law_bent
  refine calF F T.g_law_bent sc_law_bent (fun vs H Q E h => ?_) (fun cdv A outer s H vs Q E hr h => ?_)
  · obtain ⟨pn, l, n, N, rfl, _⟩ := h
    rfl
  · obtain ⟨pn, l, n, N, rfl, hp, hn, hw, hN, k⟩ := h
    have nd := sc_law_bent.nd
    refine ⟨_, C8.pss_cut (ps_par (i := 2) (j := 3) rfl nd rfl rfl (by decide) rfl rfl (pa_cons (C8.pe_c (ok_draw T) hr (by decide) (by rfl) (pa_cons (pv 0) (pa_cons (pe_op op_add (pe_callB call_len_seq (by rfl) T.z_len bLen (pa_cons (pv 1) pa_nil)) pe_int) pa_nil))) (pa_cons (C8.pe_c (ok_draw T) hr (by decide) (by rfl) (pa_cons (pv 0) (pa_cons pe_int pa_nil))) pa_nil)) (by rfl)) <|
      C8.pss_cut (ps_set (i := 4) nd rfl (Or.inl rfl) (pe_lst <| pa_cons pe_str <| pa_cons pe_str <| pa_cons pe_str <| pa_cons pe_str <| pa_cons pe_str <| pa_cons pe_str <| pa_cons pe_str <| pa_cons pe_str <| pa_cons pe_str <| pa_cons pe_str <| pa_cons pe_str <| pa_cons pe_str <| pa_cons pe_str <| pa_cons pe_str <| pa_cons pe_str pa_nil)) <|
      C8.pss_cut (ps_set (i := 4) nd rfl (Or.inl rfl) (pe_op op_cat (pv 4) (pe_lst <| pa_cons pe_str <| pa_cons pe_str <| pa_cons pe_str <| pa_cons pe_str <| pa_cons pe_str <| pa_cons pe_str <| pa_cons pe_str <| pa_cons pe_str <| pa_cons pe_str <| pa_cons pe_str <| pa_cons pe_str <| pa_cons pe_str <| pa_cons pe_str <| pa_cons pe_str <| pa_cons pe_str <| pa_cons pe_str pa_nil))) <|
      C8.pss_cut (ps_set (i := 5) nd rfl (Or.inl rfl) (C8.pe_c (ok_pick T) hr (by decide) (by rfl) <| pa_cons (pv 0) <| pa_cons (pe_op op_cat (pv 4) (pe_lst <| pa_cons (pe_op op_add_str pe_str (pe_op op_mulS pe_str pe_int)) <| pa_cons (pe_op op_mulS pe_str pe_int) <| pa_cons (pe_op op_add_str pe_str (pe_op op_mulS pe_str pe_int)) pa_nil)) pa_nil)) <|
      C8.pss_cut (ps_set (i := 6) nd rfl (Or.inl rfl) (pe_lst <| pa_cons (pe_op op_cat (pe_slice sl_list (pv 1) po_none (po_some (pv 2))) (pe_slice sl_list (pv 1) (po_some (pe_op op_add (pv 2) pe_int)) po_none)) <|
        pa_cons (pe_op op_cat (pe_op op_cat (pe_slice sl_list (pv 1) po_none (po_some (pv 2))) (pe_lst (pa_cons (pv 5) pa_nil))) (pe_slice sl_list (pv 1) (po_some (pv 2)) po_none)) <|
        pa_cons (pe_op op_cat (pe_op op_cat (pe_slice sl_list (pv 1) po_none (po_some (pv 2))) (pe_lst (pa_cons (pv 5) pa_nil))) (pe_slice sl_list (pv 1) (po_some (pe_op op_add (pv 2) pe_int)) po_none)) pa_nil)) <|
      C8.pss_cut (ps_set (i := 7) nd rfl (Or.inl rfl) (pe_slice sl_list (pv 1) (po_some (pv 2)) (po_some (pe_op op_add (pv 2) pe_int)))) <|
      C8.pss_cut (ps_expr (pe_bm PySem.F.plainAttrs_list PySem.F.slot_list_append PySem.F.type_list_append mt_append (pv 6) (pa_cons (pe_op op_cat (pe_op op_cat (pe_slice sl_list (pv 1) po_none (po_some (pv 2))) (pe_revL (pv 7))) (pe_slice sl_list (pv 1) (po_some (pe_op op_add (pv 2) pe_int)) po_none)) pa_nil))) <|
      C8.pss_cut (ps_expr (pe_bm PySem.F.plainAttrs_list PySem.F.slot_list_append PySem.F.type_list_append mt_append (pv 6) (pa_cons (pe_op op_cat (pe_slice sl_list (pv 1) po_none (po_some (pe_op op_add (pv 2) pe_int))) (pe_slice sl_list (pv 1) (po_some (pv 2)) po_none)) pa_nil))) <|
      pss_one <| ps_ret <| pe_ix ix_list (pe_op op_cat (pv 6) (pe_lst <| pa_cons (pe_slice sl_list (pv 1) po_none (po_some (pv 2))) <| pa_cons (pe_op op_cat (pe_op op_cat (pe_op op_cat (pe_slice sl_list (pv 1) po_none (po_some (pv 2))) (pe_op op_rep (pe_lst (pa_cons pe_str pa_nil)) pe_int)) (pe_slice sl_list (pv 1) (po_some (pv 2)) po_none)) (pe_op op_rep (pe_lst (pa_cons pe_str pa_nil)) pe_int)) pa_nil)) (pv 3) (fun _ _ => rfl), ?_⟩
    obtain ⟨kv0, hd0⟩ := hp.dk
    have hsz : sizeLine = 16777216 := sizeLine_eq
    -- at, way
    refine ⟨fun σ H' => ∃ at_ way : Nat, σ = [some (.ref pn.p), some (.ref l), some (.int at_), some (.int way), none, none, none, none] ∧ way < 7 ∧ SX pn.p H H' ∧ PenAt H' pn (n + 2), ?_, ?_⟩
    · obtain ⟨ss, h1, h2, h3⟩ := hw.ob
      refine ⟨_, rfl, _, rfl, l, _, rfl, .inl (SqL.of h1), _, _, rfl, rfl, pn, n, ss.length + 1, by rw [List.length_map] <;> rfl, hp, by omega, by omega, by omega, fun r H1 hr1 sx1 p1 => ?_⟩
      exact ⟨_, rfl, pn, n + 1, 7, rfl, p1, by omega, by decide, by decide, fun r2 H2 hr2 sx2 p2 => ⟨_, _, rfl, r, r2, rfl, hr2, sx1.trans sx2, p2⟩⟩
    rintro σ H1 ⟨a, way, rfl, hway, sx1, p1⟩
    obtain ⟨kv1, hd1⟩ := p1.dk
    have w1 := hw.sx hd0 sx1
    clear hw
    -- pool
    refine ⟨fun σ H' => ∃ pl : Addr, σ = [some (.ref pn.p), some (.ref l), some (.int a), some (.int way), some (.ref pl), none, none, none] ∧ Same H1 H' ∧ H' pl = some (.lst (pool1.map V.str)), ?_, ?_⟩
    · exact ⟨(by show 15 ≤ sizeLine; decide), fun pl hpl => ⟨pl, rfl, same_new hpl, upd_same⟩⟩
    rintro σ H2 ⟨pl, rfl, s2, hpl⟩
    refine ⟨fun σ H' => ∃ pl : Addr, σ = [some (.ref pn.p), some (.ref l), some (.int a), some (.int way), some (.ref pl), none, none, none] ∧ Same H1 H' ∧ H' pl = some (.lst ((pool1 ++ pool2).map V.str)), ?_, ?_⟩
    · refine ⟨_, rfl, (by show 16 ≤ sizeLine; decide), fun pl2 hpl2 => ⟨pl, pl2, pool1.map V.str, pool2.map V.str, rfl, rfl, same_new hpl2 _ _ hpl, upd_same, (by show 15 + 16 ≤ sizeLine; decide), fun q hq => ⟨q, rfl, (s2.trans (same_new hpl2)).trans (same_new hq), upd_same⟩⟩⟩
    clear hpl s2
    rintro σ H3 ⟨pl, rfl, s3, hpl⟩
    have p3 := p1.same s3
    have w3 := w1.same s3
    -- more
    refine ⟨fun σ H' => ∃ (pl : Addr) (mo : Str), WS mo ∧ σ = [some (.ref pn.p), some (.ref l), some (.int a), some (.int way), some (.ref pl), some (.str mo), none, none] ∧ SX pn.p H3 H' ∧ PenAt H' pn (n + 3), ?_, ?_⟩
    · refine ⟨_, rfl, _, rfl, "0", 12, rfl, rfl, (by unfold PySem.MulOk; decide +kernel), _, _, rfl, rfl, (by decide +kernel), "9", 13, rfl, rfl, (by unfold PySem.MulOk; decide +kernel), "9", 45, rfl, rfl, (by unfold PySem.MulOk; decide +kernel), _, _, rfl, rfl, (by decide +kernel), (by show 3 ≤ sizeLine; decide), fun q hq => ?_⟩
      have t1 := same_new (o := .lst (pool3.map V.str)) hq
      refine ⟨pl, q, (pool1 ++ pool2).map V.str, pool3.map V.str, rfl, rfl, t1 _ _ hpl, upd_same, (by show 31 + 3 ≤ sizeLine; decide), fun q2 hq2 => ?_⟩
      have t2 := t1.trans (same_new (o := .lst ((pool1 ++ pool2).map V.str ++ pool3.map V.str)) hq2)
      refine ⟨pn, n + 2, _, rfl, p3.same t2, by omega, .inl ⟨q2, _, rfl, upd_same, by decide, by decide, fun x H4 hx sx4 p4 => ?_⟩⟩
      rw [← List.map_append] at hx
      obtain ⟨mo, hmo, rfl⟩ := List.mem_map.mp hx
      exact ⟨pl, mo, pool_ok mo hmo, rfl, (SX.of t2).trans sx4, p4⟩
    clear hpl
    rintro σ H4 ⟨pl, mo, hmo, rfl, sx4, p4⟩
    obtain ⟨kv3, hd3⟩ := p3.dk
    have w4 := w3.sx hd3 sx4
    have sx04 := (sx1.trans (.of s3)).trans sx4
    have hF : ∀ {Ha Hb : Hp}, Same Ha Hb → (Same H4 Ha ∧ WL Ha l N) → (Same H4 Hb ∧ WL Hb l N) := fun s h => ⟨h.1.trans s, h.2.same s⟩
    have hlW : ∀ Ha, (Same H4 Ha ∧ WL Ha l N) → WL Ha l N := fun _ h => h.2
    -- rows
    refine ⟨fun σ H' => ∃ rw_ : Addr, σ = [some (.ref pn.p), some (.ref l), some (.int a), some (.int way), some (.ref pl), some (.str mo), some (.ref rw_), none] ∧ Same H4 H' ∧ H4 rw_ = none ∧ RowL H' rw_ 3 (2 * N + 20), ?_, ?_⟩
    · refine row_cat (F := fun Ha => Same H4 Ha ∧ WL Ha l N) (M := 2 * N + 20) hF (row_cut hF rfl hlW part_none (part_var rfl)) (row_cut hF rfl hlW (part_add rfl) part_none) (by omega) (by omega) H4 _ ⟨Same.refl _, w4⟩ fun q1 Ha sa fa wa => ?_
      refine row_cat (F := fun Ha => Same H4 Ha ∧ WL Ha l N) (M := 2 * N + 20) (M1 := N + 1) hF (row_cat hF (row_cut hF rfl hlW part_none (part_var rfl)) (row_var hF rfl hmo) (by omega) (by omega)) (row_cut hF rfl hlW (part_var rfl) part_none) (by omega) (by omega) Ha _ fa fun q2 Hb sb fb wb => ?_
      refine row_cat (F := fun Ha => Same H4 Ha ∧ WL Ha l N) (M := 2 * N + 20) (M1 := N + 1) hF (row_cat hF (row_cut hF rfl hlW part_none (part_var rfl)) (row_var hF rfl hmo) (by omega) (by omega)) (row_cut hF rfl hlW (part_add rfl) part_none) (by omega) (by omega) Hb _ fb fun q3 Hc sc fc wc => ?_
      refine ⟨(by show 3 ≤ sizeLine; decide), fun r hr => ?_⟩
      have t := same_new (o := .lst [.ref q1, .ref q2, .ref q3]) hr
      refine ⟨r, rfl, fc.1.trans t, ?_, _, upd_same, rfl, fun x hx => ?_⟩
      · cases e : H4 r with
        | none => rfl
        | some u =>
          have := fc.1 r u e
          rw [hr] at this
          cases this
      · have hx' : x ∈ [V.ref q1, .ref q2, .ref q3] := hx
        simp only [List.mem_cons, List.not_mem_nil, or_false] at hx'
        rcases hx' with rfl | rfl | rfl
        · exact ⟨q1, rfl, ((wa.same sb).same sc).same t⟩
        · exact ⟨q2, rfl, (wb.same sc).same t⟩
        · exact ⟨q3, rfl, wc.same t⟩
    rintro σ H5 ⟨r, rfl, s5, r0, hr5⟩
    have w5 := w4.same s5
    -- pair
    refine ⟨fun σ H' => ∃ pr : Addr, σ = [some (.ref pn.p), some (.ref l), some (.int a), some (.int way), some (.ref pl), some (.str mo), some (.ref r), some (.ref pr)] ∧ Same H5 H' ∧ WL H' pr 2, ?_, ?_⟩
    · obtain ⟨ss, h1, h2, h3⟩ := w5.ob
      refine ⟨_, rfl, _, rfl, _, rfl, _, rfl, _, _, rfl, rfl, _, rfl, l, _, rfl, SqL.of h1, fun q hq => ⟨q, rfl, same_new hq, cutL ss (some (a : Int)) (some ((a : Int) + 2)), ?_, cut2 ss a, fun s hs => h3 s (cutL_mem hs)⟩⟩
      rw [← cutV_map]
      exact upd_same
    rintro σ H6 ⟨pr, rfl, s6, wp6⟩
    have hr6 := hr5.same s6
    have w6 := w5.same s6
    have s46 := s5.trans s6
    clear hr5 hF hlW
    -- the fourth
    refine ⟨fun σ H' => σ = [some (.ref pn.p), some (.ref l), some (.int a), some (.int way), some (.ref pl), some (.str mo), some (.ref r), some (.ref pr)] ∧ SX pn.p H H' ∧ PenAt H' pn (n + 3) ∧ RowL H' r 4 (2 * N + 20) ∧ WL H' l N, ?_, ?_⟩
    · obtain ⟨xs, hx1, hx2, hx3⟩ := hr6
      refine ⟨_, rfl, .inl ⟨rfl, _, SqL.of hx1⟩, ?_⟩
      have hF : ∀ {Ha Hb : Hp}, Same Ha Hb → (Same H6 Ha ∧ WL Ha l N ∧ WL Ha pr 2) → (Same H6 Hb ∧ WL Hb l N ∧ WL Hb pr 2) := fun s h => ⟨h.1.trans s, h.2.1.same s, h.2.2.same s⟩
      refine row_cat (F := fun Ha => Same H6 Ha ∧ WL Ha l N ∧ WL Ha pr 2) (M := 2 * N + 20) (M1 := N + 2) hF (row_cat hF (row_cut hF rfl (fun _ h => h.2.1) part_none (part_var rfl)) (row_rev hF rfl (fun _ h => h.2.2)) (by omega) (by omega)) (row_cut hF rfl (fun _ h => h.2.1) (part_add rfl) part_none) (by omega) (by omega) H6 _ ⟨Same.refl _, w6, wp6⟩ fun q Ha sa fa wa => ?_
      obtain ⟨ys, hy1, hy2, hy3, hy4⟩ := RowL.push (k := 2) ⟨xs, hx1, hx2, hx3⟩ sa wa
      have rH : H r = none := none_back sx04 p4.dk.choose_spec r0
      exact ⟨r, ys, _, rfl, rfl, hy1, by rw [hy2]; decide, rfl, ((sx04.trans (.of s46)).trans (.of sa)).fill rH, hp.fill ((p4.same s46).same sa) rH, hy3, hy4 fa.2.1⟩
    clear hr6 w6 wp6 s6 w5 w4 s46
    rintro σ H7 ⟨rfl, sx7, p7, hr7, w7⟩
    -- the fifth
    refine ⟨fun σ H' => σ = [some (.ref pn.p), some (.ref l), some (.int a), some (.int way), some (.ref pl), some (.str mo), some (.ref r), some (.ref pr)] ∧ SX pn.p H H' ∧ PenAt H' pn (n + 3) ∧ RowL H' r 5 (2 * N + 20) ∧ WL H' l N, ?_, ?_⟩
    · obtain ⟨xs, hx1, hx2, hx3⟩ := hr7
      refine ⟨_, rfl, .inl ⟨rfl, _, SqL.of hx1⟩, ?_⟩
      have hF : ∀ {Ha Hb : Hp}, Same Ha Hb → (Same H7 Ha ∧ WL Ha l N) → (Same H7 Hb ∧ WL Hb l N) := fun s h => ⟨h.1.trans s, h.2.same s⟩
      refine row_cat (F := fun Ha => Same H7 Ha ∧ WL Ha l N) (M := 2 * N + 20) hF (row_cut hF rfl (fun _ h => h.2) part_none (part_add rfl)) (row_cut hF rfl (fun _ h => h.2) (part_var rfl) part_none) (by omega) (by omega) H7 _ ⟨Same.refl _, w7⟩ fun q Ha sa fa wa => ?_
      obtain ⟨ys, hy1, hy2, hy3, hy4⟩ := RowL.push (k := 3) ⟨xs, hx1, hx2, hx3⟩ sa wa
      have rH : H r = none := none_back sx04 p4.dk.choose_spec r0
      exact ⟨r, ys, _, rfl, rfl, hy1, by rw [hy2]; decide, rfl, (sx7.trans (.of sa)).fill rH, hp.fill (p7.same sa) rH, hy3, hy4 fa.2⟩
    clear hr7 w7 sx7 p7
    rintro σ H8 ⟨rfl, sx8, p8, hr8, w8⟩
    -- the row drawn
    have hF : ∀ {Ha Hb : Hp}, Same Ha Hb → (Same H8 Ha ∧ WL Ha l N) → (Same H8 Hb ∧ WL Hb l N) := fun s h => ⟨h.1.trans s, h.2.same s⟩
    have hlW : ∀ Ha, (Same H8 Ha ∧ WL Ha l N) → WL Ha l N := fun _ h => h.2
    refine ⟨_, rfl, ?_⟩
    refine row_cut (F := fun Ha => Same H8 Ha ∧ WL Ha l N) hF rfl hlW part_none (part_var rfl) H8 _ ⟨Same.refl _, w8⟩ fun q1 Ha sa fa wa => ?_
    refine row_cat (F := fun Ha => Same H8 Ha ∧ WL Ha l N) (M := 2 * N + 20) (M1 := 2 * N + 7) hF (row_cat (M1 := N + 7) hF (row_cat hF (row_cut hF rfl hlW part_none (part_var rfl)) (row_rep hF (row_con hF ws_open)) (by omega) (by omega)) (row_cut hF rfl hlW (part_var rfl) part_none) (by omega) (by omega)) (row_rep hF (row_con hF ws_close)) (by omega) (by omega) Ha _ fa fun q2 Hb sb fb wb => ?_
    refine ⟨(by show 2 ≤ sizeLine; decide), fun q3 hq3 => ?_⟩
    have t := same_new (o := .lst [.ref q1, .ref q2]) hq3
    obtain ⟨xs, hx1, hx2, hx3⟩ := (hr8.same fb.1).same t
    refine ⟨r, q3, _, _, rfl, rfl, hx1, upd_same, (by rw [hx2]; show 5 + 2 ≤ sizeLine; decide), fun q4 hq4 => ?_⟩
    have t2 := same_new (o := .lst (xs ++ [.ref q1, .ref q2])) hq4
    have hl7 : (xs ++ [V.ref q1, .ref q2]).length = 7 := by simp [hx2]
    obtain ⟨x, hx⟩ : ∃ x, (xs ++ [V.ref q1, .ref q2])[way]? = some x := ⟨_, List.getElem?_eq_getElem (by omega)⟩
    have hxw : ∃ q, x = V.ref q ∧ WL (upd (upd Hb q3 (.lst [.ref q1, .ref q2])) q4 (.lst (xs ++ [.ref q1, .ref q2]))) q (2 * N + 20) := by
      rcases List.mem_append.mp (List.mem_of_getElem? hx) with h | h
      · obtain ⟨q, e, w⟩ := hx3 x h
        exact ⟨q, e, w.same t2⟩
      · simp only [List.mem_cons, List.not_mem_nil, or_false] at h
        rcases h with rfl | rfl
        · exact ⟨q1, rfl, (((wa.same sb).same t).same t2).mono (by omega)⟩
        · exact ⟨q2, rfl, (wb.same t).same t2⟩
    obtain ⟨q, rfl, wq⟩ := hxw
    have st := (fb.1.trans t).trans t2
    exact ⟨_, rfl, q4, _, _, _, rfl, rfl, SqL.of upd_same, at_of (j := way) rfl hx, k q _ wq (sx8.trans (.of st)) (p8.same st)⟩
end
end K5

set_option Elab.async false
set_option linter.all false
set_option maxRecDepth 100000
set_option maxHeartbeats 4000000
/-! Walks 31: a changed text, any value. -/
namespace K5
open PySem PySem.Spec PyProof.Rows L2
theorem okS_cut {z : Str} (h : okS z) (lo hi : Option Int) : okS (cutS z lo hi) := by
  rw [okS_iff] at h ⊢
  intro c hc
  have e : (cutS z lo hi).cps.toList = (z.cps.toList.drop (HT.sIx z.length 0 lo)).take (HT.sIx z.length z.length hi - HT.sIx z.length 0 lo) := by
    unfold cutS
    simp
  rw [e] at hc
  exact h c (List.mem_of_mem_drop (List.mem_of_mem_take hc))
theorem codes_lt {l : List Nat} {c : Nat} (h : l.all (fun c => decide (c < 0x110000)) = true) (hc : c ∈ l) : c < 0x110000 := of_decide_eq_true (List.all_eq_true.mp h c hc)
theorem okS_app {a b : Str} (ha : okS a) (hb : okS b) : okS (a ++ b) := by
  rw [okS_iff] at ha hb ⊢
  intro c hc
  have e : (a ++ b).cps.toList = a.cps.toList ++ b.cps.toList := TL.tl_append a b
  rw [e] at hc
  rcases List.mem_append.mp hc with h | h
  · exact ha c h
  · exact hb c h
theorem len_app (a b : Str) : (a ++ b).length = a.length + b.length := by
  have e : (a ++ b).cps.toList = a.cps.toList ++ b.cps.toList := TL.tl_append a b
  have e2 := congrArg List.length e
  rw [List.length_append, Array.length_toList, Array.length_toList, Array.length_toList] at e2
  exact e2
def sp_changed : Sp := fun vs H Q _ => ∃ (pn : PenP) (t : Str) (n : Nat), vs = [.ref pn.p, .str t] ∧ PenAt H pn n ∧ n ≤ 900000000 ∧ okS t ∧ t.length ≤ 49600 ∧ ∀ t' H', okS t' → t'.length ≤ 2 * t.length + 1 → SX pn.p H H' → PenAt H' pn (n + 4) → Q (.str t') H'
def sp_any : Sp := fun vs H Q _ => ∃ (pn : PenP) (n : Nat), vs = [.ref pn.p] ∧ PenAt H pn n ∧ n ≤ 900000000 ∧ ∀ v H', VT H' v → v ≠ .ref pn.p → SX pn.p H H' → PenAt H' pn (n + 1) → Q v H'
theorem VT.str {H : Hp} {t : Str} (h1 : okS t) (h2 : t.length + 2 ≤ 100000) : VT H (.str t) := ⟨.inl ⟨t, rfl, h2⟩, fun t' e => by cases e; exact h1⟩
theorem VT.ns {H : Hp} {v : V} (h : NS H v) : VT H v := ⟨.inr h, fun t e => by subst e; cases h⟩
theorem VT.sx {H H' : Hp} {v : V} {a : Addr} {kvs : List (Key × V)} (h : VT H v) (hv : v ≠ .ref a) (ha : H a = some (.dK kvs)) (s : SX a H H') : VT H' v := by
  refine ⟨h.1.imp id fun q => ?_, h.2⟩
  cases q with
  | non => exact .non
  | bl b => exact .bl b
  | int i => exact .int i
  | @lst b xs q => exact .lst (s.lstD ha q)
  | @tup b xs q => exact .tup (s _ _ (ne_of q ha (by intro z; cases z)) q)
  | @dK b kvs q => exact .dK (s _ _ (fun z => hv (by rw [z])) q)
section
variable {P : Program} {w : World} {K : PySem.W.Frag} {mg : Str → Option Value} {base : Heap}
theorem ok_changed (T : Tx K mg) : C8.Cal P w K mg base 3 "_law_changed" sp_changed [] := by
  obtain ⟨fd, F⟩ := T.b_law_changed
  refine calF F T.g_law_changed sc_law_changed (fun vs H Q E h => ?_) (fun cdv A outer s H vs Q E hr h => ?_)
  · obtain ⟨pn, t, n, rfl, _⟩ := h
    rfl
  · obtain ⟨pn, t, n, rfl, hp, hn, hok, hl, k⟩ := h
    have nd := sc_law_changed.nd
    have hsz : sizeLine = 16777216 := sizeLine_eq
    refine ⟨_, pss_cons (ps_par (i := 2) (j := 3) rfl nd rfl rfl (by decide) rfl rfl (pa_cons (C8.pe_c (ok_draw T) hr (by decide) (by rfl) (pa_cons (pv 0) (pa_cons (pe_op op_add (pe_callB call_len_str (by rfl) T.z_len bLen (pa_cons (pv 1) pa_nil)) pe_int) pa_nil))) (pa_cons pe_str pa_nil)) (by rfl)) <|
      pss_cons (ps_par (i := 4) (j := 5) rfl nd rfl rfl (by decide) rfl rfl (pa_cons (C8.pe_c (ok_pick T) hr (by decide) (by rfl) (pa_cons (pv 0) (pa_cons (pe_lst (pa_cons (C8.pe_c (ok_pick T) hr (by decide) (by rfl) (pa_cons (pv 0) (pa_cons (pv 3) pa_nil))) (pa_cons pe_str (pa_cons pe_str pa_nil)))) pa_nil))) (pa_cons (C8.pe_c (ok_draw T) hr (by decide) (by rfl) (pa_cons (pv 0) (pa_cons pe_int pa_nil))) pa_nil)) (by rfl)) <|
      pss_one <| ps_ret <| pe_op op_add_str (pe_op op_add_str (pe_slice sl_str (pv 1) po_none (po_some (pv 2))) (pe_ix ix_list (pe_lst (pa_cons (pv 4) (pa_cons pe_str (pa_cons (pv 4) pa_nil)))) (pv 5) (fun _ _ => rfl))) (pe_slice sl_str (pv 1) (po_some (pe_op op_add (pv 2) (pe_ix ix_list (pe_lst (pa_cons pe_int (pa_cons pe_int (pa_cons pe_int pa_nil)))) (pv 5) (fun _ _ => rfl)))) po_none), ?_⟩
    refine ⟨_, rfl, _, rfl, t, rfl, by omega, _, _, rfl, rfl, pn, n, t.length + 1, rfl, hp, by omega, by omega, by omega, fun a H1 ha sx1 p1 => ⟨_, _, rfl, ?_⟩⟩
    refine ⟨_, rfl, _, rfl, _, rfl, pn, n + 1, _, rfl, p1, by omega, .inr ⟨_, rfl, (by decide +kernel), (by decide +kernel), fun c H2 hc sx2 p2 => ⟨(by show 3 ≤ sizeLine; decide), fun l hl2 => ?_⟩⟩⟩
    have s3 := same_new (o := .lst [.str ⟨#[c]⟩, .str " ", .str "\n"]) hl2
    refine ⟨pn, n + 2, _, rfl, p2.same s3, by omega, .inl ⟨l, _, rfl, upd_same, (by show 1 ≤ 3; decide), (by show 3 ≤ 1000; decide), fun x H4 hx sx4 p4 => ?_⟩⟩
    have hsg : ∃ sg : Str, x = .str sg ∧ okS sg ∧ sg.length ≤ 1 := by
      have hx' : x ∈ [V.str ⟨#[c]⟩, .str " ", .str "\n"] := hx
      simp only [List.mem_cons, List.not_mem_nil, or_false] at hx'
      rcases hx' with rfl | rfl | rfl
      · refine ⟨_, rfl, ?_, by show (1 : Nat) ≤ 1; decide⟩
        rw [okS_iff]
        intro z hz
        have e : z = c := by simpa using hz
        rw [e]
        exact codes_lt (by decide +kernel) hc
      · exact ⟨_, rfl, by decide +kernel, by decide +kernel⟩
      · exact ⟨_, rfl, by decide +kernel, by decide +kernel⟩
    obtain ⟨sg, rfl, sg1, sg2⟩ := hsg
    refine ⟨_, rfl, pn, n + 3, 3, rfl, p4, by omega, by decide, by decide, fun wy H5 hw sx5 p5 => ⟨_, _, rfl, ?_⟩⟩
    have sx05 := (((sx1.trans sx2).trans (.of s3)).trans sx4).trans sx5
    refine ⟨_, rfl, _, rfl, _, rfl, t, rfl, by omega, ?_⟩
    refine ⟨_, rfl, _, rfl, (by show 3 ≤ sizeLine; decide), fun q hq => ?_⟩
    have t1 := same_new (o := .lst [.str sg, .str "", .str sg]) hq
    have hm : ∃ m : Str, [V.str sg, .str "", .str sg][wy]? = some (.str m) ∧ okS m ∧ m.length ≤ 1 := by
      have h' : wy = 0 ∨ wy = 1 ∨ wy = 2 := by omega
      rcases h' with rfl | rfl | rfl
      · exact ⟨sg, rfl, sg1, sg2⟩
      · exact ⟨"", rfl, by decide +kernel, by decide +kernel⟩
      · exact ⟨sg, rfl, sg1, sg2⟩
    obtain ⟨m, hm0, hm1, hm2⟩ := hm
    have c1 := cutS_length t none (some (a : Int))
    refine ⟨_, rfl, q, _, _, _, rfl, rfl, SqL.of upd_same, at_of (j := wy) rfl hm0, _, _, rfl, rfl, by omega, ?_⟩
    refine ⟨_, rfl, _, rfl, (by show 3 ≤ sizeLine; decide), fun q2 hq2 => ?_⟩
    have t2 := same_new (o := .lst [.int 0, .int 1, .int 1]) hq2
    have hk : ∃ b : Int, [V.int 0, .int 1, .int 1][wy]? = some (.int b) := by
      have h' : wy = 0 ∨ wy = 1 ∨ wy = 2 := by omega
      rcases h' with rfl | rfl | rfl <;> exact ⟨_, rfl⟩
    obtain ⟨b, hb⟩ := hk
    have c2 := cutS_length t (some ((a : Int) + b)) none
    refine ⟨_, rfl, q2, _, _, _, rfl, rfl, SqL.of upd_same, at_of (j := wy) rfl hb, _, _, rfl, rfl, _, rfl, t, rfl, by omega, _, _, rfl, rfl, ?_, ?_⟩
    · have := len_app (cutS t none (some (a : Int))) m
      omega
    · refine k _ _ (okS_app (okS_app (okS_cut hok _ _) hm1) (okS_cut hok _ _)) ?_ ((sx05.trans (.of t1)).trans (.of t2)) ((p5.same t1).same t2)
      rw [len_app, len_app]
      omega
theorem ok_any (T : Tx K mg) : C8.Cal P w K mg base 3 "_law_any" sp_any [] := by
  obtain ⟨fd, F⟩ := T.b_law_any
  refine calF F T.g_law_any sc_law_any (fun vs H Q E h => ?_) (fun cdv A outer s H vs Q E hr h => ?_)
  · obtain ⟨pn, n, rfl, _⟩ := h
    rfl
  · obtain ⟨pn, n, rfl, hp, hn, k⟩ := h
    have nd := sc_law_any.nd
    refine ⟨_, C8.pss_cut (ps_set (i := 1) nd rfl (Or.inl rfl) (pe_lst <| pa_cons pe_non <| pa_cons pe_bl <| pa_cons pe_bl <| pa_cons pe_int <| pa_cons pe_int <| pa_cons (pe_un un_neg pe_int) <| pa_cons pe_int <| pa_cons (pe_op op_pow pe_int pe_int) <| pa_cons pe_str <| pa_cons pe_str <| pa_cons pe_str <| pa_cons pe_str <|
        pa_cons (pe_tup pa_nil) <| pa_cons (pe_tup (pa_cons pe_int pa_nil)) <| pa_cons (pe_lst pa_nil) <| pa_cons (pe_lst (pa_cons pe_int pa_nil)) <| pa_cons (pe_lst (pa_cons pe_int (pa_cons pe_int pa_nil))) <| pa_cons pe_dnewK <| pa_cons (pe_disp (pps_cons pe_int pe_int pps_nil) (by rfl) (by rfl) (fun z => by cases z) (by decide)) pa_nil)) <|
      pss_one <| ps_ret <| C8.pe_c (ok_pick T) hr (by decide) (by rfl) <| pa_cons (pv 0) <| pa_cons (pe_op op_cat (pv 1) (pe_lst <| pa_cons (pe_lst (pa_cons pe_bl pa_nil)) <| pa_cons (pe_lst (pa_cons pe_non pa_nil)) <| pa_cons (pe_lst (pa_cons pe_str pa_nil)) <| pa_cons (pe_tup (pa_cons (pe_lst (pa_cons pe_int pa_nil)) pa_nil)) <| pa_cons (pe_tup (pa_cons pe_int (pa_cons pe_int pa_nil))) <|
        pa_cons (pe_lst (pa_cons (pe_lst (pa_cons pe_int pa_nil)) pa_nil)) <| pa_cons (pe_un un_neg (pe_op op_pow pe_int pe_int)) <| pa_cons (pe_op op_pow pe_int pe_int) <| pa_cons (pe_tup (pa_cons pe_int (pa_cons (pe_un un_neg pe_int) pa_nil))) <| pa_cons pe_str pa_nil)) pa_nil, ?_⟩
    have z0 : (0 : Nat) ≤ sizeLine := by decide
    have z1 : (1 : Nat) ≤ sizeLine := by decide
    have z2 : (2 : Nat) ≤ sizeLine := by decide
    have hP : (0 : Int) ≤ 40 ∧ (40 : Int) ≤ 1000000 ∧ (10 : Int).natAbs < 2 ^ 64 := by decide
    have hP2 : (0 : Int) ≤ 64 ∧ (64 : Int) ≤ 1000000 ∧ (10 : Int).natAbs < 2 ^ 64 := by decide
    have vs : ∀ {H' : Hp} (x : Str), okS x → x.length ≤ 50 → VT H' (.str x) := fun x h1 h2 => .str h1 (by omega)
    refine ⟨fun σ H' => ∃ (l : Addr) (xs : List V), σ = [some (.ref pn.p), some (.ref l)] ∧ Same H H' ∧ H' l = some (.lst xs) ∧ xs.length = 19 ∧ ∀ x ∈ xs, VT H' x ∧ x ≠ .ref pn.p, ?_, ?_⟩
    · refine ⟨_, rfl, _, _, rfl, rfl, hP, z0, fun p1 n1 => ⟨z1, fun p2 n2 => ⟨z0, fun p3 n3 => ⟨z1, fun p4 n4 => ⟨z2, fun p5 n5 => fun p6 n6 => fun p7 n7 => ⟨upd_same, [(.inl 0, .int 1)], rfl, (by show 1 ≤ 15; decide), (by show 19 ≤ sizeLine; decide), fun l hl => ?_⟩⟩⟩⟩⟩⟩
      have t1 := same_new (o := .tup []) n1
      have t2 := same_new (o := .tup [.int 0]) n2
      have t3 := same_new (o := .lst []) n3
      have t4 := same_new (o := .lst [.int 0]) n4
      have t5 := same_new (o := .lst [.int 1, .int 0]) n5
      have t6 := same_new (o := .dK []) n6
      have t7 := same_upd (o := .dK (mergeK [] [(.inl 0, .int 1)])) (same_new (o := .dK []) n7) n7
      have t8 := same_new (o := .lst [.non, .bl true, .bl false, .int 0, .int 1, .int (-1), .int 7, .int ((10 : Int) ^ (40 : Int).toNat), .str "", .str "0", .str "a", .str "days 1", .ref p1, .ref p2, .ref p3, .ref p4, .ref p5, .ref p6, .ref p7]) hl
      have up : ∀ {Ha : Hp} {q : Addr}, Same H Ha → Ha q = none → V.ref q ≠ V.ref pn.p := fun {Ha q} sm hq z => by
        cases z
        obtain ⟨kv, hd⟩ := hp.dk
        have := sm _ _ hd
        rw [hq] at this
        cases this
      have s2 := t1.trans t2
      have s3 := s2.trans t3
      have s4 := s3.trans t4
      have s5 := s4.trans t5
      have s6 := s5.trans t6
      have s7 := s6.trans t7
      refine ⟨l, _, rfl, s7.trans t8, upd_same, rfl, fun x hx => ?_⟩
      have hx' : x ∈ [V.non, .bl true, .bl false, .int 0, .int 1, .int (-1), .int 7, .int ((10 : Int) ^ (40 : Int).toNat), .str "", .str "0", .str "a", .str "days 1", .ref p1, .ref p2, .ref p3, .ref p4, .ref p5, .ref p6, .ref p7] := hx
      simp only [List.mem_cons, List.not_mem_nil, or_false] at hx'
      rcases hx' with rfl | rfl | rfl | rfl | rfl | rfl | rfl | rfl | rfl | rfl | rfl | rfl | rfl | rfl | rfl | rfl | rfl | rfl | rfl
      · exact ⟨.ns .non, fun z => nomatch z⟩
      · exact ⟨.ns (.bl _), fun z => nomatch z⟩
      · exact ⟨.ns (.bl _), fun z => nomatch z⟩
      · exact ⟨.ns (.int _), fun z => nomatch z⟩
      · exact ⟨.ns (.int _), fun z => nomatch z⟩
      · exact ⟨.ns (.int _), fun z => nomatch z⟩
      · exact ⟨.ns (.int _), fun z => nomatch z⟩
      · exact ⟨.ns (.int _), fun z => nomatch z⟩
      · exact ⟨vs _ (by decide +kernel) (by decide +kernel), fun z => nomatch z⟩
      · exact ⟨vs _ (by decide +kernel) (by decide +kernel), fun z => nomatch z⟩
      · exact ⟨vs _ (by decide +kernel) (by decide +kernel), fun z => nomatch z⟩
      · exact ⟨vs _ (by decide +kernel) (by decide +kernel), fun z => nomatch z⟩
      · exact ⟨.ns (.tup (t8 _ _ (t7 _ _ (t6 _ _ (t5 _ _ (t4 _ _ (t3 _ _ (t2 _ _ upd_same)))))))), up (Same.refl _) n1⟩
      · exact ⟨.ns (.tup (t8 _ _ (t7 _ _ (t6 _ _ (t5 _ _ (t4 _ _ (t3 _ _ upd_same))))))), up t1 n2⟩
      · exact ⟨.ns (.lst (t8 _ _ (t7 _ _ (t6 _ _ (t5 _ _ (t4 _ _ upd_same)))))), up s2 n3⟩
      · exact ⟨.ns (.lst (t8 _ _ (t7 _ _ (t6 _ _ (t5 _ _ upd_same))))), up s3 n4⟩
      · exact ⟨.ns (.lst (t8 _ _ (t7 _ _ (t6 _ _ upd_same)))), up s4 n5⟩
      · exact ⟨.ns (.dK (t8 _ _ (t7 _ _ upd_same))), up s5 n6⟩
      · exact ⟨.ns (.dK (t8 _ _ upd_same)), up s6 n7⟩
    rintro σ H1 ⟨l, xs, rfl, s1, hl, hlen, hx1⟩
    have hp1 := hp.same s1
    refine ⟨_, rfl, _, rfl, z1, fun p1 n1 => ⟨z1, fun p2 n2 => ⟨z1, fun p3 n3 => ⟨z1, fun p4 n4 => ⟨z1, fun p5 n5 => ⟨z2, fun p6 n6 => ⟨z1, fun p7 n7 => ⟨z1, fun p8 n8 => ⟨_, _, rfl, rfl, hP, _, rfl, _, _, rfl, rfl, hP2, _, rfl, z2, fun p9 n9 => ⟨(by show 10 ≤ sizeLine; decide), fun q nq => ?_⟩⟩⟩⟩⟩⟩⟩⟩⟩⟩
    have t1 := same_new (o := .lst [.bl true]) n1
    have t2 := same_new (o := .lst [.non]) n2
    have t3 := same_new (o := .lst [.str "0"]) n3
    have t4 := same_new (o := .lst [.int 0]) n4
    have t5 := same_new (o := .tup [.ref p4]) n5
    have t6 := same_new (o := .tup [.int 0, .int 1]) n6
    have t7 := same_new (o := .lst [.int 0]) n7
    have t8 := same_new (o := .lst [.ref p7]) n8
    have t9 := same_new (o := .tup [.int 1, .int (-1)]) n9
    have t10 := same_new (o := .lst [.ref p1, .ref p2, .ref p3, .ref p5, .ref p6, .ref p8, .int (-((10 : Int) ^ (40 : Int).toNat)), .int ((10 : Int) ^ (64 : Int).toNat), .ref p9, .str "None"]) nq
    have up : ∀ {Ha : Hp} {q : Addr}, Same H1 Ha → Ha q = none → V.ref q ≠ V.ref pn.p := fun {Ha q} sm hq z => by
      cases z
      obtain ⟨kv, hd⟩ := hp1.dk
      have := sm _ _ hd
      rw [hq] at this
      cases this
    have u2 := t1.trans t2
    have u3 := u2.trans t3
    have u4 := u3.trans t4
    have u5 := u4.trans t5
    have u6 := u5.trans t6
    have u7 := u6.trans t7
    have u8 := u7.trans t8
    have u10 := (u8.trans t9).trans t10
    refine ⟨l, q, xs, _, rfl, rfl, u10 _ _ hl, upd_same, (by rw [hlen]; show 19 + 10 ≤ sizeLine; decide), fun q2 nq2 => ?_⟩
    have t11 := same_new (o := .lst (xs ++ [.ref p1, .ref p2, .ref p3, .ref p5, .ref p6, .ref p8, .int (-((10 : Int) ^ (40 : Int).toNat)), .int ((10 : Int) ^ (64 : Int).toNat), .ref p9, .str "None"])) nq2
    have u11 := u10.trans t11
    refine ⟨pn, n, _, rfl, hp1.same u11, by omega, .inl ⟨q2, _, rfl, upd_same, by rw [List.length_append, hlen]; show 1 ≤ 19 + 10; decide, by rw [List.length_append, hlen]; show 19 + 10 ≤ 1000; decide, fun x H4 hx sx4 p4 => ?_⟩⟩
    obtain ⟨kvx, hdx⟩ := (hp1.same u11).dk
    have fin : VT _ x ∧ x ≠ .ref pn.p → Q x H4 := fun hv => k x H4 (hv.1.sx hv.2 hdx sx4) hv.2 (((SX.of s1).trans (.of u11)).trans sx4) p4
    rcases List.mem_append.mp hx with hx | hx
    · exact fin ⟨((hx1 x hx).1.same u11), (hx1 x hx).2⟩
    · have hx' : x ∈ [V.ref p1, .ref p2, .ref p3, .ref p5, .ref p6, .ref p8, .int (-((10 : Int) ^ (40 : Int).toNat)), .int ((10 : Int) ^ (64 : Int).toNat), .ref p9, .str "None"] := hx
      simp only [List.mem_cons, List.not_mem_nil, or_false] at hx'
      rcases hx' with rfl | rfl | rfl | rfl | rfl | rfl | rfl | rfl | rfl | rfl
      · exact fin ⟨.ns (.lst (t11 _ _ (t10 _ _ (t9 _ _ (t8 _ _ (t7 _ _ (t6 _ _ (t5 _ _ (t4 _ _ (t3 _ _ (t2 _ _ upd_same))))))))))), up (Same.refl _) n1⟩
      · exact fin ⟨.ns (.lst (t11 _ _ (t10 _ _ (t9 _ _ (t8 _ _ (t7 _ _ (t6 _ _ (t5 _ _ (t4 _ _ (t3 _ _ upd_same)))))))))), up t1 n2⟩
      · exact fin ⟨.ns (.lst (t11 _ _ (t10 _ _ (t9 _ _ (t8 _ _ (t7 _ _ (t6 _ _ (t5 _ _ (t4 _ _ upd_same))))))))), up u2 n3⟩
      · exact fin ⟨.ns (.tup (t11 _ _ (t10 _ _ (t9 _ _ (t8 _ _ (t7 _ _ (t6 _ _ upd_same))))))), up u4 n5⟩
      · exact fin ⟨.ns (.tup (t11 _ _ (t10 _ _ (t9 _ _ (t8 _ _ (t7 _ _ upd_same)))))), up u5 n6⟩
      · exact fin ⟨.ns (.lst (t11 _ _ (t10 _ _ (t9 _ _ upd_same)))), up u7 n8⟩
      · exact fin ⟨.ns (.int _), fun z => nomatch z⟩
      · exact fin ⟨.ns (.int _), fun z => nomatch z⟩
      · exact fin ⟨.ns (.tup (t11 _ _ (t10 _ _ upd_same))), up u8 n9⟩
      · exact fin ⟨vs _ (by decide +kernel) (by decide +kernel), fun z => nomatch z⟩
end
end K5

set_option Elab.async false
set_option linter.all false
set_option maxRecDepth 100000
set_option maxHeartbeats 4000000
/-! Walks 32: the law's calendar. -/
namespace K5
open PySem PySem.Spec PyProof.Rows L2
abbrev scY : Scope := { kind := ScopeKind.function, names := [(".0", NameKind.local), ("_law_year", NameKind.local), ("range", NameKind.globalImplicit), ("_law_months", NameKind.cell), ("_law_most", NameKind.cell), ("_law_pen_here", NameKind.cell)], isGenerator := false, isCoroutine := false }
def sp_calendar : Sp := fun vs H Q _ => ∃ (pn : PenP) (n : Nat), vs = [.ref pn.p, .int 3] ∧ PenAt H pn n ∧ n ≤ 600000000 ∧ ∀ p c H', PlainAt H' p c → CalOk c → HasWork c → p ≠ pn.p → SX pn.p H H' → PenAt H' pn (n + 100) → Q (.ref p) H'
theorem call_listK {X : Cx} (K : PySem.W.Frag) (h : X.K = K := by rfl) : CallR X (.type "list") (fun xs H Q => ∃ p ys, xs = [.ref p] ∧ (SqL K H p ys ∨ SqT K H p ys) ∧ ∀ l, H l = none → Q (.ref l) (upd H l (.lst ys))) := by
  subst h
  intro pins s σ H xs us Q I r h
  obtain ⟨p, ys, e, hs, q⟩ := h
  exact call_list_of pins s σ H xs us Q I r ⟨p, ys, e, hs, q⟩
theorem rows_put {H : Hp} {D : Addr} {bs : List Addr} {Y : List (List Int)} {cs : List Addr} {o : HO} (h : RowsL H bs Y) (hY : ∀ y ∈ Y, y ≠ []) (hD : H D = some (.lst (cs.map V.ref))) : RowsL (upd H D o) bs Y := by
  induction h with
  | nil => exact .nil
  | @cons b y bs Y r t ih =>
    refine .cons ?_ (ih fun z hz => hY z (List.mem_cons_of_mem _ hz))
    have ne : b ≠ D := fun z => by
      subst z
      rw [r] at hD
      have e : y.map V.int = cs.map V.ref := HO.lst.inj (Option.some.inj hD)
      cases y with
      | nil => exact hY [] (List.mem_cons_self ..) rfl
      | cons a r =>
        cases cs with
        | nil => cases e
        | cons c cs => cases e
    show upd H D o b = some (.lst (y.map V.int))
    rw [upd_ne ne]
    exact r
theorem rows_sx {H H' : Hp} {a : Addr} {kvs : List (Key × V)} {bs : List Addr} {Y : List (List Int)} (h : RowsL H bs Y) (ha : H a = some (.dK kvs)) (s : SX a H H') : RowsL H' bs Y := Paired.same (fun _ _ q => s.lstD ha q) h
theorem sumI_le {mo : Int} : ∀ (ls : List Int), (∀ l ∈ ls, l ≤ mo) → sumI ls ≤ ls.length * mo
  | [], _ => by simp [sumI]
  | l :: ls, h => by
    have a := h l (List.mem_cons_self ..)
    have b := sumI_le ls fun y hy => h y (List.mem_cons_of_mem _ hy)
    simp only [List.length_cons, sumI]
    have e : (((ls.length + 1 : Nat) : Int)) * mo = (ls.length : Int) * mo + mo := by
      rw [Int.natCast_add, Int.add_mul]
      simp
    omega
theorem flat_len : ∀ (Y : List (List Int)) (m : Nat), (∀ y ∈ Y, y.length = m) → Y.flatten.length = Y.length * m := by
  intro Y m
  induction Y with
  | nil => intro _; simp
  | cons y Y ih =>
    intro hy
    rw [List.flatten_cons, List.length_append, ih fun z hz => hy z (List.mem_cons_of_mem _ hz), hy y (List.mem_cons_self ..), List.length_cons, Nat.succ_mul]
    omega
def Nums (m q w mo : Int) : Prop := 1 ≤ m ∧ m ≤ 14 ∧ 1 ≤ q ∧ q ≤ 2 ∧ 1 ≤ w ∧ w ≤ 3 ∧ 1 ≤ mo ∧ mo ≤ 3 ∧ (m ≤ 3 ∨ (q = 1 ∧ mo = 2))
structure YearsAt (H : Hp) (ay : Addr) (m q mo : Int) (Y : List (List Int)) : Prop where
  ob : ∃ bs : List Addr, H ay = some (.lst (bs.map V.ref)) ∧ RowsL H bs Y
  len : Y.length = q.toNat
  row : ∀ y ∈ Y, y.length = m.toNat ∧ ∀ d ∈ y, 1 ≤ d ∧ d ≤ mo
theorem YearsAt.sx {H H' : Hp} {a ay : Addr} {kvs : List (Key × V)} {m q mo : Int} {Y : List (List Int)} (h : YearsAt H ay m q mo Y) (ha : H a = some (.dK kvs)) (s : SX a H H') : YearsAt H' ay m q mo Y := by
  obtain ⟨bs, h1, h2⟩ := h.ob
  exact ⟨⟨bs, s.lstD ha h1, rows_sx h2 ha s⟩, h.len, h.row⟩
theorem cal_ok {m q w mo f : Int} {Y : List (List Int)} {R : List Int} {HD : List (Int × Int)} (nu : Nums m q w mo) (h1 : Y.length = q.toNat) (h2 : ∀ y ∈ Y, y.length = m.toNat ∧ ∀ d ∈ y, 1 ≤ d ∧ d ≤ mo) (f1 : 0 ≤ f) (f2 : f < w) (rin : ∀ r ∈ R, 0 ≤ r ∧ r < w) (rnd : R.Nodup) (hin : ∀ h ∈ HD, 1 ≤ h.1 ∧ h.1 ≤ m ∧ 1 ≤ h.2 ∧ h.2 ≤ 40) (hnd : HD.Nodup) (hl : HD.length ≤ 2) : CalOk ⟨Y, w, f, R, HD⟩ := by
  obtain ⟨n1, n2, n3, n4, n5, n6, n7, n8, n9⟩ := nu
  have hM : (CalD.M ⟨Y, w, f, R, HD⟩) = m.toNat := by
    unfold CalD.M
    cases Y with
    | nil => simp at h1; omega
    | cons y Y => exact (h2 y (List.mem_cons_self ..)).1
  have hfl := flat_len Y m.toNat fun y hy => (h2 y hy).1
  have hle : ∀ l ∈ Y.flatten, l ≤ mo := fun l hl => by
    obtain ⟨y, hy, hd⟩ := List.mem_flatten.mp hl
    exact ((h2 y hy).2 l hd).2
  have hs := sumI_le Y.flatten hle
  refine ⟨by show 1 ≤ Y.length; omega, by show Y.length ≤ 2; omega, fun y hy => by rw [hM]; exact (h2 y hy).1, by rw [hM]; omega, by rw [hM]; omega, fun y hy d hd => by have := (h2 y hy).2 d hd; omega, ?_, by show 1 ≤ w; omega, by show w ≤ 6; omega, f1, f2, rin, rnd, fun h hh => by rw [hM]; have := hin h hh; omega, hnd, hl⟩
  show sumI Y.flatten ≤ 60
  rw [hfl, h1] at hs
  rcases n9 with n9 | ⟨n9, n10⟩
  · have h3 : q.toNat * m.toNat ≤ 2 * 3 := Nat.mul_le_mul (by omega) (by omega)
    have h4 : ((q.toNat * m.toNat : Nat) : Int) * mo ≤ 6 * 3 := Int.mul_le_mul (by omega) (by omega) (by omega) (by omega)
    omega
  · have h3 : q.toNat * m.toNat ≤ 1 * 14 := Nat.mul_le_mul (by omega) (by omega)
    have h4 : ((q.toNat * m.toNat : Nat) : Int) * mo ≤ 14 * 2 := Int.mul_le_mul (by omega) (by omega) (by omega) (by omega)
    omega
theorem rg_ints (w : Int) : rgV 0 w = ((List.range w.toNat).map fun i => ((i : Nat) : Int)).map V.int := by
  unfold rgV
  rw [List.map_map, Int.sub_zero]
  refine List.map_congr_left fun i _ => ?_
  show V.int (0 + (i : Int)) = V.int (i : Int)
  rw [Int.zero_add]
theorem pairs_sx {H H' : Hp} {a : Addr} {kvs : List (Key × V)} {hs : List Addr} {HD : List (Int × Int)} (h : PairsL H hs HD) (ha : H a = some (.dK kvs)) (s : SX a H H') : PairsL H' hs HD := Paired.same (fun _ _ q => s _ _ (ne_of q ha (by intro z; cases z)) q) h
theorem not_rest (c : CalD) (h1 : c.R = []) (h2 : c.HD = []) (d : Int) : c.isRest d = false := by
  unfold CalD.isRest
  rw [h1, h2]
  simp
section
variable {P : Program} {w : World} {K : PySem.W.Frag} {mg : Str → Option Value} {base : Heap}
theorem ok_calendar (T : Tx K mg) : C8.Cal P w K mg base 4 "_law_calendar" sp_calendar [] := by
  obtain ⟨fd, F⟩ := T.b_law_calendar
  refine calF F T.g_law_calendar sc_law_calendar (fun vs H Q E h => ?_) (fun cdv A outer s H vs Q E hr h => ?_)
  · obtain ⟨pn, n, rfl, _⟩ := h
    rfl
  · obtain ⟨pn, n, rfl, hp, hn, k⟩ := h
    have nd := sc_law_calendar.nd
    have hu := hu_of hr
    refine ⟨_, C8.pss_cut (ps_asg (pe_tup (pa_cons (C8.pe_c (ok_pick T) hr (by decide) (by rfl) (pa_cons (pv 0) (pa_cons (pe_lst (pa_cons pe_int (pa_cons pe_int (pa_cons pe_int (pa_cons (pe_op op_add pe_int (C8.pe_c (ok_draw T) hr (by decide) (by rfl) (pa_cons (pv 0) (pa_cons pe_int pa_nil)))) pa_nil))))) pa_nil))) (pa_cons (pe_op op_add pe_int (C8.pe_c (ok_draw T) hr (by decide) (by rfl) (pa_cons (pv 0) (pa_cons pe_int pa_nil)))) pa_nil))) (pg_tup (by rfl) (pgs_cons (pg_name (i := 2) nd rfl (.inr rfl)) (pgs_cons (pg_name (i := 3) nd rfl (.inl rfl)) pgs_nil)))) <|
      C8.pss_cut (ps_set (i := 4) nd rfl (Or.inl rfl) (pe_op op_add pe_int (C8.pe_c (ok_draw T) hr (by decide) (by rfl) (pa_cons (pv 0) (pa_cons (pe_callB (call_min2 rfl) (by rfl) T.z_min (by decide +kernel) (pa_cons pe_int (pa_cons (pv 1) pa_nil))) pa_nil))))) <|
      C8.pss_cut (ps_if (pt_cmpR op_gt (pv 2) pe_int (nomark _)) (pss_one (ps_asg (pe_tup (pa_cons pe_int (pa_cons pe_int pa_nil))) (pg_tup (by rfl) (pgs_cons (pg_name (i := 3) nd rfl (.inl rfl)) (pgs_cons (pg_name (i := 1) nd rfl (.inr rfl)) pgs_nil))))) pss_nil) <|
      C8.pss_cut (ps_setLc (i := 5) (own := [("_law_year", 13)]) (g := gName 13) (tt := tYes) rfl nd rfl rfl (sw_true rfl rfl rfl (by decide +kernel)) (pi_range1 (by rfl) T.z_range (pa_cons (pv 3) pa_nil)) (blkOk_by (own := [("_law_year", 13)]) (N := n_law_calendar) (sc := defScope s_law_calendar) (by decide +kernel)) (fun _ _ _ _ _ => pg_name (i := 13) nd rfl (Or.inl rfl)) (fun _ _ _ _ _ => pts_nil)
        (fun _ _ _ _ _ => pe_lc (own := [("_law_month", 14)]) (g := gName 14) (tt := tYes) rfl nd (pi_range1 (by rfl) T.z_range (pa_cons (pv 2) pa_nil)) (blkOk_by (own := [("_law_month", 14)]) (N := n_law_calendar) (sc := scY) (by decide +kernel)) (fun _ _ _ _ _ => pg_name (i := 14) nd rfl (Or.inl rfl)) (fun _ _ _ _ _ => pts_nil)
          (fun _ _ _ _ _ => pe_op op_add pe_int (C8.pe_c (ok_draw T) hr (by decide) (by rfl) (pa_cons (pv 0) (pa_cons (pv 1) pa_nil)))))) <|
      C8.pss_cut (ps_par (i := 6) (j := 7) rfl nd rfl rfl (by decide) rfl rfl (pa_cons (pe_callB (cr_sumL rfl) (by rfl) T.z_sum bSum (pa_cons (pe_lc (own := [("_law_year", 13)]) (g := gName 13) (tt := tYes) rfl nd (pi_list (pv 5)) (blkOk_by (own := [("_law_year", 13)]) (N := n_law_calendar) (sc := defScope s_law_calendar) (by decide +kernel)) (fun _ _ _ _ _ => pg_name (i := 13) nd rfl (Or.inl rfl)) (fun _ _ _ _ _ => pts_nil)
          (fun _ _ _ _ _ => pe_callTy (call_listK K) (by rfl) T.z_list bL (pa_cons (pv 13) pa_nil))) (pa_cons (pe_lst pa_nil) pa_nil))) (pa_cons (C8.pe_c (ok_draw T) hr (by decide) (by rfl) (pa_cons (pv 0) (pa_cons (pv 4) pa_nil))) pa_nil)) (by rfl)) <|
      C8.pss_cut (ps_set (i := 8) nd rfl (Or.inl rfl) (pe_slice sl_list (C8.pe_c (ok_shuffled T) hr (by decide) (by rfl) (pa_cons (pv 0) (pa_cons (pe_listRg rfl (by rfl) T.z_list (prg_1 (by rfl) T.z_range (pv 4))) pa_nil))) po_none (po_some (C8.pe_c (ok_draw T) hr (by decide) (by rfl) (pa_cons (pv 0) (pa_cons (pv 4) pa_nil)))))) <|
      pss_cons (ps_set (i := 9) nd rfl (Or.inl rfl) (pe_lst pa_nil)) <|
      C8.pss_cut (ps_for PassesOwn.never rfl (pi_range1 (by rfl) T.z_range (pa_cons (C8.pe_c (ok_draw T) hr (by decide) (by rfl) (pa_cons (pv 0) (pa_cons pe_int pa_nil))) pa_nil)) (pg_name (i := 10) nd rfl (.inl rfl))
        (pss_cons (ps_set (i := 11) nd rfl (Or.inl rfl) (pe_tup (pa_cons (pe_op op_add pe_int (C8.pe_c (ok_draw T) hr (by decide) (by rfl) (pa_cons (pv 0) (pa_cons (pv 2) pa_nil)))) (pa_cons (pe_op op_add pe_int (C8.pe_c (ok_draw T) hr (by decide) (by rfl) (pa_cons (pv 0) (pa_cons (pe_op op_add (pv 1) pe_int) pa_nil)))) pa_nil)))) <|
         pss_one (ps_if (pt_cmpR (op_notInD (u65 hr)) (pv 11) (pv 9) (by rfl)) (pss_one (ps_expr (pe_bm PySem.F.plainAttrs_list PySem.F.slot_list_append PySem.F.type_list_append mt_append (pv 9) (pa_cons (pv 11) pa_nil)))) pss_nil))) <|
      C8.pss_cut (ps_set (i := 12) nd rfl (Or.inr rfl) (pe_disp (pps_cons pe_str (pv 5) (pps_cons pe_str (pv 6) (pps_cons pe_str (pv 4) (pps_cons pe_str (pv 7) (pps_cons pe_str (pv 8) (pps_cons pe_str (pv 9) pps_nil)))))) (by rfl) (by rfl) (fun z => by cases z) (by decide))) <|
      C8.pss_cut (ps_if (pt_cmpR (op_eqD hr.units) (pe_lc (own := [("_law_day", 15)]) (g := gName 15) rfl nd (pi_range1 (by rfl) T.z_range (pa_cons (C8.pe_c (ok_cycle T) hr (by decide) (by rfl) (pa_cons (pv 12) pa_nil)) pa_nil)) (blkOk_by (own := [("_law_day", 15)]) (N := n_law_calendar) (sc := defScope s_law_calendar) (by decide +kernel)) (fun _ _ _ _ _ => pg_name (i := 15) nd rfl (Or.inl rfl)) (fun _ _ _ _ _ => pts_one (pt_not (pt_val (C8.pe_c (ok_is_rest T) hr (by decide) (by rfl) (pa_cons (pv 12) (pa_cons (pv 15) pa_nil)))))) (fun _ _ _ _ _ => pv 15)) (pe_lst pa_nil) (nomark _))
        (pss_cons (ps_dput hu (pv 12) pe_str (pe_lst pa_nil) rfl) (pss_one (ps_dput hu (pv 12) pe_str (pe_lst pa_nil) rfl))) pss_nil) <|
      pss_one (ps_ret (pv 12)), ?_⟩
    have z0 : (0 : Nat) ≤ sizeLine := by decide
    have z2 : (2 : Nat) ≤ sizeLine := by decide
    obtain ⟨kv0, hd0⟩ := hp.dk
    -- months, many
    refine ⟨fun σ H' => ∃ m q : Int, σ = [some (.ref pn.p), some (.int 3), some (.int m), some (.int q), none, none, none, none, none, none, none, none, none, none, none, none] ∧ 1 ≤ m ∧ m ≤ 14 ∧ 1 ≤ q ∧ q ≤ 2 ∧ SX pn.p H H' ∧ PenAt H' pn (n + 3), ?_, ?_⟩
    · refine ⟨_, rfl, _, rfl, pn, n, 5, rfl, hp, by omega, by decide, by decide, fun r H1 hr1 sx1 p1 => ⟨_, _, rfl, rfl, (by show 4 ≤ sizeLine; decide), fun l hl => ?_⟩⟩
      have t1 := same_new (o := .lst [.int 1, .int 2, .int 3, .int (10 + (r : Int))]) hl
      refine ⟨pn, n + 1, _, rfl, p1.same t1, by omega, .inl ⟨l, _, rfl, upd_same, (by show 1 ≤ 4; decide), (by show 4 ≤ 1000; decide), fun x H2 hx sx2 p2 => ?_⟩⟩
      have hxm : ∃ m : Int, x = .int m ∧ 1 ≤ m ∧ m ≤ 14 := by
        have hx' : x ∈ [V.int 1, .int 2, .int 3, .int (10 + (r : Int))] := hx
        simp only [List.mem_cons, List.not_mem_nil, or_false] at hx'
        rcases hx' with rfl | rfl | rfl | rfl <;> exact ⟨_, rfl, by omega, by omega⟩
      obtain ⟨m, rfl, m1, m2⟩ := hxm
      refine ⟨_, rfl, pn, n + 2, 2, rfl, p2, by omega, by decide, by decide, fun r2 H3 hr2 sx3 p3 => ⟨_, _, rfl, rfl, z2, fun t ht => ?_⟩⟩
      have t2 := same_new (o := .tup [.int m, .int (1 + (r2 : Int))]) ht
      exact ⟨t, _, rfl, SqT.of upd_same, rfl, _, _, rfl, _, _, rfl, rfl, m, 1 + (r2 : Int), rfl, m1, m2, by omega, by omega, (((sx1.trans (.of t1)).trans sx2).trans sx3).trans (.of t2), p3.same t2⟩
    rintro σ H1 ⟨m, q, rfl, m1, m2, q1, q2, sx1, p1⟩
    -- week
    refine ⟨fun σ H' => ∃ w : Int, σ = [some (.ref pn.p), some (.int 3), some (.int m), some (.int q), some (.int w), none, none, none, none, none, none, none, none, none, none, none] ∧ 1 ≤ w ∧ w ≤ 3 ∧ SX pn.p H H' ∧ PenAt H' pn (n + 4), ?_, ?_⟩
    · exact ⟨_, rfl, _, rfl, 6, 3, rfl, pn, n + 3, 3, rfl, p1, by omega, by decide, by decide, fun r H2 hr sx2 p2 => ⟨_, _, rfl, rfl, 1 + (r : Int), rfl, by omega, by omega, sx1.trans sx2, p2⟩⟩
    rintro σ H2 ⟨w, rfl, w1, w2, sx2, p2⟩
    -- many, most
    refine ⟨fun σ H' => ∃ q mo : Int, σ = [some (.ref pn.p), some (.int mo), some (.int m), some (.int q), some (.int w), none, none, none, none, none, none, none, none, none, none, none] ∧ Nums m q w mo ∧ SX pn.p H H' ∧ PenAt H' pn (n + 4), ?_, ?_⟩
    · refine ⟨_, rfl, _, _, rfl, rfl, _, rfl, ite2 (fun hc => ?_) (fun hc => ?_)⟩
      · refine ⟨z2, fun t ht => ?_⟩
        have t2 := same_new (o := .tup [.int 1, .int 2]) ht
        exact ⟨t, _, rfl, SqT.of upd_same, rfl, _, _, rfl, _, _, rfl, rfl, 1, 2, rfl, ⟨m1, m2, by decide, by decide, w1, w2, by decide, by decide, .inr ⟨rfl, rfl⟩⟩, sx2.trans (.of t2), p2.same t2⟩
      · have hm3 : ¬ (3 : Int) < m := fun z => hc (decide_eq_true z)
        exact ⟨q, 3, rfl, ⟨m1, m2, q1, q2, w1, w2, by decide, by decide, .inl (by omega)⟩, sx2, p2⟩
    clear p1 p2 sx1 sx2 q1 q2
    rintro σ H3 ⟨q, mo, rfl, nu, sx3, p3⟩
    obtain ⟨n1, n2, n3, n4, n5, n6, n7, n8, n9⟩ := nu
    obtain ⟨kv3, hd3⟩ := p3.dk
    have hmN : (m.toNat : Int) = m := Int.toNat_of_nonneg (by omega)
    have hwN : (w.toNat : Int) = w := Int.toNat_of_nonneg (by omega)
    have hmoN : (mo.toNat : Int) = mo := Int.toNat_of_nonneg (by omega)
    -- years
    refine ⟨fun σ H' => ∃ (ay : Addr) (Y : List (List Int)), σ = [some (.ref pn.p), some (.int mo), some (.int m), some (.int q), some (.int w), some (.ref ay), none, none, none, none, none, none, none, none, none, none] ∧ YearsAt H' ay m q mo Y ∧ SX pn.p H H' ∧ PenAt H' pn (n + 34), ?_, ?_⟩
    · refine ⟨_, rfl, q, rfl, by omega, by omega, fun D hD => ?_⟩
      have D0 : H3 D = none := hD
      refine lc_range (lo := 0) (n := q.toNat) (fun i H' => SX pn.p H3 H' ∧ PenAt H' pn (n + 4 + i * 14) ∧ ∃ (bs : List Addr) (Y : List (List Int)), H' D = some (.lst (bs.map V.ref)) ∧ RowsL H' bs Y ∧ Y.length = i ∧ ∀ y ∈ Y, y.length = m.toNat ∧ ∀ d ∈ y, 1 ≤ d ∧ d ≤ mo)
        ⟨.of (same_new hD), (p3.same (same_new hD)).mono (by omega), [], [], upd_same, .nil, rfl, fun _ h => nomatch h⟩ ?_ ?_
      · rintro i H' hi ⟨sx, pa, bs, Y, hbs, hrow, hYl, hY⟩
        obtain ⟨kva, hda⟩ := pa.dk
        refine ⟨rfl, _, rfl, m, rfl, by omega, by omega, fun D2 hD2 => ?_⟩
        have t2 := same_new (o := .lst []) hD2
        refine lc_range (lo := 0) (n := m.toNat) (fun j H'' => SX pn.p H' H'' ∧ PenAt H'' pn (n + 4 + i * 14 + j) ∧ ∃ y : List Int, H'' D2 = some (.lst (y.map V.int)) ∧ y.length = j ∧ ∀ d ∈ y, 1 ≤ d ∧ d ≤ mo)
          ⟨.of t2, (pa.same t2).mono (by omega), [], upd_same, rfl, fun _ h => nomatch h⟩ ?_ ?_
        · rintro j H'' hj ⟨sy, pb, y, hy, hyl, hyd⟩
          obtain ⟨kvb, hdb⟩ := pb.dk
          refine ⟨rfl, _, rfl, _, rfl, pn, n + 4 + i * 14 + j, mo.toNat, by rw [hmoN] <;> rfl, pb, by omega, by omega, by omega, fun r H4 hr sz pc => ⟨_, _, rfl, rfl, y.map V.int, sz.lstD hdb hy, by rw [List.length_map]; exact small1000 (by omega), (sy.trans sz).fill hD2, (pa.fill pc hD2).mono (by omega), y ++ [1 + (r : Int)], by rw [List.map_append]; exact upd_same, by simp [hyl], fun d hd => ?_⟩⟩
          rcases List.mem_append.mp hd with hd | hd
          · exact hyd d hd
          · have e : d = 1 + (r : Int) := by simpa using hd
            omega
        rintro H'' ⟨sy, pb, y, hy, hyl, hyd⟩
        have hbs2 := sy.lstD hda hbs
        have hrow2 := rows_sx hrow hda sy
        have ynil : ∀ z ∈ Y ++ [y], z ≠ [] := fun z hz e => by
          subst e
          rcases List.mem_append.mp hz with hz | hz
          · have := (hY [] hz).1
            simp at this
            omega
          · have e2 : [] = y := by simpa using hz
            rw [← e2] at hyl
            simp at hyl
            omega
        refine ⟨_, hbs2, by rw [List.length_map]; have := hrow.length; exact small1000 (by omega), (sx.trans sy).fill D0, (p3.fill pb D0).mono (by omega), bs ++ [D2], Y ++ [y], by rw [List.map_append]; exact upd_same, rows_put (Paired.snoc hy hrow2) ynil hbs2, by simp [hYl], fun z hz => ?_⟩
        rcases List.mem_append.mp hz with hz | hz
        · exact hY z hz
        · obtain rfl : z = y := by simpa using hz
          exact ⟨hyl, hyd⟩
      rintro H' ⟨sx, pa, bs, Y, hbs, hrow, hYl, hY⟩
      exact ⟨D, Y, rfl, ⟨⟨bs, hbs, hrow⟩, hYl, hY⟩, sx3.trans sx, pa.mono (by omega)⟩
    clear p3 hd3 sx3
    rintro σ H4 ⟨ay, Y, rfl, ya, sx4, p4⟩
    obtain ⟨kv4, hd4⟩ := p4.dk
    have nu : Nums m q w mo := ⟨n1, n2, n3, n4, n5, n6, n7, n8, n9⟩
    have hfl := flat_len Y m.toNat fun y hy => (ya.row y hy).1
    have hfl2 : Y.flatten.length ≤ 28 := by
      rw [hfl, ya.len]
      exact Nat.mul_le_mul (show q.toNat ≤ 2 by omega) (show m.toNat ≤ 14 by omega)
    -- lengths, begins
    refine ⟨fun σ H' => ∃ (al : Addr) (f : Int), σ = [some (.ref pn.p), some (.int mo), some (.int m), some (.int q), some (.int w), some (.ref ay), some (.ref al), some (.int f), none, none, none, none, none, none, none, none] ∧ YearsAt H' ay m q mo Y ∧ H' al = some (.lst (Y.flatten.map V.int)) ∧ 0 ≤ f ∧ f < w ∧ SX pn.p H H' ∧ PenAt H' pn (n + 35), ?_, ?_⟩
    · obtain ⟨bs, hay, hrow⟩ := ya.ob
      have hbl := hrow.length
      have hYl := ya.len
      refine ⟨_, rfl, ay, rfl, ⟨_, SqL.of hay⟩, fun D hD => ?_⟩
      refine lc_list (K := K) (a := ay) (xs := bs.map V.ref) (fun i H' => Same H4 H' ∧ ∃ cs : List Addr, H' D = some (.lst (cs.map V.ref)) ∧ RowsL H' cs (Y.take i)) ⟨same_new hD, [], upd_same, .nil⟩ (fun i H' _ qq => SqL.of (qq.1 _ _ hay)) ?_ ?_
      · rintro i x H' hx ⟨sm, cs, hcs, hrc⟩
        obtain ⟨b, eb, rfl⟩ := ref_at hx
        obtain ⟨y, ey1, ey2⟩ := paired_at hrow i b eb
        have hi : i < Y.length := (List.getElem?_eq_some_iff.mp ey1).1
        have hcl := hrc.length
        rw [List.length_take] at hcl
        refine ⟨rfl, _, rfl, b, _, rfl, .inl (SqL.of (sm _ _ ey2)), fun l hl => ⟨_, same_new hl _ _ hcs, by rw [List.length_map]; exact small1000 (by omega), same_upd (sm.trans (same_new hl)) hD, cs ++ [l], by rw [List.map_append]; exact upd_same, ?_⟩⟩
        rw [List.take_succ, ey1]
        have ynil : ∀ z ∈ Y.take i ++ [y], z ≠ [] := fun z hz e => by
          subst e
          rcases List.mem_append.mp hz with hz | hz
          · have := (ya.row [] (List.mem_of_mem_take hz)).1
            simp at this
            omega
          · have e2 : [] = y := by simpa using hz
            have := (ya.row y (List.mem_of_getElem? ey1)).1
            rw [← e2] at this
            simp at this
            omega
        exact rows_put (Paired.snoc upd_same (Paired.same (fun _ _ qq => same_new hl _ _ qq) hrc)) ynil (same_new hl _ _ hcs)
      rintro H5 ⟨s5, cs, hcs, hrc⟩
      rw [List.length_map, hbl, List.take_length] at hrc
      refine ⟨z0, fun e he => ?_⟩
      have t1 := same_new (o := .lst []) he
      refine ⟨D, e, cs, Y.map (·.map V.int), [], rfl, t1 _ _ hcs, upd_same, ?_, ?_, ?_, fun p5 hp5 => ?_⟩
      · have hh := Paired.same (fun (b : Addr) (y : List Int) (qq : H5 b = some (.lst (y.map V.int))) => t1 _ _ qq) hrc
        clear hrc hfl hfl2 ya hrow hcs hbl hYl
        induction hh with
        | nil => exact .nil
        | cons r t ih => exact .cons r ih
      · intro z
        have := hrc.length
        rw [z] at this
        simp at this
        omega
      · have e3 : ((Y.map (·.map V.int)).map List.length).sum = Y.flatten.length := by
          rw [List.map_map, List.length_flatten]
          congr 1
          refine List.map_congr_left fun y _ => ?_
          show (y.map V.int).length = y.length
          rw [List.length_map]
        rw [e3]
        have := sizeLine_eq
        show 0 + Y.flatten.length ≤ sizeLine
        omega
      · have t2 := same_new (o := .lst ([] ++ (Y.map (·.map V.int)).flatten)) hp5
        have st := (s5.trans t1).trans t2
        have hal : (upd (upd H5 e (.lst [])) p5 (.lst ([] ++ (Y.map (·.map V.int)).flatten))) p5 = some (.lst (Y.flatten.map V.int)) := by
          refine upd_same.trans ?_
          rw [List.nil_append, List.map_flatten]
        refine ⟨_, rfl, _, rfl, pn, n + 34, w.toNat, by rw [hwN] <;> rfl, p4.same st, by omega, by omega, by omega, fun r H6 hr6 sx6 p6 => ?_⟩
        obtain ⟨kvs, hds⟩ := (p4.same st).dk
        exact ⟨_, _, rfl, p5, (r : Int), rfl, (ya.sx hd4 (.of st)).sx hds sx6, sx6.lstD hds hal, by omega, by omega, (sx4.trans (.of st)).trans sx6, p6⟩
    clear ya p4 hd4 sx4
    rintro σ H5 ⟨al, f, rfl, ya, hal, f1, f2, sx5, p5⟩
    obtain ⟨kv5, hd5⟩ := p5.dk
    -- rest
    refine ⟨fun σ H' => ∃ (ar : Addr) (R : List Int), σ = [some (.ref pn.p), some (.int mo), some (.int m), some (.int q), some (.int w), some (.ref ay), some (.ref al), some (.int f), some (.ref ar), none, none, none, none, none, none, none] ∧ YearsAt H' ay m q mo Y ∧ H' al = some (.lst (Y.flatten.map V.int)) ∧ H' ar = some (.lst (R.map V.int)) ∧ (∀ r ∈ R, 0 ≤ r ∧ r < w) ∧ R.Nodup ∧ SX pn.p H H' ∧ PenAt H' pn (n + 46), ?_, ?_⟩
    · refine ⟨_, rfl, _, rfl, w, rfl, RgOk.of_le (by decide) (by omega) (by decide) (by omega), fun g hg => ?_⟩
      rw [rg_ints]
      have t1 := same_new (o := .lst (((List.range w.toNat).map fun i => ((i : Nat) : Int)).map V.int)) hg
      obtain ⟨kv1, hd1⟩ := (p5.same t1).dk
      refine ⟨pn, g, n + 35, (List.range w.toNat).map fun i => ((i : Nat) : Int), rfl, p5.same t1, by omega, upd_same, by rw [List.length_map, List.length_range]; omega, fun ys g2 H6 perm sx6 p6 hg2 => ?_⟩
      obtain ⟨kv6, hd6⟩ := p6.dk
      refine ⟨_, rfl, _, rfl, pn, n + 35 + 10, w.toNat, by rw [hwN] <;> rfl, p6, by omega, by omega, by omega, fun r H7 hr7 sx7 p7 => ⟨_, rfl, g2, _, rfl, SqL.of (sx7.lstD hd6 hg2), fun g3 ng3 => ?_⟩⟩
      have t3 := same_new (o := .lst (cutV (ys.map V.int) none (some (r : Int)))) ng3
      have sall := (((SX.of t1).trans sx6).trans sx7).trans (.of t3)
      refine ⟨g3, cutL ys none (some (r : Int)), rfl, ya.sx hd5 sall, sall.lstD hd5 hal, by rw [← cutV_map]; exact upd_same, fun x hx => ?_, cutL_nodup (perm.nodup_iff.mpr ?_) _ _, sx5.trans sall, (p7.same t3).mono (by omega)⟩
      · have hx2 := perm.mem_iff.mp (cutL_mem hx)
        obtain ⟨i, hi, rfl⟩ := List.mem_map.mp hx2
        have := List.mem_range.mp hi
        omega
      · exact List.Pairwise.map _ (fun a b h e => h (by omega)) List.nodup_range
    clear ya p5 hd5 sx5 hal
    rintro σ H6 ⟨ar, R, rfl, ya, hal, har, hR, hRn, sx6, p6⟩
    obtain ⟨kv6, hd6⟩ := p6.dk
    -- holidays
    refine ⟨z0, fun fr hfr => ?_⟩
    have tf := same_new (o := .lst []) hfr
    refine ⟨fun σ H' => ∃ (fr : Addr) (hs : List Addr) (HD : List (Int × Int)) (v10 v11 : Option V), σ = [some (.ref pn.p), some (.int mo), some (.int m), some (.int q), some (.int w), some (.ref ay), some (.ref al), some (.int f), some (.ref ar), some (.ref fr), v10, v11, none, none, none, none] ∧ YearsAt H' ay m q mo Y ∧ H' al = some (.lst (Y.flatten.map V.int)) ∧ H' ar = some (.lst (R.map V.int)) ∧ H' fr = some (.lst (hs.map V.ref)) ∧ PairsL H' hs HD ∧ (∀ h ∈ HD, 1 ≤ h.1 ∧ h.1 ≤ m ∧ 1 ≤ h.2 ∧ h.2 ≤ 40) ∧ HD.Nodup ∧ HD.length ≤ 2 ∧ SX pn.p H H' ∧ PenAt H' pn (n + 60), ?_, ?_⟩
    · have p6' := p6.same tf
      refine ⟨_, rfl, pn, n + 46, 3, rfl, p6', by omega, by decide, by decide, fun r H7 hr7 sx7 p7 => ?_⟩
      obtain ⟨kv6', hd6'⟩ := p6'.dk
      have sx67 := (SX.of (a := pn.p) tf).trans sx7
      refine ⟨(r : Int), rfl, by omega, by omega, ?_⟩
      have er : ((r : Int)).toNat = r := by omega
      rw [er]
      refine for_range (lo := 0) (n := r) (fun i σ H' => SX pn.p H6 H' ∧ PenAt H' pn (n + 47 + 2 * i) ∧ ∃ (hs : List Addr) (HD : List (Int × Int)) (v10 v11 : Option V), σ = [some (.ref pn.p), some (.int mo), some (.int m), some (.int q), some (.int w), some (.ref ay), some (.ref al), some (.int f), some (.ref ar), some (.ref fr), v10, v11, none, none, none, none] ∧ H' fr = some (.lst (hs.map V.ref)) ∧ PairsL H' hs HD ∧ (∀ h ∈ HD, 1 ≤ h.1 ∧ h.1 ≤ m ∧ 1 ≤ h.2 ∧ h.2 ≤ 40) ∧ HD.Nodup ∧ HD.length ≤ i)
        ⟨sx67, p7.mono (by omega), [], [], none, none, rfl, sx7.lstD hd6' upd_same, .nil, (fun _ h => nomatch h), List.Pairwise.nil, Nat.le_refl _⟩ ?_ ?_
      · rintro i σ H' hi ⟨sx, pa, hs, HD, v10, v11, rfl, hfr', hpr, hin, hnd, hln⟩
        obtain ⟨kva, hda⟩ := pa.dk
        refine ⟨_, rfl, _, rfl, pn, n + 47 + 2 * i, m.toNat, by rw [hmN] <;> rfl, pa, by omega, by omega, by omega, fun r1 H8 hr1 sx8 p8 => ⟨_, _, rfl, rfl, ?_⟩⟩
        obtain ⟨kv8, hd8⟩ := p8.dk
        refine ⟨_, rfl, _, rfl, _, _, rfl, rfl, pn, n + 47 + 2 * i + 1, mo.toNat + 1, ?_, p8, by omega, by omega, by omega, fun r2 H9 hr2 sx9 p9 => ⟨_, _, rfl, rfl, z2, fun t ht => ?_⟩⟩
        · have e : mo + 1 = ((mo.toNat + 1 : Nat) : Int) := by omega
          rw [← e] <;> rfl
        have tt := same_new (o := .tup [.int (1 + (r1 : Int)), .int (1 + (r2 : Int))]) ht
        have sx69 := (sx8.trans sx9).trans (.of tt)
        have hfr9 := sx69.lstD hda hfr'
        have hpr9 := pairs_sx hpr hda sx69
        have hlen9 := hpr.length
        refine ⟨_, rfl, _, rfl, prI (1 + (r1 : Int), 1 + (r2 : Int)), HD.map prI, dp_prI (h := (1 + (r1 : Int), 1 + (r2 : Int))) upd_same, .lst (SqL.of hfr9) (dp_prIs hpr9), prI_shaped _, prIs_shapedL _, _, rfl, ?_⟩
        rw [prIs_any]
        by_cases hmem : (1 + (r1 : Int), 1 + (r2 : Int)) ∈ HD
        · rw [decide_eq_true hmem]
          exact iteF ⟨sx.trans sx69, (p9.same tt).mono (by omega), hs, HD, _, _, rfl, hfr9, hpr9, hin, hnd, by omega⟩
        · rw [decide_eq_false hmem]
          refine iteT ⟨_, rfl, .inl ⟨rfl, _, SqL.of hfr9⟩, _, rfl, fr, _, _, rfl, rfl, hfr9, by rw [List.length_map]; exact small1000 (by omega), (sx.trans sx69).fill hfr, (p6.fill (p9.same tt) hfr).mono (by omega), hs ++ [t], HD ++ [(1 + (r1 : Int), 1 + (r2 : Int))], _, _, rfl, by rw [List.map_append]; exact upd_same, ?_, fun h hh => ?_, ?_, by simp; omega⟩
          · have up : ∀ (b : Addr) (h : Int × Int), (upd H9 t (.tup [.int (1 + (r1 : Int)), .int (1 + (r2 : Int))])) b = some (.tup [.int h.1, .int h.2]) → (upd (upd H9 t (.tup [.int (1 + (r1 : Int)), .int (1 + (r2 : Int))])) fr (.lst (hs.map V.ref ++ [.ref t]))) b = some (.tup [.int h.1, .int h.2]) := fun b h e => by
              rw [upd_ne (ne_of e hfr9 (by intro z; cases z))]
              exact e
            exact Paired.snoc (up t (1 + (r1 : Int), 1 + (r2 : Int)) upd_same) (Paired.same up hpr9)
          · rcases List.mem_append.mp hh with hh | hh
            · exact hin h hh
            · obtain rfl : h = (1 + (r1 : Int), 1 + (r2 : Int)) := by simpa using hh
              show 1 ≤ 1 + (r1 : Int) ∧ 1 + (r1 : Int) ≤ m ∧ 1 ≤ 1 + (r2 : Int) ∧ 1 + (r2 : Int) ≤ 40
              omega
          · refine List.nodup_append.mpr ⟨hnd, List.Pairwise.cons (fun _ h => nomatch h) List.Pairwise.nil, fun x hx y hy e => ?_⟩
            have e2 : y = (1 + (r1 : Int), 1 + (r2 : Int)) := by simpa using hy
            subst e
            rw [e2] at hx
            exact hmem hx
      · rintro σ H' ⟨sx, pa, hs, HD, v10, v11, rfl, hfr', hpr, hin, hnd, hln⟩
        exact ⟨fr, hs, HD, v10, v11, rfl, ya.sx hd6 sx, sx.lstD hd6 hal, sx.lstD hd6 har, hfr', hpr, hin, hnd, by omega, sx6.trans sx, pa.mono (by omega)⟩
    clear ya p6 hd6 sx6 hal har tf hfr fr
    rintro σ H7 ⟨fr, hs, HD, v10, v11, rfl, ya, hal, har, hfr, hpr, hin, hnd, hln, sx7, p7⟩
    have ok : CalOk ⟨Y, w, f, R, HD⟩ := cal_ok nu ya.len ya.row f1 f2 hR hRn hin hnd hln
    -- the dict
    refine ⟨fun σ H' => ∃ p : Addr, σ = [some (.ref pn.p), some (.int mo), some (.int m), some (.int q), some (.int w), some (.ref ay), some (.ref al), some (.int f), some (.ref ar), some (.ref fr), v10, v11, some (.ref p), none, none, none] ∧ PlainAt H' p ⟨Y, w, f, R, HD⟩ ∧ (∃ (ay al ar ah : Addr), H' p = some (.dK (plK ay al ar ah w f))) ∧ p ≠ pn.p ∧ H p = none ∧ SX pn.p H H' ∧ PenAt H' pn (n + 60), ?_, ?_⟩
    · obtain ⟨bs, hay, hrow⟩ := ya.ob
      obtain ⟨kv7, hd7⟩ := p7.dk
      intro p9 hp9
      have t1 : Same H7 (upd (upd H7 p9 (.dK [])) p9 (.dK (mergeK [] [(.inr "years", .ref ay), (.inr "lengths", .ref al), (.inr "week", .int w), (.inr "first", .int f), (.inr "rest", .ref ar), (.inr "holidays", .ref fr)]))) := same_upd (same_new hp9) hp9
      refine ⟨_, rfl, _, rfl, _, rfl, _, rfl, _, rfl, _, rfl, upd_same, [(.inr "years", .ref ay), (.inr "lengths", .ref al), (.inr "week", .int w), (.inr "first", .int f), (.inr "rest", .ref ar), (.inr "holidays", .ref fr)], rfl, (by show 6 ≤ 15; decide), ?_⟩
      exact ⟨p9, rfl, ⟨ay, al, ar, fr, bs, hs, upd_same, t1 _ _ hay, Paired.same (fun _ _ qq => t1 _ _ qq) hrow, t1 _ _ hal, t1 _ _ har, t1 _ _ hfr, Paired.same (fun _ _ qq => t1 _ _ qq) hpr⟩, ⟨ay, al, ar, fr, upd_same⟩, (fun z => by rw [z, hd7] at hp9; cases hp9), none_back sx7 hd7 hp9, sx7.trans (.of t1), p7.same t1⟩
    clear ya hal har hfr hpr sx7 p7
    rintro σ H8 ⟨p, rfl, pl, hpk, hpn, hp0, sx8, p8⟩
    -- a work day
    refine ⟨fun σ H' => ∃ (p : Addr) (c : CalD) (vv : List (Option V)), σ[12]? = some (some (.ref p)) ∧ PlainAt H' p c ∧ CalOk c ∧ HasWork c ∧ p ≠ pn.p ∧ SX pn.p H H' ∧ PenAt H' pn (n + 100), ?_, ?_⟩
    · have per1 := ok.per1
      have per2 := ok.per2
      refine ⟨_, rfl, p, _, rfl, pl, ok, (CalD.per ⟨Y, w, f, R, HD⟩ : Int), rfl, by omega, by omega, fun D hD => ?_⟩
      refine lc_range (lo := 0) (n := CalD.per ⟨Y, w, f, R, HD⟩) (fun i H' => Same H8 H' ∧ ∃ xs : List Int, H' D = some (.lst (xs.map V.int)) ∧ xs.length ≤ i ∧ ((∃ d : Nat, d < i ∧ CalD.isRest ⟨Y, w, f, R, HD⟩ d = false) ∨ xs = []))
        ⟨same_new hD, [], upd_same, Nat.le_refl _, .inr rfl⟩ ?_ ?_
      · rintro i H' hi ⟨sm, xs, hxs, hxl, hxw⟩
        refine ⟨rfl, _, rfl, _, rfl, p, _, _, rfl, pl.same sm, ok, fun H9 s9 => ⟨_, rfl, ?_⟩⟩
        rw [Int.zero_add]
        cases hb : CalD.isRest ⟨Y, w, f, R, HD⟩ (i : Int) with
        | true => exact iteF ⟨sm.trans s9, xs, s9 _ _ hxs, by omega, hxw.imp (fun ⟨d, h1, h2⟩ => ⟨d, by omega, h2⟩) id⟩
        | false => exact iteT ⟨_, rfl, _, s9 _ _ hxs, by rw [List.length_map]; exact small1000 (by omega), same_upd (sm.trans s9) hD, xs ++ [(i : Int)], by rw [List.map_append]; exact upd_same, by simp; omega, .inl ⟨i, by omega, hb⟩⟩
      rintro H9 ⟨s9, xs, hxs, hxl, hxw⟩
      refine ⟨z0, fun e he => ?_⟩
      have t9 := s9.trans (same_new (o := .lst []) he)
      refine ⟨_, _, .lst (SqL.of (same_new (o := .lst []) he _ _ hxs)) (dp_ints xs), .lst (SqL.of upd_same) .nil, ints_shapedL xs, by decide +kernel, _, rfl, ?_⟩
      cases xs with
      | cons x0 r0 =>
        have e0 : PyData.eqv (.list ((x0 :: r0).map PyData.int)) (.list []) = false := by simp [PyData.eqv, PyData.eqvAll]
        rw [e0]
        have hw : HasWork ⟨Y, w, f, R, HD⟩ := hxw.resolve_right (by simp)
        exact iteF ⟨p, _, [], rfl, pl.same t9, ok, hw, hpn, sx8.trans (.of t9), (p8.same t9).mono (by omega)⟩
      | nil =>
        refine iteT ?_
        have pl9 := pl.same t9
        obtain ⟨ay', al', ar', ah', hpk'⟩ := hpk
        have hpk9 := t9 _ _ hpk'
        generalize upd H9 e (.lst []) = H10 at t9 pl9 hpk9 ⊢
        obtain ⟨ay2, al2, ar2, ah2, bs2, hs2, h1, h2, h3, h4, h5, h6, h7⟩ := pl9.ob
        have sx10 := sx8.trans (.of t9)
        have p10 := p8.same t9
        have hp10 : H10 p ≠ none := by rw [h1]; intro z; cases z
        refine ⟨z0, fun e1 ne1 => ⟨_, rfl, p, _, rfl, DPut.k (k := .inr "rest") (same_new ne1 _ _ h1) (by show 6 < sizeLine; decide), z0, fun e2 ne2 => ⟨_, rfl, p, _, rfl, DPut.k (k := .inr "holidays") (same_new ne2 _ _ upd_same) (by show 6 < sizeLine; decide), ?_⟩⟩⟩
        have t1 := same_new (o := .lst []) ne1
        have x1 : SX p H10 (upd (upd H10 e1 (.lst [])) p (.dK (plK ay2 al2 e1 ah2 w f))) := (SX.of t1).trans .put
        have e1h : (upd (upd H10 e1 (.lst [])) p (.dK (plK ay2 al2 e1 ah2 w f))) e1 = some (.lst []) := by
          rw [upd_ne (ne_of upd_same (same_new (o := .lst []) ne1 _ _ h1) (by intro z; cases z))]
          exact upd_same
        have x3 : SX p (upd (upd H10 e1 (.lst [])) p (.dK (plK ay2 al2 e1 ah2 w f))) (upd (upd (upd (upd H10 e1 (.lst [])) p (.dK (plK ay2 al2 e1 ah2 w f))) e2 (.lst [])) p (.dK (plK ay2 al2 e1 e2 w f))) := (SX.of (same_new ne2)).trans .put
        have xx := x1.trans x3
        have e1h2 := x3.lstD upd_same e1h
        have e2h : (upd (upd (upd (upd H10 e1 (.lst [])) p (.dK (plK ay2 al2 e1 ah2 w f))) e2 (.lst [])) p (.dK (plK ay2 al2 e1 e2 w f))) e2 = some (.lst []) := by
          rw [upd_ne (ne_of upd_same (same_new (o := .lst []) ne2 _ _ upd_same) (by intro z; cases z))]
          exact upd_same
        have fin : ∀ H', H' = (upd (upd (upd (upd H10 e1 (.lst [])) p (.dK (plK ay2 al2 e1 ah2 w f))) e2 (.lst [])) p (.dK (plK ay2 al2 e1 e2 w f))) → ∃ (p' : Addr) (c : CalD) (vv : List (Option V)), [some (V.ref pn.p), some (.int mo), some (.int m), some (.int q), some (.int w), some (.ref ay), some (.ref al), some (.int f), some (.ref ar), some (.ref fr), v10, v11, some (.ref p), none, none, none][12]? = some (some (.ref p')) ∧ PlainAt H' p' c ∧ CalOk c ∧ HasWork c ∧ p' ≠ pn.p ∧ SX pn.p H H' ∧ PenAt H' pn (n + 100) := fun H' eH => by
          subst eH
          refine ⟨p, ⟨Y, w, f, [], []⟩, [], rfl, ⟨ay2, al2, e1, e2, bs2, [], upd_same, xx.lstD h1 h2, rows_sx h3 h1 xx, xx.lstD h1 h4, e1h2, e2h, .nil⟩, ?_, ⟨0, ?_, not_rest _ rfl rfl _⟩, hpn, ?_, ?_⟩
          · exact ⟨ok.y1, ok.y2, ok.rows, ok.m1, ok.m2, ok.days, ok.s, ok.w1, ok.w2, ok.f1, ok.f2, (fun _ h => nomatch h), List.Pairwise.nil, (fun _ h => nomatch h), List.Pairwise.nil, (by show 0 ≤ 2; decide)⟩
          · exact per1
          · intro b u nb qq
            have hb : b ≠ p := fun z => by rw [z, hp0] at qq; cases qq
            exact xx b u hb (sx10 b u nb qq)
          · exact (hp.fill (((hp.fill ((p10.same t1)) hp0) |> fun z => z.same (same_new ne2))) hp0).mono (by omega)
        obtain ⟨p', c', vv, g1, g2⟩ := fin _ rfl
        exact ⟨p', c', vv, g1, g2⟩
    rintro σ H9 ⟨p', c', vv, hσ, pl9, ok9, hw9, hpn9, sx9, p9⟩
    exact ⟨_, hσ, k p' c' H9 pl9 ok9 hw9 hpn9 sx9 p9⟩
end
end K5

set_option Elab.async false
set_option linter.all false
set_option maxRecDepth 100000
set_option maxHeartbeats 4000000
/-! Walks 33: the law. -/
namespace K5
open PySem PySem.Spec PyProof.Rows L2
theorem fw_le (c : CalD) : ∀ (ws : List Str) (s : FS) (i k : Nat), fw c s ws i = some k → k ≤ i + ws.length
  | [], s, i, k, h => by
    have h' : (if fopen s = true then some i else none) = some k := h
    split at h'
    · cases h'
      simp
    · cases h'
  | x :: xs, s, i, k, h => by
    have h' : (match fstep c s x with
      | none => some i
      | some s' => fw c s' xs (i + 1)) = some k := h
    split at h'
    · cases h'
      simp
    · have := fw_le c xs _ (i + 1) k h'
      simp only [List.length_cons]
      omega
theorem ans_le {H : Hp} {v : V} {c : CalD} (h : VOk H v) : ∀ k, lawAns c v = some k → k ≤ 200000 := fun k hk => by
  rcases h with ⟨t, rfl, ht⟩ | h
  · have := fw_le c _ _ _ _ hk
    have h2 := (words_bd t).1
    rw [List.drop_zero] at this
    omega
  · rw [h.ans] at hk
    cases hk
    omega
def rsO : Option Nat → Str
  | none => "None"
  | some k => Str.ofString (toString ((k : Nat) : Int))
theorem rep_ok {H : Hp} {Q : VK} {o : Option Nat} (h : ∀ k, o = some k → k ≤ 200000) (q : Q (.str (rsO o)) H) : rReprN [ovN o] H Q ∨ ∃ i, [ovN o] = [V.int i] ∧ i.natAbs.log2 < 1920 ∧ Q (.str (toString i)) H := by
  cases o with
  | none => exact .inl ⟨rfl, q⟩
  | some k =>
    refine .inr ⟨k, rfl, ?_, q⟩
    have h1 := h k rfl
    have h2 : (k : Int).natAbs < 2 ^ 20 := by omega
    have h3 := PySem.Flt.log2_lt_of (by decide) h2
    omega
theorem joinL_len (S : List Nat) : ∀ ps : List (List Nat), (TL.joinL S ps).length ≤ (ps.map List.length).sum + ps.length * S.length
  | [] => by simp [TL.joinL]
  | [p] => by simp [TL.joinL]
  | p :: q :: r => by
    have ih := joinL_len S (q :: r)
    simp only [TL.joinL, List.length_append, List.map_cons, List.sum_cons, List.length_cons, Nat.succ_mul] at ih ⊢
    omega
theorem joinL_mem (S : List Nat) : ∀ (ps : List (List Nat)) (c : Nat), c ∈ TL.joinL S ps → c ∈ S ∨ ∃ p ∈ ps, c ∈ p
  | [], c, h => by cases h
  | [p], c, h => .inr ⟨p, List.mem_cons_self .., h⟩
  | p :: q :: r, c, h => by
    have h' : c ∈ p ++ (S ++ TL.joinL S (q :: r)) := h
    rcases List.mem_append.mp h' with h' | h'
    · exact .inr ⟨p, List.mem_cons_self .., h'⟩
    · rcases List.mem_append.mp h' with h' | h'
      · exact .inl h'
      · rcases joinL_mem S (q :: r) c h' with h' | ⟨z, hz, hc⟩
        · exact .inl h'
        · exact .inr ⟨z, List.mem_cons_of_mem _ hz, hc⟩
theorem ws_sum : ∀ ss : List Str, (∀ s ∈ ss, WS s) → (ss.map (·.length)).sum ≤ ss.length * 50
  | [], _ => by simp
  | s :: ss, h => by
    have a := (h s (List.mem_cons_self ..)).2
    have b := ws_sum ss fun x hx => h x (List.mem_cons_of_mem _ hx)
    simp only [List.map_cons, List.sum_cons, List.length_cons, Nat.succ_mul]
    omega
theorem join_ok {ss : List Str} {N : Nat} (hl : ss.length ≤ N) (h : ∀ s ∈ ss, WS s) : okS (Txt.join " " ss) ∧ (Txt.join " " ss).length ≤ N * 51 := by
  have e : (Txt.join " " ss).cps.toList = TL.joinL (Str.ofString " ").cps.toList (ss.map fun s => s.cps.toList) := by
    have h := _root_.SX.join_S [32] (ss.map fun s => s.cps.toList)
    have e2 : (ss.map fun s => s.cps.toList).map _root_.SX.S = ss := by
      rw [List.map_map]
      exact (List.map_congr_left fun s _ => _root_.SX.S_tl s).trans (List.map_id ss)
    rw [e2] at h
    have e3 : Str.ofString " " = _root_.SX.S [32] := by decide +kernel
    rw [e3, h]
  have e1 : (Str.ofString " ").cps.toList = [32] := by decide +kernel
  rw [e1] at e
  constructor
  · rw [okS_iff, e]
    intro c hc
    rcases joinL_mem _ _ _ hc with hc | ⟨p, hp, hc⟩
    · have : c = 32 := by simpa using hc
      omega
    · obtain ⟨s, hs, rfl⟩ := List.mem_map.mp hp
      exact (okS_iff s).mp (h s hs).1 c hc
  · have h1 := joinL_len [32] (ss.map fun s => s.cps.toList)
    rw [← e, Array.length_toList, List.map_map, List.length_map] at h1
    have h2 : (ss.map (List.length ∘ fun s => s.cps.toList)) = ss.map (·.length) := List.map_congr_left fun s _ => Array.length_toList
    rw [h2] at h1
    have h3 := ws_sum ss h
    have h4 : (Txt.join " " ss).length ≤ (ss.map (·.length)).sum + ss.length * 1 := h1
    have h5 : ss.length * 50 ≤ N * 50 := Nat.mul_le_mul_right _ hl
    omega
theorem CalAt.sxD {K : PySem.W.Frag} {a b : Addr} {kvs : List (Key × V)} {H H' : Hp} {c : CalD} (h : CalAt K H b c) (ha : H a = some (.dK kvs)) (s : SX a H H') : CalAt K H' b c := by
  obtain ⟨d, fs, h1, h2⟩ := h.ob
  have t : ∀ {b : Addr} {xs : List V}, H b = some (.tup xs) → H' b = some (.tup xs) := fun e => s _ _ (ne_of e ha (by intro z; cases z)) e
  obtain ⟨⟨p1, b1, a1, a2, a3⟩, dw, bg, ⟨p2, r2, e1, e2, e3⟩, ⟨p3, b3, h3, f1, f2, f3, f4⟩, ⟨p4, l1, l2⟩, ⟨p5, s1, s2⟩, tn, no⟩ := h2
  exact ⟨d, fs, s _ _ (ne_of h1 ha (by intro z; cases z)) h1, ⟨⟨p1, b1, a1, t a2, Paired.same (fun _ _ q => t q) a3⟩, dw, bg, ⟨p2, r2, e1, t e2, e3⟩, ⟨p3, b3, h3, f1, t f2, Paired.same (fun _ _ q => t q) f3, f4⟩, ⟨p4, l1, s.lstD ha l2⟩, ⟨p5, s1, s.lstD ha s2⟩, tn, no⟩⟩
def gN : Nat → Nat
  | 0 => 104
  | k + 1 => 2 * gN k + 20
def sp_law (K : PySem.W.Frag) : Sp := fun vs H Q _ => ∃ (a : Addr) (xs : List Int), vs = [.ref a] ∧ SqL K H a (xs.map V.int) ∧ ∀ H', Q (.bl true) H'
section
variable {P : Program} {w : World} {K : PySem.W.Frag} {mg : Str → Option Value} {base : Heap}
theorem ok_law (T : Tx K mg) {fd : FuncData} (F : Fun K "law" "law" s_law (He.ga K "law") fd) : FnOk P w K mg base CX0 39 (He.ga K "law") fd ["_law_script"] (sp_law K) := by
  refine F.ok sc_law (fun vs H Q E h => ?_) (fun cdv A outer s H vs Q E hr h => ?_)
  · obtain ⟨a, xs, rfl, _⟩ := h
    rfl
  · obtain ⟨a, xs, rfl, ha, k⟩ := h
    have nd := sc_law.nd
    refine ⟨_, pss_cons (ps_set (i := 1) nd rfl (Or.inl rfl) (C8.pe_c (ok_pen T) hr (by decide) (by rfl) (pa_cons (pv 0) pa_nil))) <|
      pss_cons (ps_for PassesOwn.never rfl (pi_range1 (by rfl) T.z_range (pa_cons (pe_op op_add pe_int (pe_callB (call_min2 rfl) (by rfl) T.z_min (by decide +kernel) (pa_cons pe_int (pa_cons (pe_callB call_len_seq (by rfl) T.z_len bLen (pa_cons (pv 0) pa_nil)) pa_nil)))) pa_nil)) (pg_name (i := 2) nd rfl (.inl rfl))
        (pss_cons (ps_set (i := 3) nd rfl (Or.inl rfl) (C8.pe_c (ok_calendar T) hr (by decide) (by rfl) (pa_cons (pv 1) (pa_cons pe_int pa_nil)))) <|
         pss_cons (ps_set (i := 4) nd rfl (Or.inl rfl) (C8.pe_c (ok_opened T) hr (by decide) (by rfl) (pa_cons (pv 3) pa_nil))) <|
         pss_one <| ps_for PassesOwn.never rfl (pi_range1 (by rfl) T.z_range (pa_cons pe_int pa_nil)) (pg_name (i := 5) nd rfl (.inl rfl))
          (pss_cons (ps_set (i := 6) nd rfl (Or.inl rfl) (C8.pe_c (ok_words T 3) hr (by decide) (by rfl) (pa_cons (C8.pe_c (ok_tree T 3) hr (by decide) (by rfl) (pa_cons (pv 1) (pa_cons (pv 3) (pa_cons (C8.pe_c (ok_pick T) hr (by decide) (by rfl) (pa_cons (pv 1) (pa_cons (pe_lst (pa_cons pe_int (pa_cons pe_int (pa_cons pe_int pa_nil)))) pa_nil))) pa_nil)))) (pa_cons pe_int pa_nil)))) <|
           C8.pss_cut (ps_for PassesOwn.never rfl (pi_range1 (by rfl) T.z_range (pa_cons (C8.pe_c (ok_pick T) hr (by decide) (by rfl) (pa_cons (pv 1) (pa_cons (pe_lst (pa_cons pe_int (pa_cons pe_int (pa_cons pe_int (pa_cons pe_int (pa_cons pe_int pa_nil)))))) pa_nil))) pa_nil)) (pg_name (i := 7) nd rfl (.inl rfl))
            (pss_one (ps_set (i := 6) nd rfl (Or.inl rfl) (C8.pe_c (ok_bent T) hr (by decide) (by rfl) (pa_cons (pv 1) (pa_cons (pv 6) pa_nil)))))) <|
           pss_cons (ps_set (i := 8) nd rfl (Or.inl rfl) (pe_join pe_str (pv 6))) <|
           C8.pss_cut (ps_if (pt_cmpR op_eq (C8.pe_c (ok_draw T) hr (by decide) (by rfl) (pa_cons (pv 1) (pa_cons pe_int pa_nil))) pe_int (nomark _)) (pss_one (ps_set (i := 8) nd rfl (Or.inl rfl) (C8.pe_c (ok_changed T) hr (by decide) (by rfl) (pa_cons (pv 1) (pa_cons (pv 8) pa_nil))))) pss_nil) <|
           pss_cons (ps_set (i := 8) nd rfl (Or.inl rfl) (C8.pe_c (ok_pick T) hr (by decide) (by rfl) (pa_cons (pv 1) (pa_cons (pe_lst (pa_cons (pv 8) (pa_cons (pv 8) (pa_cons (pv 8) (pa_cons (pv 8) (pa_cons (pv 8) (pa_cons (pv 8) (pa_cons (pv 6) (pa_cons pe_non (pa_cons (C8.pe_c (ok_any T) hr (by decide) (by rfl) (pa_cons (pv 1) pa_nil)) pa_nil)))))))))) pa_nil)))) <|
           pss_one <| ps_if (pt_cmpR op_ne (pe_callB (cr_reprN.or SkE.call_repr_int) (by rfl) T.z_repr (by decide +kernel) (pa_cons (C8.pe_c (ok_told T) hr (by decide) (by rfl) (pa_cons (pv 4) (pa_cons (pv 8) pa_nil))) pa_nil)) (pe_callB (cr_reprN.or SkE.call_repr_int) (by rfl) T.z_repr (by decide +kernel) (pa_cons (C8.pe_c (ok_first_wrong T) hr (by decide) (by rfl) (pa_cons (pv 3) (pa_cons (pv 8) pa_nil))) pa_nil)) (nomark _)) (pss_one (ps_ret pe_bl)) pss_nil))) <|
      pss_one (ps_ret pe_bl), ?_⟩
    have hsz : sizeLine = 16777216 := sizeLine_eq
    refine ⟨_, rfl, a, xs, rfl, ha, fun pn H1 s1 hpn p1 => ?_⟩
    have ha1 := s1.seq ha
    refine ⟨_, rfl, a, _, rfl, .inl ha1, 3, _, rfl, _, _, rfl, rfl, ?_⟩
    obtain ⟨R, eR⟩ : ∃ R : Int, R = 3 + (if (((xs.map V.int).length : Nat) : Int) < 3 then (((xs.map V.int).length : Nat) : Int) else 3) := ⟨_, rfl⟩
    have hR : 0 ≤ R ∧ R ≤ 6 := by
      rw [eR]
      split <;> omega
    refine ⟨R, by rw [eR], by omega, by omega, ?_⟩
    refine for_range (lo := 0) (n := R.toNat) (fun i σ H' => PenAt H' pn (7000 * i) ∧ ∃ v2 v3 v4 v5 v6 v7 v8 : Option V, σ = [some (.ref a), some (.ref pn.p), v2, v3, v4, v5, v6, v7, v8]) ⟨p1, _, _, _, _, _, _, _, rfl⟩ ?_ ?_
    · rintro i σ H2 hi ⟨p2, v2, v3, v4, v5, v6, v7, v8, rfl⟩
      refine ⟨_, rfl, pn, 7000 * i, rfl, p2, by omega, fun p c H3 pl ok hw hne sx3 p3 => ?_⟩
      refine ⟨_, rfl, p, c, rfl, pl, ok, hw, fun cal H4 s4 hcal => ?_⟩
      have pl4 := pl.same s4
      have p4 := p3.same s4
      refine ⟨12, rfl, by decide, by decide, ?_⟩
      refine for_range (lo := 0) (n := 12) (fun j σ H' => PenAt H' pn (7000 * i + 100 + 500 * j) ∧ PlainAt H' p c ∧ CalAt K H' cal c ∧ ∃ v2 v5 v6 v7 v8 : Option V, σ = [some (.ref a), some (.ref pn.p), v2, some (.ref p), some (.ref cal), v5, v6, v7, v8]) ⟨p4, pl4, hcal, _, _, _, _, _, rfl⟩ ?_ ?_
      · rintro j σ H5 hj ⟨p5, pl5, cal5, v2, v5, v6, v7, v8, rfl⟩
        obtain ⟨kv5, hd5⟩ := p5.dk
        -- the words
        refine ⟨_, rfl, _, rfl, _, rfl, (by show 3 ≤ sizeLine; decide), fun l hl => ?_⟩
        have t1 := same_new (o := .lst [.int 1, .int 1, .int 2]) hl
        refine ⟨pn, 7000 * i + 100 + 500 * j, _, rfl, p5.same t1, by omega, .inl ⟨l, _, rfl, upd_same, (by show 1 ≤ 3; decide), (by show 3 ≤ 1000; decide), fun x H6 hx sx6 p6 => ?_⟩⟩
        have hxm : ∃ d : Nat, x = .int d ∧ d < 3 := by
          have hx' : x ∈ [V.int 1, .int 1, .int 2] := hx
          simp only [List.mem_cons, List.not_mem_nil, or_false] at hx'
          rcases hx' with rfl | rfl | rfl
          · exact ⟨1, rfl, by decide⟩
          · exact ⟨1, rfl, by decide⟩
          · exact ⟨2, rfl, by decide⟩
        obtain ⟨d, rfl, hd⟩ := hxm
        obtain ⟨kv5', hd5'⟩ := (p5.same t1).dk
        have pl6 := (pl5.same t1).sx hne hd5' sx6
        have cal6 := (cal5.same t1).sxD hd5' sx6
        obtain ⟨kv6, hd6⟩ := p6.dk
        refine ⟨pn, p, _, d, c, rfl, hd, by decide, p6, (by show 7000 * i + 100 + 500 * j + 1 + 429 ≤ 700000000; omega), pl6, ok, hne, fun v H7 hv sx7 p7 => ?_⟩
        have pl7 := pl6.sx hne hd6 sx7
        have cal7 := cal6.sxD hd6 sx7
        have p7' : PenAt H7 pn (7000 * i + 100 + 500 * j + 430) := p7.mono (by show 7000 * i + 100 + 500 * j + 1 + 429 ≤ _; omega)
        refine ⟨v, 0, _, rfl, hv, by decide, fun q H8 s8 hw8 => ?_⟩
        have hw8' : WL H8 q 104 := hw8
        have pl8 := pl7.same s8
        have cal8 := cal7.same s8
        have p8 := p7'.same s8
        clear pl7 cal7 p7 p7' pl6 cal6 hd6 hd5' hd5 hv
        -- they are bent
        refine ⟨fun σ H' => ∃ (l : Addr) (v7 : Option V), σ = [some (.ref a), some (.ref pn.p), v2, some (.ref p), some (.ref cal), some (.int (0 + (j : Int))), some (.ref l), v7, v8] ∧ WL H' l 972 ∧ PenAt H' pn (7000 * i + 100 + 500 * j + 450) ∧ PlainAt H' p c ∧ CalAt K H' cal c, ?_, ?_⟩
        · refine ⟨_, rfl, (by show 5 ≤ sizeLine; decide), fun l2 hl2 => ?_⟩
          have t2 := same_new (o := .lst [.int 0, .int 1, .int 1, .int 2, .int 3]) hl2
          obtain ⟨kv8, hd8⟩ := (p8.same t2).dk
          refine ⟨pn, _, _, rfl, p8.same t2, by omega, .inl ⟨l2, _, rfl, upd_same, (by show 1 ≤ 5; decide), (by show 5 ≤ 1000; decide), fun x H9 hx sx9 p9 => ?_⟩⟩
          have hxm : ∃ r : Nat, x = .int r ∧ r ≤ 3 := by
            have hx' : x ∈ [V.int 0, .int 1, .int 1, .int 2, .int 3] := hx
            simp only [List.mem_cons, List.not_mem_nil, or_false] at hx'
            rcases hx' with rfl | rfl | rfl | rfl | rfl
            · exact ⟨0, rfl, by decide⟩
            · exact ⟨1, rfl, by decide⟩
            · exact ⟨1, rfl, by decide⟩
            · exact ⟨2, rfl, by decide⟩
            · exact ⟨3, rfl, by decide⟩
          obtain ⟨r, rfl, hr3⟩ := hxm
          refine ⟨(r : Int), rfl, by omega, by omega, ?_⟩
          have er : ((r : Int)).toNat = r := by omega
          rw [er]
          have gle : ∀ k : Nat, k ≤ 3 → gN k ≤ 972 ∧ (k < 3 → gN k ≤ 500) := fun k hk => by
            have h' : k = 0 ∨ k = 1 ∨ k = 2 ∨ k = 3 := by omega
            rcases h' with rfl | rfl | rfl | rfl <;> decide
          refine for_range (lo := 0) (n := r) (fun k σ H' => ∃ (l : Addr) (v7 : Option V), σ = [some (.ref a), some (.ref pn.p), v2, some (.ref p), some (.ref cal), some (.int (0 + (j : Int))), some (.ref l), v7, v8] ∧ WL H' l (gN k) ∧ PenAt H' pn (7000 * i + 100 + 500 * j + 431 + 3 * k) ∧ PlainAt H' p c ∧ CalAt K H' cal c)
            ⟨q, _, rfl, (hw8'.same t2).sx hd8 sx9, p9.mono (by omega), (pl8.same t2).sx hne hd8 sx9, (cal8.same t2).sxD hd8 sx9⟩ ?_ ?_
          · rintro k σ H' hk ⟨l, v7, rfl, hw, pa, pl', cal'⟩
            obtain ⟨kva, hda⟩ := pa.dk
            refine ⟨_, rfl, _, rfl, pn, l, _, gN k, rfl, pa, by omega, hw, (gle k (by omega)).2 (by omega), fun q2 H'' hw2 sx2 pb => ?_⟩
            exact ⟨q2, _, rfl, hw2, pb.mono (by omega), pl'.sx hne hda sx2, cal'.sxD hda sx2⟩
          · rintro σ H' ⟨l, v7, rfl, hw, pa, pl', cal'⟩
            exact ⟨l, v7, rfl, hw.mono (gle r hr3).1, pa.mono (by omega), pl', cal'⟩
        clear hw8 hw8' pl8 cal8 p8
        rintro σ H9 ⟨l, v7, rfl, hw, p9, pl9, cal9⟩
        obtain ⟨ss, hs1, hs2, hs3⟩ := hw.ob
        obtain ⟨j1, j2⟩ := join_ok hs2 hs3
        refine ⟨⟨_, rfl⟩, _, rfl, " ", l, ss, rfl, rfl, .inl (SqL.of hs1), ?_, ?_⟩
        · have h1 := ws_sum ss hs3
          have h2 : (Str.ofString " ").length = 1 := by decide +kernel
          rw [h2]
          omega
        -- changed or not
        obtain ⟨kv9, hd9⟩ := p9.dk
        refine ⟨fun σ H' => ∃ t : Str, σ = [some (.ref a), some (.ref pn.p), v2, some (.ref p), some (.ref cal), some (.int (0 + (j : Int))), some (.ref l), v7, some (.str t)] ∧ okS t ∧ t.length ≤ 99200 ∧ WL H' l 972 ∧ PenAt H' pn (7000 * i + 100 + 500 * j + 460) ∧ PlainAt H' p c ∧ CalAt K H' cal c, ?_, ?_⟩
        · refine ⟨_, rfl, pn, _, 4, rfl, p9, by omega, by decide, by decide, fun r H10 hr4 sx10 p10 => ⟨rfl, _, rfl, ?_⟩⟩
          have hw10 := hw.sx hd9 sx10
          have pl10 := pl9.sx hne hd9 sx10
          have cal10 := cal9.sxD hd9 sx10
          obtain ⟨kv10, hd10⟩ := p10.dk
          refine ite2 (fun _ => ?_) (fun _ => ?_)
          · refine ⟨_, rfl, _, rfl, pn, Txt.join " " ss, _, rfl, p10, by omega, j1, by omega, fun t' H11 o1 o2 sx11 p11 => ?_⟩
            exact ⟨t', rfl, o1, by omega, hw10.sx hd10 sx11, p11.mono (by omega), pl10.sx hne hd10 sx11, cal10.sxD hd10 sx11⟩
          · exact ⟨Txt.join " " ss, rfl, j1, by omega, hw10, p10.mono (by omega), pl10, cal10⟩
        clear hw hs1 hs2 hs3 j1 j2 p9 pl9 cal9 hd9
        rintro σ H10 ⟨t, rfl, ot, lt, hw, p10, pl10, cal10⟩
        -- the value
        obtain ⟨kv10, hd10⟩ := p10.dk
        obtain ⟨sw, hsw, _⟩ := hw.ob
        refine ⟨_, rfl, _, rfl, _, rfl, _, rfl, _, rfl, _, rfl, _, rfl, _, rfl, _, rfl, pn, _, rfl, p10, by omega, fun va H11 hva hvn sx11 p11 => ⟨(by show 9 ≤ sizeLine; decide), fun q hq => ?_⟩⟩
        have t3 := same_new (o := .lst [.str t, .str t, .str t, .str t, .str t, .str t, .ref l, .non, va]) hq
        obtain ⟨kv11, hd11⟩ := (p11.same t3).dk
        refine ⟨pn, _, _, rfl, p11.same t3, by omega, .inl ⟨q, _, rfl, upd_same, (by show 1 ≤ 9; decide), (by show 9 ≤ 1000; decide), fun x H12 hx sx12 p12 => ?_⟩⟩
        have hl11 := sx11.lstD hd10 hsw
        have hxv : VT (upd H11 q (.lst [.str t, .str t, .str t, .str t, .str t, .str t, .ref l, .non, va])) x ∧ x ≠ .ref pn.p := by
          have hx' : x ∈ [V.str t, .str t, .str t, .str t, .str t, .str t, .ref l, .non, va] := hx
          simp only [List.mem_cons, List.not_mem_nil, or_false] at hx'
          have hs : VT (upd H11 q (.lst [.str t, .str t, .str t, .str t, .str t, .str t, .ref l, .non, va])) (.str t) ∧ V.str t ≠ .ref pn.p := ⟨.str ot (by omega), fun z => nomatch z⟩
          rcases hx' with rfl | rfl | rfl | rfl | rfl | rfl | rfl | rfl | rfl
          · exact hs
          · exact hs
          · exact hs
          · exact hs
          · exact hs
          · exact hs
          · refine ⟨.ns (.lst (t3 _ _ hl11)), fun z => ?_⟩
            have e : l = pn.p := V.ref.inj z
            subst e
            rw [hd10] at hsw
            cases hsw
          · exact ⟨.ns .non, fun z => nomatch z⟩
          · exact ⟨hva.same t3, hvn⟩
        have hvx := hxv.1.sx hxv.2 hd11 sx12
        have pl12 := ((pl10.sx hne hd10 sx11).same t3).sx hne hd11 sx12
        have cal12 := ((cal10.sxD hd10 sx11).same t3).sxD hd11 sx12
        clear hw hsw hl11 hxv
        -- both tell the same
        have hle := ans_le (c := c) hvx.1
        refine ⟨_, rfl, _, rfl, cal, c, x, rfl, cal12, ok, hvx.1, fun H13 s13 => ?_⟩
        refine rep_ok hle ?_
        refine ⟨_, rfl, _, rfl, p, c, x, rfl, pl12.same s13, ok, hvx.same s13, fun H14 s14 => ?_⟩
        refine rep_ok hle ?_
        refine ⟨rfl, _, rfl, ?_⟩
        have e0 : decide (V.str (rsO (lawAns c x)) = V.str (rsO (lawAns c x))) = true := decide_eq_true rfl
        show if (!decide (V.str (rsO (lawAns c x)) = V.str (rsO (lawAns c x)))) = true then _ else _
        rw [e0]
        exact iteF ⟨(p12.same (s13.trans s14)).mono (by omega), pl12.same (s13.trans s14), cal12.same (s13.trans s14), _, _, _, _, _, rfl⟩
      · rintro σ H5 ⟨p5, pl5, cal5, v2, v5, v6, v7, v8, rfl⟩
        exact ⟨p5.mono (by omega), _, _, _, _, _, _, _, rfl⟩
    · rintro σ H2 ⟨p2, v2, v3, v4, v5, v6, v7, v8, rfl⟩
      exact k H2
end
end K5

set_option Elab.async false
set_option linter.all false
set_option maxRecDepth 100000
set_option maxHeartbeats 4000000
/-! The end: the head and the walk. -/
namespace K5
open PySem PySem.Spec PyProof.Rows L2
theorem facts {P : Program} {w : World} {K : PySem.W.Frag} {h : Heap} {mg : Str → Option Value} {f : Addr} (X : K.In h) (G : h.Ns mainGlobals mg) (hfa : mg ("law" : Str) = some (.ref f)) (c : SaysM K) :
    ∃ fd : FuncData, (∀ (s : Shared) (v : Value), BindsTo s fd ⟨[v], []⟩ [("_law_script", v)]) ∧ ∀ base : Heap, K.In base → base.Ns mainGlobals mg → FnOk P w K mg base CX0 39 f fd ["_law_script"] (sp_law K) := by
  have T : Tx K mg := ⟨c, h, X, G⟩
  obtain ⟨fd, F⟩ := T.sy.def_ 73 (d := d_law) rfl
  have G1 : Fun K "law" "law" s_law (He.ga K "law") fd := He5.fun_of F
  have e := hfa.symm.trans T.g_law
  cases e
  have b := FunD.bindsA (ps := ["_law_script"]) F fun _ _ _ _ _ _ us hl => match us, hl with | [_], _ => rfl
  exact ⟨fd, fun s v => b s [v] rfl, fun base _ _ => ok_law T G1⟩
end K5
open PySem PySem.W PySem.Calls PyProof.Rows
theorem PySem.Challenge.cw_dayrecipes_k53_whole_set_texts_refused_holds : PySem.Challenge.rw_dayrecipes_k53_whole_set_texts_refused.Holds := by
  w_on; o_law
  refine HandSHeadRun.head_any (r := OpenLaw.row PySem.Challenge.rw_dayrecipes_k53_whole_set_texts_refused) (q := view (OpenLaw.row PySem.Challenge.rw_dayrecipes_k53_whole_set_texts_refused).prog [86]) (H := K5.hk) (ob := K5.ob) (M := 20000) (loose := K5.nm) (d := HandSHeadRun.topDef (OpenLaw.row PySem.Challenge.rw_dayrecipes_k53_whole_set_texts_refused).prog 86) (kwd := []) K5.ob_eq
    (by kernel_rfl) (fun s => by kernel_rfl) K5.run (by kernel_rfl) (by kernel_rfl) (by kernel_rfl) (by rfl) (by first | assumption | decide +kernel) (by decide +kernel) ⟨rfl, rfl, rfl, rfl, rfl, by decide +kernel⟩ ?hw ?hc
  case hw => w_witness2
  case hc =>
    refine L2.walk_ofE (l := PySem.Challenge.rw_dayrecipes_k53_whole_set_texts_refused) (n := 63) (k := 39) (x := "_law_script") (CX := L2.CX0) rfl (by decide) (by kernel_rfl) ⟨rfl, by decide, by decide⟩ ?F (fun _ _ _ _ z => z)
    intro w mg fa h Y G hmg0
    obtain ⟨K, KX, c⟩ := Y
    have hmg : mg ("law" : PySem.Str) = some (.ref fa) := by
      have e : (HandSHeadRun.topDef (OpenLaw.row PySem.Challenge.rw_dayrecipes_k53_whole_set_texts_refused).prog 86).name = ("law" : PySem.Str) := by kernel_rfl
      rw [← e]
      exact hmg0
    obtain ⟨fd, hb, hF⟩ := K5.facts (P := (PySem.Challenge.rw_dayrecipes_k53_whole_set_texts_refused).prog) (w := w) KX G hmg c
    exact ⟨K, fd, K5.sp_law K, KX, hb, fun H a ns hl _ hS => ⟨a, ns, rfl, hS, fun _ => rfl⟩, hF⟩

