import PyProof.Rows.All
import Wide.All
import OpenK.AllK
import Wide.FinOn
import Open.SpecLaws
import KE.OsGo
import HandS.ForSpec
import HandS.Comp
import HandS.Dict
import HandS.Iter
import HandS.Text
import HandS.StrMore
import HandS.FStr
import HandS.Small
import HandS.SortInts
import HandS.TupSets
import HandS.Conv
import HandS.Steps
import HandS.Defaults
import HandS.HeadEnd
import HandS.HeadHook1
import HandS.HeadHook2
import HandS.Head4
import PySem.Challenge.RW_comeagain_s01_answers
import PyCl01
import KE.GoesRaise
import HandS.Exc
import HandS.SetFor
import HandS.Strs
import HandS.Codes
import HandS.Evl
import HandS.TryOnly
import HandS.WordsExc
import HandS.ExcOwn
import HandS.Spec
set_option Elab.async false
set_option linter.all false
section file_CaText0
set_option maxRecDepth 100000
set_option maxHeartbeats 4000000
/-! The text by places, what the top has written (facts by a Hook), defs by names. -/
namespace CA
open PySem PySem.Spec PyProof.Rows L2
def top (i : Nat) : Stmt := PySem.Challenge.pw_comeagain_s01_answers.main.body.getD i (.Pass ⟨0, 0, 0, 0⟩)

abbrev s_month_length : Stmt := top 5
abbrev s_year_start : Stmt := top 6
abbrev s_month_start : Stmt := top 7
abbrev s_is_date : Stmt := top 8
abbrev s_day_number : Stmt := top 9
abbrev s_year_of : Stmt := top 10
abbrev s_month_of : Stmt := top 11
abbrev s_date_of : Stmt := top 12
abbrev s_weekday_of : Stmt := top 13
abbrev s_week_index : Stmt := top 14
abbrev s_week_start : Stmt := top 15
abbrev s_week_of : Stmt := top 16
abbrev s_first_from : Stmt := top 19
abbrev s_last_up_to : Stmt := top 20
abbrev s_between : Stmt := top 21
abbrev s_nth_of : Stmt := top 22
abbrev s_table_of : Stmt := top 23
abbrev s_both_of : Stmt := top 24
abbrev s_less_of : Stmt := top 25
abbrev s_either_of : Stmt := top 26
abbrev s_first_common : Stmt := top 27
abbrev s_first_different : Stmt := top 28
abbrev s_Rule___init__ : Stmt := inClass (top 38) 0
abbrev s_daily_days : Stmt := top 40
abbrev s_weekly_days : Stmt := top 41
abbrev s_pick_of_month : Stmt := top 42
abbrev s_month_days : Stmt := top 43
abbrev s_picks_of : Stmt := top 44
abbrev s_monthly_days : Stmt := top 45
abbrev s_yearly_days : Stmt := top 46
abbrev s_repeated_days : Stmt := top 47
abbrev s_ended_days : Stmt := top 48
abbrev s_days_of : Stmt := top 49
abbrev s_Words___init__ : Stmt := inClass (top 53) 0
abbrev s_Words_peek : Stmt := inClass (top 53) 1
abbrev s_Words_take : Stmt := inClass (top 53) 2
abbrev s_Words_skip : Stmt := inClass (top 53) 3
abbrev s_Words_finish : Stmt := inClass (top 53) 4
abbrev s_sign_of : Stmt := top 54
abbrev s_words_of : Stmt := top 55
abbrev s_ascending : Stmt := top 56
abbrev s_read_number : Stmt := top 57
abbrev s_weekday_named : Stmt := top 58
abbrev s_read_weekday : Stmt := top 59
abbrev s_read_pick : Stmt := top 60
abbrev s_read_date : Stmt := top 61
abbrev s_read_step : Stmt := top 62
abbrev s_read_weekdays : Stmt := top 63
abbrev s_read_picks : Stmt := top 64
abbrev s_read_months : Stmt := top 65
abbrev s_read_first_day : Stmt := top 66
abbrev s_read_until : Stmt := top 67
abbrev s_read_times : Stmt := top 68
abbrev s_read_dates : Stmt := top 69
abbrev s_read_rule : Stmt := top 70
abbrev s_two_figures : Stmt := top 72
abbrev s_date_text : Stmt := top 73
abbrev s_pick_text : Stmt := top 74
abbrev s_part : Stmt := top 75
abbrev s_step_part : Stmt := top 76
abbrev s_end_part : Stmt := top 77
abbrev s_rule_text : Stmt := top 78
abbrev s_Keeper___init__ : Stmt := inClass (top 85) 0
abbrev s_Keeper_has_kept : Stmt := inClass (top 85) 1
abbrev s_Keeper_is_full : Stmt := inClass (top 85) 2
abbrev s_Keeper_store : Stmt := inClass (top 85) 3
abbrev s_Keeper_answer_rule : Stmt := inClass (top 85) 4
abbrev s_Keeper_answer_text : Stmt := inClass (top 85) 5
abbrev s_Keeper_row_of : Stmt := inClass (top 85) 6
abbrev s_Keeper_answer_new : Stmt := inClass (top 85) 7
abbrev s_Keeper_answer_both : Stmt := inClass (top 85) 8
abbrev s_Keeper_answer_either : Stmt := inClass (top 85) 9
abbrev s_Keeper_answer_less : Stmt := inClass (top 85) 10
abbrev s_answer_date : Stmt := top 86
abbrev s_answer_day : Stmt := top 87
abbrev s_call_size : Stmt := top 104
abbrev s_answer_row : Stmt := top 105
abbrev s_answer_pair : Stmt := top 106
abbrev s_answer_kept : Stmt := top 107
abbrev s_answer_call : Stmt := top 108
abbrev s_answers : Stmt := top 109
def fa : List He.Fa := [
  .glo "month_length",
  .glo "year_start",
  .glo "month_start",
  .glo "is_date",
  .glo "day_number",
  .glo "year_of",
  .glo "month_of",
  .glo "date_of",
  .glo "weekday_of",
  .glo "week_index",
  .glo "week_start",
  .glo "week_of",
  .glo "first_from",
  .glo "last_up_to",
  .glo "between",
  .glo "nth_of",
  .glo "table_of",
  .glo "both_of",
  .glo "less_of",
  .glo "either_of",
  .glo "first_common",
  .glo "first_different",
  .glo "daily_days",
  .glo "weekly_days",
  .glo "pick_of_month",
  .glo "month_days",
  .glo "picks_of",
  .glo "monthly_days",
  .glo "yearly_days",
  .glo "repeated_days",
  .glo "ended_days",
  .glo "days_of",
  .glo "sign_of",
  .glo "words_of",
  .glo "ascending",
  .glo "read_number",
  .glo "weekday_named",
  .glo "read_weekday",
  .glo "read_pick",
  .glo "read_date",
  .glo "read_step",
  .glo "read_weekdays",
  .glo "read_picks",
  .glo "read_months",
  .glo "read_first_day",
  .glo "read_until",
  .glo "read_times",
  .glo "read_dates",
  .glo "read_rule",
  .glo "two_figures",
  .glo "date_text",
  .glo "pick_text",
  .glo "part",
  .glo "step_part",
  .glo "end_part",
  .glo "rule_text",
  .glo "answer_date",
  .glo "answer_day",
  .glo "call_size",
  .glo "answer_row",
  .glo "answer_pair",
  .glo "answer_kept",
  .glo "answer_call",
  .glo "answers",
  .glo "NoRule",
  .glo "Rule",
  .glo "Words",
  .glo "Keeper",
  .glo "MONTH_LENGTHS",
  .glo "KINDS",
  .glo "WEEKDAY_KINDS",
  .glo "WEEKDAYS",
  .glo "SIZES",
  .free "len",
  .free "range",
  .free "list",
  .free "sorted",
  .free "set",
  .free "ord",
  .free "int",
  .free "str",
  .int "FIRST_YEAR" (2000),
  .int "LAST_YEAR" (2099),
  .int "LAST_DAY" (36524),
  .int "NO_DAY" (-6),
  .int "DAY_rule" (0),
  .int "DAY_FROM_END" (1),
  .int "WEEKDAY" (2),
  .int "WEEKDAY_FROM_END" (3),
  .int "MOST_BYTES" (200),
  .int "MOST_KEPT" (8),
  .int "NOT_GOOD" (-1),
  .int "NOT_KEPT" (-3),
  .int "NOT_A_RULE" (-4),
  .int "FULL" (-5),
  .int "RULE" (0),
  .int "TEXT" (1),
  .int "HAS" (2),
  .int "NEXT_DAY" (3),
  .int "LAST" (4),
  .int "COUNT" (5),
  .int "NTH" (7),
  .int "CLASH" (8),
  .int "DIFFER" (9),
  .int "BOTH" (10),
  .int "EITHER" (11),
  .int "DATE" (13),
  .int "DAY_days" (14),
  .int "MOST_LISTED" (100),
  .str "SIGNS" " ,-0123456789abcdefghijklmnopqrstuvwxyz",
  .cls "Rule",
  .noat "Rule" "kind",
  .noat "Rule" "step",
  .noat "Rule" "weekdays",
  .noat "Rule" "picks",
  .noat "Rule" "months",
  .noat "Rule" "first_day",
  .noat "Rule" "until",
  .noat "Rule" "times",
  .noat "Rule" "without",
  .noat "Rule" "also",
  .mkr "Rule",
  .cls "Words",
  .noat "Words" "parts",
  .noat "Words" "place",
  .mkr "Words",
  .cls "Keeper",
  .noat "Keeper" "kept_rows",
  .noat "Keeper" "kept_texts",
  .mkr "Keeper",
  .meth "Words" "peek",
  .meth "Words" "take",
  .meth "Words" "skip",
  .meth "Words" "finish",
  .meth "Keeper" "has_kept",
  .meth "Keeper" "is_full",
  .meth "Keeper" "store",
  .meth "Keeper" "answer_rule",
  .meth "Keeper" "answer_text",
  .meth "Keeper" "row_of",
  .meth "Keeper" "answer_new",
  .meth "Keeper" "answer_both",
  .meth "Keeper" "answer_either",
  .meth "Keeper" "answer_less",
  .exc "NoRule",
  .exm "NoRule" "NoRule" true]
def d_month_length : He.DefD := ⟨("month_length", none), "month_length", "month_length", defArgs s_month_length, defBody s_month_length, defScope s_month_length, [], []⟩
def d_year_start : He.DefD := ⟨("year_start", none), "year_start", "year_start", defArgs s_year_start, defBody s_year_start, defScope s_year_start, [], []⟩
def d_month_start : He.DefD := ⟨("month_start", none), "month_start", "month_start", defArgs s_month_start, defBody s_month_start, defScope s_month_start, [], []⟩
def d_is_date : He.DefD := ⟨("is_date", none), "is_date", "is_date", defArgs s_is_date, defBody s_is_date, defScope s_is_date, [], []⟩
def d_day_number : He.DefD := ⟨("day_number", none), "day_number", "day_number", defArgs s_day_number, defBody s_day_number, defScope s_day_number, [], []⟩
def d_year_of : He.DefD := ⟨("year_of", none), "year_of", "year_of", defArgs s_year_of, defBody s_year_of, defScope s_year_of, [], []⟩
def d_month_of : He.DefD := ⟨("month_of", none), "month_of", "month_of", defArgs s_month_of, defBody s_month_of, defScope s_month_of, [], []⟩
def d_date_of : He.DefD := ⟨("date_of", none), "date_of", "date_of", defArgs s_date_of, defBody s_date_of, defScope s_date_of, [], []⟩
def d_weekday_of : He.DefD := ⟨("weekday_of", none), "weekday_of", "weekday_of", defArgs s_weekday_of, defBody s_weekday_of, defScope s_weekday_of, [], []⟩
def d_week_index : He.DefD := ⟨("week_index", none), "week_index", "week_index", defArgs s_week_index, defBody s_week_index, defScope s_week_index, [], []⟩
def d_week_start : He.DefD := ⟨("week_start", none), "week_start", "week_start", defArgs s_week_start, defBody s_week_start, defScope s_week_start, [], []⟩
def d_week_of : He.DefD := ⟨("week_of", none), "week_of", "week_of", defArgs s_week_of, defBody s_week_of, defScope s_week_of, [], []⟩
def d_first_from : He.DefD := ⟨("first_from", none), "first_from", "first_from", defArgs s_first_from, defBody s_first_from, defScope s_first_from, [], []⟩
def d_last_up_to : He.DefD := ⟨("last_up_to", none), "last_up_to", "last_up_to", defArgs s_last_up_to, defBody s_last_up_to, defScope s_last_up_to, [], []⟩
def d_between : He.DefD := ⟨("between", none), "between", "between", defArgs s_between, defBody s_between, defScope s_between, [], []⟩
def d_nth_of : He.DefD := ⟨("nth_of", none), "nth_of", "nth_of", defArgs s_nth_of, defBody s_nth_of, defScope s_nth_of, [], []⟩
def d_table_of : He.DefD := ⟨("table_of", none), "table_of", "table_of", defArgs s_table_of, defBody s_table_of, defScope s_table_of, [], []⟩
def d_both_of : He.DefD := ⟨("both_of", none), "both_of", "both_of", defArgs s_both_of, defBody s_both_of, defScope s_both_of, [], []⟩
def d_less_of : He.DefD := ⟨("less_of", none), "less_of", "less_of", defArgs s_less_of, defBody s_less_of, defScope s_less_of, [], []⟩
def d_either_of : He.DefD := ⟨("either_of", none), "either_of", "either_of", defArgs s_either_of, defBody s_either_of, defScope s_either_of, [], []⟩
def d_first_common : He.DefD := ⟨("first_common", none), "first_common", "first_common", defArgs s_first_common, defBody s_first_common, defScope s_first_common, [], []⟩
def d_first_different : He.DefD := ⟨("first_different", none), "first_different", "first_different", defArgs s_first_different, defBody s_first_different, defScope s_first_different, [], []⟩
def d_Rule___init__ : He.DefD := ⟨("Rule", some "__init__"), "__init__", "Rule.__init__", defArgs s_Rule___init__, defBody s_Rule___init__, defScope s_Rule___init__, [], []⟩
def d_daily_days : He.DefD := ⟨("daily_days", none), "daily_days", "daily_days", defArgs s_daily_days, defBody s_daily_days, defScope s_daily_days, [], []⟩
def d_weekly_days : He.DefD := ⟨("weekly_days", none), "weekly_days", "weekly_days", defArgs s_weekly_days, defBody s_weekly_days, defScope s_weekly_days, [], []⟩
def d_pick_of_month : He.DefD := ⟨("pick_of_month", none), "pick_of_month", "pick_of_month", defArgs s_pick_of_month, defBody s_pick_of_month, defScope s_pick_of_month, [], []⟩
def d_month_days : He.DefD := ⟨("month_days", none), "month_days", "month_days", defArgs s_month_days, defBody s_month_days, defScope s_month_days, [], []⟩
def d_picks_of : He.DefD := ⟨("picks_of", none), "picks_of", "picks_of", defArgs s_picks_of, defBody s_picks_of, defScope s_picks_of, [], []⟩
def d_monthly_days : He.DefD := ⟨("monthly_days", none), "monthly_days", "monthly_days", defArgs s_monthly_days, defBody s_monthly_days, defScope s_monthly_days, [], []⟩
def d_yearly_days : He.DefD := ⟨("yearly_days", none), "yearly_days", "yearly_days", defArgs s_yearly_days, defBody s_yearly_days, defScope s_yearly_days, [], []⟩
def d_repeated_days : He.DefD := ⟨("repeated_days", none), "repeated_days", "repeated_days", defArgs s_repeated_days, defBody s_repeated_days, defScope s_repeated_days, [], []⟩
def d_ended_days : He.DefD := ⟨("ended_days", none), "ended_days", "ended_days", defArgs s_ended_days, defBody s_ended_days, defScope s_ended_days, [], []⟩
def d_days_of : He.DefD := ⟨("days_of", none), "days_of", "days_of", defArgs s_days_of, defBody s_days_of, defScope s_days_of, [], []⟩
def d_Words___init__ : He.DefD := ⟨("Words", some "__init__"), "__init__", "Words.__init__", defArgs s_Words___init__, defBody s_Words___init__, defScope s_Words___init__, [], []⟩
def d_Words_peek : He.DefD := ⟨("Words", some "peek"), "peek", "Words.peek", defArgs s_Words_peek, defBody s_Words_peek, defScope s_Words_peek, [], []⟩
def d_Words_take : He.DefD := ⟨("Words", some "take"), "take", "Words.take", defArgs s_Words_take, defBody s_Words_take, defScope s_Words_take, [], []⟩
def d_Words_skip : He.DefD := ⟨("Words", some "skip"), "skip", "Words.skip", defArgs s_Words_skip, defBody s_Words_skip, defScope s_Words_skip, [], []⟩
def d_Words_finish : He.DefD := ⟨("Words", some "finish"), "finish", "Words.finish", defArgs s_Words_finish, defBody s_Words_finish, defScope s_Words_finish, [], []⟩
def d_sign_of : He.DefD := ⟨("sign_of", none), "sign_of", "sign_of", defArgs s_sign_of, defBody s_sign_of, defScope s_sign_of, [], []⟩
def d_words_of : He.DefD := ⟨("words_of", none), "words_of", "words_of", defArgs s_words_of, defBody s_words_of, defScope s_words_of, [], []⟩
def d_ascending : He.DefD := ⟨("ascending", none), "ascending", "ascending", defArgs s_ascending, defBody s_ascending, defScope s_ascending, [], []⟩
def d_read_number : He.DefD := ⟨("read_number", none), "read_number", "read_number", defArgs s_read_number, defBody s_read_number, defScope s_read_number, [], []⟩
def d_weekday_named : He.DefD := ⟨("weekday_named", none), "weekday_named", "weekday_named", defArgs s_weekday_named, defBody s_weekday_named, defScope s_weekday_named, [], []⟩
def d_read_weekday : He.DefD := ⟨("read_weekday", none), "read_weekday", "read_weekday", defArgs s_read_weekday, defBody s_read_weekday, defScope s_read_weekday, [], []⟩
def d_read_pick : He.DefD := ⟨("read_pick", none), "read_pick", "read_pick", defArgs s_read_pick, defBody s_read_pick, defScope s_read_pick, [], []⟩
def d_read_date : He.DefD := ⟨("read_date", none), "read_date", "read_date", defArgs s_read_date, defBody s_read_date, defScope s_read_date, [], []⟩
def d_read_step : He.DefD := ⟨("read_step", none), "read_step", "read_step", defArgs s_read_step, defBody s_read_step, defScope s_read_step, [], []⟩
def d_read_weekdays : He.DefD := ⟨("read_weekdays", none), "read_weekdays", "read_weekdays", defArgs s_read_weekdays, defBody s_read_weekdays, defScope s_read_weekdays, [], []⟩
def d_read_picks : He.DefD := ⟨("read_picks", none), "read_picks", "read_picks", defArgs s_read_picks, defBody s_read_picks, defScope s_read_picks, [], []⟩
def d_read_months : He.DefD := ⟨("read_months", none), "read_months", "read_months", defArgs s_read_months, defBody s_read_months, defScope s_read_months, [], []⟩
def d_read_first_day : He.DefD := ⟨("read_first_day", none), "read_first_day", "read_first_day", defArgs s_read_first_day, defBody s_read_first_day, defScope s_read_first_day, [], []⟩
def d_read_until : He.DefD := ⟨("read_until", none), "read_until", "read_until", defArgs s_read_until, defBody s_read_until, defScope s_read_until, [], []⟩
def d_read_times : He.DefD := ⟨("read_times", none), "read_times", "read_times", defArgs s_read_times, defBody s_read_times, defScope s_read_times, [], []⟩
def d_read_dates : He.DefD := ⟨("read_dates", none), "read_dates", "read_dates", defArgs s_read_dates, defBody s_read_dates, defScope s_read_dates, [], []⟩
def d_read_rule : He.DefD := ⟨("read_rule", none), "read_rule", "read_rule", defArgs s_read_rule, defBody s_read_rule, defScope s_read_rule, [], []⟩
def d_two_figures : He.DefD := ⟨("two_figures", none), "two_figures", "two_figures", defArgs s_two_figures, defBody s_two_figures, defScope s_two_figures, [], []⟩
def d_date_text : He.DefD := ⟨("date_text", none), "date_text", "date_text", defArgs s_date_text, defBody s_date_text, defScope s_date_text, [], []⟩
def d_pick_text : He.DefD := ⟨("pick_text", none), "pick_text", "pick_text", defArgs s_pick_text, defBody s_pick_text, defScope s_pick_text, [], []⟩
def d_part : He.DefD := ⟨("part", none), "part", "part", defArgs s_part, defBody s_part, defScope s_part, [], []⟩
def d_step_part : He.DefD := ⟨("step_part", none), "step_part", "step_part", defArgs s_step_part, defBody s_step_part, defScope s_step_part, [], []⟩
def d_end_part : He.DefD := ⟨("end_part", none), "end_part", "end_part", defArgs s_end_part, defBody s_end_part, defScope s_end_part, [], []⟩
def d_rule_text : He.DefD := ⟨("rule_text", none), "rule_text", "rule_text", defArgs s_rule_text, defBody s_rule_text, defScope s_rule_text, [], []⟩
def d_Keeper___init__ : He.DefD := ⟨("Keeper", some "__init__"), "__init__", "Keeper.__init__", defArgs s_Keeper___init__, defBody s_Keeper___init__, defScope s_Keeper___init__, [], []⟩
def d_Keeper_has_kept : He.DefD := ⟨("Keeper", some "has_kept"), "has_kept", "Keeper.has_kept", defArgs s_Keeper_has_kept, defBody s_Keeper_has_kept, defScope s_Keeper_has_kept, [], []⟩
def d_Keeper_is_full : He.DefD := ⟨("Keeper", some "is_full"), "is_full", "Keeper.is_full", defArgs s_Keeper_is_full, defBody s_Keeper_is_full, defScope s_Keeper_is_full, [], []⟩
def d_Keeper_store : He.DefD := ⟨("Keeper", some "store"), "store", "Keeper.store", defArgs s_Keeper_store, defBody s_Keeper_store, defScope s_Keeper_store, [], []⟩
def d_Keeper_answer_rule : He.DefD := ⟨("Keeper", some "answer_rule"), "answer_rule", "Keeper.answer_rule", defArgs s_Keeper_answer_rule, defBody s_Keeper_answer_rule, defScope s_Keeper_answer_rule, [], []⟩
def d_Keeper_answer_text : He.DefD := ⟨("Keeper", some "answer_text"), "answer_text", "Keeper.answer_text", defArgs s_Keeper_answer_text, defBody s_Keeper_answer_text, defScope s_Keeper_answer_text, [], []⟩
def d_Keeper_row_of : He.DefD := ⟨("Keeper", some "row_of"), "row_of", "Keeper.row_of", defArgs s_Keeper_row_of, defBody s_Keeper_row_of, defScope s_Keeper_row_of, [], []⟩
def d_Keeper_answer_new : He.DefD := ⟨("Keeper", some "answer_new"), "answer_new", "Keeper.answer_new", defArgs s_Keeper_answer_new, defBody s_Keeper_answer_new, defScope s_Keeper_answer_new, [], []⟩
def d_Keeper_answer_both : He.DefD := ⟨("Keeper", some "answer_both"), "answer_both", "Keeper.answer_both", defArgs s_Keeper_answer_both, defBody s_Keeper_answer_both, defScope s_Keeper_answer_both, [], []⟩
def d_Keeper_answer_either : He.DefD := ⟨("Keeper", some "answer_either"), "answer_either", "Keeper.answer_either", defArgs s_Keeper_answer_either, defBody s_Keeper_answer_either, defScope s_Keeper_answer_either, [], []⟩
def d_Keeper_answer_less : He.DefD := ⟨("Keeper", some "answer_less"), "answer_less", "Keeper.answer_less", defArgs s_Keeper_answer_less, defBody s_Keeper_answer_less, defScope s_Keeper_answer_less, [], []⟩
def d_answer_date : He.DefD := ⟨("answer_date", none), "answer_date", "answer_date", defArgs s_answer_date, defBody s_answer_date, defScope s_answer_date, [], []⟩
def d_answer_day : He.DefD := ⟨("answer_day", none), "answer_day", "answer_day", defArgs s_answer_day, defBody s_answer_day, defScope s_answer_day, [], []⟩
def d_call_size : He.DefD := ⟨("call_size", none), "call_size", "call_size", defArgs s_call_size, defBody s_call_size, defScope s_call_size, [], []⟩
def d_answer_row : He.DefD := ⟨("answer_row", none), "answer_row", "answer_row", defArgs s_answer_row, defBody s_answer_row, defScope s_answer_row, [], []⟩
def d_answer_pair : He.DefD := ⟨("answer_pair", none), "answer_pair", "answer_pair", defArgs s_answer_pair, defBody s_answer_pair, defScope s_answer_pair, [], []⟩
def d_answer_kept : He.DefD := ⟨("answer_kept", none), "answer_kept", "answer_kept", defArgs s_answer_kept, defBody s_answer_kept, defScope s_answer_kept, [], []⟩
def d_answer_call : He.DefD := ⟨("answer_call", none), "answer_call", "answer_call", defArgs s_answer_call, defBody s_answer_call, defScope s_answer_call, [], []⟩
def d_answers : He.DefD := ⟨("answers", none), "answers", "answers", defArgs s_answers, defBody s_answers, defScope s_answers, [], []⟩
def fn : List He.DefD := [
  d_month_length,
  d_year_start,
  d_month_start,
  d_is_date,
  d_day_number,
  d_year_of,
  d_month_of,
  d_date_of,
  d_weekday_of,
  d_week_index,
  d_week_start,
  d_week_of,
  d_first_from,
  d_last_up_to,
  d_between,
  d_nth_of,
  d_table_of,
  d_both_of,
  d_less_of,
  d_either_of,
  d_first_common,
  d_first_different,
  d_Rule___init__,
  d_daily_days,
  d_weekly_days,
  d_pick_of_month,
  d_month_days,
  d_picks_of,
  d_monthly_days,
  d_yearly_days,
  d_repeated_days,
  d_ended_days,
  d_days_of,
  d_Words___init__,
  d_Words_peek,
  d_Words_take,
  d_Words_skip,
  d_Words_finish,
  d_sign_of,
  d_words_of,
  d_ascending,
  d_read_number,
  d_weekday_named,
  d_read_weekday,
  d_read_pick,
  d_read_date,
  d_read_step,
  d_read_weekdays,
  d_read_picks,
  d_read_months,
  d_read_first_day,
  d_read_until,
  d_read_times,
  d_read_dates,
  d_read_rule,
  d_two_figures,
  d_date_text,
  d_pick_text,
  d_part,
  d_step_part,
  d_end_part,
  d_rule_text,
  d_Keeper___init__,
  d_Keeper_has_kept,
  d_Keeper_is_full,
  d_Keeper_store,
  d_Keeper_answer_rule,
  d_Keeper_answer_text,
  d_Keeper_row_of,
  d_Keeper_answer_new,
  d_Keeper_answer_both,
  d_Keeper_answer_either,
  d_Keeper_answer_less,
  d_answer_date,
  d_answer_day,
  d_call_size,
  d_answer_row,
  d_answer_pair,
  d_answer_kept,
  d_answer_call,
  d_answers]
def tb : List (Str × List He.Dv) := [("MONTH_LENGTHS", [.int 31, .int 28, .int 31, .int 30, .int 31, .int 30, .int 31, .int 31, .int 30, .int 31, .int 30, .int 31]),
  ("KINDS", [.str "daily", .str "weekly", .str "monthly", .str "yearly"]),
  ("WEEKDAY_KINDS", [.str "daily", .str "weekly"]),
  ("WEEKDAYS", [.str "mo", .str "tu", .str "we", .str "th", .str "fr", .str "sa", .str "su"]),
  ("SIZES", [.int 2, .int 2, .int 3, .int 3, .int 3, .int 4, .int 4, .int 3, .int 3, .int 3, .int 3, .int 3, .int 3, .int 2, .int 4])]
def obs (K : PySem.W.Frag) : Bool × List He.FnW := ((tb.all fun p => He.tupB K p.1 p.2) && (He.obsD fa fn K).1, (He.obsD fa fn K).2)
def val : Bool × List He.FnW := (true, fn.map He.DefD.val)
def Says (K : PySem.W.Frag) : Prop := obs K = val
theorem Says.d {K : PySem.W.Frag} (c : Says K) : He.SaysD fa fn K := by
  have h1 : ((tb.all fun p => He.tupB K p.1 p.2) && (He.obsD fa fn K).1) = true := congrArg (fun z => z.1) c
  have h2 : (He.obsD fa fn K).2 = fn.map He.DefD.val := congrArg (fun z => z.2) c
  exact Prod.ext (He.ba h1).2 h2
theorem Says.t {K : PySem.W.Frag} (c : Says K) (i : Nat) {x : Str} {vs : List He.Dv} (h : tb[i]? = some (x, vs) := by rfl) (H : Hp) : SqT K H (He.ga K x) (vs.map (He.Dv.v K)) := by
  have h1 : ((tb.all fun p => He.tupB K p.1 p.2) && (He.obsD fa fn K).1) = true := congrArg (fun z => z.1) c
  exact He.tupB_ok (List.all_eq_true.mp (He.ba h1).1 _ (List.mem_of_getElem? h)) H
/-- what the top has written -/
structure Tx (K : PySem.W.Frag) (mg : Str → Option Value) : Prop where
  says : Says K
  at_ : ∃ h : Heap, K.In h ∧ h.Ns mainGlobals mg
section
variable {K : PySem.W.Frag} {mg : Str → Option Value}
theorem Tx.glo (T : Tx K mg) (i : Nat) {x : Str} (h : fa[i]? = some (.glo x)) : mg x = some (.ref (He.ga K x)) := by
  obtain ⟨_, X, G⟩ := T.at_
  exact He.glo_ok X G (T.says.d.fact i h)
theorem Tx.free (T : Tx K mg) (i : Nat) {x : Str} (h : fa[i]? = some (.free x)) : mg x = none := by
  obtain ⟨_, X, G⟩ := T.at_
  exact He.free_ok X G (T.says.d.fact i h)
theorem Tx.int (T : Tx K mg) (i : Nat) {x : Str} {n : Int} (h : fa[i]? = some (.int x n)) : ∃ t, mg x = some (.int n t) := by
  obtain ⟨_, X, G⟩ := T.at_
  exact He.int_ok X G (T.says.d.fact i h)
theorem Tx.str (T : Tx K mg) (i : Nat) {x z : Str} (h : fa[i]? = some (.str x z)) : ∃ t, mg x = some (.str z t) := by
  obtain ⟨_, X, G⟩ := T.at_
  exact He.str_ok X G (T.says.d.fact i h)
theorem Tx.cls (T : Tx K mg) (i : Nat) {x : Str} (h : fa[i]? = some (.cls x)) : Cls K (He.ga K x) := He.cls_ok (T.says.d.fact i h)
theorem Tx.noat (T : Tx K mg) (i : Nat) {x f : Str} (h : fa[i]? = some (.noat x f)) : NoAttr K (He.ga K x) f := He.noat_ok (T.says.d.fact i h)
theorem Tx.mkr (T : Tx K mg) (i : Nat) {x : Str} (h : fa[i]? = some (.mkr x)) : Mk K (He.ga K x) (He.ma K (He.ga K x) "__init__") := He.mkr_ok (T.says.d.fact i h)
theorem Tx.meth (T : Tx K mg) (i : Nat) {x m : Str} (h : fa[i]? = some (.meth x m)) : Meth K (He.ga K x) m (He.ma K (He.ga K x) m) := He.meth_ok (T.says.d.fact i h)

end
section
variable {K : PySem.W.Frag} {mg : Str → Option Value}
theorem Tx.g_month_length (T : Tx K mg) : mg "month_length" = some (.ref (He.ga K "month_length")) := T.glo 0 rfl
theorem Tx.g_year_start (T : Tx K mg) : mg "year_start" = some (.ref (He.ga K "year_start")) := T.glo 1 rfl
theorem Tx.g_month_start (T : Tx K mg) : mg "month_start" = some (.ref (He.ga K "month_start")) := T.glo 2 rfl
theorem Tx.g_is_date (T : Tx K mg) : mg "is_date" = some (.ref (He.ga K "is_date")) := T.glo 3 rfl
theorem Tx.g_day_number (T : Tx K mg) : mg "day_number" = some (.ref (He.ga K "day_number")) := T.glo 4 rfl
theorem Tx.g_year_of (T : Tx K mg) : mg "year_of" = some (.ref (He.ga K "year_of")) := T.glo 5 rfl
theorem Tx.g_month_of (T : Tx K mg) : mg "month_of" = some (.ref (He.ga K "month_of")) := T.glo 6 rfl
theorem Tx.g_date_of (T : Tx K mg) : mg "date_of" = some (.ref (He.ga K "date_of")) := T.glo 7 rfl
theorem Tx.g_weekday_of (T : Tx K mg) : mg "weekday_of" = some (.ref (He.ga K "weekday_of")) := T.glo 8 rfl
theorem Tx.g_week_index (T : Tx K mg) : mg "week_index" = some (.ref (He.ga K "week_index")) := T.glo 9 rfl
theorem Tx.g_week_start (T : Tx K mg) : mg "week_start" = some (.ref (He.ga K "week_start")) := T.glo 10 rfl
theorem Tx.g_week_of (T : Tx K mg) : mg "week_of" = some (.ref (He.ga K "week_of")) := T.glo 11 rfl
theorem Tx.g_first_from (T : Tx K mg) : mg "first_from" = some (.ref (He.ga K "first_from")) := T.glo 12 rfl
theorem Tx.g_last_up_to (T : Tx K mg) : mg "last_up_to" = some (.ref (He.ga K "last_up_to")) := T.glo 13 rfl
theorem Tx.g_between (T : Tx K mg) : mg "between" = some (.ref (He.ga K "between")) := T.glo 14 rfl
theorem Tx.g_nth_of (T : Tx K mg) : mg "nth_of" = some (.ref (He.ga K "nth_of")) := T.glo 15 rfl
theorem Tx.g_table_of (T : Tx K mg) : mg "table_of" = some (.ref (He.ga K "table_of")) := T.glo 16 rfl
theorem Tx.g_both_of (T : Tx K mg) : mg "both_of" = some (.ref (He.ga K "both_of")) := T.glo 17 rfl
theorem Tx.g_less_of (T : Tx K mg) : mg "less_of" = some (.ref (He.ga K "less_of")) := T.glo 18 rfl
theorem Tx.g_either_of (T : Tx K mg) : mg "either_of" = some (.ref (He.ga K "either_of")) := T.glo 19 rfl
theorem Tx.g_first_common (T : Tx K mg) : mg "first_common" = some (.ref (He.ga K "first_common")) := T.glo 20 rfl
theorem Tx.g_first_different (T : Tx K mg) : mg "first_different" = some (.ref (He.ga K "first_different")) := T.glo 21 rfl
theorem Tx.g_daily_days (T : Tx K mg) : mg "daily_days" = some (.ref (He.ga K "daily_days")) := T.glo 22 rfl
theorem Tx.g_weekly_days (T : Tx K mg) : mg "weekly_days" = some (.ref (He.ga K "weekly_days")) := T.glo 23 rfl
theorem Tx.g_pick_of_month (T : Tx K mg) : mg "pick_of_month" = some (.ref (He.ga K "pick_of_month")) := T.glo 24 rfl
theorem Tx.g_month_days (T : Tx K mg) : mg "month_days" = some (.ref (He.ga K "month_days")) := T.glo 25 rfl
theorem Tx.g_picks_of (T : Tx K mg) : mg "picks_of" = some (.ref (He.ga K "picks_of")) := T.glo 26 rfl
theorem Tx.g_monthly_days (T : Tx K mg) : mg "monthly_days" = some (.ref (He.ga K "monthly_days")) := T.glo 27 rfl
theorem Tx.g_yearly_days (T : Tx K mg) : mg "yearly_days" = some (.ref (He.ga K "yearly_days")) := T.glo 28 rfl
theorem Tx.g_repeated_days (T : Tx K mg) : mg "repeated_days" = some (.ref (He.ga K "repeated_days")) := T.glo 29 rfl
theorem Tx.g_ended_days (T : Tx K mg) : mg "ended_days" = some (.ref (He.ga K "ended_days")) := T.glo 30 rfl
theorem Tx.g_days_of (T : Tx K mg) : mg "days_of" = some (.ref (He.ga K "days_of")) := T.glo 31 rfl
theorem Tx.g_sign_of (T : Tx K mg) : mg "sign_of" = some (.ref (He.ga K "sign_of")) := T.glo 32 rfl
theorem Tx.g_words_of (T : Tx K mg) : mg "words_of" = some (.ref (He.ga K "words_of")) := T.glo 33 rfl
theorem Tx.g_ascending (T : Tx K mg) : mg "ascending" = some (.ref (He.ga K "ascending")) := T.glo 34 rfl
theorem Tx.g_read_number (T : Tx K mg) : mg "read_number" = some (.ref (He.ga K "read_number")) := T.glo 35 rfl
theorem Tx.g_weekday_named (T : Tx K mg) : mg "weekday_named" = some (.ref (He.ga K "weekday_named")) := T.glo 36 rfl
theorem Tx.g_read_weekday (T : Tx K mg) : mg "read_weekday" = some (.ref (He.ga K "read_weekday")) := T.glo 37 rfl
theorem Tx.g_read_pick (T : Tx K mg) : mg "read_pick" = some (.ref (He.ga K "read_pick")) := T.glo 38 rfl
theorem Tx.g_read_date (T : Tx K mg) : mg "read_date" = some (.ref (He.ga K "read_date")) := T.glo 39 rfl
theorem Tx.g_read_step (T : Tx K mg) : mg "read_step" = some (.ref (He.ga K "read_step")) := T.glo 40 rfl
theorem Tx.g_read_weekdays (T : Tx K mg) : mg "read_weekdays" = some (.ref (He.ga K "read_weekdays")) := T.glo 41 rfl
theorem Tx.g_read_picks (T : Tx K mg) : mg "read_picks" = some (.ref (He.ga K "read_picks")) := T.glo 42 rfl
theorem Tx.g_read_months (T : Tx K mg) : mg "read_months" = some (.ref (He.ga K "read_months")) := T.glo 43 rfl
theorem Tx.g_read_first_day (T : Tx K mg) : mg "read_first_day" = some (.ref (He.ga K "read_first_day")) := T.glo 44 rfl
theorem Tx.g_read_until (T : Tx K mg) : mg "read_until" = some (.ref (He.ga K "read_until")) := T.glo 45 rfl
theorem Tx.g_read_times (T : Tx K mg) : mg "read_times" = some (.ref (He.ga K "read_times")) := T.glo 46 rfl
theorem Tx.g_read_dates (T : Tx K mg) : mg "read_dates" = some (.ref (He.ga K "read_dates")) := T.glo 47 rfl
theorem Tx.g_read_rule (T : Tx K mg) : mg "read_rule" = some (.ref (He.ga K "read_rule")) := T.glo 48 rfl
theorem Tx.g_two_figures (T : Tx K mg) : mg "two_figures" = some (.ref (He.ga K "two_figures")) := T.glo 49 rfl
theorem Tx.g_date_text (T : Tx K mg) : mg "date_text" = some (.ref (He.ga K "date_text")) := T.glo 50 rfl
theorem Tx.g_pick_text (T : Tx K mg) : mg "pick_text" = some (.ref (He.ga K "pick_text")) := T.glo 51 rfl
theorem Tx.g_part (T : Tx K mg) : mg "part" = some (.ref (He.ga K "part")) := T.glo 52 rfl
theorem Tx.g_step_part (T : Tx K mg) : mg "step_part" = some (.ref (He.ga K "step_part")) := T.glo 53 rfl
theorem Tx.g_end_part (T : Tx K mg) : mg "end_part" = some (.ref (He.ga K "end_part")) := T.glo 54 rfl
theorem Tx.g_rule_text (T : Tx K mg) : mg "rule_text" = some (.ref (He.ga K "rule_text")) := T.glo 55 rfl
theorem Tx.g_answer_date (T : Tx K mg) : mg "answer_date" = some (.ref (He.ga K "answer_date")) := T.glo 56 rfl
theorem Tx.g_answer_day (T : Tx K mg) : mg "answer_day" = some (.ref (He.ga K "answer_day")) := T.glo 57 rfl
theorem Tx.g_call_size (T : Tx K mg) : mg "call_size" = some (.ref (He.ga K "call_size")) := T.glo 58 rfl
theorem Tx.g_answer_row (T : Tx K mg) : mg "answer_row" = some (.ref (He.ga K "answer_row")) := T.glo 59 rfl
theorem Tx.g_answer_pair (T : Tx K mg) : mg "answer_pair" = some (.ref (He.ga K "answer_pair")) := T.glo 60 rfl
theorem Tx.g_answer_kept (T : Tx K mg) : mg "answer_kept" = some (.ref (He.ga K "answer_kept")) := T.glo 61 rfl
theorem Tx.g_answer_call (T : Tx K mg) : mg "answer_call" = some (.ref (He.ga K "answer_call")) := T.glo 62 rfl
theorem Tx.g_answers (T : Tx K mg) : mg "answers" = some (.ref (He.ga K "answers")) := T.glo 63 rfl
theorem Tx.g_NoRule (T : Tx K mg) : mg "NoRule" = some (.ref (He.ga K "NoRule")) := T.glo 64 rfl
theorem Tx.g_Rule (T : Tx K mg) : mg "Rule" = some (.ref (He.ga K "Rule")) := T.glo 65 rfl
theorem Tx.g_Words (T : Tx K mg) : mg "Words" = some (.ref (He.ga K "Words")) := T.glo 66 rfl
theorem Tx.g_Keeper (T : Tx K mg) : mg "Keeper" = some (.ref (He.ga K "Keeper")) := T.glo 67 rfl
theorem Tx.g_MONTH_LENGTHS (T : Tx K mg) : mg "MONTH_LENGTHS" = some (.ref (He.ga K "MONTH_LENGTHS")) := T.glo 68 rfl
theorem Tx.g_KINDS (T : Tx K mg) : mg "KINDS" = some (.ref (He.ga K "KINDS")) := T.glo 69 rfl
theorem Tx.g_WEEKDAY_KINDS (T : Tx K mg) : mg "WEEKDAY_KINDS" = some (.ref (He.ga K "WEEKDAY_KINDS")) := T.glo 70 rfl
theorem Tx.g_WEEKDAYS (T : Tx K mg) : mg "WEEKDAYS" = some (.ref (He.ga K "WEEKDAYS")) := T.glo 71 rfl
theorem Tx.g_SIZES (T : Tx K mg) : mg "SIZES" = some (.ref (He.ga K "SIZES")) := T.glo 72 rfl
theorem Tx.b_len (T : Tx K mg) : mg "len" = none := T.free 73 rfl
theorem Tx.b_range (T : Tx K mg) : mg "range" = none := T.free 74 rfl
theorem Tx.b_list (T : Tx K mg) : mg "list" = none := T.free 75 rfl
theorem Tx.b_sorted (T : Tx K mg) : mg "sorted" = none := T.free 76 rfl
theorem Tx.b_set (T : Tx K mg) : mg "set" = none := T.free 77 rfl
theorem Tx.b_ord (T : Tx K mg) : mg "ord" = none := T.free 78 rfl
theorem Tx.b_int (T : Tx K mg) : mg "int" = none := T.free 79 rfl
theorem Tx.b_str (T : Tx K mg) : mg "str" = none := T.free 80 rfl
theorem Tx.i_FIRST_YEAR (T : Tx K mg) : ∃ t, mg "FIRST_YEAR" = some (.int (2000) t) := T.int 81 rfl
theorem Tx.i_LAST_YEAR (T : Tx K mg) : ∃ t, mg "LAST_YEAR" = some (.int (2099) t) := T.int 82 rfl
theorem Tx.i_LAST_DAY (T : Tx K mg) : ∃ t, mg "LAST_DAY" = some (.int (36524) t) := T.int 83 rfl
theorem Tx.i_NO_DAY (T : Tx K mg) : ∃ t, mg "NO_DAY" = some (.int (-6) t) := T.int 84 rfl
theorem Tx.i_DAY_rule (T : Tx K mg) : ∃ t, mg "DAY_rule" = some (.int (0) t) := T.int 85 rfl
theorem Tx.i_DAY_FROM_END (T : Tx K mg) : ∃ t, mg "DAY_FROM_END" = some (.int (1) t) := T.int 86 rfl
theorem Tx.i_WEEKDAY (T : Tx K mg) : ∃ t, mg "WEEKDAY" = some (.int (2) t) := T.int 87 rfl
theorem Tx.i_WEEKDAY_FROM_END (T : Tx K mg) : ∃ t, mg "WEEKDAY_FROM_END" = some (.int (3) t) := T.int 88 rfl
theorem Tx.i_MOST_BYTES (T : Tx K mg) : ∃ t, mg "MOST_BYTES" = some (.int (200) t) := T.int 89 rfl
theorem Tx.i_MOST_KEPT (T : Tx K mg) : ∃ t, mg "MOST_KEPT" = some (.int (8) t) := T.int 90 rfl
theorem Tx.i_NOT_GOOD (T : Tx K mg) : ∃ t, mg "NOT_GOOD" = some (.int (-1) t) := T.int 91 rfl
theorem Tx.i_NOT_KEPT (T : Tx K mg) : ∃ t, mg "NOT_KEPT" = some (.int (-3) t) := T.int 92 rfl
theorem Tx.i_NOT_A_RULE (T : Tx K mg) : ∃ t, mg "NOT_A_RULE" = some (.int (-4) t) := T.int 93 rfl
theorem Tx.i_FULL (T : Tx K mg) : ∃ t, mg "FULL" = some (.int (-5) t) := T.int 94 rfl
theorem Tx.i_RULE (T : Tx K mg) : ∃ t, mg "RULE" = some (.int (0) t) := T.int 95 rfl
theorem Tx.i_TEXT (T : Tx K mg) : ∃ t, mg "TEXT" = some (.int (1) t) := T.int 96 rfl
theorem Tx.i_HAS (T : Tx K mg) : ∃ t, mg "HAS" = some (.int (2) t) := T.int 97 rfl
theorem Tx.i_NEXT_DAY (T : Tx K mg) : ∃ t, mg "NEXT_DAY" = some (.int (3) t) := T.int 98 rfl
theorem Tx.i_LAST (T : Tx K mg) : ∃ t, mg "LAST" = some (.int (4) t) := T.int 99 rfl
theorem Tx.i_COUNT (T : Tx K mg) : ∃ t, mg "COUNT" = some (.int (5) t) := T.int 100 rfl
theorem Tx.i_NTH (T : Tx K mg) : ∃ t, mg "NTH" = some (.int (7) t) := T.int 101 rfl
theorem Tx.i_CLASH (T : Tx K mg) : ∃ t, mg "CLASH" = some (.int (8) t) := T.int 102 rfl
theorem Tx.i_DIFFER (T : Tx K mg) : ∃ t, mg "DIFFER" = some (.int (9) t) := T.int 103 rfl
theorem Tx.i_BOTH (T : Tx K mg) : ∃ t, mg "BOTH" = some (.int (10) t) := T.int 104 rfl
theorem Tx.i_EITHER (T : Tx K mg) : ∃ t, mg "EITHER" = some (.int (11) t) := T.int 105 rfl
theorem Tx.i_DATE (T : Tx K mg) : ∃ t, mg "DATE" = some (.int (13) t) := T.int 106 rfl
theorem Tx.i_DAY_days (T : Tx K mg) : ∃ t, mg "DAY_days" = some (.int (14) t) := T.int 107 rfl
theorem Tx.i_MOST_LISTED (T : Tx K mg) : ∃ t, mg "MOST_LISTED" = some (.int (100) t) := T.int 108 rfl
theorem Tx.z_SIGNS (T : Tx K mg) : ∃ t, mg "SIGNS" = some (.str " ,-0123456789abcdefghijklmnopqrstuvwxyz" t) := T.str 109 rfl
theorem Tx.c_Rule (T : Tx K mg) : Cls K (He.ga K "Rule") := T.cls 110 rfl
theorem Tx.n_Rule_kind (T : Tx K mg) : NoAttr K (He.ga K "Rule") "kind" := T.noat 111 rfl
theorem Tx.n_Rule_step (T : Tx K mg) : NoAttr K (He.ga K "Rule") "step" := T.noat 112 rfl
theorem Tx.n_Rule_weekdays (T : Tx K mg) : NoAttr K (He.ga K "Rule") "weekdays" := T.noat 113 rfl
theorem Tx.n_Rule_picks (T : Tx K mg) : NoAttr K (He.ga K "Rule") "picks" := T.noat 114 rfl
theorem Tx.n_Rule_months (T : Tx K mg) : NoAttr K (He.ga K "Rule") "months" := T.noat 115 rfl
theorem Tx.n_Rule_first_day (T : Tx K mg) : NoAttr K (He.ga K "Rule") "first_day" := T.noat 116 rfl
theorem Tx.n_Rule_until (T : Tx K mg) : NoAttr K (He.ga K "Rule") "until" := T.noat 117 rfl
theorem Tx.n_Rule_times (T : Tx K mg) : NoAttr K (He.ga K "Rule") "times" := T.noat 118 rfl
theorem Tx.n_Rule_without (T : Tx K mg) : NoAttr K (He.ga K "Rule") "without" := T.noat 119 rfl
theorem Tx.n_Rule_also (T : Tx K mg) : NoAttr K (He.ga K "Rule") "also" := T.noat 120 rfl
theorem Tx.k_Rule (T : Tx K mg) : Mk K (He.ga K "Rule") (He.ma K (He.ga K "Rule") "__init__") := T.mkr 121 rfl
theorem Tx.c_Words (T : Tx K mg) : Cls K (He.ga K "Words") := T.cls 122 rfl
theorem Tx.n_Words_parts (T : Tx K mg) : NoAttr K (He.ga K "Words") "parts" := T.noat 123 rfl
theorem Tx.n_Words_place (T : Tx K mg) : NoAttr K (He.ga K "Words") "place" := T.noat 124 rfl
theorem Tx.k_Words (T : Tx K mg) : Mk K (He.ga K "Words") (He.ma K (He.ga K "Words") "__init__") := T.mkr 125 rfl
theorem Tx.c_Keeper (T : Tx K mg) : Cls K (He.ga K "Keeper") := T.cls 126 rfl
theorem Tx.n_Keeper_kept_rows (T : Tx K mg) : NoAttr K (He.ga K "Keeper") "kept_rows" := T.noat 127 rfl
theorem Tx.n_Keeper_kept_texts (T : Tx K mg) : NoAttr K (He.ga K "Keeper") "kept_texts" := T.noat 128 rfl
theorem Tx.k_Keeper (T : Tx K mg) : Mk K (He.ga K "Keeper") (He.ma K (He.ga K "Keeper") "__init__") := T.mkr 129 rfl
theorem Tx.m_Words_peek (T : Tx K mg) : Meth K (He.ga K "Words") "peek" (He.ma K (He.ga K "Words") "peek") := T.meth 130 rfl
theorem Tx.m_Words_take (T : Tx K mg) : Meth K (He.ga K "Words") "take" (He.ma K (He.ga K "Words") "take") := T.meth 131 rfl
theorem Tx.m_Words_skip (T : Tx K mg) : Meth K (He.ga K "Words") "skip" (He.ma K (He.ga K "Words") "skip") := T.meth 132 rfl
theorem Tx.m_Words_finish (T : Tx K mg) : Meth K (He.ga K "Words") "finish" (He.ma K (He.ga K "Words") "finish") := T.meth 133 rfl
theorem Tx.m_Keeper_has_kept (T : Tx K mg) : Meth K (He.ga K "Keeper") "has_kept" (He.ma K (He.ga K "Keeper") "has_kept") := T.meth 134 rfl
theorem Tx.m_Keeper_is_full (T : Tx K mg) : Meth K (He.ga K "Keeper") "is_full" (He.ma K (He.ga K "Keeper") "is_full") := T.meth 135 rfl
theorem Tx.m_Keeper_store (T : Tx K mg) : Meth K (He.ga K "Keeper") "store" (He.ma K (He.ga K "Keeper") "store") := T.meth 136 rfl
theorem Tx.m_Keeper_answer_rule (T : Tx K mg) : Meth K (He.ga K "Keeper") "answer_rule" (He.ma K (He.ga K "Keeper") "answer_rule") := T.meth 137 rfl
theorem Tx.m_Keeper_answer_text (T : Tx K mg) : Meth K (He.ga K "Keeper") "answer_text" (He.ma K (He.ga K "Keeper") "answer_text") := T.meth 138 rfl
theorem Tx.m_Keeper_row_of (T : Tx K mg) : Meth K (He.ga K "Keeper") "row_of" (He.ma K (He.ga K "Keeper") "row_of") := T.meth 139 rfl
theorem Tx.m_Keeper_answer_new (T : Tx K mg) : Meth K (He.ga K "Keeper") "answer_new" (He.ma K (He.ga K "Keeper") "answer_new") := T.meth 140 rfl
theorem Tx.m_Keeper_answer_both (T : Tx K mg) : Meth K (He.ga K "Keeper") "answer_both" (He.ma K (He.ga K "Keeper") "answer_both") := T.meth 141 rfl
theorem Tx.m_Keeper_answer_either (T : Tx K mg) : Meth K (He.ga K "Keeper") "answer_either" (He.ma K (He.ga K "Keeper") "answer_either") := T.meth 142 rfl
theorem Tx.m_Keeper_answer_less (T : Tx K mg) : Meth K (He.ga K "Keeper") "answer_less" (He.ma K (He.ga K "Keeper") "answer_less") := T.meth 143 rfl
theorem Tx.x_NoRule (T : Tx K mg) : PySem.W.excIn K (He.ga K "NoRule") He.veBase "ValueError.__new__" = true ∧ PySem.W.keepIn K (.ref (He.ga K "NoRule")) = true ∧ PySem.W.subIn K (.ref (He.ga K "NoRule")) (.type "BaseException") = some true ∧ PySem.W.typeIn K (.ref (He.ga K "NoRule")) = some (.type "type") := He.exc_ok (T.says.d.fact 144 (f := .exc "NoRule") rfl)
theorem Tx.e_NoRule (T : Tx K mg) : PySem.W.exmOne K (.ref (He.ga K "NoRule")) (.ref (He.ga K "NoRule")) = some true := He.exm_ok (T.says.d.fact 145 (f := .exm "NoRule" "NoRule" true) rfl)
theorem Tx.t_MONTH_LENGTHS (T : Tx K mg) (H : Hp) : SqT K H (He.ga K "MONTH_LENGTHS") [V.int 31, V.int 28, V.int 31, V.int 30, V.int 31, V.int 30, V.int 31, V.int 31, V.int 30, V.int 31, V.int 30, V.int 31] := T.says.t 0 rfl H
theorem Tx.t_KINDS (T : Tx K mg) (H : Hp) : SqT K H (He.ga K "KINDS") [V.str "daily", V.str "weekly", V.str "monthly", V.str "yearly"] := T.says.t 1 rfl H
theorem Tx.t_WEEKDAY_KINDS (T : Tx K mg) (H : Hp) : SqT K H (He.ga K "WEEKDAY_KINDS") [V.str "daily", V.str "weekly"] := T.says.t 2 rfl H
theorem Tx.t_WEEKDAYS (T : Tx K mg) (H : Hp) : SqT K H (He.ga K "WEEKDAYS") [V.str "mo", V.str "tu", V.str "we", V.str "th", V.str "fr", V.str "sa", V.str "su"] := T.says.t 3 rfl H
theorem Tx.t_SIZES (T : Tx K mg) (H : Hp) : SqT K H (He.ga K "SIZES") [V.int 2, V.int 2, V.int 3, V.int 3, V.int 3, V.int 4, V.int 4, V.int 3, V.int 3, V.int 3, V.int 3, V.int 3, V.int 3, V.int 2, V.int 4] := T.says.t 4 rfl H
theorem Tx.f_month_length (T : Tx K mg) : ∃ fd, FunD K "month_length" "month_length" (defArgs s_month_length) (defBody s_month_length) (defScope s_month_length) [] [] (He.ga K "month_length") fd := T.says.d.def_ 0 (d := d_month_length) rfl
theorem Tx.f_year_start (T : Tx K mg) : ∃ fd, FunD K "year_start" "year_start" (defArgs s_year_start) (defBody s_year_start) (defScope s_year_start) [] [] (He.ga K "year_start") fd := T.says.d.def_ 1 (d := d_year_start) rfl
theorem Tx.f_month_start (T : Tx K mg) : ∃ fd, FunD K "month_start" "month_start" (defArgs s_month_start) (defBody s_month_start) (defScope s_month_start) [] [] (He.ga K "month_start") fd := T.says.d.def_ 2 (d := d_month_start) rfl
theorem Tx.f_is_date (T : Tx K mg) : ∃ fd, FunD K "is_date" "is_date" (defArgs s_is_date) (defBody s_is_date) (defScope s_is_date) [] [] (He.ga K "is_date") fd := T.says.d.def_ 3 (d := d_is_date) rfl
theorem Tx.f_day_number (T : Tx K mg) : ∃ fd, FunD K "day_number" "day_number" (defArgs s_day_number) (defBody s_day_number) (defScope s_day_number) [] [] (He.ga K "day_number") fd := T.says.d.def_ 4 (d := d_day_number) rfl
theorem Tx.f_year_of (T : Tx K mg) : ∃ fd, FunD K "year_of" "year_of" (defArgs s_year_of) (defBody s_year_of) (defScope s_year_of) [] [] (He.ga K "year_of") fd := T.says.d.def_ 5 (d := d_year_of) rfl
theorem Tx.f_month_of (T : Tx K mg) : ∃ fd, FunD K "month_of" "month_of" (defArgs s_month_of) (defBody s_month_of) (defScope s_month_of) [] [] (He.ga K "month_of") fd := T.says.d.def_ 6 (d := d_month_of) rfl
theorem Tx.f_date_of (T : Tx K mg) : ∃ fd, FunD K "date_of" "date_of" (defArgs s_date_of) (defBody s_date_of) (defScope s_date_of) [] [] (He.ga K "date_of") fd := T.says.d.def_ 7 (d := d_date_of) rfl
theorem Tx.f_weekday_of (T : Tx K mg) : ∃ fd, FunD K "weekday_of" "weekday_of" (defArgs s_weekday_of) (defBody s_weekday_of) (defScope s_weekday_of) [] [] (He.ga K "weekday_of") fd := T.says.d.def_ 8 (d := d_weekday_of) rfl
theorem Tx.f_week_index (T : Tx K mg) : ∃ fd, FunD K "week_index" "week_index" (defArgs s_week_index) (defBody s_week_index) (defScope s_week_index) [] [] (He.ga K "week_index") fd := T.says.d.def_ 9 (d := d_week_index) rfl
theorem Tx.f_week_start (T : Tx K mg) : ∃ fd, FunD K "week_start" "week_start" (defArgs s_week_start) (defBody s_week_start) (defScope s_week_start) [] [] (He.ga K "week_start") fd := T.says.d.def_ 10 (d := d_week_start) rfl
theorem Tx.f_week_of (T : Tx K mg) : ∃ fd, FunD K "week_of" "week_of" (defArgs s_week_of) (defBody s_week_of) (defScope s_week_of) [] [] (He.ga K "week_of") fd := T.says.d.def_ 11 (d := d_week_of) rfl
theorem Tx.f_first_from (T : Tx K mg) : ∃ fd, FunD K "first_from" "first_from" (defArgs s_first_from) (defBody s_first_from) (defScope s_first_from) [] [] (He.ga K "first_from") fd := T.says.d.def_ 12 (d := d_first_from) rfl
theorem Tx.f_last_up_to (T : Tx K mg) : ∃ fd, FunD K "last_up_to" "last_up_to" (defArgs s_last_up_to) (defBody s_last_up_to) (defScope s_last_up_to) [] [] (He.ga K "last_up_to") fd := T.says.d.def_ 13 (d := d_last_up_to) rfl
theorem Tx.f_between (T : Tx K mg) : ∃ fd, FunD K "between" "between" (defArgs s_between) (defBody s_between) (defScope s_between) [] [] (He.ga K "between") fd := T.says.d.def_ 14 (d := d_between) rfl
theorem Tx.f_nth_of (T : Tx K mg) : ∃ fd, FunD K "nth_of" "nth_of" (defArgs s_nth_of) (defBody s_nth_of) (defScope s_nth_of) [] [] (He.ga K "nth_of") fd := T.says.d.def_ 15 (d := d_nth_of) rfl
theorem Tx.f_table_of (T : Tx K mg) : ∃ fd, FunD K "table_of" "table_of" (defArgs s_table_of) (defBody s_table_of) (defScope s_table_of) [] [] (He.ga K "table_of") fd := T.says.d.def_ 16 (d := d_table_of) rfl
theorem Tx.f_both_of (T : Tx K mg) : ∃ fd, FunD K "both_of" "both_of" (defArgs s_both_of) (defBody s_both_of) (defScope s_both_of) [] [] (He.ga K "both_of") fd := T.says.d.def_ 17 (d := d_both_of) rfl
theorem Tx.f_less_of (T : Tx K mg) : ∃ fd, FunD K "less_of" "less_of" (defArgs s_less_of) (defBody s_less_of) (defScope s_less_of) [] [] (He.ga K "less_of") fd := T.says.d.def_ 18 (d := d_less_of) rfl
theorem Tx.f_either_of (T : Tx K mg) : ∃ fd, FunD K "either_of" "either_of" (defArgs s_either_of) (defBody s_either_of) (defScope s_either_of) [] [] (He.ga K "either_of") fd := T.says.d.def_ 19 (d := d_either_of) rfl
theorem Tx.f_first_common (T : Tx K mg) : ∃ fd, FunD K "first_common" "first_common" (defArgs s_first_common) (defBody s_first_common) (defScope s_first_common) [] [] (He.ga K "first_common") fd := T.says.d.def_ 20 (d := d_first_common) rfl
theorem Tx.f_first_different (T : Tx K mg) : ∃ fd, FunD K "first_different" "first_different" (defArgs s_first_different) (defBody s_first_different) (defScope s_first_different) [] [] (He.ga K "first_different") fd := T.says.d.def_ 21 (d := d_first_different) rfl
theorem Tx.f_Rule___init__ (T : Tx K mg) : ∃ fd, FunD K "__init__" "Rule.__init__" (defArgs s_Rule___init__) (defBody s_Rule___init__) (defScope s_Rule___init__) [] [] (He.ma K (He.ga K "Rule") "__init__") fd := T.says.d.def_ 22 (d := d_Rule___init__) rfl
theorem Tx.f_daily_days (T : Tx K mg) : ∃ fd, FunD K "daily_days" "daily_days" (defArgs s_daily_days) (defBody s_daily_days) (defScope s_daily_days) [] [] (He.ga K "daily_days") fd := T.says.d.def_ 23 (d := d_daily_days) rfl
theorem Tx.f_weekly_days (T : Tx K mg) : ∃ fd, FunD K "weekly_days" "weekly_days" (defArgs s_weekly_days) (defBody s_weekly_days) (defScope s_weekly_days) [] [] (He.ga K "weekly_days") fd := T.says.d.def_ 24 (d := d_weekly_days) rfl
theorem Tx.f_pick_of_month (T : Tx K mg) : ∃ fd, FunD K "pick_of_month" "pick_of_month" (defArgs s_pick_of_month) (defBody s_pick_of_month) (defScope s_pick_of_month) [] [] (He.ga K "pick_of_month") fd := T.says.d.def_ 25 (d := d_pick_of_month) rfl
theorem Tx.f_month_days (T : Tx K mg) : ∃ fd, FunD K "month_days" "month_days" (defArgs s_month_days) (defBody s_month_days) (defScope s_month_days) [] [] (He.ga K "month_days") fd := T.says.d.def_ 26 (d := d_month_days) rfl
theorem Tx.f_picks_of (T : Tx K mg) : ∃ fd, FunD K "picks_of" "picks_of" (defArgs s_picks_of) (defBody s_picks_of) (defScope s_picks_of) [] [] (He.ga K "picks_of") fd := T.says.d.def_ 27 (d := d_picks_of) rfl
theorem Tx.f_monthly_days (T : Tx K mg) : ∃ fd, FunD K "monthly_days" "monthly_days" (defArgs s_monthly_days) (defBody s_monthly_days) (defScope s_monthly_days) [] [] (He.ga K "monthly_days") fd := T.says.d.def_ 28 (d := d_monthly_days) rfl
theorem Tx.f_yearly_days (T : Tx K mg) : ∃ fd, FunD K "yearly_days" "yearly_days" (defArgs s_yearly_days) (defBody s_yearly_days) (defScope s_yearly_days) [] [] (He.ga K "yearly_days") fd := T.says.d.def_ 29 (d := d_yearly_days) rfl
theorem Tx.f_repeated_days (T : Tx K mg) : ∃ fd, FunD K "repeated_days" "repeated_days" (defArgs s_repeated_days) (defBody s_repeated_days) (defScope s_repeated_days) [] [] (He.ga K "repeated_days") fd := T.says.d.def_ 30 (d := d_repeated_days) rfl
theorem Tx.f_ended_days (T : Tx K mg) : ∃ fd, FunD K "ended_days" "ended_days" (defArgs s_ended_days) (defBody s_ended_days) (defScope s_ended_days) [] [] (He.ga K "ended_days") fd := T.says.d.def_ 31 (d := d_ended_days) rfl
theorem Tx.f_days_of (T : Tx K mg) : ∃ fd, FunD K "days_of" "days_of" (defArgs s_days_of) (defBody s_days_of) (defScope s_days_of) [] [] (He.ga K "days_of") fd := T.says.d.def_ 32 (d := d_days_of) rfl
theorem Tx.f_Words___init__ (T : Tx K mg) : ∃ fd, FunD K "__init__" "Words.__init__" (defArgs s_Words___init__) (defBody s_Words___init__) (defScope s_Words___init__) [] [] (He.ma K (He.ga K "Words") "__init__") fd := T.says.d.def_ 33 (d := d_Words___init__) rfl
theorem Tx.f_Words_peek (T : Tx K mg) : ∃ fd, FunD K "peek" "Words.peek" (defArgs s_Words_peek) (defBody s_Words_peek) (defScope s_Words_peek) [] [] (He.ma K (He.ga K "Words") "peek") fd := T.says.d.def_ 34 (d := d_Words_peek) rfl
theorem Tx.f_Words_take (T : Tx K mg) : ∃ fd, FunD K "take" "Words.take" (defArgs s_Words_take) (defBody s_Words_take) (defScope s_Words_take) [] [] (He.ma K (He.ga K "Words") "take") fd := T.says.d.def_ 35 (d := d_Words_take) rfl
theorem Tx.f_Words_skip (T : Tx K mg) : ∃ fd, FunD K "skip" "Words.skip" (defArgs s_Words_skip) (defBody s_Words_skip) (defScope s_Words_skip) [] [] (He.ma K (He.ga K "Words") "skip") fd := T.says.d.def_ 36 (d := d_Words_skip) rfl
theorem Tx.f_Words_finish (T : Tx K mg) : ∃ fd, FunD K "finish" "Words.finish" (defArgs s_Words_finish) (defBody s_Words_finish) (defScope s_Words_finish) [] [] (He.ma K (He.ga K "Words") "finish") fd := T.says.d.def_ 37 (d := d_Words_finish) rfl
theorem Tx.f_sign_of (T : Tx K mg) : ∃ fd, FunD K "sign_of" "sign_of" (defArgs s_sign_of) (defBody s_sign_of) (defScope s_sign_of) [] [] (He.ga K "sign_of") fd := T.says.d.def_ 38 (d := d_sign_of) rfl
theorem Tx.f_words_of (T : Tx K mg) : ∃ fd, FunD K "words_of" "words_of" (defArgs s_words_of) (defBody s_words_of) (defScope s_words_of) [] [] (He.ga K "words_of") fd := T.says.d.def_ 39 (d := d_words_of) rfl
theorem Tx.f_ascending (T : Tx K mg) : ∃ fd, FunD K "ascending" "ascending" (defArgs s_ascending) (defBody s_ascending) (defScope s_ascending) [] [] (He.ga K "ascending") fd := T.says.d.def_ 40 (d := d_ascending) rfl
theorem Tx.f_read_number (T : Tx K mg) : ∃ fd, FunD K "read_number" "read_number" (defArgs s_read_number) (defBody s_read_number) (defScope s_read_number) [] [] (He.ga K "read_number") fd := T.says.d.def_ 41 (d := d_read_number) rfl
theorem Tx.f_weekday_named (T : Tx K mg) : ∃ fd, FunD K "weekday_named" "weekday_named" (defArgs s_weekday_named) (defBody s_weekday_named) (defScope s_weekday_named) [] [] (He.ga K "weekday_named") fd := T.says.d.def_ 42 (d := d_weekday_named) rfl
theorem Tx.f_read_weekday (T : Tx K mg) : ∃ fd, FunD K "read_weekday" "read_weekday" (defArgs s_read_weekday) (defBody s_read_weekday) (defScope s_read_weekday) [] [] (He.ga K "read_weekday") fd := T.says.d.def_ 43 (d := d_read_weekday) rfl
theorem Tx.f_read_pick (T : Tx K mg) : ∃ fd, FunD K "read_pick" "read_pick" (defArgs s_read_pick) (defBody s_read_pick) (defScope s_read_pick) [] [] (He.ga K "read_pick") fd := T.says.d.def_ 44 (d := d_read_pick) rfl
theorem Tx.f_read_date (T : Tx K mg) : ∃ fd, FunD K "read_date" "read_date" (defArgs s_read_date) (defBody s_read_date) (defScope s_read_date) [] [] (He.ga K "read_date") fd := T.says.d.def_ 45 (d := d_read_date) rfl
theorem Tx.f_read_step (T : Tx K mg) : ∃ fd, FunD K "read_step" "read_step" (defArgs s_read_step) (defBody s_read_step) (defScope s_read_step) [] [] (He.ga K "read_step") fd := T.says.d.def_ 46 (d := d_read_step) rfl
theorem Tx.f_read_weekdays (T : Tx K mg) : ∃ fd, FunD K "read_weekdays" "read_weekdays" (defArgs s_read_weekdays) (defBody s_read_weekdays) (defScope s_read_weekdays) [] [] (He.ga K "read_weekdays") fd := T.says.d.def_ 47 (d := d_read_weekdays) rfl
theorem Tx.f_read_picks (T : Tx K mg) : ∃ fd, FunD K "read_picks" "read_picks" (defArgs s_read_picks) (defBody s_read_picks) (defScope s_read_picks) [] [] (He.ga K "read_picks") fd := T.says.d.def_ 48 (d := d_read_picks) rfl
theorem Tx.f_read_months (T : Tx K mg) : ∃ fd, FunD K "read_months" "read_months" (defArgs s_read_months) (defBody s_read_months) (defScope s_read_months) [] [] (He.ga K "read_months") fd := T.says.d.def_ 49 (d := d_read_months) rfl
theorem Tx.f_read_first_day (T : Tx K mg) : ∃ fd, FunD K "read_first_day" "read_first_day" (defArgs s_read_first_day) (defBody s_read_first_day) (defScope s_read_first_day) [] [] (He.ga K "read_first_day") fd := T.says.d.def_ 50 (d := d_read_first_day) rfl
theorem Tx.f_read_until (T : Tx K mg) : ∃ fd, FunD K "read_until" "read_until" (defArgs s_read_until) (defBody s_read_until) (defScope s_read_until) [] [] (He.ga K "read_until") fd := T.says.d.def_ 51 (d := d_read_until) rfl
theorem Tx.f_read_times (T : Tx K mg) : ∃ fd, FunD K "read_times" "read_times" (defArgs s_read_times) (defBody s_read_times) (defScope s_read_times) [] [] (He.ga K "read_times") fd := T.says.d.def_ 52 (d := d_read_times) rfl
theorem Tx.f_read_dates (T : Tx K mg) : ∃ fd, FunD K "read_dates" "read_dates" (defArgs s_read_dates) (defBody s_read_dates) (defScope s_read_dates) [] [] (He.ga K "read_dates") fd := T.says.d.def_ 53 (d := d_read_dates) rfl
theorem Tx.f_read_rule (T : Tx K mg) : ∃ fd, FunD K "read_rule" "read_rule" (defArgs s_read_rule) (defBody s_read_rule) (defScope s_read_rule) [] [] (He.ga K "read_rule") fd := T.says.d.def_ 54 (d := d_read_rule) rfl
theorem Tx.f_two_figures (T : Tx K mg) : ∃ fd, FunD K "two_figures" "two_figures" (defArgs s_two_figures) (defBody s_two_figures) (defScope s_two_figures) [] [] (He.ga K "two_figures") fd := T.says.d.def_ 55 (d := d_two_figures) rfl
theorem Tx.f_date_text (T : Tx K mg) : ∃ fd, FunD K "date_text" "date_text" (defArgs s_date_text) (defBody s_date_text) (defScope s_date_text) [] [] (He.ga K "date_text") fd := T.says.d.def_ 56 (d := d_date_text) rfl
theorem Tx.f_pick_text (T : Tx K mg) : ∃ fd, FunD K "pick_text" "pick_text" (defArgs s_pick_text) (defBody s_pick_text) (defScope s_pick_text) [] [] (He.ga K "pick_text") fd := T.says.d.def_ 57 (d := d_pick_text) rfl
theorem Tx.f_part (T : Tx K mg) : ∃ fd, FunD K "part" "part" (defArgs s_part) (defBody s_part) (defScope s_part) [] [] (He.ga K "part") fd := T.says.d.def_ 58 (d := d_part) rfl
theorem Tx.f_step_part (T : Tx K mg) : ∃ fd, FunD K "step_part" "step_part" (defArgs s_step_part) (defBody s_step_part) (defScope s_step_part) [] [] (He.ga K "step_part") fd := T.says.d.def_ 59 (d := d_step_part) rfl
theorem Tx.f_end_part (T : Tx K mg) : ∃ fd, FunD K "end_part" "end_part" (defArgs s_end_part) (defBody s_end_part) (defScope s_end_part) [] [] (He.ga K "end_part") fd := T.says.d.def_ 60 (d := d_end_part) rfl
theorem Tx.f_rule_text (T : Tx K mg) : ∃ fd, FunD K "rule_text" "rule_text" (defArgs s_rule_text) (defBody s_rule_text) (defScope s_rule_text) [] [] (He.ga K "rule_text") fd := T.says.d.def_ 61 (d := d_rule_text) rfl
theorem Tx.f_Keeper___init__ (T : Tx K mg) : ∃ fd, FunD K "__init__" "Keeper.__init__" (defArgs s_Keeper___init__) (defBody s_Keeper___init__) (defScope s_Keeper___init__) [] [] (He.ma K (He.ga K "Keeper") "__init__") fd := T.says.d.def_ 62 (d := d_Keeper___init__) rfl
theorem Tx.f_Keeper_has_kept (T : Tx K mg) : ∃ fd, FunD K "has_kept" "Keeper.has_kept" (defArgs s_Keeper_has_kept) (defBody s_Keeper_has_kept) (defScope s_Keeper_has_kept) [] [] (He.ma K (He.ga K "Keeper") "has_kept") fd := T.says.d.def_ 63 (d := d_Keeper_has_kept) rfl
theorem Tx.f_Keeper_is_full (T : Tx K mg) : ∃ fd, FunD K "is_full" "Keeper.is_full" (defArgs s_Keeper_is_full) (defBody s_Keeper_is_full) (defScope s_Keeper_is_full) [] [] (He.ma K (He.ga K "Keeper") "is_full") fd := T.says.d.def_ 64 (d := d_Keeper_is_full) rfl
theorem Tx.f_Keeper_store (T : Tx K mg) : ∃ fd, FunD K "store" "Keeper.store" (defArgs s_Keeper_store) (defBody s_Keeper_store) (defScope s_Keeper_store) [] [] (He.ma K (He.ga K "Keeper") "store") fd := T.says.d.def_ 65 (d := d_Keeper_store) rfl
theorem Tx.f_Keeper_answer_rule (T : Tx K mg) : ∃ fd, FunD K "answer_rule" "Keeper.answer_rule" (defArgs s_Keeper_answer_rule) (defBody s_Keeper_answer_rule) (defScope s_Keeper_answer_rule) [] [] (He.ma K (He.ga K "Keeper") "answer_rule") fd := T.says.d.def_ 66 (d := d_Keeper_answer_rule) rfl
theorem Tx.f_Keeper_answer_text (T : Tx K mg) : ∃ fd, FunD K "answer_text" "Keeper.answer_text" (defArgs s_Keeper_answer_text) (defBody s_Keeper_answer_text) (defScope s_Keeper_answer_text) [] [] (He.ma K (He.ga K "Keeper") "answer_text") fd := T.says.d.def_ 67 (d := d_Keeper_answer_text) rfl
theorem Tx.f_Keeper_row_of (T : Tx K mg) : ∃ fd, FunD K "row_of" "Keeper.row_of" (defArgs s_Keeper_row_of) (defBody s_Keeper_row_of) (defScope s_Keeper_row_of) [] [] (He.ma K (He.ga K "Keeper") "row_of") fd := T.says.d.def_ 68 (d := d_Keeper_row_of) rfl
theorem Tx.f_Keeper_answer_new (T : Tx K mg) : ∃ fd, FunD K "answer_new" "Keeper.answer_new" (defArgs s_Keeper_answer_new) (defBody s_Keeper_answer_new) (defScope s_Keeper_answer_new) [] [] (He.ma K (He.ga K "Keeper") "answer_new") fd := T.says.d.def_ 69 (d := d_Keeper_answer_new) rfl
theorem Tx.f_Keeper_answer_both (T : Tx K mg) : ∃ fd, FunD K "answer_both" "Keeper.answer_both" (defArgs s_Keeper_answer_both) (defBody s_Keeper_answer_both) (defScope s_Keeper_answer_both) [] [] (He.ma K (He.ga K "Keeper") "answer_both") fd := T.says.d.def_ 70 (d := d_Keeper_answer_both) rfl
theorem Tx.f_Keeper_answer_either (T : Tx K mg) : ∃ fd, FunD K "answer_either" "Keeper.answer_either" (defArgs s_Keeper_answer_either) (defBody s_Keeper_answer_either) (defScope s_Keeper_answer_either) [] [] (He.ma K (He.ga K "Keeper") "answer_either") fd := T.says.d.def_ 71 (d := d_Keeper_answer_either) rfl
theorem Tx.f_Keeper_answer_less (T : Tx K mg) : ∃ fd, FunD K "answer_less" "Keeper.answer_less" (defArgs s_Keeper_answer_less) (defBody s_Keeper_answer_less) (defScope s_Keeper_answer_less) [] [] (He.ma K (He.ga K "Keeper") "answer_less") fd := T.says.d.def_ 72 (d := d_Keeper_answer_less) rfl
theorem Tx.f_answer_date (T : Tx K mg) : ∃ fd, FunD K "answer_date" "answer_date" (defArgs s_answer_date) (defBody s_answer_date) (defScope s_answer_date) [] [] (He.ga K "answer_date") fd := T.says.d.def_ 73 (d := d_answer_date) rfl
theorem Tx.f_answer_day (T : Tx K mg) : ∃ fd, FunD K "answer_day" "answer_day" (defArgs s_answer_day) (defBody s_answer_day) (defScope s_answer_day) [] [] (He.ga K "answer_day") fd := T.says.d.def_ 74 (d := d_answer_day) rfl
theorem Tx.f_call_size (T : Tx K mg) : ∃ fd, FunD K "call_size" "call_size" (defArgs s_call_size) (defBody s_call_size) (defScope s_call_size) [] [] (He.ga K "call_size") fd := T.says.d.def_ 75 (d := d_call_size) rfl
theorem Tx.f_answer_row (T : Tx K mg) : ∃ fd, FunD K "answer_row" "answer_row" (defArgs s_answer_row) (defBody s_answer_row) (defScope s_answer_row) [] [] (He.ga K "answer_row") fd := T.says.d.def_ 76 (d := d_answer_row) rfl
theorem Tx.f_answer_pair (T : Tx K mg) : ∃ fd, FunD K "answer_pair" "answer_pair" (defArgs s_answer_pair) (defBody s_answer_pair) (defScope s_answer_pair) [] [] (He.ga K "answer_pair") fd := T.says.d.def_ 77 (d := d_answer_pair) rfl
theorem Tx.f_answer_kept (T : Tx K mg) : ∃ fd, FunD K "answer_kept" "answer_kept" (defArgs s_answer_kept) (defBody s_answer_kept) (defScope s_answer_kept) [] [] (He.ga K "answer_kept") fd := T.says.d.def_ 78 (d := d_answer_kept) rfl
theorem Tx.f_answer_call (T : Tx K mg) : ∃ fd, FunD K "answer_call" "answer_call" (defArgs s_answer_call) (defBody s_answer_call) (defScope s_answer_call) [] [] (He.ga K "answer_call") fd := T.says.d.def_ 79 (d := d_answer_call) rfl
theorem Tx.f_answers (T : Tx K mg) : ∃ fd, FunD K "answers" "answers" (defArgs s_answers) (defBody s_answers) (defScope s_answers) [] [] (He.ga K "answers") fd := T.says.d.def_ 80 (d := d_answers) rfl
end
end CA
end file_CaText0
section file_CaHead
set_option maxRecDepth 100000
set_option maxHeartbeats 0
/-! The head: what the top leaves, in two runs. -/
namespace CA
open PySem PySem.Spec PyProof.Rows L2
/-- the addresses that the facts look at (what hangs on the module's names, five steps deep, read off a run of the top) -/
def AS : List Addr := [3, 6, 4, 15, 22, 29, 36, 43, 50, 57, 64, 71, 78, 85, 92, 99, 106, 113, 118, 125, 132, 137, 142, 149, 156, 163, 164, 165, 166, 176, 196, 205, 212, 219, 224, 231, 238, 245, 250, 255, 262, 307, 318, 323, 330, 337, 344, 351, 358, 365, 372, 377, 382, 387, 394, 401, 408, 413, 420, 427, 434, 441, 448, 455, 462, 467, 552, 563, 570, 571, 578, 585, 592, 599, 606, 613, 0, 21, 28, 35, 42, 49, 56, 63, 70, 77, 84, 91, 98, 105, 112, 117, 124, 131, 136, 141, 148, 155, 162, 175, 195, 204, 211, 218, 223, 230, 237, 244, 249, 254, 261, 306, 317, 322, 329, 336, 343, 350, 357, 364, 371, 376, 381, 386, 393, 400, 407, 412, 419, 426, 433, 440, 447, 454, 461, 466, 551, 562, 569, 577, 584, 591, 598, 605, 612, 16, 17, 18, 19, 20, 23, 24, 25, 26, 27, 30, 31, 32, 33, 34, 37, 38, 39, 40, 41, 44, 45, 46, 47, 48, 51, 52, 53, 54, 55, 58, 59, 60, 61, 62, 65, 66, 67, 68, 69, 72, 73, 74, 75, 76, 79, 80, 81, 82, 83, 86, 87, 88, 89, 90, 93, 94, 95, 96, 97, 100, 101, 102, 103, 104, 107, 108, 109, 110, 111, 114, 115, 116, 119, 120, 121, 122, 123, 126, 127, 128, 129, 130, 133, 134, 135, 138, 139, 140, 143, 144, 145, 146, 147, 150, 151, 152, 153, 154, 157, 158, 159, 160, 161, 174, 177, 193, 194, 197, 198, 201, 202, 203, 206, 207, 208, 209, 210, 213, 214, 215, 216, 217, 220, 221, 222, 225, 226, 227, 228, 229, 232, 233, 234, 235, 236, 239, 240, 241, 242, 243, 246, 247, 248, 251, 252, 253, 256, 257, 258, 259, 260, 276, 283, 290, 297, 304, 305, 308, 309, 312, 313, 314, 315, 316, 319, 320, 321, 324, 325, 326, 327, 328, 331, 332, 333, 334, 335, 338, 339, 340, 341, 342, 345, 346, 347, 348, 349, 352, 353, 354, 355, 356, 359, 360, 361, 362, 363, 366, 367, 368, 369, 370, 373, 374, 375, 378, 379, 380, 383, 384, 385, 388, 389, 390, 391, 392, 395, 396, 397, 398, 399, 402, 403, 404, 405, 406, 409, 410, 411, 414, 415, 416, 417, 418, 421, 422, 423, 424, 425, 428, 429, 430, 431, 432, 435, 436, 437, 438, 439, 442, 443, 444, 445, 446, 449, 450, 451, 452, 453, 456, 457, 458, 459, 460, 463, 464, 465, 481, 488, 495, 502, 509, 514, 521, 528, 535, 542, 549, 550, 553, 554, 557, 558, 559, 560, 561, 564, 565, 566, 567, 568, 572, 573, 574, 575, 576, 579, 580, 581, 582, 583, 586, 587, 588, 589, 590, 593, 594, 595, 596, 597, 600, 601, 602, 603, 604, 607, 608, 609, 610, 611, 192, 275, 282, 289, 296, 303, 480, 487, 494, 501, 508, 513, 520, 527, 534, 541, 548, 187, 188, 189, 190, 191, 270, 271, 272, 273, 274, 277, 278, 279, 280, 281, 284, 285, 286, 287, 288, 291, 292, 293, 294, 295, 298, 299, 300, 301, 302, 475, 476, 477, 478, 479, 482, 483, 484, 485, 486, 489, 490, 491, 492, 493, 496, 497, 498, 499, 500, 503, 504, 505, 506, 507, 510, 511, 512, 515, 516, 517, 518, 519, 522, 523, 524, 525, 526, 529, 530, 531, 532, 533, 536, 537, 538, 539, 540, 543, 544, 545, 546, 547]
def obsG (g : Addr → Option Obj) : Bool × List He.FnW := obs (He.frG g AS)
def hk : PySem.W.Hook where
  α := Bool × List He.FnW
  obs := fun s => obsG s.heap.get?
  val := fun _ => val
  says := fun _ h => ∃ K : PySem.W.Frag, K.In h ∧ Says K
  of := fun _ _ e => ⟨_, He.frG_in, e⟩
  keeps := fun _ _ _ ⟨K, hK, c⟩ k => ⟨K, PySem.W.Frag.In.keeps hK k, c⟩
def ob (s : PySem.W.SharedT) : hk.α := obsG (HandSHeadRun.getT s)
theorem ob_eq (s : PySem.W.SharedT) : ob s = hk.obs s.abs := congrArg obsG (funext fun a => HandSHeadRun.getT_eq s a)
abbrev RW : PySem.W.OpenSpec := PySem.Challenge.rw_comeagain_s01_answers

def nm0 : List PySem.Str := ["month_length", "year_start", "month_start", "is_date", "day_number", "year_of", "month_of", "date_of", "weekday_of", "week_index", "week_start", "week_of", "first_from", "last_up_to", "between", "nth_of"]
def nm1 : List PySem.Str := ["table_of", "both_of", "less_of", "either_of", "first_common", "first_different", "daily_days", "weekly_days", "pick_of_month", "month_days", "picks_of", "monthly_days", "yearly_days", "repeated_days", "ended_days", "days_of"]
def nm2 : List PySem.Str := ["sign_of", "words_of", "ascending", "read_number", "weekday_named", "read_weekday", "read_pick", "read_date", "read_step", "read_weekdays", "read_picks", "read_months", "read_first_day", "read_until", "read_times", "read_dates"]
def nm3 : List PySem.Str := ["read_rule", "two_figures", "date_text", "pick_text", "part", "step_part", "end_part", "rule_text", "answer_date", "answer_day", "call_size", "answer_row", "answer_pair", "answer_kept", "answer_call", "NoRule"]
def nm4 : List PySem.Str := ["Rule", "Words", "Keeper", "FIRST_YEAR", "LAST_YEAR", "LAST_DAY", "NO_DAY", "DAY_rule", "DAY_FROM_END", "WEEKDAY", "WEEKDAY_FROM_END", "MOST_BYTES", "MOST_KEPT", "NOT_GOOD", "NOT_KEPT", "NOT_A_RULE"]
def nm5 : List PySem.Str := ["FULL", "RULE", "TEXT", "HAS", "NEXT_DAY", "LAST", "COUNT", "NTH", "CLASH", "DIFFER", "BOTH", "EITHER", "DATE", "DAY_days", "MOST_LISTED", "SIGNS"]
def nm6 : List PySem.Str := ["MONTH_LENGTHS", "KINDS", "WEEKDAY_KINDS", "WEEKDAYS", "SIZES"]
def loose : List PySem.Str := nm0 ++ nm1 ++ nm2 ++ nm3 ++ nm4 ++ nm5 ++ nm6
theorem run_b (w : World) (os : OsState) : (HandSHeadRun.endF (HandSHeadRun.stepQ (HandSHeadRun.denQ HandSHeadRun.tabQ) RW.prog w) 20000 RW.prog w os).map ob = some val := by
  kernel_rfl
end CA
end file_CaHead
section file_CaHead2
set_option maxRecDepth 100000
set_option maxHeartbeats 0
namespace CA
open PySem PySem.Spec PyProof.Rows L2
theorem run_a (w : World) (os : OsState) : (HandSHeadRun.endF (HandSHeadRun.stepQ (HandSHeadRun.denQ HandSHeadRun.tabQ) RW.prog w) 20000 RW.prog w os).map (fun s => (HandSHeadRun.looksF RW.prog (PySem.W.boot_heap w.params) s.abs, HandSHeadRun.seenQ (PySem.W.view RW.prog [109]) loose (PySem.importedModules RW.prog.main.body) (fun s => PySem.W.xlAt (PySem.W.view RW.prog [109]) [] s && PySem.W.recOk [] s) s.abs)) = some (true, PySem.W.openGood (PySem.W.view RW.prog [109]) loose) := by
  kernel_rfl
theorem run (w : World) : HandSHeadRun.RunEqS RW (PySem.W.view RW.prog [109]) hk ob 20000 loose w := by
  intro os
  have a := run_a w os
  have b := run_b w os
  cases e : HandSHeadRun.endF (HandSHeadRun.stepQ (HandSHeadRun.denQ HandSHeadRun.tabQ) RW.prog w) 20000 RW.prog w os with
  | none => rw [e] at b; cases b
  | some s =>
    rw [e] at a b
    have a2 := Option.some.inj a
    have b2 := Option.some.inj b
    have a3 := congrArg Prod.fst a2
    have a4 := congrArg Prod.snd a2
    show some (_, _, _) = some (_, _, _)
    exact congrArg some (congr (congrArg Prod.mk a3) (congr (congrArg Prod.mk a4) b2))
end CA
end file_CaHead2
section file_CaDates
set_option maxRecDepth 100000
/-! Days and dates: what the program's loops give against Cl01's functions. Plain Lean. -/
namespace CA
open Cl01
/-- the day on which the year 2000 + y begins -/
def ys (y : Nat) : Nat := 365 * y + (y + 3) / 4
theorem ys_le (n k : Nat) : ys k ≤ n ↔ k ≤ yearOf n := by
  unfold ys yearOf
  split <;> omega
theorem ys_yearOf (n : Nat) : ys (yearOf n) ≤ n := (ys_le n _).mpr (Nat.le_refl _)
theorem lt_ys (n : Nat) : n < ys (yearOf n + 1) := by
  have h := ys_le n (yearOf n + 1)
  omega
theorem yearOf_lt {n : Nat} (h : n < 36525) : yearOf n < 100 := by
  have e := ys_le n 100
  have e2 : ys 100 = 36525 := by decide
  omega
theorem ys_succ (y : Nat) : ys (y + 1) = ys y + (if leap y = true then 366 else 365) := by
  unfold ys leap
  by_cases h : y % 4 = 0
  · simp [h]; omega
  · simp [h]; omega
theorem monthStart_one (y : Nat) : monthStart y 1 = ys y := rfl
theorem foldl_sum (l : List Nat) : ∀ a : Nat, l.foldl (fun a b => a + b) a = a + l.foldl (fun a b => a + b) 0 := by
  induction l with
  | nil => intro a; rfl
  | cons x l ih =>
    intro a
    rw [List.foldl_cons, List.foldl_cons, ih (a + x), ih (0 + x)]
    omega
theorem monthStart_succ (y m : Nat) (h : 1 ≤ m) : monthStart y (m + 1) = monthStart y m + monthDays y m := by
  obtain ⟨k, rfl⟩ : ∃ k, m = k + 1 := ⟨m - 1, by omega⟩
  unfold monthStart
  simp only [Nat.add_sub_cancel]
  rw [List.range_succ, List.map_append, List.foldl_append]
  simp only [List.map_cons, List.map_nil, List.foldl_cons, List.foldl_nil]
  omega
theorem monthDays_pos (y m : Nat) : 28 ≤ monthDays y m := by
  unfold monthDays
  split <;> (try split) <;> decide
theorem monthDays_le (y m : Nat) : monthDays y m ≤ 31 := by
  unfold monthDays
  split <;> (try split) <;> decide
theorem monthStart_mono (y : Nat) : ∀ (d m : Nat), 1 ≤ m → monthStart y m + 28 * d ≤ monthStart y (m + d)
  | 0, m, _ => Nat.le_refl _
  | d + 1, m, h => by
    have a := monthStart_mono y d m h
    have b := monthStart_succ y (m + d) (by omega)
    have c := monthDays_pos y (m + d)
    rw [← Nat.add_assoc, b]
    omega
theorem monthStart_le {y m m' : Nat} (h1 : 1 ≤ m) (h : m ≤ m') : monthStart y m ≤ monthStart y m' := by
  obtain ⟨d, rfl⟩ : ∃ d, m' = m + d := ⟨m' - m, by omega⟩
  have := monthStart_mono y d m h1
  omega
theorem monthStart_lt {y m m' : Nat} (h1 : 1 ≤ m) (h : m < m') : monthStart y m < monthStart y m' := by
  obtain ⟨d, rfl⟩ : ∃ d, m' = m + (d + 1) := ⟨m' - m - 1, by omega⟩
  have := monthStart_mono y (d + 1) m h1
  omega
theorem monthStart_13 (y : Nat) : monthStart y 13 = ys (y + 1) := by
  rw [ys_succ]
  rw [monthStart_succ y 12 (by decide), monthStart_succ y 11 (by decide), monthStart_succ y 10 (by decide), monthStart_succ y 9 (by decide), monthStart_succ y 8 (by decide), monthStart_succ y 7 (by decide), monthStart_succ y 6 (by decide),
    monthStart_succ y 5 (by decide), monthStart_succ y 4 (by decide), monthStart_succ y 3 (by decide), monthStart_succ y 2 (by decide), monthStart_succ y 1 (by decide), monthStart_one]
  unfold monthDays
  by_cases h : leap y = true
  · simp only [if_pos h]
  · simp only [if_neg h]
/-- a filter of a range by what falls from a place on -/
theorem filter_range_len (p : Nat → Bool) (hp : ∀ i j, i ≤ j → p j = true → p i = true) : ∀ n, ((List.range n).filter p).length ≤ n ∧ ∀ k, k < n → (p k = true ↔ k < ((List.range n).filter p).length)
  | 0 => ⟨Nat.le_refl _, fun k h => by omega⟩
  | n + 1 => by
    obtain ⟨h1, h2⟩ := filter_range_len p hp n
    rw [List.range_succ, List.filter_append, List.length_append]
    cases e : p n with
    | true =>
      have full : ((List.range n).filter p).length = n := by
        cases n with
        | zero => rfl
        | succ m =>
          have := (h2 m (by omega)).mp (hp m (m + 1) (by omega) e)
          omega
      have e1 : ([n].filter p).length = 1 := by simp [e]
      rw [e1, full]
      refine ⟨Nat.le_refl _, fun k hk => ⟨fun _ => hk, fun _ => hp k n (by omega) e⟩⟩
    | false =>
      have e1 : ([n].filter p).length = 0 := by simp [e]
      rw [e1]
      refine ⟨by omega, fun k hk => ?_⟩
      by_cases hkn : k = n
      · subst hkn
        rw [e]
        constructor
        · intro z; cases z
        · intro z; omega
      · exact h2 k (by omega)
theorem monthOf_iff (n k : Nat) (hk : k < 12) : monthStart (yearOf n) (k + 1) ≤ n ↔ k < monthOf n := by
  have h := (filter_range_len (fun k => decide (monthStart (yearOf n) (k + 1) ≤ n)) (fun i j hij hj => by
    have hj := of_decide_eq_true hj
    have := monthStart_le (y := yearOf n) (m := i + 1) (m' := j + 1) (by omega) (by omega)
    exact decide_eq_true (by omega)) 12).2 k hk
  unfold monthOf
  rw [← h]
  exact decide_eq_true_iff.symm
theorem monthOf_le (n : Nat) : monthOf n ≤ 12 := by
  unfold monthOf
  exact Nat.le_trans (List.length_filter_le _ _) (by simp)
theorem monthOf_pos (n : Nat) : 1 ≤ monthOf n := (monthOf_iff n 0 (by decide)).mp (by rw [monthStart_one]; exact ys_yearOf n)
/-- the month's start against a day of that year -/
theorem month_le (n m : Nat) (h1 : 1 ≤ m) (h2 : m ≤ 12) : monthStart (yearOf n) m ≤ n ↔ m ≤ monthOf n := by
  have := monthOf_iff n (m - 1) (by omega)
  rw [show m - 1 + 1 = m by omega] at this
  rw [this]
  omega
theorem start_le (n : Nat) : monthStart (yearOf n) (monthOf n) ≤ n := (month_le n _ (monthOf_pos n) (monthOf_le n)).mpr (Nat.le_refl _)
theorem lt_next (n : Nat) : n < monthStart (yearOf n) (monthOf n + 1) := by
  have h1 := monthOf_pos n
  have h2 := monthOf_le n
  by_cases h : monthOf n = 12
  · rw [h, monthStart_13]
    exact lt_ys n
  · have := month_le n (monthOf n + 1) (by omega) (by omega)
    omega
theorem domOf_pos (n : Nat) : 1 ≤ domOf n := by unfold domOf; omega
theorem domOf_le (n : Nat) : domOf n ≤ monthDays (yearOf n) (monthOf n) := by
  have h1 := lt_next n
  rw [monthStart_succ _ _ (monthOf_pos n)] at h1
  have h2 := start_le n
  unfold domOf
  omega
theorem domOf_le31 (n : Nat) : domOf n ≤ 31 := Nat.le_trans (domOf_le n) (monthDays_le _ _)
theorem dayOf_date (n : Nat) : dayOf (yearOf n) (monthOf n) (domOf n) = n := by
  have := start_le n
  unfold dayOf domOf
  omega
theorem dayOf_lt {y m d : Nat} (h : isDate y m d = true) : dayOf y m d < 36525 := by
  unfold isDate at h
  simp only [Bool.and_eq_true, decide_eq_true_eq] at h
  obtain ⟨h1, h2, h3, h4, h5⟩ := h
  have e := monthStart_succ y m h2
  have l := monthStart_le (y := y) (m := m + 1) (m' := 13) (by omega) (by omega)
  rw [monthStart_13] at l
  have e2 : ys (y + 1) ≤ 36525 := by unfold ys; omega
  unfold dayOf
  omega
/-- the date of a day is unique -/
theorem yearOf_dayOf {y m d : Nat} (h : isDate y m d = true) : yearOf (dayOf y m d) = y := by
  unfold isDate at h
  simp only [Bool.and_eq_true, decide_eq_true_eq] at h
  obtain ⟨h1, h2, h3, h4, h5⟩ := h
  have e := monthStart_succ y m h2
  have l := monthStart_le (y := y) (m := m + 1) (m' := 13) (by omega) (by omega)
  have l0 := monthStart_le (y := y) (m := 1) (m' := m) (by omega) (by omega)
  rw [monthStart_one] at l0
  rw [monthStart_13] at l
  have a := ys_le (dayOf y m d) y
  have b := ys_le (dayOf y m d) (y + 1)
  unfold dayOf at a b ⊢
  omega
/-! ### weeks -/
theorem weekOf_lt {n : Nat} (h : n < 36525) : weekOf n = if n < 2 then (-1, 52) else (((yearOf (7 * week n + 3 - 5) : Nat) : Int), (7 * week n + 3 - 5 - ys (yearOf (7 * week n + 3 - 5))) / 7 + 1) := by
  unfold weekOf week DAYS
  by_cases h2 : n < 2
  · have : 7 * ((n + 5) / 7) + 3 < 5 := by omega
    simp only [this, if_true, h2]
  · have a : ¬ 7 * ((n + 5) / 7) + 3 < 5 := by omega
    have b : ¬ 36525 ≤ 7 * ((n + 5) / 7) + 3 - 5 := by omega
    simp only [a, b, if_false, h2, monthStart_one]
/-! ### the loops -/
/-- the year's loop behind i turns -/
theorem year_turn (n i : Nat) : (if ys (i + 1) ≤ n then i + 1 else min i (yearOf n)) = min (i + 1) (yearOf n) := by
  have := ys_le n (i + 1)
  split <;> omega
theorem month_turn (n i : Nat) (hi : i + 2 ≤ 12) : (if monthStart (yearOf n) (i + 2) ≤ n then i + 2 else min (i + 1) (monthOf n)) = min (i + 2) (monthOf n) := by
  have := month_le n (i + 2) (by omega) hi
  split <;> omega
theorem ml_at (y m : Nat) (h1 : 1 ≤ m) (h2 : m ≤ 12) (h : ¬ (m = 2 ∧ y % 4 = 0)) : [31, 28, 31, 30, 31, 30, 31, 31, 30, 31, 30, 31][m - 1]? = some (monthDays y m) := by
  have hm : m = 1 ∨ m = 2 ∨ m = 3 ∨ m = 4 ∨ m = 5 ∨ m = 6 ∨ m = 7 ∨ m = 8 ∨ m = 9 ∨ m = 10 ∨ m = 11 ∨ m = 12 := by omega
  rcases hm with rfl | rfl | rfl | rfl | rfl | rfl | rfl | rfl | rfl | rfl | rfl | rfl
  case inr.inl =>
    have : ¬ y % 4 = 0 := fun z => h ⟨rfl, z⟩
    simp [monthDays, leap, this]
  all_goals rfl
theorem ml_feb (y : Nat) (h : y % 4 = 0) : monthDays y 2 = 29 := by simp [monthDays, leap, h]
end CA
end file_CaDates
section file_CaRows
set_option maxRecDepth 100000
/-! Rows of days: strictly rising lists; insert, sorted, meet, join, minus against filter and sorted. Plain Lean. -/
namespace CA
open Cl01
/-- strictly rising -/
abbrev Up (l : List Nat) : Prop := l.Pairwise (· < ·)
theorem Up.nodup {l : List Nat} (h : Up l) : l.Nodup := h.imp fun h => Nat.ne_of_lt h
theorem Up.filter {l : List Nat} (h : Up l) (p : Nat → Bool) : Up (l.filter p) := List.Pairwise.filter p h
/-- two rising lists with the same items are one -/
theorem up_ext : ∀ {l m : List Nat}, Up l → Up m → (∀ x, x ∈ l ↔ x ∈ m) → l = m
  | [], [], _, _, _ => rfl
  | [], b :: m, _, _, h => absurd ((h b).mpr List.mem_cons_self) (by simp)
  | a :: l, [], _, _, h => absurd ((h a).mp List.mem_cons_self) (by simp)
  | a :: l, b :: m, hl, hm, h => by
    obtain ⟨h1, h2⟩ := List.pairwise_cons.mp hl
    obtain ⟨h3, h4⟩ := List.pairwise_cons.mp hm
    have e : a = b := by
      rcases List.mem_cons.mp ((h a).mp List.mem_cons_self) with e | e
      · exact e
      · rcases List.mem_cons.mp ((h b).mpr List.mem_cons_self) with e2 | e2
        · exact e2.symm
        · have := h3 a e
          have := h1 b e2
          omega
    subst e
    refine congrArg _ (up_ext h2 h4 fun x => ⟨fun hx => ?_, fun hx => ?_⟩)
    · rcases List.mem_cons.mp ((h x).mp (List.mem_cons_of_mem _ hx)) with e | e
      · have := h1 x hx; omega
      · exact e
    · rcases List.mem_cons.mp ((h x).mpr (List.mem_cons_of_mem _ hx)) with e | e
      · have := h3 x hx; omega
      · exact e
/-- a list of rising numbers below n has at most n -/
theorem up_length : ∀ {l : List Nat} {n : Nat}, Up l → (∀ x ∈ l, x < n) → l.length ≤ n := by
  intro l n h hb
  have : ∀ (l : List Nat) (a : Nat), Up l → (∀ x ∈ l, a ≤ x ∧ x < n) → l.length ≤ n - a := by
    intro l
    induction l with
    | nil => intro a _ _; exact Nat.zero_le _
    | cons b l ih =>
      intro a h hb
      obtain ⟨h1, h2⟩ := List.pairwise_cons.mp h
      have := ih (b + 1) h2 fun x hx => ⟨h1 x hx, (hb x (List.mem_cons_of_mem _ hx)).2⟩
      have := hb b List.mem_cons_self
      rw [List.length_cons]
      omega
  exact Nat.le_trans (this l 0 h fun x hx => ⟨Nat.zero_le _, hb x hx⟩) (Nat.le_of_eq (Nat.sub_zero _))
/-! ### insert, sorted -/
abbrev ltB : Nat → Nat → Bool := fun x y => decide (x < y)
theorem mem_insert (a x : Nat) : ∀ l : List Nat, x ∈ Cl01.insert ltB a l ↔ x = a ∨ x ∈ l
  | [] => by simp [Cl01.insert]
  | b :: l => by
    unfold Cl01.insert
    have ih := mem_insert a x l
    split
    · rename_i e
      subst e
      simp
    · split
      · simp
      · rw [List.mem_cons, ih, List.mem_cons]
        constructor
        · rintro (h | h | h)
          · exact .inr (.inl h)
          · exact .inl h
          · exact .inr (.inr h)
        · rintro (h | h | h)
          · exact .inr (.inl h)
          · exact .inl h
          · exact .inr (.inr h)
theorem up_insert (a : Nat) : ∀ {l : List Nat}, Up l → Up (Cl01.insert ltB a l)
  | [], _ => by simp [Cl01.insert]
  | b :: l, h => by
    obtain ⟨h1, h2⟩ := List.pairwise_cons.mp h
    unfold Cl01.insert
    split
    · exact h
    · split
      · rename_i e1 e2
        have e2 : a < b := of_decide_eq_true e2
        refine List.pairwise_cons.mpr ⟨fun x hx => ?_, h⟩
        rcases List.mem_cons.mp hx with e | e
        · omega
        · have := h1 x e; omega
      · rename_i e1 e2
        have e2 : ¬ a < b := fun z => e2 (decide_eq_true z)
        refine List.pairwise_cons.mpr ⟨fun x hx => ?_, up_insert a h2⟩
        rcases (mem_insert a x l).mp hx with e | e
        · omega
        · exact h1 x e
theorem foldl_insert : ∀ (xs m : List Nat), Up m → Up (xs.foldl (fun m a => Cl01.insert ltB a m) m) ∧ ∀ x, x ∈ xs.foldl (fun m a => Cl01.insert ltB a m) m ↔ x ∈ xs ∨ x ∈ m
  | [], m, h => ⟨h, fun x => by simp⟩
  | a :: xs, m, h => by
    obtain ⟨h1, h2⟩ := foldl_insert xs (Cl01.insert ltB a m) (up_insert a h)
    refine ⟨h1, fun x => ?_⟩
    rw [List.foldl_cons, h2 x, mem_insert, List.mem_cons]
    constructor
    · rintro (h | h | h)
      · exact .inl (.inr h)
      · exact .inl (.inl h)
      · exact .inr h
    · rintro ((h | h) | h)
      · exact .inr (.inl h)
      · exact .inl h
      · exact .inr (.inr h)
theorem up_sorted (l : List Nat) : Up (sorted l) := (foldl_insert l [] List.Pairwise.nil).1
theorem mem_sorted (l : List Nat) (x : Nat) : x ∈ sorted l ↔ x ∈ l := by
  have := (foldl_insert l [] List.Pairwise.nil).2 x
  simpa [sorted] using this
/-- what sorted(set(..)) gives is sorted -/
theorem sorted_of {l out : List Nat} (h : Up out) (m : ∀ x, x ∈ out ↔ x ∈ l) : out = sorted l := up_ext h (up_sorted l) fun x => (m x).trans (mem_sorted l x).symm
/-! ### two rows -/
theorem meet_ok : ∀ (f : Nat) (l m : List Nat), l.length + m.length < f → Up l → Up m → meet f l m = l.filter fun x => m.contains x
  | 0, _, _, h, _, _ => by omega
  | f + 1, [], m, _, _, _ => by simp [meet]
  | f + 1, a :: l, [], _, _, _ => by simp [meet]
  | f + 1, a :: l, b :: m, h, hl, hm => by
    obtain ⟨h1, h2⟩ := List.pairwise_cons.mp hl
    obtain ⟨h3, h4⟩ := List.pairwise_cons.mp hm
    unfold meet
    simp only [List.length_cons] at h
    split
    · rename_i e
      subst e
      rw [meet_ok f l m (by omega) h2 h4]
      rw [List.filter_cons_of_pos (by simp)]
      refine congrArg _ (List.filter_congr fun x hx => ?_)
      have := h1 x hx
      have ne : x ≠ a := by omega
      simp [ne]
    · split
      · rename_i e1 e2
        rw [meet_ok f l (b :: m) (by simp only [List.length_cons]; omega) h2 hm]
        rw [List.filter_cons_of_neg]
        simp only [List.contains_cons, Bool.or_eq_true, not_or, beq_iff_eq]
        refine ⟨e1, fun z => ?_⟩
        have := h3 a (by simpa using z)
        omega
      · rename_i e1 e2
        rw [meet_ok f (a :: l) m (by simp only [List.length_cons]; omega) hl h4]
        refine List.filter_congr fun x hx => ?_
        have ne : x ≠ b := by
          rcases List.mem_cons.mp hx with e | e
          · omega
          · have := h1 x e; omega
        simp [ne]
theorem of_meet {l m : List Nat} (hl : Up l) (hm : Up m) : of meet l m = l.filter fun x => m.contains x := meet_ok _ _ _ (by omega) hl hm
theorem minus_ok : ∀ (f : Nat) (l m : List Nat), l.length + m.length < f → Up l → Up m → minus f l m = l.filter fun x => !m.contains x
  | 0, _, _, h, _, _ => by omega
  | f + 1, [], [], _, _, _ => by simp [minus]
  | f + 1, [], b :: m, _, _, _ => by simp [minus]
  | f + 1, a :: l, [], _, _, _ => by
    unfold minus
    exact (List.filter_eq_self.mpr fun x _ => by simp).symm
  | f + 1, a :: l, b :: m, h, hl, hm => by
    obtain ⟨h1, h2⟩ := List.pairwise_cons.mp hl
    obtain ⟨h3, h4⟩ := List.pairwise_cons.mp hm
    unfold minus
    simp only [List.length_cons] at h
    split
    · rename_i e
      subst e
      rw [minus_ok f l m (by omega) h2 h4]
      rw [List.filter_cons_of_neg (by simp)]
      refine List.filter_congr fun x hx => ?_
      have := h1 x hx
      have ne : x ≠ a := by omega
      simp [ne]
    · split
      · rename_i e1 e2
        rw [minus_ok f l (b :: m) (by simp only [List.length_cons]; omega) h2 hm]
        rw [List.filter_cons_of_pos]
        have n1 : (b :: m).contains a = false := by
          rw [Bool.eq_false_iff]
          intro z
          simp only [List.contains_cons, Bool.or_eq_true, beq_iff_eq] at z
          rcases z with z | z
          · exact e1 z
          · have := h3 a (by simpa using z)
            omega
        rw [n1]
        rfl
      · rename_i e1 e2
        rw [minus_ok f (a :: l) m (by simp only [List.length_cons]; omega) hl h4]
        refine List.filter_congr fun x hx => ?_
        have ne : x ≠ b := by
          rcases List.mem_cons.mp hx with e | e
          · omega
          · have := h1 x e; omega
        simp [ne]
theorem of_minus {l m : List Nat} (hl : Up l) (hm : Up m) : of minus l m = l.filter fun x => !m.contains x := minus_ok _ _ _ (by omega) hl hm
theorem join_ok : ∀ (f : Nat) (l m : List Nat), l.length + m.length < f → Up l → Up m → Up (join f l m) ∧ ∀ x, x ∈ join f l m ↔ x ∈ l ∨ x ∈ m
  | 0, _, _, h, _, _ => by omega
  | f + 1, [], m, _, _, hm => by
    have e : join (f + 1) [] m = m := by cases m <;> rfl
    rw [e]
    exact ⟨hm, fun x => by simp⟩
  | f + 1, a :: l, [], _, hl, _ => by
    have e : join (f + 1) (a :: l) [] = a :: l := rfl
    rw [e]
    exact ⟨hl, fun x => by simp⟩
  | f + 1, a :: l, b :: m, h, hl, hm => by
    obtain ⟨h1, h2⟩ := List.pairwise_cons.mp hl
    obtain ⟨h3, h4⟩ := List.pairwise_cons.mp hm
    unfold join
    simp only [List.length_cons] at h
    split
    · rename_i e
      subst e
      obtain ⟨i1, i2⟩ := join_ok f l m (by omega) h2 h4
      refine ⟨List.pairwise_cons.mpr ⟨fun x hx => ?_, i1⟩, fun x => ?_⟩
      · rcases (i2 x).mp hx with e | e
        · exact h1 x e
        · exact h3 x e
      · rw [List.mem_cons, i2 x, List.mem_cons, List.mem_cons]
        constructor
        · rintro (h | h | h)
          · exact .inl (.inl h)
          · exact .inl (.inr h)
          · exact .inr (.inr h)
        · rintro ((h | h) | (h | h))
          · exact .inl h
          · exact .inr (.inl h)
          · exact .inl h
          · exact .inr (.inr h)
    · split
      · rename_i e1 e2
        obtain ⟨i1, i2⟩ := join_ok f l (b :: m) (by simp only [List.length_cons]; omega) h2 hm
        refine ⟨List.pairwise_cons.mpr ⟨fun x hx => ?_, i1⟩, fun x => ?_⟩
        · rcases (i2 x).mp hx with e | e
          · exact h1 x e
          · rcases List.mem_cons.mp e with e | e
            · omega
            · have := h3 x e; omega
        · rw [List.mem_cons, i2 x, List.mem_cons (a := x) (b := a)]
          constructor
          · rintro (h | h | h)
            · exact .inl (.inl h)
            · exact .inl (.inr h)
            · exact .inr h
          · rintro ((h | h) | h)
            · exact .inl h
            · exact .inr (.inl h)
            · exact .inr (.inr h)
      · rename_i e1 e2
        obtain ⟨i1, i2⟩ := join_ok f (a :: l) m (by simp only [List.length_cons]; omega) hl h4
        refine ⟨List.pairwise_cons.mpr ⟨fun x hx => ?_, i1⟩, fun x => ?_⟩
        · rcases (i2 x).mp hx with e | e
          · rcases List.mem_cons.mp e with e | e
            · omega
            · have := h1 x e; omega
          · exact h3 x e
        · rw [List.mem_cons, i2 x, List.mem_cons (a := x) (b := b)]
          constructor
          · rintro (h | h | h)
            · exact .inr (.inl h)
            · exact .inl h
            · exact .inr (.inr h)
          · rintro (h | h | h)
            · exact .inr (.inl h)
            · exact .inl h
            · exact .inr (.inr h)
theorem up_join {l m : List Nat} (hl : Up l) (hm : Up m) : Up (of join l m) := (join_ok _ _ _ (by omega) hl hm).1
theorem mem_join {l m : List Nat} (hl : Up l) (hm : Up m) (x : Nat) : x ∈ of join l m ↔ x ∈ l ∨ x ∈ m := (join_ok _ _ _ (by omega) hl hm).2 x
/-- what sorted(one + less_of(other, one)) gives -/
theorem join_of {l m out : List Nat} (hl : Up l) (hm : Up m) (hp : out.Perm (l ++ m.filter fun x => !l.contains x)) (hs : out.Pairwise (· ≤ ·)) : out = of join l m := by
  have nd : out.Nodup := hp.nodup_iff.mpr (List.nodup_append.mpr ⟨hl.nodup, (hm.filter _).nodup, fun a ha b hb e => by
    subst e
    have z := (List.mem_filter.mp hb).2
    have z2 : l.contains a = true := by simpa using ha
    rw [z2] at z
    cases z⟩)
  have hu : Up out := (hs.and nd).imp fun h => by
    have := h.1
    have := h.2
    omega
  refine up_ext hu (up_join hl hm) fun x => ?_
  rw [hp.mem_iff, List.mem_append, List.mem_filter, mem_join hl hm]
  constructor
  · rintro (h | ⟨h, _⟩)
    · exact .inl h
    · exact .inr h
  · intro h
    by_cases hx : x ∈ l
    · exact .inl hx
    · rcases h with h | h
      · exact .inl h
      · refine .inr ⟨h, ?_⟩
        have : l.contains x = false := by
          rw [Bool.eq_false_iff]
          intro z
          exact hx (by simpa using z)
        rw [this]
        rfl
/-- also's days put in, one by one -/
theorem also_of {l m : List Nat} (hl : Up l) (hm : Up m) : m.foldl (fun x a => Cl01.insert ltB a x) l = of join l m := by
  obtain ⟨h1, h2⟩ := foldl_insert m l hl
  refine up_ext h1 (up_join hl hm) fun x => ?_
  rw [h2 x, mem_join hl hm]
  exact Or.comm
/-! ### asked of one row -/
theorem find_head (l : List Nat) (p : Nat → Bool) : l.find? p = (l.filter p).head? := by
  rw [List.head?_filter]
theorem getLast_filter_append (l : List Nat) (a : Nat) (p : Nat → Bool) : ((l ++ [a]).filter p).getLast? = if p a = true then some a else (l.filter p).getLast? := by
  rw [List.filter_append]
  cases e : p a with
  | true => simp [e]
  | false => simp [e]
end CA
end file_CaRows
section file_CaRules
set_option maxRecDepth 100000
set_option maxHeartbeats 4000000
/-! Words of mine over the hand layer: defs by names, constants of the module, a reading's steps. -/
namespace CA
open PySem PySem.Spec PyProof.Rows L2
/-- a def of the module, by its name -/
structure DefOk (P : Program) (w : World) (K : PySem.W.Frag) (mg : Str → Option Value) (base : Heap) (CX : CXT) (k : Nat) (x : Str) (ps : List Str) (sp : Sp) : Prop where
  ex : ∃ fd, FnOk P w K mg base CX k (He.ga K x) fd ps sp ∧ Binds K fd ps []
  kp : PySem.W.keepIn K (.ref (He.ga K x)) = true
  gl : mg x = some (.ref (He.ga K x))
/-- a method of a class of the module -/
structure MetOk (P : Program) (w : World) (K : PySem.W.Frag) (mg : Str → Option Value) (base : Heap) (CX : CXT) (k : Nat) (c m : Str) (ps : List Str) (sp : Sp) : Prop where
  ex : ∃ fd, FnOk P w K mg base CX k (He.ma K (He.ga K c) m) fd ps sp ∧ Binds K fd ps []
  cl : Cls K (He.ga K c)
  mt : Meth K (He.ga K c) m (He.ma K (He.ga K c) m)
/-- a class of the module that is made -/
structure MakOk (P : Program) (w : World) (K : PySem.W.Frag) (mg : Str → Option Value) (base : Heap) (k : Nat) (c : Str) (ps : List Str) (sp : Sp) : Prop where
  ex : ∃ fd, FnOk P w K mg base CX0 k (He.ma K (He.ga K c) "__init__") fd ps sp ∧ Binds K fd ps []
  mkk : Mk K (He.ga K c) (He.ma K (He.ga K c) "__init__")
  gl : mg c = some (.ref (He.ga K c))
section
variable {X : Cx} {CX : CXT} {k : Nat} {ps : List Str} {sp : Sp} {E : XK} {x c m : Str} {p pos apos : Pos} {e o : Expr} {es : List Expr} {ta : TE} {t : TA}
def tCl (sp : Sp) (E : XK) (t : TA) : TE := fun σ H Q => t σ H fun vs H1 => sp vs H1 Q E
theorem tCl_of : tCall sp [] E t = tCl sp E t := by
  unfold tCall tCl
  simp only [List.append_nil]
theorem pe_fn (D : DefOk X.prog X.w X.K X.mg X.base CX k x ps sp) (hr : Room k X.A) (hg : Gl X x) (hx : Passes CX X E) (ha : PA X (e :: es) t) (hdb : (x == ("__debug__" : Str)) = false := by decide)
    (he : starEach (e :: es) X.env = (false, eval e X.env) :: starEach es X.env := by rfl) (hpl : (backTo pos (starEach es X.env)).any (·.1) = false := by rfl) : PE X (.Call (.Name x p) (e :: es) [] pos) (tCl sp E t) := by
  obtain ⟨⟨fd, F, b⟩, kp, gl⟩ := D
  have z := pe_call (E := E) (p := p) (pos := pos) F hr hg gl kp b .nil hx ha hdb he hpl
  rw [tCl_of] at z
  exact z
def tMe (C : Addr) (m : Str) (sp : Sp) (E : XK) (ta : TE) (t : TA) : TE := fun σ H Q => ta σ H fun x H1 => ∃ a dx fs, x = .ref a ∧ H1 a = some (.ins C dx fs) ∧ fs.lookup m = none ∧ t σ H1 fun vs H2 => sp (x :: vs) H2 Q E
theorem tMe_of {C : Addr} : tMeth C m sp [] E ta t = tMe C m sp E ta t := by
  unfold tMeth tMe
  simp only [List.append_nil]
theorem pe_me {pl : Sem Bool} (M : MetOk X.prog X.w X.K X.mg X.base CX k c m ps sp) (ho : PE X o ta) (hr : Room k X.A) (hx : Passes CX X E) (ha : PA X (e :: es) t)
    (hst : starEach (e :: es) X.env = (false, eval e X.env) :: starEach es X.env := by rfl) (hpl : (backTo pos (starEach es X.env)).any (·.1) = false := by rfl)
    (ht : eval (.Call (.Attribute o m apos) (e :: es) [] pos) X.env = (do
      let ov ← eval o X.env
      standAt apos.atName
      let (f, first) ← holding [ov] (getMethod ov m pl)
      callWith pos f first (backTo pos (starEach (e :: es) X.env)) (backToKw pos (keywordEach [] X.env))) := by rfl) :
    PE X (.Call (.Attribute o m apos) (e :: es) [] pos) (tMe (He.ga X.K c) m sp E ta t) := by
  obtain ⟨⟨fd, F, b⟩, cl, mt⟩ := M
  have z := pe_meth (E := E) (pl := pl) ho cl mt F hr b .nil hx ha hst hpl ht
  rw [tMe_of] at z
  exact z
theorem pe_me0 {pl : Sem Bool} (M : MetOk X.prog X.w X.K X.mg X.base CX k c m ps sp) (ho : PE X o ta) (hr : Room k X.A) (hx : Passes CX X E)
    (ht : eval (.Call (.Attribute o m apos) [] [] pos) X.env = (do
      let ov ← eval o X.env
      standAt apos.atName
      let (f, first) ← holding [ov] (getMethod ov m pl)
      callWith pos f first (backTo pos (starEach [] X.env)) (backToKw pos (keywordEach [] X.env))) := by rfl) :
    PE X (.Call (.Attribute o m apos) [] [] pos) (tMe (He.ga X.K c) m sp E ta tNil) := by
  obtain ⟨⟨fd, F, b⟩, cl, mt⟩ := M
  have z := pe_meth0 (E := E) (pl := pl) ho cl mt F hr b .nil hx ht
  rw [tMe_of] at z
  exact z
def tMk (C : Addr) (sp : Sp) (t : TA) : TE := fun σ H Q => t σ H fun vs H1 => ∀ x dx, H1 x = none → H1 dx = none → dx ≠ x →
  sp (.ref x :: vs) (upd (upd H1 dx (.own x)) x (.ins C dx [])) (fun v H2 => v = .non ∧ Q (.ref x) H2) E0
theorem tMk_of {C : Addr} : tMake C sp [] E0 t = tMk C sp t := by
  unfold tMake tMk
  simp only [List.append_nil]
theorem pe_mk (M : MakOk X.prog X.w X.K X.mg X.base k c ps sp) (hr : Room (k + 1) X.A) (hg : Gl X c) (ha : PA X (e :: es) t) (hdb : (c == ("__debug__" : Str)) = false := by decide)
    (he : starEach (e :: es) X.env = (false, eval e X.env) :: starEach es X.env := by rfl) (hpl : (backTo pos (starEach es X.env)).any (·.1) = false := by rfl) : PE X (.Call (.Name c p) (e :: es) [] pos) (tMk (He.ga X.K c) sp t) := by
  obtain ⟨⟨fd, F, b⟩, mkk, gl⟩ := M
  have z := pe_make (p := p) (pos := pos) mkk F hr hg gl b .nil pass0 ha hdb he hpl
  rw [tMk_of] at z
  exact z
theorem pe_mk0 (M : MakOk X.prog X.w X.K X.mg X.base k c ps sp) (hr : Room (k + 1) X.A) (hg : Gl X c) (hdb : (c == ("__debug__" : Str)) = false := by decide) : PE X (.Call (.Name c p) [] [] pos) (tMk (He.ga X.K c) sp tNil) := by
  obtain ⟨⟨fd, F, b⟩, mkk, gl⟩ := M
  have z := pe_make0 (p := p) (pos := pos) mkk F hr hg gl b .nil pass0 hdb
  rw [tMk_of] at z
  exact z
/-- constants of the module -/
theorem pe_gi {i : Int} (h : ∃ t, X.mg x = some (.int i t)) (hg : Gl X x) (hd : (x == ("__debug__" : Str)) = false := by decide) : PE X (.Name x pos) (tC (.int i)) := by
  obtain ⟨t, h⟩ := h
  exact pe_glob hg h ⟨t, rfl⟩ hd
theorem pe_gs {z : Str} (h : ∃ t, X.mg x = some (.str z t)) (hg : Gl X x) (hd : (x == ("__debug__" : Str)) = false := by decide) : PE X (.Name x pos) (tC (.str z)) := by
  obtain ⟨t, h⟩ := h
  exact pe_glob hg h ⟨t, rfl⟩ hd
theorem pe_gr {a : Addr} (h : X.mg x = some (.ref a)) (hg : Gl X x) (hd : (x == ("__debug__" : Str)) = false := by decide) : PE X (.Name x pos) (tC (.ref a)) := pe_glob hg h rfl hd
end
/-! ### a reading's steps: each turns the goal's head -/
section
variable {σ : L2.St} {H : Hp} {Q : VK} {QT : Bool → Hp → Prop} {QA : List V → Hp → Prop} {QO : Option Int → Hp → Prop} {D : Ends} {t u : TS} {te ta tb : TE} {tt tu : TT} {r : R2} {tl : TA} {i : Nat} {v x y : V} {K : PySem.W.Frag}
theorem w_seq (h : t { D with nx := u D } σ H) : tSeq t u D σ H := h
theorem w_next (h : D.nx σ H) : tNext D σ H := h
theorem w_ret (h : te σ H D.rt) : tRet te D σ H := h
theorem w_asg (h : te σ H fun x H1 => D.nx (σ.set i (some x)) H1) : tAsg te (gName i) D σ H := h
theorem w_drop (h : te σ H fun _ H1 => D.nx σ H1) : tDrop te D σ H := h
theorem w_if (h : tt σ H fun b H1 => if b = true then t D σ H1 else u D σ H1) : tIfS tt t u D σ H := h
theorem w_ife (h : tt σ H fun c H1 => if c = true then ta σ H1 Q else tb σ H1 Q) : tIf tt ta tb σ H Q := h
theorem w_test (h : te σ H fun x H' => ∃ k, x = .bl k ∧ QT k H') : tTest te σ H QT := h
theorem w_tb (h : te σ H fun x H' => ∃ k, x = .bl k ∧ QT k H') : tB te σ H QT := h
theorem w_and (h : tt σ H fun c H1 => if c = true then tu σ H1 QT else QT false H1) : tAnd tt tu σ H QT := h
theorem w_or (h : tt σ H fun c H1 => if c = true then QT true H1 else tu σ H1 QT) : tOr tt tu σ H QT := h
theorem w_not (h : tt σ H fun c H1 => QT (!c) H1) : tNot tt σ H QT := h
theorem w_var (e : σ[i]? = some (some v)) (h : Q v H) : tVar i σ H Q := ⟨v, e, h⟩
theorem w_c (h : Q v H) : tC v σ H Q := h
theorem w_op (h : ta σ H fun x H1 => tb σ H1 fun y H2 => r x y H2 Q) : tOp r ta tb σ H Q := h
theorem w_un {ru : V → Hp → VK → Prop} (h : ta σ H fun x H1 => ru x H1 Q) : tUn ru ta σ H Q := h
theorem w_u {g : Int → V} {a : Int} (h : Q (g a) H) : rU g (.int a) H Q := ⟨a, rfl, h⟩
theorem w_i0 {g : Int → Int → V} {a b : Int} (h : Q (g a b) H) : rI0 g (.int a) (.int b) H Q := ⟨a, b, rfl, rfl, h⟩
theorem w_i {C : Int → Int → Prop} {g : Int → Int → V} {a b : Int} (c : C a b) (h : Q (g a b) H) : rI C g (.int a) (.int b) H Q := ⟨a, b, rfl, rfl, c, h⟩
theorem w_mul {g : Int → Int → V} {a b : Int} (c : (-(2 ^ 64) < a ∧ a < 2 ^ 64) ∨ (-(2 ^ 64) < b ∧ b < 2 ^ 64)) (h : Q (g a b) H) : rI CMul g (.int a) (.int b) H Q := ⟨a, b, rfl, rfl, c, h⟩
theorem w_fdiv {g : Int → Int → V} {a b : Int} (c : 0 < b ∧ b < 1073741824) (h : Q (g a b) H) : rI CDiv g (.int a) (.int b) H Q := ⟨a, b, rfl, rfl, c, h⟩
theorem w_mod {g : Int → Int → V} {a b : Int} (c : 0 < b) (h : Q (g a b) H) : rI (fun _ j => 0 < j) g (.int a) (.int b) H Q := ⟨a, b, rfl, rfl, c, h⟩
theorem dec_vint (a b : Int) : decide (V.int a = V.int b) = decide (a = b) := by
  by_cases h : a = b
  · rw [h, decide_eq_true rfl, decide_eq_true rfl]
  · rw [decide_eq_false h, decide_eq_false fun z => h (V.int.inj z)]
theorem dec_vstr (a b : Str) : decide (V.str a = V.str b) = decide (a = b) := by
  by_cases h : a = b
  · rw [h, decide_eq_true rfl, decide_eq_true rfl]
  · rw [decide_eq_false h, decide_eq_false fun z => h (V.str.inj z)]
theorem w_eqi {a b : Int} (h : Q (.bl (decide (a = b))) H) : rEq (.int a) (.int b) H Q := ⟨rfl, by rw [dec_vint]; exact h⟩
theorem w_eqs {a b : Str} (h : Q (.bl (decide (a = b))) H) : rEq (.str a) (.str b) H Q := ⟨rfl, by rw [dec_vstr]; exact h⟩
theorem w_nei {a b : Int} (h : Q (.bl (!decide (a = b))) H) : rNe (.int a) (.int b) H Q := ⟨rfl, by rw [dec_vint]; exact h⟩
theorem w_nes {a b : Str} (h : Q (.bl (!decide (a = b))) H) : rNe (.str a) (.str b) H Q := ⟨rfl, by rw [dec_vstr]; exact h⟩
theorem w_bl {b : Bool} {F : Bool → Prop} (h : F b) : ∃ k, V.bl b = .bl k ∧ F k := ⟨b, rfl, h⟩
theorem w_cl {sp : Sp} {E : XK} (h : tl σ H fun vs H1 => sp vs H1 Q E) : tCl sp E tl σ H Q := h
theorem w_cb {rc : List V → Hp → VK → Prop} (h : tl σ H fun vs H1 => rc vs H1 Q) : tCB rc tl σ H Q := h
theorem w_nil (h : QA [] H) : tNil σ H QA := h
theorem w_cons (h : ta σ H fun x H1 => tl σ H1 fun xs H2 => QA (x :: xs) H2) : tCons ta tl σ H QA := h
theorem w_tup (h : tl σ H fun xs H1 => xs.length ≤ sizeLine ∧ ∀ p, H1 p = none → Q (.ref p) (upd H1 p (.tup xs))) : tTup tl σ H Q := h
theorem w_lst (h : tl σ H fun xs H1 => xs.length ≤ sizeLine ∧ ∀ p, H1 p = none → Q (.ref p) (upd H1 p (.lst xs))) : tLst tl σ H Q := h
theorem w_chain {r' : R2} {tc : TE} (h : ta σ H fun x H1 => tb σ H1 fun y H2 => r x y H2 fun z H3 => ∃ k, z = .bl k ∧ (if k = true then tc σ H3 fun w' H4 => r' y w' H4 Q else Q (.bl false) H3)) : tChain r r' ta tb tc σ H Q := h
theorem w_sz0 {P : Prop} (h : P) : ([] : List V).length ≤ sizeLine ∧ P := ⟨Nat.zero_le _, h⟩
theorem w_sz1 {P : Prop} {a : V} (h : P) : [a].length ≤ sizeLine ∧ P := ⟨by show 1 ≤ sizeLine; decide, h⟩
theorem w_sz2 {P : Prop} {a b : V} (h : P) : [a, b].length ≤ sizeLine ∧ P := ⟨by show 2 ≤ sizeLine; decide, h⟩
theorem w_sz3 {P : Prop} {a b c : V} (h : P) : [a, b, c].length ≤ sizeLine ∧ P := ⟨by show 3 ≤ sizeLine; decide, h⟩
theorem w_ixt {p : Addr} {n : Int} {xs : List V} (hs : SqT K H p xs) (ha : atI xs n = some v) (h : Q v H) : rIxT K (.ref p) (.int n) H Q := ⟨p, xs, n, v, rfl, rfl, hs, ha, h⟩
theorem w_ixl {p : Addr} {n : Int} {xs : List V} (hs : SqL K H p xs) (ha : atI xs n = some v) (h : Q v H) : rIxL K (.ref p) (.int n) H Q := ⟨p, xs, n, v, rfl, rfl, hs, ha, h⟩
theorem w_aug {tp : TIp} {a : V} (e : σ[i]? = some (some a)) (h : te σ H fun y H1 => tp a y H1 fun z H2 => D.nx (σ.set i (some z)) H2) : tAug i te tp D σ H := ⟨a, e, h⟩
theorem w_ipi {f : Int → Int → Int} {a b : Int} (h : Q (.int (f a b)) H) : ipI f (.int a) (.int b) H Q := ⟨a, b, rfl, rfl, h⟩
theorem w_gname {QG : L2.St → Hp → Prop} (h : QG (σ.set i (some v)) H) : gName i v σ H QG := h
theorem w_t {A B : Prop} (h : A) : if true = true then A else B := h
theorem w_f {A B : Prop} (h : B) : if false = true then A else B := h
theorem w_yes {c : Prop} [Decidable c] {A B : Prop} (hc : c) (h : A) : if decide c = true then A else B := by
  rw [if_pos (decide_eq_true hc)]
  exact h
theorem w_no {c : Prop} [Decidable c] {A B : Prop} (hc : ¬ c) (h : B) : if decide c = true then A else B := by
  rw [decide_eq_false hc]
  exact h
theorem w_cases {c : Prop} [Decidable c] {A B : Prop} (h1 : c → A) (h2 : ¬ c → B) : if decide c = true then A else B := by
  by_cases hc : c
  · exact w_yes hc (h1 hc)
  · exact w_no hc (h2 hc)
theorem w_for {wi : TI} {g : TG} {tb2 : TS} (h : wi σ H fun J H1 => ∃ W : Nat → Nat → L2.St → Hp → Prop, (∃ m, W 0 m σ H1) ∧ ∀ i m σ H, W i m σ H →
  (J.stop i H ∧ D.nx σ H) ∨ (J.go i H ∧ ∃ N : L2.St → Hp → Prop, (∀ σ' H', N σ' H' → ∃ m', m' < m ∧ W (i + 1) m' σ' H') ∧ ∀ x H', J.yld i H x H' → g x σ H' fun σ2 H2 => tb2 { D with nx := N, ct := N, bk := D.nx } σ2 H2)) : tFor wi g tb2 D σ H := h
theorem w_rng1 {R : It → Hp → Prop} (h : tl σ H fun vs H1 => ∃ j : Int, vs = [.int j] ∧ -(2 ^ 62) ≤ j ∧ j < 2 ^ 62 ∧ R (Itr 0 j.toNat) H1) : iRng1 tl σ H R := h
theorem w_rng2 {R : It → Hp → Prop} (h : tl σ H fun vs H1 => ∃ i j : Int, vs = [.int i, .int j] ∧ (-(2 ^ 62) ≤ i ∧ i < 2 ^ 62 ∧ -(2 ^ 62) ≤ j ∧ j < 2 ^ 62) ∧ R (Itr i (j - i).toNat) H1) : iRng2 tl σ H R := h
theorem w_ilist {R : It → Hp → Prop} (h : te σ H fun x H1 => ∃ a, x = .ref a ∧ (∃ xs, SqL K H1 a xs) ∧ R (Itl K a) H1) : iList K te σ H R := h
end
end CA
end file_CaRules
section file_CaLoops
set_option maxRecDepth 100000
set_option maxHeartbeats 4000000
/-! Comprehensions and loops in the shapes that stand in the program. -/
namespace CA
open PySem PySem.Spec PyProof.Rows L2
/-- a row of days as values; an answer that may be none -/
def iv (l : List Nat) : List V := l.map fun n : Nat => V.int (n : Int)
def ov : Option Nat → V
  | none => .int (-6)
  | some n => .int (n : Int)
theorem iv_len (l : List Nat) : (iv l).length = l.length := List.length_map ..
theorem iv_at {l : List Nat} {i : Nat} {x : V} (h : (iv l)[i]? = some x) : ∃ n, l[i]? = some n ∧ x = .int (n : Int) := by
  unfold iv at h
  rw [List.getElem?_map] at h
  cases e : l[i]? with
  | none => rw [e] at h; cases h
  | some n => rw [e] at h; exact ⟨n, rfl, (Option.some.inj h).symm⟩
theorem iv_mem {l : List Nat} {x : V} (h : x ∈ iv l) : ∃ n, n ∈ l ∧ x = .int (n : Int) := by
  obtain ⟨n, h1, h2⟩ := List.mem_map.mp h
  exact ⟨n, h1, h2.symm⟩
theorem at_iv {l : List Nat} {i n : Nat} (h : l[i]? = some n) : (iv l)[i]? = some (.int (n : Int)) := by
  unfold iv
  rw [List.getElem?_map, h]
  rfl
theorem iv_ints (l : List Nat) : iv l = (l.map fun n : Nat => (n : Int)).map V.int := by
  unfold iv
  rw [List.map_map]
  rfl
theorem iv_append (l m : List Nat) : iv (l ++ m) = iv l ++ iv m := List.map_append
theorem iv_filter (l : List Nat) (p : Nat → Bool) (f : V → Bool) (e : V → V) (hf : ∀ n ∈ l, f (.int (n : Int)) = p n) (he : ∀ n, e (.int (n : Int)) = .int (n : Int)) : ((iv l).filter f).map e = iv (l.filter p) := by
  unfold iv
  rw [List.filter_map, List.map_map]
  have e1 : l.filter (f ∘ fun n : Nat => V.int (n : Int)) = l.filter p := List.filter_congr fun n hn => hf n hn
  rw [e1]
  exact List.map_congr_left fun n _ => he n
/-- ints that stand for naturals -/
theorem perm_iv {l : List Nat} {ns : List Int} (h : ns.Perm (l.map fun n : Nat => (n : Int))) : ∃ out : List Nat, out.Perm l ∧ ns = out.map fun n : Nat => (n : Int) := by
  refine ⟨ns.map Int.toNat, ?_, ?_⟩
  · have e := h.map Int.toNat
    rw [List.map_map] at e
    have e2 : l.map (Int.toNat ∘ fun n : Nat => (n : Int)) = l := by
      conv => rhs; rw [← List.map_id l]
      exact List.map_congr_left fun n _ => Int.toNat_natCast n
    rw [e2] at e
    exact e
  · rw [List.map_map]
    conv => lhs; rw [← List.map_id ns]
    refine List.map_congr_left fun z hz => ?_
    obtain ⟨n, _, rfl⟩ := List.mem_map.mp (h.mem_iff.mp hz)
    show (n : Int) = ((n : Int).toNat : Int)
    rw [Int.toNat_natCast]
theorem pairwise_iv {l : List Nat} (h : (l.map fun n : Nat => (n : Int)).Pairwise (· ≤ ·)) : l.Pairwise (· ≤ ·) := (List.pairwise_map.mp h).imp fun h => by omega
/-! ### heaps -/
theorem same_upd {H : Hp} {p : Addr} {o : HO} (h : H p = none) : Same H (upd H p o) := fun b u e => by
  rw [upd_ne (ne_of_none e h)]
  exact e
theorem same_mut {H H' : Hp} {p : Addr} {o : HO} (s : Same H H') (h : H p = none) : Same H (upd H' p o) := fun b u e => by
  rw [upd_ne (ne_of_none e h)]
  exact s b u e
theorem Same.tup {K : PySem.W.Frag} {H H' : Hp} {a : Addr} {xs : List V} (e : Same H H') (h : SqT K H a xs) : SqT K H' a xs := by
  rcases h with (h | ⟨o, h⟩) | h
  · exact .inl (.inl (e _ _ h))
  · exact .inl (.inr ⟨o, e _ _ h⟩)
  · exact .inr h
/-! ### taking one more -/
theorem take_at {α : Type} : ∀ {l : List α} {i : Nat} {x : α}, l[i]? = some x → l.take (i + 1) = l.take i ++ [x]
  | [], i, x, h => by simp at h
  | a :: l, 0, x, h => by
    obtain rfl : a = x := Option.some.inj h
    rfl
  | a :: l, i + 1, x, h => by
    have ih := take_at (l := l) (i := i) (x := x) h
    show a :: l.take (i + 1) = a :: l.take i ++ [x]
    rw [ih]
    rfl
theorem filter_take_yes {α : Type} {l : List α} {i : Nat} {x : α} {p : α → Bool} (h : l[i]? = some x) (hp : p x = true) : (l.take (i + 1)).filter p = (l.take i).filter p ++ [x] := by
  rw [take_at h, List.filter_append]
  simp [hp]
theorem filter_take_no {α : Type} {l : List α} {i : Nat} {x : α} {p : α → Bool} (h : l[i]? = some x) (hp : p x = false) : (l.take (i + 1)).filter p = (l.take i).filter p := by
  rw [take_at h, List.filter_append]
  simp [hp]
theorem find_take_no {α : Type} {l : List α} {i : Nat} {x : α} {p : α → Bool} (h : l[i]? = some x) (h0 : (l.take i).find? p = none) (hp : p x = false) : (l.take (i + 1)).find? p = none := by
  rw [take_at h, List.find?_append, h0]
  simp [hp]
theorem find_take_yes {α : Type} {l : List α} {i : Nat} {x : α} {p : α → Bool} (h : l[i]? = some x) (h0 : (l.take i).find? p = none) (hp : p x = true) : l.find? p = some x := by
  have e : l = l.take (i + 1) ++ l.drop (i + 1) := (List.take_append_drop (i + 1) l).symm
  rw [e, take_at h, List.find?_append, List.find?_append, h0]
  simp [hp]
/-! ### ifs -/
theorem w_nyes {c : Prop} [Decidable c] {A B : Prop} (hc : ¬ c) (h : A) : if (!decide c) = true then A else B := by
  rw [decide_eq_false hc]
  exact h
theorem w_nno {c : Prop} [Decidable c] {A B : Prop} (hc : c) (h : B) : if (!decide c) = true then A else B := by
  rw [decide_eq_true hc]
  exact h
theorem w_ncases {c : Prop} [Decidable c] {A B : Prop} (h1 : ¬ c → A) (h2 : c → B) : if (!decide c) = true then A else B := by
  by_cases hc : c
  · exact w_nno hc (h2 hc)
  · exact w_nyes hc (h1 hc)
theorem w_bt {b : Bool} {A B : Prop} (hb : b = true) (h : A) : if b = true then A else B := by
  rw [hb]
  exact h
theorem w_bf {b : Bool} {A B : Prop} (hb : b = false) (h : B) : if b = true then A else B := by
  rw [hb]
  exact h
/-! ### comprehensions -/
section
variable {K : PySem.W.Frag} {g : TG} {tt : TT} {te tl : TE} {ta : TA} {vs : List Nat} {σ : L2.St} {H : Hp} {Q : VK}
/-- one turn of a comprehension whose test answers f x, whose element is e x, whatever is laid meanwhile -/
def LcTurn (g : TG) (tt : TT) (te : TE) (vs : List Nat) (σ : L2.St) (H : Hp) (x : V) (f : V → Bool) (e : V → V) : Prop :=
  ∀ (H' : Hp) (F : V → Hp → Prop) (G : Hp → Prop), Same H H' → (f x = true → ∀ H2, Same H' H2 → F (e x) H2) → (f x = false → ∀ H2, Same H' H2 → G H2) →
    g x (wipe σ vs) H' fun σ2 H2 => wipe σ2 vs = wipe σ vs ∧ tt σ2 H2 fun b H3 => if b = true then te σ2 H3 F else G H3
theorem lc_ext {a : Addr} {xs : List V} {D : Addr} {Qd : Hp → Prop} (f : V → Bool) (e : V → V) (hS : SqL K H a xs) (hD : H D = none) (hz : xs.length ≤ 100000)
    (hs : ∀ x ∈ xs, LcTurn g tt te vs σ H x f e) (hd : ∀ H', Same H H' → H' D = some (.lst ((xs.filter f).map e)) → Qd H') :
    ∃ W : Nat → Nat → Hp → Prop, (∃ m, W 0 m (upd H D (.lst []))) ∧ ∀ i m H, W i m H →
      ((Itl K a).stop i H ∧ Qd H) ∨ ((Itl K a).go i H ∧ ∃ Nx : Hp → Prop, (∀ H', Nx H' → ∃ m', m' < m ∧ W (i + 1) m' H') ∧ ∀ x H', (Itl K a).yld i H x H' → g x (wipe σ vs) H' fun σ2 H2 => wipe σ2 vs = wipe σ vs ∧ tt σ2 H2 fun b H3 =>
        if b = true then te σ2 H3 fun y H4 => ∃ acc, H4 D = some (.lst acc) ∧ acc.length < sizeLine ∧ Nx (upd H4 D (.lst (acc ++ [y]))) else Nx H3) := by
  refine lc_list (K := K) (a := a) (xs := xs) (fun i H' => Same H H' ∧ H' D = some (.lst (((xs.take i).filter f).map e))) ⟨same_upd hD, upd_same⟩ (fun i H' _ p => p.1.seq hS) (fun i x H' hx p => ?_) fun H' p => ?_
  · refine hs x (List.mem_of_getElem? hx) H' _ _ p.1 (fun hf H2 s2 => ?_) fun hf H2 s2 => ?_
    · refine ⟨_, s2 _ _ p.2, ?_, same_mut (Same.trans p.1 s2) hD, ?_⟩
      · have h1 := List.length_filter_le f (xs.take i)
        have h2 := List.length_take_le i xs
        have h3 := List.length_take_le' i xs
        rw [List.length_map]
        have : (100000 : Nat) < sizeLine := by decide
        omega
      · rw [upd_same, filter_take_yes hx hf, List.map_append]
        rfl
    · refine ⟨Same.trans p.1 s2, ?_⟩
      rw [filter_take_no hx hf]
      exact s2 _ _ p.2
  · refine hd H' p.1 ?_
    have z := p.2
    rw [List.take_length] at z
    exact z
theorem lc_extR {lo : Int} {n : Nat} {D : Addr} {Qd : Hp → Prop} (f : V → Bool) (e : V → V) (hD : H D = none) (hz : n ≤ 100000)
    (hs : ∀ i, i < n → LcTurn g tt te vs σ H (.int (lo + (i : Nat))) f e) (hd : ∀ H', Same H H' → H' D = some (.lst ((((List.range n).map fun i => V.int (lo + (i : Nat))).filter f).map e)) → Qd H') :
    ∃ W : Nat → Nat → Hp → Prop, (∃ m, W 0 m (upd H D (.lst []))) ∧ ∀ i m H, W i m H →
      ((Itr lo n).stop i H ∧ Qd H) ∨ ((Itr lo n).go i H ∧ ∃ Nx : Hp → Prop, (∀ H', Nx H' → ∃ m', m' < m ∧ W (i + 1) m' H') ∧ ∀ x H', (Itr lo n).yld i H x H' → g x (wipe σ vs) H' fun σ2 H2 => wipe σ2 vs = wipe σ vs ∧ tt σ2 H2 fun b H3 =>
        if b = true then te σ2 H3 fun y H4 => ∃ acc, H4 D = some (.lst acc) ∧ acc.length < sizeLine ∧ Nx (upd H4 D (.lst (acc ++ [y]))) else Nx H3) := by
  refine lc_range (lo := lo) (n := n) (fun i H' => Same H H' ∧ H' D = some (.lst ((((List.range i).map fun i => V.int (lo + (i : Nat))).filter f).map e))) ⟨same_upd hD, upd_same⟩ (fun i H' hi p => ?_) fun H' p => hd H' p.1 p.2
  refine hs i hi H' _ _ p.1 (fun hf H2 s2 => ?_) fun hf H2 s2 => ?_
  · refine ⟨_, s2 _ _ p.2, ?_, same_mut (Same.trans p.1 s2) hD, ?_⟩
    · have h1 := List.length_filter_le f ((List.range i).map fun i => V.int (lo + (i : Nat)))
      rw [List.length_map, List.length_range] at h1
      rw [List.length_map]
      have : (100000 : Nat) < sizeLine := by decide
      omega
    · rw [upd_same, List.range_succ, List.map_append, List.filter_append, List.map_append]
      simp only [List.map_cons, List.map_nil, List.filter_cons_of_pos hf, List.filter_nil]
  · refine ⟨Same.trans p.1 s2, ?_⟩
    rw [List.range_succ, List.map_append, List.filter_append, List.map_append]
    simp only [List.map_cons, List.map_nil, List.filter_cons, hf, List.filter_nil, List.append_nil, Bool.false_eq_true, if_false]
    exact s2 _ _ p.2
theorem lc_extS {z : Str} {D : Addr} {Qd : Hp → Prop} (f : V → Bool) (e : V → V) (hD : H D = none) (hz : z.cps.size ≤ 16000000)
    (hs : ∀ c ∈ z.cps.toList, LcTurn g tt te vs σ H (.str ⟨#[c]⟩) f e) (hd : ∀ H', Same H H' → H' D = some (.lst (((z.cps.toList.map fun c => V.str ⟨#[c]⟩).filter f).map e)) → Qd H') :
    ∃ W : Nat → Nat → Hp → Prop, (∃ m, W 0 m (upd H D (.lst []))) ∧ ∀ i m H, W i m H →
      ((Its z).stop i H ∧ Qd H) ∨ ((Its z).go i H ∧ ∃ Nx : Hp → Prop, (∀ H', Nx H' → ∃ m', m' < m ∧ W (i + 1) m' H') ∧ ∀ x H', (Its z).yld i H x H' → g x (wipe σ vs) H' fun σ2 H2 => wipe σ2 vs = wipe σ vs ∧ tt σ2 H2 fun b H3 =>
        if b = true then te σ2 H3 fun y H4 => ∃ acc, H4 D = some (.lst acc) ∧ acc.length < sizeLine ∧ Nx (upd H4 D (.lst (acc ++ [y]))) else Nx H3) := by
  have hl : z.cps.toList.length = z.cps.size := Array.length_toList
  refine ⟨fun i m H' => m = z.cps.size - i ∧ i ≤ z.cps.size ∧ Same H H' ∧ H' D = some (.lst ((((z.cps.toList.take i).map fun c => V.str ⟨#[c]⟩).filter f).map e)), ⟨z.cps.size, by omega, Nat.zero_le _, same_upd hD, upd_same⟩, ?_⟩
  rintro i m H1 ⟨rfl, hi, p1, p2⟩
  by_cases hlt : i < z.cps.size
  · refine .inr ⟨hlt, fun H' => Same H H' ∧ H' D = some (.lst ((((z.cps.toList.take (i + 1)).map fun c => V.str ⟨#[c]⟩).filter f).map e)), fun H' p' => ⟨z.cps.size - (i + 1), by omega, rfl, hlt, p'⟩, ?_⟩
    rintro x H' ⟨rfl, c, hc, rfl⟩
    have hc2 : z.cps.toList[i]? = some c := by rw [Array.getElem?_toList]; exact hc
    have tk : ((z.cps.toList.take (i + 1)).map fun c => V.str ⟨#[c]⟩) = ((z.cps.toList.take i).map fun c => V.str ⟨#[c]⟩) ++ [V.str ⟨#[c]⟩] := by
      rw [take_at hc2, List.map_append]
      rfl
    refine hs c (List.mem_of_getElem? hc2) H' _ _ p1 (fun hf H2 s2 => ?_) fun hf H2 s2 => ?_
    · refine ⟨_, s2 _ _ p2, ?_, same_mut (Same.trans p1 s2) hD, ?_⟩
      · have h1 := List.length_filter_le f ((z.cps.toList.take i).map fun c => V.str ⟨#[c]⟩)
        have h3 := List.length_take_le' i z.cps.toList
        rw [List.length_map] at h1
        rw [List.length_map]
        have : (16000000 : Nat) < sizeLine := by decide
        omega
      · rw [upd_same, tk, List.filter_append, List.map_append]
        simp only [List.map_cons, List.map_nil, List.filter_cons_of_pos hf, List.filter_nil]
    · refine ⟨Same.trans p1 s2, ?_⟩
      rw [tk, List.filter_append, List.map_append]
      simp only [List.map_cons, List.map_nil, List.filter_cons, hf, List.filter_nil, List.append_nil, Bool.false_eq_true, if_false]
      exact s2 _ _ p2
  · obtain rfl : i = z.cps.size := by omega
    refine .inl ⟨Nat.le_refl _, hd H1 p1 ?_⟩
    rw [← hl, List.take_length] at p2
    exact p2
theorem w_lc {wi : TI} (h : wi σ H fun J H1 => ∀ D, H1 D = none → ∃ W : Nat → Nat → Hp → Prop, (∃ m, W 0 m (upd H1 D (.lst []))) ∧ ∀ i m H, W i m H →
  (J.stop i H ∧ Q (.ref D) H) ∨ (J.go i H ∧ ∃ Nx : Hp → Prop, (∀ H', Nx H' → ∃ m', m' < m ∧ W (i + 1) m' H') ∧ ∀ x H', J.yld i H x H' → g x (wipe σ vs) H' fun σ2 H2 => wipe σ2 vs = wipe σ vs ∧ tt σ2 H2 fun b H3 =>
    if b = true then te σ2 H3 fun y H4 => ∃ acc, H4 D = some (.lst acc) ∧ acc.length < sizeLine ∧ Nx (upd H4 D (.lst (acc ++ [y]))) else Nx H3)) : tLc wi g tt te vs σ H Q := h
theorem w_istr {R : It → Hp → Prop} (h : te σ H fun v H1 => ∃ x, v = .str x ∧ R (Its x) H1) : iStr te σ H R := h
theorem w_rng3 {R : It → Hp → Prop} (h : ta σ H fun vs H1 => ∃ (i j c : Int) (n : Nat), vs = [.int i, .int j, .int c] ∧ RgC i j c n ∧ R (Itc i c n) H1) : iRng3 ta σ H R := h
theorem w_yesT {QT : Bool → Hp → Prop} (h : QT true H) : tYes σ H QT := h
theorem w_wipe {P : Prop} {σ2 : L2.St} (e : wipe σ2 vs = wipe σ vs) (h : P) : wipe σ2 vs = wipe σ vs ∧ P := ⟨e, h⟩
theorem w_din {td ty : TE} (h : ty σ H fun y H1 => td σ H1 fun x H2 => ∃ a o, x = .ref a ∧ DGet H2 a y o ∧ Q (.bl o.isSome) H2) : tDIn ty td σ H Q := h
theorem w_dnotin {td ty : TE} (h : ty σ H fun y H1 => td σ H1 fun x H2 => ∃ a o, x = .ref a ∧ DGet H2 a y o ∧ Q (.bl (!o.isSome)) H2) : tDNotIn ty td σ H Q := h
theorem w_dput {D : Ends} {td ty tv : TE} (h : tv σ H fun v H1 => td σ H1 fun x H2 => ty σ H2 fun y H3 => ∃ a H4, x = .ref a ∧ DPut H3 a y v H4 ∧ D.nx σ H4) : sDPut td ty tv D σ H := h
theorem w_dnew (h : ∀ p, H p = none → Q (.ref p) (upd H p (.dK []))) : tDNewK σ H Q := h
end
end CA
end file_CaLoops
section file_CaComp
set_option maxRecDepth 100000
set_option maxHeartbeats 4000000
/-! A list comprehension whose element may raise (out of a call): the reading is the one of a comprehension that does not (tLc); what is raised is wished for by the def. -/
namespace CA
open PySem PySem.Spec PyProof.Rows L2
section
variable {X : Cx} {E : XK}
/-- an exception of a call in the block, over the def's own state I3 (ahead of the block's names at C): noted, the names let go, set in flight by the def's frame -/
theorem blk_raises {pins pins' : List (Addr × Obj)} {σ σ' : L2.St} {H3 H' : Hp} {s3 s' s2 : Shared} {fp : List Addr} {scope : Scope} {ce : Env} {xe : Value → Shared → Prop} {e : Value}
    (tk : Takes X (fun cls d _ H => E cls d H)) (hst : X.stack = X.env :: X.outer) (hf : X.env.frame = some X.env.locals)
    (I3 : Inv X pins σ H3 s3) (hfp : ∀ b ∈ fp, FpOk X pins H3 b) (hC : ce.locals = s3.heap.objs.size) (hfr : ce.frame = X.env.frame)
    (I1 : Inv ((X.blk s3 H3 scope ce fp).wish xe) pins' σ' H' s') (c : L2.CX X.prog X.w X.stack H' s' E e s2) :
    notedBy (model X.prog X.w) X.A ce (CompFails (model X.prog X.w) X.A X.xe ce) e s2 := by
  obtain ⟨a, B, H2, cls, d, rfl, fl, hok, ub, na, os, ag, hE⟩ := c
  obtain ⟨mC, nsC, _⟩ := I1.loc
  have nsC : s'.heap.Ns ce.locals mC := nsC
  have freeC : H' ce.locals = none := I1.free
  have ltF : ∀ b ∈ frs X.stack, b ≠ ce.locals := fun b hb z => by
    obtain ⟨_, o, q, _⟩ := I3.stack.mem hb
    have := Heap.lt_size q
    rw [z, hC] at this
    exact Nat.lt_irrefl _ this
  obtain ⟨oC, esC, epC, getC, datC, restC⟩ := id nsC
  have BC : B.get? ce.locals = some oC := ub.keep _ _ getC freeC fun z => ltF _ z rfl
  have sC : s2.heap.get? ce.locals = some oC := fl.1 _ _ BC
  have ns2 : s2.heap.Ns ce.locals mC := ⟨oC, esC, epC, sC, datC, restC⟩
  have H2C : H2 ce.locals = none := ub.free _ _ getC freeC
  -- the ground without the block's names
  generalize hB' : PySem.W.hideAll B [ce.locals] = B'
  have toB : ∀ b o, B'.get? b = some o → B.get? b = some o := fun b o q => by
    rw [← hB'] at q
    exact PySem.W.of_hideAll _ q
  have ofB : ∀ b o, B.get? b = some o → b ≠ ce.locals → B'.get? b = some o := fun b o q hb => by
    rw [← hB']
    exact PySem.W.hideAll_get _ q fun z => hb (List.mem_singleton.mp z)
  have B'C : B'.get? ce.locals = none := by
    rw [← hB']
    exact PySem.W.hideAll_none _ (List.mem_singleton.mpr rfl)
  have none_of : ∀ b, B.get? b = none → B'.get? b = none := fun b q => by
    cases z : B'.get? b with
    | none => rfl
    | some o => rw [toB b o z] at q; cases q
  obtain ⟨G, g1, g2⟩ := restrict s2.heap fun b => (B'.get? b).isSome || decide (b ∈ frs X.stack)
  have gB : ∀ b o, B'.get? b = some o → G.get? b = some o := fun b o q => by
    rw [g1 b (by simp [q])]
    exact fl.1 b o (toB b o q)
  have gF : ∀ b ∈ frs X.stack, G.get? b = s2.heap.get? b := fun b hb => g1 b (by simp [hb])
  have og : ∀ b o, G.get? b = some o → s2.heap.get? b = some o ∧ ((B'.get? b).isSome = true ∨ b ∈ frs X.stack) := fun b o q => by
    cases z : ((B'.get? b).isSome || decide (b ∈ frs X.stack)) with
    | false => rw [g2 b z] at q; cases q
    | true =>
      rw [g1 b z] at q
      exact ⟨q, by simpa [Bool.or_eq_true] using z⟩
  have gC : ∀ b o, G.get? b = some o → b ≠ ce.locals := fun b o q z => by
    rcases (og b o q).2 with k | k
    · rw [z, B'C] at k; cases k
    · exact ltF b k z
  have old : ∀ b o, s3.heap.get? b = some o → b ≠ ce.locals := fun b o q z => by
    have := Heap.lt_size q
    rw [z, hC] at this
    exact Nat.lt_irrefl _ this
  have ib : Un (frs X.stack) fp H3 H' s3.heap s'.heap := I1.base
  have un : Un (frs X.stack) fp H3 H2 s3.heap G :=
    { keep := fun b o q n hb hx => gB b o (ofB b o (ub.keep b o (ib.keep b o q n hb hx) (ib.free b o q n hx) hb) (old b o q))
      slot := fun b o q n hb hx => by
        obtain ⟨sl, q1⟩ := ib.slot b o q n hb hx
        obtain ⟨sl2, q2⟩ := ub.slot b _ q1 hb
        exact ⟨sl2, by rw [gF b hb]; exact q2⟩
      free := fun b o q n hx => by
        obtain ⟨o1, q1⟩ := ib.there b o q hx
        exact ub.free b o1 q1 (ib.free b o q n hx)
      there := fun b o q hx => by
        obtain ⟨o1, q1⟩ := ib.there b o q hx
        by_cases hb : b ∈ frs X.stack
        · obtain ⟨sl, q2⟩ := ub.slot b o1 q1 hb
          exact ⟨_, by rw [gF b hb]; exact q2⟩
        · obtain ⟨o2, q2⟩ := ub.there b o1 q1 hb
          exact ⟨o2, gB b o2 (ofB b o2 q2 (old b o q))⟩
      tups := fun b xs q => ub.tups b xs (ib.tups b xs q)
      frzs := fun b o u q => ub.frzs b o u (ib.frzs b o u q)
      tbls := fun b ps q => by
        obtain ⟨m1, q1⟩ := ib.tbls b ps q
        obtain ⟨m2, q2⟩ := ub.tbls b _ q1
        exact ⟨m1 ++ m2, by rw [q2, Array.append_assoc]⟩ }
  have hokG : HOk X.prog X.w H2 G := fun b o q => (hok b o q).stay (fun z u hz r => gB z u (ofB z u r fun k => by
    rcases hz with hz | hz
    · rw [hz] at k; rw [k, H2C] at q; cases q
    · rw [k, H2C] at hz; cases hz)) (fun _ r => r) fun _ _ r => r
  have IG := I3.call' (s' := { s' with heap := G, gens := s2.gens, drawn := s2.drawn, toks := s2.toks }) (ch := fp) I1.os un hokG ag fun b hb => ⟨(hfp b hb).2.2.2.1, (hfp b hb).2.1, (hfp b hb).2.2.2.2.1, (hfp b hb).2.2.2.2.2⟩
  -- in flight over the smaller ground
  have fl' : HandSPX.FlyingZ B' X.stack a (Zc cls d) s2.heap := by
    obtain ⟨f1, f2, f3, oe, vs, T, oT, ts, t1, t2, t3, t4, t5, t6⟩ := fl
    exact ⟨fun b o q => f1 b o (toB b o q), none_of a f2, funFrames_none f3 fun L hL => none_of L (f3.mem hL).1, oe, vs, T, oT, ts, t1, t2, t3, t4, none_of T t5, t6⟩
  have hfs : X.A.frames = some (X.env :: X.outer) := by rw [I3.ok.frames, hst]
  rw [hst] at fl'
  show wpAny _ _ (noteFrame (.ref a) ce) _ _ s2
  rw [noteFrame_env _ hfr]
  refine HandSPX.looks_onZ Zc.steady hfs hf fl' fun h1 held up1 => ?_
  have ns1 : h1.Ns ce.locals mC := Heap.UpToSlots.ns up1 ns2
  refine ⟨mC, ns1, fun h2 m2 ns2' sb => ?_⟩
  obtain ⟨k1, k2, k3, oe, vs, T, oT, ts, t1, t2, t3, t4, t5, t6, t7, t8, t9⟩ := held
  obtain ⟨o1, es1, ep1, get1, dat1, _⟩ := id ns1
  have neF : ∀ b o, h1.get? b = some o → (∃ vs, o.data = .fields vs) → b ≠ ce.locals := fun b o q ⟨vs, k⟩ z => by
    rw [z, get1] at q
    cases q
    rw [dat1] at k; cases k
  have at2 : ∀ b o, h1.get? b = some o → b ≠ ce.locals → h2.get? b = some o := fun b o q hb => (sb.2 b hb).trans q
  have held2 : HandSPX.HeldZ B' (X.env :: X.outer) a (Zc cls d) X.env.locals h2 :=
    ⟨fun b o q => at2 b o (k1 b o q) fun z => (by rw [z, B'C] at q; cases q), k2, Heap.FunFrames.sameBut sb ns2' k3, oe, vs, T, oT, ts, at2 a oe t1 (neF a oe t1 ⟨vs, t3⟩), t2, t3, t4, t5, t6, at2 T oT t7 (neF T oT t7 ⟨ts, t8⟩), t8, t9⟩
  have upG : ∀ h3, h2.UpToSlots h3 → G.UpToSlots h3 := fun h3 up3 b o q nf => by
    obtain ⟨sl, q1⟩ := up1 b o (og b o q).1 nf
    obtain ⟨sl2, q2⟩ := up3 b _ (at2 b _ q1 (gC b o q)) nf
    exact ⟨sl2, q2⟩
  unfold PySem.passOn
  refine wpAny_bind (wpAny_field (at2 a oe t1 (neF a oe t1 ⟨vs, t3⟩)) t3 t4 ?_)
  rw [if_neg (show ¬ ((Value.ref T == Value.none) = true) from by simp), hfr, hf]
  refine wpAny_bind (HandSPX.setFlight_onZ held2 fun h3 held3 up3 => ?_)
  refine wpAny_throw (tk _ _ ⟨a, B', _, pins, σ, H2, cls, d, rfl, IG, fun b o q hb => ?_, upG h3 up3, ?_, na, os, ag, hE⟩)
  · rcases (og b o q).2 with k | k
    · obtain ⟨o', q'⟩ := Option.isSome_iff_exists.mp k
      rw [gB b o' q'] at q
      cases q
      exact q'
    · exact absurd k hb
  · rw [hst]
    exact .inr (.inr held3)
/-- [elt for tg in iter if ..], an element that may raise: hel asks the element's term for any wish that takes what its calls let out -/
theorem pe_lcX {elt tg iter : Expr} {ifs : List Expr} {scope : Scope} {own : List (Str × Nat)} {pos : Pos} {wi : TI} {g : TG} {tt : TT} {te : TE}
    (tk : Takes X (fun cls d _ H => E cls d H)) (hst : X.stack = X.env :: X.outer) (hf : X.env.frame = some X.env.locals) (hc : X.calm = true) (hN : X.N.Nodup) (hi : PI X tg iter wi) (ok : BlkOk X.N X.env.scope scope own)
    (hg : ∀ (s : Shared) (H : Hp) (C : Addr) (cl : List (Str × Addr)) (fp : List Addr), PG (X.blk s H scope (compEnvC scope cl C X.env) fp) tg g)
    (ht : ∀ (s : Shared) (H : Hp) (C : Addr) (cl : List (Str × Addr)) (fp : List Addr), PTs (X.blk s H scope (compEnvC scope cl C X.env) fp) ifs tt)
    (hel : ∀ (s : Shared) (H : Hp) (C : Addr) (cl : List (Str × Addr)) (fp : List Addr) (xe : Value → Shared → Prop), Passes (L2.CX X.prog X.w) ((X.blk s H scope (compEnvC scope cl C X.env) fp).wish xe) E →
      PE ((X.blk s H scope (compEnvC scope cl C X.env) fp).wish xe) elt te)
    (hs : ∀ x, foldedSetIterable iter X.env x = pure x := by intro _; rfl) :
    PE X (.ListComp elt [⟨tg, iter, ifs, 0⟩] scope pos) (tLc wi g tt te (own.map (·.2))) := by
  refine ⟨fun pins s σ H Q I h => ?_⟩
  rw [eval_ListComp]
  have hfree : ∀ y ∈ scope.names, y.2 = .free → ∃ c, X.env.cells.lookup y.1 = some c := fun y hy e =>
    (ok.free y hy e).elim (fun k => I.ok.has _ (.inl k)) fun k => I.ok.has _ (.inr k)
  refine comprehension_at (use := none) rfl hs (closure_ok hfree) ok.kind (fun y hy e => (ok.uniq y hy).trans (congrArg some e)) (thn (hi.run pins s σ H _ I h) fun xv s1 hx => thn hx fun itv s2 h2 => ?_)
  obtain ⟨it, fp, tn, J, H2, rfl, I2, T, st2, f2, q⟩ := h2
  refine wpAny_newObj_type (newEnv_comp ?_) (by show 0 ≤ sizeLine; decide)
  generalize hD : s2.heap.objs.size = D
  have hDn : H2 D = none := I2.hok.fresh (Nat.le_of_eq hD)
  obtain ⟨W, ⟨m0, w0⟩, turn⟩ := q D hDn
  generalize hs3 : ({ s2 with heap := s2.heap.push { cls := .type "list", data := .seq ([] : List Value).toArray } } : Shared) = s3
  have I3 : Inv X pins σ (upd H2 D (.lst [])) s3 := by
    rw [← hs3]
    refine I2.laid (t' := s2.toks) (fun b o e => Heap.get?_push_of_some _ e) (Nat.le_of_eq hD) ⟨Nat.zero_le _, [], 0, .nil, ?_⟩
    rw [← hD]
    exact Heap.get?_push_size _ rfl
  have h3 : s3.heap = s2.heap.push { cls := .type "list", data := .seq ([] : List Value).toArray } := by rw [← hs3]
  have f3 : ∀ b ∈ fp, FpOk X pins (upd H2 D (.lst [])) b ∧ b < s3.heap.objs.size := fun b hb => by
    obtain ⟨o, e, _⟩ := T.obj _ _ st2 b hb
    have hlt := Heap.lt_size e
    refine ⟨⟨?_, (f2 b hb).2⟩, by rw [h3, Heap.size_push]; exact Nat.lt_succ_of_lt hlt⟩
    rw [upd_ne (by rw [← hD]; exact Nat.ne_of_lt hlt)]
    exact (f2 b hb).1
  have st3 : tn 0 s3.heap := T.keep _ _ _ st2 fun b _ o e => by rw [h3]; exact Heap.get?_push_of_some _ e
  have I4 := block_start I3 ok hN f3
  have pg := hg s3 (upd H2 D (.lst [])) s3.heap.objs.size (cellsFrom (s3.heap.objs.size + 1) scope.names (cloFrom X.env.cells scope.names [])) fp
  have pt := ht s3 (upd H2 D (.lst [])) s3.heap.objs.size (cellsFrom (s3.heap.objs.size + 1) scope.names (cloFrom X.env.cells scope.names [])) fp
  have pe := hel s3 (upd H2 D (.lst [])) s3.heap.objs.size (cellsFrom (s3.heap.objs.size + 1) scope.names (cloFrom X.env.cells scope.names [])) fp
    (notedBy (model X.prog X.w) X.A (compEnvC scope (cellsFrom (s3.heap.objs.size + 1) scope.names (cloFrom X.env.cells scope.names [])) s3.heap.objs.size X.env)
      (CompFails (model X.prog X.w) X.A X.xe (compEnvC scope (cellsFrom (s3.heap.objs.size + 1) scope.names (cloFrom X.env.cells scope.names [])) s3.heap.objs.size X.env)))
    fun pins' σ' H' s' e s'' I1 c => blk_raises tk hst hf I3 (fun b hb => (f3 b hb).1) rfl rfl I1 c
  show codeAny _ _ (.compStart (.ListComp elt [⟨tg, iter, ifs, 0⟩] scope pos) 0 (.ref it) (.ref D) (compEnvC scope (cellsFrom (s3.heap.objs.size + 1) scope.names (cloFrom X.env.cells scope.names [])) s3.heap.objs.size X.env))
    (compEnds (model X.prog X.w) X.A X.xe none (EP X pins σ Q) (.ref D) (compEnvC scope (cellsFrom (s3.heap.objs.size + 1) scope.names (cloFrom X.env.cells scope.names [])) s3.heap.objs.size X.env))
    { s3 with heap := pushCells (s3.heap.push { cls := .type "dict", data := .dict #[] }) scope.names }
  have nfp : ∀ b ∈ fp, (upd H2 D (.lst [])) b = none := fun b hb => (f3 b hb).1.1
  generalize hce : compEnvC scope (cellsFrom (s3.heap.objs.size + 1) scope.names (cloFrom X.env.cells scope.names [])) s3.heap.objs.size X.env = ce at I4 pg pt pe ⊢
  have cL : ce.locals = s3.heap.objs.size := by subst hce; rfl
  generalize hH3 : upd H2 D (.lst []) = H3 at I3 I4 pg pt pe w0 nfp f3
  generalize hs4 : ({ s3 with heap := pushCells (s3.heap.push { cls := .type "dict", data := .dict #[] }) scope.names } : Shared) = s4 at I4 ⊢
  have st4 : tn 0 s4.heap := T.keep _ _ _ st3 fun b _ o e => by rw [← hs4]; exact pushCells_keeps _ _ _ _ (Heap.get?_push_of_some _ e)
  have stat : ∀ {σ' : L2.St} {H' : Hp} {s' : Shared}, Inv (X.blk s3 H3 scope ce fp) [] σ' H' s' → (∀ b ∈ fp, H' b = none) → ∀ b ∈ fp, FpOk (X.blk s3 H3 scope ce fp) [] H' b := fun {σ' H' s'} I' hn b hb =>
    ⟨hn b hb, (I'.ok.exf b hb).1, I'.ok.exfs b hb, .inl hb, fun x c e => (I'.ok.exf b hb).2 x c e, fun p hp => absurd (show p ∈ ([] : List (Addr × Obj)) ++ [] from hp) (by simp)⟩
  have loop : codeAny (model X.prog X.w) X.A (.compLoop (.ListComp elt [⟨tg, iter, ifs, 0⟩] scope pos) 0 (.ref it) (.ref D) ce) (compEnds (model X.prog X.w) X.A X.xe none (EP X pins σ Q) (.ref D) ce) s4 := by
    refine compLoop_any (fun n s' => ∃ i H', Inv (X.blk s3 H3 scope ce fp) [] (wipe σ (own.map (·.2))) H' s' ∧ tn i s'.heap ∧ (∀ b ∈ fp, H' b = none) ∧ W i n H') ?_ m0 ⟨0, H3, I4, st4, nfp, w0⟩
    rintro n s5 ⟨i, H5, I5, st5, n5, w5⟩
    rcases turn i n H5 w5 with ⟨stop, qq⟩ | ⟨go, Nx, hNx, step⟩
    · have td := T.done (X.blk s3 H3 scope ce fp) rfl rfl rfl hc i [] s5 _ H5 (fun _ _ => False) I5 (stat I5 n5) st5 stop
      refine thnF td fun r s6 ⟨hr, I6⟩ => ?_
      subst hr
      have I7 : Inv X pins σ H5 s6 := I3.call' (ch := fp) I6.os I6.base I6.hok I6.bare fun b hb => ⟨(f3 b hb).1.2.2.2.1, (f3 b hb).1.2.1, (f3 b hb).1.2.2.2.2.1, (f3 b hb).1.2.2.2.2.2⟩
      have nC : H5 ce.locals = none := I6.free
      obtain ⟨m, hn, _⟩ := I6.loc
      obtain ⟨g0, g1, g2, g3, g4, g5⟩ := I3.fpOk (H' := H5) (b := ce.locals) (Nat.le_of_eq cL.symm) nC
      exact ⟨m, hn, fun h'' sb => ⟨.ref D, H5, I7.turned (t' := s6.toks) (fun b o hb e => (sb.2 b hb).trans e) g0 g1 g3 g4 g5, rfl, qq⟩⟩
    · have ti := T.item (X.blk s3 H3 scope ce fp) rfl rfl rfl hc i [] s5 _ H5 (fun _ _ => False) I5 (stat I5 n5) st5 go
      refine thnF ti fun r s6 ⟨u, hr, h6⟩ => ?_
      subst hr
      refine thnF h6 fun _ s7 ⟨x, H7, I7, r7, y7, st7, n7⟩ => ?_
      have I7' := I7.pinned (stat I7 n7) (T.obj _ _ st7)
      refine thnF (pg.run _ s7 _ H7 x u _ I7' r7 (step x H7 y7)) fun _ s8 ⟨σ8, H8, I8, hw8, q8⟩ => ?_
      refine thnF (pt.run _ s8 σ8 H8 _ I8 q8) fun b s9 ⟨H9, I9, q9⟩ => ?_
      have fin : ∀ {s' : Shared} {H' : Hp}, Inv (X.blk s3 H3 scope ce fp) ([] ++ pinsAt fp s7.heap) σ8 H' s' → Nx H' → ∃ m, m < n ∧ ∃ i H', Inv (X.blk s3 H3 scope ce fp) [] (wipe σ (own.map (·.2))) H' s' ∧ tn i s'.heap ∧ (∀ b ∈ fp, H' b = none) ∧ W i m H' := fun {s' H'} I' nx => by
        obtain ⟨m', hm, w'⟩ := hNx H' nx
        have pin' : ∀ b ∈ fp, ∀ o, s7.heap.get? b = some o → s'.heap.get? b = some o ∧ H' b = none := fun b hb o e =>
          ⟨(I'.pin (b, o) (List.mem_append_right _ (List.mem_append_right _ (mem_pinsAt hb e)))).1, (I'.pin (b, o) (List.mem_append_right _ (List.mem_append_right _ (mem_pinsAt hb e)))).2.1⟩
        refine ⟨m', hm, i + 1, H', (I'.unpinned (pins := [])).weak (by rw [← hw8, wipe_length]) (fun j v e => ?_), T.keep _ _ _ st7 fun b hb o e => (pin' b hb o e).1, fun b hb => ?_, w'⟩
        · rw [← hw8] at e
          exact (wipe_some e).1
        · obtain ⟨o, e, _⟩ := T.obj _ _ st7 b hb
          exact (pin' b hb o e).2
      cases b with
      | false => exact fin I9 q9
      | true =>
        refine thn (pe.run _ s9 σ8 H9 _ (I9.wish _) q9) fun z s10 ⟨yv, H10, I10, r10, acc, hD10, hz10, nx⟩ => ?_
        exact app_ok (X := X.blk s3 H3 scope ce fp) (Inv.unwish I10) hD10 hz10 r10 fun s11 I11 => fin I11 nx
  exact codeAny_compStart_list loop (T.self X.A 0 _ _ _ st4 loop)
end
end CA
end file_CaComp
section file_CaSets
set_option maxRecDepth 100000
set_option maxHeartbeats 4000000
/-! set(xs) of a list: of ints; of tuples of ints, fewer than 63 of them unlike. One loop, one call, the adding told by the user. -/
namespace CA
open PySem PySem.Spec PyProof.Rows L2
section
variable {P : Program} {w : World} {A : Around} {E : Value → Shared → Prop} {s : Shared}
theorem set_loop {I : Addr} {fp wr : List Addr} {G : Array GenState → Array GenState → Prop} {n : Nat} {Pv : Nat → Value → Prop} {St : Nat → Shared → Prop} {R : Result → Shared → Prop}
    (W : WalksS P w A.in1 I fp wr G n Pv St) (S : Addr) (hSf : S ∉ fp) (h0 : Heap) (hS0 : h0.get? S = none) (hw0 : ∀ b ∈ wr, h0.get? b = none) (U : Nat → Heap → Prop)
    (keep : ∀ i h h', U i h → (∀ o, h.get? S = some o → h'.get? S = some o) → (∀ b o, h0.get? b = some o → h'.get? b = some o) → U i h')
    (step : ∀ (i : Nat) (v : Value) (s' : Shared) (Q : Bool → Shared → Prop) (E : Value → Shared → Prop), i < n → Pv i v → U i s'.heap → (∀ b o, h0.get? b = some o → s'.heap.get? b = some o) →
      (∀ b h' tk, Heap.SameBut S s'.heap h' → U (i + 1) h' → s'.toks ≤ tk → Q b { s' with heap := h', toks := tk }) → wpAny (model P w) A.in1 (setAdd S v) Q E s') :
    ∀ (k i : Nat) (s : Shared), n - i = k → i ≤ n → St i s → (∀ b o, h0.get? b = some o → s.heap.get? b = some o) → U i s.heap →
      (∀ s', Moved (S :: wr) G s s' → U n s'.heap → (∀ b o, h0.get? b = some o → s'.heap.get? b = some o) → R (.ok (.ret .none)) s') →
      codeAny (model P w) A (.builtin "set.update.loop" ⟨[.ref S, .ref I], []⟩) R s := by
  have notS : S ∉ wr := fun z => hSf (W.sub _ z)
  have more : ∀ b ∈ wr, b ∈ S :: wr := fun b hb => List.mem_cons_of_mem _ hb
  have stays : ∀ {s s' : Shared}, Moved wr G s s' → (∀ b o, h0.get? b = some o → s.heap.get? b = some o) → ∀ b o, h0.get? b = some o → s'.heap.get? b = some o := fun mv kp b o e =>
    mv.heap b o (fun hb => by rw [hw0 b hb] at e; cases e) (kp b o e)
  intro k
  induction k with
  | zero =>
    intro i s hk hi hst kp hU hR
    obtain rfl : i = n := by omega
    refine codeAny_builtin F.entry_set_update_loop ?_
    rw [Around.under_plainId F.plain_set_update_loop _]
    show wpAny _ A.in1 (pyNext (.ref I) >>= _) _ _ s
    refine wpAny_bind (W.done s _ _ hst fun s' mv => ?_)
    have kp' := stays mv kp
    exact wpAny_pure (hR s' (mv.mono more) (keep i _ _ hU (fun o e => mv.heap S o notS e) kp') kp')
  | succ k ih =>
    intro i s hk hi hst kp hU hR
    have hlt : i < n := by omega
    refine codeAny_builtin F.entry_set_update_loop ?_
    rw [Around.under_plainId F.plain_set_update_loop _]
    show wpAny _ A.in1 (pyNext (.ref I) >>= _) _ _ s
    refine wpAny_bind (W.item i s _ _ hlt hst fun v s' hP hst' mv => ?_)
    have kp' := stays mv kp
    show wpAny _ A.in1 (holding [v] (setAdd S v) >>= _) _ _ s'
    refine wpAny_bind (wpAny_holding (step i v s' _ _ hlt hP (keep i _ _ hU (fun o e => mv.heap S o notS e) kp') kp' fun b h' tk sb hU' ht => ?_))
    have kp2 : ∀ b o, h0.get? b = some o → h'.get? b = some o := fun b o e => (sb.2 b (fun z => by rw [z, hS0] at e; cases e)).trans (kp' b o e)
    refine wpAny_pure ⟨plainId_quiet F.plain_set_update_loop _, ih (i + 1) _ (by omega) hlt (W.frame _ s' _ _ hst' ht fun b hb o e => ?_) kp2 hU' fun s'' mv2 hU'' kp'' => ?_⟩
    · rw [sb.2 b fun z => hSf (by rw [← z]; exact hb)]
      exact e
    · refine hR s'' (Moved.trans W.gtrans ((mv.mono more).then_heap ht fun b o hb e => ?_) mv2) hU'' kp''
      rw [sb.2 b fun z => hb (by rw [z]; exact List.mem_cons_self)]
      exact e
set_option maxRecDepth 100000 in
set_option maxHeartbeats 3200000 in
/-- set(xs), xs a list: U i is what stands behind i items, S the new set -/
theorem call_set_of {l : Addr} {items : Array Value} {Q : Value → Shared → Prop} (hh : A.handled = none) (hl : s.heap.IsList l items) (U : Nat → Heap → Prop)
    (start : ∀ h : Heap, (∀ b o, s.heap.get? b = some o → h.get? b = some o) → h.get? s.heap.objs.size = some { cls := .type "set", dict := none, data := .set #[] 0 (.fresh 0 0 (!w.params.followText "set-order")) } → U 0 h)
    (keep : ∀ i h h', U i h → (∀ o, h.get? s.heap.objs.size = some o → h'.get? s.heap.objs.size = some o) → (∀ b o, s.heap.get? b = some o → h'.get? b = some o) → U i h')
    (step : ∀ (i : Nat) (v : Value) (s' : Shared) (Q : Bool → Shared → Prop) (E : Value → Shared → Prop), i < items.size → items[i]? = some v → U i s'.heap → (∀ b o, s.heap.get? b = some o → s'.heap.get? b = some o) →
      (∀ b h' tk, Heap.SameBut s.heap.objs.size s'.heap h' → U (i + 1) h' → s'.toks ≤ tk → Q b { s' with heap := h', toks := tk }) → wpAny (model P w) A.in1.in1.in1 (setAdd s.heap.objs.size v) Q E s')
    (h : ∀ (h' : Heap) (tk : Nat), U items.size h' → (∀ b o, s.heap.get? b = some o → h'.get? b = some o) → Q (.ref s.heap.objs.size) { s with heap := h', toks := tk }) :
    wpAny (model P w) A (call (.type "set") [.ref l]) Q E s := by
  obtain ⟨c, tl, hmro⟩ := F.called_set.mro
  have hmade := F.called_set.made
  have hsub := F.called_set.sub
  refine wpAny_call (codeAny_of_tree ?_)
  show wpAny _ _ (callAny (.type "set") _) _ _ _
  refine wpAny_pure ⟨Code.quiet_builtin _ (by decide +kernel), codeAny_builtin F.entry_type_call ?_⟩
  rw [Around.under_plain (weight_type_call_type "set" [.ref l] []) rfl]
  have h1 := F.called_set.notType
  have h2 := F.called_set.canCreate
  have hct := F.typeCall_set_1 (.ref l)
  repeat (any_goals (first | assumption | wp_step))

  generalize hob : ({ cls := .type "set", dict := none, data := .set #[] 0 (.fresh 0 0 (!w.params.followText "set-order")) } : Obj) = ob at start
  refine codeAny_mono (code_set_led1 (.ref l) (E := E) (Q₁ := fun obj s₁ => obj = .ref s.heap.objs.size ∧ s₁ = { s with heap := s.heap.push ob }) (by rw [← hob]; exact ⟨rfl, rfl⟩)) fun r s₁ hr => ?_
  cases r with
  | error e => exact hr
  | ok fl =>
    cases fl with
    | ret obj =>
      obtain ⟨rfl, rfl⟩ := hr
      have hS : (s.heap.push ob).get? s.heap.objs.size = some ob := by
        rw [← hob]
        exact Heap.get?_push_size _ rfl
      have hT : Shared.TypeIs { s with heap := s.heap.push ob } (.ref s.heap.objs.size) "set" := ⟨_, hS, by rw [← hob]⟩
      have hli := F.called_set.init.lookup
      have hbi := F.called_set.init.bind (.ref s.heap.objs.size)
      repeat (any_goals (first | assumption | wp_step))

      refine codeAny_mono (codeAny_call_builtin (R := wants (fun r s₂ => r = .none ∧ ∃ h' tk, s₂ = { s with heap := h', toks := tk } ∧ U items.size h' ∧ (∀ b o, s.heap.get? b = some o → h'.get? b = some o)) E) F.called_set.init.plain F.entry_set_init (check_set_init_1 hT ?_)) fun r₂ s₂ hr₂ => ?_
      · obtain ⟨ol, hol, hcl, nl, hdl⟩ := hl
        obtain ⟨ocls, odict, odata, oslots⟩ := ol
        simp only at hcl hdl
        subst hcl; subst hdl
        have hol' : (s.heap.push ob).get? l = some { cls := .type "list", dict := odict, data := .seq items nl, slots := oslots } := Heap.get?_push_of_some _ hol
        have hsls := F.sub_list_set
        have hslf := F.sub_list_frozenset
        have hne : (Value.type "list" == Value.type "dict") = false := by decide
        have hl1 : (s.heap.push ob).IsList l items := ⟨_, hol', rfl, nl, rfl⟩
        have hlS : l < s.heap.objs.size := Heap.lt_size hol
        have hh3 : A.in1.in1.in1.handled = none := by simp [hh]
        have sz1 : (s.heap.push ob).objs.size = s.heap.objs.size + 1 := Heap.size_push ..
        have hneI : l ≠ (s.heap.push ob).objs.size := by
          rw [sz1]; exact Nat.ne_of_lt (Nat.lt_succ_of_lt hlS)
        have hSf : s.heap.objs.size ∉ [(s.heap.push ob).objs.size, l] := by
          rw [sz1]; simp only [List.mem_cons, List.mem_singleton, List.not_mem_nil, or_false, not_or]
          exact ⟨Nat.ne_of_lt (Nat.lt_succ_self _), Nat.ne_of_gt hlS⟩
        subst hob
        unfold Builtin.«set.__init__» noKeywords Builtin.Frozenset.updateFrom
        generalize hPI : pyIter = PI
        wp_walk
        subst hPI

        refine wpAny_pyIter_list hl1 ?_
        refine wpAny_bind (wpAny_runValue ?_)
        have none_of : ∀ b, s.heap.objs.size ≤ b → s.heap.get? b = none := fun b hb => by
          cases q : s.heap.get? b with
          | none => rfl
          | some o => exact absurd (Nat.lt_of_lt_of_le (Heap.lt_size q) hb) (Nat.lt_irrefl _)
        refine set_loop ((Walks.list hh3 _ l hneI items).toS) s.heap.objs.size hSf s.heap (none_of _ (Nat.le_refl _)) (fun b hb => none_of b (by
            rw [List.mem_singleton.mp hb, sz1]
            exact Nat.le_succ _)) U keep (fun i v s' Q E hi hv => step i v s' Q E hi hv) (items.size - 0) 0 _ (by omega) (Nat.zero_le _)
          ⟨⟨_, Heap.get?_push_size _ rfl, rfl, rfl⟩, (hl1.push _)⟩ (fun b o e => Heap.get?_push_of_some _ (Heap.get?_push_of_some _ e)) ?hS0 ?hR
        case hS0 => exact start _ (fun b o e => Heap.get?_push_of_some _ (Heap.get?_push_of_some _ e)) (Heap.get?_push_of_some _ hS)
        case hR =>
          intro s' mv hU' kp'
          obtain ⟨h', g2, d', tk', os'⟩ := s'
          have eg : g2 = s.gens := mv.gens
          have ed : d' = s.drawn := mv.drawn
          have eo : os' = s.os := mv.os
          subst eg; subst ed; subst eo
          show wpAny _ _ _ _ _ _
          refine wpAny_pure ?_
          show wpAny _ _ (ret Value.none) _ _ _
          exact wpAny_pure ⟨rfl, h', tk', rfl, hU', kp'⟩

      · cases r₂ with
        | error e => exact hr₂
        | ok fl₂ =>
          cases fl₂ with
          | ret r =>
            obtain ⟨rfl, h', tk, rfl, hU', kp'⟩ := hr₂
            repeat (any_goals (first | assumption | wp_step))
            exact h _ _ hU' kp'
          | _ => exact hr₂.elim
    | _ => exact hr.elim
end
section
variable {X : Cx}
/-- set(xs) of ints -/
def rSetI (K : PySem.W.Frag) (w : World) : List V → Hp → VK → Prop := fun xs H Q => ∃ (l : Addr) (ns : List Int), xs = [V.ref l] ∧ SqL K H l (ns.map V.int) ∧ ns.length ≤ 4000 ∧
  ∀ a D, H a = none → D.Nodup → (∀ x ∈ D, x ∈ ns) → Q (.ref a) (upd H a (SetO w a (fun k => decide (k ∈ ns)) (D : List Int).length))
theorem cr_setI (hc : X.calm = true) : CallR X (.type "set") (rSetI X.K X.w) := by
  intro pins s σ H xs us Q I r h
  obtain ⟨l, ns, rfl, hl, hz, q⟩ := h
  rw [Vals.ref1 r]
  obtain ⟨its, rv, pl, _⟩ := I.list hl
  have hi : IntsAre its.toArray.toList ns := by simpa using ints_of_vals rv
  have hisz : its.toArray.size = ns.length := by
    have e := IntsAre.length hi
    rw [Array.length_toList] at e
    exact e
  have big : scanBound = 4096 := rfl
  have hn : H s.heap.objs.size = none := I.hok.fresh (Nat.le_refl _)
  refine call_set_of (P := X.prog) (w := X.w) (I.ok.hd hc) pl.isList (fun i h => ∃ D : List Int, D.length ≤ i ∧ D.Nodup ∧ (∀ x ∈ D, x ∈ ns.take i) ∧ SetR X.w h s.heap.objs.size (fun j => decide (j ∈ ns.take i)) D.length)
    (fun h _ e => ⟨[], Nat.le_refl 0, List.nodup_nil, fun _ h => (by cases h), setR_new_at e⟩) (fun i h h' ⟨D, hc, nd, sb, R⟩ kS _ => ⟨D, hc, nd, sb, R.at kS⟩) (fun i v s' Q E hlt hv ⟨D, hc, nd, sb, R⟩ _ k => ?_) fun h' tk ⟨D, hc, nd, sb, R⟩ kp => ?_
  · rw [hisz] at hlt
    obtain ⟨t, e⟩ := PyProof.Rows.IntsAre.int_at hi i v (by rw [Array.getElem?_toList]; exact hv)
    have hz' : ns[i]? = some (ns.getD i 0) := by
      rw [List.getD_eq_getElem?_getD, List.getElem?_eq_getElem hlt]
      rfl
    generalize ns.getD i 0 = z at e hz'
    subst e
    unfold setAdd
    refine wpAny_holding ?_
    refine wpAny_bind ((intKind X.prog X.w).pyHash (k := z) (intKind_is _ _ _ _) ?_)
    refine setR_add_hashed (s := { s' with toks := s'.toks + 1 }) R (by omega) fun h' hsb R2 => ?_
    have tk : ∀ j, j ∈ ns.take (i + 1) ↔ j ∈ ns.take i ∨ j = z := fun j => by
      rw [List.take_add_one, hz']
      simp [List.mem_append]
    by_cases hz2 : z ∈ ns.take i
    · rw [if_pos (decide_eq_true hz2)] at R2
      refine k _ h' (s'.toks + 1) hsb ⟨D, by omega, nd, fun x hx => (tk x).mpr (.inl (sb x hx)), R2.congr fun j => ?_⟩ (Nat.le_succ _)
      rw [List.take_add_one, hz']
      simp [List.mem_append]
    · rw [if_neg (by rw [decide_eq_false hz2]; exact Bool.false_ne_true)] at R2
      refine k _ h' (s'.toks + 1) hsb ⟨z :: D, by rw [List.length_cons]; omega, List.nodup_cons.mpr ⟨fun m => hz2 (sb z m), nd⟩, fun x hx => ?_, R2.congr fun j => ?_⟩ (Nat.le_succ _)
      · rcases List.mem_cons.mp hx with e | m
        · exact (tk x).mpr (.inr e)
        · exact (tk x).mpr (.inl (sb x m))
      · rw [List.take_add_one, hz']
        simp [List.mem_append]
  · rw [hisz] at hc R sb
    rw [List.take_length] at sb
    have R' : SetR X.w h' s.heap.objs.size (fun j => decide (j ∈ ns)) D.length := R.congr fun j => by rw [List.take_length]
    exact ⟨.ref s.heap.objs.size, upd H s.heap.objs.size (SetO X.w s.heap.objs.size (fun k => decide (k ∈ ns)) D.length), I.laid (t' := tk) kp (Nat.le_refl _) (setO_new R'), rfl, q _ D hn nd sb⟩
/-- set(xs) of tuples of ints -/
def rSetT (K : PySem.W.Frag) (P : Program) (w : World) : List V → Hp → VK → Prop := fun xs H Q => ∃ (l : Addr) (ks : List (Addr × List Int)), xs = [V.ref l] ∧ SqL K H l (ks.map fun p => V.ref p.1) ∧ (∀ p ∈ ks, SqT K H p.1 (p.2.map V.int)) ∧
  (∀ L : List (List Int), L.Nodup → (∀ x ∈ L, x ∈ ks.map (·.2)) → L.length < 63) ∧
  ∀ a L, H a = none → (∀ p ∈ L, p ∈ ks) → (∀ p ∈ ks, p.2 ∈ L.map (·.2)) → Q (.ref a) (upd H a (SetTO P w a L))
theorem cr_setT (hc : X.calm = true) (hu : X.A.units + 64 < cLine) : CallR X (.type "set") (rSetT X.K X.prog X.w) := by
  intro pins s σ H xs us Q I r h
  obtain ⟨l, ks, rfl, hl, hk, hf, q⟩ := h
  rw [Vals.ref1 r]
  obtain ⟨its, rv, pl, hz⟩ := I.list hl
  have hn : H s.heap.objs.size = none := I.hok.fresh (Nat.le_refl _)
  have hit : its = ks.map fun p => Value.ref p.1 := refs_of_vals rv
  have hisz : its.toArray.size = ks.length := by rw [hit]; simp
  have hkT : ∀ p ∈ ks, IsT X.prog X.w s.heap p.2 p.1 := fun p hp => I.isT (hk p hp)
  refine call_set_of (P := X.prog) (w := X.w) (I.ok.hd hc) pl.isList (fun i h => ∃ L es ep t, SetTR X.prog X.w h s.heap.objs.size L es ep t ∧ Got ks i L ∧ ∀ b o, s.heap.get? b = some o → h.get? b = some o)
    (fun h kp e => ⟨[], #[], 0, _, setTR_fresh e, Got.zero ks, kp⟩) (fun i h h' ⟨L, es, ep, t, R, g, _⟩ kS kp => ⟨L, es, ep, t, R.keep kS fun p hp => isT_keep (hkT p (List.mem_of_mem_take (g.sub p hp))) kp, g, kp⟩)
    (fun i v s' Q E hlt hv ⟨L, es, ep, t, R, g, _⟩ kp k => ?_) fun h' tk ⟨L, es, ep, t, R, g, _⟩ kp => ?_
  · rw [hisz] at hlt
    have hp : ks[i]? = some ks[i] := List.getElem?_eq_getElem hlt
    have hv' : v = .ref (ks[i]).1 := by
      rw [hit, List.getElem?_toArray, List.getElem?_map, hp] at hv
      exact (Option.some.inj hv).symm
    generalize ks[i] = p at hp hv'
    subst hv'
    have hx : IsT X.prog X.w s'.heap p.2 p.1 := isT_keep (hkT p (List.mem_of_getElem? hp)) kp
    have few : L.length < 63 := by
      have := hf (L.map (·.2)) R.nd fun x hx => by
        obtain ⟨y, hy, rfl⟩ := List.mem_map.mp hx
        exact List.mem_map.mpr ⟨y, List.mem_of_mem_take (g.sub y hy), rfl⟩
      rw [List.length_map] at this
      exact this
    have hu3 : X.A.in1.in1.in1.units < cLine := by simp; omega
    unfold setAdd
    refine wpAny_holding ?_
    refine wpAny_bind (wpAny_pyHash_tuple hu3 hx ?_)
    refine add_at (s := { s' with toks := s'.toks + (p.2.length + 1) }) R hx hu3 (by omega) fun b h' L' es' ep' t' hsb R2 c1 c2 => ?_
    have kp' : ∀ b o, s.heap.get? b = some o → h'.get? b = some o := fun b o e => (hsb.2 b (Nat.ne_of_lt (Heap.lt_size e))).trans (kp b o e)
    refine k b h' _ hsb ⟨L', es', ep', t', R2, ?_, kp'⟩ (Nat.le_add_right _ _)
    rcases Classical.em (p.2 ∈ L.map (·.2)) with c | c
    · rw [c1 c]; exact g.same hp c
    · exact g.more hp (c2 c)
  · rw [hisz] at g
    refine ⟨.ref s.heap.objs.size, upd H s.heap.objs.size (SetTO X.prog X.w s.heap.objs.size L), I.laid (t' := tk) kp (Nat.le_refl _) (setTO_new R.t0), rfl, q _ L hn (fun p hp => ?_) fun p hp => ?_⟩
    · exact List.mem_of_mem_take (g.sub p hp)
    · exact g.all p (by rw [List.take_length]; exact hp)
end
end CA
end file_CaSets
section file_CaStr
set_option maxRecDepth 100000
set_option maxHeartbeats 4000000
/-! Texts as lists of codes: what the str methods give, in Cl01's words. -/
namespace CA
open PySem PySem.Spec PyProof.Rows L2
open SX (S)
open Cl01 (parted joined digitsOf two)
theorem decS (a b : List Nat) : decide (S a = S b) = decide (a = b) := decide_eq_decide.mpr ⟨SX.S_inj, congrArg S⟩
theorem parted_ne (c : Nat) : ∀ l : List Nat, parted c l ≠ []
  | [] => by simp [parted]
  | x :: l => by
    unfold parted
    split
    · simp
    · split <;> simp
theorem spl_parted (c : Nat) : ∀ (l acc : List Nat), TL.spl [c] 0 acc l = match parted c l with
    | [] => []
    | w :: r => (acc ++ w) :: r
  | [], acc => by
    show [acc] = [acc ++ []]
    rw [List.append_nil]
  | x :: l, acc => by
    unfold parted
    by_cases h : x = c
    · subst h
      rw [if_pos rfl, TL.spl_hit (by simp [TL.pre])]
      show acc :: TL.spl [x] 0 [] l = (acc ++ []) :: parted x l
      rw [List.append_nil, spl_parted x l []]
      cases e : parted x l with
      | nil => exact absurd e (parted_ne x l)
      | cons w r => rfl
    · rw [if_neg h, TL.spl_miss (by simp [TL.pre, h]), spl_parted c l (acc ++ [x])]
      cases e : parted c l with
      | nil => exact absurd e (parted_ne c l)
      | cons w r =>
        show (acc ++ [x] ++ w) :: r = (acc ++ (x :: w)) :: r
        rw [List.append_assoc]
        rfl
theorem split_eq (c : Nat) (hc : c < 256) (l : List Nat) : Txt.split (S l) (S [c]) = (parted c l).map S := by
  rw [SX.split_S (List.cons_ne_nil _ _) (by simp [hc]), spl_parted c l []]
  cases e : parted c l with
  | nil => exact absurd e (parted_ne c l)
  | cons w r => rfl
theorem joinL_one (c : Nat) : ∀ ls : List (List Nat), TL.joinL [c] ls = joined c ls
  | [] => rfl
  | [w] => rfl
  | w :: v :: r => by
    show w ++ ([c] ++ TL.joinL [c] (v :: r)) = w ++ c :: joined c (v :: r)
    rw [joinL_one c (v :: r)]
    rfl
theorem join_eq (c : Nat) (ls : List (List Nat)) : Txt.join (S [c]) (ls.map S) = S (joined c ls) := by
  rw [SX.join_S, joinL_one]
theorem joinL_nil : ∀ cs : List Nat, TL.joinL [] (cs.map fun c => [c]) = cs
  | [] => rfl
  | [c] => rfl
  | c :: d :: r => by
    show [c] ++ ([] ++ TL.joinL [] ((d :: r).map fun c => [c])) = c :: d :: r
    rw [joinL_nil (d :: r)]
    rfl
theorem join_signs (cs : List Nat) : Txt.join (S []) (cs.map fun c => S [c]) = S cs := by
  have e := SX.join_S [] (cs.map fun c => [c])
  rw [List.map_map, joinL_nil] at e
  exact e
theorem joined_parted (c : Nat) : ∀ l : List Nat, joined c (parted c l) = l
  | [] => rfl
  | x :: l => by
    have ih := joined_parted c l
    unfold parted
    by_cases h : x = c
    · subst h
      rw [if_pos rfl]
      cases e : parted x l with
      | nil => exact absurd e (parted_ne x l)
      | cons w r =>
        rw [e] at ih
        show [] ++ x :: joined x (w :: r) = x :: l
        rw [ih]
        rfl
    · rw [if_neg h]
      cases e : parted c l with
      | nil => exact absurd e (parted_ne c l)
      | cons w r =>
        rw [e] at ih
        show joined c ((x :: w) :: r) = x :: l
        rw [← ih]
        cases r <;> rfl
/-! ### digits -/
theorem digit_ascii : ∀ c, c < 128 → Unicode.isDigit c = (decide (48 ≤ c) && decide (c ≤ 57)) := by decide +kernel
theorem isdigit_eq {w : List Nat} (h : ∀ c ∈ w, c < 128) : Txt.isdigit (S w) = (!w.isEmpty && w.all fun c => decide (48 ≤ c) && decide (c ≤ 57)) := by
  unfold Txt.isdigit
  have e1 : decide ((S w).length > 0) = !w.isEmpty := by
    rw [SX.S_len]
    cases w <;> simp
  have e2 : (S w).cps.all Unicode.isDigit = w.all fun c => decide (48 ≤ c) && decide (c ≤ 57) := by
    rw [← Array.all_toList]
    show w.all Unicode.isDigit = _
    rw [Bool.eq_iff_iff, List.all_eq_true, List.all_eq_true]
    exact ⟨fun k c hc => by rw [← digit_ascii c (h c hc)]; exact k c hc, fun k c hc => by rw [digit_ascii c (h c hc)]; exact k c hc⟩
  rw [e1, e2]
theorem val_eq (w : List Nat) : NumText.digitsVal w = w.foldl (fun (n c : Nat) => 10 * n + (c - 48)) 0 := by
  unfold NumText.digitsVal
  have e : (fun (acc c : Nat) => acc * 10 + (c - 48)) = fun (n c : Nat) => 10 * n + (c - 48) := by
    funext a c
    omega
  rw [e]
theorem int_eq {w : List Nat} (h : w.all (fun c => decide (48 ≤ c) && decide (c ≤ 57)) = true) (hne : w ≠ []) (hl : w.length ≤ 640) : PySem.intText? (S w) = some ((w.foldl (fun (n c : Nat) => 10 * n + (c - 48)) 0 : Nat) : Int) := by
  rw [← val_eq]
  exact SX.int_S h hne (by omega)
theorem fold_lt : ∀ (w : List Nat) (a : Nat), w.all (fun c => decide (48 ≤ c) && decide (c ≤ 57)) = true → w.foldl (fun (n c : Nat) => 10 * n + (c - 48)) a < (a + 1) * 10 ^ w.length
  | [], a, _ => by simp
  | c :: w, a, h => by
    rw [List.all_cons, Bool.and_eq_true, Bool.and_eq_true, decide_eq_true_eq, decide_eq_true_eq] at h
    have ih := fold_lt w (10 * a + (c - 48)) h.2
    rw [List.foldl_cons, List.length_cons, Nat.pow_succ]
    have h1 : 10 * a + (c - 48) + 1 ≤ (a + 1) * 10 := by omega
    have h2 := Nat.mul_le_mul_right (10 ^ w.length) h1
    have e : (a + 1) * 10 * 10 ^ w.length = (a + 1) * (10 ^ w.length * 10) := by
      rw [Nat.mul_assoc, Nat.mul_comm 10]
    omega
/-! ### numbers as texts -/
theorem num1 {n : Nat} (h : n < 10) : TL.numL n = [48 + n] := TL.numL_lt h
theorem num2 {n : Nat} (h : 10 ≤ n) (h2 : n < 100) : TL.numL n = [48 + n / 10, 48 + n % 10] := by
  rw [TL.numL_step h, TL.numL_lt (by omega)]
  rfl
theorem digitsOf_eq : ∀ (f n : Nat), 0 < f → n < 10 ^ f → digitsOf f n = TL.numL n
  | 0, n, h, _ => absurd h (Nat.lt_irrefl 0)
  | f + 1, n, _, h => by
    unfold digitsOf
    by_cases h10 : n < 10
    · rw [if_pos h10, TL.numL_lt h10]
    · rw [if_neg h10, TL.numL_step (by omega)]
      cases f with
      | zero => simp at h; omega
      | succ f => rw [digitsOf_eq (f + 1) (n / 10) (Nat.succ_pos _) (by rw [Nat.pow_succ] at h; omega)]
theorem str_num (n : Nat) (h : n < 10000) : Str.ofString (toString ((n : Nat) : Int)) = S (digitsOf 4 n) := by
  rw [SX.num_S, digitsOf_eq 4 n (by decide) h]
theorem num_len (n : Nat) (h : n < 10000) : (digitsOf 4 n).length ≤ 4 := by
  rw [digitsOf_eq 4 n (by decide) h]
  exact TL.numL_len (by decide) h
theorem log_small (n : Nat) (h : n < 10000) : ((n : Nat) : Int).natAbs.log2 < 1920 := by
  rw [Int.natAbs_natCast]
  by_cases h0 : n = 0
  · subst h0; decide
  · have : n.log2 < 14 := (Nat.log2_lt h0).mpr (by omega)
    omega
theorem zfill_two (n : Nat) (h : n < 100) : Txt.zfill (Str.ofString (toString ((n : Nat) : Int))) 2 = S (two n) := by
  rw [SX.num_S]
  by_cases h10 : n < 10
  · have e : TL.numL n = [48 + n] := num1 h10
    rw [e]
    unfold two
    have e1 : n / 10 = 0 := by omega
    have e2 : n % 10 = n := by omega
    rw [e1, e2]
    have hn : n = 0 ∨ n = 1 ∨ n = 2 ∨ n = 3 ∨ n = 4 ∨ n = 5 ∨ n = 6 ∨ n = 7 ∨ n = 8 ∨ n = 9 := by omega
    rcases hn with rfl | rfl | rfl | rfl | rfl | rfl | rfl | rfl | rfl | rfl <;> rfl
  · rw [num2 (by omega) h]
    unfold Txt.zfill
    rw [if_pos (by rw [SX.S_len]; exact Int.le_refl 2)]
    rfl
/-! ### slices, signs -/
theorem cut_from (w : List Nat) (i : Nat) : cutS (S w) (some (i : Int)) none = S (w.drop i) := by
  unfold cutS
  have e : (S w).cps.toList = w := rfl
  rw [e, SX.S_len, HT.sIx_nat, HT.sIx_none]
  by_cases h : i ≤ w.length
  · rw [Nat.min_eq_left h, List.take_of_length_le (by rw [List.length_drop]; exact Nat.le_refl _)]
  · rw [Nat.min_eq_right (by omega), List.drop_eq_nil_of_le (Nat.le_refl _), List.drop_eq_nil_of_le (by omega), List.take_nil]
theorem cut_to (w : List Nat) (i j : Nat) (hi : i ≤ j) (hj : j ≤ w.length) : cutS (S w) (some (i : Int)) (some (j : Int)) = S ((w.drop i).take (j - i)) := by
  unfold cutS
  have e : (S w).cps.toList = w := rfl
  rw [e, SX.S_len, HT.sIx_nat, HT.sIx_nat, Nat.min_eq_left hj, Nat.min_eq_left (Nat.le_trans hi hj)]
theorem starts_minus (w : List Nat) : Txt.startswith (S w) (S [45]) = (w.headD 0 == 45) := by
  unfold Txt.startswith
  cases w with
  | nil => rfl
  | cons c r =>
    have e1 : decide (0 + (S [45]).length ≤ (S (c :: r)).length) = true := by
      rw [SX.S_len, SX.S_len]
      exact decide_eq_true (by simp)
    rw [e1, Bool.true_and]
    show (((c :: r).toArray.extract 0 (0 + 1)) == #[45]) = (c == 45)
    rw [show ((c :: r).toArray.extract 0 (0 + 1)) = #[c] by simp]
    by_cases h : c = 45
    · subst h; rfl
    · have : (c == 45) = false := by simpa using h
      rw [this]
      simp [h]
end CA
end file_CaStr
section file_CaHaving
set_option maxRecDepth 100000
/-! A rule's days: what the program's lists are against Cl01.comes, Cl01.days. Plain Lean. -/
namespace CA
open Cl01
structure ItOk (i : Item) : Prop where
  s : i.sort < 4
  k1 : 1 ≤ i.k
  k31 : i.k ≤ 31
  k5 : 2 ≤ i.sort → i.k ≤ 5
  w7 : i.w < 7
  w0 : i.sort < 2 → i.w = 0
/-- what a rule that was read has -/
structure ROk (r : Rule) : Prop where
  freq : r.freq < 4
  by1 : 1 ≤ r.by_
  by99 : r.by_ ≤ 99
  wd : ∀ x ∈ r.weekdays, x < 7
  uwd : Up r.weekdays
  it : ∀ i ∈ r.items, ItOk i
  lit : r.items.length ≤ 63
  ms : ∀ x ∈ r.months, 1 ≤ x ∧ x ≤ 12
  ums : Up r.months
  start : r.start < 36525
  halt : r.halt_ ≤ 2
  until_ : r.halt_ = 1 → r.last < 36525
  times : r.halt_ = 2 → 1 ≤ r.last ∧ r.last ≤ 999
  nt : ∀ x ∈ r.not_, x < 36525
  unt : Up r.not_
  al : ∀ x ∈ r.also, x < 36525
  ual : Up r.also
  w0 : r.freq < 2 → r.items = [] ∧ r.months = []
  w2 : 2 ≤ r.freq → r.weekdays = []
theorem ROk.lwd {r : Rule} (h : ROk r) : r.weekdays.length ≤ 7 := up_length h.uwd h.wd
theorem ROk.lms {r : Rule} (h : ROk r) : r.months.length ≤ 13 := up_length h.ums fun x hx => by have := (h.ms x hx).2; omega
theorem ROk.lnt {r : Rule} (h : ROk r) : r.not_.length ≤ 36525 := up_length h.unt h.nt
theorem ROk.lal {r : Rule} (h : ROk r) : r.also.length ≤ 36525 := up_length h.ual h.al
/-! ### daily -/
def dailyCnt (r : Rule) : Nat := (36525 - r.start + r.by_ - 1) / r.by_
def dailyM (r : Rule) : List Nat := ((List.range (dailyCnt r)).map fun k => r.start + k * r.by_).filter fun n => r.weekdays.isEmpty || r.weekdays.contains (weekday n)
theorem filterMap_if {α β : Type} (g : α → β) (p : β → Prop) [DecidablePred p] : ∀ l : List α, l.filterMap (fun k => if p (g k) then some (g k) else none) = (l.map g).filter fun x => decide (p x)
  | [] => rfl
  | a :: l => by
    rw [List.filterMap_cons, List.map_cons, List.filter_cons, ← filterMap_if g p l]
    by_cases h : p (g a)
    · simp [h]
    · simp [h]
theorem comes_daily {r : Rule} (h : r.freq = 0) : comes r = (dailyM r).filter fun n => decide (r.start ≤ n) && decide (n < 36525) := by
  unfold comes dailyM dailyCnt
  rw [h]
  show List.filter _ (List.filterMap _ _) = _
  have e := filterMap_if (fun k => r.start + k * r.by_) (fun n => r.weekdays.isEmpty = true ∨ r.weekdays.contains (weekday n) = true) (List.range ((36525 - r.start + r.by_ - 1) / r.by_))
  have e2 : (fun x => decide (r.weekdays.isEmpty = true ∨ r.weekdays.contains (weekday x) = true)) = fun n => r.weekdays.isEmpty || r.weekdays.contains (weekday n) := by
    funext x
    rw [Bool.decide_or, Bool.decide_eq_true, Bool.decide_eq_true]
  rw [e2] at e
  exact congrArg _ e
/-! ### weekly -/
def weeklyCnt (r : Rule) : Nat := (5219 - week r.start + r.by_ - 1) / r.by_
def wdsOf (r : Rule) : List Nat := if r.weekdays.isEmpty = true then [weekday r.start] else r.weekdays
/-- as the program makes them: those of the first week may lie below 0 -/
def weeklyM (r : Rule) : List Int := (List.range (weeklyCnt r)).flatMap fun k : Nat => (wdsOf r).map fun w : Nat => 7 * ((week r.start : Int) + (k : Int) * (r.by_ : Int)) - 5 + (w : Int)
/-- what repeated_days keeps of a list -/
def keep (r : Rule) (l : List Int) : List Int := l.filter fun z => decide ((r.start : Int) ≤ z) && decide (z ≤ 36524)
theorem keep_append (r : Rule) (l m : List Int) : keep r (l ++ m) = keep r l ++ keep r m := List.filter_append ..
theorem keep_nats (r : Rule) : ∀ l : List Nat, keep r (l.map fun n : Nat => (n : Int)) = (l.filter fun n => decide (r.start ≤ n) && decide (n < 36525)).map fun n : Nat => (n : Int)
  | [] => rfl
  | a :: l => by
    have ih := keep_nats r l
    unfold keep at ih ⊢
    have e : (decide ((r.start : Int) ≤ (a : Int)) && decide ((a : Int) ≤ 36524)) = (decide (r.start ≤ a) && decide (a < 36525)) := by
      rw [show decide ((r.start : Int) ≤ (a : Int)) = decide (r.start ≤ a) from decide_eq_decide.mpr (by omega), show decide ((a : Int) ≤ 36524) = decide (a < 36525) from decide_eq_decide.mpr (by omega)]
    rw [List.map_cons, List.filter_cons, List.filter_cons, e, ih]
    split <;> rfl
theorem flat_map_keep {α : Type} (r : Rule) (f : α → List Int) (g : α → List Nat) (h : ∀ a, keep r (f a) = ((g a).filter fun n => decide (r.start ≤ n) && decide (n < 36525)).map fun n : Nat => (n : Int)) :
    ∀ l : List α, keep r (l.flatMap f) = ((l.flatMap g).filter fun n => decide (r.start ≤ n) && decide (n < 36525)).map fun n : Nat => (n : Int)
  | [] => rfl
  | a :: l => by
    rw [List.flatMap_cons, List.flatMap_cons, keep_append, h a, flat_map_keep r f g h l, List.filter_append, List.map_append]
theorem one_week (r : Rule) (k : Nat) : ∀ l : List Nat, keep r (l.map fun w : Nat => 7 * ((week r.start : Int) + (k : Int) * (r.by_ : Int)) - 5 + (w : Int)) =
    ((l.filterMap fun (w : Nat) => if 7 * (week r.start + k * r.by_) + w < 5 then none else some (7 * (week r.start + k * r.by_) + w - 5)).filter fun n => decide (r.start ≤ n) && decide (n < 36525)).map fun n : Nat => (n : Int)
  | [] => rfl
  | w :: l => by
    have ih := one_week r k l
    unfold keep at ih ⊢
    rw [List.map_cons, List.filter_cons, List.filterMap_cons, ih]
    have cast : ((k * r.by_ : Nat) : Int) = (k : Int) * (r.by_ : Int) := Int.natCast_mul k r.by_
    generalize k * r.by_ = kb at cast ⊢
    rw [← cast]
    by_cases c : 7 * (week r.start + kb) + w < 5
    · have e : decide ((r.start : Int) ≤ 7 * ((week r.start : Int) + (kb : Int)) - 5 + (w : Int)) = false := decide_eq_false (by omega)
      rw [e]
      simp only [c, if_true, Bool.false_and, Bool.false_eq_true, if_false]
    · simp only [c, if_false]
      rw [List.filter_cons]
      have e : (7 * ((week r.start : Int) + (kb : Int)) - 5 + (w : Int)) = ((7 * (week r.start + kb) + w - 5 : Nat) : Int) := by omega
      rw [e]
      generalize 7 * (week r.start + kb) + w - 5 = n
      have e2 : (decide ((r.start : Int) ≤ (n : Int)) && decide ((n : Int) ≤ 36524)) = (decide (r.start ≤ n) && decide (n < 36525)) := by
        rw [show decide ((r.start : Int) ≤ (n : Int)) = decide (r.start ≤ n) from decide_eq_decide.mpr (by omega), show decide ((n : Int) ≤ 36524) = decide (n < 36525) from decide_eq_decide.mpr (by omega)]
      rw [e2]
      split <;> rfl
theorem comes_weekly {r : Rule} (h : r.freq = 1) (ok : ROk r) : (comes r).map (fun n : Nat => (n : Int)) = keep r (weeklyM r) := by
  have hb := ok.by1
  have hw : week r.start ≤ 5218 := by
    have := ok.start
    unfold week
    omega
  have hc : weeklyCnt r = (week DAYS - week r.start) / r.by_ + 1 := by
    unfold weeklyCnt
    have e : week DAYS = 5218 := by decide
    rw [e, show 5219 - week r.start + r.by_ - 1 = (5218 - week r.start) + r.by_ by omega, Nat.add_div_right _ (by omega)]
  unfold comes weeklyM
  rw [h, hc]
  show List.map _ (List.filter _ (List.flatMap _ _)) = _
  rw [flat_map_keep r _ _ (fun k => one_week r k (wdsOf r))]
  rfl
theorem comes_daily' {r : Rule} (h : r.freq = 0) : (comes r).map (fun n : Nat => (n : Int)) = keep r ((dailyM r).map fun n : Nat => (n : Int)) := by
  rw [keep_nats, comes_daily h]
/-! ### a month's days -/
def picksOf (r : Rule) : List Item := if r.items.isEmpty = true then [⟨0, domOf r.start, 0⟩] else r.items
/-- the day of the month that an item stands for -/
def pickDay (n fw : Nat) (i : Item) : Int := match i.sort with
  | 0 => (i.k : Int)
  | 1 => (n : Int) + 1 - i.k
  | 2 => 1 + ((i.w : Int) - fw) % 7 + 7 * ((i.k : Int) - 1)
  | _ => (n : Int) - ((((fw : Int) + n - 1) % 7) - i.w) % 7 - 7 * ((i.k : Int) - 1)
def monthM (items : List Item) (y m : Nat) : List Nat := ((List.range (monthDays y m)).filter fun (j : Nat) => (items.map (pickDay (monthDays y m) (weekday (monthStart y m)))).contains ((j : Int) + 1)).map fun j => monthStart y m + j
theorem pick_iff (y m : Nat) (i : Item) (ok : ItOk i) (x : Nat) : itemDay y m i = some x ↔ ∃ j : Nat, j < monthDays y m ∧ pickDay (monthDays y m) (weekday (monthStart y m)) i = (j : Int) + 1 ∧ x = monthStart y m + j := by
  have hn := monthDays_pos y m
  obtain ⟨hs, k1, k31, k5, w7, w0⟩ := ok
  obtain ⟨s, k, w⟩ := i
  dsimp only at hs k1 k31 k5 w7 w0
  have main : ∀ n f : Nat, 28 ≤ n → (
      (match (generalizing := false) s with
      | 0 => if k ≤ n then some (f + k - 1) else none
      | 1 => if k ≤ n then some (f + n - k) else none
      | 2 => if f + (w + 7 - (f + 5) % 7) % 7 + 7 * (k - 1) < f + n then some (f + (w + 7 - (f + 5) % 7) % 7 + 7 * (k - 1)) else none
      | _ => if f + 7 * (k - 1) ≤ f + n - 1 - ((f + n - 1 + 5) % 7 + 7 - w) % 7 then some (f + n - 1 - ((f + n - 1 + 5) % 7 + 7 - w) % 7 - 7 * (k - 1)) else none) = some x ↔
      ∃ j : Nat, j < n ∧ (match (generalizing := false) s with
      | 0 => (k : Int)
      | 1 => (n : Int) + 1 - k
      | 2 => 1 + ((w : Int) - ((f + 5) % 7 : Nat)) % 7 + 7 * ((k : Int) - 1)
      | _ => (n : Int) - ((((((f + 5) % 7 : Nat) : Int) + n - 1) % 7) - w) % 7 - 7 * ((k : Int) - 1)) = (j : Int) + 1 ∧ x = f + j) := fun n f hn => by
    have hk : s = 0 ∨ s = 1 ∨ s = 2 ∨ s = 3 := by omega
    rcases hk with rfl | rfl | rfl | rfl
    · show (if k ≤ n then some (f + k - 1) else none) = some x ↔ ∃ j : Nat, j < n ∧ (k : Int) = (j : Int) + 1 ∧ x = f + j
      constructor
      · intro h
        split at h
        · exact ⟨k - 1, by omega, by omega, by have := Option.some.inj h; omega⟩
        · cases h
      · rintro ⟨j, h1, h2, rfl⟩
        rw [if_pos (by omega)]
        exact congrArg some (by omega)
    · show (if k ≤ n then some (f + n - k) else none) = some x ↔ ∃ j : Nat, j < n ∧ (n : Int) + 1 - k = (j : Int) + 1 ∧ x = f + j
      constructor
      · intro h
        split at h
        · exact ⟨n - k, by omega, by omega, by have := Option.some.inj h; omega⟩
        · cases h
      · rintro ⟨j, h1, h2, rfl⟩
        rw [if_pos (by omega)]
        exact congrArg some (by omega)
    · show (if f + (w + 7 - (f + 5) % 7) % 7 + 7 * (k - 1) < f + n then some (f + (w + 7 - (f + 5) % 7) % 7 + 7 * (k - 1)) else none) = some x ↔ ∃ j : Nat, j < n ∧ 1 + ((w : Int) - ((f + 5) % 7 : Nat)) % 7 + 7 * ((k : Int) - 1) = (j : Int) + 1 ∧ x = f + j
      have hf : (((w : Int) - ((f + 5) % 7 : Nat)) % 7) = (((w + 7 - (f + 5) % 7) % 7 : Nat) : Int) := by omega
      rw [hf]
      have hk5 := k5 (by omega)
      generalize (w + 7 - (f + 5) % 7) % 7 = d
      constructor
      · intro h
        split at h
        · exact ⟨d + 7 * (k - 1), by omega, by omega, by have := Option.some.inj h; omega⟩
        · cases h
      · rintro ⟨j, h1, h2, rfl⟩
        rw [if_pos (by omega)]
        exact congrArg some (by omega)
    · show (if f + 7 * (k - 1) ≤ f + n - 1 - ((f + n - 1 + 5) % 7 + 7 - w) % 7 then some (f + n - 1 - ((f + n - 1 + 5) % 7 + 7 - w) % 7 - 7 * (k - 1)) else none) = some x ↔
        ∃ j : Nat, j < n ∧ (n : Int) - ((((((f + 5) % 7 : Nat) : Int) + n - 1) % 7) - w) % 7 - 7 * ((k : Int) - 1) = (j : Int) + 1 ∧ x = f + j
      have hf : ((((((f + 5) % 7 : Nat) : Int) + n - 1) % 7 - w) % 7) = ((((f + n - 1 + 5) % 7 + 7 - w) % 7 : Nat) : Int) := by omega
      rw [hf]
      have hk5 := k5 (by omega)
      have hd : ((f + n - 1 + 5) % 7 + 7 - w) % 7 < 7 := Nat.mod_lt _ (by decide)
      generalize ((f + n - 1 + 5) % 7 + 7 - w) % 7 = d at hd ⊢
      constructor
      · intro h
        split at h
        · exact ⟨n - 1 - d - 7 * (k - 1), by omega, by omega, by have := Option.some.inj h; omega⟩
        · cases h
      · rintro ⟨j, h1, h2, rfl⟩
        rw [if_pos (by omega)]
        exact congrArg some (by omega)
  exact main (monthDays y m) (monthStart y m) hn
theorem up_range_map (f : Nat) : ∀ (n : Nat) (p : Nat → Bool), Up (((List.range n).filter p).map fun j => f + j) := fun n p => by
  refine List.pairwise_map.mpr ((List.pairwise_lt_range.filter p).imp fun h => ?_)
  omega
theorem monthM_eq (items : List Item) (ok : ∀ i ∈ items, ItOk i) (y m : Nat) : monthM items y m = sorted (items.filterMap (itemDay y m)) := by
  refine sorted_of (up_range_map _ _ _) fun x => ?_
  unfold monthM
  rw [List.mem_map, List.mem_filterMap]
  constructor
  · rintro ⟨j, hj, rfl⟩
    rw [List.mem_filter, List.mem_range] at hj
    have z : ((j : Int) + 1) ∈ items.map (pickDay (monthDays y m) (weekday (monthStart y m))) := by simpa using hj.2
    obtain ⟨i, hi, e⟩ := List.mem_map.mp z
    exact ⟨i, hi, (pick_iff y m i (ok i hi) _).mpr ⟨j, hj.1, e, rfl⟩⟩
  · rintro ⟨i, hi, e⟩
    obtain ⟨j, h1, h2, rfl⟩ := (pick_iff y m i (ok i hi) _).mp e
    refine ⟨j, List.mem_filter.mpr ⟨List.mem_range.mpr h1, ?_⟩, rfl⟩
    have z : ((j : Int) + 1) ∈ items.map (pickDay (monthDays y m) (weekday (monthStart y m))) := List.mem_map.mpr ⟨i, hi, h2⟩
    simpa using z
theorem picksOf_ok {r : Rule} (ok : ROk r) : ∀ i ∈ picksOf r, ItOk i := by
  unfold picksOf
  intro i hi
  split at hi
  · rw [List.mem_singleton.mp hi]
    exact ⟨(by decide : (0 : Nat) < 4), domOf_pos _, domOf_le31 _, fun z => absurd z (by decide : ¬ 2 ≤ (0 : Nat)), (by decide : (0 : Nat) < 7), fun _ => rfl⟩
  · exact ok.it i hi
theorem inMonth_eq {r : Rule} (ok : ROk r) (y m : Nat) : inMonth r y m = monthM (picksOf r) y m := (monthM_eq _ (picksOf_ok ok) y m).symm
theorem monthM_len (items : List Item) (y m : Nat) : (monthM items y m).length ≤ 31 := by
  unfold monthM
  rw [List.length_map]
  have h1 := List.length_filter_le (fun (j : Nat) => (items.map (pickDay (monthDays y m) (weekday (monthStart y m)))).contains ((j : Int) + 1)) (List.range (monthDays y m))
  rw [List.length_range] at h1
  have := monthDays_le y m
  omega
/-! ### monthly, yearly -/
def firstPlace (r : Rule) : Nat := 12 * yearOf r.start + monthOf r.start - 1
def monthlyCnt (r : Rule) : Nat := (1200 - firstPlace r + r.by_ - 1) / r.by_
def monthlyOne (r : Rule) (i : Nat) : List Nat := if r.months.isEmpty || r.months.contains (i % 12 + 1) then monthM (picksOf r) (i / 12) (i % 12 + 1) else []
def monthlyM (r : Rule) : List Nat := (List.range (monthlyCnt r)).flatMap fun k => monthlyOne r (firstPlace r + k * r.by_)
theorem firstPlace_lt {r : Rule} (ok : ROk r) : firstPlace r ≤ 1199 := by
  have a := yearOf_lt ok.start
  have b := monthOf_le r.start
  have c := monthOf_pos r.start
  unfold firstPlace
  omega
theorem comes_monthly {r : Rule} (h : r.freq = 2) (ok : ROk r) : (comes r).map (fun n : Nat => (n : Int)) = keep r ((monthlyM r).map fun n : Nat => (n : Int)) := by
  have hb := ok.by1
  have hp := firstPlace_lt ok
  have hc : monthlyCnt r = (1199 - (12 * yearOf r.start + monthOf r.start - 1)) / r.by_ + 1 := by
    unfold monthlyCnt
    rw [show 1200 - firstPlace r + r.by_ - 1 = (1199 - firstPlace r) + r.by_ by omega, Nat.add_div_right _ (by omega)]
    rfl
  rw [keep_nats]
  unfold comes monthlyM
  rw [h, hc]
  show List.map _ (List.filter _ (List.flatMap _ _)) = _
  congr 3
  funext k
  unfold monthlyOne firstPlace
  dsimp only
  rw [inMonth_eq ok]
  by_cases c : r.months.isEmpty = true ∨ r.months.contains ((12 * yearOf r.start + monthOf r.start - 1 + k * r.by_) % 12 + 1) = true
  · rw [if_pos c, if_pos (by rw [Bool.or_eq_true]; exact c)]
  · rw [if_neg c, if_neg (by rw [Bool.or_eq_true]; exact c)]
def yearlyCnt (r : Rule) : Nat := (100 - yearOf r.start + r.by_ - 1) / r.by_
def monthsOf (r : Rule) : List Nat := if r.months.isEmpty = true then [monthOf r.start] else r.months
def yearlyM (r : Rule) : List Nat := (List.range (yearlyCnt r)).flatMap fun k => (monthsOf r).flatMap fun m => monthM (picksOf r) (yearOf r.start + k * r.by_) m
theorem comes_yearly {r : Rule} (h : r.freq = 3) (ok : ROk r) : (comes r).map (fun n : Nat => (n : Int)) = keep r ((yearlyM r).map fun n : Nat => (n : Int)) := by
  have hb := ok.by1
  have hy := yearOf_lt ok.start
  have hc : yearlyCnt r = (99 - yearOf r.start) / r.by_ + 1 := by
    unfold yearlyCnt
    rw [show 100 - yearOf r.start + r.by_ - 1 = (99 - yearOf r.start) + r.by_ by omega, Nat.add_div_right _ (by omega)]
  rw [keep_nats]
  unfold comes yearlyM
  rw [h, hc]
  show List.map _ (List.filter _ (List.flatMap _ _)) = _
  congr 3
  funext k
  unfold monthsOf
  congr 1
  funext m
  exact inMonth_eq ok _ _
theorem monthsOf_ok {r : Rule} (ok : ROk r) : ∀ m ∈ monthsOf r, 1 ≤ m ∧ m ≤ 12 := by
  unfold monthsOf
  intro m hm
  split at hm
  · rw [List.mem_singleton.mp hm]
    exact ⟨monthOf_pos _, monthOf_le _⟩
  · exact ok.ms m hm
/-! ### till the end; not, also -/
theorem comes_lt (r : Rule) : ∀ x ∈ comes r, x < 36525 := fun x hx => by
  unfold comes at hx
  have := (List.mem_filter.mp hx).2
  rw [Bool.and_eq_true, decide_eq_true_eq, decide_eq_true_eq] at this
  exact this.2
end CA
end file_CaHaving
section file_CaRule
set_option maxRecDepth 100000
set_option maxHeartbeats 4000000
/-! A rule as it lies in the heap; further loop words. -/
namespace CA
open PySem PySem.Spec PyProof.Rows L2
open SX (S)
theorem lk_here {k : Str} {v : V} {r : List (Str × V)} : List.lookup k ((k, v) :: r) = some v := by
  have e : (k == k) = true := beq_self_eq_true k
  simp only [List.lookup, e]
theorem lk_past {k g : Str} {v : V} {r : List (Str × V)} (h : (k == g) = false) : List.lookup k ((g, v) :: r) = List.lookup k r := by
  simp only [List.lookup, h]
theorem put_here {f : Str} {v x : V} {r : List (Str × V)} : putF f v ((f, x) :: r) = (f, v) :: r := if_pos rfl
theorem put_past {f g : Str} {v x : V} {r : List (Str × V)} (h : ¬ g = f) : putF f v ((g, x) :: r) = (g, x) :: putF f v r := if_neg h
def ruleF (r : Cl01.Rule) (wd it ms nt al : Addr) : List (Str × V) := [("kind", .str (SX.S (Cl01.FREQS.getD r.freq []))), ("step", .int (r.by_ : Nat)), ("weekdays", .ref wd), ("picks", .ref it), ("months", .ref ms), ("first_day", .int (r.start : Nat)), ("until", .int (if r.halt_ = 1 then (r.last : Nat) else -1)), ("times", .int (if r.halt_ = 2 then (r.last : Nat) else 0)), ("without", .ref nt), ("also", .ref al)]
section
variable {K : PySem.W.Frag} {mg : Str → Option Value} {H : Hp} {Q : VK} {r : Cl01.Rule} {a dx wd it ms nt al : Addr}
/-- the promise of a field's reading -/
def FldR (K : PySem.W.Frag) (H : Hp) (a : Addr) (f : Str) (Q : VK) : Prop := ∃ a' C dx' fs v, V.ref a = .ref a' ∧ H a' = some (.ins C dx' fs) ∧ Cls K C ∧ NoAttr K C f ∧ fs.lookup f = some v ∧ Q v H
theorem w_fld {te : TE} {σ : L2.St} {f : Str} (h : te σ H fun x H1 => ∃ a C dx fs v, x = .ref a ∧ H1 a = some (.ins C dx fs) ∧ Cls K C ∧ NoAttr K C f ∧ fs.lookup f = some v ∧ Q v H1) : tFld K te f σ H Q := h
theorem w_sfld {D : Ends} {ta tv : TE} {σ : L2.St} {f : Str} (h : tv σ H fun y H1 => ta σ H1 fun x H2 => ∃ a C dx fs, x = .ref a ∧ H2 a = some (.ins C dx fs) ∧ Cls K C ∧ NoAttr K C f ∧ fs.length < 1000 ∧ D.nx σ (upd H2 a (.ins C dx (putF f y fs)))) : sFld K ta tv f D σ H := h
theorem w_r_kind (T : Tx K mg) (hA : H a = some (.ins (He.ga K "Rule") dx (ruleF r wd it ms nt al))) {F : V → Prop} (h : F (.str (SX.S (Cl01.FREQS.getD r.freq [])))) : ∃ a' C dx' fs v', V.ref a = .ref a' ∧ H a' = some (.ins C dx' fs) ∧ Cls K C ∧ NoAttr K C "kind" ∧ fs.lookup ("kind" : Str) = some v' ∧ F v' :=
  ⟨a, _, dx, _, _, rfl, hA, T.c_Rule, T.n_Rule_kind, lk_here, h⟩
theorem w_r_step (T : Tx K mg) (hA : H a = some (.ins (He.ga K "Rule") dx (ruleF r wd it ms nt al))) {F : V → Prop} (h : F (.int (r.by_ : Nat))) : ∃ a' C dx' fs v', V.ref a = .ref a' ∧ H a' = some (.ins C dx' fs) ∧ Cls K C ∧ NoAttr K C "step" ∧ fs.lookup ("step" : Str) = some v' ∧ F v' :=
  ⟨a, _, dx, _, _, rfl, hA, T.c_Rule, T.n_Rule_step, (lk_past (by decide +kernel)).trans (lk_here), h⟩
theorem w_r_weekdays (T : Tx K mg) (hA : H a = some (.ins (He.ga K "Rule") dx (ruleF r wd it ms nt al))) {F : V → Prop} (h : F (.ref wd)) : ∃ a' C dx' fs v', V.ref a = .ref a' ∧ H a' = some (.ins C dx' fs) ∧ Cls K C ∧ NoAttr K C "weekdays" ∧ fs.lookup ("weekdays" : Str) = some v' ∧ F v' :=
  ⟨a, _, dx, _, _, rfl, hA, T.c_Rule, T.n_Rule_weekdays, (lk_past (by decide +kernel)).trans ((lk_past (by decide +kernel)).trans (lk_here)), h⟩
theorem w_r_picks (T : Tx K mg) (hA : H a = some (.ins (He.ga K "Rule") dx (ruleF r wd it ms nt al))) {F : V → Prop} (h : F (.ref it)) : ∃ a' C dx' fs v', V.ref a = .ref a' ∧ H a' = some (.ins C dx' fs) ∧ Cls K C ∧ NoAttr K C "picks" ∧ fs.lookup ("picks" : Str) = some v' ∧ F v' :=
  ⟨a, _, dx, _, _, rfl, hA, T.c_Rule, T.n_Rule_picks, (lk_past (by decide +kernel)).trans ((lk_past (by decide +kernel)).trans ((lk_past (by decide +kernel)).trans (lk_here))), h⟩
theorem w_r_months (T : Tx K mg) (hA : H a = some (.ins (He.ga K "Rule") dx (ruleF r wd it ms nt al))) {F : V → Prop} (h : F (.ref ms)) : ∃ a' C dx' fs v', V.ref a = .ref a' ∧ H a' = some (.ins C dx' fs) ∧ Cls K C ∧ NoAttr K C "months" ∧ fs.lookup ("months" : Str) = some v' ∧ F v' :=
  ⟨a, _, dx, _, _, rfl, hA, T.c_Rule, T.n_Rule_months, (lk_past (by decide +kernel)).trans ((lk_past (by decide +kernel)).trans ((lk_past (by decide +kernel)).trans ((lk_past (by decide +kernel)).trans (lk_here)))), h⟩
theorem w_r_first_day (T : Tx K mg) (hA : H a = some (.ins (He.ga K "Rule") dx (ruleF r wd it ms nt al))) {F : V → Prop} (h : F (.int (r.start : Nat))) : ∃ a' C dx' fs v', V.ref a = .ref a' ∧ H a' = some (.ins C dx' fs) ∧ Cls K C ∧ NoAttr K C "first_day" ∧ fs.lookup ("first_day" : Str) = some v' ∧ F v' :=
  ⟨a, _, dx, _, _, rfl, hA, T.c_Rule, T.n_Rule_first_day, (lk_past (by decide +kernel)).trans ((lk_past (by decide +kernel)).trans ((lk_past (by decide +kernel)).trans ((lk_past (by decide +kernel)).trans ((lk_past (by decide +kernel)).trans (lk_here))))), h⟩
theorem w_r_until (T : Tx K mg) (hA : H a = some (.ins (He.ga K "Rule") dx (ruleF r wd it ms nt al))) {F : V → Prop} (h : F (.int (if r.halt_ = 1 then (r.last : Nat) else -1))) : ∃ a' C dx' fs v', V.ref a = .ref a' ∧ H a' = some (.ins C dx' fs) ∧ Cls K C ∧ NoAttr K C "until" ∧ fs.lookup ("until" : Str) = some v' ∧ F v' :=
  ⟨a, _, dx, _, _, rfl, hA, T.c_Rule, T.n_Rule_until, (lk_past (by decide +kernel)).trans ((lk_past (by decide +kernel)).trans ((lk_past (by decide +kernel)).trans ((lk_past (by decide +kernel)).trans ((lk_past (by decide +kernel)).trans ((lk_past (by decide +kernel)).trans (lk_here)))))), h⟩
theorem w_r_times (T : Tx K mg) (hA : H a = some (.ins (He.ga K "Rule") dx (ruleF r wd it ms nt al))) {F : V → Prop} (h : F (.int (if r.halt_ = 2 then (r.last : Nat) else 0))) : ∃ a' C dx' fs v', V.ref a = .ref a' ∧ H a' = some (.ins C dx' fs) ∧ Cls K C ∧ NoAttr K C "times" ∧ fs.lookup ("times" : Str) = some v' ∧ F v' :=
  ⟨a, _, dx, _, _, rfl, hA, T.c_Rule, T.n_Rule_times, (lk_past (by decide +kernel)).trans ((lk_past (by decide +kernel)).trans ((lk_past (by decide +kernel)).trans ((lk_past (by decide +kernel)).trans ((lk_past (by decide +kernel)).trans ((lk_past (by decide +kernel)).trans ((lk_past (by decide +kernel)).trans (lk_here))))))), h⟩
theorem w_r_without (T : Tx K mg) (hA : H a = some (.ins (He.ga K "Rule") dx (ruleF r wd it ms nt al))) {F : V → Prop} (h : F (.ref nt)) : ∃ a' C dx' fs v', V.ref a = .ref a' ∧ H a' = some (.ins C dx' fs) ∧ Cls K C ∧ NoAttr K C "without" ∧ fs.lookup ("without" : Str) = some v' ∧ F v' :=
  ⟨a, _, dx, _, _, rfl, hA, T.c_Rule, T.n_Rule_without, (lk_past (by decide +kernel)).trans ((lk_past (by decide +kernel)).trans ((lk_past (by decide +kernel)).trans ((lk_past (by decide +kernel)).trans ((lk_past (by decide +kernel)).trans ((lk_past (by decide +kernel)).trans ((lk_past (by decide +kernel)).trans ((lk_past (by decide +kernel)).trans (lk_here)))))))), h⟩
theorem w_r_also (T : Tx K mg) (hA : H a = some (.ins (He.ga K "Rule") dx (ruleF r wd it ms nt al))) {F : V → Prop} (h : F (.ref al)) : ∃ a' C dx' fs v', V.ref a = .ref a' ∧ H a' = some (.ins C dx' fs) ∧ Cls K C ∧ NoAttr K C "also" ∧ fs.lookup ("also" : Str) = some v' ∧ F v' :=
  ⟨a, _, dx, _, _, rfl, hA, T.c_Rule, T.n_Rule_also, (lk_past (by decide +kernel)).trans ((lk_past (by decide +kernel)).trans ((lk_past (by decide +kernel)).trans ((lk_past (by decide +kernel)).trans ((lk_past (by decide +kernel)).trans ((lk_past (by decide +kernel)).trans ((lk_past (by decide +kernel)).trans ((lk_past (by decide +kernel)).trans ((lk_past (by decide +kernel)).trans (lk_here))))))))), h⟩
end
/-- an item's tuple -/
def itV (i : Cl01.Item) : List V := [.int (i.sort : Nat), .int (i.k : Nat), .int (i.w : Nat)]
def Items (K : PySem.W.Frag) (H : Hp) (ts : List Addr) (is : List Cl01.Item) : Prop := ts.length = is.length ∧ ∀ (j : Nat) (t : Addr) (i : Cl01.Item), ts[j]? = some t → is[j]? = some i → SqT K H t (itV i)
theorem Items.same {K : PySem.W.Frag} {H H' : Hp} {ts : List Addr} {is : List Cl01.Item} (h : Items K H ts is) (s : Same H H') : Items K H' ts is := ⟨h.1, fun j t i h1 h2 => Same.tup s (h.2 j t i h1 h2)⟩
structure RuleAt (K : PySem.W.Frag) (H : Hp) (a : Addr) (r : Cl01.Rule) : Prop where
  ex : ∃ (dx wd it ms nt al : Addr) (ts : List Addr), H a = some (.ins (He.ga K "Rule") dx (ruleF r wd it ms nt al)) ∧ SqL K H wd (iv r.weekdays) ∧ SqL K H it (ts.map V.ref) ∧ Items K H ts r.items ∧ SqL K H ms (iv r.months) ∧ SqL K H nt (iv r.not_) ∧ SqL K H al (iv r.also)
theorem RuleAt.same {K : PySem.W.Frag} {H H' : Hp} {a : Addr} {r : Cl01.Rule} (h : RuleAt K H a r) (s : Same H H') : RuleAt K H' a r := by
  obtain ⟨dx, wd, it, ms, nt, al, ts, h1, h2, h3, h4, h5, h6, h7⟩ := h.ex
  exact ⟨dx, wd, it, ms, nt, al, ts, s _ _ h1, Same.seq s h2, Same.seq s h3, h4.same s, Same.seq s h5, Same.seq s h6, Same.seq s h7⟩
/-! ### the same rules, for a block of its own -/
section
variable {X : Cx} {K : PySem.W.Frag}
theorem ix_tupK (h : X.K = K) : IxR X (rIxT K) := h ▸ ix_tup
theorem ix_listK (h : X.K = K) : IxR X (rIxL K) := h ▸ ix_list
theorem op_inK (h : X.K = K) : OpR X (compareOp .In) (rIn K false) := h ▸ op_in_seq
theorem op_notInK (h : X.K = K) : OpR X (compareOp .NotIn) (rIn K true) := h ▸ op_notIn_seq
theorem pe_fldK {e : Expr} {ta : TE} {f : Str} {pos : Pos} (h : X.K = K) (he : PE X e ta) (hb : attributeBase e f X.env (eval e X.env) = eval e X.env) : PE X (.Attribute e f pos) (tFld K ta f) := h ▸ pe_fld he hb
theorem len_seqK (h : X.K = K) : CallR X (.builtin "len") (fun xs H Q => ∃ p ys, xs = [.ref p] ∧ (SqL K H p ys ∨ SqT K H p ys) ∧ Q (.int ys.length) H) := h ▸ call_len_seq
end
/-! ### a list made item by item, told by place -/
section
variable {K : PySem.W.Frag} {g : TG} {tt : TT} {te : TE} {vs : List Nat} {σ : L2.St} {H : Hp}
theorem lc_each {a : Addr} {xs : List V} {D : Addr} {Qd : Hp → Prop} (ys : List V) (hS : SqL K H a xs) (hD : H D = none) (hz : xs.length ≤ 100000) (hl : ys.length = xs.length)
    (hs : ∀ (i : Nat) (x y : V), xs[i]? = some x → ys[i]? = some y → LcTurn g tt te vs σ H x (fun _ => true) fun _ => y) (hd : ∀ H', Same H H' → H' D = some (.lst ys) → Qd H') :
    ∃ W : Nat → Nat → Hp → Prop, (∃ m, W 0 m (upd H D (.lst []))) ∧ ∀ i m H, W i m H →
      ((Itl K a).stop i H ∧ Qd H) ∨ ((Itl K a).go i H ∧ ∃ Nx : Hp → Prop, (∀ H', Nx H' → ∃ m', m' < m ∧ W (i + 1) m' H') ∧ ∀ x H', (Itl K a).yld i H x H' → g x (wipe σ vs) H' fun σ2 H2 => wipe σ2 vs = wipe σ vs ∧ tt σ2 H2 fun b H3 =>
        if b = true then te σ2 H3 fun y H4 => ∃ acc, H4 D = some (.lst acc) ∧ acc.length < sizeLine ∧ Nx (upd H4 D (.lst (acc ++ [y]))) else Nx H3) := by
  refine lc_list (K := K) (a := a) (xs := xs) (fun i H' => Same H H' ∧ H' D = some (.lst (ys.take i))) ⟨same_upd hD, upd_same⟩ (fun i H' _ p => p.1.seq hS) (fun i x H' hx p => ?_) fun H' p => ?_
  · have hi : i < xs.length := (List.getElem?_eq_some_iff.mp hx).1
    have hy : ys[i]? = some ys[i] := List.getElem?_eq_getElem (by omega)
    refine hs i x _ hx hy H' _ _ p.1 (fun _ H2 s2 => ?_) fun z => by cases z
    refine ⟨_, s2 _ _ p.2, ?_, same_mut (Same.trans p.1 s2) hD, ?_⟩
    · have h3 := List.length_take_le i ys
      have : (100000 : Nat) < sizeLine := by decide
      omega
    · rw [upd_same, take_at hy]
  · have z := p.2
    rw [← hl, List.take_length] at z
    exact hd H' p.1 z
end
section
variable {K : PySem.W.Frag} {g : TG} {tt : TT} {te : TE} {vs : List Nat} {σ : L2.St} {H : Hp}
theorem lc_nats {a : Addr} {D : Addr} {Qd : Hp → Prop} (l : List Nat) (e : Nat → V) (hS : SqL K H a (iv l)) (hD : H D = none) (hz : l.length ≤ 100000)
    (hs : ∀ n ∈ l, LcTurn g tt te vs σ H (.int (n : Int)) (fun _ => true) fun _ => e n) (hd : ∀ H', Same H H' → H' D = some (.lst (l.map e)) → Qd H') :
    ∃ W : Nat → Nat → Hp → Prop, (∃ m, W 0 m (upd H D (.lst []))) ∧ ∀ i m H, W i m H →
      ((Itl K a).stop i H ∧ Qd H) ∨ ((Itl K a).go i H ∧ ∃ Nx : Hp → Prop, (∀ H', Nx H' → ∃ m', m' < m ∧ W (i + 1) m' H') ∧ ∀ x H', (Itl K a).yld i H x H' → g x (wipe σ vs) H' fun σ2 H2 => wipe σ2 vs = wipe σ vs ∧ tt σ2 H2 fun b H3 =>
        if b = true then te σ2 H3 fun y H4 => ∃ acc, H4 D = some (.lst acc) ∧ acc.length < sizeLine ∧ Nx (upd H4 D (.lst (acc ++ [y]))) else Nx H3) :=
  lc_each (l.map e) hS hD (by rw [iv_len]; exact hz) (by rw [iv_len, List.length_map]) (fun i x y hx hy => by
    obtain ⟨n, hn, rfl⟩ := iv_at hx
    rw [List.getElem?_map, hn] at hy
    obtain rfl := Option.some.inj hy
    exact hs n (List.mem_of_getElem? hn)) hd
theorem lc_items {a : Addr} {D : Addr} {Qd : Hp → Prop} {ts : List Addr} {is : List Cl01.Item} (e : Cl01.Item → V) (hS : SqL K H a (ts.map V.ref)) (hI : Items K H ts is) (hD : H D = none) (hz : is.length ≤ 100000)
    (hs : ∀ t i, i ∈ is → SqT K H t (itV i) → LcTurn g tt te vs σ H (.ref t) (fun _ => true) fun _ => e i) (hd : ∀ H', Same H H' → H' D = some (.lst (is.map e)) → Qd H') :
    ∃ W : Nat → Nat → Hp → Prop, (∃ m, W 0 m (upd H D (.lst []))) ∧ ∀ i m H, W i m H →
      ((Itl K a).stop i H ∧ Qd H) ∨ ((Itl K a).go i H ∧ ∃ Nx : Hp → Prop, (∀ H', Nx H' → ∃ m', m' < m ∧ W (i + 1) m' H') ∧ ∀ x H', (Itl K a).yld i H x H' → g x (wipe σ vs) H' fun σ2 H2 => wipe σ2 vs = wipe σ vs ∧ tt σ2 H2 fun b H3 =>
        if b = true then te σ2 H3 fun y H4 => ∃ acc, H4 D = some (.lst acc) ∧ acc.length < sizeLine ∧ Nx (upd H4 D (.lst (acc ++ [y]))) else Nx H3) :=
  lc_each (is.map e) hS hD (by rw [List.length_map, hI.1]; exact hz) (by rw [List.length_map, List.length_map, hI.1]) (fun i x y hx hy => by
    rw [List.getElem?_map] at hx hy
    cases h1 : ts[i]? with
    | none => rw [h1] at hx; cases hx
    | some t =>
      cases h2 : is[i]? with
      | none => rw [h2] at hy; cases hy
      | some it =>
        rw [h1] at hx
        rw [h2] at hy
        obtain rfl := Option.some.inj hx
        obtain rfl := Option.some.inj hy
        exact hs t it (List.mem_of_getElem? h2) (hI.2 i t it h1 h2)) hd
end
/-! ### further steps of a reading -/
section
variable {σ : L2.St} {H : Hp} {Q : VK} {D : Ends} {te to : TE} {tl : TA} {K : PySem.W.Frag} {rm : V → List V → Hp → VK → Prop} {v : V} {QG : L2.St → Hp → Prop}
theorem w_m1 (h : to σ H fun x H1 => (∃ a, x = .str a) ∧ te σ H1 fun y H2 => rm x [y] H2 Q) : tM1 rm to te σ H Q := h
theorem w_m0 (h : to σ H fun x H1 => (∃ a, x = .str a) ∧ rm x [] H1 Q) : tM0 rm to σ H Q := h
theorem w_isstr {z : Str} {P : Prop} (h : P) : (∃ a, V.str z = .str a) ∧ P := ⟨⟨z, rfl⟩, h⟩
theorem w_bm {T : String} (h : to σ H fun x H1 => tyV K T x H1 ∧ tl σ H1 fun xs H2 => rm x xs H2 Q) : tBM K T rm to tl σ H Q := h
theorem w_js {t : TE} {ts : List TE} {acc : Str} {QS : Str → Hp → Prop} (h : t σ H fun x H1 => ∃ y : Str, x = .str y ∧ (acc ++ y).length ≤ sizeLine ∧ tJs ts (acc ++ y) σ H1 QS) : tJs (t :: ts) acc σ H QS := h
theorem w_js0 {acc : Str} {QS : Str → Hp → Prop} (h : QS acc H) : tJs [] acc σ H QS := h
theorem w_fmt (h : te σ H fun x H1 => (∃ y : Str, x = .str y ∧ y.length ≤ sizeLine ∧ Q (.str y) H1) ∨ ∃ i : Int, x = .int i ∧ i.natAbs.log2 < 1920 ∧ Q (.str (toString i)) H1) : tFmt te σ H Q := h
theorem w_asgG {g : TG} (h : te σ H fun x H1 => g x σ H1 D.nx) : tAsg te g D σ H := h
theorem w_gcons {t : TG} {u : TGs} {r : List V} (h : t v σ H fun σ' H' => u r σ' H' QG) : gCons t u (v :: r) σ H QG := ⟨v, r, rfl, h⟩
theorem w_gnil (h : QG σ H) : gNil [] σ H QG := ⟨rfl, h⟩
theorem w_gtup {n : Nat} {t : TGs} {a : Addr} {xs : List V} (hs : SqT K H a xs) (hn : xs.length = n) (h : t xs σ H QG) : gTup K n t (.ref a) σ H QG := ⟨a, xs, rfl, hs, hn, h⟩
theorem w_ext {l b : Addr} {xs zs : List V} (hl : H l = some (.lst xs)) (hb : H b = some (.lst zs)) (hz : xs.length + zs.length ≤ sizeLine) (h : Q .non (upd H l (.lst (xs ++ zs)))) : rExtend (.ref l) [.ref b] H Q := ⟨l, b, xs, zs, rfl, rfl, hl, hb, hz, h⟩
theorem w_app {l : Addr} {xs : List V} {y : V} (hl : H l = some (.lst xs)) (hz : xs.length < sizeLine) (h : Q .non (upd H l (.lst (xs ++ [y])))) : rAppend (.ref l) [y] H Q := ⟨l, xs, y, rfl, rfl, hl, hz, h⟩
theorem w_sl {r3 : V → Option Int → Option Int → Hp → VK → Prop} {t1 t2 : TO} (h : te σ H fun x H1 => t1 σ H1 fun l H2 => t2 σ H2 fun u H3 => r3 x l u H3 Q) : tSl r3 te t1 t2 σ H Q := h
theorem w_nopart {QO : Option Int → Hp → Prop} (h : QO none H) : tNoPart σ H QO := h
theorem w_part {QO : Option Int → Hp → Prop} (h : te σ H fun x H1 => ∃ i, x = .int i ∧ QO (some i) H1) : tPart te σ H QO := h
theorem w_isint {i : Int} {F : Int → Prop} (h : F i) : ∃ j, V.int i = .int j ∧ F j := ⟨i, rfl, h⟩
theorem w_sls {z : Str} {lo hi : Option Int} (hz : z.length ≤ sizeLine) (h : Q (.str (cutS z lo hi)) H) : rSlS (.str z) lo hi H Q := ⟨z, rfl, hz, h⟩
theorem w_sll {a : Addr} {xs : List V} {lo hi : Option Int} (hs : SqL K H a xs) (h : ∀ p, H p = none → Q (.ref p) (upd H p (.lst (cutV xs lo hi)))) : rSlL K (.ref a) lo hi H Q := ⟨a, xs, rfl, hs, h⟩
end
/-! ### a cut behind a statement -/
theorem w_cut {t u : TS} {D : Ends} {σ : L2.St} {H : Hp} (Mid : L2.St → Hp → Prop) (h : t { D with nx := Mid } σ H) (k : ∀ σ' H', Mid σ' H' → u D σ' H') : Evl.tCut t u D σ H := ⟨Mid, h, k⟩
end CA
end file_CaRule
section file_CaRange
set_option maxRecDepth 100000
set_option maxHeartbeats 4000000
/-! list(range(i, j, c)); a range with a step. -/
namespace CA
open PySem PySem.Spec PyProof.Rows L2
theorem rgC_pos {a b c : Nat} (hc : 1 ≤ c) (hc2 : c < 1000) (ha : a < 100000) (hb : b < 100000) : RgC (a : Int) (b : Int) (c : Int) ((b - a + c - 1) / c) := by
  have e : Builtin.Range.rangeSize (a : Int) (b : Int) (c : Int) = (((b - a + c - 1) / c : Nat) : Int) := by
    unfold Builtin.Range.rangeSize
    rw [if_pos (by omega)]
    by_cases h : a < b
    · rw [if_pos (by omega), show b - a + c - 1 = (b - a - 1) + c by omega, Nat.add_div_right _ (by omega)]
      rw [show ((b : Int) - (a : Int) - 1) = ((b - a - 1 : Nat) : Int) by omega]
      exact (by rw [Int.natCast_add]; rfl)
    · rw [if_neg (by omega), show b - a + c - 1 = c - 1 by omega, Nat.div_eq_of_lt (by omega)]
      rfl
  refine ⟨by omega, by omega, ?_, e⟩
  have hn : (b - a + c - 1) / c ≤ b - a + c - 1 := Nat.div_le_self _ _
  unfold Builtin.Range.small
  rw [e]
  rw [if_pos (show (c : Int) > 0 by omega)]
  simp only [Builtin.Range.rangeFitsLong, Bool.and_eq_true, Bool.or_eq_true, decide_eq_true_eq, beq_iff_eq]
  clear e
  generalize (b - a + c - 1) / c = n at hn ⊢
  omega
def tLstRg3 (ta : TA) : TE := fun σ H Q => ta σ H fun vs H1 => ∃ (i j c : Int) (n : Nat), vs = [.int i, .int j, .int c] ∧ RgC i j c n ∧ n ≤ 100000 ∧ ∀ q, H1 q = none → Q (.ref q) (upd H1 q (.lst ((List.range n).map fun k : Nat => V.int (i + (k : Int) * c))))
theorem vals_rg3 {a c : Int} {n : Nat} {acc : Array Value} (h : ItemsOf (fun i v => ∃ t, v = .int (a + i * c) t) acc n) : Vals ((List.range n).map fun k : Nat => V.int (a + (k : Int) * c)) acc.toList := by
  have e : acc.toList.length = n := by rw [Array.length_toList]; exact h.1
  rw [← e]
  refine vals_of_get acc.toList _ fun j u hj => ?_
  obtain ⟨t, rfl⟩ := h.2 j u (by rw [← hj, Array.getElem?_toList])
  exact ⟨t, rfl⟩
variable {X : Cx}
theorem pe_listRg3 {a b c : Expr} {ta : TA} {p p2 pos pos2 : Pos} (hc : X.calm = true) (hgl : Gl X "list") (hml : X.mg "list" = none) (hg : Gl X "range") (hm : X.mg "range" = none) (ha : PA X [a, b, c] ta)
    (hs : starEach [a, b, c] X.env = (false, eval a X.env) :: starEach [b, c] X.env := by rfl) (hpl : (backTo pos2 (starEach [b, c] X.env)).any (·.1) = false := by rfl)
    (na : starEach [.Call (.Name "range" p2) [a, b, c] [] pos2] X.env = (false, eval (.Call (.Name "range" p2) [a, b, c] [] pos2) X.env) :: starEach [] X.env := by rfl) :
    PE X (.Call (.Name "list" p) [.Call (.Name "range" p2) [a, b, c] [] pos2] [] pos) (tLstRg3 ta) := by
  refine ⟨fun pins s σ H Q I h => ?_⟩
  refine Call_ (ld_blt I hgl hml boot_list (PyProof.Rows.callWith_type1 (args_cons (Q := fun us s' => wpAny (model X.prog X.w) X.A (call (.type "list") us) (EP X pins σ Q) X.xe s') (thn (Q := fun x s1 => ∃ r i j k n t u v H1, x = .ref r ∧ IsRange s1.heap r i j k t u v ∧ Inv X pins σ H1 s1 ∧ RgC i j k n ∧ n ≤ 100000 ∧ ∀ q, H1 q = none → Q (.ref q) (upd H1 q (.lst ((List.range n).map fun m : Nat => V.int (i + (m : Int) * k)))))
    (Call_ (ld_blt I hg hm boot_range (PyProof.Rows.callWith_type1 (thn (ha.run pos2 pins s σ H _ I h) fun us s1 ⟨vs, H1, I1, r1, q1⟩ => ?_) hs hpl))) fun x s1 ⟨r, i, j, k, n, t, u, v, H1, ex, hr, I1, ok, hn, q⟩ => args_nil ?_) na) na))
  · obtain ⟨i, j, k, n, e, ok, hn, q⟩ := q1
    subst e
    cases r1 with
    | cons r rr =>
      cases rr with
      | cons r' rr =>
        cases rr with
        | cons r'' rr =>
          cases rr
          obtain ⟨t, rfl⟩ := r
          obtain ⟨t', rfl⟩ := r'
          obtain ⟨t'', rfl⟩ := r''
          refine call_range_3 ok.1 ?_ (.inl (PyProof.noPylong_small ok.2.1))
          exact ⟨_, i, j, k, n, _, _, _, H1, rfl, IsRange.new .., I1.kept (t' := s1.toks) fun b o e => Heap.get?_push_of_some _ e, ok, hn, q⟩
  · subst ex
    refine call_list_range (n := n) (I1.ok.hd hc) hr ok.2.2.1 ok.2.2.2 (by omega) fun h' tk acc c' hk e' hi => ?_
    refine ⟨.ref s1.heap.objs.size, upd H1 s1.heap.objs.size (.lst ((List.range n).map fun m : Nat => V.int (i + (m : Int) * k))), I1.laid hk (Nat.le_refl _) (show ObjOk X.prog X.w _ _ _ (.lst _) from ⟨?_, acc.toList, c', vals_rg3 hi, ?_⟩), rfl, q _ (I1.hok.fresh (Nat.le_refl _))⟩
    · rw [List.length_map, List.length_range, sizeLine_eq]; omega
    · rw [Array.toArray_toList]; exact e'
theorem w_lrg3 {tl : TA} {σ : L2.St} {H : Hp} {Q : VK} (h : tl σ H fun vs H1 => ∃ (i j c : Int) (n : Nat), vs = [.int i, .int j, .int c] ∧ RgC i j c n ∧ n ≤ 100000 ∧ ∀ q, H1 q = none → Q (.ref q) (upd H1 q (.lst ((List.range n).map fun k : Nat => V.int (i + (k : Int) * c))))) : tLstRg3 tl σ H Q := h
theorem rg3_iv (n a c : Nat) : ((List.range n).map fun k : Nat => V.int ((a : Int) + (k : Int) * (c : Int))) = iv ((List.range n).map fun k => a + k * c) := by
  unfold iv
  rw [List.map_map]
  refine List.map_congr_left fun k _ => congrArg V.int ?_
  rw [Int.natCast_add, Int.natCast_mul]
theorem inV_ints (z : Int) : ∀ l : List Int, inV (.int z) (l.map V.int) = l.contains z
  | [] => rfl
  | a :: l => by
    show (eqV (.int a) (.int z) || inV (.int z) (l.map V.int)) = _
    rw [inV_ints z l, List.contains_cons]
    show ((a == z) || _) = ((z == a) || _)
    rw [BEq.comm]
theorem flat_ints : ∀ l : List Int, (l.map V.int).all flatV = true
  | [] => rfl
  | a :: l => flat_ints l
theorem contains_cast (n : Nat) : ∀ l : List Nat, (l.map fun n : Nat => (n : Int)).contains (n : Int) = l.contains n
  | [] => rfl
  | a :: l => by
    rw [List.map_cons, List.contains_cons, List.contains_cons, contains_cast n l]
    congr 1
    exact decide_eq_decide.mpr (by omega)
section
variable {K : PySem.W.Frag} {H : Hp} {Q : VK} {a : Addr}
theorem w_inZ {l : List Int} {z : Int} (hs : SqL K H a (l.map V.int)) (h : Q (.bl (l.contains z)) H) : rIn K false (.int z) (.ref a) H Q :=
  ⟨a, _, rfl, .inl hs, rfl, flat_ints l, by rw [inV_ints]; exact h⟩
theorem w_inI {l : List Nat} {n : Nat} (hs : SqL K H a (iv l)) (h : Q (.bl (l.contains n)) H) : rIn K false (.int (n : Int)) (.ref a) H Q := by
  rw [iv_ints] at hs
  exact w_inZ hs (by rw [contains_cast]; exact h)
end
/-- a field's list is empty, or not -/
theorem isEmpty_of_len {α : Type} {l : List α} (h : (l.length : Int) = 0) : l.isEmpty = true := by
  rw [List.isEmpty_iff, ← List.length_eq_zero_iff]; omega
theorem not_isEmpty_of_len {α : Type} {l : List α} (h : ¬ (l.length : Int) = 0) : l.isEmpty = false := by
  cases l with
  | nil => exact absurd rfl h
  | cons => rfl
end CA
end file_CaRange
section file_CaUp
set_option maxRecDepth 100000
set_option maxHeartbeats 4000000
/-! The days that come again are ascending. -/
namespace CA
open Cl01
theorem up_of_cast {l : List Nat} (h : (l.map fun n : Nat => (n : Int)).Pairwise (· < ·)) : Up l := (List.pairwise_map.mp h).imp fun h => by omega
theorem up_cast {l : List Nat} (h : Up l) : (l.map fun n : Nat => (n : Int)).Pairwise (· < ·) := List.pairwise_map.mpr (h.imp fun h => by omega)
theorem steps_lt {by_ a b : Nat} (h1 : 1 ≤ by_) (h : a < b) : a * by_ + by_ ≤ b * by_ := by
  have := Nat.mul_le_mul_right by_ (show a + 1 ≤ b from h)
  rw [Nat.succ_mul] at this
  exact this
theorem up_dailyM {r : Rule} (ok : ROk r) : Up (dailyM r) := by
  unfold dailyM
  refine Up.filter ?_ _
  refine List.pairwise_map.mpr (List.pairwise_lt_range.imp fun h => ?_)
  have := steps_lt ok.by1 h
  have := ok.by1
  omega
theorem wdsOf_up {r : Rule} (ok : ROk r) : Up (wdsOf r) := by
  unfold wdsOf
  split
  · exact List.pairwise_singleton _ _
  · exact ok.uwd
theorem wdsOf_lt {r : Rule} (ok : ROk r) : ∀ x ∈ wdsOf r, x < 7 := by
  unfold wdsOf
  intro x hx
  split at hx
  · rw [List.mem_singleton.mp hx]
    exact Nat.mod_lt _ (by decide)
  · exact ok.wd x hx
theorem up_weeklyM {r : Rule} (ok : ROk r) : (weeklyM r).Pairwise (· < ·) := by
  unfold weeklyM
  refine List.pairwise_flatMap.mpr ⟨fun k _ => List.pairwise_map.mpr ((wdsOf_up ok).imp fun h => by omega), List.pairwise_lt_range.imp fun h x hx y hy => ?_⟩
  obtain ⟨w, hw, rfl⟩ := List.mem_map.mp hx
  obtain ⟨v, hv, rfl⟩ := List.mem_map.mp hy
  have h1 := steps_lt ok.by1 h
  have h2 := wdsOf_lt ok w hw
  have h3 := ok.by1
  rw [← Int.natCast_mul, ← Int.natCast_mul]
  omega
theorem monthM_up (items : List Item) (y m : Nat) : Up (monthM items y m) := up_range_map _ _ _
theorem monthM_mem {items : List Item} {y m x : Nat} (h : x ∈ monthM items y m) : monthStart y m ≤ x ∧ x < monthStart y m + monthDays y m := by
  unfold monthM at h
  obtain ⟨j, hj, rfl⟩ := List.mem_map.mp h
  have := List.mem_range.mp (List.mem_filter.mp hj).1
  omega
theorem month_end {y m : Nat} (h1 : 1 ≤ m) (h2 : m ≤ 12) : monthStart y m + monthDays y m ≤ ys (y + 1) := by
  rw [← monthStart_succ y m h1, ← monthStart_13]
  exact monthStart_le (by omega) (by omega)
theorem ys_mono {y z : Nat} (h : y ≤ z) : ys y ≤ ys z := by
  unfold ys
  omega
theorem ys_start {y m : Nat} (h1 : 1 ≤ m) : ys y ≤ monthStart y m := by
  rw [← monthStart_one]
  exact monthStart_le (by omega) h1
theorem month_lt {i j : Nat} (h : i < j) : monthStart (i / 12) (i % 12 + 1) + monthDays (i / 12) (i % 12 + 1) ≤ monthStart (j / 12) (j % 12 + 1) := by
  by_cases e : i / 12 = j / 12
  · rw [← monthStart_succ _ _ (by omega), e]
    exact monthStart_le (by omega) (by omega)
  · exact Nat.le_trans (month_end (by omega) (by omega)) (Nat.le_trans (ys_mono (by omega)) (ys_start (by omega)))
theorem up_monthlyM {r : Rule} (ok : ROk r) : Up (monthlyM r) := by
  unfold monthlyM
  refine List.pairwise_flatMap.mpr ⟨fun k _ => ?_, List.pairwise_lt_range.imp fun {i j} h x hx y hy => ?_⟩
  · unfold monthlyOne
    split
    · exact monthM_up _ _ _
    · exact List.Pairwise.nil
  · have h1 := steps_lt ok.by1 h
    have h3 := ok.by1
    unfold monthlyOne at hx hy
    split at hx
    · split at hy
      · have a := monthM_mem hx
        have b := monthM_mem hy
        have := month_lt (i := firstPlace r + i * r.by_) (j := firstPlace r + j * r.by_) (by omega)
        omega
      · cases hy
    · cases hx
theorem up_yearlyM {r : Rule} (ok : ROk r) : Up (yearlyM r) := by
  have mup : Up (monthsOf r) := by
    unfold monthsOf
    split
    · exact List.pairwise_singleton _ _
    · exact ok.ums
  have mok := monthsOf_ok ok
  unfold yearlyM
  refine List.pairwise_flatMap.mpr ⟨fun k _ => List.pairwise_flatMap.mpr ⟨fun m _ => monthM_up _ _ _, ?_⟩, List.pairwise_lt_range.imp fun {i j} h x hx y hy => ?_⟩
  · refine List.Pairwise.imp_of_mem (fun {m n} hm hn h x hx y hy => ?_) mup
    have a := monthM_mem hx
    have b := monthM_mem hy
    have h1 := (mok m hm).1
    have c := monthStart_succ (yearOf r.start + k * r.by_) m h1
    have d := monthStart_le (y := yearOf r.start + k * r.by_) (m := m + 1) (m' := n) (by omega) (by omega)
    omega
  · have h1 := steps_lt ok.by1 h
    have h3 := ok.by1
    obtain ⟨m, hm, hx⟩ := List.mem_flatMap.mp hx
    obtain ⟨n, hn, hy⟩ := List.mem_flatMap.mp hy
    have a := monthM_mem hx
    have b := monthM_mem hy
    have c := month_end (y := yearOf r.start + i * r.by_) (mok m hm).1 (mok m hm).2
    have d := ys_start (y := yearOf r.start + j * r.by_) (mok n hn).1
    have e := ys_mono (y := yearOf r.start + i * r.by_ + 1) (z := yearOf r.start + j * r.by_) (by omega)
    omega
theorem up_comes {r : Rule} (ok : ROk r) : Up (comes r) := by
  refine up_of_cast ?_
  have h := ok.freq
  have h4 : r.freq = 0 ∨ r.freq = 1 ∨ r.freq = 2 ∨ r.freq = 3 := by omega
  rcases h4 with e | e | e | e
  · rw [comes_daily' e]
    exact (up_cast (up_dailyM ok)).filter _
  · rw [comes_weekly e ok]
    exact (up_weeklyM ok).filter _
  · rw [comes_monthly e ok]
    exact (up_cast (up_monthlyM ok)).filter _
  · rw [comes_yearly e ok]
    exact (up_cast (up_yearlyM ok)).filter _
/-- the days that come again, cut by until or times -/
def endedL (r : Rule) : List Nat := match r.halt_ with
  | 0 => comes r
  | 1 => (comes r).filter fun n => decide (n ≤ r.last)
  | _ => (comes r).take r.last
theorem endedL_sub (r : Rule) : (endedL r).Sublist (comes r) := by
  unfold endedL
  split
  · exact List.Sublist.refl _
  · exact List.filter_sublist
  · exact List.take_sublist _ _
theorem up_ended {r : Rule} (ok : ROk r) : Up (endedL r) := (up_comes ok).sublist (endedL_sub r)
theorem days_eq {r : Rule} (ok : ROk r) : days r = of join ((endedL r).filter fun n => !r.not_.contains n) r.also := by
  rw [← also_of (Up.filter (up_ended ok) _) ok.ual]
  rfl
theorem days_ok {r : Rule} (ok : ROk r) : Up (days r) ∧ ∀ x ∈ days r, x < 36525 := by
  rw [days_eq ok]
  refine ⟨up_join (Up.filter (up_ended ok) _) ok.ual, fun x hx => ?_⟩
  rcases (mem_join (Up.filter (up_ended ok) _) ok.ual x).mp hx with h | h
  · exact comes_lt r x ((endedL_sub r).subset (List.mem_filter.mp h).1)
  · exact ok.al x h
end CA
end file_CaUp
section file_CaRaise
set_option maxRecDepth 100000
set_option maxHeartbeats 4000000
/-! raise NoRule("..") -/
namespace CA
open PySem PySem.Spec PyProof.Rows L2
theorem ps_nr {X : Cx} {W : WX} {m : Str} {j : Nat} {p p2 pos pos' : Pos} {K : PySem.W.Frag} {mg : Str → Option Value} (T : Tx K mg) (hK : X.K = K) (hm : X.mg = mg) (hc : X.calm = true) (tk : Takes X W) (hg : Gl X "NoRule") :
    PS X (.Raise (some (.Call (.Name "NoRule" p) [.Constant (.str m) j p2] [] pos)) none pos') (fun _ σ H => W (.ref (He.ga K "NoRule")) none σ H) := by
  subst hK
  subst hm
  obtain ⟨x1, x2, x3, x4⟩ := T.x_NoRule
  exact ps_raise hc tk (pmk_own PySem.F.excBase_ValueError x1 T.g_NoRule x2 (raises_own x3 x4) hg)
/-- what a raising of NoRule is, for a promise -/
def NR (K : PySem.W.Frag) (E : XK) (H : Hp) : Prop := E (.ref (He.ga K "NoRule")) none H
end CA
end file_CaRaise
section file_CaRead
set_option maxRecDepth 100000
set_option maxHeartbeats 4000000
/-! Reading, in plain words: the program reads word by word; Cl01's reading does the same. -/
namespace CA
open Cl01
def opt {A : Type} (k : List Nat) (d : A) (f : List Nat → Option A) (l : List (List Nat)) : Option (A × List (List Nat)) :=
  if l.headD [] = k then (f (l.tail.headD [])).map fun x => (x, l.tail.tail) else some (d, l)
theorem clause_one (k x : List Nat) : clause k [x] = (none, [x]) := rfl
theorem clause_nil (k : List Nat) : clause k [] = (none, []) := rfl
theorem clause_two (k a b : List Nat) (l : List (List Nat)) : clause k (a :: b :: l) = if a = k then (some b, l) else (none, a :: b :: l) := rfl
theorem opt_nil {A : Type} {k : List Nat} (hk : k ≠ []) (d : A) (f : List Nat → Option A) : opt k d f [] = some (d, []) := if_neg fun e => hk e.symm
theorem opt_miss {A : Type} {k a : List Nat} {r : List (List Nat)} (h : ¬ a = k) (d : A) (f : List Nat → Option A) : opt k d f (a :: r) = some (d, a :: r) := if_neg h
theorem opt_hit1 {A : Type} (k : List Nat) (d : A) (f : List Nat → Option A) : opt k d f [k] = (f []).map fun x => (x, []) := if_pos rfl
theorem opt_hit {A : Type} (k b : List Nat) (r : List (List Nat)) (d : A) (f : List Nat → Option A) : opt k d f (k :: b :: r) = (f b).map fun x => (x, r) := if_pos rfl
/-- a stage of the reading: it fails in both; it is stuck at a last word; it goes on in both -/
theorem stage {A B : Type} (k : List Nat) (hk : k ≠ []) (d : A) (f : List Nat → Option A) (g : A → B) (hf : f [] = none) (l : List (List Nat)) :
    (opt k (g d) (fun w => (f w).map g) l = none ∧ told d f (clause k l).1 = none) ∨ (opt k (g d) (fun w => (f w).map g) l = none ∧ l = [k]) ∨
    (∃ v l', opt k (g d) (fun w => (f w).map g) l = some (g v, l') ∧ told d f (clause k l).1 = some v ∧ (clause k l).2 = l') := by
  match l with
  | [] => exact .inr (.inr ⟨d, [], opt_nil hk _ _, rfl, rfl⟩)
  | [a] =>
    by_cases h : a = k
    · subst h
      exact .inr (.inl ⟨by rw [opt_hit1, hf]; rfl, rfl⟩)
    · exact .inr (.inr ⟨d, [a], opt_miss h _ _, rfl, rfl⟩)
  | a :: b :: r =>
    rw [clause_two]
    by_cases h : a = k
    · subst h
      rw [if_pos rfl, opt_hit]
      cases e : f b with
      | none => exact .inl ⟨rfl, e⟩
      | some v => exact .inr (.inr ⟨v, r, rfl, e, rfl⟩)
    · rw [if_neg h, opt_miss h]
      exact .inr (.inr ⟨d, a :: b :: r, rfl, rfl, rfl⟩)
/-- a stage whose being there counts -/
theorem stageO (k : List Nat) (hk : k ≠ []) (f : List Nat → Option Nat) (hf : f [] = none) (l : List (List Nat)) :
    (opt k none (fun w => (f w).map some) l = none ∧ told 0 f (clause k l).1 = none) ∨ (opt k none (fun w => (f w).map some) l = none ∧ l = [k]) ∨
    (∃ v l', opt k none (fun w => (f w).map some) l = some (v, l') ∧ told 0 f (clause k l).1 = some (v.getD 0) ∧ (clause k l).1.isSome = v.isSome ∧ (clause k l).2 = l') := by
  match l with
  | [] => exact .inr (.inr ⟨none, [], opt_nil hk _ _, rfl, rfl, rfl⟩)
  | [a] =>
    by_cases h : a = k
    · subst h
      exact .inr (.inl ⟨by rw [opt_hit1, hf]; rfl, rfl⟩)
    · exact .inr (.inr ⟨none, [a], opt_miss h _ _, rfl, rfl, rfl⟩)
  | a :: b :: r =>
    rw [clause_two]
    by_cases h : a = k
    · subst h
      rw [if_pos rfl, opt_hit]
      cases e : f b with
      | none => exact .inl ⟨rfl, e⟩
      | some v => exact .inr (.inr ⟨some v, r, rfl, e, rfl, rfl⟩)
    · rw [if_neg h, opt_miss h]
      exact .inr (.inr ⟨none, a :: b :: r, rfl, rfl, rfl, rfl⟩)
/-- the first day must be there -/
theorem stageF (l : List (List Nat)) : (¬ l.headD [] = FROM ∧ (clause FROM l).1 = none) ∨ (l = [FROM]) ∨ ∃ b r, l = FROM :: b :: r ∧ clause FROM l = (some b, r) := by
  match l with
  | [] => exact .inl ⟨by decide, rfl⟩
  | [a] =>
    by_cases h : a = FROM
    · subst h
      exact .inr (.inl rfl)
    · exact .inl ⟨h, rfl⟩
  | a :: b :: r =>
    rw [clause_two]
    by_cases h : a = FROM
    · subst h
      rw [if_pos rfl]
      exact .inr (.inr ⟨b, r, rfl, rfl⟩)
    · rw [if_neg h]
      exact .inl ⟨h, rfl⟩
def sortItems (it : List Item) : List Item := it.foldl (fun (m : List Item) (y : Item) => insertItem y m) []
def fromL (l : List (List Nat)) : Option (Nat × List (List Nat)) := if l.headD [] = FROM then (dateOf (l.tail.headD [])).map fun x => (x, l.tail.tail) else none
/-- the stages behind the kind -/
def readW (f : Nat) (l : List (List Nat)) : Option Rule :=
  (opt BY 1 (within 1 99) l).bind fun b =>
  (if f < 2 then opt ON [] (fun w => (allOf weekdayOf w).map sorted) b.2 else some ([], b.2)).bind fun wd =>
  (if f < 2 then some ([], wd.2) else opt ON [] (fun w => (allOf itemOf w).map sortItems) wd.2).bind fun it =>
  (if f < 2 then some ([], it.2) else opt IN [] (fun w => (allOf (within 1 12) w).map sorted) it.2).bind fun ms =>
  (fromL ms.2).bind fun s =>
  (opt UNTIL none (fun w => (dateOf w).map some) s.2).bind fun u =>
  (if u.1.isSome then some (none, u.2) else opt TIMES none (fun w => (within 1 999 w).map some) u.2).bind fun n =>
  (opt NOT [] (fun w => (allOf dateOf w).map sorted) n.2).bind fun ns =>
  (opt ALSO [] (fun w => (allOf dateOf w).map sorted) ns.2).bind fun as =>
  if as.2 = [] then some ⟨f, b.1, wd.1, it.1, ms.1, s.1, if u.1.isSome then 1 else if n.1.isSome then 2 else 0, if u.1.isSome then u.1.getD 0 else n.1.getD 0, ns.1, as.1⟩ else none
def readP (t : List Nat) : Option Rule := match parted 32 t with
  | [] => none
  | w :: l => (FREQS.findIdx? fun (x : List Nat) => x == w).bind fun f => readW f l
theorem within_nil (a b : Nat) : within a b [] = none := rfl
theorem dateOf_nil : dateOf [] = none := rfl
theorem all_nil1 : allOf weekdayOf [] = none := rfl
theorem all_nil2 : allOf itemOf [] = none := rfl
theorem all_nil3 (a b : Nat) : allOf (within a b) [] = none := rfl
theorem all_nil4 : allOf dateOf [] = none := rfl
theorem map_id' {A : Type} (f : List Nat → Option A) : (fun w => (f w).map fun x => x) = f := by
  funext w
  cases f w <;> rfl
/-- the reading of Cl01, behind the kind -/
def readC (f : Nat) (l : List (List Nat)) : Option Rule :=
    let b := clause BY l
    let o := clause ON b.2
    let i := clause IN o.2
    let s := clause FROM i.2
    let u := clause UNTIL s.2
    let n := if u.1.isSome = true then (none, u.2) else clause TIMES u.2
    let x := clause NOT n.2
    let a := clause ALSO x.2
    if a.2 ≠ [] ∨ (s.1.isNone = true ∨ (f < 2 ∧ i.1.isSome = true)) then none else
    (told 1 (within 1 99) b.1).bind fun (by_ : Nat) => (if f < 2 then told [] (allOf weekdayOf) o.1 else some []).bind fun (wd : List Nat) => (if f < 2 then some [] else told [] (allOf itemOf) o.1).bind fun (it : List Item) =>
    (told [] (allOf (within 1 12)) i.1).bind fun (ms : List Nat) => (told 0 dateOf s.1).bind fun (start : Nat) => (told 0 dateOf u.1).bind fun (last : Nat) => (told 0 (within 1 999) n.1).bind fun (many : Nat) =>
    (told [] (allOf dateOf) x.1).bind fun (ns : List Nat) => (told [] (allOf dateOf) a.1).map fun (as : List Nat) =>
      ⟨f, by_, sorted wd, it.foldl (fun (m : List Item) (y : Item) => insertItem y m) [], sorted ms, start, if u.1.isSome = true then 1 else if n.1.isSome = true then 2 else 0, if u.1.isSome = true then last else many, sorted ns, sorted as⟩
theorem read_C (t : List Nat) : read t = match parted 32 t with
    | [] => none
    | w :: l => (FREQS.findIdx? fun (x : List Nat) => x == w).bind fun f => readC f l := rfl
theorem ite_none {A B : Type} {c : Prop} [Decidable c] (k : A → Option B) : (if c then none else Option.bind none k) = none := by split <;> rfl
/-- from until on -/
def tailW (l : List (List Nat)) : Option ((Option Nat × Option Nat) × List Nat × List Nat) :=
  (opt UNTIL none (fun w => (dateOf w).map some) l).bind fun u =>
  (if u.1.isSome then some (none, u.2) else opt TIMES none (fun w => (within 1 999 w).map some) u.2).bind fun n =>
  (opt NOT [] (fun w => (allOf dateOf w).map sorted) n.2).bind fun ns =>
  (opt ALSO [] (fun w => (allOf dateOf w).map sorted) ns.2).bind fun as =>
  if as.2 = [] then some ((u.1, n.1), ns.1, as.1) else none
def tailC (l : List (List Nat)) : Option ((Option Nat × Option Nat) × List Nat × List Nat) :=
    let u := clause UNTIL l
    let n := if u.1.isSome = true then (none, u.2) else clause TIMES u.2
    let x := clause NOT n.2
    let a := clause ALSO x.2
    if a.2 ≠ [] then none else
    (told 0 dateOf u.1).bind fun (last : Nat) => (told 0 (within 1 999) n.1).bind fun (many : Nat) =>
    (told [] (allOf dateOf) x.1).bind fun (ns : List Nat) => (told [] (allOf dateOf) a.1).map fun (as : List Nat) => ((if u.1.isSome then some last else none, if n.1.isSome then some many else none), sorted ns, sorted as)
theorem tailC_one (x : List Nat) : tailC [x] = none := rfl
theorem tail_eq (l : List (List Nat)) : tailW l = tailC l := by
  unfold tailW tailC
  dsimp only
  rcases stageO UNTIL (by decide) dateOf dateOf_nil l with ⟨h1, h2⟩ | ⟨h1, rfl⟩ | ⟨u, l1, h1, h2, h3, h4⟩
  · rw [h1, h2]
    exact (ite_none _).symm
  · rw [h1]
    rfl
  rw [h1, h2, h3, h4]
  dsimp only [Option.bind_some]
  have two : (u.isSome = true ∧ (if u.isSome then some (none, l1) else opt TIMES none (fun w => (within 1 999 w).map some) l1) = some (none, l1) ∧ (if u.isSome = true then ((none : Option (List Nat)), l1) else clause TIMES l1) = (none, l1)) ∨
      (u.isSome = false ∧ (if u.isSome then some (none, l1) else opt TIMES none (fun w => (within 1 999 w).map some) l1) = opt TIMES none (fun w => (within 1 999 w).map some) l1 ∧ (if u.isSome = true then ((none : Option (List Nat)), l1) else clause TIMES l1) = clause TIMES l1) := by
    cases u with
    | none => exact .inr ⟨rfl, rfl, rfl⟩
    | some v => exact .inl ⟨rfl, rfl, rfl⟩
  have fin : ∀ (n : Option Nat) (l2 : List (List Nat)) (c : Option (List Nat)), c.isSome = n.isSome → told 0 (within 1 999) c = some (n.getD 0) →
      ((opt NOT [] (fun w => (allOf dateOf w).map sorted) l2).bind fun ns => (opt ALSO [] (fun w => (allOf dateOf w).map sorted) ns.2).bind fun as => if as.2 = [] then some ((u, n), ns.1, as.1) else none) =
      (if (clause ALSO (clause NOT l2).2).2 ≠ [] then none else (told 0 (within 1 999) c).bind fun (many : Nat) => (told [] (allOf dateOf) (clause NOT l2).1).bind fun (ns : List Nat) => (told [] (allOf dateOf) (clause ALSO (clause NOT l2).2).1).map fun (as : List Nat) => ((if u.isSome then some (u.getD 0) else none, if c.isSome then some many else none), sorted ns, sorted as)) := by
    intro n l2 c hc ht
    rw [ht, hc]
    dsimp only [Option.bind_some]
    have eu : (if u.isSome = true then some (u.getD 0) else none) = u := by cases u <;> rfl
    have en : (if n.isSome = true then some (n.getD 0) else none) = n := by cases n <;> rfl
    rw [eu, en]
    rcases stage NOT (by decide) [] (allOf dateOf) sorted all_nil4 l2 with ⟨h1, h2⟩ | ⟨h1, rfl⟩ | ⟨ns, l3, h1, h2, h3⟩
    · rw [show opt NOT [] (fun w => (allOf dateOf w).map sorted) l2 = none from h1, h2]
      exact (ite_none _).symm
    · rw [show opt NOT [] (fun w => (allOf dateOf w).map sorted) [NOT] = none from h1]
      rfl
    rw [show opt NOT [] (fun w => (allOf dateOf w).map sorted) l2 = some (sorted ns, l3) from h1, h2, h3]
    dsimp only [Option.bind_some]
    rcases stage ALSO (by decide) [] (allOf dateOf) sorted all_nil4 l3 with ⟨h1, h2⟩ | ⟨h1, rfl⟩ | ⟨as, l4, h1, h2, h3⟩
    · rw [show opt ALSO [] (fun w => (allOf dateOf w).map sorted) l3 = none from h1, h2]
      split <;> rfl
    · rw [show opt ALSO [] (fun w => (allOf dateOf w).map sorted) [ALSO] = none from h1]
      rfl
    rw [show opt ALSO [] (fun w => (allOf dateOf w).map sorted) l3 = some (sorted as, l4) from h1, h2, h3]
    dsimp only [Option.bind_some, Option.map_some]
    by_cases e : l4 = []
    · rw [if_pos e, if_neg (fun z => z e)]
    · rw [if_neg e, if_pos e]
  rcases two with ⟨k1, k2, k3⟩ | ⟨k1, k2, k3⟩
  · rw [k2, k3]
    exact fin none l1 none rfl rfl
  · rw [k2, k3]
    rcases stageO TIMES (by decide) (within 1 999) (within_nil _ _) l1 with ⟨h1, h2⟩ | ⟨h1, rfl⟩ | ⟨n, l2, h1, h2, h3, h4⟩
    · rw [h1, h2]
      exact (ite_none _).symm
    · rw [h1]
      rfl
    rw [h1, ← h4]
    exact fin n _ _ h3 h2
/-- the whole, by its end -/
def headW (f : Nat) (l : List (List Nat)) : Option Rule :=
  (opt BY 1 (within 1 99) l).bind fun b =>
  (if f < 2 then opt ON [] (fun w => (allOf weekdayOf w).map sorted) b.2 else some ([], b.2)).bind fun wd =>
  (if f < 2 then some ([], wd.2) else opt ON [] (fun w => (allOf itemOf w).map sortItems) wd.2).bind fun it =>
  (if f < 2 then some ([], it.2) else opt IN [] (fun w => (allOf (within 1 12) w).map sorted) it.2).bind fun ms =>
  (fromL ms.2).bind fun s => (tailW s.2).map fun e =>
  ⟨f, b.1, wd.1, it.1, ms.1, s.1, if e.1.1.isSome then 1 else if e.1.2.isSome then 2 else 0, if e.1.1.isSome then e.1.1.getD 0 else e.1.2.getD 0, e.2.1, e.2.2⟩
def headC (f : Nat) (l : List (List Nat)) : Option Rule :=
    let b := clause BY l
    let o := clause ON b.2
    let i := clause IN o.2
    let s := clause FROM i.2
    if s.1.isNone = true ∨ (f < 2 ∧ i.1.isSome = true) then none else
    (told 1 (within 1 99) b.1).bind fun (by_ : Nat) => (if f < 2 then told [] (allOf weekdayOf) o.1 else some []).bind fun (wd : List Nat) => (if f < 2 then some [] else told [] (allOf itemOf) o.1).bind fun (it : List Item) =>
    (told [] (allOf (within 1 12)) i.1).bind fun (ms : List Nat) => (told 0 dateOf s.1).bind fun (start : Nat) => (tailC s.2).map fun e =>
  ⟨f, by_, sorted wd, sortItems it, sorted ms, start, if e.1.1.isSome then 1 else if e.1.2.isSome then 2 else 0, if e.1.1.isSome then e.1.1.getD 0 else e.1.2.getD 0, e.2.1, e.2.2⟩
theorem bind_none' {A B : Type} : ∀ x : Option A, (x.bind fun _ => (none : Option B)) = none
  | none => rfl
  | some _ => rfl
theorem readC_head (f : Nat) (l : List (List Nat)) : readC f l = headC f l := by
  unfold readC headC tailC
  dsimp only
  generalize clause BY l = b
  generalize clause ON b.2 = o
  generalize clause IN o.2 = i
  generalize clause FROM i.2 = s
  generalize clause UNTIL s.2 = u
  generalize (if u.1.isSome = true then (none, u.2) else clause TIMES u.2) = n
  generalize clause NOT n.2 = x
  generalize clause ALSO x.2 = a
  by_cases h1 : s.1.isNone = true ∨ (f < 2 ∧ i.1.isSome = true)
  · rw [if_pos h1, if_pos (.inr h1)]
  · rw [if_neg h1]
    by_cases h2 : a.2 ≠ []
    · rw [if_pos (.inl h2), if_pos h2]
      simp only [Option.map_none, bind_none']
    · rw [if_neg (fun z => z.elim h2 h1), if_neg h2]
      generalize told 1 (within 1 99) b.1 = v1
      generalize (if f < 2 then told [] (allOf weekdayOf) o.1 else some []) = v2
      generalize (if f < 2 then some [] else told [] (allOf itemOf) o.1) = v3
      generalize told [] (allOf (within 1 12)) i.1 = v4
      generalize told 0 dateOf s.1 = v5
      generalize told 0 dateOf u.1 = v6
      generalize h7 : told 0 (within 1 999) n.1 = v7
      generalize told [] (allOf dateOf) x.1 = v8
      generalize told [] (allOf dateOf) a.1 = v9
      cases v1 with
      | none => rfl
      | some v1 =>
      cases v2 with
      | none => rfl
      | some v2 =>
      cases v3 with
      | none => rfl
      | some v3 =>
      cases v4 with
      | none => rfl
      | some v4 =>
      cases v5 with
      | none => rfl
      | some v5 =>
      cases v6 with
      | none => rfl
      | some v6 =>
      cases v7 with
      | none => rfl
      | some v7 =>
      cases v8 with
      | none => rfl
      | some v8 =>
      cases v9 with
      | none => rfl
      | some v9 =>
        show some _ = some _
        cases hu : u.1.isSome with
        | true => cases hn : n.1.isSome <;> rfl
        | false =>
          cases hn : n.1.isSome with
          | true => rfl
          | false =>
            obtain ⟨n1, n2⟩ := n
            cases n1 with
            | some _ => cases hn
            | none =>
              obtain rfl := Option.some.inj h7
              rfl
theorem readW_head (f : Nat) (l : List (List Nat)) : readW f l = headW f l := by
  unfold readW headW tailW
  congr 1
  funext b
  congr 1
  funext wd
  congr 1
  funext it
  congr 1
  funext ms
  congr 1
  funext s
  rw [Option.map_bind]
  congr 1
  funext u
  show _ = Option.map _ (Option.bind _ _)
  rw [Option.map_bind]
  congr 1
  funext n
  show _ = Option.map _ (Option.bind _ _)
  rw [Option.map_bind]
  congr 1
  funext ns
  show _ = Option.map _ (Option.bind _ _)
  rw [Option.map_bind]
  congr 1
  funext as
  show _ = Option.map _ (if as.2 = [] then _ else _)
  split <;> rfl
theorem fromL_eq (l : List (List Nat)) : (fromL l = none ∧ (clause FROM l).1 = none) ∨ (fromL l = none ∧ l = [FROM]) ∨ (fromL l = none ∧ ∃ b r, clause FROM l = (some b, r) ∧ dateOf b = none) ∨ ∃ b r x, clause FROM l = (some b, r) ∧ dateOf b = some x ∧ fromL l = some (x, r) := by
  rcases stageF l with ⟨h1, h2⟩ | rfl | ⟨b, r, rfl, h⟩
  · exact .inl ⟨if_neg h1, h2⟩
  · exact .inr (.inl ⟨rfl, rfl⟩)
  · have e : fromL (FROM :: b :: r) = (dateOf b).map fun x => (x, r) := if_pos rfl
    cases k : dateOf b with
    | none => exact .inr (.inr (.inl ⟨by rw [e, k]; rfl, b, r, h, k⟩))
    | some x => exact .inr (.inr (.inr ⟨b, r, x, h, k, by rw [e, k]; rfl⟩))
theorem head_eq (f : Nat) (l : List (List Nat)) : headW f l = headC f l := by
  unfold headW headC
  dsimp only
  have one : ∀ k x : List Nat, (clause k [x]).2 = [x] := fun _ _ => rfl
  have oneN : ∀ k x : List Nat, (clause k [x]).1 = none := fun _ _ => rfl
  -- by
  have sby := stage BY (by decide) 1 (within 1 99) (fun x => x) (within_nil _ _) l
  rw [map_id'] at sby
  rcases sby with ⟨h1, h2⟩ | ⟨h1, rfl⟩ | ⟨by_, l1, h1, h2, h3⟩
  · rw [h1, h2]
    exact (ite_none _).symm
  · rw [h1, one, one, one, oneN]
    rfl
  rw [h1, h2, h3]
  simp only [Option.bind_some]
  clear h1 h2 h3
  by_cases hf : f < 2
  · simp only [if_pos hf, Option.bind_some]
    rcases stage ON (by decide) [] (allOf weekdayOf) sorted all_nil1 l1 with ⟨h1, h2⟩ | ⟨h1, rfl⟩ | ⟨wd, l2, h1, h2, h3⟩
    · rw [show opt ON [] (fun w => (allOf weekdayOf w).map sorted) l1 = none from h1, h2]
      exact (ite_none _).symm
    · rw [show opt ON [] (fun w => (allOf weekdayOf w).map sorted) [ON] = none from h1, one, one, oneN]
      rfl
    rw [show opt ON [] (fun w => (allOf weekdayOf w).map sorted) l1 = some (sorted wd, l2) from h1, h2, h3]
    simp only [Option.bind_some]
    clear h1 h2 h3
    -- in must not be there
    match l2 with
    | [] => rfl
    | [x] =>
      rw [one, oneN, oneN, if_pos (.inl rfl)]
      by_cases hx : x = FROM
      · subst hx
        rfl
      · rw [show fromL [x] = none from if_neg hx]
        rfl
    | x :: y :: r =>
      rw [clause_two]
      by_cases hx : x = IN
      · subst hx
        rw [if_pos rfl, if_pos (.inr ⟨hf, rfl⟩), show fromL (IN :: y :: r) = none from if_neg (by show ¬ IN = FROM; decide)]
        rfl
      · rw [if_neg hx]
        dsimp only
        rcases fromL_eq (x :: y :: r) with ⟨h1, h2⟩ | ⟨h1, h2⟩ | ⟨h1, b, r', h2, h3⟩ | ⟨b, r', v, h2, h3, h4⟩
        · rw [h1, h2, if_pos (.inl rfl)]
          rfl
        · cases h2
        · rw [h1, h2]
          show none = ite _ _ _
          rw [show told 0 dateOf (some b) = none from h3]
          split <;> rfl
        · rw [h4, h2, if_neg (by rintro (z | ⟨_, z⟩) <;> cases z), show told 0 dateOf (some b) = some v from h3]
          simp only [Option.bind_some, tail_eq]
          rfl
  · simp only [if_neg hf, Option.bind_some]
    rcases stage ON (by decide) [] (allOf itemOf) sortItems all_nil2 l1 with ⟨h1, h2⟩ | ⟨h1, rfl⟩ | ⟨it, l2, h1, h2, h3⟩
    · rw [show opt ON [] (fun w => (allOf itemOf w).map sortItems) l1 = none from h1, h2]
      exact (ite_none _).symm
    · rw [show opt ON [] (fun w => (allOf itemOf w).map sortItems) [ON] = none from h1, one, one, oneN]
      rfl
    rw [show opt ON [] (fun w => (allOf itemOf w).map sortItems) l1 = some (sortItems it, l2) from h1, h2, h3]
    simp only [Option.bind_some]
    clear h1 h2 h3
    rcases stage IN (by decide) [] (allOf (within 1 12)) sorted (all_nil3 _ _) l2 with ⟨h1, h2⟩ | ⟨h1, rfl⟩ | ⟨ms, l3, h1, h2, h3⟩
    · rw [show opt IN [] (fun w => (allOf (within 1 12) w).map sorted) l2 = none from h1, h2]
      exact (ite_none _).symm
    · rw [show opt IN [] (fun w => (allOf (within 1 12) w).map sorted) [IN] = none from h1, one, oneN]
      rfl
    rw [show opt IN [] (fun w => (allOf (within 1 12) w).map sorted) l2 = some (sorted ms, l3) from h1, h2, h3]
    simp only [Option.bind_some]
    clear h1 h2 h3
    rcases fromL_eq l3 with ⟨h1, h2⟩ | ⟨h1, rfl⟩ | ⟨h1, b, r', h2, h3⟩ | ⟨b, r', v, h2, h3, h4⟩
    · rw [h1, h2, if_pos (.inl rfl)]
      rfl
    · rw [h1, oneN, if_pos (.inl rfl)]
      rfl
    · rw [h1, h2]
      show none = ite _ _ _
      rw [show told 0 dateOf (some b) = none from h3]
      split <;> rfl
    · rw [h4, h2, if_neg (fun z => z.elim (fun z => by cases z) fun z => hf z.1), show told 0 dateOf (some b) = some v from h3]
      simp only [Option.bind_some, tail_eq]
      rfl
theorem read_eq (t : List Nat) : read t = readP t := by
  rw [read_C]
  unfold readP
  cases parted 32 t with
  | nil => rfl
  | cons w l =>
    dsimp only
    congr 1
    funext f
    rw [readC_head, readW_head, head_eq]
end CA
end file_CaRead
section file_CaRead2
set_option maxRecDepth 100000
set_option maxHeartbeats 4000000
/-! What a rule that was read has; the signs of its text. -/
namespace CA
open Cl01
/-! ### numbers, weekdays, items, dates -/
def dig (c : Nat) : Bool := decide (48 ≤ c) && decide (c ≤ 57)
theorem numberOf_some {w : List Nat} {n : Nat} (h : numberOf w = some n) : w ≠ [] ∧ w.length ≤ 3 ∧ w.all dig = true ∧ ¬ w.headD 48 = 48 ∧ n = w.foldl (fun (n c : Nat) => 10 * n + (c - 48)) 0 := by
  unfold numberOf at h
  split at h
  · cases h
  · rename_i c
    refine ⟨fun e => c (.inl (by rw [e]; rfl)), ?_, ?_, fun e => c (.inr (.inr (.inr e))), (Option.some.inj h).symm⟩
    · have : ¬ 3 < w.length := fun e => c (.inr (.inl e))
      omega
    · cases e : w.all dig with
      | true => rfl
      | false => exact absurd (.inr (.inr (.inl e))) c
theorem numberOf_of {w : List Nat} (h1 : w ≠ []) (h2 : w.length ≤ 3) (h3 : w.all dig = true) (h4 : ¬ w.headD 48 = 48) : numberOf w = some (w.foldl (fun (n c : Nat) => 10 * n + (c - 48)) 0) := by
  unfold numberOf
  rw [if_neg]
  rintro (e | e | e | e)
  · exact h1 (List.isEmpty_iff.mp e)
  · omega
  · rw [show w.all (fun (c : Nat) => decide (48 ≤ c) && decide (c ≤ 57)) = true from h3] at e
    cases e
  · exact h4 e
theorem within_some {lo hi n : Nat} {w : List Nat} (h : within lo hi w = some n) : numberOf w = some n ∧ lo ≤ n ∧ n ≤ hi := by
  unfold within at h
  cases e : numberOf w with
  | none => rw [e] at h; cases h
  | some m =>
    rw [e] at h
    by_cases c : lo ≤ m ∧ m ≤ hi
    · rw [Option.bind_some, if_pos c] at h
      obtain rfl := Option.some.inj h
      exact ⟨rfl, c⟩
    · rw [Option.bind_some, if_neg c] at h
      cases h
theorem number_lt {w : List Nat} {n : Nat} (h : numberOf w = some n) : n < 10 ^ w.length := by
  obtain ⟨_, _, h3, _, rfl⟩ := numberOf_some h
  have := fold_lt w 0 h3
  omega
theorem weekdayOf_some {w : List Nat} {d : Nat} (h : weekdayOf w = some d) : d < 7 ∧ w = MO.getD d [] := by
  unfold weekdayOf at h
  obtain ⟨hd, he, _⟩ := List.findIdx?_eq_some_iff_getElem.mp h
  have e : MO[d] = w := by simpa using he
  refine ⟨hd, ?_⟩
  rw [← e, List.getD_eq_getElem?_getD, List.getElem?_eq_getElem hd]
  rfl
def wt (i : Item) : Nat := (if i.sort % 2 = 1 then 1 else 0) + (if 10 ≤ i.k then 2 else 1) + (if 2 ≤ i.sort then 2 else 0) + 1
theorem itemOf_some {w : List Nat} {i : Item} (h : itemOf w = some i) : ItOk i ∧ wt i ≤ w.length + 1 := by
  unfold itemOf at h
  dsimp only at h
  generalize hb : (w.headD 0 == 45) = back at h
  generalize hv : (if back = true then w.drop 1 else w) = v at h
  have hlen : v.length + (if back = true then 1 else 0) ≤ w.length := by
    subst hv
    cases back with
    | false => exact Nat.le_refl _
    | true =>
      cases w with
      | nil => cases hb
      | cons c r =>
        show (List.drop 1 (c :: r)).length + 1 ≤ _
        rw [List.length_drop, List.length_cons]
        omega
  cases hd : weekdayOf (v.drop (v.length - 2)) with
  | some x =>
    rw [hd] at h
    dsimp only at h
    cases hn : within 1 5 (v.take (v.length - 2)) with
    | none => rw [hn] at h; cases h
    | some k =>
      rw [hn] at h
      obtain rfl := Option.some.inj h
      obtain ⟨n1, n2, n3⟩ := within_some hn
      have ne := (numberOf_some n1).1
      have hl : 3 ≤ v.length := by
        by_cases c : 3 ≤ v.length
        · exact c
        · exact absurd (by rw [show v.length - 2 = 0 by omega]; rfl) ne
      have hx := (weekdayOf_some hd).1
      cases back with
      | false =>
        show ItOk ⟨2, k, x⟩ ∧ wt ⟨2, k, x⟩ ≤ _
        refine ⟨⟨(by show (2 : Nat) < 4; decide), n2, (by show k ≤ 31; omega), fun _ => n3, hx, fun z => absurd z (by show ¬ (2 : Nat) < 2; decide)⟩, ?_⟩
        unfold wt
        dsimp only
        rw [if_neg (by decide), if_neg (by omega : ¬ 10 ≤ k), if_pos (by decide)]
        simp only [Bool.false_eq_true, if_false] at hlen
        omega
      | true =>
        show ItOk ⟨3, k, x⟩ ∧ wt ⟨3, k, x⟩ ≤ _
        refine ⟨⟨(by show (3 : Nat) < 4; decide), n2, (by show k ≤ 31; omega), fun _ => n3, hx, fun z => absurd z (by show ¬ (3 : Nat) < 2; decide)⟩, ?_⟩
        unfold wt
        dsimp only
        rw [if_pos (by decide), if_neg (by omega : ¬ 10 ≤ k), if_pos (by decide)]
        simp only [if_true] at hlen
        omega
  | none =>
    rw [hd] at h
    dsimp only at h
    cases hn : within 1 31 v with
    | none => rw [hn] at h; cases h
    | some k =>
      rw [hn] at h
      obtain rfl := Option.some.inj h
      obtain ⟨n1, n2, n3⟩ := within_some hn
      have ne := (numberOf_some n1).1
      have lt := number_lt n1
      have hl : (if 10 ≤ k then 2 else 1) ≤ v.length := by
        have h1 : 1 ≤ v.length := List.length_pos_iff.mpr ne
        by_cases c : 10 ≤ k
        · rw [if_pos c]
          by_cases c1 : v.length = 1
          · rw [c1] at lt
            omega
          · omega
        · rw [if_neg c]
          exact h1
      cases back with
      | false =>
        show ItOk ⟨0, k, 0⟩ ∧ wt ⟨0, k, 0⟩ ≤ _
        refine ⟨⟨(by show (0 : Nat) < 4; decide), n2, n3, fun z => absurd z (by show ¬ 2 ≤ (0 : Nat); decide), (by show (0 : Nat) < 7; decide), fun _ => rfl⟩, ?_⟩
        unfold wt
        dsimp only
        rw [if_neg (by decide), if_neg (by decide : ¬ 2 ≤ 0)]
        simp only [Bool.false_eq_true, if_false] at hlen
        omega
      | true =>
        show ItOk ⟨1, k, 0⟩ ∧ wt ⟨1, k, 0⟩ ≤ _
        refine ⟨⟨(by show (1 : Nat) < 4; decide), n2, n3, fun z => absurd z (by show ¬ 2 ≤ (1 : Nat); decide), (by show (0 : Nat) < 7; decide), fun _ => rfl⟩, ?_⟩
        unfold wt
        dsimp only
        rw [if_pos (by decide), if_neg (by decide : ¬ 2 ≤ 1)]
        simp only [if_true] at hlen
        omega
theorem dateOf_some {w : List Nat} {n : Nat} (h : dateOf w = some n) : ∃ y m d ny nm nd, parted 45 w = [y, m, d] ∧ figures 4 y = some ny ∧ figures 2 m = some nm ∧ figures 2 d = some nd ∧ 2000 ≤ ny ∧ isDate (ny - 2000) nm nd = true ∧ n = dayOf (ny - 2000) nm nd := by
  unfold dateOf at h
  split at h
  · rename_i y m d e
    split at h
    · rename_i ny nm nd e1 e2 e3
      split at h
      · rename_i c
        exact ⟨y, m, d, ny, nm, nd, e, e1, e2, e3, c.1, c.2, (Option.some.inj h).symm⟩
      · cases h
    · cases h
  · cases h
theorem dateOf_lt {w : List Nat} {n : Nat} (h : dateOf w = some n) : n < 36525 := by
  obtain ⟨_, _, _, _, _, _, _, _, _, _, _, h1, rfl⟩ := dateOf_some h
  exact dayOf_lt h1
/-! ### lists of values -/
theorem mapM_nil' {A B : Type} (f : A → Option B) : List.mapM f [] = some [] := rfl
theorem mapM_cons' {A B : Type} (f : A → Option B) (a : A) (l : List A) : List.mapM f (a :: l) = (f a).bind fun b => (List.mapM f l).map fun c => b :: c := by
  rw [List.mapM_cons]
  cases f a with
  | none => rfl
  | some b =>
    show (do let bs ← List.mapM f l; pure (b :: bs)) = _
    cases List.mapM f l <;> rfl
theorem mapM_some {A B : Type} {f : A → Option B} : ∀ {l : List A} {r : List B}, List.mapM f l = some r → r.length = l.length ∧ (∀ b ∈ r, ∃ a ∈ l, f a = some b) ∧ ∀ a ∈ l, ∃ b, f a = some b
  | [], r, h => by
    obtain rfl := Option.some.inj h
    exact ⟨rfl, fun _ h => absurd h List.not_mem_nil, fun _ h => absurd h List.not_mem_nil⟩
  | a :: l, r, h => by
    rw [mapM_cons'] at h
    cases e : f a with
    | none => rw [e] at h; cases h
    | some b =>
      cases e2 : List.mapM f l with
      | none => rw [e, e2] at h; cases h
      | some c =>
        rw [e, e2] at h
        obtain rfl := Option.some.inj h
        obtain ⟨h1, h2, h3⟩ := mapM_some e2
        refine ⟨by rw [List.length_cons, List.length_cons, h1], fun x hx => ?_, fun x hx => ?_⟩
        · rcases List.mem_cons.mp hx with rfl | hx
          · exact ⟨a, List.mem_cons_self, e⟩
          · obtain ⟨y, hy, ey⟩ := h2 x hx
            exact ⟨y, List.mem_cons_of_mem _ hy, ey⟩
        · rcases List.mem_cons.mp hx with rfl | hx
          · exact ⟨b, e⟩
          · exact h3 x hx
theorem parted_sum (c : Nat) : ∀ w : List Nat, ((parted c w).map fun x => x.length + 1).sum = w.length + 1
  | [] => rfl
  | x :: l => by
    have ih := parted_sum c l
    unfold parted
    by_cases h : x = c
    · rw [if_pos h, List.map_cons, List.sum_cons, ih, List.length_cons]
      show 0 + 1 + _ = _
      omega
    · rw [if_neg h]
      cases e : parted c l with
      | nil => exact absurd e (parted_ne c l)
      | cons w r =>
        rw [e] at ih
        simp only [List.map_cons, List.sum_cons, List.length_cons] at ih ⊢
        omega
theorem wt_sum : ∀ {ws : List (List Nat)} {it : List Item}, List.mapM itemOf ws = some it → (it.map wt).sum ≤ (ws.map fun x => x.length + 1).sum
  | [], it, h => by
    obtain rfl := Option.some.inj h
    exact Nat.le_refl _
  | a :: l, r, h => by
    rw [mapM_cons'] at h
    cases e : itemOf a with
    | none => rw [e] at h; cases h
    | some b =>
      cases e2 : List.mapM itemOf l with
      | none => rw [e, e2] at h; cases h
      | some c =>
        rw [e, e2] at h
        obtain rfl := Option.some.inj h
        have ih := wt_sum e2
        have := (itemOf_some e).2
        simp only [List.map_cons, List.sum_cons]
        omega
/-- a sum over a list without doubles of what only some have -/
theorem sum_sub {α : Type} [DecidableEq α] (f : α → Nat) : ∀ (L M : List α), L.Nodup → (∀ x ∈ L, f x ≠ 0 → x ∈ M) → (L.map f).sum ≤ (M.map f).sum
  | [], M, _, _ => Nat.zero_le _
  | a :: L, M, nd, h => by
    have nd2 := List.nodup_cons.mp nd
    by_cases z : f a = 0
    · rw [List.map_cons, List.sum_cons, z, Nat.zero_add]
      exact sum_sub f L M nd2.2 fun x hx => h x (List.mem_cons_of_mem _ hx)
    · have ha := h a List.mem_cons_self z
      have e : (M.map f).sum = f a + ((M.erase a).map f).sum := by
        have p := (List.perm_cons_erase ha).map f
        rw [p.sum_nat, List.map_cons, List.sum_cons]
      rw [e, List.map_cons, List.sum_cons]
      refine Nat.add_le_add_left (sum_sub f L (M.erase a) nd2.2 fun x hx hz => ?_) _
      exact (List.mem_erase_of_ne (fun c => nd2.1 (by rw [← c]; exact hx))).mpr (h x (List.mem_cons_of_mem _ hx) hz)
theorem sum_sub2 {α : Type} [DecidableEq α] (f : α → Nat) (L M : List α) (nd : L.Nodup) (h : ∀ x ∈ L, x ∈ M) : (L.map f).sum ≤ (M.map f).sum := sum_sub f L M nd fun x hx _ => h x hx
def shortItems : List Item := (List.range 31).map (fun k => ⟨0, k + 1, 0⟩) ++ (List.range 9).map fun k => ⟨1, k + 1, 0⟩
theorem few_items {L : List Item} (nd : L.Nodup) (ok : ∀ i ∈ L, ItOk i) {W : Nat} (hw : (L.map wt).sum ≤ W) : 4 * L.length ≤ W + 49 := by
  have h1 : ∀ L : List Item, 4 * L.length ≤ (L.map wt).sum + (L.map fun i => 4 - wt i).sum := fun L => by
    induction L with
    | nil => exact Nat.le_refl _
    | cons a L ih =>
      simp only [List.map_cons, List.sum_cons, List.length_cons]
      omega
  have h2 := sum_sub (fun i => 4 - wt i) L shortItems nd fun i hi hz => by
    obtain ⟨hs, k1, k31, k5, w7, w0⟩ := ok i hi
    obtain ⟨s, k, w⟩ := i
    dsimp only at hs k1 k31 k5 w7 w0
    have h4 : s = 0 ∨ s = 1 ∨ 2 ≤ s := by omega
    unfold shortItems
    rcases h4 with rfl | rfl | h4
    · obtain rfl := w0 (by decide)
      exact List.mem_append_left _ (List.mem_map.mpr ⟨k - 1, List.mem_range.mpr (by omega), by rw [Nat.sub_add_cancel k1]⟩)
    · obtain rfl := w0 (by decide)
      refine List.mem_append_right _ (List.mem_map.mpr ⟨k - 1, List.mem_range.mpr ?_, by rw [Nat.sub_add_cancel k1]⟩)
      by_cases c : 10 ≤ k
      · exfalso
        apply hz
        unfold wt
        dsimp only
        rw [if_pos (by decide), if_pos c, if_neg (by decide)]
      · omega
    · exfalso
      apply hz
      have e : 4 ≤ wt ⟨s, k, w⟩ := by
        unfold wt
        dsimp only
        rw [if_pos h4]
        have : 1 ≤ (if 10 ≤ k then 2 else 1) := by split <;> decide
        omega
      omega
  have h3 : (shortItems.map fun i => 4 - wt i).sum = 49 := by decide +kernel
  have := h1 L
  omega
end CA
end file_CaRead2
section file_CaRead3
set_option maxRecDepth 100000
set_option maxHeartbeats 4000000
/-! Items in order; what a rule that was read has; its signs. -/
namespace CA
open Cl01
theorem code_inj {a b : Item} (ha : ItOk a) (hb : ItOk b) (h : itemCode a = itemCode b) : a = b := by
  obtain ⟨s, k, w⟩ := a
  obtain ⟨s', k', w'⟩ := b
  have h1 := ha.s
  have h2 := ha.k31
  have h3 := ha.w7
  have g2 := hb.k31
  have g3 := hb.w7
  unfold itemCode at h
  dsimp only at h h1 h2 h3 g2 g3
  obtain rfl : s = s' := by omega
  obtain rfl : k = k' := by omega
  obtain rfl : w = w' := by omega
  rfl
def UpI (l : List Item) : Prop := l.Pairwise fun a b => itemCode a < itemCode b
theorem mem_insertItem (a x : Item) : ∀ l : List Item, x ∈ insertItem a l ↔ x = a ∨ x ∈ l
  | [] => by simp [insertItem]
  | b :: l => by
    unfold insertItem
    by_cases h1 : a = b
    · subst h1
      rw [if_pos rfl, List.mem_cons]
      exact ⟨fun h => .inr h, fun h => h.elim .inl fun h => h⟩
    · rw [if_neg h1]
      by_cases h2 : itemCode a < itemCode b
      · rw [if_pos h2, List.mem_cons]
      · rw [if_neg h2, List.mem_cons, List.mem_cons, mem_insertItem a x l]
        exact ⟨fun h => h.elim (fun h => .inr (.inl h)) fun h => h.elim .inl fun h => .inr (.inr h), fun h => h.elim (fun h => .inr (.inl h)) fun h => h.elim .inl fun h => .inr (.inr h)⟩
theorem up_insertItem {a : Item} (ha : ItOk a) : ∀ {l : List Item}, (∀ i ∈ l, ItOk i) → UpI l → UpI (insertItem a l)
  | [], _, _ => List.pairwise_singleton _ _
  | b :: l, ok, h => by
    have hb := ok b List.mem_cons_self
    have h' := List.pairwise_cons.mp h
    unfold insertItem
    by_cases h1 : a = b
    · rw [if_pos h1]
      exact h
    · rw [if_neg h1]
      by_cases h2 : itemCode a < itemCode b
      · rw [if_pos h2]
        refine List.pairwise_cons.mpr ⟨fun x hx => ?_, h⟩
        rcases List.mem_cons.mp hx with rfl | hx
        · exact h2
        · exact Nat.lt_trans h2 (h'.1 x hx)
      · rw [if_neg h2]
        have ih := up_insertItem ha (fun i hi => ok i (List.mem_cons_of_mem _ hi)) h'.2
        refine List.pairwise_cons.mpr ⟨fun x hx => ?_, ih⟩
        rcases (mem_insertItem a x l).mp hx with rfl | hx
        · have : itemCode x ≠ itemCode b := fun e => h1 (code_inj ha hb e)
          omega
        · exact h'.1 x hx
theorem sortItems_go : ∀ (it m : List Item), (∀ i ∈ it, ItOk i) → (∀ i ∈ m, ItOk i) → UpI m → UpI (it.foldl (fun m y => insertItem y m) m) ∧ ∀ x, x ∈ it.foldl (fun m y => insertItem y m) m ↔ x ∈ it ∨ x ∈ m
  | [], m, _, _, u => ⟨u, fun x => by simp⟩
  | a :: it, m, h1, h2, u => by
    have ha := h1 a List.mem_cons_self
    have ih := sortItems_go it (insertItem a m) (fun i hi => h1 i (List.mem_cons_of_mem _ hi)) (fun i hi => ((mem_insertItem a i m).mp hi).elim (fun e => by rw [e]; exact ha) (h2 i)) (up_insertItem ha h2 u)
    refine ⟨ih.1, fun x => ?_⟩
    rw [List.foldl_cons, ih.2 x, mem_insertItem, List.mem_cons]
    exact ⟨fun h => h.elim (fun h => .inl (.inr h)) fun h => h.elim (fun h => .inl (.inl h)) .inr, fun h => h.elim (fun h => h.elim (fun h => .inr (.inl h)) .inl) fun h => .inr (.inr h)⟩
theorem up_sortItems {it : List Item} (h : ∀ i ∈ it, ItOk i) : UpI (sortItems it) := (sortItems_go it [] h (fun _ h => absurd h List.not_mem_nil) List.Pairwise.nil).1
theorem mem_sortItems {it : List Item} (h : ∀ i ∈ it, ItOk i) (x : Item) : x ∈ sortItems it ↔ x ∈ it := by
  have e := (sortItems_go it [] h (fun _ h => absurd h List.not_mem_nil) List.Pairwise.nil).2 x
  exact e.trans ⟨fun h => h.elim (fun h => h) fun h => absurd h List.not_mem_nil, .inl⟩
theorem UpI.nodup {l : List Item} (h : UpI l) : l.Nodup := h.imp fun h e => by rw [e] at h; exact Nat.lt_irrefl _ h
theorem upI_ext : ∀ {l m : List Item}, UpI l → UpI m → (∀ x, x ∈ l ↔ x ∈ m) → l = m
  | [], [], _, _, _ => rfl
  | [], b :: m, _, _, h => absurd ((h b).mpr List.mem_cons_self) List.not_mem_nil
  | a :: l, [], _, _, h => absurd ((h a).mp List.mem_cons_self) List.not_mem_nil
  | a :: l, b :: m, hl, hm, h => by
    have hl' := List.pairwise_cons.mp hl
    have hm' := List.pairwise_cons.mp hm
    have e : a = b := by
      rcases List.mem_cons.mp ((h a).mp List.mem_cons_self) with e | e
      · exact e
      · rcases List.mem_cons.mp ((h b).mpr List.mem_cons_self) with f | f
        · exact f.symm
        · have h1 := hm'.1 a e
          have h2 := hl'.1 b f
          omega
    subst e
    rw [upI_ext hl'.2 hm'.2 fun x => ?_]
    constructor
    · intro hx
      rcases List.mem_cons.mp ((h x).mp (List.mem_cons_of_mem _ hx)) with e | e
      · subst e
        exact absurd (hl'.1 x hx) (Nat.lt_irrefl _)
      · exact e
    · intro hx
      rcases List.mem_cons.mp ((h x).mpr (List.mem_cons_of_mem _ hx)) with e | e
      · subst e
        exact absurd (hm'.1 x hx) (Nat.lt_irrefl _)
      · exact e
theorem allItems {w : List Nat} {it : List Item} (h : allOf itemOf w = some it) : (∀ i ∈ it, ItOk i) ∧ ∀ L : List Item, L.Nodup → (∀ x ∈ L, x ∈ it) → 4 * L.length ≤ w.length + 50 := by
  unfold allOf at h
  have ok : ∀ i ∈ it, ItOk i := fun i hi => by
    obtain ⟨a, _, e⟩ := (mapM_some h).2.1 i hi
    exact (itemOf_some e).1
  refine ⟨ok, fun L nd sb => ?_⟩
  have h1 := wt_sum h
  rw [parted_sum] at h1
  have h2 := sum_sub2 wt L it nd sb
  have := few_items nd (fun i hi => ok i (sb i hi)) (Nat.le_trans h2 h1)
  omega
/-! ### stages, told apart -/
theorem opt_some {A : Type} {k : List Nat} {d x : A} {f : List Nat → Option A} {l l' : List (List Nat)} (h : opt k d f l = some (x, l')) : (x = d ∧ l' = l) ∨ (l.headD [] = k ∧ f (l.tail.headD []) = some x ∧ l' = l.tail.tail) := by
  unfold opt at h
  split at h
  · rename_i c
    cases e : f (l.tail.headD []) with
    | none => rw [e] at h; cases h
    | some y =>
      rw [e] at h
      have := Option.some.inj h
      cases this
      exact .inr ⟨c, rfl, rfl⟩
  · have := Option.some.inj h
    cases this
    exact .inl ⟨rfl, rfl⟩
theorem map_some' {A B : Type} {g : A → B} {x : Option A} {y : B} (h : x.map g = some y) : ∃ a, x = some a ∧ g a = y := Option.map_eq_some_iff.mp h
theorem bind_some' {A B : Type} {g : A → Option B} {x : Option A} {y : B} (h : x.bind g = some y) : ∃ a, x = some a ∧ g a = some y := Option.bind_eq_some_iff.mp h
/-- the stages of a reading that comes to an end -/
structure Went (f : Nat) (l : List (List Nat)) (r : Rule) where
  by_ : Nat
  l1 : List (List Nat)
  e1 : opt BY 1 (within 1 99) l = some (by_, l1)
  wd : List Nat
  l2 : List (List Nat)
  e2 : (if f < 2 then opt ON [] (fun w => (allOf weekdayOf w).map sorted) l1 else some ([], l1)) = some (wd, l2)
  it : List Item
  l3 : List (List Nat)
  e3 : (if f < 2 then some ([], l2) else opt ON [] (fun w => (allOf itemOf w).map sortItems) l2) = some (it, l3)
  ms : List Nat
  l4 : List (List Nat)
  e4 : (if f < 2 then some ([], l3) else opt IN [] (fun w => (allOf (within 1 12) w).map sorted) l3) = some (ms, l4)
  st : Nat
  l5 : List (List Nat)
  e5 : fromL l4 = some (st, l5)
  u : Option Nat
  l6 : List (List Nat)
  e6 : opt UNTIL none (fun w => (dateOf w).map some) l5 = some (u, l6)
  n : Option Nat
  l7 : List (List Nat)
  e7 : (if u.isSome then some (none, l6) else opt TIMES none (fun w => (within 1 999 w).map some) l6) = some (n, l7)
  ns : List Nat
  l8 : List (List Nat)
  e8 : opt NOT [] (fun w => (allOf dateOf w).map sorted) l7 = some (ns, l8)
  as : List Nat
  e9 : opt ALSO [] (fun w => (allOf dateOf w).map sorted) l8 = some (as, [])
  er : r = ⟨f, by_, wd, it, ms, st, if u.isSome then 1 else if n.isSome then 2 else 0, if u.isSome then u.getD 0 else n.getD 0, ns, as⟩
theorem went {f : Nat} {l : List (List Nat)} {r : Rule} (h : readW f l = some r) : Nonempty (Went f l r) := by
  unfold readW at h
  obtain ⟨⟨by_, l1⟩, e1, h⟩ := bind_some' h
  obtain ⟨⟨wd, l2⟩, e2, h⟩ := bind_some' h
  obtain ⟨⟨it, l3⟩, e3, h⟩ := bind_some' h
  obtain ⟨⟨ms, l4⟩, e4, h⟩ := bind_some' h
  obtain ⟨⟨st, l5⟩, e5, h⟩ := bind_some' h
  obtain ⟨⟨u, l6⟩, e6, h⟩ := bind_some' h
  obtain ⟨⟨n, l7⟩, e7, h⟩ := bind_some' h
  obtain ⟨⟨ns, l8⟩, e8, h⟩ := bind_some' h
  obtain ⟨⟨as, l9⟩, e9, h⟩ := bind_some' h
  dsimp only at e1 e2 e3 e4 e5 e6 e7 e8 e9 h
  split at h
  · rename_i c
    subst c
    exact ⟨⟨by_, l1, e1, wd, l2, e2, it, l3, e3, ms, l4, e4, st, l5, e5, u, l6, e6, n, l7, e7, ns, l8, e8, as, e9, (Option.some.inj h).symm⟩⟩
  · cases h
/-! ### what it has -/
theorem opt_all {A B : Type} {P : List B → Prop} {k : List Nat} {f : List Nat → Option A} {g : List A → List B} {l l' : List (List Nat)} {x : List B} (h : opt k [] (fun w => (allOf f w).map g) l = some (x, l')) (p0 : P []) (p : ∀ w it, w = l.tail.headD [] → allOf f w = some it → P (g it)) : P x := by
  rcases opt_some h with ⟨rfl, _⟩ | ⟨_, e, _⟩
  · exact p0
  · obtain ⟨it, e1, rfl⟩ := map_some' e
    exact p _ it rfl e1
theorem all_mem {A : Type} {f : List Nat → Option A} {w : List Nat} {it : List A} (h : allOf f w = some it) {x : A} (hx : x ∈ it) : ∃ v, f v = some x := by
  obtain ⟨a, _, e⟩ := (mapM_some h).2.1 x hx
  exact ⟨a, e⟩
theorem headD_len {ws : List (List Nat)} {B : Nat} (h : ∀ w ∈ ws, w.length ≤ B) : (ws.headD []).length ≤ B := by
  cases ws with
  | nil => exact Nat.zero_le _
  | cons a r => exact h a List.mem_cons_self
theorem opt_sub {A : Type} {k : List Nat} {d x : A} {f : List Nat → Option A} {l l' : List (List Nat)} (h : opt k d f l = some (x, l')) : ∀ w ∈ l', w ∈ l := by
  rcases opt_some h with ⟨_, rfl⟩ | ⟨_, _, rfl⟩
  · exact fun w hw => hw
  · exact fun w hw => List.mem_of_mem_tail (List.mem_of_mem_tail hw)
theorem went_ok {f : Nat} {l : List (List Nat)} {r : Rule} (hf : f < 4) (hl : ∀ w ∈ l, w.length ≤ 200) (h : readW f l = some r) : ROk r := by
  obtain ⟨W⟩ := went h
  obtain ⟨by_, l1, e1, wd, l2, e2, it, l3, e3, ms, l4, e4, st, l5, e5, u, l6, e6, n, l7, e7, ns, l8, e8, as, e9, er⟩ := W
  subst er
  have hby : 1 ≤ by_ ∧ by_ ≤ 99 := by
    rcases opt_some e1 with ⟨rfl, _⟩ | ⟨_, e, _⟩
    · decide
    · exact (within_some e).2
  have hwd : (∀ x ∈ wd, x < 7) ∧ Up wd ∧ (2 ≤ f → wd = []) := by
    by_cases c : f < 2
    · rw [if_pos c] at e2
      have z : (∀ x ∈ wd, x < 7) ∧ Up wd := opt_all (P := fun wd => (∀ x ∈ wd, x < 7) ∧ Up wd) e2 ⟨fun _ h => absurd h List.not_mem_nil, List.Pairwise.nil⟩ fun w it _ h => ⟨fun x hx => by
        obtain ⟨v, hv⟩ := all_mem h ((mem_sorted it x).mp hx)
        exact (weekdayOf_some hv).1, up_sorted it⟩
      exact ⟨z.1, z.2, fun h => by omega⟩
    · rw [if_neg c] at e2
      cases e2
      exact ⟨fun _ h => absurd h List.not_mem_nil, List.Pairwise.nil, fun _ => rfl⟩
  have hl1 : ∀ w ∈ l1, w.length ≤ 200 := fun w hw => hl w (opt_sub e1 w hw)
  have hit : (∀ i ∈ it, ItOk i) ∧ it.length ≤ 63 ∧ (f < 2 → it = []) := by
    by_cases c : f < 2
    · rw [if_pos c] at e3
      cases e3
      exact ⟨fun _ h => absurd h List.not_mem_nil, Nat.zero_le _, fun _ => rfl⟩
    · rw [if_neg c] at e3 e2
      cases e2
      have z : (∀ i ∈ it, ItOk i) ∧ it.length ≤ 63 := opt_all (P := fun it => (∀ i ∈ it, ItOk i) ∧ it.length ≤ 63) e3 ⟨fun _ h => absurd h List.not_mem_nil, Nat.zero_le _⟩ fun w it hw h => by
        obtain ⟨k1, k2⟩ := allItems h
        refine ⟨fun i hi => k1 i ((mem_sortItems k1 i).mp hi), ?_⟩
        have k3 := k2 (sortItems it) (up_sortItems k1).nodup fun x hx => (mem_sortItems k1 x).mp hx
        have k4 : w.length ≤ 200 := by
          rw [hw]
          exact headD_len fun w hw => hl1 w (List.mem_of_mem_tail hw)
        omega
      exact ⟨z.1, z.2, fun h => absurd h c⟩
  have hms : (∀ x ∈ ms, 1 ≤ x ∧ x ≤ 12) ∧ Up ms ∧ (f < 2 → ms = []) := by
    by_cases c : f < 2
    · rw [if_pos c] at e4
      cases e4
      exact ⟨fun _ h => absurd h List.not_mem_nil, List.Pairwise.nil, fun _ => rfl⟩
    · rw [if_neg c] at e4
      have z : (∀ x ∈ ms, 1 ≤ x ∧ x ≤ 12) ∧ Up ms := opt_all (P := fun ms => (∀ x ∈ ms, 1 ≤ x ∧ x ≤ 12) ∧ Up ms) e4 ⟨fun _ h => absurd h List.not_mem_nil, List.Pairwise.nil⟩ fun w it _ h => ⟨fun x hx => by
        obtain ⟨v, hv⟩ := all_mem h ((mem_sorted it x).mp hx)
        exact (within_some hv).2, up_sorted it⟩
      exact ⟨z.1, z.2, fun h => absurd h c⟩
  have hst : st < 36525 := by
    unfold fromL at e5
    split at e5
    · obtain ⟨x, e, z⟩ := map_some' e5
      cases z
      exact dateOf_lt e
    · cases e5
  have hdl : ∀ {k : List Nat} {l l' : List (List Nat)} {x : List Nat}, opt k [] (fun w => (allOf dateOf w).map sorted) l = some (x, l') → (∀ y ∈ x, y < 36525) ∧ Up x := fun h =>
    opt_all (P := fun x => (∀ y ∈ x, y < 36525) ∧ Up x) h ⟨fun _ h => absurd h List.not_mem_nil, List.Pairwise.nil⟩ fun w it _ h => ⟨fun x hx => by
        obtain ⟨v, hv⟩ := all_mem h ((mem_sorted it x).mp hx)
        exact dateOf_lt hv, up_sorted it⟩
  have hu : ∀ x, u = some x → x < 36525 := fun x hx => by
    rcases opt_some e6 with ⟨rfl, _⟩ | ⟨_, e, _⟩
    · cases hx
    · obtain ⟨y, e, z⟩ := map_some' e
      rw [← z] at hx
      cases hx
      exact dateOf_lt e
  have hn : ∀ x, u = none → n = some x → 1 ≤ x ∧ x ≤ 999 := fun x hu hx => by
    subst hu
    rw [if_neg (by exact Bool.false_ne_true)] at e7
    rcases opt_some e7 with ⟨rfl, _⟩ | ⟨_, e, _⟩
    · cases hx
    · obtain ⟨y, e, z⟩ := map_some' e
      rw [← z] at hx
      cases hx
      exact (within_some e).2
  have hns := hdl e8
  have has := hdl e9
  refine ⟨hf, hby.1, hby.2, hwd.1, hwd.2.1, hit.1, hit.2.1, hms.1, hms.2.1, hst, ?_, fun h => ?_, fun h => ?_, hns.1, hns.2, has.1, has.2, fun h => ⟨hit.2.2 h, hms.2.2 h⟩, hwd.2.2⟩
  · dsimp only
    cases u with
    | some _ => exact (by decide : (1 : Nat) ≤ 2)
    | none =>
      cases n with
      | some _ => exact (by decide : (2 : Nat) ≤ 2)
      | none => exact (by decide : (0 : Nat) ≤ 2)
  · dsimp only at h ⊢
    cases u with
    | some x => exact hu x rfl
    | none => cases n <;> cases h
  · dsimp only at h ⊢
    cases u with
    | some x => cases h
    | none =>
      cases n with
      | none => cases h
      | some x => exact hn x rfl rfl
theorem freq_lt {w : List Nat} {f : Nat} (h : (FREQS.findIdx? fun (x : List Nat) => x == w) = some f) : f < 4 ∧ w = FREQS.getD f [] := by
  obtain ⟨hd, he, _⟩ := List.findIdx?_eq_some_iff_getElem.mp h
  have e : FREQS[f] = w := by simpa using he
  refine ⟨hd, ?_⟩
  rw [← e, List.getD_eq_getElem?_getD, List.getElem?_eq_getElem hd]
  rfl
theorem parted_len (c : Nat) (t : List Nat) : ∀ w ∈ parted c t, w.length ≤ t.length := fun w hw => by
  have h := parted_sum c t
  have : w.length + 1 ≤ ((parted c t).map fun x => x.length + 1).sum := by
    generalize parted c t = l at hw
    induction l with
    | nil => cases hw
    | cons a l ih =>
      rw [List.map_cons, List.sum_cons]
      rcases List.mem_cons.mp hw with rfl | hw
      · exact Nat.le_add_right _ _
      · exact Nat.le_trans (ih hw) (Nat.le_add_left _ _)
  omega
theorem read_ok {t : List Nat} {r : Rule} (ht : t.length ≤ 200) (h : read t = some r) : ROk r := by
  rw [read_eq] at h
  unfold readP at h
  cases e : parted 32 t with
  | nil => rw [e] at h; cases h
  | cons w l =>
    rw [e] at h
    dsimp only at h
    obtain ⟨f, hf, h⟩ := bind_some' h
    refine went_ok (freq_lt hf).1 (fun v hv => ?_) h
    have := parted_len 32 t v (by rw [e]; exact List.mem_cons_of_mem _ hv)
    omega
end CA
end file_CaRead3
section file_CaRead4
set_option maxRecDepth 100000
set_option maxHeartbeats 4000000
/-! A rule's text has only the signs that the program knows. -/
namespace CA
open Cl01
/-- the codes of SIGNS -/
def SG : List Nat := [32, 44, 45, 48, 49, 50, 51, 52, 53, 54, 55, 56, 57, 97, 98, 99, 100, 101, 102, 103, 104, 105, 106, 107, 108, 109, 110, 111, 112, 113, 114, 115, 116, 117, 118, 119, 120, 121, 122]
def Good (w : List Nat) : Prop := ∀ c ∈ w, c ∈ SG
theorem good_dig {w : List Nat} (h : w.all dig = true) : Good w := fun c hc => by
  have := List.all_eq_true.mp h c hc
  unfold dig at this
  rw [Bool.and_eq_true, decide_eq_true_eq, decide_eq_true_eq] at this
  have h2 : c = 48 ∨ c = 49 ∨ c = 50 ∨ c = 51 ∨ c = 52 ∨ c = 53 ∨ c = 54 ∨ c = 55 ∨ c = 56 ∨ c = 57 := by omega
  rcases h2 with rfl | rfl | rfl | rfl | rfl | rfl | rfl | rfl | rfl | rfl <;> decide
theorem good_app {a b : List Nat} (ha : Good a) (hb : Good b) : Good (a ++ b) := fun c hc => (List.mem_append.mp hc).elim (ha c) (hb c)
theorem good_cons {c : Nat} {b : List Nat} (hc : c ∈ SG) (hb : Good b) : Good (c :: b) := fun x hx => (List.mem_cons.mp hx).elim (fun e => by rw [e]; exact hc) (hb x)
theorem good_within {lo hi n : Nat} {w : List Nat} (h : within lo hi w = some n) : Good w := good_dig (numberOf_some (within_some h).1).2.2.1
theorem good_mo {d : Nat} (h : d < 7) : Good (MO.getD d []) := by
  have : d = 0 ∨ d = 1 ∨ d = 2 ∨ d = 3 ∨ d = 4 ∨ d = 5 ∨ d = 6 := by omega
  rcases this with rfl | rfl | rfl | rfl | rfl | rfl | rfl <;> (intro c hc; revert c; decide)
theorem good_weekday {w : List Nat} {d : Nat} (h : weekdayOf w = some d) : Good w := by
  obtain ⟨h1, rfl⟩ := weekdayOf_some h
  exact good_mo h1
theorem good_item {w : List Nat} {i : Item} (h : itemOf w = some i) : Good w := by
  unfold itemOf at h
  dsimp only at h
  have hw : ∀ v, (if (w.headD 0 == 45) = true then w.drop 1 else w) = v → Good v → Good w := fun v e g => by
    cases hb : (w.headD 0 == 45) with
    | false => rw [hb, if_neg Bool.false_ne_true] at e; rw [e]; exact g
    | true =>
      rw [hb, if_pos rfl] at e
      cases w with
      | nil => intro c hc; cases hc
      | cons a r =>
        have ea : a = 45 := by simpa using hb
        subst ea
        have er : r = v := e
        rw [er]
        exact good_cons (by decide) g
  generalize hv : (if (w.headD 0 == 45) = true then w.drop 1 else w) = v at h
  refine hw v hv ?_
  cases hd : weekdayOf (v.drop (v.length - 2)) with
  | some x =>
    rw [hd] at h
    obtain ⟨k, e, _⟩ := map_some' h
    rw [← List.take_append_drop (v.length - 2) v]
    exact good_app (good_within e) (good_weekday hd)
  | none =>
    rw [hd] at h
    obtain ⟨k, e, _⟩ := map_some' h
    exact good_within e
theorem good_joined {c : Nat} (hc : c ∈ SG) : ∀ {l : List (List Nat)}, (∀ w ∈ l, Good w) → Good (joined c l)
  | [], _ => fun _ h => absurd h List.not_mem_nil
  | [w], h => h w List.mem_cons_self
  | w :: v :: l, h => good_app (h w List.mem_cons_self) (good_cons hc (good_joined hc fun x hx => h x (List.mem_cons_of_mem _ hx)))
theorem good_parted {c : Nat} (hc : c ∈ SG) {w : List Nat} (h : ∀ v ∈ parted c w, Good v) : Good w := by
  rw [← joined_parted c w]
  exact good_joined hc h
theorem good_figures {n m : Nat} {w : List Nat} (h : figures n w = some m) : Good w := by
  unfold figures at h
  split at h
  · rename_i c
    exact good_dig c.2
  · cases h
theorem good_date {w : List Nat} {n : Nat} (h : dateOf w = some n) : Good w := by
  obtain ⟨y, m, d, _, _, _, e, e1, e2, e3, _⟩ := dateOf_some h
  refine good_parted (c := 45) (by decide) ?_
  rw [e]
  intro v hv
  rcases List.mem_cons.mp hv with rfl | hv
  · exact good_figures e1
  rcases List.mem_cons.mp hv with rfl | hv
  · exact good_figures e2
  rcases List.mem_cons.mp hv with rfl | hv
  · exact good_figures e3
  · cases hv
theorem good_all {A : Type} {f : List Nat → Option A} {w : List Nat} {it : List A} (hf : ∀ v x, f v = some x → Good v) (h : allOf f w = some it) : Good w := by
  refine good_parted (c := 44) (by decide) fun v hv => ?_
  obtain ⟨b, e⟩ := (mapM_some h).2.2 v hv
  exact hf v b e
def GoodL (l : List (List Nat)) : Prop := ∀ w ∈ l, Good w
theorem good_hd {l : List (List Nat)} {k : List Nat} (hk : Good k) (h1 : l.headD [] = k) (h2 : Good (l.tail.headD [])) (h3 : GoodL l.tail.tail) : GoodL l := by
  match l with
  | [] => intro w hw; cases hw
  | [a] =>
    intro w hw
    rw [List.mem_singleton.mp hw, show a = k from h1]
    exact hk
  | a :: b :: r =>
    intro w hw
    rcases List.mem_cons.mp hw with rfl | hw
    · rw [show w = k from h1]
      exact hk
    rcases List.mem_cons.mp hw with rfl | hw
    · exact h2
    · exact h3 w hw
theorem good_opt {A : Type} {k : List Nat} {d x : A} {f : List Nat → Option A} {l l' : List (List Nat)} (hk : Good k) (hf : ∀ v x, f v = some x → Good v) (h : opt k d f l = some (x, l')) (g : GoodL l') : GoodL l := by
  rcases opt_some h with ⟨_, rfl⟩ | ⟨h1, h2, rfl⟩
  · exact g
  · exact good_hd hk h1 (hf _ _ h2) g
theorem good_map {A B : Type} {f : List Nat → Option A} {g : A → B} (hf : ∀ v x, f v = some x → Good v) : ∀ v x, (f v).map g = some x → Good v := fun v x h => by
  obtain ⟨a, e, _⟩ := map_some' h
  exact hf v a e
theorem good_kw {k : List Nat} (h : (k.all fun c => SG.contains c) = true) : Good k := fun c hc => by simpa using List.all_eq_true.mp h c hc
theorem went_good {f : Nat} {l : List (List Nat)} {r : Rule} (h : readW f l = some r) : GoodL l := by
  obtain ⟨W⟩ := went h
  obtain ⟨by_, l1, e1, wd, l2, e2, it, l3, e3, ms, l4, e4, st, l5, e5, u, l6, e6, n, l7, e7, ns, l8, e8, as, e9, er⟩ := W
  have gd : ∀ v x, (allOf dateOf v).map sorted = some x → Good v := good_map fun v x h => good_all (fun _ _ h => good_date h) h
  have g8 := good_opt (good_kw (by decide)) gd e9 fun _ h => absurd h List.not_mem_nil
  have g7 := good_opt (good_kw (by decide)) gd e8 g8
  have g6 : GoodL l6 := by
    cases u with
    | some x => cases e7; exact g7
    | none => exact good_opt (good_kw (by decide)) (good_map fun _ _ h => good_within h) e7 g7
  have g5 := good_opt (good_kw (by decide)) (good_map fun _ _ h => good_date h) e6 g6
  have g4 : GoodL l4 := by
    unfold fromL at e5
    split at e5
    · rename_i c
      obtain ⟨x, e, z⟩ := map_some' e5
      cases z
      exact good_hd (good_kw (by decide)) c (good_date e) g5
    · cases e5
  have g3 : GoodL l3 := by
    by_cases c : f < 2
    · rw [if_pos c] at e4
      cases e4
      exact g4
    · rw [if_neg c] at e4
      exact good_opt (good_kw (by decide)) (good_map fun v x h => good_all (fun _ _ h => good_within h) h) e4 g4
  have g2 : GoodL l2 := by
    by_cases c : f < 2
    · rw [if_pos c] at e3
      cases e3
      exact g3
    · rw [if_neg c] at e3
      exact good_opt (good_kw (by decide)) (good_map fun v x h => good_all (fun _ _ h => good_item h) h) e3 g3
  have g1 : GoodL l1 := by
    by_cases c : f < 2
    · rw [if_pos c] at e2
      exact good_opt (good_kw (by decide)) (good_map fun v x h => good_all (fun _ _ h => good_weekday h) h) e2 g2
    · rw [if_neg c] at e2
      cases e2
      exact g2
  exact good_opt (good_kw (by decide)) (fun _ _ h => good_within h) e1 g1
theorem read_good {t : List Nat} {r : Rule} (h : read t = some r) : Good t := by
  rw [read_eq] at h
  unfold readP at h
  cases e : parted 32 t with
  | nil => exact absurd e (parted_ne 32 t)
  | cons w l =>
    rw [e] at h
    dsimp only at h
    obtain ⟨f, hf, h⟩ := bind_some' h
    refine good_parted (c := 32) (by decide) fun v hv => ?_
    rw [e] at hv
    rcases List.mem_cons.mp hv with rfl | hv
    · obtain ⟨f4, rfl⟩ := freq_lt hf
      have : f = 0 ∨ f = 1 ∨ f = 2 ∨ f = 3 := by omega
      rcases this with rfl | rfl | rfl | rfl <;> exact good_kw (by decide)
    · exact went_good h v hv
end CA
end file_CaRead4
section file_CaRead5
set_option maxRecDepth 100000
set_option maxHeartbeats 4000000
/-! An item's and a date's word, as the program takes them apart. -/
namespace CA
open Cl01
theorem wd_len {w : List Nat} {d : Nat} (h : weekdayOf w = some d) : w.length = 2 := by
  obtain ⟨h1, rfl⟩ := weekdayOf_some h
  have : d = 0 ∨ d = 1 ∨ d = 2 ∨ d = 3 ∨ d = 4 ∨ d = 5 ∨ d = 6 := by omega
  rcases this with rfl | rfl | rfl | rfl | rfl | rfl | rfl <;> rfl
theorem mo_no {w : List Nat} {d lo hi : Nat} (h : weekdayOf w = some d) : within lo hi w = none := by
  obtain ⟨h1, rfl⟩ := weekdayOf_some h
  have : d = 0 ∨ d = 1 ∨ d = 2 ∨ d = 3 ∨ d = 4 ∨ d = 5 ∨ d = 6 := by omega
  rcases this with rfl | rfl | rfl | rfl | rfl | rfl | rfl <;> rfl
/-- b: it has a minus; d: it ends with a weekday behind something -/
theorem item_wd {w : List Nat} {b : Bool} {x : Nat} (hb : (w.headD 0 == 45) = b) (hl : (if b = true then 1 else 0) + 2 < w.length) (hd : weekdayOf (w.drop (w.length - 2)) = some x) :
    itemOf w = (within 1 5 ((w.drop (if b = true then 1 else 0)).take (w.length - 2 - (if b = true then 1 else 0)))).map fun k => ⟨if b = true then 3 else 2, k, x⟩ := by
  unfold itemOf
  dsimp only
  rw [hb]
  cases b with
  | false =>
    simp only [Bool.false_eq_true, if_false] at hl ⊢
    rw [hd]
    rw [List.drop_zero, Nat.sub_zero]
  | true =>
    simp only [if_true] at hl ⊢
    rw [List.length_drop, List.drop_drop, show 1 + (w.length - 1 - 2) = w.length - 2 by omega, hd, show w.length - 1 - 2 = w.length - 2 - 1 by omega]
theorem item_day {w : List Nat} {b : Bool} (hb : (w.headD 0 == 45) = b) (hl : (if b = true then 1 else 0) + 2 < w.length → weekdayOf (w.drop (w.length - 2)) = none) :
    itemOf w = (within 1 31 (w.drop (if b = true then 1 else 0))).map fun k => ⟨if b = true then 1 else 0, k, 0⟩ := by
  have main : ∀ (v : List Nat) (st : Nat), v = w.drop st → st ≤ 1 → (st + 2 < w.length → weekdayOf (w.drop (w.length - 2)) = none) → ∀ f g : Nat → Nat → Item,
      (match weekdayOf (v.drop (v.length - 2)) with
      | some x => (within 1 5 (v.take (v.length - 2))).map fun k => f k x
      | none => (within 1 31 v).map fun k => g k 0) = (within 1 31 v).map fun k => g k 0 := by
    intro v st hv hst h f g
    cases hd : weekdayOf (v.drop (v.length - 2)) with
    | none => rfl
    | some x =>
      have l2 := wd_len hd
      rw [List.length_drop] at l2
      by_cases c : st + 2 < w.length
      · exfalso
        have e : v.drop (v.length - 2) = w.drop (w.length - 2) := by
          rw [hv, List.drop_drop, List.length_drop]
          exact congrArg (fun n => w.drop n) (by omega)
        rw [e, h c] at hd
        cases hd
      · have lv : v.length = w.length - st := by rw [hv, List.length_drop]
        have l3 : v.length = 2 := by omega
        have e : v.drop (v.length - 2) = v := by rw [l3]; rfl
        rw [e] at hd
        rw [l3, mo_no hd]
        rfl
  unfold itemOf
  dsimp only
  rw [hb]
  cases b with
  | false =>
    simp only [Bool.false_eq_true, if_false] at hl ⊢
    rw [List.drop_zero]
    exact main w 0 rfl (by decide) hl (fun k x => ⟨2, k, x⟩) fun k x => ⟨0, k, x⟩
  | true =>
    simp only [if_true] at hl ⊢
    exact main (w.drop 1) 1 rfl (by decide) hl (fun k x => ⟨3, k, x⟩) fun k x => ⟨1, k, x⟩
theorem parted_cons (c x : Nat) (l : List Nat) : parted c (x :: l) = if x = c then [] :: parted c l else match parted c l with
    | [] => [[x]]
    | w :: r => (x :: w) :: r := rfl
theorem parted_clean {c : Nat} : ∀ {a : List Nat}, (∀ x ∈ a, x ≠ c) → parted c a = [a]
  | [], _ => rfl
  | x :: a, h => by
    have ih := parted_clean (a := a) fun y hy => h y (List.mem_cons_of_mem _ hy)
    unfold parted
    rw [if_neg (h x List.mem_cons_self), ih]
theorem parted_app {c : Nat} {b : List Nat} : ∀ {a : List Nat}, (∀ x ∈ a, x ≠ c) → parted c (a ++ c :: b) = a :: parted c b
  | [], _ => by
    show parted c (c :: b) = _
    rw [parted_cons, if_pos rfl]
  | x :: a, h => by
    have ih := parted_app (b := b) (a := a) fun y hy => h y (List.mem_cons_of_mem _ hy)
    show parted c (x :: (a ++ c :: b)) = _
    rw [parted_cons, if_neg (h x List.mem_cons_self), ih]
theorem dig_no {a : List Nat} (h : a.all dig = true) : ∀ x ∈ a, x ≠ 45 := fun x hx e => by
  have := List.all_eq_true.mp h x hx
  rw [e] at this
  cases this
def nval (w : List Nat) : Nat := w.foldl (fun (m c : Nat) => 10 * m + (c - 48)) 0
theorem figures_of {n : Nat} {w : List Nat} (h1 : w.length = n) (h2 : w.all dig = true) : figures n w = some (nval w) := if_pos ⟨h1, h2⟩
theorem figures_some {n m : Nat} {w : List Nat} (h : figures n w = some m) : w.length = n ∧ w.all dig = true ∧ m = nval w := by
  unfold figures at h
  split at h
  · rename_i c
    exact ⟨c.1, c.2, (Option.some.inj h).symm⟩
  · cases h
/-- a date's word: ten signs, two minus signs, figures else -/
def Dated (w : List Nat) : Prop := w.length = 10 ∧ w[4]? = some 45 ∧ w[7]? = some 45 ∧ (w.take 4).all dig = true ∧ ((w.drop 5).take 2).all dig = true ∧ (w.drop 8).all dig = true
theorem ten {w : List Nat} (h : w.length = 10) : ∃ a b c d e f g i j k : Nat, w = [a, b, c, d, e, f, g, i, j, k] := by
  match w, h with
  | [a, b, c, d, e, f, g, i, j, k], _ => exact ⟨a, b, c, d, e, f, g, i, j, k, rfl⟩
theorem date_of {w : List Nat} (h : Dated w) : dateOf w = if 2000 ≤ nval (w.take 4) ∧ isDate (nval (w.take 4) - 2000) (nval ((w.drop 5).take 2)) (nval (w.drop 8)) = true then some (dayOf (nval (w.take 4) - 2000) (nval ((w.drop 5).take 2)) (nval (w.drop 8))) else none := by
  obtain ⟨h1, h2, h3, h4, h5, h6⟩ := h
  obtain ⟨a, b, c, d, e, f, g, i, j, k, rfl⟩ := ten h1
  obtain rfl := Option.some.inj h2
  obtain rfl := Option.some.inj h3
  have h4 : [a, b, c, d].all dig = true := h4
  have h5 : [f, g].all dig = true := h5
  have h6 : [j, k].all dig = true := h6
  have p1 : parted 45 ([a, b, c, d] ++ 45 :: ([f, g] ++ 45 :: [j, k])) = [a, b, c, d] :: [f, g] :: [[j, k]] := by
    rw [parted_app (dig_no h4), parted_app (dig_no h5), parted_clean (dig_no h6)]
  unfold dateOf
  rw [show ([a, b, c, d, 45, f, g, 45, j, k] : List Nat) = [a, b, c, d] ++ 45 :: ([f, g] ++ 45 :: [j, k]) from rfl, p1]
  dsimp only
  rw [figures_of (n := 4) (w := [a, b, c, d]) rfl h4, figures_of (n := 2) (w := [f, g]) rfl h5, figures_of (n := 2) (w := [j, k]) rfl h6]
  rfl
theorem date_no {w : List Nat} (h : ¬ Dated w) : dateOf w = none := by
  cases e : dateOf w with
  | none => rfl
  | some n =>
    exfalso
    apply h
    obtain ⟨y, m, d, _, _, _, e0, e1, e2, e3, _⟩ := dateOf_some e
    obtain ⟨y1, y2, _⟩ := figures_some e1
    obtain ⟨m1, m2, _⟩ := figures_some e2
    obtain ⟨d1, d2, _⟩ := figures_some e3
    have ej := joined_parted 45 w
    rw [e0] at ej
    have ew : w = y ++ 45 :: (m ++ 45 :: d) := ej.symm
    subst ew
    match y, y1, m, m1, d, d1 with
    | [a, b, c, d], _, [f, g], _, [j, k], _ => exact ⟨rfl, rfl, rfl, y2, m2, d2⟩
end CA
end file_CaRead5
local macro_rules | `(tactic| walk_at "w") => `(tactic| (repeat (first
  | with_reducible refine CA.w_seq ?_
  | with_reducible refine CA.w_ret ?_
  | with_reducible refine CA.w_asg ?_
  | with_reducible refine CA.w_op ?_
  | ((with_reducible refine' CA.w_var ?wvar ?_); (case wvar => rfl))
  | with_reducible refine CA.w_c ?_
  | with_reducible refine CA.w_i0 ?_
  | with_reducible refine CA.w_test ?_
  | with_reducible refine CA.w_tb ?_
  | with_reducible refine CA.w_bl ?_
  | with_reducible refine CA.w_if ?_
  | with_reducible refine CA.w_ife ?_
  | with_reducible refine CA.w_and ?_
  | with_reducible refine CA.w_or ?_
  | with_reducible refine CA.w_not ?_
  | with_reducible refine CA.w_eqi ?_
  | with_reducible refine CA.w_eqs ?_
  | with_reducible refine CA.w_nei ?_
  | with_reducible refine CA.w_nes ?_
  | with_reducible refine CA.w_mod (by decide) ?_
  | with_reducible refine CA.w_fdiv (by decide) ?_
  | with_reducible refine CA.w_mul (Or.inl (by decide)) ?_
  | with_reducible refine CA.w_mul (Or.inr (by decide)) ?_
  | with_reducible refine CA.w_cl ?_
  | with_reducible refine CA.w_cb ?_
  | with_reducible refine CA.w_cons ?_
  | with_reducible refine CA.w_nil ?_
  | with_reducible refine CA.w_tup ?_
  | with_reducible refine CA.w_lst ?_
  | with_reducible refine CA.w_sz0 ?_
  | with_reducible refine CA.w_sz1 ?_
  | with_reducible refine CA.w_sz2 ?_
  | with_reducible refine CA.w_sz3 ?_
  | with_reducible refine CA.w_un ?_
  | with_reducible refine CA.w_u ?_
  | with_reducible refine CA.w_drop ?_
  | with_reducible refine CA.w_next ?_
  | with_reducible refine CA.w_chain ?_
  | with_reducible refine CA.w_t ?_
  | with_reducible refine CA.w_f ?_
  | ((with_reducible refine' CA.w_aug ?wvar ?_); (case wvar => rfl))
  | with_reducible refine CA.w_ipi ?_
  | with_reducible refine CA.w_gname ?_
  | with_reducible refine CA.w_for ?_
  | with_reducible refine CA.w_rng1 ?_
  | with_reducible refine CA.w_rng2 ?_
  | with_reducible refine CA.w_ilist ?_
  | with_reducible refine CA.w_lc ?_
  | with_reducible refine CA.w_istr ?_
  | with_reducible refine CA.w_rng3 ?_
  | with_reducible refine CA.w_yesT ?_
  | with_reducible refine CA.w_din ?_
  | with_reducible refine CA.w_dnotin ?_
  | with_reducible refine CA.w_dput ?_
  | with_reducible refine CA.w_dnew ?_
  | with_reducible refine CA.w_fld ?_
  | with_reducible refine CA.w_sfld ?_
  | with_reducible refine CA.w_m1 ?_
  | with_reducible refine CA.w_m0 ?_
  | with_reducible refine CA.w_isstr ?_
  | with_reducible refine CA.w_bm ?_
  | with_reducible refine CA.w_js ?_
  | with_reducible refine CA.w_js0 ?_
  | with_reducible refine CA.w_fmt ?_
  | with_reducible refine CA.w_asgG ?_
  | with_reducible refine CA.w_gcons ?_
  | with_reducible refine CA.w_gnil ?_
  | with_reducible refine CA.w_sl ?_
  | with_reducible refine CA.w_nopart ?_
  | with_reducible refine CA.w_part ?_
  | with_reducible refine CA.w_isint ?_
  | with_reducible refine CA.w_lrg3 ?_
  | with_reducible refine CA.w_me ?_
  | with_reducible refine CA.w_mk ?_
  | with_reducible refine CA.w_sfa ?_)))
local macro_rules | `(tactic| walk_at "vs") => `(tactic| (first | rfl | (simp only [List.cons.injEq, L2.V.int.injEq, and_true, true_and]; omega)))
local macro_rules | `(tactic| walk_at "sz") => `(tactic| (first | assumption | omega))
section file_CaM1
set_option maxRecDepth 100000
set_option maxHeartbeats 4000000
namespace CA
open PySem PySem.Spec PyProof.Rows L2
open SX (S)
open Cl01 (monthDays monthStart isDate dayOf yearOf monthOf domOf weekday week weekOf)
def sp_month_length : Sp := fun vs H Q _ => ∃ y m : Nat, vs = [.int (2000 + (y : Int)), .int (m : Int)] ∧ 1 ≤ m ∧ m ≤ 12 ∧ Q (.int (monthDays y m : Nat)) H
section
variable {P : Program} {w : World} {K : PySem.W.Frag} {mg : Str → Option Value} {base : Heap}
theorem sc_month_length : FnScope ["year", "month"] ["year", "month"] (defScope s_month_length) := ⟨rfl, rfl, rfl, by decide +kernel, rfl, by decide +kernel, by decide +kernel⟩
theorem ok_month_length (T : Tx K mg) : DefOk P w K mg base CX0 1 "month_length" ["year", "month"] sp_month_length := by
  obtain ⟨fd, F⟩ := T.f_month_length
  refine ⟨⟨fd, F.ok sc_month_length (fun vs H Q E h => ?_) (fun cdv A outer s H vs Q E hr h => ?_), F.bindsN fun _ _ _ _ _ _ us hl => match us, hl with | [_, _], _ => rfl⟩, F.kp, T.g_month_length⟩
  · obtain ⟨y, m, rfl, _⟩ := h
    rfl
  · refine ⟨_, PSs.nox (pss_cons (ps_if (pw_and (pt_cmpR op_eq (pv 1) pe_int (nomark _)) (pw_and1 (pt_cmpR op_eq (pe_op op_mod (pv 0) pe_int) pe_int (nomark _)))).pt (pss_one (ps_ret pe_int)) pss_nil)
      (pss_one (ps_ret (pe_ix (ix_tupK (K := K) rfl) (pe_gr T.g_MONTH_LENGTHS (by rfl)) (pe_op op_sub (pv 1) pe_int) (fun _ _ => rfl))))), ?_⟩
    clear F hr
    obtain ⟨y, m, rfl, h1, h2, hQ⟩ := h
    walk_at "w"
    have fin : ¬ (m = 2 ∧ y % 4 = 0) → atI [V.int 31, V.int 28, V.int 31, V.int 30, V.int 31, V.int 30, V.int 31, V.int 31, V.int 30, V.int 31, V.int 30, V.int 31] ((m : Int) - 1) = some (.int (monthDays y m : Nat)) := fun c => by
      have e := ml_at y m h1 h2 c
      rw [show (m : Int) - 1 = ((m - 1 : Nat) : Int) by omega]
      refine atI_nat ?_
      have e2 := congrArg (Option.map fun n : Nat => V.int (n : Int)) e
      rw [← List.getElem?_map] at e2
      exact e2
    refine w_cases (fun c1 => ?_) (fun c1 => ?_)
    · walk_at "w"
      refine w_cases (fun c2 => ?_) (fun c2 => ?_)
      · walk_at "w"
        obtain rfl : m = 2 := by omega
        rw [ml_feb y (by omega)] at hQ
        exact hQ
      · walk_at "w"
        exact w_ixt (T.t_MONTH_LENGTHS H) (fin (by omega)) hQ
    · walk_at "w"
      exact w_ixt (T.t_MONTH_LENGTHS H) (fin (by omega)) hQ
end

def sp_year_start : Sp := fun vs H Q _ => ∃ y : Nat, vs = [.int (2000 + (y : Int))] ∧ Q (.int (ys y : Nat)) H
section
variable {P : Program} {w : World} {K : PySem.W.Frag} {mg : Str → Option Value} {base : Heap}
theorem sc_year_start : FnScope ["year", "passed"] ["year"] (defScope s_year_start) := ⟨rfl, rfl, rfl, by decide +kernel, rfl, by decide +kernel, by decide +kernel⟩
theorem ok_year_start (T : Tx K mg) : DefOk P w K mg base CX0 1 "year_start" ["year"] sp_year_start := by
  obtain ⟨fd, F⟩ := T.f_year_start
  refine ⟨⟨fd, F.ok sc_year_start (fun vs H Q E h => ?_) (fun cdv A outer s H vs Q E hr h => ?_), F.bindsN fun _ _ _ _ _ _ us hl => match us, hl with | [_], _ => rfl⟩, F.kp, T.g_year_start⟩
  · obtain ⟨y, rfl, _⟩ := h
    rfl
  · refine ⟨_, PSs.nox (pss_cons (ps_set (i := 1) sc_year_start.nd rfl (by first | exact Or.inl rfl | exact Or.inr rfl) (pe_op op_sub (pv 0) (pe_gi T.i_FIRST_YEAR (by rfl))))
      (pss_one (ps_ret (pe_op op_add (pe_op op_mul pe_int (pv 1)) (pe_op op_fdiv (pe_op op_add (pv 1) pe_int) pe_int))))), ?_⟩
    clear F hr
    obtain ⟨y, rfl, hQ⟩ := h
    walk_at "w"
    have e : (365 * (2000 + (y : Int) - 2000) + (2000 + (y : Int) - 2000 + 3) / 4) = ((ys y : Nat) : Int) := by
      unfold ys
      omega
    rw [e]
    exact hQ
end

def sp_month_start : Sp := fun vs H Q _ => ∃ y m : Nat, vs = [.int (2000 + (y : Int)), .int (m : Int)] ∧ 1 ≤ m ∧ m ≤ 12 ∧ Q (.int (monthStart y m : Nat)) H
section
variable {P : Program} {w : World} {K : PySem.W.Frag} {mg : Str → Option Value} {base : Heap}
theorem sc_month_start : FnScope ["year", "month", "start", "earlier"] ["year", "month"] (defScope s_month_start) := ⟨rfl, rfl, rfl, by decide +kernel, rfl, by decide +kernel, by decide +kernel⟩
theorem ok_month_start (T : Tx K mg) : DefOk P w K mg base CX0 2 "month_start" ["year", "month"] sp_month_start := by
  obtain ⟨fd, F⟩ := T.f_month_start
  refine ⟨⟨fd, F.ok sc_month_start (fun vs H Q E h => ?_) (fun cdv A outer s H vs Q E hr h => ?_), F.bindsN fun _ _ _ _ _ _ us hl => match us, hl with | [_, _], _ => rfl⟩, F.kp, T.g_month_start⟩
  · obtain ⟨y, m, rfl, _⟩ := h
    rfl
  · refine ⟨_, PSs.nox (pss_cons (ps_set (i := 2) sc_month_start.nd rfl (by first | exact Or.inl rfl | exact Or.inr rfl) (pe_fn (ok_year_start T) (hr.mono (by decide)) (by rfl) pass0 (pa_cons (pv 0) pa_nil)))
      (pss_cons (ps_for PassesOwn.never rfl (pi_range2 (by rfl) T.b_range (pa_cons pe_int (pa_cons (pv 1) pa_nil))) (pg_name (i := 3) sc_month_start.nd rfl (by first | exact Or.inl rfl | exact Or.inr rfl)) (pss_one (ps_aug (i := 2) sc_month_start.nd rfl (by first | exact Or.inl rfl | exact Or.inr rfl) (pe_fn (ok_month_length T) (hr.mono (by decide)) (by rfl) pass0 (pa_cons (pv 0) (pa_cons (pv 3) pa_nil))) ip_add)))
      (pss_one (ps_ret (pv 2))))), ?_⟩
    clear F hr
    obtain ⟨y, m, rfl, h1, h2, hQ⟩ := h
    walk_at "w"
    refine ⟨y, rfl, ?_⟩
    walk_at "w"
    refine ⟨_, _, rfl, by omega, for_range (fun i σ H' => H' = H ∧ ∃ e : Option V, σ = [some (.int (2000 + (y : Int))), some (.int (m : Int)), some (.int (monthStart y (i + 1) : Nat)), e]) ⟨rfl, none, rfl⟩ ?_ ?_⟩
    · rintro i σ H' hi ⟨rfl, e, rfl⟩
      walk_at "w"
      refine ⟨y, i + 1, by walk_at "vs", by omega, by omega, ?_⟩
      walk_at "w"
      refine ⟨rfl, ?_⟩
      rw [monthStart_succ y (i + 1) (by omega)]
      exact ⟨_, rfl⟩
    · rintro σ H' ⟨rfl, e, rfl⟩
      walk_at "w"
      rw [show ((m : Int) - 1).toNat + 1 = m by omega]
      exact hQ
end

def sp_is_date : Sp := fun vs H Q _ => ∃ y m d : Nat, vs = [.int (y : Int), .int (m : Int), .int (d : Int)] ∧ Q (.bl (decide (2000 ≤ y) && isDate (y - 2000) m d)) H
section
variable {P : Program} {w : World} {K : PySem.W.Frag} {mg : Str → Option Value} {base : Heap}
theorem sc_is_date : FnScope ["year", "month", "of_month"] ["year", "month", "of_month"] (defScope s_is_date) := ⟨rfl, rfl, rfl, by decide +kernel, rfl, by decide +kernel, by decide +kernel⟩
theorem ok_is_date (T : Tx K mg) : DefOk P w K mg base CX0 2 "is_date" ["year", "month", "of_month"] sp_is_date := by
  obtain ⟨fd, F⟩ := T.f_is_date
  refine ⟨⟨fd, F.ok sc_is_date (fun vs H Q E h => ?_) (fun cdv A outer s H vs Q E hr h => ?_), F.bindsN fun _ _ _ _ _ _ us hl => match us, hl with | [_, _, _], _ => rfl⟩, F.kp, T.g_is_date⟩
  · obtain ⟨y, m, d, rfl, _⟩ := h
    rfl
  · refine ⟨_, PSs.nox (pss_cons (ps_if (pw_or (pt_cmpR op_lt (pv 0) (pe_gi T.i_FIRST_YEAR (by rfl)) (nomark _)) (pw_or1 (pt_cmpR op_gt (pv 0) (pe_gi T.i_LAST_YEAR (by rfl)) (nomark _)))).pt (pss_one (ps_ret pe_bl)) pss_nil)
      (pss_cons (ps_if (pw_or (pt_cmpR op_lt (pv 1) pe_int (nomark _)) (pw_or1 (pt_cmpR op_gt (pv 1) pe_int (nomark _)))).pt (pss_one (ps_ret pe_bl)) pss_nil)
      (pss_one (ps_ret (pe_chain op_le op_le pe_int (pv 2) (pe_fn (ok_month_length T) (hr.mono (by decide)) (by rfl) pass0 (pa_cons (pv 0) (pa_cons (pv 1) pa_nil)))))))), ?_⟩
    clear F hr
    obtain ⟨y, m, d, rfl, hQ⟩ := h
    unfold isDate at hQ
    walk_at "w"
    refine w_cases (fun c1 => ?_) (fun c1 => ?_)
    · walk_at "w"
      have e : decide (2000 ≤ y) = false := decide_eq_false (by omega)
      rw [e] at hQ
      exact hQ
    walk_at "w"
    have e1 : decide (2000 ≤ y) = true := decide_eq_true (by omega)
    rw [e1] at hQ
    refine w_cases (fun c2 => ?_) (fun c2 => ?_)
    · walk_at "w"
      have e : decide (y - 2000 < 100) = false := decide_eq_false (by omega)
      rw [e] at hQ
      exact hQ
    walk_at "w"
    have e2 : decide (y - 2000 < 100) = true := decide_eq_true (by omega)
    rw [e2] at hQ
    refine w_cases (fun c3 => ?_) (fun c3 => ?_)
    · walk_at "w"
      have e : decide (1 ≤ m) = false := decide_eq_false (by omega)
      rw [e] at hQ
      exact hQ
    walk_at "w"
    have e3 : decide (1 ≤ m) = true := decide_eq_true (by omega)
    rw [e3] at hQ
    refine w_cases (fun c4 => ?_) (fun c4 => ?_)
    · walk_at "w"
      have e : decide (m ≤ 12) = false := decide_eq_false (by omega)
      rw [e] at hQ
      exact hQ
    walk_at "w"
    have e4 : decide (m ≤ 12) = true := decide_eq_true (by omega)
    rw [e4] at hQ
    refine w_cases (fun c5 => ?_) (fun c5 => ?_)
    · walk_at "w"
      refine ⟨y - 2000, m, by walk_at "vs", by omega, by omega, ?_⟩
      walk_at "w"
      have e5 : decide (1 ≤ d) = true := decide_eq_true (by omega)
      rw [e5] at hQ
      have e6 : decide ((d : Int) ≤ (monthDays (y - 2000) m : Nat)) = decide (d ≤ monthDays (y - 2000) m) := decide_eq_decide.mpr (by omega)
      rw [e6]
      exact hQ
    · have e5 : decide (1 ≤ d) = false := decide_eq_false (by omega)
      rw [e5] at hQ
      exact hQ
end

def sp_day_number : Sp := fun vs H Q _ => ∃ y m d : Nat, vs = [.int (2000 + (y : Int)), .int (m : Int), .int (d : Int)] ∧ 1 ≤ m ∧ m ≤ 12 ∧ 1 ≤ d ∧ Q (.int (dayOf y m d : Nat)) H
section
variable {P : Program} {w : World} {K : PySem.W.Frag} {mg : Str → Option Value} {base : Heap}
theorem sc_day_number : FnScope ["year", "month", "of_month"] ["year", "month", "of_month"] (defScope s_day_number) := ⟨rfl, rfl, rfl, by decide +kernel, rfl, by decide +kernel, by decide +kernel⟩
theorem ok_day_number (T : Tx K mg) : DefOk P w K mg base CX0 3 "day_number" ["year", "month", "of_month"] sp_day_number := by
  obtain ⟨fd, F⟩ := T.f_day_number
  refine ⟨⟨fd, F.ok sc_day_number (fun vs H Q E h => ?_) (fun cdv A outer s H vs Q E hr h => ?_), F.bindsN fun _ _ _ _ _ _ us hl => match us, hl with | [_, _, _], _ => rfl⟩, F.kp, T.g_day_number⟩
  · obtain ⟨y, m, d, rfl, _⟩ := h
    rfl
  · refine ⟨_, PSs.nox (pss_one (ps_ret (pe_op op_sub (pe_op op_add (pe_fn (ok_month_start T) (hr.mono (by decide)) (by rfl) pass0 (pa_cons (pv 0) (pa_cons (pv 1) pa_nil))) (pv 2)) pe_int))), ?_⟩
    clear F hr
    obtain ⟨y, m, d, rfl, h1, h2, h3, hQ⟩ := h
    walk_at "w"
    refine ⟨y, m, rfl, h1, h2, ?_⟩
    walk_at "w"
    have e : ((monthStart y m : Nat) : Int) + (d : Int) - 1 = ((dayOf y m d : Nat) : Int) := by
      unfold dayOf
      omega
    rw [e]
    exact hQ
end

def sp_year_of : Sp := fun vs H Q _ => ∃ n : Nat, vs = [.int (n : Int)] ∧ n < 36525 ∧ Q (.int (2000 + (yearOf n : Nat))) H
section
variable {P : Program} {w : World} {K : PySem.W.Frag} {mg : Str → Option Value} {base : Heap}
theorem sc_year_of : FnScope ["day", "year", "later"] ["day"] (defScope s_year_of) := ⟨rfl, rfl, rfl, by decide +kernel, rfl, by decide +kernel, by decide +kernel⟩
theorem ok_year_of (T : Tx K mg) : DefOk P w K mg base CX0 2 "year_of" ["day"] sp_year_of := by
  obtain ⟨fd, F⟩ := T.f_year_of
  refine ⟨⟨fd, F.ok sc_year_of (fun vs H Q E h => ?_) (fun cdv A outer s H vs Q E hr h => ?_), F.bindsN fun _ _ _ _ _ _ us hl => match us, hl with | [_], _ => rfl⟩, F.kp, T.g_year_of⟩
  · obtain ⟨n, rfl, _⟩ := h
    rfl
  · refine ⟨_, PSs.nox (pss_cons (ps_set (i := 1) sc_year_of.nd rfl (by first | exact Or.inl rfl | exact Or.inr rfl) (pe_gi T.i_FIRST_YEAR (by rfl)))
      (pss_cons (ps_for PassesOwn.never rfl (pi_range2 (by rfl) T.b_range (pa_cons (pe_op op_add (pe_gi T.i_FIRST_YEAR (by rfl)) pe_int) (pa_cons (pe_op op_add (pe_gi T.i_LAST_YEAR (by rfl)) pe_int) pa_nil))) (pg_name (i := 2) sc_year_of.nd rfl (by first | exact Or.inl rfl | exact Or.inr rfl)) (pss_one (ps_if (pt_cmpR op_le (pe_fn (ok_year_start T) (hr.mono (by decide)) (by rfl) pass0 (pa_cons (pv 2) pa_nil)) (pv 0) (nomark _)) (pss_one (ps_set (i := 1) sc_year_of.nd rfl (by first | exact Or.inl rfl | exact Or.inr rfl) (pv 2))) pss_nil)))
      (pss_one (ps_ret (pv 1))))), ?_⟩
    clear F hr
    obtain ⟨n, rfl, hn, hQ⟩ := h
    walk_at "w"
    refine ⟨_, _, rfl, by omega, for_range (fun i σ H' => H' = H ∧ ∃ e : Option V, σ = [some (.int (n : Int)), some (.int (2000 + (min i (yearOf n) : Nat))), e]) ⟨rfl, none, by simp; rfl⟩ ?_ ?_⟩
    · rintro i σ H' hi ⟨rfl, e, rfl⟩
      walk_at "w"
      refine ⟨i + 1, by walk_at "vs", ?_⟩
      walk_at "w"
      have t := year_turn n i
      refine w_cases (fun c => ?_) (fun c => ?_)
      · walk_at "w"
        refine ⟨rfl, some (V.int (2000 + 1 + (i : Nat))), ?_⟩
        rw [if_pos (by omega)] at t
        rw [← t]
        exact congrArg (fun z : Int => [some (V.int (n : Int)), some (V.int z), some (V.int (2000 + 1 + (i : Nat)))]) (by omega)
      · walk_at "w"
        refine ⟨rfl, some (V.int (2000 + 1 + (i : Nat))), ?_⟩
        rw [if_neg (by omega)] at t
        rw [← t]
        rfl
    · rintro σ H' ⟨rfl, e, rfl⟩
      walk_at "w"
      have := yearOf_lt hn
      rw [show min (2099 + 1 - (2000 + 1) : Int).toNat (yearOf n) = yearOf n by omega]
      exact hQ
end

def sp_month_of : Sp := fun vs H Q _ => ∃ n : Nat, vs = [.int (n : Int), .int (2000 + (yearOf n : Nat))] ∧ Q (.int (monthOf n : Nat)) H
section
variable {P : Program} {w : World} {K : PySem.W.Frag} {mg : Str → Option Value} {base : Heap}
theorem sc_month_of : FnScope ["day", "year", "month", "later"] ["day", "year"] (defScope s_month_of) := ⟨rfl, rfl, rfl, by decide +kernel, rfl, by decide +kernel, by decide +kernel⟩
theorem ok_month_of (T : Tx K mg) : DefOk P w K mg base CX0 3 "month_of" ["day", "year"] sp_month_of := by
  obtain ⟨fd, F⟩ := T.f_month_of
  refine ⟨⟨fd, F.ok sc_month_of (fun vs H Q E h => ?_) (fun cdv A outer s H vs Q E hr h => ?_), F.bindsN fun _ _ _ _ _ _ us hl => match us, hl with | [_, _], _ => rfl⟩, F.kp, T.g_month_of⟩
  · obtain ⟨n, rfl, _⟩ := h
    rfl
  · refine ⟨_, PSs.nox (pss_cons (ps_set (i := 2) sc_month_of.nd rfl (by first | exact Or.inl rfl | exact Or.inr rfl) pe_int)
      (pss_cons (ps_for PassesOwn.never rfl (pi_range2 (by rfl) T.b_range (pa_cons pe_int (pa_cons pe_int pa_nil))) (pg_name (i := 3) sc_month_of.nd rfl (by first | exact Or.inl rfl | exact Or.inr rfl)) (pss_one (ps_if (pt_cmpR op_le (pe_fn (ok_month_start T) (hr.mono (by decide)) (by rfl) pass0 (pa_cons (pv 1) (pa_cons (pv 3) pa_nil))) (pv 0) (nomark _)) (pss_one (ps_set (i := 2) sc_month_of.nd rfl (by first | exact Or.inl rfl | exact Or.inr rfl) (pv 3))) pss_nil)))
      (pss_one (ps_ret (pv 2))))), ?_⟩
    clear F hr
    obtain ⟨n, rfl, hQ⟩ := h
    have m1 := monthOf_pos n
    have m2 := monthOf_le n
    walk_at "w"
    refine ⟨_, _, rfl, by omega, for_range (fun i σ H' => H' = H ∧ ∃ e : Option V, σ = [some (.int (n : Int)), some (.int (2000 + (yearOf n : Nat))), some (.int (min (i + 1) (monthOf n) : Nat)), e]) ⟨rfl, none, ?_⟩ ?_ ?_⟩
    · rw [show min (0 + 1) (monthOf n) = 1 by omega]
      rfl
    · rintro i σ H' hi ⟨rfl, e, rfl⟩
      walk_at "w"
      refine ⟨yearOf n, i + 2, by walk_at "vs", by omega, by omega, ?_⟩
      walk_at "w"
      have t := month_turn n i (by omega)
      refine w_cases (fun c => ?_) (fun c => ?_)
      · walk_at "w"
        refine ⟨rfl, some (V.int (2 + (i : Nat))), ?_⟩
        rw [if_pos (by omega)] at t
        rw [show i + 1 + 1 = i + 2 from rfl, ← t]
        exact congrArg (fun z : Int => [some (V.int (n : Int)), some (V.int (2000 + (yearOf n : Nat))), some (V.int z), some (V.int (2 + (i : Nat)))]) (by omega)
      · walk_at "w"
        refine ⟨rfl, some (V.int (2 + (i : Nat))), ?_⟩
        rw [if_neg (by omega)] at t
        rw [show i + 1 + 1 = i + 2 from rfl, ← t]
        rfl
    · rintro σ H' ⟨rfl, e, rfl⟩
      walk_at "w"
      rw [show min ((13 - 2 : Int).toNat + 1) (monthOf n) = monthOf n by omega]
      exact hQ
end

def sp_date_of : Sp := fun vs H Q _ => ∃ n : Nat, vs = [.int (n : Int)] ∧ n < 36525 ∧ ∀ p, H p = none → Q (.ref p) (upd H p (.tup [.int (2000 + (yearOf n : Nat)), .int (monthOf n : Nat), .int (domOf n : Nat)]))
section
variable {P : Program} {w : World} {K : PySem.W.Frag} {mg : Str → Option Value} {base : Heap}
theorem sc_date_of : FnScope ["day", "year", "month"] ["day"] (defScope s_date_of) := ⟨rfl, rfl, rfl, by decide +kernel, rfl, by decide +kernel, by decide +kernel⟩
theorem ok_date_of (T : Tx K mg) : DefOk P w K mg base CX0 4 "date_of" ["day"] sp_date_of := by
  obtain ⟨fd, F⟩ := T.f_date_of
  refine ⟨⟨fd, F.ok sc_date_of (fun vs H Q E h => ?_) (fun cdv A outer s H vs Q E hr h => ?_), F.bindsN fun _ _ _ _ _ _ us hl => match us, hl with | [_], _ => rfl⟩, F.kp, T.g_date_of⟩
  · obtain ⟨n, rfl, _⟩ := h
    rfl
  · refine ⟨_, PSs.nox (pss_cons (ps_set (i := 1) sc_date_of.nd rfl (by first | exact Or.inl rfl | exact Or.inr rfl) (pe_fn (ok_year_of T) (hr.mono (by decide)) (by rfl) pass0 (pa_cons (pv 0) pa_nil)))
      (pss_cons (ps_set (i := 2) sc_date_of.nd rfl (by first | exact Or.inl rfl | exact Or.inr rfl) (pe_fn (ok_month_of T) (hr.mono (by decide)) (by rfl) pass0 (pa_cons (pv 0) (pa_cons (pv 1) pa_nil))))
      (pss_one (ps_ret (pe_tup (pa_cons (pv 1) (pa_cons (pv 2) (pa_cons (pe_op op_add (pe_op op_sub (pv 0) (pe_fn (ok_month_start T) (hr.mono (by decide)) (by rfl) pass0 (pa_cons (pv 1) (pa_cons (pv 2) pa_nil)))) pe_int) pa_nil)))))))), ?_⟩
    clear F hr
    obtain ⟨n, rfl, hn, hQ⟩ := h
    walk_at "w"
    refine ⟨n, rfl, hn, ?_⟩
    walk_at "w"
    refine ⟨n, rfl, ?_⟩
    walk_at "w"
    refine ⟨yearOf n, monthOf n, rfl, monthOf_pos n, monthOf_le n, ?_⟩
    walk_at "w"
    intro p hp
    have e : (n : Int) - (monthStart (yearOf n) (monthOf n) : Nat) + 1 = (domOf n : Nat) := by
      have := start_le n
      unfold domOf
      omega
    rw [e]
    exact hQ p hp
end

def sp_weekday_of : Sp := fun vs H Q _ => ∃ n : Nat, vs = [.int (n : Int)] ∧ Q (.int (weekday n : Nat)) H
section
variable {P : Program} {w : World} {K : PySem.W.Frag} {mg : Str → Option Value} {base : Heap}
theorem sc_weekday_of : FnScope ["day"] ["day"] (defScope s_weekday_of) := ⟨rfl, rfl, rfl, by decide +kernel, rfl, by decide +kernel, by decide +kernel⟩
theorem ok_weekday_of (T : Tx K mg) : DefOk P w K mg base CX0 1 "weekday_of" ["day"] sp_weekday_of := by
  obtain ⟨fd, F⟩ := T.f_weekday_of
  refine ⟨⟨fd, F.ok sc_weekday_of (fun vs H Q E h => ?_) (fun cdv A outer s H vs Q E hr h => ?_), F.bindsN fun _ _ _ _ _ _ us hl => match us, hl with | [_], _ => rfl⟩, F.kp, T.g_weekday_of⟩
  · obtain ⟨n, rfl, _⟩ := h
    rfl
  · refine ⟨_, PSs.nox (pss_one (ps_ret (pe_op op_mod (pe_op op_add (pv 0) pe_int) pe_int))), ?_⟩
    clear F hr
    obtain ⟨n, rfl, hQ⟩ := h
    walk_at "w"
    exact hQ
end

def sp_week_index : Sp := fun vs H Q _ => ∃ n : Nat, vs = [.int (n : Int)] ∧ Q (.int (week n : Nat)) H
section
variable {P : Program} {w : World} {K : PySem.W.Frag} {mg : Str → Option Value} {base : Heap}
theorem sc_week_index : FnScope ["day"] ["day"] (defScope s_week_index) := ⟨rfl, rfl, rfl, by decide +kernel, rfl, by decide +kernel, by decide +kernel⟩
theorem ok_week_index (T : Tx K mg) : DefOk P w K mg base CX0 1 "week_index" ["day"] sp_week_index := by
  obtain ⟨fd, F⟩ := T.f_week_index
  refine ⟨⟨fd, F.ok sc_week_index (fun vs H Q E h => ?_) (fun cdv A outer s H vs Q E hr h => ?_), F.bindsN fun _ _ _ _ _ _ us hl => match us, hl with | [_], _ => rfl⟩, F.kp, T.g_week_index⟩
  · obtain ⟨n, rfl, _⟩ := h
    rfl
  · refine ⟨_, PSs.nox (pss_one (ps_ret (pe_op op_fdiv (pe_op op_add (pv 0) pe_int) pe_int))), ?_⟩
    clear F hr
    obtain ⟨n, rfl, hQ⟩ := h
    walk_at "w"
    exact hQ
end

def sp_week_start : Sp := fun vs H Q _ => ∃ n : Int, vs = [.int n] ∧ Q (.int (7 * n - 5)) H
section
variable {P : Program} {w : World} {K : PySem.W.Frag} {mg : Str → Option Value} {base : Heap}
theorem sc_week_start : FnScope ["week"] ["week"] (defScope s_week_start) := ⟨rfl, rfl, rfl, by decide +kernel, rfl, by decide +kernel, by decide +kernel⟩
theorem ok_week_start (T : Tx K mg) : DefOk P w K mg base CX0 1 "week_start" ["week"] sp_week_start := by
  obtain ⟨fd, F⟩ := T.f_week_start
  refine ⟨⟨fd, F.ok sc_week_start (fun vs H Q E h => ?_) (fun cdv A outer s H vs Q E hr h => ?_), F.bindsN fun _ _ _ _ _ _ us hl => match us, hl with | [_], _ => rfl⟩, F.kp, T.g_week_start⟩
  · obtain ⟨n, rfl, _⟩ := h
    rfl
  · refine ⟨_, PSs.nox (pss_one (ps_ret (pe_op op_sub (pe_op op_mul pe_int (pv 0)) pe_int))), ?_⟩
    clear F hr
    obtain ⟨n, rfl, hQ⟩ := h
    walk_at "w"
    exact hQ
end

def sp_week_of : Sp := fun vs H Q _ => ∃ n : Nat, vs = [.int (n : Int)] ∧ n < 36525 ∧ ∀ p, H p = none → Q (.ref p) (upd H p (.tup [.int (2000 + (weekOf n).1), .int ((weekOf n).2 : Nat)]))
section
variable {P : Program} {w : World} {K : PySem.W.Frag} {mg : Str → Option Value} {base : Heap}
theorem sc_week_of : FnScope ["day", "thursday", "year"] ["day"] (defScope s_week_of) := ⟨rfl, rfl, rfl, by decide +kernel, rfl, by decide +kernel, by decide +kernel⟩
theorem ok_week_of (T : Tx K mg) : DefOk P w K mg base CX0 3 "week_of" ["day"] sp_week_of := by
  obtain ⟨fd, F⟩ := T.f_week_of
  refine ⟨⟨fd, F.ok sc_week_of (fun vs H Q E h => ?_) (fun cdv A outer s H vs Q E hr h => ?_), F.bindsN fun _ _ _ _ _ _ us hl => match us, hl with | [_], _ => rfl⟩, F.kp, T.g_week_of⟩
  · obtain ⟨n, rfl, _⟩ := h
    rfl
  · refine ⟨_, PSs.nox (pss_cons (ps_set (i := 1) sc_week_of.nd rfl (by first | exact Or.inl rfl | exact Or.inr rfl) (pe_op op_add (pe_fn (ok_week_start T) (hr.mono (by decide)) (by rfl) pass0 (pa_cons (pe_fn (ok_week_index T) (hr.mono (by decide)) (by rfl) pass0 (pa_cons (pv 0) pa_nil)) pa_nil)) pe_int))
      (pss_cons (ps_if (pt_cmpR op_lt (pv 1) pe_int (nomark _)) (pss_one (ps_ret (pe_tup (pa_cons (pe_op op_sub (pe_gi T.i_FIRST_YEAR (by rfl)) pe_int) (pa_cons (pe_op op_add (pe_op op_fdiv (pe_op op_add (pv 1) pe_int) pe_int) pe_int) pa_nil))))) pss_nil)
      (pss_cons (ps_set (i := 2) sc_week_of.nd rfl (by first | exact Or.inl rfl | exact Or.inr rfl) (pe_fn (ok_year_of T) (hr.mono (by decide)) (by rfl) pass0 (pa_cons (pv 1) pa_nil)))
      (pss_one (ps_ret (pe_tup (pa_cons (pv 2) (pa_cons (pe_op op_add (pe_op op_fdiv (pe_op op_sub (pv 1) (pe_fn (ok_year_start T) (hr.mono (by decide)) (by rfl) pass0 (pa_cons (pv 2) pa_nil))) pe_int) pe_int) pa_nil)))))))), ?_⟩
    clear F hr
    obtain ⟨n, rfl, hn, hQ⟩ := h
    rw [weekOf_lt hn] at hQ
    have hw : ((n : Int) + 5) / 7 = (week n : Nat) := by
      unfold week
      omega
    walk_at "w"
    refine ⟨n, rfl, ?_⟩
    walk_at "w"
    refine ⟨_, rfl, ?_⟩
    walk_at "w"
    refine w_cases (fun c => ?_) (fun c => ?_)
    · walk_at "w"
      intro p hp
      have n2 : n < 2 := by
        unfold week at c
        omega
      rw [if_pos n2] at hQ
      have e : (7 * ((week n : Nat) : Int) - 5 + 3 + 365) / 7 + 1 = 52 := by
        have : week n = 0 := by
          unfold week
          omega
        rw [this]
        rfl
      rw [e]
      exact hQ p hp
    · have n2 : ¬ n < 2 := by
        unfold week at c
        omega
      rw [if_neg n2] at hQ
      have b : 7 * week n + 3 - 5 < 36525 ∧ 5 ≤ 7 * week n + 3 := by
        unfold week
        omega
      walk_at "w"
      refine ⟨7 * week n + 3 - 5, by walk_at "vs", b.1, ?_⟩
      walk_at "w"
      refine ⟨yearOf (7 * week n + 3 - 5), rfl, ?_⟩
      walk_at "w"
      intro p hp
      have y := ys_yearOf (7 * week n + 3 - 5)
      have e : (7 * ((week n : Nat) : Int) - 5 + 3 - (ys (yearOf (7 * week n + 3 - 5)) : Nat)) / 7 + 1 = (((7 * week n + 3 - 5 - ys (yearOf (7 * week n + 3 - 5))) / 7 + 1 : Nat) : Int) := by omega
      rw [e]
      exact hQ p hp
end

end CA
end file_CaM1
section file_CaM2
set_option maxRecDepth 100000
set_option maxHeartbeats 4000000
namespace CA
open PySem PySem.Spec PyProof.Rows L2
open SX (S)
open Cl01 (monthDays monthStart isDate dayOf yearOf monthOf domOf weekday week weekOf)
def sp_first_from (K : PySem.W.Frag) : Sp := fun vs H Q _ => ∃ (a : Addr) (l : List Nat) (d : Nat), vs = [.ref a, .int (d : Int)] ∧ SqL K H a (iv l) ∧ Q (ov (l.find? fun m => decide (d ≤ m))) H
section
variable {P : Program} {w : World} {K : PySem.W.Frag} {mg : Str → Option Value} {base : Heap}
theorem sc_first_from : FnScope ["row", "day", "each"] ["row", "day"] (defScope s_first_from) := ⟨rfl, rfl, rfl, by decide +kernel, rfl, by decide +kernel, by decide +kernel⟩
theorem ok_first_from (T : Tx K mg) : DefOk P w K mg base CX0 1 "first_from" ["row", "day"] (sp_first_from K) := by
  obtain ⟨fd, F⟩ := T.f_first_from
  refine ⟨⟨fd, F.ok sc_first_from (fun vs H Q E h => ?_) (fun cdv A outer s H vs Q E hr h => ?_), F.bindsN fun _ _ _ _ _ _ us hl => match us, hl with | [_, _], _ => rfl⟩, F.kp, T.g_first_from⟩
  · obtain ⟨a, l, d, rfl, _⟩ := h
    rfl
  · refine ⟨_, PSs.nox (pss_cons (ps_for PassesOwn.never rfl (pi_list (pv 0)) (pg_name (i := 2) sc_first_from.nd rfl (by first | exact Or.inl rfl | exact Or.inr rfl)) (pss_one (ps_if (pt_cmpR op_ge (pv 2) (pv 1) (nomark _)) (pss_one (ps_ret (pv 2))) pss_nil)))
      (pss_one (ps_ret (pe_gi T.i_NO_DAY (by rfl))))), ?_⟩
    clear F hr
    obtain ⟨a, l, d, rfl, hS, hQ⟩ := h
    walk_at "w"
    refine ⟨_, rfl, ⟨_, hS⟩, for_list (K := K) (a := a) (xs := iv l) (fun i σ H' => H' = H ∧ ∃ e : Option V, σ = [some (.ref a), some (.int (d : Int)), e] ∧ (l.take i).find? (fun m => decide (d ≤ m)) = none) ⟨rfl, none, rfl, rfl⟩ (fun i σ H' _ p => by rw [p.1]; exact hS) ?_ ?_⟩
    · rintro i x σ H' hx ⟨rfl, e, rfl, hn⟩
      obtain ⟨n, hl, rfl⟩ := iv_at hx
      walk_at "w"
      refine w_cases (fun c => ?_) (fun c => ?_)
      · walk_at "w"
        rw [find_take_yes hl hn (decide_eq_true (by omega))] at hQ
        exact hQ
      · walk_at "w"
        exact ⟨rfl, _, rfl, find_take_no hl hn (decide_eq_false (by omega))⟩
    · rintro σ H' ⟨rfl, e, rfl, hn⟩
      walk_at "w"
      rw [iv_len, List.take_length] at hn
      rw [hn] at hQ
      exact hQ
end

def sp_last_up_to (K : PySem.W.Frag) : Sp := fun vs H Q _ => ∃ (a : Addr) (l : List Nat) (d : Nat), vs = [.ref a, .int (d : Int)] ∧ SqL K H a (iv l) ∧ Q (ov ((l.filter fun m => decide (m ≤ d)).getLast?)) H
section
variable {P : Program} {w : World} {K : PySem.W.Frag} {mg : Str → Option Value} {base : Heap}
theorem sc_last_up_to : FnScope ["row", "day", "found", "each"] ["row", "day"] (defScope s_last_up_to) := ⟨rfl, rfl, rfl, by decide +kernel, rfl, by decide +kernel, by decide +kernel⟩
theorem ok_last_up_to (T : Tx K mg) : DefOk P w K mg base CX0 1 "last_up_to" ["row", "day"] (sp_last_up_to K) := by
  obtain ⟨fd, F⟩ := T.f_last_up_to
  refine ⟨⟨fd, F.ok sc_last_up_to (fun vs H Q E h => ?_) (fun cdv A outer s H vs Q E hr h => ?_), F.bindsN fun _ _ _ _ _ _ us hl => match us, hl with | [_, _], _ => rfl⟩, F.kp, T.g_last_up_to⟩
  · obtain ⟨a, l, d, rfl, _⟩ := h
    rfl
  · refine ⟨_, PSs.nox (pss_cons (ps_set (i := 2) sc_last_up_to.nd rfl (by first | exact Or.inl rfl | exact Or.inr rfl) (pe_gi T.i_NO_DAY (by rfl)))
      (pss_cons (ps_for PassesOwn.never rfl (pi_list (pv 0)) (pg_name (i := 3) sc_last_up_to.nd rfl (by first | exact Or.inl rfl | exact Or.inr rfl)) (pss_one (ps_if (pt_cmpR op_le (pv 3) (pv 1) (nomark _)) (pss_one (ps_set (i := 2) sc_last_up_to.nd rfl (by first | exact Or.inl rfl | exact Or.inr rfl) (pv 3))) pss_nil)))
      (pss_one (ps_ret (pv 2))))), ?_⟩
    clear F hr
    obtain ⟨a, l, d, rfl, hS, hQ⟩ := h
    walk_at "w"
    refine ⟨_, rfl, ⟨_, hS⟩, for_list (K := K) (a := a) (xs := iv l) (fun i σ H' => H' = H ∧ ∃ e : Option V, σ = [some (.ref a), some (.int (d : Int)), some (ov (((l.take i).filter fun m => decide (m ≤ d)).getLast?)), e]) ⟨rfl, none, rfl⟩ (fun i σ H' _ p => by rw [p.1]; exact hS) ?_ ?_⟩
    · rintro i x σ H' hx ⟨rfl, e, rfl⟩
      obtain ⟨n, hl, rfl⟩ := iv_at hx
      walk_at "w"
      refine w_cases (fun c => ?_) (fun c => ?_)
      · walk_at "w"
        refine ⟨rfl, some (.int (n : Int)), ?_⟩
        rw [filter_take_yes hl (decide_eq_true (by omega)), List.getLast?_append]
        rfl
      · walk_at "w"
        refine ⟨rfl, some (.int (n : Int)), ?_⟩
        rw [filter_take_no hl (decide_eq_false (by omega))]
        rfl
    · rintro σ H' ⟨rfl, e, rfl⟩
      walk_at "w"
      rw [iv_len, List.take_length]
      exact hQ
end

def sp_between (K : PySem.W.Frag) : Sp := fun vs H Q _ => ∃ (a : Addr) (l : List Nat) (f t : Nat), vs = [.ref a, .int (f : Int), .int (t : Int)] ∧ SqL K H a (iv l) ∧ l.length ≤ 100000 ∧ ∀ p H', H p = none → Same H H' → H' p = some (.lst (iv (l.filter fun n => decide (f ≤ n) && decide (n ≤ t)))) → Q (.ref p) H' 
section
variable {P : Program} {w : World} {K : PySem.W.Frag} {mg : Str → Option Value} {base : Heap}
theorem sc_between : FnScope ["row", "first", "last_one", "each"] ["row", "first", "last_one"] (defScope s_between) := ⟨rfl, rfl, rfl, by decide +kernel, rfl, by decide +kernel, by decide +kernel⟩
theorem ok_between (T : Tx K mg) : DefOk P w K mg base CX0 1 "between" ["row", "first", "last_one"] (sp_between K) := by
  obtain ⟨fd, F⟩ := T.f_between
  refine ⟨⟨fd, F.ok sc_between (fun vs H Q E h => ?_) (fun cdv A outer s H vs Q E hr h => ?_), F.bindsN fun _ _ _ _ _ _ us hl => match us, hl with | [_, _, _], _ => rfl⟩, F.kp, T.g_between⟩
  · obtain ⟨a, l, f, t, rfl, _⟩ := h
    rfl
  · refine ⟨_, PSs.nox (pss_one (ps_ret (pe_lc (own := [("each", 3)]) (g := gName 3) rfl sc_between.nd (pi_list (pv 0)) (blkOk_by (N := ["row", "first", "last_one", "each"]) (sc := defScope s_between) (by decide +kernel)) (fun _ _ _ _ _ => pg_name (i := 3) sc_between.nd rfl (Or.inl rfl)) (fun _ _ _ _ _ => pts_one (pt_chain op_le op_le (pv 1) (pv 3) (pv 2))) (fun _ _ _ _ _ => (pv 3))))), ?_⟩
    clear F hr
    obtain ⟨a, l, f, t, rfl, hS, hz, hQ⟩ := h
    walk_at "w"
    refine ⟨_, rfl, ⟨_, hS⟩, fun D hD => lc_ext (fun v => match v with | .int i => decide ((f : Int) ≤ i) && decide (i ≤ (t : Int)) | _ => false) (fun v => v) hS hD (by rw [iv_len]; exact hz) (fun x hx => ?_) fun H' s1 h1 => hQ D H' hD s1 ?_⟩
    · obtain ⟨n, _, rfl⟩ := iv_mem hx
      intro H' F G s1 hF hG
      walk_at "w"
      refine ⟨rfl, ?_⟩
      walk_at "w"
      refine w_cases (fun c1 => ?_) (fun c1 => ?_)
      · walk_at "w"
        refine w_cases (fun c2 => ?_) (fun c2 => ?_)
        · walk_at "w"
          exact hF (by simp only [decide_eq_true c1, decide_eq_true c2, Bool.and_self]) _ (Same.refl _)
        · exact hG (by simp only [decide_eq_false c2, Bool.and_false]) _ (Same.refl _)
      · walk_at "w"
        exact hG (by simp only [decide_eq_false c1, Bool.false_and]) _ (Same.refl _)
    · rw [h1]
      refine congrArg (fun z => some (HO.lst z)) (iv_filter l _ _ _ (fun n _ => ?_) fun n => rfl)
      show (decide ((f : Int) ≤ (n : Int)) && decide ((n : Int) ≤ (t : Int))) = (decide (f ≤ n) && decide (n ≤ t))
      rw [show decide ((f : Int) ≤ (n : Int)) = decide (f ≤ n) from decide_eq_decide.mpr (by omega), show decide ((n : Int) ≤ (t : Int)) = decide (n ≤ t) from decide_eq_decide.mpr (by omega)]
end

def sp_nth_of (K : PySem.W.Frag) : Sp := fun vs H Q _ => ∃ (a : Addr) (l : List Nat) (k : Nat), vs = [.ref a, .int (k : Int)] ∧ SqL K H a (iv l) ∧ Q (if k = 0 then .int (-6) else ov l[k - 1]?) H
section
variable {P : Program} {w : World} {K : PySem.W.Frag} {mg : Str → Option Value} {base : Heap}
theorem sc_nth_of : FnScope ["row", "k"] ["row", "k"] (defScope s_nth_of) := ⟨rfl, rfl, rfl, by decide +kernel, rfl, by decide +kernel, by decide +kernel⟩
theorem ok_nth_of (T : Tx K mg) : DefOk P w K mg base CX0 1 "nth_of" ["row", "k"] (sp_nth_of K) := by
  obtain ⟨fd, F⟩ := T.f_nth_of
  refine ⟨⟨fd, F.ok sc_nth_of (fun vs H Q E h => ?_) (fun cdv A outer s H vs Q E hr h => ?_), F.bindsN fun _ _ _ _ _ _ us hl => match us, hl with | [_, _], _ => rfl⟩, F.kp, T.g_nth_of⟩
  · obtain ⟨a, l, d, rfl, _⟩ := h
    rfl
  · refine ⟨_, PSs.nox (pss_cons (ps_if (pw_or (pt_cmpR op_lt (pv 1) pe_int (nomark _)) (pw_or1 (pt_cmpR op_gt (pv 1) (pe_callB (len_seqK (K := K) rfl) (by rfl) T.b_len (by decide +kernel) (pa_cons (pv 0) pa_nil)) (nomark _)))).pt (pss_one (ps_ret (pe_gi T.i_NO_DAY (by rfl)))) pss_nil)
      (pss_one (ps_ret (pe_ix (ix_listK (K := K) rfl) (pv 0) (pe_op op_sub (pv 1) pe_int) (fun _ _ => rfl))))), ?_⟩
    clear F hr
    obtain ⟨a, l, k, rfl, hS, hQ⟩ := h
    walk_at "w"
    refine w_cases (fun c => ?_) (fun c => ?_)
    · walk_at "w"
      rw [if_pos (by omega)] at hQ
      exact hQ
    · walk_at "w"
      refine ⟨_, _, rfl, .inl hS, ?_⟩
      walk_at "w"
      rw [if_neg (by omega)] at hQ
      rw [iv_len]
      refine w_cases (fun c2 => ?_) (fun c2 => ?_)
      · walk_at "w"
        rw [List.getElem?_eq_none (by omega)] at hQ
        exact hQ
      · walk_at "w"
        have hk : k - 1 < l.length := by omega
        have e : l[k - 1]? = some l[k - 1] := List.getElem?_eq_getElem hk
        rw [e] at hQ
        refine w_ixl hS ?_ hQ
        rw [show (k : Int) - 1 = ((k - 1 : Nat) : Int) by omega]
        exact atI_nat (at_iv e)
end

def sp_table_of (K : PySem.W.Frag) : Sp := fun vs H Q _ => ∃ (a : Addr) (l : List Nat), vs = [.ref a] ∧ SqL K H a (iv l) ∧ l.length ≤ 100000 ∧ ∀ p H' kvs, H p = none → Same H H' → H' p = some (.dK kvs) → (∀ n : Nat, (valV kvs (Sum.inl (n : Int))).isSome = l.contains n) → Q (.ref p) H' 
section
variable {P : Program} {w : World} {K : PySem.W.Frag} {mg : Str → Option Value} {base : Heap}
theorem sc_table_of : FnScope ["row", "table", "each"] ["row"] (defScope s_table_of) := ⟨rfl, rfl, rfl, by decide +kernel, rfl, by decide +kernel, by decide +kernel⟩
theorem ok_table_of (T : Tx K mg) : DefOk P w K mg base CX0 1 "table_of" ["row"] (sp_table_of K) := by
  obtain ⟨fd, F⟩ := T.f_table_of
  refine ⟨⟨fd, F.ok sc_table_of (fun vs H Q E h => ?_) (fun cdv A outer s H vs Q E hr h => ?_), F.bindsN fun _ _ _ _ _ _ us hl => match us, hl with | [_], _ => rfl⟩, F.kp, T.g_table_of⟩
  · obtain ⟨a, l, rfl, _⟩ := h
    rfl
  · refine ⟨_, PSs.nox (pss_cons (ps_set (i := 1) sc_table_of.nd rfl (by first | exact Or.inl rfl | exact Or.inr rfl) pe_dnewK)
      (pss_cons (ps_for PassesOwn.never rfl (pi_list (pv 0)) (pg_name (i := 2) sc_table_of.nd rfl (by first | exact Or.inl rfl | exact Or.inr rfl)) (pss_one (ps_dput (hu_of hr) (pv 1) (pv 2) pe_bl rfl)))
      (pss_one (ps_ret (pv 1))))), ?_⟩
    clear F hr
    obtain ⟨a, l, rfl, hS, hz, hQ⟩ := h
    walk_at "w"
    intro t ht
    walk_at "w"
    refine ⟨_, rfl, ⟨_, Same.seq (same_upd ht) hS⟩, for_list (K := K) (a := a) (xs := iv l) (fun i σ H' => ∃ (e : Option V) (kvs : List (L2.Key × V)), Same H H' ∧ σ = [some (.ref a), some (.ref t), e] ∧ H' t = some (.dK kvs) ∧ kvs.length ≤ i ∧ (∀ n : Nat, (valV kvs (Sum.inl (n : Int))).isSome = (l.take i).contains n)) ⟨none, [], same_upd ht, rfl, upd_same, Nat.zero_le _, fun n => rfl⟩ (fun i σ H' _ p => by obtain ⟨_, _, s, _⟩ := p; exact Same.seq s hS) ?_ ?_⟩
    · rintro i x σ H' hx ⟨e, kvs, s1, rfl, hd, hl, hk⟩
      obtain ⟨n, hn, rfl⟩ := iv_at hx
      have hi : i < l.length := (List.getElem?_eq_some_iff.mp hn).1
      have big : (100000 : Nat) < sizeLine := by decide
      walk_at "w"
      refine ⟨_, _, rfl, DPut.k (k := Sum.inl (n : Int)) (v := .bl true) hd (by omega), ?_⟩
      walk_at "w"
      refine ⟨_, _, same_mut s1 ht, rfl, upd_same, ?_, fun j => ?_⟩
      · have hp : (putK kvs (Sum.inl (n : Int)) (V.bl true)).length ≤ kvs.length + 1 := by
          unfold putK
          split
          · rw [List.length_map]; omega
          · rw [List.length_append]; exact Nat.le_refl _
        omega
      · rw [valV_put, take_at hn]
        by_cases c : j = n
        · subst c
          rw [if_pos rfl]
          simp
        · rw [if_neg (fun z => c (by have := Sum.inl.inj z; omega)), hk j]
          simp [c]
    · rintro σ H' ⟨e, kvs, s1, rfl, hd, hl, hk⟩
      walk_at "w"
      rw [iv_len, List.take_length] at hk
      exact hQ t H' kvs ht s1 hd hk
end

def sp_both_of (K : PySem.W.Frag) : Sp := fun vs H Q _ => ∃ (a b : Addr) (l m : List Nat), vs = [.ref a, .ref b] ∧ SqL K H a (iv l) ∧ SqL K H b (iv m) ∧ l.length ≤ 100000 ∧ m.length ≤ 100000 ∧ ∀ p H', H p = none → Same H H' → H' p = some (.lst (iv (l.filter fun x => m.contains x))) → Q (.ref p) H' 
section
variable {P : Program} {w : World} {K : PySem.W.Frag} {mg : Str → Option Value} {base : Heap}
theorem sc_both_of : FnScope ["one", "other", "table", "each"] ["one", "other"] (defScope s_both_of) := ⟨rfl, rfl, rfl, by decide +kernel, rfl, by decide +kernel, by decide +kernel⟩
theorem ok_both_of (T : Tx K mg) : DefOk P w K mg base CX0 2 "both_of" ["one", "other"] (sp_both_of K) := by
  obtain ⟨fd, F⟩ := T.f_both_of
  refine ⟨⟨fd, F.ok sc_both_of (fun vs H Q E h => ?_) (fun cdv A outer s H vs Q E hr h => ?_), F.bindsN fun _ _ _ _ _ _ us hl => match us, hl with | [_, _], _ => rfl⟩, F.kp, T.g_both_of⟩
  · obtain ⟨a, b, l, m, rfl, _⟩ := h
    rfl
  · refine ⟨_, PSs.nox (pss_cons (ps_set (i := 2) sc_both_of.nd rfl (by first | exact Or.inl rfl | exact Or.inr rfl) (pe_fn (ok_table_of T) (hr.mono (by decide)) (by rfl) pass0 (pa_cons (pv 1) pa_nil)))
      (pss_one (ps_ret (pe_lc (own := [("each", 3)]) (g := gName 3) rfl sc_both_of.nd (pi_list (pv 0)) (blkOk_by (N := ["one", "other", "table", "each"]) (sc := defScope s_both_of) (by decide +kernel)) (fun _ _ _ _ _ => pg_name (i := 3) sc_both_of.nd rfl (Or.inl rfl)) (fun _ _ _ _ _ => pts_one (pt_cmp (pc_din (hu_of hr) (pv 3) (pv 2)))) (fun _ _ _ _ _ => (pv 3)))))), ?_⟩
    clear F hr
    obtain ⟨a, b, l, m, rfl, hA, hB, hl, hm, hQ⟩ := h
    walk_at "w"
    refine ⟨b, m, rfl, hB, hm, fun t H1 kvs ht s1 hd hk => ?_⟩
    walk_at "w"
    have hA1 := Same.seq s1 hA
    refine ⟨_, rfl, ⟨_, hA1⟩, fun D hD => lc_ext (fun v => match v with | .int i => m.contains i.toNat | _ => false) (fun v => v) hA1 hD (by rw [iv_len]; exact hl) (fun x hx => ?_) fun H' s2 h1 => hQ D H' (Same.free s1 hD) (Same.trans s1 s2) ?_⟩
    · obtain ⟨n, _, rfl⟩ := iv_mem hx
      intro H' F G s3 hF hG
      walk_at "w"
      refine ⟨rfl, ?_⟩
      walk_at "w"
      refine ⟨_, _, rfl, DGet.k (k := Sum.inl (n : Int)) (s3 _ _ hd), ?_⟩
      rw [hk n]
      walk_at "w"
      cases c : m.contains n with
      | true =>
        walk_at "w"
        exact hF (by show (m.contains ((n : Int).toNat)) = true; rw [Int.toNat_natCast]; exact c) _ (Same.refl _)
      | false =>
        walk_at "w"
        exact hG (by show (m.contains ((n : Int).toNat)) = false; rw [Int.toNat_natCast]; exact c) _ (Same.refl _)
    · rw [h1]
      exact congrArg (fun z => some (HO.lst z)) (iv_filter l _ _ _ (fun n _ => by show (m.contains ((n : Int).toNat)) = _; rw [Int.toNat_natCast]) fun n => rfl)
end

def sp_less_of (K : PySem.W.Frag) : Sp := fun vs H Q _ => ∃ (a b : Addr) (l m : List Nat), vs = [.ref a, .ref b] ∧ SqL K H a (iv l) ∧ SqL K H b (iv m) ∧ l.length ≤ 100000 ∧ m.length ≤ 100000 ∧ ∀ p H', H p = none → Same H H' → H' p = some (.lst (iv (l.filter fun x => !m.contains x))) → Q (.ref p) H' 
section
variable {P : Program} {w : World} {K : PySem.W.Frag} {mg : Str → Option Value} {base : Heap}
theorem sc_less_of : FnScope ["one", "other", "table", "each"] ["one", "other"] (defScope s_less_of) := ⟨rfl, rfl, rfl, by decide +kernel, rfl, by decide +kernel, by decide +kernel⟩
theorem ok_less_of (T : Tx K mg) : DefOk P w K mg base CX0 2 "less_of" ["one", "other"] (sp_less_of K) := by
  obtain ⟨fd, F⟩ := T.f_less_of
  refine ⟨⟨fd, F.ok sc_less_of (fun vs H Q E h => ?_) (fun cdv A outer s H vs Q E hr h => ?_), F.bindsN fun _ _ _ _ _ _ us hl => match us, hl with | [_, _], _ => rfl⟩, F.kp, T.g_less_of⟩
  · obtain ⟨a, b, l, m, rfl, _⟩ := h
    rfl
  · refine ⟨_, PSs.nox (pss_cons (ps_set (i := 2) sc_less_of.nd rfl (by first | exact Or.inl rfl | exact Or.inr rfl) (pe_fn (ok_table_of T) (hr.mono (by decide)) (by rfl) pass0 (pa_cons (pv 1) pa_nil)))
      (pss_one (ps_ret (pe_lc (own := [("each", 3)]) (g := gName 3) rfl sc_less_of.nd (pi_list (pv 0)) (blkOk_by (N := ["one", "other", "table", "each"]) (sc := defScope s_less_of) (by decide +kernel)) (fun _ _ _ _ _ => pg_name (i := 3) sc_less_of.nd rfl (Or.inl rfl)) (fun _ _ _ _ _ => pts_one (pt_cmp (pc_dnotin (hu_of hr) (pv 3) (pv 2)))) (fun _ _ _ _ _ => (pv 3)))))), ?_⟩
    clear F hr
    obtain ⟨a, b, l, m, rfl, hA, hB, hl, hm, hQ⟩ := h
    walk_at "w"
    refine ⟨b, m, rfl, hB, hm, fun t H1 kvs ht s1 hd hk => ?_⟩
    walk_at "w"
    have hA1 := Same.seq s1 hA
    refine ⟨_, rfl, ⟨_, hA1⟩, fun D hD => lc_ext (fun v => match v with | .int i => !m.contains i.toNat | _ => false) (fun v => v) hA1 hD (by rw [iv_len]; exact hl) (fun x hx => ?_) fun H' s2 h1 => hQ D H' (Same.free s1 hD) (Same.trans s1 s2) ?_⟩
    · obtain ⟨n, _, rfl⟩ := iv_mem hx
      intro H' F G s3 hF hG
      walk_at "w"
      refine ⟨rfl, ?_⟩
      walk_at "w"
      refine ⟨_, _, rfl, DGet.k (k := Sum.inl (n : Int)) (s3 _ _ hd), ?_⟩
      rw [hk n]
      walk_at "w"
      cases c : !m.contains n with
      | true =>
        walk_at "w"
        exact hF (by show (!m.contains ((n : Int).toNat)) = true; rw [Int.toNat_natCast]; exact c) _ (Same.refl _)
      | false =>
        walk_at "w"
        exact hG (by show (!m.contains ((n : Int).toNat)) = false; rw [Int.toNat_natCast]; exact c) _ (Same.refl _)
    · rw [h1]
      exact congrArg (fun z => some (HO.lst z)) (iv_filter l _ _ _ (fun n _ => by show (!m.contains ((n : Int).toNat)) = _; rw [Int.toNat_natCast]) fun n => rfl)
end

def sp_either_of (K : PySem.W.Frag) : Sp := fun vs H Q _ => ∃ (a b : Addr) (l m : List Nat), vs = [.ref a, .ref b] ∧ H a = some (.lst (iv l)) ∧ SqL K H b (iv m) ∧ l.length ≤ 40000 ∧ m.length ≤ 40000 ∧ Up l ∧ Up m ∧ ∀ p H', H p = none → Same H H' → H' p = some (.lst (iv (Cl01.of Cl01.join l m))) → Q (.ref p) H' 
section
variable {P : Program} {w : World} {K : PySem.W.Frag} {mg : Str → Option Value} {base : Heap}
theorem sc_either_of : FnScope ["one", "other"] ["one", "other"] (defScope s_either_of) := ⟨rfl, rfl, rfl, by decide +kernel, rfl, by decide +kernel, by decide +kernel⟩
theorem ok_either_of (T : Tx K mg) : DefOk P w K mg base CX0 3 "either_of" ["one", "other"] (sp_either_of K) := by
  obtain ⟨fd, F⟩ := T.f_either_of
  refine ⟨⟨fd, F.ok sc_either_of (fun vs H Q E h => ?_) (fun cdv A outer s H vs Q E hr h => ?_), F.bindsN fun _ _ _ _ _ _ us hl => match us, hl with | [_, _], _ => rfl⟩, F.kp, T.g_either_of⟩
  · obtain ⟨a, b, l, m, rfl, _⟩ := h
    rfl
  · refine ⟨_, PSs.nox (pss_one (ps_ret (pe_callB cr_sortedI (by rfl) T.b_sorted (by decide +kernel) (pa_cons (pe_op op_cat (pv 0) (pe_fn (ok_less_of T) (hr.mono (by decide)) (by rfl) pass0 (pa_cons (pv 1) (pa_cons (pv 0) pa_nil)))) pa_nil)))), ?_⟩
    clear F hr
    obtain ⟨a, b, l, m, rfl, hA, hB, hl, hm, ul, um, hQ⟩ := h
    walk_at "w"
    refine ⟨b, a, m, l, rfl, hB, SqL.of hA, by omega, by omega, fun t H1 ht s1 hd => ?_⟩
    have big : (100000 : Nat) < sizeLine := by decide
    have hf := List.length_filter_le (fun x => !l.contains x) m
    refine ⟨a, t, _, _, rfl, rfl, s1 _ _ hA, hd, by rw [iv_len, iv_len]; omega, fun q hq => ?_⟩
    walk_at "w"
    refine ⟨q, _, rfl, SqL.of (by rw [upd_same, ← iv_append, iv_ints]), fun ns p hp hs hpn => ?_⟩
    obtain ⟨out, po, rfl⟩ := perm_iv hp
    have e := join_of ul um po (pairwise_iv hs)
    walk_at "w"
    refine hQ p _ (Same.free s1 (Same.free (same_upd hq) hpn)) (same_mut (same_mut s1 (Same.free s1 hq)) (Same.free s1 (Same.free (same_upd hq) hpn))) ?_
    rw [upd_same, ← e, iv_ints]
end

def sp_first_common (K : PySem.W.Frag) : Sp := fun vs H Q _ => ∃ (a b : Addr) (l m : List Nat), vs = [.ref a, .ref b] ∧ SqL K H a (iv l) ∧ SqL K H b (iv m) ∧ l.length ≤ 100000 ∧ m.length ≤ 100000 ∧ ∀ H', Same H H' → Q (ov (l.filter fun x => m.contains x).head?) H' 
section
variable {P : Program} {w : World} {K : PySem.W.Frag} {mg : Str → Option Value} {base : Heap}
theorem sc_first_common : FnScope ["one", "other"] ["one", "other"] (defScope s_first_common) := ⟨rfl, rfl, rfl, by decide +kernel, rfl, by decide +kernel, by decide +kernel⟩
theorem ok_first_common (T : Tx K mg) : DefOk P w K mg base CX0 3 "first_common" ["one", "other"] (sp_first_common K) := by
  obtain ⟨fd, F⟩ := T.f_first_common
  refine ⟨⟨fd, F.ok sc_first_common (fun vs H Q E h => ?_) (fun cdv A outer s H vs Q E hr h => ?_), F.bindsN fun _ _ _ _ _ _ us hl => match us, hl with | [_, _], _ => rfl⟩, F.kp, T.g_first_common⟩
  · obtain ⟨a, b, l, m, rfl, _⟩ := h
    rfl
  · refine ⟨_, PSs.nox (pss_one (ps_ret (pe_fn (ok_first_from T) (hr.mono (by decide)) (by rfl) pass0 (pa_cons (pe_fn (ok_both_of T) (hr.mono (by decide)) (by rfl) pass0 (pa_cons (pv 0) (pa_cons (pv 1) pa_nil))) (pa_cons pe_int pa_nil))))), ?_⟩
    clear F hr
    obtain ⟨a, b, l, m, rfl, hA, hB, hl, hm, hQ⟩ := h
    walk_at "w"
    refine ⟨a, b, l, m, rfl, hA, hB, hl, hm, fun t H1 ht s1 hd => ?_⟩
    walk_at "w"
    refine ⟨t, _, 0, rfl, SqL.of hd, ?_⟩
    have e : ∀ l : List Nat, l.find? (fun m => decide (0 ≤ m)) = l.head? := fun l => by cases l <;> simp
    rw [e]
    exact hQ H1 s1
end

def sp_first_different (K : PySem.W.Frag) : Sp := fun vs H Q _ => ∃ (a b : Addr) (l m : List Nat), vs = [.ref a, .ref b] ∧ SqL K H a (iv l) ∧ SqL K H b (iv m) ∧ l.length ≤ 100000 ∧ m.length ≤ 100000 ∧
  ∀ p H', H p = none → Same H H' → H' p = some (.lst (match (l.filter fun x => !m.contains x).head?, (m.filter fun x => !l.contains x).head? with
    | none, none => [.int (-6)]
    | some x, none => [.int (x : Nat), .int 1]
    | none, some y => [.int (y : Nat), .int 2]
    | some x, some y => if x < y then [.int (x : Nat), .int 1] else [.int (y : Nat), .int 2])) → Q (.ref p) H' 
section
variable {P : Program} {w : World} {K : PySem.W.Frag} {mg : Str → Option Value} {base : Heap}
theorem sc_first_different : FnScope ["one", "other", "of_one", "of_other"] ["one", "other"] (defScope s_first_different) := ⟨rfl, rfl, rfl, by decide +kernel, rfl, by decide +kernel, by decide +kernel⟩
theorem ok_first_different (T : Tx K mg) : DefOk P w K mg base CX0 3 "first_different" ["one", "other"] (sp_first_different K) := by
  obtain ⟨fd, F⟩ := T.f_first_different
  refine ⟨⟨fd, F.ok sc_first_different (fun vs H Q E h => ?_) (fun cdv A outer s H vs Q E hr h => ?_), F.bindsN fun _ _ _ _ _ _ us hl => match us, hl with | [_, _], _ => rfl⟩, F.kp, T.g_first_different⟩
  · obtain ⟨a, b, l, m, rfl, _⟩ := h
    rfl
  · refine ⟨_, PSs.nox (pss_cons (ps_set (i := 2) sc_first_different.nd rfl (by first | exact Or.inl rfl | exact Or.inr rfl) (pe_fn (ok_first_from T) (hr.mono (by decide)) (by rfl) pass0 (pa_cons (pe_fn (ok_less_of T) (hr.mono (by decide)) (by rfl) pass0 (pa_cons (pv 0) (pa_cons (pv 1) pa_nil))) (pa_cons pe_int pa_nil))))
      (pss_cons (ps_set (i := 3) sc_first_different.nd rfl (by first | exact Or.inl rfl | exact Or.inr rfl) (pe_fn (ok_first_from T) (hr.mono (by decide)) (by rfl) pass0 (pa_cons (pe_fn (ok_less_of T) (hr.mono (by decide)) (by rfl) pass0 (pa_cons (pv 1) (pa_cons (pv 0) pa_nil))) (pa_cons pe_int pa_nil))))
      (pss_cons (ps_if (pw_and (pt_cmpR op_eq (pv 2) (pe_gi T.i_NO_DAY (by rfl)) (nomark _)) (pw_and1 (pt_cmpR op_eq (pv 3) (pe_gi T.i_NO_DAY (by rfl)) (nomark _)))).pt (pss_one (ps_ret (pe_lst (pa_cons (pe_gi T.i_NO_DAY (by rfl)) pa_nil)))) pss_nil)
      (pss_cons (ps_if (pw_or (pt_cmpR op_eq (pv 3) (pe_gi T.i_NO_DAY (by rfl)) (nomark _)) (pw_or1 (pw_and (pt_cmpR op_ne (pv 2) (pe_gi T.i_NO_DAY (by rfl)) (nomark _)) (pw_and1 (pt_cmpR op_lt (pv 2) (pv 3) (nomark _)))).pt)).pt (pss_one (ps_ret (pe_lst (pa_cons (pv 2) (pa_cons pe_int pa_nil))))) pss_nil)
      (pss_one (ps_ret (pe_lst (pa_cons (pv 3) (pa_cons pe_int pa_nil))))))))), ?_⟩
    clear F hr
    obtain ⟨a, b, l, m, rfl, hA, hB, hl, hm, hQ⟩ := h
    have e : ∀ l : List Nat, l.find? (fun m => decide (0 ≤ m)) = l.head? := fun l => by cases l <;> simp
    walk_at "w"
    refine ⟨a, b, l, m, rfl, hA, hB, hl, hm, fun t H1 ht s1 hd => ?_⟩
    walk_at "w"
    refine ⟨t, _, 0, rfl, SqL.of hd, ?_⟩
    rw [e]
    walk_at "w"
    refine ⟨b, a, m, l, rfl, Same.seq s1 hB, Same.seq s1 hA, hm, hl, fun t2 H2 ht2 s2 hd2 => ?_⟩
    walk_at "w"
    refine ⟨t2, _, 0, rfl, SqL.of hd2, ?_⟩
    rw [e]
    walk_at "w"
    have s3 := Same.trans s1 s2
    generalize (l.filter fun x => !m.contains x).head? = u at hQ ⊢
    generalize (m.filter fun x => !l.contains x).head? = v at hQ ⊢
    have fin : ∀ xs, (∀ p H', H p = none → Same H H' → H' p = some (.lst xs) → Q (.ref p) H') → ∀ p, H2 p = none → Q (.ref p) (upd H2 p (.lst xs)) := fun xs k p hp => k p _ (Same.free s3 hp) (same_mut s3 (Same.free s3 hp)) upd_same
    cases u with
    | none =>
      cases v with
      | none =>
        dsimp only [ov]
        walk_at "w"
        refine w_yes rfl ?_
        walk_at "w"
        refine w_yes rfl ?_
        walk_at "w"
        exact fin _ hQ
      | some y =>
        dsimp only [ov]
        walk_at "w"
        refine w_yes rfl ?_
        walk_at "w"
        refine w_no (by omega) ?_
        walk_at "w"
        refine w_no (by omega) ?_
        walk_at "w"
        refine w_nno (c := (-6 : Int) = -6) rfl ?_
        walk_at "w"
        exact fin _ hQ
    | some x =>
      cases v with
      | none =>
        dsimp only [ov]
        walk_at "w"
        refine w_no (by omega) ?_
        walk_at "w"
        refine w_yes rfl ?_
        walk_at "w"
        exact fin _ hQ
      | some y =>
        dsimp only [ov]
        walk_at "w"
        refine w_no (by omega) ?_
        walk_at "w"
        refine w_no (by omega) ?_
        walk_at "w"
        refine w_nyes (by omega) ?_
        walk_at "w"
        refine w_cases (fun c => ?_) (fun c => ?_)
        · walk_at "w"
          dsimp only at hQ
          rw [if_pos (by omega)] at hQ
          exact fin _ hQ
        · walk_at "w"
          dsimp only at hQ
          rw [if_neg (by omega)] at hQ
          exact fin _ hQ
end

end CA
end file_CaM2
section file_CaM3
set_option maxRecDepth 100000
set_option maxHeartbeats 4000000
namespace CA
open PySem PySem.Spec PyProof.Rows L2
open SX (S)
open Cl01 (monthDays monthStart isDate dayOf yearOf monthOf domOf weekday week weekOf)

open Cl01 (two dateText itemText digitsOf joined MO BY ON IN FROM UNTIL TIMES NOT ALSO FREQS)
/-- a text as a value -/
abbrev sv (l : List Nat) : V := .str (S l)
theorem sv_strs (ls : List (List Nat)) : ls.map sv = (ls.map S).map V.str := by
  rw [List.map_map]
  rfl
theorem year_text (y : Nat) (h : y < 100) : Str.ofString (toString ((2000 + (y : Nat) : Int))) = S ([50, 48] ++ two y) := by
  rw [show (2000 + (y : Int)) = ((2000 + y : Nat) : Int) by omega, str_num _ (by omega)]
  refine congrArg S ?_
  unfold digitsOf digitsOf digitsOf digitsOf two
  rw [if_neg (by omega), if_neg (by omega), if_neg (by omega), if_pos (by omega)]
  have e1 : (2000 + y) / 10 / 10 / 10 = 2 := by omega
  have e2 : (2000 + y) / 10 / 10 % 10 = 0 := by omega
  have e3 : (2000 + y) / 10 % 10 = y / 10 := by omega
  have e4 : (2000 + y) % 10 = y % 10 := by omega
  rw [e1, e2, e3, e4]
  rfl
theorem two_len (n : Nat) : (two n).length = 2 := rfl
theorem sline : (1000 : Nat) ≤ sizeLine := by decide
theorem wd_at {w : Nat} (h : w < 7) : atI [V.str "mo", V.str "tu", V.str "we", V.str "th", V.str "fr", V.str "sa", V.str "su"] (w : Int) = some (sv (MO.getD w [])) := by
  have : w = 0 ∨ w = 1 ∨ w = 2 ∨ w = 3 ∨ w = 4 ∨ w = 5 ∨ w = 6 := by omega
  rcases this with rfl | rfl | rfl | rfl | rfl | rfl | rfl <;> rfl
theorem mo_len {w : Nat} (h : w < 7) : (MO.getD w []).length = 2 := by
  have : w = 0 ∨ w = 1 ∨ w = 2 ∨ w = 3 ∨ w = 4 ∨ w = 5 ∨ w = 6 := by omega
  rcases this with rfl | rfl | rfl | rfl | rfl | rfl | rfl <;> rfl
theorem part_z {α : Type} (e : α → List Nat) (B : Nat) : ∀ l : List α, (∀ x ∈ l, (e x).length ≤ B) → ((l.map e).map fun x => x.length).sum + (l.map e).length ≤ (B + 1) * l.length
  | [], _ => Nat.zero_le _
  | x :: l, h => by
    have ih := part_z e B l fun y hy => h y (List.mem_cons_of_mem _ hy)
    have hx := h x List.mem_cons_self
    rw [List.map_cons, List.map_cons, List.sum_cons, List.length_cons, List.length_cons, Nat.mul_succ]
    omega
theorem part_len (k : List Nat) (l : List (List Nat)) : (Cl01.part k l).length ≤ 2 := by
  unfold Cl01.part
  split <;> simp
theorem joined_len (c : Nat) : ∀ l : List (List Nat), (joined c l).length ≤ (l.map fun x => x.length).sum + l.length
  | [] => Nat.zero_le _
  | [w] => by simp [joined]
  | w :: v :: l => by
    have ih := joined_len c (v :: l)
    rw [joined, List.length_append, List.length_cons, List.map_cons, List.sum_cons, List.length_cons]
    · omega
    · simp
theorem part_sum (k : List Nat) (l : List (List Nat)) : ((Cl01.part k l).map fun x => x.length).sum ≤ k.length + ((l.map fun x => x.length).sum + l.length) := by
  have h := joined_len 44 l
  unfold Cl01.part
  split
  · simp
  · rw [List.map_cons, List.map_cons, List.map_nil, List.sum_cons, List.sum_cons, List.sum_nil]
    omega
theorem freq_len (f : Nat) : (FREQS.getD f []).length ≤ 7 := by
  have : f = 0 ∨ f = 1 ∨ f = 2 ∨ f = 3 ∨ 4 ≤ f := by omega
  rcases this with rfl | rfl | rfl | rfl | h
  · decide
  · decide
  · decide
  · decide
  · rw [List.getD_eq_getElem?_getD, List.getElem?_eq_none (by exact h)]
    decide
theorem text_parts {r : Cl01.Rule} (ok : ROk r) : Cl01.text r = joined 32 ([FREQS.getD r.freq []] ++ (if r.by_ = 1 then [] else [BY, digitsOf 4 r.by_]) ++ Cl01.part ON (r.weekdays.map fun n => MO.getD n []) ++ Cl01.part ON (r.items.map itemText) ++ Cl01.part IN (r.months.map (digitsOf 4)) ++ [FROM, dateText r.start] ++ (match r.halt_ with
    | 0 => []
    | 1 => [UNTIL, dateText r.last]
    | _ => [TIMES, digitsOf 4 r.last]) ++ Cl01.part NOT (r.not_.map dateText) ++ Cl01.part ALSO (r.also.map dateText)) := by
  have e : Cl01.part ON (r.weekdays.map (fun n => MO.getD n []) ++ r.items.map itemText) = Cl01.part ON (r.weekdays.map fun n => MO.getD n []) ++ Cl01.part ON (r.items.map itemText) := by
    by_cases c : r.freq < 2
    · rw [(ok.w0 c).1, List.map_nil, List.append_nil]
      show _ = _ ++ []
      rw [List.append_nil]
    · rw [ok.w2 (by omega)]
      rfl
  unfold Cl01.text
  rw [e]
  simp only [List.append_assoc, List.singleton_append, List.cons_append, List.nil_append]
  rfl
theorem dateText_len (n : Nat) : (dateText n).length = 10 := rfl
theorem item_len {i : Cl01.Item} (ok : ItOk i) : (itemText i).length ≤ 10 := by
  unfold itemText
  have h1 := num_len i.k (by have := ok.k31; omega)
  have h2 : (if i.sort % 2 = 1 then [45] else ([] : List Nat)).length ≤ 1 := by split <;> simp
  have h3 : (if i.sort < 2 then [] else MO.getD i.w []).length ≤ 2 := by
    split
    · simp
    · rw [mo_len ok.w7]; exact Nat.le_refl 2
  rw [List.length_append, List.length_append]
  omega
def sp_two_figures : Sp := fun vs H Q _ => ∃ n : Nat, vs = [.int (n : Int)] ∧ n < 100 ∧ Q (sv (two n)) H
section
variable {P : Program} {w : World} {K : PySem.W.Frag} {mg : Str → Option Value} {base : Heap}
theorem sc_two_figures : FnScope ["number"] ["number"] (defScope s_two_figures) := ⟨rfl, rfl, rfl, by decide +kernel, rfl, by decide +kernel, by decide +kernel⟩
theorem ok_two_figures (T : Tx K mg) : DefOk P w K mg base CX0 1 "two_figures" ["number"] sp_two_figures := by
  obtain ⟨fd, F⟩ := T.f_two_figures
  refine ⟨⟨fd, F.ok sc_two_figures (fun vs H Q E h => ?_) (fun cdv A outer s H vs Q E hr h => ?_), F.bindsN fun _ _ _ _ _ _ us hl => match us, hl with | [_], _ => rfl⟩, F.kp, T.g_two_figures⟩
  · obtain ⟨n, rfl, _⟩ := h
    rfl
  · refine ⟨_, PSs.nox (pss_one (ps_ret (pe_m1 PySem.F.slot_str_zfill PySem.F.type_str_zfill mt_zfill (pe_callTy call_str_int (by rfl) T.b_str (by decide +kernel) (pa_cons (pv 0) pa_nil)) pe_int))), ?_⟩
    clear F hr
    obtain ⟨n, rfl, hn, hQ⟩ := h
    walk_at "w"
    refine ⟨_, rfl, log_small n (by omega), ?_⟩
    walk_at "w"
    refine ⟨_, _, rfl, rfl, rfl, ?_⟩
    walk_at "w"
    rw [zfill_two n hn]
    exact hQ
end

def sp_date_text : Sp := fun vs H Q _ => ∃ n : Nat, vs = [.int (n : Int)] ∧ n < 36525 ∧ ∀ H', Same H H' → Q (sv (dateText n)) H' 
section
variable {P : Program} {w : World} {K : PySem.W.Frag} {mg : Str → Option Value} {base : Heap}
theorem sc_date_text : FnScope ["day", "year", "month", "of_month"] ["day"] (defScope s_date_text) := ⟨rfl, rfl, rfl, by decide +kernel, rfl, by decide +kernel, by decide +kernel⟩
theorem ok_date_text (T : Tx K mg) : DefOk P w K mg base CX0 5 "date_text" ["day"] sp_date_text := by
  obtain ⟨fd, F⟩ := T.f_date_text
  refine ⟨⟨fd, F.ok sc_date_text (fun vs H Q E h => ?_) (fun cdv A outer s H vs Q E hr h => ?_), F.bindsN fun _ _ _ _ _ _ us hl => match us, hl with | [_], _ => rfl⟩, F.kp, T.g_date_text⟩
  · obtain ⟨n, rfl, _⟩ := h
    rfl
  · refine ⟨_, PSs.nox (pss_cons (ps_asg (pe_fn (ok_date_of T) (hr.mono (by decide)) (by rfl) pass0 (pa_cons (pv 0) pa_nil)) (pg_tup rfl (pgs_cons (pg_name (i := 1) sc_date_text.nd rfl (by first | exact Or.inl rfl | exact Or.inr rfl)) (pgs_cons (pg_name (i := 2) sc_date_text.nd rfl (by first | exact Or.inl rfl | exact Or.inr rfl)) (pgs_cons (pg_name (i := 3) sc_date_text.nd rfl (by first | exact Or.inl rfl | exact Or.inr rfl)) pgs_nil)))))
      (pss_one (ps_ret (pe_joined (.cons (pe_fmt (pv 1)) (.cons pe_str (.cons (pe_fmt (pe_fn (ok_two_figures T) (hr.mono (by decide)) (by rfl) pass0 (pa_cons (pv 2) pa_nil))) (.cons pe_str (.cons (pe_fmt (pe_fn (ok_two_figures T) (hr.mono (by decide)) (by rfl) pass0 (pa_cons (pv 3) pa_nil))) .nil))))))))), ?_⟩
    clear F hr
    obtain ⟨n, rfl, hn, hQ⟩ := h
    have hy := yearOf_lt hn
    have hm := monthOf_le n
    have hd := domOf_le31 n
    have big := sline
    walk_at "w"
    refine ⟨n, rfl, hn, fun p hp => ?_⟩
    walk_at "w"
    refine w_gtup (SqT.of upd_same) rfl ?_
    walk_at "w"
    refine .inr ⟨_, rfl, by rw [show (2000 + ((yearOf n : Nat) : Int)) = ((2000 + yearOf n : Nat) : Int) by omega]; exact log_small _ (by omega), ?_⟩
    rw [year_text _ hy]
    refine ⟨_, rfl, by rw [show Str.empty = S [] from rfl, SX.S_cat, SX.S_len]; simp only [List.length_append, List.length_cons, List.length_nil, two_len]; omega, ?_⟩
    rw [show Str.empty = S [] from rfl, SX.S_cat]
    walk_at "w"
    refine ⟨_, rfl, by rw [show ("-" : Str) = S [45] from rfl, SX.S_cat, SX.S_len]; simp only [List.length_append, List.length_cons, List.length_nil, two_len]; omega, ?_⟩
    rw [show ("-" : Str) = S [45] from rfl, SX.S_cat]
    walk_at "w"
    refine ⟨_, rfl, by omega, ?_⟩
    refine .inl ⟨_, rfl, by rw [SX.S_len, two_len]; omega, ?_⟩
    refine ⟨_, rfl, by rw [SX.S_cat, SX.S_len]; simp only [List.length_append, List.length_cons, List.length_nil, two_len]; omega, ?_⟩
    rw [SX.S_cat]
    walk_at "w"
    refine ⟨_, rfl, by rw [SX.S_cat, SX.S_len]; simp only [List.length_append, List.length_cons, List.length_nil, two_len]; omega, ?_⟩
    rw [SX.S_cat]
    walk_at "w"
    refine ⟨_, rfl, by omega, ?_⟩
    refine .inl ⟨_, rfl, by rw [SX.S_len, two_len]; omega, ?_⟩
    refine ⟨_, rfl, by rw [SX.S_cat, SX.S_len]; simp only [List.length_append, List.length_cons, List.length_nil, two_len]; omega, ?_⟩
    rw [SX.S_cat]
    walk_at "w"
    have e : [] ++ ([50, 48] ++ two (yearOf n)) ++ [45] ++ two (monthOf n) ++ [45] ++ two (domOf n) = dateText n := by
      unfold dateText
      simp
    rw [e]
    exact hQ _ (same_upd hp)
end

def sp_pick_text (K : PySem.W.Frag) : Sp := fun vs H Q _ => ∃ (a : Addr) (i : Cl01.Item), vs = [.ref a] ∧ SqT K H a (itV i) ∧ ItOk i ∧ Q (sv (itemText i)) H
section
variable {P : Program} {w : World} {K : PySem.W.Frag} {mg : Str → Option Value} {base : Heap}
theorem sc_pick_text : FnScope ["pick", "side", "k", "weekday"] ["pick"] (defScope s_pick_text) := ⟨rfl, rfl, rfl, by decide +kernel, rfl, by decide +kernel, by decide +kernel⟩
theorem ok_pick_text (T : Tx K mg) : DefOk P w K mg base CX0 1 "pick_text" ["pick"] (sp_pick_text K) := by
  obtain ⟨fd, F⟩ := T.f_pick_text
  refine ⟨⟨fd, F.ok sc_pick_text (fun vs H Q E h => ?_) (fun cdv A outer s H vs Q E hr h => ?_), F.bindsN fun _ _ _ _ _ _ us hl => match us, hl with | [_], _ => rfl⟩, F.kp, T.g_pick_text⟩
  · obtain ⟨a, i, rfl, _⟩ := h
    rfl
  · refine ⟨_, PSs.nox (pss_cons (ps_asg (pv 0) (pg_tup rfl (pgs_cons (pg_name (i := 1) sc_pick_text.nd rfl (by first | exact Or.inl rfl | exact Or.inr rfl)) (pgs_cons (pg_name (i := 2) sc_pick_text.nd rfl (by first | exact Or.inl rfl | exact Or.inr rfl)) (pgs_cons (pg_name (i := 3) sc_pick_text.nd rfl (by first | exact Or.inl rfl | exact Or.inr rfl)) pgs_nil)))))
      (pss_cons (ps_if (pt_cmpR op_eq (pv 1) (pe_gi T.i_DAY_rule (by rfl)) (nomark _)) (pss_one (ps_ret (pe_joined1 (pe_fmt (pv 2))))) pss_nil)
      (pss_cons (ps_if (pt_cmpR op_eq (pv 1) (pe_gi T.i_DAY_FROM_END (by rfl)) (nomark _)) (pss_one (ps_ret (pe_joined (.cons pe_str (.cons (pe_fmt (pv 2)) .nil))))) pss_nil)
      (pss_cons (ps_if (pt_cmpR op_eq (pv 1) (pe_gi T.i_WEEKDAY (by rfl)) (nomark _)) (pss_one (ps_ret (pe_joined (.cons (pe_fmt (pv 2)) (.cons (pe_fmt (pe_ix (ix_tupK (K := K) rfl) (pe_gr T.g_WEEKDAYS (by rfl)) (pv 3) (fun _ _ => rfl))) .nil))))) pss_nil)
      (pss_one (ps_ret (pe_joined (.cons pe_str (.cons (pe_fmt (pv 2)) (.cons (pe_fmt (pe_ix (ix_tupK (K := K) rfl) (pe_gr T.g_WEEKDAYS (by rfl)) (pv 3) (fun _ _ => rfl))) .nil)))))))))), ?_⟩
    clear F hr
    obtain ⟨a, i, rfl, hS, ok, hQ⟩ := h
    obtain ⟨hs, k1, k31, k5, w7, w0⟩ := ok
    obtain ⟨s, k, w'⟩ := i
    dsimp only at hs k1 k31 k5 w7 w0
    have big := sline
    walk_at "w"
    refine w_gtup hS rfl ?_
    dsimp only [itV]
    walk_at "w"
    have hk : Str.ofString (toString ((k : Nat) : Int)) = S (digitsOf 4 k) := str_num k (by omega)
    have lk := num_len k (by omega)
    refine w_cases (fun c => ?_) (fun c => ?_)
    · walk_at "w"
      refine .inr ⟨_, rfl, log_small k (by omega), ?_⟩
      rw [hk]
      obtain rfl : s = 0 := by omega
      have e : itemText ⟨0, k, w'⟩ = digitsOf 4 k := by
        show [] ++ (digitsOf 4 k ++ []) = _
        simp
      rw [e] at hQ
      exact hQ
    walk_at "w"
    refine w_cases (fun c => ?_) (fun c => ?_)
    · walk_at "w"
      refine ⟨_, rfl, by rw [show ("-" : Str) = S [45] from rfl, show Str.empty = S [] from rfl, SX.S_cat, SX.S_len]; simp only [List.length_append, List.length_cons, List.length_nil]; omega, ?_⟩
      rw [show ("-" : Str) = S [45] from rfl, show Str.empty = S [] from rfl, SX.S_cat]
      walk_at "w"
      refine .inr ⟨_, rfl, log_small k (by omega), ?_⟩
      rw [hk]
      refine ⟨_, rfl, by rw [SX.S_cat, SX.S_len]; simp only [List.length_append, List.length_cons, List.length_nil]; omega, ?_⟩
      rw [SX.S_cat]
      walk_at "w"
      obtain rfl : s = 1 := by omega
      have e : itemText ⟨1, k, w'⟩ = [] ++ [45] ++ digitsOf 4 k := by
        show [45] ++ (digitsOf 4 k ++ []) = _
        simp
      rw [e] at hQ
      exact hQ
    walk_at "w"
    refine w_cases (fun c => ?_) (fun c => ?_)
    · walk_at "w"
      refine .inr ⟨_, rfl, log_small k (by omega), ?_⟩
      rw [hk]
      refine ⟨_, rfl, by rw [show Str.empty = S [] from rfl, SX.S_cat, SX.S_len]; simp only [List.length_append, List.length_cons, List.length_nil]; omega, ?_⟩
      rw [show Str.empty = S [] from rfl, SX.S_cat]
      walk_at "w"
      refine w_ixt (T.t_WEEKDAYS H) (wd_at w7) ?_
      refine .inl ⟨_, rfl, by rw [SX.S_len, mo_len w7]; omega, ?_⟩
      refine ⟨_, rfl, by rw [SX.S_cat, SX.S_len]; simp only [List.length_append, List.length_cons, List.length_nil, mo_len w7]; omega, ?_⟩
      rw [SX.S_cat]
      walk_at "w"
      obtain rfl : s = 2 := by omega
      have e : itemText ⟨2, k, w'⟩ = [] ++ digitsOf 4 k ++ MO.getD w' [] := by
        simp [itemText]
      rw [e] at hQ
      exact hQ
    · walk_at "w"
      refine ⟨_, rfl, by rw [show ("-" : Str) = S [45] from rfl, show Str.empty = S [] from rfl, SX.S_cat, SX.S_len]; simp only [List.length_append, List.length_cons, List.length_nil]; omega, ?_⟩
      rw [show ("-" : Str) = S [45] from rfl, show Str.empty = S [] from rfl, SX.S_cat]
      walk_at "w"
      refine .inr ⟨_, rfl, log_small k (by omega), ?_⟩
      rw [hk]
      refine ⟨_, rfl, by rw [SX.S_cat, SX.S_len]; simp only [List.length_append, List.length_cons, List.length_nil]; omega, ?_⟩
      rw [SX.S_cat]
      walk_at "w"
      refine w_ixt (T.t_WEEKDAYS H) (wd_at w7) ?_
      refine .inl ⟨_, rfl, by rw [SX.S_len, mo_len w7]; omega, ?_⟩
      refine ⟨_, rfl, by rw [SX.S_cat, SX.S_len]; simp only [List.length_append, List.length_cons, List.length_nil, mo_len w7]; omega, ?_⟩
      rw [SX.S_cat]
      walk_at "w"
      obtain rfl : s = 3 := by omega
      have e : itemText ⟨3, k, w'⟩ = [] ++ [45] ++ digitsOf 4 k ++ MO.getD w' [] := by
        simp [itemText]
      rw [e] at hQ
      exact hQ
end

def sp_part (K : PySem.W.Frag) : Sp := fun vs H Q _ => ∃ (k : List Nat) (a : Addr) (l : List (List Nat)), vs = [sv k, .ref a] ∧ SqL K H a (l.map sv) ∧ (l.map fun x => x.length).sum + l.length ≤ 16000000 ∧
  ∀ p H', H p = none → Same H H' → H' p = some (.lst ((Cl01.part k l).map sv)) → Q (.ref p) H' 
section
variable {P : Program} {w : World} {K : PySem.W.Frag} {mg : Str → Option Value} {base : Heap}
theorem sc_part : FnScope ["name", "things"] ["name", "things"] (defScope s_part) := ⟨rfl, rfl, rfl, by decide +kernel, rfl, by decide +kernel, by decide +kernel⟩
theorem ok_part (T : Tx K mg) : DefOk P w K mg base CX0 1 "part" ["name", "things"] (sp_part K) := by
  obtain ⟨fd, F⟩ := T.f_part
  refine ⟨⟨fd, F.ok sc_part (fun vs H Q E h => ?_) (fun cdv A outer s H vs Q E hr h => ?_), F.bindsN fun _ _ _ _ _ _ us hl => match us, hl with | [_, _], _ => rfl⟩, F.kp, T.g_part⟩
  · obtain ⟨k, a, l, rfl, _⟩ := h
    rfl
  · refine ⟨_, PSs.nox (pss_cons (ps_if (pt_cmpR op_eq (pe_callB (len_seqK (K := K) rfl) (by rfl) T.b_len (by decide +kernel) (pa_cons (pv 1) pa_nil)) pe_int (nomark _)) (pss_one (ps_ret (pe_lst pa_nil))) pss_nil)
      (pss_one (ps_ret (pe_lst (pa_cons (pv 0) (pa_cons (pe_join pe_str (pv 1)) pa_nil)))))), ?_⟩
    clear F hr
    obtain ⟨k, a, l, rfl, hS, hz, hQ⟩ := h
    walk_at "w"
    refine ⟨_, _, rfl, .inl hS, ?_⟩
    walk_at "w"
    rw [List.length_map]
    refine w_cases (fun c => ?_) (fun c => ?_)
    · walk_at "w"
      intro p hp
      obtain rfl : l = [] := List.length_eq_zero_iff.mp (by omega)
      exact hQ p _ hp (same_upd hp) upd_same
    · walk_at "w"
      refine ⟨S [44], a, l.map S, rfl, rfl, .inl (by rw [← sv_strs]; exact hS), by rw [SX.lens, List.length_map, SX.S_len]; simp; omega, ?_⟩
      rw [join_eq]
      walk_at "w"
      intro p hp
      have e : Cl01.part k l = [k, joined 44 l] := by
        unfold Cl01.part
        rw [if_neg]
        cases l with
        | nil => simp at c
        | cons x r => simp
      refine hQ p _ hp (same_upd hp) ?_
      rw [e]
      exact upd_same
end

def sp_step_part (K : PySem.W.Frag) : Sp := fun vs H Q _ => ∃ (a : Addr) (r : Cl01.Rule), vs = [.ref a] ∧ RuleAt K H a r ∧ ROk r ∧
  ∀ p H', H p = none → Same H H' → H' p = some (.lst ((if r.by_ = 1 then [] else [BY, digitsOf 4 r.by_]).map sv)) → Q (.ref p) H' 
section
variable {P : Program} {w : World} {K : PySem.W.Frag} {mg : Str → Option Value} {base : Heap}
theorem sc_step_part : FnScope ["rule"] ["rule"] (defScope s_step_part) := ⟨rfl, rfl, rfl, by decide +kernel, rfl, by decide +kernel, by decide +kernel⟩
theorem ok_step_part (T : Tx K mg) : DefOk P w K mg base CX0 1 "step_part" ["rule"] (sp_step_part K) := by
  obtain ⟨fd, F⟩ := T.f_step_part
  refine ⟨⟨fd, F.ok sc_step_part (fun vs H Q E h => ?_) (fun cdv A outer s H vs Q E hr h => ?_), F.bindsN fun _ _ _ _ _ _ us hl => match us, hl with | [_], _ => rfl⟩, F.kp, T.g_step_part⟩
  · obtain ⟨a, r, rfl, _⟩ := h
    rfl
  · refine ⟨_, PSs.nox (pss_cons (ps_if (pt_cmpR op_eq (pe_fldK (K := K) rfl (pv 0) rfl) pe_int (nomark _)) (pss_one (ps_ret (pe_lst pa_nil))) pss_nil)
      (pss_one (ps_ret (pe_lst (pa_cons pe_str (pa_cons (pe_callTy call_str_int (by rfl) T.b_str (by decide +kernel) (pa_cons (pe_fldK (K := K) rfl (pv 0) rfl) pa_nil)) pa_nil)))))), ?_⟩
    clear F hr
    obtain ⟨a, r, rfl, hR, ok, hQ⟩ := h
    obtain ⟨dx, wd, it, ms, nt, al, ts, hA, _⟩ := hR.ex
    have hb := ok.by99
    walk_at "w"
    refine w_r_step T hA ?_
    walk_at "w"
    refine w_cases (fun c => ?_) (fun c => ?_)
    · walk_at "w"
      intro p hp
      rw [if_pos (by omega)] at hQ
      exact hQ p _ hp (same_upd hp) upd_same
    · walk_at "w"
      refine w_r_step T hA ?_
      walk_at "w"
      refine ⟨_, rfl, log_small _ (by omega), ?_⟩
      rw [str_num _ (by omega)]
      walk_at "w"
      intro p hp
      rw [if_neg (by omega)] at hQ
      exact hQ p _ hp (same_upd hp) upd_same
end

def sp_end_part (K : PySem.W.Frag) : Sp := fun vs H Q _ => ∃ (a : Addr) (r : Cl01.Rule), vs = [.ref a] ∧ RuleAt K H a r ∧ ROk r ∧
  ∀ p H', H p = none → Same H H' → H' p = some (.lst ((match r.halt_ with
    | 0 => []
    | 1 => [UNTIL, dateText r.last]
    | _ => [TIMES, digitsOf 4 r.last]).map sv)) → Q (.ref p) H' 
section
variable {P : Program} {w : World} {K : PySem.W.Frag} {mg : Str → Option Value} {base : Heap}
theorem sc_end_part : FnScope ["rule"] ["rule"] (defScope s_end_part) := ⟨rfl, rfl, rfl, by decide +kernel, rfl, by decide +kernel, by decide +kernel⟩
theorem ok_end_part (T : Tx K mg) : DefOk P w K mg base CX0 6 "end_part" ["rule"] (sp_end_part K) := by
  obtain ⟨fd, F⟩ := T.f_end_part
  refine ⟨⟨fd, F.ok sc_end_part (fun vs H Q E h => ?_) (fun cdv A outer s H vs Q E hr h => ?_), F.bindsN fun _ _ _ _ _ _ us hl => match us, hl with | [_], _ => rfl⟩, F.kp, T.g_end_part⟩
  · obtain ⟨a, r, rfl, _⟩ := h
    rfl
  · refine ⟨_, PSs.nox (pss_cons (ps_if (pt_cmpR op_ge (pe_fldK (K := K) rfl (pv 0) rfl) pe_int (nomark _)) (pss_one (ps_ret (pe_lst (pa_cons pe_str (pa_cons (pe_fn (ok_date_text T) (hr.mono (by decide)) (by rfl) pass0 (pa_cons (pe_fldK (K := K) rfl (pv 0) rfl) pa_nil)) pa_nil))))) pss_nil)
      (pss_cons (ps_if (pt_cmpR op_gt (pe_fldK (K := K) rfl (pv 0) rfl) pe_int (nomark _)) (pss_one (ps_ret (pe_lst (pa_cons pe_str (pa_cons (pe_callTy call_str_int (by rfl) T.b_str (by decide +kernel) (pa_cons (pe_fldK (K := K) rfl (pv 0) rfl) pa_nil)) pa_nil))))) pss_nil)
      (pss_one (ps_ret (pe_lst pa_nil))))), ?_⟩
    clear F hr
    obtain ⟨a, r, rfl, hR, ok, hQ⟩ := h
    obtain ⟨dx, wd, it, ms, nt, al, ts, hA, _⟩ := hR.ex
    have h3 := ok.halt
    have hu := ok.until_
    have ht := ok.times
    walk_at "w"
    refine w_r_until T hA ?_
    walk_at "w"
    refine w_cases (fun c => ?_) (fun c => ?_)
    · have e1 : r.halt_ = 1 := by
        by_cases z : r.halt_ = 1
        · exact z
        · rw [if_neg z] at c
          omega
      walk_at "w"
      refine w_r_until T hA ?_
      rw [if_pos e1]
      walk_at "w"
      refine ⟨r.last, rfl, hu e1, fun H1 s1 => ?_⟩
      walk_at "w"
      intro p hp
      rw [e1] at hQ
      exact hQ p _ (Same.free s1 hp) (same_mut s1 (Same.free s1 hp)) upd_same
    · have e1 : ¬ r.halt_ = 1 := fun z => c (by rw [if_pos z]; omega)
      walk_at "w"
      refine w_r_times T hA ?_
      walk_at "w"
      refine w_cases (fun c2 => ?_) (fun c2 => ?_)
      · have e2 : r.halt_ = 2 := by
          by_cases z : r.halt_ = 2
          · exact z
          · rw [if_neg z] at c2
            omega
        walk_at "w"
        refine w_r_times T hA ?_
        rw [if_pos e2]
        walk_at "w"
        have := ht e2
        refine ⟨_, rfl, log_small _ (by omega), ?_⟩
        rw [str_num _ (by omega)]
        walk_at "w"
        intro p hp
        rw [e2] at hQ
        exact hQ p _ hp (same_upd hp) upd_same
      · have e0 : r.halt_ = 0 := by
          by_cases z : r.halt_ = 2
          · have := ht z
            rw [if_pos z] at c2
            omega
          · omega
        walk_at "w"
        intro p hp
        rw [e0] at hQ
        exact hQ p _ hp (same_upd hp) upd_same
end

def sp_rule_text (K : PySem.W.Frag) : Sp := fun vs H Q _ => ∃ (a : Addr) (r : Cl01.Rule), vs = [.ref a] ∧ RuleAt K H a r ∧ ROk r ∧ ∀ H', Same H H' → Q (sv (Cl01.text r)) H' 
section
variable {P : Program} {w : World} {K : PySem.W.Frag} {mg : Str → Option Value} {base : Heap}
theorem sc_rule_text : FnScope ["rule", "words", "weekday", "pick", "month", "day"] ["rule"] (defScope s_rule_text) := ⟨rfl, rfl, rfl, by decide +kernel, rfl, by decide +kernel, by decide +kernel⟩
theorem ok_rule_text (T : Tx K mg) : DefOk P w K mg base CX0 7 "rule_text" ["rule"] (sp_rule_text K) := by
  obtain ⟨fd, F⟩ := T.f_rule_text
  refine ⟨⟨fd, F.ok sc_rule_text (fun vs H Q E h => ?_) (fun cdv A outer s H vs Q E hr h => ?_), F.bindsN fun _ _ _ _ _ _ us hl => match us, hl with | [_], _ => rfl⟩, F.kp, T.g_rule_text⟩
  · obtain ⟨a, r, rfl, _⟩ := h
    rfl
  · refine ⟨_, PSs.nox (pss_cons (ps_set (i := 1) sc_rule_text.nd rfl (by first | exact Or.inl rfl | exact Or.inr rfl) (pe_lst (pa_cons (pe_fldK (K := K) rfl (pv 0) rfl) pa_nil)))
      (pss_cons (ps_expr (pe_bm PySem.F.plainAttrs_list PySem.F.slot_list_extend PySem.F.type_list_extend mt_extend (pv 1) (pa_cons (pe_fn (ok_step_part T) (hr.mono (by decide)) (by rfl) pass0 (pa_cons (pv 0) pa_nil)) pa_nil)))
      (pss_cons (ps_expr (pe_bm PySem.F.plainAttrs_list PySem.F.slot_list_extend PySem.F.type_list_extend mt_extend (pv 1) (pa_cons (pe_fn (ok_part T) (hr.mono (by decide)) (by rfl) pass0 (pa_cons pe_str (pa_cons (pe_lc (own := [("weekday", 2)]) (g := gName 2) (tt := tYes) rfl sc_rule_text.nd (pi_list (pe_fldK (K := K) rfl (pv 0) rfl)) (blkOk_by (N := ["rule", "words", "weekday", "pick", "month", "day"]) (sc := defScope s_rule_text) (by decide +kernel)) (fun _ _ _ _ _ => pg_name (i := 2) sc_rule_text.nd rfl (Or.inl rfl)) (fun _ _ _ _ _ => pts_nil) (fun _ _ _ _ _ => (pe_ix (ix_tupK (K := K) rfl) (pe_gr T.g_WEEKDAYS (by rfl)) (pv 2) (fun _ _ => rfl)))) pa_nil))) pa_nil)))
      (pss_cons (ps_expr (pe_bm PySem.F.plainAttrs_list PySem.F.slot_list_extend PySem.F.type_list_extend mt_extend (pv 1) (pa_cons (pe_fn (ok_part T) (hr.mono (by decide)) (by rfl) pass0 (pa_cons pe_str (pa_cons (pe_lc (own := [("pick", 3)]) (g := gName 3) (tt := tYes) rfl sc_rule_text.nd (pi_list (pe_fldK (K := K) rfl (pv 0) rfl)) (blkOk_by (N := ["rule", "words", "weekday", "pick", "month", "day"]) (sc := defScope s_rule_text) (by decide +kernel)) (fun _ _ _ _ _ => pg_name (i := 3) sc_rule_text.nd rfl (Or.inl rfl)) (fun _ _ _ _ _ => pts_nil) (fun _ _ _ _ _ => (pe_fn (ok_pick_text T) (hr.mono (by decide)) (by rfl) pass0 (pa_cons (pv 3) pa_nil)))) pa_nil))) pa_nil)))
      (pss_cons (ps_expr (pe_bm PySem.F.plainAttrs_list PySem.F.slot_list_extend PySem.F.type_list_extend mt_extend (pv 1) (pa_cons (pe_fn (ok_part T) (hr.mono (by decide)) (by rfl) pass0 (pa_cons pe_str (pa_cons (pe_lc (own := [("month", 4)]) (g := gName 4) (tt := tYes) rfl sc_rule_text.nd (pi_list (pe_fldK (K := K) rfl (pv 0) rfl)) (blkOk_by (N := ["rule", "words", "weekday", "pick", "month", "day"]) (sc := defScope s_rule_text) (by decide +kernel)) (fun _ _ _ _ _ => pg_name (i := 4) sc_rule_text.nd rfl (Or.inl rfl)) (fun _ _ _ _ _ => pts_nil) (fun _ _ _ _ _ => (pe_callTy call_str_int (by rfl) T.b_str (by decide +kernel) (pa_cons (pv 4) pa_nil)))) pa_nil))) pa_nil)))
      (pss_cons (ps_expr (pe_bm PySem.F.plainAttrs_list PySem.F.slot_list_extend PySem.F.type_list_extend mt_extend (pv 1) (pa_cons (pe_lst (pa_cons pe_str (pa_cons (pe_fn (ok_date_text T) (hr.mono (by decide)) (by rfl) pass0 (pa_cons (pe_fldK (K := K) rfl (pv 0) rfl) pa_nil)) pa_nil))) pa_nil)))
      (pss_cons (ps_expr (pe_bm PySem.F.plainAttrs_list PySem.F.slot_list_extend PySem.F.type_list_extend mt_extend (pv 1) (pa_cons (pe_fn (ok_end_part T) (hr.mono (by decide)) (by rfl) pass0 (pa_cons (pv 0) pa_nil)) pa_nil)))
      (pss_cons (ps_expr (pe_bm PySem.F.plainAttrs_list PySem.F.slot_list_extend PySem.F.type_list_extend mt_extend (pv 1) (pa_cons (pe_fn (ok_part T) (hr.mono (by decide)) (by rfl) pass0 (pa_cons pe_str (pa_cons (pe_lc (own := [("day", 5)]) (g := gName 5) (tt := tYes) rfl sc_rule_text.nd (pi_list (pe_fldK (K := K) rfl (pv 0) rfl)) (blkOk_by (N := ["rule", "words", "weekday", "pick", "month", "day"]) (sc := defScope s_rule_text) (by decide +kernel)) (fun _ _ _ _ _ => pg_name (i := 5) sc_rule_text.nd rfl (Or.inl rfl)) (fun _ _ _ _ _ => pts_nil) (fun _ _ _ _ _ => (pe_fn (ok_date_text T) (hr.mono (by decide)) (by rfl) pass0 (pa_cons (pv 5) pa_nil)))) pa_nil))) pa_nil)))
      (pss_cons (ps_expr (pe_bm PySem.F.plainAttrs_list PySem.F.slot_list_extend PySem.F.type_list_extend mt_extend (pv 1) (pa_cons (pe_fn (ok_part T) (hr.mono (by decide)) (by rfl) pass0 (pa_cons pe_str (pa_cons (pe_lc (own := [("day", 5)]) (g := gName 5) (tt := tYes) rfl sc_rule_text.nd (pi_list (pe_fldK (K := K) rfl (pv 0) rfl)) (blkOk_by (N := ["rule", "words", "weekday", "pick", "month", "day"]) (sc := defScope s_rule_text) (by decide +kernel)) (fun _ _ _ _ _ => pg_name (i := 5) sc_rule_text.nd rfl (Or.inl rfl)) (fun _ _ _ _ _ => pts_nil) (fun _ _ _ _ _ => (pe_fn (ok_date_text T) (hr.mono (by decide)) (by rfl) pass0 (pa_cons (pv 5) pa_nil)))) pa_nil))) pa_nil)))
      (pss_one (ps_ret (pe_join pe_str (pv 1))))))))))))), ?_⟩
    clear F hr
    obtain ⟨a, r, rfl, hR, ok, hQ⟩ := h
    have hR0 := hR
    obtain ⟨dx, wd, it, ms, nt, al, ts, hA, hwd, hit, hI, hms, hnt, hal⟩ := hR.ex
    have big : (16000000 : Nat) ≤ sizeLine := by decide
    have lwd := ok.lwd
    have lms := ok.lms
    have lit := ok.lit
    have lnt := ok.lnt
    have lal := ok.lal
    have ext : ∀ {H0 H1 : Hp} {w p : Addr} {gs qs : List (List Nat)} {R : L2.St → Hp → Prop} {σ : L2.St}, H w = none → Same H H0 → H0 w = some (.lst (gs.map sv)) → Same H0 H1 → H1 p = some (.lst (qs.map sv)) → gs.length ≤ 100 → qs.length ≤ 100 → (∀ H2, Same H H2 → H2 w = some (.lst ((gs ++ qs).map sv)) → R σ H2) → rExtend (.ref w) [.ref p] H1 fun _ H' => R σ H' := by
      intro H0 H1 w p gs qs R σ hw s0 W0 s1 P1 lg lq k
      refine w_ext (s1 _ _ W0) P1 (by rw [List.length_map, List.length_map]; omega) ?_
      refine k _ (same_mut (Same.trans s0 s1) hw) ?_
      rw [List.map_append]
      exact upd_same
    walk_at "w"
    refine w_r_kind T hA ?_
    walk_at "w"
    intro w hw
    have s0 : Same H (upd H w (.lst [sv (FREQS.getD r.freq [])])) := same_upd hw
    have W0 : upd H w (.lst [sv (FREQS.getD r.freq [])]) w = some (.lst ([FREQS.getD r.freq []].map sv)) := upd_same
    generalize hH0 : upd H w (.lst [V.str (S (FREQS.getD r.freq []))]) = H0
    rw [show upd H w (.lst [sv (FREQS.getD r.freq [])]) = H0 from hH0] at s0 W0
    clear hH0
    walk_at "w"
    refine ⟨.inl ⟨rfl, _, SqL.of W0⟩, ?_⟩
    walk_at "w"
    refine ⟨a, r, rfl, hR.same s0, ok, fun p1 H1 hp1 s1 hd1 => ?_⟩
    walk_at "w"
    generalize h1 : ((if r.by_ = 1 then [] else [BY, digitsOf 4 r.by_]) : List (List Nat)) = q1 at hd1
    have l1 : q1.length ≤ 2 := by rw [← h1]; split <;> simp
    refine ext hw s0 W0 s1 hd1 (by simp) (by omega) fun H2 s2 W2 => ?_
    clear s1 W0 hd1
    walk_at "w"
    refine ⟨.inl ⟨rfl, _, SqL.of W2⟩, ?_⟩
    walk_at "w"
    refine w_r_weekdays T (s2 _ _ hA) ?_
    walk_at "w"
    refine ⟨_, rfl, ⟨_, Same.seq s2 hwd⟩, fun D hD => lc_nats r.weekdays (fun n => sv (MO.getD n [])) (Same.seq s2 hwd) hD (by omega) (fun n hn => ?_) fun H3 s3 d3 => ?_⟩
    · intro H' F G s hF hG
      walk_at "w"
      refine ⟨rfl, ?_⟩
      walk_at "w"
      refine w_ixt (T.t_WEEKDAYS _) (wd_at (ok.wd n hn)) ?_
      exact hF rfl _ (Same.refl _)
    have z3 := part_z (fun n => MO.getD n []) 2 r.weekdays fun n hn => by rw [mo_len (ok.wd n hn)]; exact Nat.le_refl 2
    refine ⟨ON, D, r.weekdays.map fun n => MO.getD n [], rfl, SqL.of (by rw [List.map_map]; exact d3), by omega, fun p4 H4 hp4 s4 d4 => ?_⟩
    walk_at "w"
    have l4 := part_len ON (r.weekdays.map fun n => MO.getD n [])
    have z4 := part_sum ON (r.weekdays.map fun n => MO.getD n [])
    refine ext hw s2 W2 (Same.trans s3 s4) d4 (by simp only [List.length_append, List.length_cons, List.length_nil]; omega) (by omega) fun H5 s5 W5 => ?_
    clear s3 s4 d3 d4 s2 W2 s0
    walk_at "w"
    refine ⟨.inl ⟨rfl, _, SqL.of W5⟩, ?_⟩
    walk_at "w"
    refine w_r_picks T (s5 _ _ hA) ?_
    walk_at "w"
    refine ⟨_, rfl, ⟨_, Same.seq s5 hit⟩, fun D hD => lc_items (fun i => sv (itemText i)) (Same.seq s5 hit) (hI.same s5) hD (by omega) (fun t i hi ht => ?_) fun H3 s3 d3 => ?_⟩
    · intro H' F G s hF hG
      walk_at "w"
      refine ⟨rfl, ?_⟩
      walk_at "w"
      refine ⟨t, i, rfl, Same.tup s ht, ok.it i hi, ?_⟩
      exact hF rfl _ (Same.refl _)
    have z5 := part_z itemText 10 r.items fun n hn => item_len (ok.it n hn)
    refine ⟨ON, D, r.items.map itemText, rfl, SqL.of (by rw [List.map_map]; exact d3), by omega, fun p4 H4 hp4 s4 d4 => ?_⟩
    walk_at "w"
    have l6 := part_len ON (r.items.map itemText)
    have z6 := part_sum ON (r.items.map itemText)
    refine ext hw s5 W5 (Same.trans s3 s4) d4 (by simp only [List.length_append, List.length_cons, List.length_nil]; omega) (by omega) fun H6 s6 W6 => ?_
    clear s3 s4 d3 d4 s5 W5
    walk_at "w"
    refine ⟨.inl ⟨rfl, _, SqL.of W6⟩, ?_⟩
    walk_at "w"
    refine w_r_months T (s6 _ _ hA) ?_
    walk_at "w"
    refine ⟨_, rfl, ⟨_, Same.seq s6 hms⟩, fun D hD => lc_nats r.months (fun n => sv (digitsOf 4 n)) (Same.seq s6 hms) hD (by omega) (fun n hn => ?_) fun H3 s3 d3 => ?_⟩
    · intro H' F G s hF hG
      have := ok.ms n hn
      walk_at "w"
      refine ⟨rfl, ?_⟩
      walk_at "w"
      refine ⟨_, rfl, log_small _ (by omega), ?_⟩
      rw [str_num _ (by omega)]
      exact hF rfl _ (Same.refl _)
    have z7 := part_z (digitsOf 4) 4 r.months fun n hn => num_len n (by have := ok.ms n hn; omega)
    refine ⟨IN, D, r.months.map (digitsOf 4), rfl, SqL.of (by rw [List.map_map]; exact d3), by omega, fun p4 H4 hp4 s4 d4 => ?_⟩
    walk_at "w"
    have l7 := part_len IN (r.months.map (digitsOf 4))
    have z7' := part_sum IN (r.months.map (digitsOf 4))
    refine ext hw s6 W6 (Same.trans s3 s4) d4 (by simp only [List.length_append, List.length_cons, List.length_nil]; omega) (by omega) fun H7 s7 W7 => ?_
    clear s3 s4 d3 d4 s6 W6
    walk_at "w"
    refine ⟨.inl ⟨rfl, _, SqL.of W7⟩, ?_⟩
    walk_at "w"
    refine w_r_first_day T (s7 _ _ hA) ?_
    walk_at "w"
    refine ⟨r.start, rfl, ok.start, fun H8 s8 => ?_⟩
    walk_at "w"
    intro p8 hp8
    walk_at "w"
    refine ext (qs := [FROM, dateText r.start]) hw s7 W7 (Same.trans s8 (same_upd hp8)) upd_same (by simp only [List.length_append, List.length_cons, List.length_nil]; omega) (by simp) fun H9 s9 W9 => ?_
    clear s8 s7 W7 hp8
    walk_at "w"
    refine ⟨.inl ⟨rfl, _, SqL.of W9⟩, ?_⟩
    walk_at "w"
    refine ⟨a, r, rfl, hR.same s9, ok, fun p10 H10 hp10 s10 d10 => ?_⟩
    walk_at "w"
    generalize h10 : ((match r.halt_ with
        | 0 => []
        | 1 => [UNTIL, dateText r.last]
        | _ => [TIMES, digitsOf 4 r.last]) : List (List Nat)) = q10 at d10
    have l10 : q10.length ≤ 2 ∧ (q10.map fun x => x.length).sum ≤ 20 := by
      rw [← h10]
      have h3 : r.halt_ = 0 ∨ r.halt_ = 1 ∨ r.halt_ = 2 := by have := ok.halt; omega
      rcases h3 with e | e | e
      · rw [e]
        exact ⟨Nat.zero_le _, Nat.zero_le _⟩
      · rw [e]
        refine ⟨Nat.le_refl 2, ?_⟩
        show UNTIL.length + ((dateText r.last).length + 0) ≤ 20
        rw [dateText_len]
        decide
      · rw [e]
        refine ⟨Nat.le_refl 2, ?_⟩
        show TIMES.length + ((digitsOf 4 r.last).length + 0) ≤ 20
        have := num_len r.last (by have := (ok.times e).2; omega)
        have : TIMES.length = 5 := rfl
        omega
    refine ext hw s9 W9 s10 d10 (by simp only [List.length_append, List.length_cons, List.length_nil]; omega) (by omega) fun H11 s11 W11 => ?_
    clear s9 W9 hp10 s10 d10
    walk_at "w"
    refine ⟨.inl ⟨rfl, _, SqL.of W11⟩, ?_⟩
    walk_at "w"
    refine w_r_without T (s11 _ _ hA) ?_
    walk_at "w"
    refine ⟨_, rfl, ⟨_, Same.seq s11 hnt⟩, fun D hD => lc_nats r.not_ (fun n => sv (dateText n)) (Same.seq s11 hnt) hD (by omega) (fun n hn => ?_) fun H3 s3 d3 => ?_⟩
    · intro H' F G s hF hG
      walk_at "w"
      refine ⟨rfl, ?_⟩
      walk_at "w"
      refine ⟨n, rfl, ok.nt n hn, fun H2 s2 => ?_⟩
      exact hF rfl _ s2
    have z12 := part_z dateText 10 r.not_ fun n hn => by rw [dateText_len]; exact Nat.le_refl 10
    refine ⟨NOT, D, r.not_.map dateText, rfl, SqL.of (by rw [List.map_map]; exact d3), by omega, fun p4 H4 hp4 s4 d4 => ?_⟩
    walk_at "w"
    have l12 := part_len NOT (r.not_.map dateText)
    have z12' := part_sum NOT (r.not_.map dateText)
    refine ext hw s11 W11 (Same.trans s3 s4) d4 (by simp only [List.length_append, List.length_cons, List.length_nil]; omega) (by omega) fun H12 s12 W12 => ?_
    clear s3 s4 d3 d4 s11 W11
    walk_at "w"
    refine ⟨.inl ⟨rfl, _, SqL.of W12⟩, ?_⟩
    walk_at "w"
    refine w_r_also T (s12 _ _ hA) ?_
    walk_at "w"
    refine ⟨_, rfl, ⟨_, Same.seq s12 hal⟩, fun D hD => lc_nats r.also (fun n => sv (dateText n)) (Same.seq s12 hal) hD (by omega) (fun n hn => ?_) fun H3 s3 d3 => ?_⟩
    · intro H' F G s hF hG
      walk_at "w"
      refine ⟨rfl, ?_⟩
      walk_at "w"
      refine ⟨n, rfl, ok.al n hn, fun H2 s2 => ?_⟩
      exact hF rfl _ s2
    have z13 := part_z dateText 10 r.also fun n hn => by rw [dateText_len]; exact Nat.le_refl 10
    refine ⟨ALSO, D, r.also.map dateText, rfl, SqL.of (by rw [List.map_map]; exact d3), by omega, fun p4 H4 hp4 s4 d4 => ?_⟩
    walk_at "w"
    have l13 := part_len ALSO (r.also.map dateText)
    have z13' := part_sum ALSO (r.also.map dateText)
    refine ext hw s12 W12 (Same.trans s3 s4) d4 (by simp only [List.length_append, List.length_cons, List.length_nil]; omega) (by omega) fun H13 s13 W13 => ?_
    clear s3 s4 d3 d4 s12 W12
    walk_at "w"
    have et := text_parts ok
    rw [h1, h10] at et
    have fl := freq_len r.freq
    have q1l : (q1.map fun x => x.length).sum ≤ 10 := by
      rw [← h1]
      split
      · decide
      · have := num_len r.by_ (by have := ok.by99; omega)
        show BY.length + ((digitsOf 4 r.by_).length + 0) ≤ 10
        have : BY.length = 2 := rfl
        omega
    have k1 : ON.length = 2 := rfl
    have k2 : IN.length = 2 := rfl
    have k3 : FROM.length = 4 := rfl
    have k4 : NOT.length = 3 := rfl
    have k5 : ALSO.length = 4 := rfl
    have k6 := dateText_len r.start
    rw [sv_strs] at W13
    refine ⟨S [32], w, _, rfl, rfl, .inl (SqL.of W13), ?_, ?_⟩
    · rw [SX.lens, List.length_map, SX.S_len]
      simp only [List.map_append, List.sum_append, List.length_append, List.map_cons, List.map_nil, List.sum_cons, List.sum_nil, List.length_cons, List.length_nil]
      omega
    · rw [join_eq, ← et]
      exact hQ _ s13
end

end CA
end file_CaM3
section file_CaM4
set_option maxRecDepth 100000
set_option maxHeartbeats 4000000
namespace CA
open PySem PySem.Spec PyProof.Rows L2
open SX (S)
open Cl01 (monthDays monthStart isDate dayOf yearOf monthOf domOf weekday week weekOf)

open Cl01 (two dateText itemText digitsOf joined comes days Item Rule)
theorem dailyM_len {r : Rule} (ok : ROk r) : (dailyM r).length ≤ 40000 := by
  have h1 := List.length_filter_le (fun n => r.weekdays.isEmpty || r.weekdays.contains (weekday n)) ((List.range (dailyCnt r)).map fun k => r.start + k * r.by_)
  rw [List.length_map, List.length_range] at h1
  have h2 := ok.by99
  have h3 : dailyCnt r ≤ 36525 - r.start + r.by_ - 1 := Nat.div_le_self _ _
  unfold dailyM
  omega
theorem flat_len {β : Type} (f : Nat → List β) (B : Nat) (h : ∀ k, (f k).length ≤ B) : ∀ i, ((List.range i).flatMap f).length ≤ B * i
  | 0 => Nat.zero_le _
  | i + 1 => by
    have ih := flat_len f B h i
    have := h i
    rw [List.range_succ, List.flatMap_append, List.length_append, List.flatMap_singleton, Nat.mul_succ]
    omega
theorem flat_succ {β : Type} (f : Nat → List β) (i : Nat) : (List.range (i + 1)).flatMap f = (List.range i).flatMap f ++ f i := by
  rw [List.range_succ, List.flatMap_append, List.flatMap_singleton]
def weeklyOne (r : Rule) (k : Nat) : List Int := (wdsOf r).map fun w : Nat => 7 * ((week r.start : Int) + (k : Int) * (r.by_ : Int)) - 5 + (w : Int)
theorem wdsOf_len {r : Rule} (ok : ROk r) : (wdsOf r).length ≤ 7 := by
  unfold wdsOf
  split
  · exact (by decide : 1 ≤ 7)
  · exact ok.lwd
theorem weeklyCnt_le {r : Rule} (ok : ROk r) : weeklyCnt r ≤ 6000 := by
  have h2 := ok.by99
  have h3 : weeklyCnt r ≤ 5219 - week r.start + r.by_ - 1 := Nat.div_le_self _ _
  omega
theorem monthlyCnt_le {r : Rule} (ok : ROk r) : monthlyCnt r ≤ 2000 := by
  have h2 := ok.by99
  have h3 : monthlyCnt r ≤ 1200 - firstPlace r + r.by_ - 1 := Nat.div_le_self _ _
  omega
theorem yearlyCnt_le {r : Rule} (ok : ROk r) : yearlyCnt r ≤ 200 := by
  have h2 := ok.by99
  have h3 : yearlyCnt r ≤ 100 - yearOf r.start + r.by_ - 1 := Nat.div_le_self _ _
  omega
theorem dailyCnt_le {r : Rule} (ok : ROk r) : dailyCnt r ≤ 40000 := by
  have h2 := ok.by99
  have h3 : dailyCnt r ≤ 36525 - r.start + r.by_ - 1 := Nat.div_le_self _ _
  omega
def sp_daily_days (K : PySem.W.Frag) : Sp := fun vs H Q _ => ∃ (a : Addr) (r : Rule), vs = [.ref a] ∧ RuleAt K H a r ∧ ROk r ∧ ∀ p H', H p = none → Same H H' → H' p = some (.lst (iv (dailyM r))) → Q (.ref p) H' 
section
variable {P : Program} {w : World} {K : PySem.W.Frag} {mg : Str → Option Value} {base : Heap}
theorem sc_daily_days : FnScope ["rule", "days", "day"] ["rule"] (defScope s_daily_days) := ⟨rfl, rfl, rfl, by decide +kernel, rfl, by decide +kernel, by decide +kernel⟩
theorem ok_daily_days (T : Tx K mg) : DefOk P w K mg base CX0 2 "daily_days" ["rule"] (sp_daily_days K) := by
  obtain ⟨fd, F⟩ := T.f_daily_days
  refine ⟨⟨fd, F.ok sc_daily_days (fun vs H Q E h => ?_) (fun cdv A outer s H vs Q E hr h => ?_), F.bindsN fun _ _ _ _ _ _ us hl => match us, hl with | [_], _ => rfl⟩, F.kp, T.g_daily_days⟩
  · obtain ⟨a, r, rfl, _⟩ := h
    rfl
  · refine ⟨_, PSs.nox (pss_cons (ps_set (i := 1) sc_daily_days.nd rfl (by first | exact Or.inl rfl | exact Or.inr rfl) (pe_listRg3 rfl (by rfl) T.b_list (by rfl) T.b_range (pa_cons (pe_fld (pv 0) rfl) (pa_cons (pe_op op_add (pe_gi T.i_LAST_DAY (by rfl)) pe_int) (pa_cons (pe_fld (pv 0) rfl) pa_nil)))))
      (pss_cons (ps_if (pt_cmpR op_eq (pe_callB (len_seqK (K := K) rfl) (by rfl) T.b_len (by decide +kernel) (pa_cons (pe_fldK (K := K) rfl (pv 0) rfl) pa_nil)) pe_int (nomark _)) (pss_one (ps_ret (pv 1))) pss_nil)
      (pss_one (ps_ret (pe_lc (own := [("day", 2)]) (g := gName 2) rfl sc_daily_days.nd (pi_list (pv 1)) (blkOk_by (N := ["rule", "days", "day"]) (sc := defScope s_daily_days) (by decide +kernel)) (fun _ _ _ _ _ => pg_name (i := 2) sc_daily_days.nd rfl (Or.inl rfl)) (fun _ _ _ _ _ => pts_one (pt_cmpR (op_inK (K := K) rfl) (pe_fn (ok_weekday_of T) (hr.mono (by decide)) (by rfl) pass0 (pa_cons (pv 2) pa_nil)) (pe_fldK (K := K) rfl (pv 0) rfl) (by with_unfolding_all rfl))) (fun _ _ _ _ _ => (pv 2))))))), ?_⟩
    clear F hr
    obtain ⟨a, r, rfl, hR, ok, hQ⟩ := h
    obtain ⟨dx, wd, it, ms, nt, al, ts, hA, hwd, hit, hI, hms, hnt, hal⟩ := hR.ex
    have lwd := ok.lwd
    have lms := ok.lms
    have lit := ok.lit
    have b1 := ok.by1
    have b99 := ok.by99
    have hst := ok.start
    have hn := dailyCnt_le ok
    walk_at "w"
    refine w_r_first_day T hA ?_
    walk_at "w"
    refine w_r_step T hA ?_
    walk_at "w"
    refine ⟨(r.start : Int), ((36525 : Nat) : Int), (r.by_ : Int), dailyCnt r, rfl, rgC_pos (by omega) (by omega) (by omega) (by omega), by omega, fun q hq => ?_⟩
    rw [rg3_iv]
    have s1 : Same H (upd H q (.lst (iv ((List.range (dailyCnt r)).map fun k => r.start + k * r.by_)))) := same_upd hq
    have d1 : upd H q (.lst (iv ((List.range (dailyCnt r)).map fun k => r.start + k * r.by_))) q = _ := upd_same
    generalize upd H q (.lst (iv ((List.range (dailyCnt r)).map fun k => r.start + k * r.by_))) = H1 at s1 d1 ⊢
    walk_at "w"
    refine w_r_weekdays T (s1 _ _ hA) ?_
    walk_at "w"
    refine ⟨_, _, rfl, .inl (Same.seq s1 hwd), ?_⟩
    rw [iv_len]
    walk_at "w"
    refine w_cases (fun c => ?_) (fun c => ?_)
    · walk_at "w"
      refine hQ q H1 hq s1 ?_
      rw [d1]
      unfold dailyM
      rw [isEmpty_of_len c]
      exact congrArg (fun l => some (HO.lst (iv l))) (List.filter_eq_self.mpr fun _ _ => rfl).symm
    · walk_at "w"
      refine ⟨_, rfl, ⟨_, SqL.of d1⟩, fun D hD => lc_ext (fun v => match v with | .int i => r.weekdays.contains (weekday i.toNat) | _ => false) (fun v => v) (SqL.of d1) hD (by rw [iv_len, List.length_map, List.length_range]; omega) (fun x hx => ?_) fun H3 s3 d3 => hQ D H3 (Same.free s1 hD) (Same.trans s1 s3) ?_⟩
      · obtain ⟨n, _, rfl⟩ := iv_mem hx
        intro H' F G s hF hG
        walk_at "w"
        refine ⟨rfl, ?_⟩
        walk_at "w"
        refine ⟨n, rfl, ?_⟩
        walk_at "w"
        refine w_r_weekdays T (s _ _ (s1 _ _ hA)) ?_
        walk_at "w"
        refine w_inI (Same.seq s (Same.seq s1 hwd)) ?_
        walk_at "w"
        cases c2 : r.weekdays.contains (weekday n) with
        | true =>
          walk_at "w"
          exact hF (by show r.weekdays.contains (weekday (n : Int).toNat) = true; rw [Int.toNat_natCast]; exact c2) _ (Same.refl _)
        | false =>
          walk_at "w"
          exact hG (by show r.weekdays.contains (weekday (n : Int).toNat) = false; rw [Int.toNat_natCast]; exact c2) _ (Same.refl _)
      · rw [d3]
        unfold dailyM
        rw [not_isEmpty_of_len c]
        exact congrArg (fun z => some (HO.lst z)) (iv_filter _ _ _ _ (fun n _ => by show (r.weekdays.contains (weekday (n : Int).toNat)) = _; rw [Int.toNat_natCast]; rfl) fun n => rfl)
end

def sp_weekly_days (K : PySem.W.Frag) : Sp := fun vs H Q _ => ∃ (a : Addr) (r : Rule), vs = [.ref a] ∧ RuleAt K H a r ∧ ROk r ∧ ∀ p H', H p = none → Same H H' → H' p = some (.lst ((weeklyM r).map V.int)) → Q (.ref p) H' 
section
variable {P : Program} {w : World} {K : PySem.W.Frag} {mg : Str → Option Value} {base : Heap}
theorem sc_weekly_days : FnScope ["rule", "weekdays", "days", "week", "weekday"] ["rule"] (defScope s_weekly_days) := ⟨rfl, rfl, rfl, by decide +kernel, rfl, by decide +kernel, by decide +kernel⟩
theorem ok_weekly_days (T : Tx K mg) : DefOk P w K mg base CX0 2 "weekly_days" ["rule"] (sp_weekly_days K) := by
  obtain ⟨fd, F⟩ := T.f_weekly_days
  refine ⟨⟨fd, F.ok sc_weekly_days (fun vs H Q E h => ?_) (fun cdv A outer s H vs Q E hr h => ?_), F.bindsN fun _ _ _ _ _ _ us hl => match us, hl with | [_], _ => rfl⟩, F.kp, T.g_weekly_days⟩
  · obtain ⟨a, r, rfl, _⟩ := h
    rfl
  · refine ⟨_, PSs.nox (pss_cons (ps_set (i := 1) sc_weekly_days.nd rfl (by first | exact Or.inl rfl | exact Or.inr rfl) (pe_fldK (K := K) rfl (pv 0) rfl))
      (Evl.pss_cut (ps_if (pt_cmpR op_eq (pe_callB (len_seqK (K := K) rfl) (by rfl) T.b_len (by decide +kernel) (pa_cons (pv 1) pa_nil)) pe_int (nomark _)) (pss_one (ps_set (i := 1) sc_weekly_days.nd rfl (by first | exact Or.inl rfl | exact Or.inr rfl) (pe_lst (pa_cons (pe_fn (ok_weekday_of T) (hr.mono (by decide)) (by rfl) pass0 (pa_cons (pe_fldK (K := K) rfl (pv 0) rfl) pa_nil)) pa_nil)))) pss_nil)
      (pss_cons (ps_set (i := 2) sc_weekly_days.nd rfl (by first | exact Or.inl rfl | exact Or.inr rfl) (pe_lst pa_nil))
      (pss_cons (ps_for PassesOwn.never rfl (pi_range3 (by rfl) T.b_range (pa_cons (pe_fn (ok_week_index T) (hr.mono (by decide)) (by rfl) pass0 (pa_cons (pe_fldK (K := K) rfl (pv 0) rfl) pa_nil)) (pa_cons (pe_op op_add (pe_fn (ok_week_index T) (hr.mono (by decide)) (by rfl) pass0 (pa_cons (pe_gi T.i_LAST_DAY (by rfl)) pa_nil)) pe_int) (pa_cons (pe_fldK (K := K) rfl (pv 0) rfl) pa_nil)))) (pg_name (i := 3) sc_weekly_days.nd rfl (by first | exact Or.inl rfl | exact Or.inr rfl)) (pss_one (ps_for PassesOwn.never rfl (pi_list (pv 1)) (pg_name (i := 4) sc_weekly_days.nd rfl (by first | exact Or.inl rfl | exact Or.inr rfl)) (pss_one (ps_expr (pe_bm PySem.F.plainAttrs_list PySem.F.slot_list_append PySem.F.type_list_append mt_append (pv 2) (pa_cons (pe_op op_add (pe_fn (ok_week_start T) (hr.mono (by decide)) (by rfl) pass0 (pa_cons (pv 3) pa_nil)) (pv 4)) pa_nil)))))))
      (pss_one (ps_ret (pv 2))))))), ?_⟩
    clear F hr
    obtain ⟨a, r, rfl, hR, ok, hQ⟩ := h
    obtain ⟨dx, wd, it, ms, nt, al, ts, hA, hwd, hit, hI, hms, hnt, hal⟩ := hR.ex
    have lwd := ok.lwd
    have lms := ok.lms
    have lit := ok.lit
    have b1 := ok.by1
    have b99 := ok.by99
    have hst := ok.start
    have hn := weeklyCnt_le ok
    have big : (100000 : Nat) < sizeLine := by decide
    have hwl := wdsOf_len ok
    have hwk : week r.start < 10000 := by unfold week; omega
    walk_at "w"
    refine w_r_weekdays T hA ?_
    walk_at "w"
    refine w_cut (fun σ' H' => ∃ wa, σ' = [some (.ref a), some (.ref wa), none, none, none] ∧ Same H H' ∧ SqL K H' wa (iv (wdsOf r))) ?_ ?_
    · walk_at "w"
      refine ⟨_, _, rfl, .inl hwd, ?_⟩
      rw [iv_len]
      walk_at "w"
      refine w_cases (fun c => ?_) (fun c => ?_)
      · walk_at "w"
        refine w_r_first_day T hA ?_
        walk_at "w"
        refine ⟨r.start, rfl, ?_⟩
        walk_at "w"
        intro p hp
        walk_at "w"
        refine ⟨p, rfl, same_upd hp, ?_⟩
        unfold wdsOf
        rw [if_pos (isEmpty_of_len c)]
        exact SqL.of upd_same
      · walk_at "w"
        refine ⟨wd, rfl, Same.refl _, ?_⟩
        unfold wdsOf
        rw [if_neg (by rw [not_isEmpty_of_len c]; exact Bool.false_ne_true)]
        exact hwd
    rintro _ H1 ⟨wa, rfl, s1, w1⟩
    walk_at "w"
    intro dq hdq
    have s2 : Same H1 (upd H1 dq (.lst [])) := same_upd hdq
    have W2 : upd H1 dq (.lst []) dq = some (.lst []) := upd_same
    generalize upd H1 dq (.lst []) = H2 at s2 W2 ⊢
    walk_at "w"
    refine w_r_first_day T (s2 _ _ (s1 _ _ hA)) ?_
    walk_at "w"
    refine ⟨r.start, rfl, ?_⟩
    walk_at "w"
    refine ⟨36524, rfl, ?_⟩
    walk_at "w"
    refine w_r_step T (s2 _ _ (s1 _ _ hA)) ?_
    walk_at "w"
    refine ⟨(week r.start : Int), ((5219 : Nat) : Int), (r.by_ : Int), weeklyCnt r, rfl, rgC_pos (by omega) (by omega) (by omega) (by omega), for_rangeC (fun i σ H' => ∃ e1 e2, Same H1 H' ∧ σ = [some (.ref a), some (.ref wa), some (.ref dq), e1, e2] ∧ H' dq = some (.lst (((List.range i).flatMap (weeklyOne r)).map V.int))) ⟨none, none, s2, rfl, W2⟩ ?_ ?_⟩
    · rintro i σ H3 hi ⟨e1, e2, s3, rfl, d3⟩
      walk_at "w"
      have hl := flat_len (weeklyOne r) 7 (fun k => by unfold weeklyOne; rw [List.length_map]; exact hwl) i
      refine ⟨_, rfl, ⟨_, Same.seq s3 w1⟩, for_list (K := K) (a := wa) (xs := iv (wdsOf r)) (fun j σ H' => ∃ e2, Same H1 H' ∧ σ = [some (.ref a), some (.ref wa), some (.ref dq), some (.int ((week r.start : Int) + (i : Int) * (r.by_ : Int))), e2] ∧ H' dq = some (.lst (((List.range i).flatMap (weeklyOne r) ++ (weeklyOne r i).take j).map V.int))) ⟨e2, s3, rfl, by rw [List.take_zero, List.append_nil]; exact d3⟩ (fun j σ H' _ p => by obtain ⟨_, s, _⟩ := p; exact Same.seq s w1) ?_ ?_⟩
      · rintro j x σ H4 hx ⟨e2, s4, rfl, d4⟩
        obtain ⟨n, hn, rfl⟩ := iv_at hx
        walk_at "w"
        refine ⟨.inl ⟨rfl, _, SqL.of d4⟩, ?_⟩
        walk_at "w"
        refine ⟨_, rfl, ?_⟩
        walk_at "w"
        refine w_app d4 ?_ ?_
        · have h2 := List.length_take_le' j (weeklyOne r i)
          have h3 : (weeklyOne r i).length ≤ 7 := by unfold weeklyOne; rw [List.length_map]; exact hwl
          rw [List.length_map, List.length_append]
          omega
        walk_at "w"
        refine ⟨_, same_mut s4 hdq, rfl, ?_⟩
        have e : (weeklyOne r i)[j]? = some (7 * ((week r.start : Int) + (i : Int) * (r.by_ : Int)) - 5 + (n : Int)) := by
          unfold weeklyOne
          rw [List.getElem?_map, hn]
          rfl
        rw [upd_same, take_at e, ← List.append_assoc]
        simp only [List.map_append, List.map_cons, List.map_nil]
      · rintro σ H4 ⟨e2, s4, rfl, d4⟩
        walk_at "w"
        refine ⟨_, _, s4, rfl, ?_⟩
        rw [d4, flat_succ, List.take_of_length_le (by unfold weeklyOne; rw [List.length_map, iv_len]; exact Nat.le_refl _)]
    · rintro σ H3 ⟨e1, e2, s3, rfl, d3⟩
      walk_at "w"
      exact hQ dq H3 (Same.free s1 hdq) (Same.trans s1 s3) d3
end

def sp_pick_of_month (K : PySem.W.Frag) : Sp := fun vs H Q _ => ∃ (a : Addr) (i : Item) (n f : Nat), vs = [.ref a, .int (n : Int), .int (f : Int)] ∧ SqT K H a (itV i) ∧ ItOk i ∧ Q (.int (pickDay n f i)) H
section
variable {P : Program} {w : World} {K : PySem.W.Frag} {mg : Str → Option Value} {base : Heap}
theorem sc_pick_of_month : FnScope ["pick", "length", "first_weekday", "side", "k", "weekday", "last_weekday"] ["pick", "length", "first_weekday"] (defScope s_pick_of_month) := ⟨rfl, rfl, rfl, by decide +kernel, rfl, by decide +kernel, by decide +kernel⟩
theorem ok_pick_of_month (T : Tx K mg) : DefOk P w K mg base CX0 1 "pick_of_month" ["pick", "length", "first_weekday"] (sp_pick_of_month K) := by
  obtain ⟨fd, F⟩ := T.f_pick_of_month
  refine ⟨⟨fd, F.ok sc_pick_of_month (fun vs H Q E h => ?_) (fun cdv A outer s H vs Q E hr h => ?_), F.bindsN fun _ _ _ _ _ _ us hl => match us, hl with | [_, _, _], _ => rfl⟩, F.kp, T.g_pick_of_month⟩
  · obtain ⟨a, i, n, f, rfl, _⟩ := h
    rfl
  · refine ⟨_, PSs.nox (pss_cons (ps_asg (pv 0) (pg_tup rfl (pgs_cons (pg_name (i := 3) sc_pick_of_month.nd rfl (by first | exact Or.inl rfl | exact Or.inr rfl)) (pgs_cons (pg_name (i := 4) sc_pick_of_month.nd rfl (by first | exact Or.inl rfl | exact Or.inr rfl)) (pgs_cons (pg_name (i := 5) sc_pick_of_month.nd rfl (by first | exact Or.inl rfl | exact Or.inr rfl)) pgs_nil)))))
      (pss_cons (ps_if (pt_cmpR op_eq (pv 3) (pe_gi T.i_DAY_rule (by rfl)) (nomark _)) (pss_one (ps_ret (pv 4))) pss_nil)
      (pss_cons (ps_if (pt_cmpR op_eq (pv 3) (pe_gi T.i_DAY_FROM_END (by rfl)) (nomark _)) (pss_one (ps_ret (pe_op op_sub (pe_op op_add (pv 1) pe_int) (pv 4)))) pss_nil)
      (pss_cons (ps_if (pt_cmpR op_eq (pv 3) (pe_gi T.i_WEEKDAY (by rfl)) (nomark _)) (pss_one (ps_ret (pe_op op_add (pe_op op_add pe_int (pe_op op_mod (pe_op op_sub (pv 5) (pv 2)) pe_int)) (pe_op op_mul pe_int (pe_op op_sub (pv 4) pe_int))))) pss_nil)
      (pss_cons (ps_set (i := 6) sc_pick_of_month.nd rfl (by first | exact Or.inl rfl | exact Or.inr rfl) (pe_op op_mod (pe_op op_sub (pe_op op_add (pv 2) (pv 1)) pe_int) pe_int))
      (pss_one (ps_ret (pe_op op_sub (pe_op op_sub (pv 1) (pe_op op_mod (pe_op op_sub (pv 6) (pv 5)) pe_int)) (pe_op op_mul pe_int (pe_op op_sub (pv 4) pe_int)))))))))), ?_⟩
    clear F hr
    obtain ⟨a, i, n, f, rfl, hS, ok, hQ⟩ := h
    obtain ⟨hs, _⟩ := ok
    obtain ⟨s, k, w'⟩ := i
    dsimp only at hs
    walk_at "w"
    refine w_gtup hS rfl ?_
    dsimp only [itV]
    walk_at "w"
    have h4 : s = 0 ∨ s = 1 ∨ s = 2 ∨ s = 3 := by omega
    rcases h4 with rfl | rfl | rfl | rfl
    · refine w_yes rfl ?_
      walk_at "w"
      exact hQ
    · refine w_no (by omega) ?_
      walk_at "w"
      refine w_yes rfl ?_
      walk_at "w"
      exact hQ
    · refine w_no (by omega) ?_
      walk_at "w"
      refine w_no (by omega) ?_
      walk_at "w"
      refine w_yes rfl ?_
      walk_at "w"
      exact hQ
    · refine w_no (by omega) ?_
      walk_at "w"
      refine w_no (by omega) ?_
      walk_at "w"
      refine w_no (by omega) ?_
      walk_at "w"
      exact hQ
end

def sp_month_days (K : PySem.W.Frag) : Sp := fun vs H Q _ => ∃ (y m : Nat) (a : Addr) (ts : List Addr) (is : List Item), vs = [.int (2000 + (y : Int)), .int (m : Int), .ref a] ∧ 1 ≤ m ∧ m ≤ 12 ∧ SqL K H a (ts.map V.ref) ∧ Items K H ts is ∧ (∀ i ∈ is, ItOk i) ∧ is.length ≤ 100 ∧
  ∀ p H', H p = none → Same H H' → H' p = some (.lst (iv (monthM is y m))) → Q (.ref p) H' 
section
variable {P : Program} {w : World} {K : PySem.W.Frag} {mg : Str → Option Value} {base : Heap}
theorem sc_month_days : FnScope ["year", "month", "picks", "start", "length", "wanted", "pick", "of_month"] ["year", "month", "picks"] (defScope s_month_days) := ⟨rfl, rfl, rfl, by decide +kernel, rfl, by decide +kernel, by decide +kernel⟩
theorem ok_month_days (T : Tx K mg) : DefOk P w K mg base CX0 3 "month_days" ["year", "month", "picks"] (sp_month_days K) := by
  obtain ⟨fd, F⟩ := T.f_month_days
  refine ⟨⟨fd, F.ok sc_month_days (fun vs H Q E h => ?_) (fun cdv A outer s H vs Q E hr h => ?_), F.bindsN fun _ _ _ _ _ _ us hl => match us, hl with | [_, _, _], _ => rfl⟩, F.kp, T.g_month_days⟩
  · obtain ⟨y, m, a, ts, is, rfl, _⟩ := h
    rfl
  · refine ⟨_, PSs.nox (pss_cons (ps_set (i := 3) sc_month_days.nd rfl (by first | exact Or.inl rfl | exact Or.inr rfl) (pe_fn (ok_month_start T) (hr.mono (by decide)) (by rfl) pass0 (pa_cons (pv 0) (pa_cons (pv 1) pa_nil))))
      (pss_cons (ps_set (i := 4) sc_month_days.nd rfl (by first | exact Or.inl rfl | exact Or.inr rfl) (pe_fn (ok_month_length T) (hr.mono (by decide)) (by rfl) pass0 (pa_cons (pv 0) (pa_cons (pv 1) pa_nil))))
      (pss_cons (ps_set (i := 5) sc_month_days.nd rfl (by first | exact Or.inl rfl | exact Or.inr rfl) (pe_lc (own := [("pick", 6)]) (g := gName 6) (tt := tYes) rfl sc_month_days.nd (pi_list (pv 2)) (blkOk_by (N := ["year", "month", "picks", "start", "length", "wanted", "pick", "of_month"]) (sc := defScope s_month_days) (by decide +kernel)) (fun _ _ _ _ _ => pg_name (i := 6) sc_month_days.nd rfl (Or.inl rfl)) (fun _ _ _ _ _ => pts_nil) (fun _ _ _ _ _ => (pe_fn (ok_pick_of_month T) (hr.mono (by decide)) (by rfl) pass0 (pa_cons (pv 6) (pa_cons (pv 4) (pa_cons (pe_fn (ok_weekday_of T) (hr.mono (by decide)) (by rfl) pass0 (pa_cons (pv 3) pa_nil)) pa_nil)))))))
      (pss_one (ps_ret (pe_lc (own := [("of_month", 7)]) (g := gName 7) rfl sc_month_days.nd (pi_range2 (by rfl) T.b_range (pa_cons pe_int (pa_cons (pe_op op_add (pv 4) pe_int) pa_nil))) (blkOk_by (N := ["year", "month", "picks", "start", "length", "wanted", "pick", "of_month"]) (sc := defScope s_month_days) (by decide +kernel)) (fun _ _ _ _ _ => pg_name (i := 7) sc_month_days.nd rfl (Or.inl rfl)) (fun _ _ _ _ _ => pts_one (pt_cmpR (op_inK (K := K) rfl) (pv 7) (pv 5) (by with_unfolding_all rfl))) (fun _ _ _ _ _ => (pe_op op_sub (pe_op op_add (pv 3) (pv 7)) pe_int)))))))), ?_⟩
    clear F hr
    obtain ⟨y, m, a, ts, is, rfl, m1, m12, hS, hI, hok, hz, hQ⟩ := h
    have hd := monthDays_le y m
    walk_at "w"
    refine ⟨y, m, rfl, m1, m12, ?_⟩
    walk_at "w"
    refine ⟨y, m, rfl, m1, m12, ?_⟩
    walk_at "w"
    refine ⟨_, rfl, ⟨_, hS⟩, fun D hD => lc_items (fun i => .int (pickDay (monthDays y m) (weekday (monthStart y m)) i)) hS hI hD (by omega) (fun t i hi ht => ?_) fun H3 s3 d3 => ?_⟩
    · intro H' F G s hF hG
      walk_at "w"
      refine ⟨rfl, ?_⟩
      walk_at "w"
      refine ⟨monthStart y m, rfl, ?_⟩
      walk_at "w"
      refine ⟨t, i, _, _, rfl, Same.tup s ht, hok i hi, ?_⟩
      exact hF rfl _ (Same.refl _)
    walk_at "w"
    have e3 : (is.map fun i => V.int (pickDay (monthDays y m) (weekday (monthStart y m)) i)) = (is.map (pickDay (monthDays y m) (weekday (monthStart y m)))).map V.int := by rw [List.map_map]; rfl
    rw [e3] at d3
    refine ⟨1, (monthDays y m : Int) + 1, rfl, by omega, ?_⟩
    rw [show ((monthDays y m : Int) + 1 - 1).toNat = monthDays y m by omega]
    refine fun D2 hD2 => lc_extR (fun v => match v with | .int z => (is.map (pickDay (monthDays y m) (weekday (monthStart y m)))).contains z | _ => false) (fun v => match v with | .int z => .int ((monthStart y m : Int) + z - 1) | _ => .non) hD2 (by omega) (fun j hj => ?_) fun H4 s4 d4 => hQ D2 H4 (Same.free s3 hD2) (Same.trans s3 s4) ?_
    · intro H' F G s hF hG
      walk_at "w"
      refine ⟨rfl, ?_⟩
      walk_at "w"
      refine w_inZ (Same.seq s (SqL.of d3)) ?_
      walk_at "w"
      cases c : (is.map (pickDay (monthDays y m) (weekday (monthStart y m)))).contains (1 + (j : Int)) with
      | true =>
        walk_at "w"
        exact hF c _ (Same.refl _)
      | false =>
        walk_at "w"
        exact hG c _ (Same.refl _)
    · rw [d4]
      refine congrArg (fun z => some (HO.lst z)) ?_
      unfold monthM iv
      rw [List.filter_map, List.map_map, List.map_map]
      have e5 : ((fun v => match v with | .int z => (is.map (pickDay (monthDays y m) (weekday (monthStart y m)))).contains z | _ => false) ∘ fun i : Nat => V.int (1 + (i : Int))) = fun j : Nat => (is.map (pickDay (monthDays y m) (weekday (monthStart y m)))).contains ((j : Int) + 1) := by
        funext j
        show (is.map (pickDay (monthDays y m) (weekday (monthStart y m)))).contains (1 + (j : Int)) = _
        rw [Int.add_comm]
      rw [e5]
      refine List.map_congr_left fun j _ => ?_
      show V.int ((monthStart y m : Int) + (1 + (j : Int)) - 1) = V.int (((monthStart y m + j : Nat)) : Int)
      exact congrArg V.int (by omega)
end

def sp_picks_of (K : PySem.W.Frag) : Sp := fun vs H Q _ => ∃ (a : Addr) (r : Rule), vs = [.ref a] ∧ RuleAt K H a r ∧ ROk r ∧ ∀ p ts H', Same H H' → SqL K H' p (ts.map V.ref) → Items K H' ts (picksOf r) → Q (.ref p) H' 
section
variable {P : Program} {w : World} {K : PySem.W.Frag} {mg : Str → Option Value} {base : Heap}
theorem sc_picks_of : FnScope ["rule", "year", "month", "of_month"] ["rule"] (defScope s_picks_of) := ⟨rfl, rfl, rfl, by decide +kernel, rfl, by decide +kernel, by decide +kernel⟩
theorem ok_picks_of (T : Tx K mg) : DefOk P w K mg base CX0 5 "picks_of" ["rule"] (sp_picks_of K) := by
  obtain ⟨fd, F⟩ := T.f_picks_of
  refine ⟨⟨fd, F.ok sc_picks_of (fun vs H Q E h => ?_) (fun cdv A outer s H vs Q E hr h => ?_), F.bindsN fun _ _ _ _ _ _ us hl => match us, hl with | [_], _ => rfl⟩, F.kp, T.g_picks_of⟩
  · obtain ⟨a, r, rfl, _⟩ := h
    rfl
  · refine ⟨_, PSs.nox (pss_cons (ps_if (pt_cmpR op_gt (pe_callB (len_seqK (K := K) rfl) (by rfl) T.b_len (by decide +kernel) (pa_cons (pe_fldK (K := K) rfl (pv 0) rfl) pa_nil)) pe_int (nomark _)) (pss_one (ps_ret (pe_fldK (K := K) rfl (pv 0) rfl))) pss_nil)
      (pss_cons (ps_asg (pe_fn (ok_date_of T) (hr.mono (by decide)) (by rfl) pass0 (pa_cons (pe_fldK (K := K) rfl (pv 0) rfl) pa_nil)) (pg_tup rfl (pgs_cons (pg_name (i := 1) sc_picks_of.nd rfl (by first | exact Or.inl rfl | exact Or.inr rfl)) (pgs_cons (pg_name (i := 2) sc_picks_of.nd rfl (by first | exact Or.inl rfl | exact Or.inr rfl)) (pgs_cons (pg_name (i := 3) sc_picks_of.nd rfl (by first | exact Or.inl rfl | exact Or.inr rfl)) pgs_nil)))))
      (pss_one (ps_ret (pe_lst (pa_cons (pe_tup (pa_cons (pe_gi T.i_DAY_rule (by rfl)) (pa_cons (pv 3) (pa_cons pe_int pa_nil)))) pa_nil)))))), ?_⟩
    clear F hr
    obtain ⟨a, r, rfl, hR, ok, hQ⟩ := h
    obtain ⟨dx, wd, it, ms, nt, al, ts, hA, hwd, hit, hI, hms, hnt, hal⟩ := hR.ex
    have lwd := ok.lwd
    have lms := ok.lms
    have lit := ok.lit
    have b1 := ok.by1
    have b99 := ok.by99
    have hst := ok.start
    walk_at "w"
    refine w_r_picks T hA ?_
    walk_at "w"
    refine ⟨_, _, rfl, .inl hit, ?_⟩
    rw [List.length_map, hI.1]
    walk_at "w"
    refine w_cases (fun c => ?_) (fun c => ?_)
    · walk_at "w"
      refine w_r_picks T hA ?_
      have e : picksOf r = r.items := if_neg (by rw [not_isEmpty_of_len (by omega)]; exact Bool.false_ne_true)
      refine hQ it ts H (Same.refl _) hit ?_
      rw [e]
      exact hI
    · walk_at "w"
      refine w_r_first_day T hA ?_
      walk_at "w"
      refine ⟨r.start, rfl, ok.start, fun p hp => ?_⟩
      walk_at "w"
      refine w_gtup (SqT.of upd_same) rfl ?_
      walk_at "w"
      intro q hq
      walk_at "w"
      intro u hu
      have e : picksOf r = [⟨0, domOf r.start, 0⟩] := if_pos (isEmpty_of_len (by omega))
      refine hQ u [q] _ (Same.trans (same_upd hp) (Same.trans (same_upd hq) (same_upd hu))) (SqL.of upd_same) ?_
      rw [e]
      refine ⟨rfl, fun j t i h1 h2 => ?_⟩
      cases j with
      | succ j => cases h1
      | zero =>
        obtain rfl := Option.some.inj h1
        obtain rfl := Option.some.inj h2
        exact Same.tup (same_upd hu) (SqT.of upd_same)
end

def sp_monthly_days (K : PySem.W.Frag) : Sp := fun vs H Q _ => ∃ (a : Addr) (r : Rule), vs = [.ref a] ∧ RuleAt K H a r ∧ ROk r ∧ ∀ p H', H p = none → Same H H' → H' p = some (.lst (iv (monthlyM r))) → Q (.ref p) H' 
section
variable {P : Program} {w : World} {K : PySem.W.Frag} {mg : Str → Option Value} {base : Heap}
theorem sc_monthly_days : FnScope ["rule", "picks", "first_year", "first_month", "of_month", "first_place", "end", "days", "place", "month"] ["rule"] (defScope s_monthly_days) := ⟨rfl, rfl, rfl, by decide +kernel, rfl, by decide +kernel, by decide +kernel⟩
theorem ok_monthly_days (T : Tx K mg) : DefOk P w K mg base CX0 6 "monthly_days" ["rule"] (sp_monthly_days K) := by
  obtain ⟨fd, F⟩ := T.f_monthly_days
  refine ⟨⟨fd, F.ok sc_monthly_days (fun vs H Q E h => ?_) (fun cdv A outer s H vs Q E hr h => ?_), F.bindsN fun _ _ _ _ _ _ us hl => match us, hl with | [_], _ => rfl⟩, F.kp, T.g_monthly_days⟩
  · obtain ⟨a, r, rfl, _⟩ := h
    rfl
  · refine ⟨_, PSs.nox (pss_cons (ps_set (i := 1) sc_monthly_days.nd rfl (by first | exact Or.inl rfl | exact Or.inr rfl) (pe_fn (ok_picks_of T) (hr.mono (by decide)) (by rfl) pass0 (pa_cons (pv 0) pa_nil)))
      (pss_cons (ps_asg (pe_fn (ok_date_of T) (hr.mono (by decide)) (by rfl) pass0 (pa_cons (pe_fldK (K := K) rfl (pv 0) rfl) pa_nil)) (pg_tup rfl (pgs_cons (pg_name (i := 2) sc_monthly_days.nd rfl (by first | exact Or.inl rfl | exact Or.inr rfl)) (pgs_cons (pg_name (i := 3) sc_monthly_days.nd rfl (by first | exact Or.inl rfl | exact Or.inr rfl)) (pgs_cons (pg_name (i := 4) sc_monthly_days.nd rfl (by first | exact Or.inl rfl | exact Or.inr rfl)) pgs_nil)))))
      (pss_cons (ps_set (i := 5) sc_monthly_days.nd rfl (by first | exact Or.inl rfl | exact Or.inr rfl) (pe_op op_sub (pe_op op_add (pe_op op_mul pe_int (pe_op op_sub (pv 2) (pe_gi T.i_FIRST_YEAR (by rfl)))) (pv 3)) pe_int))
      (pss_cons (ps_set (i := 6) sc_monthly_days.nd rfl (by first | exact Or.inl rfl | exact Or.inr rfl) (pe_op op_mul pe_int (pe_op op_sub (pe_op op_add (pe_gi T.i_LAST_YEAR (by rfl)) pe_int) (pe_gi T.i_FIRST_YEAR (by rfl)))))
      (pss_cons (ps_set (i := 7) sc_monthly_days.nd rfl (by first | exact Or.inl rfl | exact Or.inr rfl) (pe_lst pa_nil))
      (pss_cons (ps_for PassesOwn.never rfl (pi_range3 (by rfl) T.b_range (pa_cons (pv 5) (pa_cons (pv 6) (pa_cons (pe_fldK (K := K) rfl (pv 0) rfl) pa_nil)))) (pg_name (i := 8) sc_monthly_days.nd rfl (by first | exact Or.inl rfl | exact Or.inr rfl)) (pss_cons (ps_set (i := 9) sc_monthly_days.nd rfl (by first | exact Or.inl rfl | exact Or.inr rfl) (pe_op op_add (pe_op op_mod (pv 8) pe_int) pe_int))
      (pss_one (ps_if (pw_or (pt_cmpR op_eq (pe_callB (len_seqK (K := K) rfl) (by rfl) T.b_len (by decide +kernel) (pa_cons (pe_fldK (K := K) rfl (pv 0) rfl) pa_nil)) pe_int (nomark _)) (pw_or1 (pt_cmpR (op_inK (K := K) rfl) (pv 9) (pe_fldK (K := K) rfl (pv 0) rfl) (by with_unfolding_all rfl)))).pt (pss_one (ps_expr (pe_bm PySem.F.plainAttrs_list PySem.F.slot_list_extend PySem.F.type_list_extend mt_extend (pv 7) (pa_cons (pe_fn (ok_month_days T) (hr.mono (by decide)) (by rfl) pass0 (pa_cons (pe_op op_add (pe_gi T.i_FIRST_YEAR (by rfl)) (pe_op op_fdiv (pv 8) pe_int)) (pa_cons (pv 9) (pa_cons (pv 1) pa_nil)))) pa_nil)))) pss_nil))))
      (pss_one (ps_ret (pv 7))))))))), ?_⟩
    clear F hr
    obtain ⟨a, r, rfl, hR, ok, hQ⟩ := h
    obtain ⟨dx, wd, it, ms, nt, al, ts, hA, hwd, hit, hI, hms, hnt, hal⟩ := hR.ex
    have lwd := ok.lwd
    have lms := ok.lms
    have lit := ok.lit
    have b1 := ok.by1
    have b99 := ok.by99
    have hst := ok.start
    have hn := monthlyCnt_le ok
    have hy := yearOf_lt ok.start
    have hm := monthOf_le r.start
    have hm1 := monthOf_pos r.start
    have big : (100000 : Nat) < sizeLine := by decide
    walk_at "w"
    refine ⟨a, r, rfl, hR, ok, fun pa pts H1 s1 hp1 hI1 => ?_⟩
    have hpl : (picksOf r).length ≤ 100 := by
      unfold picksOf
      split
      · exact (by decide : 1 ≤ 100)
      · omega
    walk_at "w"
    refine w_r_first_day T (s1 _ _ hA) ?_
    walk_at "w"
    refine ⟨r.start, rfl, ok.start, fun p2 hp2 => ?_⟩
    walk_at "w"
    refine w_gtup (SqT.of upd_same) rfl ?_
    have s2 := Same.trans s1 (same_upd (o := .tup [.int (2000 + (yearOf r.start : Nat)), .int (monthOf r.start : Nat), .int (domOf r.start : Nat)]) hp2)
    have hp2' := Same.seq (same_upd (o := .tup [.int (2000 + (yearOf r.start : Nat)), .int (monthOf r.start : Nat), .int (domOf r.start : Nat)]) hp2) hp1
    have hI2 := hI1.same (same_upd (o := .tup [.int (2000 + (yearOf r.start : Nat)), .int (monthOf r.start : Nat), .int (domOf r.start : Nat)]) hp2)
    generalize upd H1 p2 (.tup [.int (2000 + (yearOf r.start : Nat)), .int (monthOf r.start : Nat), .int (domOf r.start : Nat)]) = H2 at s2 hp2' hI2 ⊢
    clear hp1 hI1 s1
    walk_at "w"
    intro dq hdq
    have s3 : Same H2 (upd H2 dq (.lst [])) := same_upd hdq
    have W3 : upd H2 dq (.lst []) dq = some (.lst []) := upd_same
    generalize upd H2 dq (.lst []) = H3 at s3 W3 ⊢
    walk_at "w"
    refine w_r_step T (s3 _ _ (s2 _ _ hA)) ?_
    walk_at "w"
    have hfp : 12 * (2000 + ((yearOf r.start : Nat) : Int) - 2000) + ((monthOf r.start : Nat) : Int) - 1 = ((firstPlace r : Nat) : Int) := by unfold firstPlace; omega
    have hfp2 := firstPlace_lt ok
    rw [hfp]
    refine ⟨(firstPlace r : Int), ((1200 : Nat) : Int), (r.by_ : Int), monthlyCnt r, rfl, rgC_pos (by omega) (by omega) (by omega) (by omega), for_rangeC (fun i σ H' => ∃ e1 e2, Same H2 H' ∧ σ = [some (.ref a), some (.ref pa), some (.int (2000 + (yearOf r.start : Nat))), some (.int (monthOf r.start : Nat)), some (.int (domOf r.start : Nat)), some (.int (firstPlace r : Nat)), some (.int ((1200 : Nat) : Int)), some (.ref dq), e1, e2] ∧ H' dq = some (.lst (iv ((List.range i).flatMap fun k => monthlyOne r (firstPlace r + k * r.by_))))) ⟨none, none, s3, rfl, W3⟩ ?_ ?_⟩
    · rintro i σ H4 hi ⟨e1, e2, s4, rfl, d4⟩
      have hl := flat_len (fun k => monthlyOne r (firstPlace r + k * r.by_)) 31 (fun k => by
        unfold monthlyOne
        split
        · exact monthM_len _ _ _
        · exact Nat.zero_le _) i
      have epl : ((firstPlace r : Nat) : Int) + (i : Nat) * ((r.by_ : Nat) : Int) = ((firstPlace r + i * r.by_ : Nat) : Int) := by rw [Int.natCast_add, Int.natCast_mul]
      rw [epl]
      have fs := flat_succ (fun k => monthlyOne r (firstPlace r + k * r.by_)) i
      generalize hpp : firstPlace r + i * r.by_ = pp at fs
      walk_at "w"
      have hok : (monthlyOne r pp = if r.months.isEmpty || r.months.contains (pp % 12 + 1) then monthM (picksOf r) (pp / 12) (pp % 12 + 1) else []) := rfl
      have epm : ((pp : Nat) : Int) % 12 + 1 = ((pp % 12 + 1 : Nat) : Int) := by omega
      have yes : (r.months.isEmpty || r.months.contains (pp % 12 + 1)) = true → ∀ (D : Ends), (∀ H5, Same H2 H5 → H5 dq = some (.lst (iv ((List.range (i + 1)).flatMap fun k => monthlyOne r (firstPlace r + k * r.by_)))) → D.nx [some (.ref a), some (.ref pa), some (.int (2000 + (yearOf r.start : Nat))), some (.int (monthOf r.start : Nat)), some (.int (domOf r.start : Nat)), some (.int (firstPlace r : Nat)), some (.int ((1200 : Nat) : Int)), some (.ref dq), some (.int (pp : Nat)), some (.int ((pp % 12 + 1 : Nat) : Int))] H5) → True := fun _ _ _ => trivial
      rw [epm]
      have ext : (r.months.isEmpty || r.months.contains (pp % 12 + 1)) = true → ∀ (Rr : Hp → Prop), (∀ H5, Same H2 H5 → H5 dq = some (.lst (iv ((List.range (i + 1)).flatMap fun k => monthlyOne r (firstPlace r + k * r.by_)))) → Rr H5) → ∀ p5 H5, H4 p5 = none → Same H4 H5 → H5 p5 = some (.lst (iv (monthM (picksOf r) (pp / 12) (pp % 12 + 1)))) → rExtend (.ref dq) [.ref p5] H5 fun _ H' => Rr H' := by
        intro c Rr k p5 H5 h5 s5 d5
        refine w_ext (s5 _ _ d4) d5 ?_ ?_
        · have := monthM_len (picksOf r) (pp / 12) (pp % 12 + 1)
          rw [iv_len, iv_len]
          omega
        · refine k _ (same_mut (Same.trans s4 s5) hdq) ?_
          rw [upd_same, fs, hok, if_pos c, iv_append]
      refine w_r_months T (s4 _ _ (s2 _ _ hA)) ?_
      walk_at "w"
      refine ⟨_, _, rfl, .inl (Same.seq s4 (Same.seq s2 hms)), ?_⟩
      rw [iv_len]
      walk_at "w"
      refine w_cases (fun c => ?_) (fun c => ?_)
      · walk_at "w"
        refine ⟨.inl ⟨rfl, _, SqL.of d4⟩, ?_⟩
        walk_at "w"
        refine ⟨pp / 12, pp % 12 + 1, pa, pts, picksOf r, by rw [show (2000 : Int) + ((pp : Nat) : Int) / 12 = 2000 + ((pp / 12 : Nat) : Int) by omega], by omega, by omega, Same.seq s4 hp2', hI2.same s4, picksOf_ok ok, hpl, ?_⟩
        refine fun p5 H5 h5 s5 d5 => ext (by rw [isEmpty_of_len c]; rfl) _ (fun H6 s6 d6 => ?_) p5 H5 h5 s5 d5
        walk_at "w"
        exact ⟨_, _, s6, rfl, d6⟩
      · walk_at "w"
        refine w_r_months T (s4 _ _ (s2 _ _ hA)) ?_
        walk_at "w"
        refine w_inI (Same.seq s4 (Same.seq s2 hms)) ?_
        walk_at "w"
        cases c2 : r.months.contains (pp % 12 + 1) with
        | true =>
          walk_at "w"
          refine ⟨.inl ⟨rfl, _, SqL.of d4⟩, ?_⟩
          walk_at "w"
          refine ⟨pp / 12, pp % 12 + 1, pa, pts, picksOf r, by rw [show (2000 : Int) + ((pp : Nat) : Int) / 12 = 2000 + ((pp / 12 : Nat) : Int) by omega], by omega, by omega, Same.seq s4 hp2', hI2.same s4, picksOf_ok ok, hpl, ?_⟩
          refine fun p5 H5 h5 s5 d5 => ext (by rw [c2, Bool.or_true]) _ (fun H6 s6 d6 => ?_) p5 H5 h5 s5 d5
          walk_at "w"
          exact ⟨_, _, s6, rfl, d6⟩
        | false =>
          walk_at "w"
          refine ⟨_, _, s4, rfl, ?_⟩
          rw [fs, hok, if_neg (by rw [not_isEmpty_of_len c, c2]; exact Bool.false_ne_true), List.append_nil]
          exact d4
    · rintro σ H4 ⟨e1, e2, s4, rfl, d4⟩
      walk_at "w"
      exact hQ dq H4 (Same.free s2 hdq) (Same.trans s2 s4) d4
end

def sp_yearly_days (K : PySem.W.Frag) : Sp := fun vs H Q _ => ∃ (a : Addr) (r : Rule), vs = [.ref a] ∧ RuleAt K H a r ∧ ROk r ∧ ∀ p H', H p = none → Same H H' → H' p = some (.lst (iv (yearlyM r))) → Q (.ref p) H' 
section
variable {P : Program} {w : World} {K : PySem.W.Frag} {mg : Str → Option Value} {base : Heap}
theorem sc_yearly_days : FnScope ["rule", "picks", "first_year", "first_month", "of_month", "months", "days", "year", "month"] ["rule"] (defScope s_yearly_days) := ⟨rfl, rfl, rfl, by decide +kernel, rfl, by decide +kernel, by decide +kernel⟩
theorem ok_yearly_days (T : Tx K mg) : DefOk P w K mg base CX0 6 "yearly_days" ["rule"] (sp_yearly_days K) := by
  obtain ⟨fd, F⟩ := T.f_yearly_days
  refine ⟨⟨fd, F.ok sc_yearly_days (fun vs H Q E h => ?_) (fun cdv A outer s H vs Q E hr h => ?_), F.bindsN fun _ _ _ _ _ _ us hl => match us, hl with | [_], _ => rfl⟩, F.kp, T.g_yearly_days⟩
  · obtain ⟨a, r, rfl, _⟩ := h
    rfl
  · refine ⟨_, PSs.nox (pss_cons (ps_set (i := 1) sc_yearly_days.nd rfl (by first | exact Or.inl rfl | exact Or.inr rfl) (pe_fn (ok_picks_of T) (hr.mono (by decide)) (by rfl) pass0 (pa_cons (pv 0) pa_nil)))
      (pss_cons (ps_asg (pe_fn (ok_date_of T) (hr.mono (by decide)) (by rfl) pass0 (pa_cons (pe_fldK (K := K) rfl (pv 0) rfl) pa_nil)) (pg_tup rfl (pgs_cons (pg_name (i := 2) sc_yearly_days.nd rfl (by first | exact Or.inl rfl | exact Or.inr rfl)) (pgs_cons (pg_name (i := 3) sc_yearly_days.nd rfl (by first | exact Or.inl rfl | exact Or.inr rfl)) (pgs_cons (pg_name (i := 4) sc_yearly_days.nd rfl (by first | exact Or.inl rfl | exact Or.inr rfl)) pgs_nil)))))
      (pss_cons (ps_set (i := 5) sc_yearly_days.nd rfl (by first | exact Or.inl rfl | exact Or.inr rfl) (pe_fldK (K := K) rfl (pv 0) rfl))
      (Evl.pss_cut (ps_if (pt_cmpR op_eq (pe_callB (len_seqK (K := K) rfl) (by rfl) T.b_len (by decide +kernel) (pa_cons (pv 5) pa_nil)) pe_int (nomark _)) (pss_one (ps_set (i := 5) sc_yearly_days.nd rfl (by first | exact Or.inl rfl | exact Or.inr rfl) (pe_lst (pa_cons (pv 3) pa_nil)))) pss_nil)
      (pss_cons (ps_set (i := 6) sc_yearly_days.nd rfl (by first | exact Or.inl rfl | exact Or.inr rfl) (pe_lst pa_nil))
      (pss_cons (ps_for PassesOwn.never rfl (pi_range3 (by rfl) T.b_range (pa_cons (pv 2) (pa_cons (pe_op op_add (pe_gi T.i_LAST_YEAR (by rfl)) pe_int) (pa_cons (pe_fldK (K := K) rfl (pv 0) rfl) pa_nil)))) (pg_name (i := 7) sc_yearly_days.nd rfl (by first | exact Or.inl rfl | exact Or.inr rfl)) (pss_one (ps_for PassesOwn.never rfl (pi_list (pv 5)) (pg_name (i := 8) sc_yearly_days.nd rfl (by first | exact Or.inl rfl | exact Or.inr rfl)) (pss_one (ps_expr (pe_bm PySem.F.plainAttrs_list PySem.F.slot_list_extend PySem.F.type_list_extend mt_extend (pv 6) (pa_cons (pe_fn (ok_month_days T) (hr.mono (by decide)) (by rfl) pass0 (pa_cons (pv 7) (pa_cons (pv 8) (pa_cons (pv 1) pa_nil)))) pa_nil)))))))
      (pss_one (ps_ret (pv 6))))))))), ?_⟩
    clear F hr
    obtain ⟨a, r, rfl, hR, ok, hQ⟩ := h
    obtain ⟨dx, wd, it, ms, nt, al, ts, hA, hwd, hit, hI, hms, hnt, hal⟩ := hR.ex
    have lwd := ok.lwd
    have lms := ok.lms
    have lit := ok.lit
    have b1 := ok.by1
    have b99 := ok.by99
    have hst := ok.start
    have hn := yearlyCnt_le ok
    have hy := yearOf_lt ok.start
    have hm := monthOf_le r.start
    have hm1 := monthOf_pos r.start
    have big : (100000 : Nat) < sizeLine := by decide
    walk_at "w"
    refine ⟨a, r, rfl, hR, ok, fun pa pts H1 s1 hp1 hI1 => ?_⟩
    have hpl : (picksOf r).length ≤ 100 := by
      unfold picksOf
      split
      · exact (by decide : 1 ≤ 100)
      · omega
    walk_at "w"
    refine w_r_first_day T (s1 _ _ hA) ?_
    walk_at "w"
    refine ⟨r.start, rfl, ok.start, fun p2 hp2 => ?_⟩
    walk_at "w"
    refine w_gtup (SqT.of upd_same) rfl ?_
    have s2 := Same.trans s1 (same_upd (o := .tup [.int (2000 + (yearOf r.start : Nat)), .int (monthOf r.start : Nat), .int (domOf r.start : Nat)]) hp2)
    have hp2' := Same.seq (same_upd (o := .tup [.int (2000 + (yearOf r.start : Nat)), .int (monthOf r.start : Nat), .int (domOf r.start : Nat)]) hp2) hp1
    have hI2 := hI1.same (same_upd (o := .tup [.int (2000 + (yearOf r.start : Nat)), .int (monthOf r.start : Nat), .int (domOf r.start : Nat)]) hp2)
    generalize upd H1 p2 (.tup [.int (2000 + (yearOf r.start : Nat)), .int (monthOf r.start : Nat), .int (domOf r.start : Nat)]) = H2 at s2 hp2' hI2 ⊢
    clear hp1 hI1 s1
    walk_at "w"
    refine w_r_months T (s2 _ _ hA) ?_
    walk_at "w"
    refine w_cut (fun σ' H' => ∃ wa, σ' = [some (.ref a), some (.ref pa), some (.int (2000 + (yearOf r.start : Nat))), some (.int (monthOf r.start : Nat)), some (.int (domOf r.start : Nat)), some (.ref wa), none, none, none] ∧ Same H2 H' ∧ SqL K H' wa (iv (monthsOf r))) ?_ ?_
    · walk_at "w"
      refine ⟨_, _, rfl, .inl (Same.seq s2 hms), ?_⟩
      rw [iv_len]
      walk_at "w"
      refine w_cases (fun c => ?_) (fun c => ?_)
      · walk_at "w"
        intro p hp
        walk_at "w"
        refine ⟨p, rfl, same_upd hp, ?_⟩
        unfold monthsOf
        rw [if_pos (isEmpty_of_len c)]
        exact SqL.of upd_same
      · walk_at "w"
        refine ⟨ms, rfl, Same.refl _, ?_⟩
        unfold monthsOf
        rw [if_neg (by rw [not_isEmpty_of_len c]; exact Bool.false_ne_true)]
        exact Same.seq s2 hms
    rintro _ H3 ⟨wa, rfl, s3, w3⟩
    have hml : (monthsOf r).length ≤ 13 := by
      unfold monthsOf
      split
      · exact (by decide : 1 ≤ 13)
      · omega
    walk_at "w"
    intro dq hdq
    have s4 : Same H3 (upd H3 dq (.lst [])) := same_upd hdq
    have W4 : upd H3 dq (.lst []) dq = some (.lst []) := upd_same
    generalize upd H3 dq (.lst []) = H4 at s4 W4 ⊢
    walk_at "w"
    refine w_r_step T (s4 _ _ (s3 _ _ (s2 _ _ hA))) ?_
    walk_at "w"
    refine ⟨((2000 + yearOf r.start : Nat) : Int), ((2100 : Nat) : Int), (r.by_ : Int), yearlyCnt r, by rw [Int.natCast_add]; rfl, ?_, ?_⟩
    · have := rgC_pos (a := 2000 + yearOf r.start) (b := 2100) (c := r.by_) (by omega) (by omega) (by omega) (by omega)
      unfold yearlyCnt
      rw [show 100 - yearOf r.start + r.by_ - 1 = 2100 - (2000 + yearOf r.start) + r.by_ - 1 by omega]
      exact this
    let one : Nat → List Nat := fun k => (monthsOf r).flatMap fun m => monthM (picksOf r) (yearOf r.start + k * r.by_) m
    have onel : ∀ k, (one k).length ≤ 403 := fun k => by
      have h := flat_len (fun j => monthM (picksOf r) (yearOf r.start + k * r.by_) ((monthsOf r).getD j 0)) 31 (fun j => monthM_len _ _ _) (monthsOf r).length
      have e : ((List.range (monthsOf r).length).flatMap fun j => monthM (picksOf r) (yearOf r.start + k * r.by_) ((monthsOf r).getD j 0)) = one k := by
        show _ = (monthsOf r).flatMap _
        have z : monthsOf r = (List.range (monthsOf r).length).map fun j => (monthsOf r).getD j 0 := by
          apply List.ext_getElem
          · rw [List.length_map, List.length_range]
          · intro n h1 h2
            rw [List.getElem_map, List.getElem_range, List.getD_eq_getElem?_getD, List.getElem?_eq_getElem h1]
            rfl
        conv => rhs; rw [z, List.flatMap_map]
      rw [e] at h
      omega
    refine for_rangeC (fun i σ H' => ∃ e1 e2, Same H3 H' ∧ σ = [some (.ref a), some (.ref pa), some (.int (2000 + (yearOf r.start : Nat))), some (.int (monthOf r.start : Nat)), some (.int (domOf r.start : Nat)), some (.ref wa), some (.ref dq), e1, e2] ∧ H' dq = some (.lst (iv ((List.range i).flatMap one)))) ⟨none, none, s4, rfl, W4⟩ ?_ ?_
    · rintro i σ H5 hi ⟨e1, e2, s5, rfl, d5⟩
      have hl := flat_len one 403 onel i
      have ey : ((2000 + yearOf r.start : Nat) : Int) + (i : Nat) * ((r.by_ : Nat) : Int) = 2000 + ((yearOf r.start + i * r.by_ : Nat) : Int) := by rw [Int.natCast_add, Int.natCast_add, Int.natCast_mul]; omega
      rw [ey]
      have fs := flat_succ one i
      walk_at "w"
      refine ⟨_, rfl, ⟨_, Same.seq s5 w3⟩, for_list (K := K) (a := wa) (xs := iv (monthsOf r)) (fun j σ H' => ∃ e2, Same H3 H' ∧ σ = [some (.ref a), some (.ref pa), some (.int (2000 + (yearOf r.start : Nat))), some (.int (monthOf r.start : Nat)), some (.int (domOf r.start : Nat)), some (.ref wa), some (.ref dq), some (.int (2000 + ((yearOf r.start + i * r.by_ : Nat) : Int))), e2] ∧ H' dq = some (.lst (iv ((List.range i).flatMap one ++ ((monthsOf r).take j).flatMap fun m => monthM (picksOf r) (yearOf r.start + i * r.by_) m)))) ⟨e2, s5, rfl, by rw [List.take_zero, List.flatMap_nil, List.append_nil]; exact d5⟩ (fun j σ H' _ p => by obtain ⟨_, s, _⟩ := p; exact Same.seq s w3) ?_ ?_⟩
      · rintro j x σ H6 hx ⟨e2, s6, rfl, d6⟩
        obtain ⟨n, hn, rfl⟩ := iv_at hx
        have hnn := monthsOf_ok ok n (List.mem_of_getElem? hn)
        walk_at "w"
        refine ⟨.inl ⟨rfl, _, SqL.of d6⟩, ?_⟩
        walk_at "w"
        refine ⟨_, n, pa, pts, picksOf r, rfl, hnn.1, hnn.2, Same.seq s6 (Same.seq s3 hp2'), (hI2.same s3).same s6, picksOf_ok ok, hpl, fun p7 H7 hp7 s7 d7 => ?_⟩
        have tk : ((monthsOf r).take (j + 1)).flatMap (fun m => monthM (picksOf r) (yearOf r.start + i * r.by_) m) = ((monthsOf r).take j).flatMap (fun m => monthM (picksOf r) (yearOf r.start + i * r.by_) m) ++ monthM (picksOf r) (yearOf r.start + i * r.by_) n := by
          rw [take_at hn, List.flatMap_append, List.flatMap_singleton]
        walk_at "w"
        refine w_ext (s7 _ _ d6) d7 ?_ ?_
        · have h1 := monthM_len (picksOf r) (yearOf r.start + i * r.by_) n
          have h2 : (((monthsOf r).take j).flatMap (fun m => monthM (picksOf r) (yearOf r.start + i * r.by_) m)).length ≤ (one i).length := by
            show _ ≤ ((monthsOf r).flatMap _).length
            conv => rhs; rw [← List.take_append_drop j (monthsOf r), List.flatMap_append, List.length_append]
            exact Nat.le_add_right _ _
          have h3 := onel i
          rw [iv_len, iv_len, List.length_append]
          omega
        walk_at "w"
        refine ⟨_, same_mut (Same.trans s6 s7) hdq, rfl, ?_⟩
        rw [upd_same, tk, ← iv_append, List.append_assoc]
      · rintro σ H6 ⟨e2, s6, rfl, d6⟩
        walk_at "w"
        refine ⟨_, _, s6, rfl, ?_⟩
        rw [d6, fs, iv_len, List.take_length]
    · rintro σ H5 ⟨e1, e2, s5, rfl, d5⟩
      walk_at "w"
      exact hQ dq H5 (Same.free s2 (Same.free s3 hdq)) (Same.trans s2 (Same.trans s3 s5)) d5
end

end CA
end file_CaM4
section file_CaM5
set_option maxRecDepth 100000
set_option maxHeartbeats 4000000
namespace CA
open PySem PySem.Spec PyProof.Rows L2
open SX (S)
open Cl01 (monthDays monthStart isDate dayOf yearOf monthOf domOf weekday week weekOf)

open Cl01 (two dateText itemText digitsOf joined comes days Item Rule FREQS)
theorem flat_len2 {α β : Type} (f : α → List β) (B : Nat) (h : ∀ k, (f k).length ≤ B) : ∀ l : List α, (l.flatMap f).length ≤ B * l.length
  | [] => Nat.zero_le _
  | k :: l => by
    have ih := flat_len2 f B h l
    have := h k
    rw [List.flatMap_cons, List.length_append, List.length_cons, Nat.mul_succ]
    omega
theorem yearlyM_len {r : Rule} (ok : ROk r) : (yearlyM r).length ≤ 100000 := by
  have hn := yearlyCnt_le ok
  have hml : (monthsOf r).length ≤ 13 := by
    unfold monthsOf
    split
    · exact (by decide : 1 ≤ 13)
    · exact ok.lms
  have h := flat_len (fun k => (monthsOf r).flatMap fun m => monthM (picksOf r) (yearOf r.start + k * r.by_) m) 403 (fun k => by
    have := flat_len2 (fun m => monthM (picksOf r) (yearOf r.start + k * r.by_) m) 31 (fun m => monthM_len _ _ _) (monthsOf r)
    omega) (yearlyCnt r)
  unfold yearlyM
  omega
theorem monthlyM_len {r : Rule} (ok : ROk r) : (monthlyM r).length ≤ 100000 := by
  have hn := monthlyCnt_le ok
  have h := flat_len (fun k => monthlyOne r (firstPlace r + k * r.by_)) 31 (fun k => by
    unfold monthlyOne
    split
    · exact monthM_len _ _ _
    · exact Nat.zero_le _) (monthlyCnt r)
  unfold monthlyM
  omega
theorem weeklyM_len {r : Rule} (ok : ROk r) : (weeklyM r).length ≤ 100000 := by
  have hn := weeklyCnt_le ok
  have h := flat_len (weeklyOne r) 7 (fun k => by unfold weeklyOne; rw [List.length_map]; exact wdsOf_len ok) (weeklyCnt r)
  show ((List.range (weeklyCnt r)).flatMap (weeklyOne r)).length ≤ _
  omega
theorem comes_len {r : Rule} (ok : ROk r) : (comes r).length ≤ 36525 := up_length (up_comes ok) (comes_lt r)
theorem cutV_to {l : List Nat} {t : Nat} : cutV (iv l) none (some ((t : Nat) : Int)) = iv (l.take t) := by
  unfold cutV
  rw [HT.sIx_nat, HT.sIx_none, List.drop_zero, Nat.sub_zero]
  show ((l.map fun n : Nat => V.int (n : Int)).take _) = _
  rw [← List.map_take, iv_len]
  unfold iv
  refine congrArg _ ?_
  by_cases h : t ≤ l.length
  · rw [Nat.min_eq_left h]
  · rw [Nat.min_eq_right (by omega), List.take_of_length_le (Nat.le_refl _), List.take_of_length_le (by omega)]
theorem ints_keep (r : Rule) (L : List Int) (f : V → Bool) (hf : ∀ z : Int, f (.int z) = (decide ((r.start : Int) ≤ z) && decide (z ≤ 36524))) : ((L.map V.int).filter f).map (fun v => v) = (keep r L).map V.int := by
  unfold keep
  rw [List.filter_map, List.map_map]
  refine congrArg (List.map V.int) ?_
  refine List.filter_congr fun z _ => ?_
  exact hf z
def sp_repeated_days (K : PySem.W.Frag) : Sp := fun vs H Q _ => ∃ (a : Addr) (r : Rule), vs = [.ref a] ∧ RuleAt K H a r ∧ ROk r ∧ ∀ p H', H p = none → Same H H' → H' p = some (.lst (iv (comes r))) → Q (.ref p) H' 
section
variable {P : Program} {w : World} {K : PySem.W.Frag} {mg : Str → Option Value} {base : Heap}
theorem sc_repeated_days : FnScope ["rule", "days", "day"] ["rule"] (defScope s_repeated_days) := ⟨rfl, rfl, rfl, by decide +kernel, rfl, by decide +kernel, by decide +kernel⟩
theorem ok_repeated_days (T : Tx K mg) : DefOk P w K mg base CX0 7 "repeated_days" ["rule"] (sp_repeated_days K) := by
  obtain ⟨fd, F⟩ := T.f_repeated_days
  refine ⟨⟨fd, F.ok sc_repeated_days (fun vs H Q E h => ?_) (fun cdv A outer s H vs Q E hr h => ?_), F.bindsN fun _ _ _ _ _ _ us hl => match us, hl with | [_], _ => rfl⟩, F.kp, T.g_repeated_days⟩
  · obtain ⟨a, r, rfl, _⟩ := h
    rfl
  · refine ⟨_, PSs.nox (Evl.pss_cut (ps_if (pt_cmpR op_eq (pe_fldK (K := K) rfl (pv 0) rfl) pe_str (nomark _)) (pss_one (ps_set (i := 1) sc_repeated_days.nd rfl (by first | exact Or.inl rfl | exact Or.inr rfl) (pe_fn (ok_daily_days T) (hr.mono (by decide)) (by rfl) pass0 (pa_cons (pv 0) pa_nil)))) (pss_one (ps_if (pt_cmpR op_eq (pe_fldK (K := K) rfl (pv 0) rfl) pe_str (nomark _)) (pss_one (ps_set (i := 1) sc_repeated_days.nd rfl (by first | exact Or.inl rfl | exact Or.inr rfl) (pe_fn (ok_weekly_days T) (hr.mono (by decide)) (by rfl) pass0 (pa_cons (pv 0) pa_nil)))) (pss_one (ps_if (pt_cmpR op_eq (pe_fldK (K := K) rfl (pv 0) rfl) pe_str (nomark _)) (pss_one (ps_set (i := 1) sc_repeated_days.nd rfl (by first | exact Or.inl rfl | exact Or.inr rfl) (pe_fn (ok_monthly_days T) (hr.mono (by decide)) (by rfl) pass0 (pa_cons (pv 0) pa_nil)))) (pss_one (ps_set (i := 1) sc_repeated_days.nd rfl (by first | exact Or.inl rfl | exact Or.inr rfl) (pe_fn (ok_yearly_days T) (hr.mono (by decide)) (by rfl) pass0 (pa_cons (pv 0) pa_nil)))))))))
      (pss_one (ps_ret (pe_lc (own := [("day", 2)]) (g := gName 2) rfl sc_repeated_days.nd (pi_list (pv 1)) (blkOk_by (N := ["rule", "days", "day"]) (sc := defScope s_repeated_days) (by decide +kernel)) (fun _ _ _ _ _ => pg_name (i := 2) sc_repeated_days.nd rfl (Or.inl rfl)) (fun _ _ _ _ _ => pts_one (pt_chain op_le op_le (pe_fldK (K := K) rfl (pv 0) rfl) (pv 2) (pe_gi T.i_LAST_DAY (by rfl)))) (fun _ _ _ _ _ => (pv 2)))))), ?_⟩
    clear F hr
    obtain ⟨a, r, rfl, hR, ok, hQ⟩ := h
    obtain ⟨dx, wd, it, ms, nt, al, ts, hA, hwd, hit, hI, hms, hnt, hal⟩ := hR.ex
    have lwd := ok.lwd
    have lms := ok.lms
    have lit := ok.lit
    have b1 := ok.by1
    have b99 := ok.by99
    have hst := ok.start
    have fin : ∀ {D : Ends} (p : Addr) (H1 : Hp) (L : List Int), H p = none → Same H H1 → H1 p = some (.lst (L.map V.int)) → keep r L = (comes r).map (fun n : Nat => (n : Int)) → L.length ≤ 100000 → (∃ da L, [some (V.ref a), some (.ref p), none] = [some (V.ref a), some (.ref da), none] ∧ H da = none ∧ Same H H1 ∧ H1 da = some (.lst (L.map V.int)) ∧ keep r L = (comes r).map (fun n : Nat => (n : Int)) ∧ L.length ≤ 100000) := fun p H1 L hp s1 d1 e l => ⟨p, L, rfl, hp, s1, d1, e, l⟩
    have h4 : r.freq = 0 ∨ r.freq = 1 ∨ r.freq = 2 ∨ r.freq = 3 := by have := ok.freq; omega
    refine w_cut (fun σ' H' => ∃ da L, σ' = [some (.ref a), some (.ref da), none] ∧ H da = none ∧ Same H H' ∧ H' da = some (.lst (L.map V.int)) ∧ keep r L = (comes r).map (fun n : Nat => (n : Int)) ∧ L.length ≤ 100000) ?_ ?_
    · walk_at "w"
      refine w_r_kind T hA ?_
      walk_at "w"
      rcases h4 with e | e | e | e
      · rw [e]
        refine w_yes (by rfl) ?_
        walk_at "w"
        refine ⟨a, r, rfl, hR, ok, fun p H1 hp s1 d1 => ?_⟩
        walk_at "w"
        rw [iv_ints] at d1
        exact ⟨p, _, rfl, hp, s1, d1, (comes_daily' e).symm, by rw [List.length_map]; have := dailyM_len ok; omega⟩
      · rw [e]
        refine w_no (by decide +kernel) ?_
        walk_at "w"
        refine w_r_kind T hA ?_
        walk_at "w"
        rw [e]
        refine w_yes (by rfl) ?_
        walk_at "w"
        refine ⟨a, r, rfl, hR, ok, fun p H1 hp s1 d1 => ?_⟩
        walk_at "w"
        exact ⟨p, _, rfl, hp, s1, d1, (comes_weekly e ok).symm, weeklyM_len ok⟩
      · rw [e]
        refine w_no (by decide +kernel) ?_
        walk_at "w"
        refine w_r_kind T hA ?_
        walk_at "w"
        rw [e]
        refine w_no (by decide +kernel) ?_
        walk_at "w"
        refine w_r_kind T hA ?_
        walk_at "w"
        rw [e]
        refine w_yes (by rfl) ?_
        walk_at "w"
        refine ⟨a, r, rfl, hR, ok, fun p H1 hp s1 d1 => ?_⟩
        walk_at "w"
        rw [iv_ints] at d1
        exact ⟨p, _, rfl, hp, s1, d1, (comes_monthly e ok).symm, by rw [List.length_map]; exact monthlyM_len ok⟩
      · rw [e]
        refine w_no (by decide +kernel) ?_
        walk_at "w"
        refine w_r_kind T hA ?_
        walk_at "w"
        rw [e]
        refine w_no (by decide +kernel) ?_
        walk_at "w"
        refine w_r_kind T hA ?_
        walk_at "w"
        rw [e]
        refine w_no (by decide +kernel) ?_
        walk_at "w"
        refine ⟨a, r, rfl, hR, ok, fun p H1 hp s1 d1 => ?_⟩
        walk_at "w"
        rw [iv_ints] at d1
        exact ⟨p, _, rfl, hp, s1, d1, (comes_yearly e ok).symm, by rw [List.length_map]; exact yearlyM_len ok⟩
    rintro _ H1 ⟨da, L, rfl, hda, s1, d1, ek, hl⟩
    walk_at "w"
    refine ⟨_, rfl, ⟨_, SqL.of d1⟩, fun D hD => lc_ext (fun v => match v with | .int z => decide ((r.start : Int) ≤ z) && decide (z ≤ 36524) | _ => false) (fun v => v) (SqL.of d1) hD (by rw [List.length_map]; exact hl) (fun x hx => ?_) fun H3 s3 d3 => hQ D H3 (Same.free s1 hD) (Same.trans s1 s3) ?_⟩
    · obtain ⟨z, _, rfl⟩ := List.mem_map.mp hx
      intro H' F G s hF hG
      walk_at "w"
      refine ⟨rfl, ?_⟩
      walk_at "w"
      refine w_r_first_day T (s _ _ (s1 _ _ hA)) ?_
      walk_at "w"
      refine w_cases (fun c1 => ?_) (fun c1 => ?_)
      · walk_at "w"
        refine w_cases (fun c2 => ?_) (fun c2 => ?_)
        · walk_at "w"
          exact hF (by simp only [decide_eq_true c1, decide_eq_true c2, Bool.and_self]) _ (Same.refl _)
        · exact hG (by simp only [decide_eq_false c2, Bool.and_false]) _ (Same.refl _)
      · walk_at "w"
        exact hG (by simp only [decide_eq_false c1, Bool.false_and]) _ (Same.refl _)
    · rw [d3, ints_keep r L _ (fun z => rfl), ek, ← iv_ints]
end

def sp_ended_days (K : PySem.W.Frag) : Sp := fun vs H Q _ => ∃ (a : Addr) (r : Rule), vs = [.ref a] ∧ RuleAt K H a r ∧ ROk r ∧ ∀ p H', H p = none → Same H H' → H' p = some (.lst (iv (endedL r))) → Q (.ref p) H' 
section
variable {P : Program} {w : World} {K : PySem.W.Frag} {mg : Str → Option Value} {base : Heap}
theorem sc_ended_days : FnScope ["rule", "days", "day"] ["rule"] (defScope s_ended_days) := ⟨rfl, rfl, rfl, by decide +kernel, rfl, by decide +kernel, by decide +kernel⟩
theorem ok_ended_days (T : Tx K mg) : DefOk P w K mg base CX0 8 "ended_days" ["rule"] (sp_ended_days K) := by
  obtain ⟨fd, F⟩ := T.f_ended_days
  refine ⟨⟨fd, F.ok sc_ended_days (fun vs H Q E h => ?_) (fun cdv A outer s H vs Q E hr h => ?_), F.bindsN fun _ _ _ _ _ _ us hl => match us, hl with | [_], _ => rfl⟩, F.kp, T.g_ended_days⟩
  · obtain ⟨a, r, rfl, _⟩ := h
    rfl
  · refine ⟨_, PSs.nox (pss_cons (ps_set (i := 1) sc_ended_days.nd rfl (by first | exact Or.inl rfl | exact Or.inr rfl) (pe_fn (ok_repeated_days T) (hr.mono (by decide)) (by rfl) pass0 (pa_cons (pv 0) pa_nil)))
      (pss_cons (ps_if (pt_cmpR op_ge (pe_fldK (K := K) rfl (pv 0) rfl) pe_int (nomark _)) (pss_one (ps_ret (pe_lc (own := [("day", 2)]) (g := gName 2) rfl sc_ended_days.nd (pi_list (pv 1)) (blkOk_by (N := ["rule", "days", "day"]) (sc := defScope s_ended_days) (by decide +kernel)) (fun _ _ _ _ _ => pg_name (i := 2) sc_ended_days.nd rfl (Or.inl rfl)) (fun _ _ _ _ _ => pts_one (pt_cmpR op_le (pv 2) (pe_fldK (K := K) rfl (pv 0) rfl) (nomark _))) (fun _ _ _ _ _ => (pv 2))))) pss_nil)
      (pss_cons (ps_if (pt_cmpR op_gt (pe_fldK (K := K) rfl (pv 0) rfl) pe_int (nomark _)) (pss_one (ps_ret (pe_slice sl_list (pv 1) po_none (po_some (pe_fldK (K := K) rfl (pv 0) rfl))))) pss_nil)
      (pss_one (ps_ret (pv 1)))))), ?_⟩
    clear F hr
    obtain ⟨a, r, rfl, hR, ok, hQ⟩ := h
    obtain ⟨dx, wd, it, ms, nt, al, ts, hA, hwd, hit, hI, hms, hnt, hal⟩ := hR.ex
    have lwd := ok.lwd
    have lms := ok.lms
    have lit := ok.lit
    have b1 := ok.by1
    have b99 := ok.by99
    have hst := ok.start
    have h3 := ok.halt
    have hu := ok.until_
    have ht := ok.times
    have hcl := comes_len ok
    walk_at "w"
    refine ⟨a, r, rfl, hR, ok, fun da H1 hda s1 d1 => ?_⟩
    walk_at "w"
    refine w_r_until T (s1 _ _ hA) ?_
    walk_at "w"
    refine w_cases (fun c => ?_) (fun c => ?_)
    · have e1 : r.halt_ = 1 := by
        by_cases z : r.halt_ = 1
        · exact z
        · rw [if_neg z] at c
          omega
      walk_at "w"
      refine ⟨_, rfl, ⟨_, SqL.of d1⟩, fun D hD => lc_ext (fun v => match v with | .int z => decide (z.toNat ≤ r.last) | _ => false) (fun v => v) (SqL.of d1) hD (by rw [iv_len]; omega) (fun x hx => ?_) fun H3 s3 d3 => hQ D H3 (Same.free s1 hD) (Same.trans s1 s3) ?_⟩
      · obtain ⟨n, _, rfl⟩ := iv_mem hx
        intro H' F G s hF hG
        walk_at "w"
        refine ⟨rfl, ?_⟩
        walk_at "w"
        refine w_r_until T (s _ _ (s1 _ _ hA)) ?_
        rw [if_pos e1]
        walk_at "w"
        refine w_cases (fun c1 => ?_) (fun c1 => ?_)
        · walk_at "w"
          exact hF (decide_eq_true (by rw [Int.toNat_natCast]; omega)) _ (Same.refl _)
        · exact hG (decide_eq_false (by rw [Int.toNat_natCast]; omega)) _ (Same.refl _)
      · rw [d3]
        unfold endedL
        rw [e1]
        exact congrArg (fun z => some (HO.lst z)) (iv_filter _ _ _ _ (fun n _ => by show decide ((n : Int).toNat ≤ r.last) = _; rw [Int.toNat_natCast]) fun n => rfl)
    · have e1 : ¬ r.halt_ = 1 := fun z => c (by rw [if_pos z]; omega)
      walk_at "w"
      refine w_r_times T (s1 _ _ hA) ?_
      walk_at "w"
      refine w_cases (fun c2 => ?_) (fun c2 => ?_)
      · have e2 : r.halt_ = 2 := by
          by_cases z : r.halt_ = 2
          · exact z
          · rw [if_neg z] at c2
            omega
        walk_at "w"
        refine w_r_times T (s1 _ _ hA) ?_
        rw [if_pos e2]
        walk_at "w"
        refine w_sll (SqL.of d1) fun p hp => ?_
        rw [cutV_to]
        refine hQ p _ (Same.free s1 hp) (same_mut s1 (Same.free s1 hp)) ?_
        rw [upd_same]
        unfold endedL
        rw [e2]
        rfl
      · have e0 : r.halt_ = 0 := by
          by_cases z : r.halt_ = 2
          · have := ht z
            rw [if_pos z] at c2
            omega
          · omega
        walk_at "w"
        refine hQ da H1 hda s1 ?_
        rw [d1]
        unfold endedL
        rw [e0]
        rfl
end

def sp_days_of (K : PySem.W.Frag) : Sp := fun vs H Q _ => ∃ (a : Addr) (r : Rule), vs = [.ref a] ∧ RuleAt K H a r ∧ ROk r ∧ ∀ p H', H p = none → Same H H' → H' p = some (.lst (iv (days r))) → Q (.ref p) H' 
section
variable {P : Program} {w : World} {K : PySem.W.Frag} {mg : Str → Option Value} {base : Heap}
theorem sc_days_of : FnScope ["rule"] ["rule"] (defScope s_days_of) := ⟨rfl, rfl, rfl, by decide +kernel, rfl, by decide +kernel, by decide +kernel⟩
theorem ok_days_of (T : Tx K mg) : DefOk P w K mg base CX0 9 "days_of" ["rule"] (sp_days_of K) := by
  obtain ⟨fd, F⟩ := T.f_days_of
  refine ⟨⟨fd, F.ok sc_days_of (fun vs H Q E h => ?_) (fun cdv A outer s H vs Q E hr h => ?_), F.bindsN fun _ _ _ _ _ _ us hl => match us, hl with | [_], _ => rfl⟩, F.kp, T.g_days_of⟩
  · obtain ⟨a, r, rfl, _⟩ := h
    rfl
  · refine ⟨_, PSs.nox (pss_one (ps_ret (pe_fn (ok_either_of T) (hr.mono (by decide)) (by rfl) pass0 (pa_cons (pe_fn (ok_less_of T) (hr.mono (by decide)) (by rfl) pass0 (pa_cons (pe_fn (ok_ended_days T) (hr.mono (by decide)) (by rfl) pass0 (pa_cons (pv 0) pa_nil)) (pa_cons (pe_fldK (K := K) rfl (pv 0) rfl) pa_nil))) (pa_cons (pe_fldK (K := K) rfl (pv 0) rfl) pa_nil))))), ?_⟩
    clear F hr
    obtain ⟨a, r, rfl, hR, ok, hQ⟩ := h
    obtain ⟨dx, wd, it, ms, nt, al, ts, hA, hwd, hit, hI, hms, hnt, hal⟩ := hR.ex
    have lwd := ok.lwd
    have lms := ok.lms
    have lit := ok.lit
    have b1 := ok.by1
    have b99 := ok.by99
    have hst := ok.start
    have lnt := ok.lnt
    have lal := ok.lal
    have hel : (endedL r).length ≤ 36525 := Nat.le_trans (endedL_sub r).length_le (comes_len ok)
    walk_at "w"
    refine ⟨a, r, rfl, hR, ok, fun p1 H1 hp1 s1 d1 => ?_⟩
    walk_at "w"
    refine w_r_without T (s1 _ _ hA) ?_
    walk_at "w"
    refine ⟨p1, nt, _, _, rfl, SqL.of d1, Same.seq s1 hnt, by omega, by omega, fun p2 H2 hp2 s2 d2 => ?_⟩
    walk_at "w"
    have s3 := Same.trans s1 s2
    refine w_r_also T (s3 _ _ hA) ?_
    walk_at "w"
    have hf := List.length_filter_le (fun x => !r.not_.contains x) (endedL r)
    refine ⟨p2, al, _, _, rfl, d2, Same.seq s3 hal, by omega, by omega, Up.filter (up_ended ok) _, ok.ual, fun p3 H3 hp3 s4 d4 => ?_⟩
    refine hQ p3 H3 (Same.free s3 hp3) (Same.trans s3 s4) ?_
    rw [d4, days_eq ok]
end


theorem put_new {f : Str} {v : V} : ∀ {fs : List (Str × V)}, (fs.all fun p => !(p.1 == f)) = true → putF f v fs = fs ++ [(f, v)]
  | [], _ => rfl
  | (g, x) :: r, h => by
    rw [List.all_cons, Bool.and_eq_true] at h
    have hg : ¬ g = f := by
      intro e
      subst e
      have h1 := h.1
      simp at h1
    rw [put_past hg, put_new h.2]
    rfl

theorem w_init {K : PySem.W.Frag} {D : Ends} {σ : L2.St} {H0 H : Hp} {x dx C : Addr} {f : Str} {v : V} {fs : List (Str × V)} (HX : H x = some (.ins C dx fs)) (OFF : ∀ b, b ≠ x → H b = H0 b) (hc : Cls K C) (hn : NoAttr K C f) (hl : fs.length < 1000) (hf : (fs.all fun p => !(p.1 == f)) = true)
    (k : ∀ H', H' x = some (.ins C dx (fs ++ [(f, v)])) → (∀ b, b ≠ x → H' b = H0 b) → D.nx σ H') : ∃ a C dx fs, V.ref x = .ref a ∧ H a = some (.ins C dx fs) ∧ Cls K C ∧ NoAttr K C f ∧ fs.length < 1000 ∧ D.nx σ (upd H a (.ins C dx (putF f v fs))) := by
  refine ⟨x, C, dx, fs, rfl, HX, hc, hn, hl, ?_⟩
  rw [put_new hf]
  exact k _ upd_same fun b hb => by rw [upd_ne hb]; exact OFF b hb

def sp_Rule___init__ (K : PySem.W.Frag) : Sp := fun vs H Q _ => ∃ (x dx wd it ms nt al : Addr) (r : Rule), vs = [.ref x, .str (SX.S (FREQS.getD r.freq [])), .int (r.by_ : Nat), .ref wd, .ref it, .ref ms, .int (r.start : Nat), .int (if r.halt_ = 1 then (r.last : Nat) else -1), .int (if r.halt_ = 2 then (r.last : Nat) else 0), .ref nt, .ref al] ∧
  H x = some (.ins (He.ga K "Rule") dx []) ∧ ∀ H', (∀ b, b ≠ x → H' b = H b) → H' x = some (.ins (He.ga K "Rule") dx (ruleF r wd it ms nt al)) → Q .non H' 
section
variable {P : Program} {w : World} {K : PySem.W.Frag} {mg : Str → Option Value} {base : Heap}
theorem sc_Rule___init__ : FnScope ["self", "kind", "step", "weekdays", "picks", "months", "first_day", "until", "times", "without", "also"] ["self", "kind", "step", "weekdays", "picks", "months", "first_day", "until", "times", "without", "also"] (defScope s_Rule___init__) := ⟨rfl, rfl, rfl, by decide +kernel, rfl, by decide +kernel, by decide +kernel⟩
theorem mk_Rule (T : Tx K mg) : MakOk P w K mg base 1 "Rule" ["self", "kind", "step", "weekdays", "picks", "months", "first_day", "until", "times", "without", "also"] (sp_Rule___init__ K) := by
  obtain ⟨fd, F⟩ := T.f_Rule___init__
  refine ⟨⟨fd, F.ok sc_Rule___init__ (fun vs H Q E h => ?_) (fun cdv A outer s H vs Q E hr h => ?_), F.bindsN fun _ _ _ _ _ _ us hl => match us, hl with | [_, _, _, _, _, _, _, _, _, _, _], _ => rfl⟩, T.k_Rule, T.g_Rule⟩
  · obtain ⟨x, dx, wd, it, ms, nt, al, r, rfl, _⟩ := h
    rfl
  · refine ⟨_, PSs.nox (pss_cons (ps_fld (pv 0) (pv 1) rfl)
      (pss_cons (ps_fld (pv 0) (pv 2) rfl)
      (pss_cons (ps_fld (pv 0) (pv 3) rfl)
      (pss_cons (ps_fld (pv 0) (pv 4) rfl)
      (pss_cons (ps_fld (pv 0) (pv 5) rfl)
      (pss_cons (ps_fld (pv 0) (pv 6) rfl)
      (pss_cons (ps_fld (pv 0) (pv 7) rfl)
      (pss_cons (ps_fld (pv 0) (pv 8) rfl)
      (pss_cons (ps_fld (pv 0) (pv 9) rfl)
      (pss_one (ps_fld (pv 0) (pv 10) rfl))))))))))), ?_⟩
    clear F hr
    obtain ⟨x, dx, wd, it, ms, nt, al, r, rfl, HX0, hQ⟩ := h
    generalize hu : (if r.halt_ = 1 then ((r.last : Nat) : Int) else -1) = vu
    generalize ht : (if r.halt_ = 2 then ((r.last : Nat) : Int) else 0) = vt
    have OFF0 : ∀ b, b ≠ x → H b = H b := fun b _ => rfl
    walk_at "w"
    refine w_init HX0 OFF0 T.c_Rule T.n_Rule_kind (by show (0 : Nat) < 1000; decide) (by rfl) fun H1 HX1 OFF1 => ?_
    walk_at "w"
    refine w_init HX1 OFF1 T.c_Rule T.n_Rule_step (by show (1 : Nat) < 1000; decide) (by rfl) fun H2 HX2 OFF2 => ?_
    walk_at "w"
    refine w_init HX2 OFF2 T.c_Rule T.n_Rule_weekdays (by show (2 : Nat) < 1000; decide) (by rfl) fun H3 HX3 OFF3 => ?_
    walk_at "w"
    refine w_init HX3 OFF3 T.c_Rule T.n_Rule_picks (by show (3 : Nat) < 1000; decide) (by rfl) fun H4 HX4 OFF4 => ?_
    walk_at "w"
    refine w_init HX4 OFF4 T.c_Rule T.n_Rule_months (by show (4 : Nat) < 1000; decide) (by rfl) fun H5 HX5 OFF5 => ?_
    walk_at "w"
    refine w_init HX5 OFF5 T.c_Rule T.n_Rule_first_day (by show (5 : Nat) < 1000; decide) (by rfl) fun H6 HX6 OFF6 => ?_
    walk_at "w"
    refine w_init HX6 OFF6 T.c_Rule T.n_Rule_until (by show (6 : Nat) < 1000; decide) (by rfl) fun H7 HX7 OFF7 => ?_
    walk_at "w"
    refine w_init HX7 OFF7 T.c_Rule T.n_Rule_times (by show (7 : Nat) < 1000; decide) (by rfl) fun H8 HX8 OFF8 => ?_
    walk_at "w"
    refine w_init HX8 OFF8 T.c_Rule T.n_Rule_without (by show (8 : Nat) < 1000; decide) (by rfl) fun H9 HX9 OFF9 => ?_
    walk_at "w"
    refine w_init HX9 OFF9 T.c_Rule T.n_Rule_also (by show (9 : Nat) < 1000; decide) (by rfl) fun H10 HX10 OFF10 => ?_
    walk_at "w"
    subst hu
    subst ht
    exact hQ H10 OFF10 HX10
end

end CA
end file_CaM5
section file_CaRd
set_option maxRecDepth 100000
set_option maxHeartbeats 4000000
/-! The words as they lie in the heap; steps for the reading. -/
namespace CA
open PySem PySem.Spec PyProof.Rows L2
open SX (S)
/-- everything but one address stays -/
def Off (a : Addr) (H H' : Hp) : Prop := ∀ b u, b ≠ a → H b = some u → H' b = some u
theorem Off.refl (a : Addr) (H : Hp) : Off a H H := fun _ _ _ e => e
theorem Off.trans {a : Addr} {H1 H2 H3 : Hp} (s : Off a H1 H2) (t : Off a H2 H3) : Off a H1 H3 := fun b u n e => t b u n (s b u n e)
theorem Same.off {a : Addr} {H H' : Hp} (s : Same H H') : Off a H H' := fun b u _ e => s b u e
theorem off_upd {a : Addr} {H : Hp} {o : HO} : Off a H (upd H a o) := fun b u n e => by rw [upd_ne n]; exact e
theorem Off.same {a : Addr} {H0 H H' : Hp} (s : Same H0 H) (f : H0 a = none) (o : Off a H H') : Same H0 H' := fun b u e => o b u (fun z => by rw [z, f] at e; cases e) (s b u e)
def wordsF (ps : Addr) (i : Nat) : List (Str × V) := [("parts", .ref ps), ("place", .int (i : Int))]
/-- a text's words are like this -/
def WOk (w : List Nat) : Prop := w.length ≤ 200 ∧ ∀ c ∈ w, c < 128
/-- the words that are left -/
def WordsR (K : PySem.W.Frag) (H : Hp) (a : Addr) (l : List (List Nat)) : Prop := ∃ (dx ps : Addr) (ws : List (List Nat)) (i : Nat), H a = some (.ins (He.ga K "Words") dx (wordsF ps i)) ∧ H ps = some (.lst (ws.map sv)) ∧ ws.length ≤ 100000 ∧ ws.drop i = l ∧ ∀ w ∈ ws, WOk w
theorem WordsR.same {K : PySem.W.Frag} {H H' : Hp} {a : Addr} {l : List (List Nat)} (h : WordsR K H a l) (s : Same H H') : WordsR K H' a l := by
  obtain ⟨dx, ps, ws, i, h1, h2, h3⟩ := h
  exact ⟨dx, ps, ws, i, s _ _ h1, s _ _ h2, h3⟩
theorem WordsR.ok {K : PySem.W.Frag} {H : Hp} {a : Addr} {l : List (List Nat)} (h : WordsR K H a l) : ∀ w ∈ l, WOk w := by
  obtain ⟨dx, ps, ws, i, h1, h2, h3, rfl, h5⟩ := h
  exact fun w hw => h5 w (List.mem_of_mem_drop hw)
theorem wok_nil : WOk [] := ⟨Nat.zero_le _, fun _ h => absurd h List.not_mem_nil⟩
theorem wok_hd {l : List (List Nat)} (h : ∀ w ∈ l, WOk w) : WOk (l.headD []) := by
  cases l with
  | nil => exact wok_nil
  | cons a r => exact h a List.mem_cons_self
/-- the place one further -/
theorem WordsR.step {K : PySem.W.Frag} {H : Hp} {a : Addr} {l : List (List Nat)} {dx ps : Addr} {ws : List (List Nat)} {i : Nat} (h1 : H a = some (.ins (He.ga K "Words") dx (wordsF ps i))) (h2 : H ps = some (.lst (ws.map sv))) (h3 : ws.length ≤ 100000) (h4 : ws.drop i = l) (h5 : ∀ w ∈ ws, WOk w) {v : V} (hv : v = .int ((i : Int) + 1)) :
    WordsR K (upd H a (.ins (He.ga K "Words") dx (putF "place" v (wordsF ps i)))) a l.tail := by
  subst hv
  have ne : ps ≠ a := fun z => by rw [z, h1] at h2; cases h2
  refine ⟨dx, ps, ws, i + 1, ?_, by rw [upd_ne ne]; exact h2, h3, ?_, h5⟩
  · rw [upd_same]
    unfold wordsF
    rw [put_past (by decide +kernel), put_here]
    rfl
  · rw [← h4, List.tail_drop]
section
variable {σ : L2.St} {H : Hp} {Q : VK} {D : Ends} {te to ta tv : TE} {tl : TA} {K : PySem.W.Frag}
theorem w_me {C : Addr} {m : Str} {sp : Sp} {E : XK} {t : TA} (h : ta σ H fun x H1 => ∃ a dx fs, x = .ref a ∧ H1 a = some (.ins C dx fs) ∧ fs.lookup m = none ∧ t σ H1 fun vs H2 => sp (x :: vs) H2 Q E) : tMe C m sp E ta t σ H Q := h
theorem w_mk {C : Addr} {sp : Sp} {t : TA} (h : t σ H fun vs H1 => ∀ x dx, H1 x = none → H1 dx = none → dx ≠ x → sp (.ref x :: vs) (upd (upd H1 dx (.own x)) x (.ins C dx [])) (fun v H2 => v = .non ∧ Q (.ref x) H2) E0) : tMk C sp t σ H Q := h
theorem w_sfa {rd : V → V → Hp → VK → Prop} {f : Str} (h : ta σ H fun x H1 => ∃ a C dx fs v, x = .ref a ∧ H1 a = some (.ins C dx fs) ∧ Cls K C ∧ NoAttr K C f ∧ fs.lookup f = some v ∧
  tv σ H1 fun y H2 => rd v y H2 fun z H3 => ∃ dx' fs', H3 a = some (.ins C dx' fs') ∧ fs'.length < 1000 ∧ D.nx σ (upd H3 a (.ins C dx' (putF f z fs')))) : sFldAug K ta tv rd f D σ H := h
/-- a call of a method of the words -/
theorem w_wd {a : Addr} {l : List (List Nat)} {m : Str} {F : Prop} (W : WordsR K H a l) (hm : (∀ ps i, (wordsF ps i).lookup m = none)) (h : F) : ∃ a' dx fs, V.ref a = .ref a' ∧ H a' = some (.ins (He.ga K "Words") dx fs) ∧ fs.lookup m = none ∧ F := by
  obtain ⟨dx, ps, ws, i, h1, _⟩ := W
  exact ⟨a, dx, _, rfl, h1, hm ps i, h⟩
theorem lk_words {m : Str} (h1 : (m == ("parts" : Str)) = false) (h2 : (m == ("place" : Str)) = false) : ∀ (ps : Addr) (i : Nat), (wordsF ps i).lookup m = none := fun ps i => by
  unfold wordsF
  rw [lk_past h1, lk_past h2]
  rfl
end
/-- a text's items for a for loop -/
theorem for_str {z : Str} {g : TG} {tb : TS} {D : Ends} {σ : L2.St} {H : Hp} (Pv : Nat → L2.St → Hp → Prop) (h0 : Pv 0 σ H)
    (hs : ∀ i c σ H, z.cps[i]? = some c → Pv i σ H → g (.str ⟨#[c]⟩) σ H fun σ2 H2 => tb { D with nx := Pv (i + 1), ct := Pv (i + 1), bk := D.nx } σ2 H2) (hd : ∀ σ H, Pv z.cps.size σ H → D.nx σ H) :
    ∃ W : Nat → Nat → L2.St → Hp → Prop, (∃ m, W 0 m σ H) ∧ ∀ i m σ H, W i m σ H →
      ((Its z).stop i H ∧ D.nx σ H) ∨ ((Its z).go i H ∧ ∃ N : L2.St → Hp → Prop, (∀ σ' H', N σ' H' → ∃ m', m' < m ∧ W (i + 1) m' σ' H') ∧ ∀ x H', (Its z).yld i H x H' → g x σ H' fun σ2 H2 => tb { D with nx := N, ct := N, bk := D.nx } σ2 H2) := by
  refine ⟨fun i m σ H => m = z.cps.size - i ∧ i ≤ z.cps.size ∧ Pv i σ H, ⟨z.cps.size, by simp, Nat.zero_le _, h0⟩, ?_⟩
  rintro i m σ H ⟨rfl, hi, p⟩
  by_cases hlt : i < z.cps.size
  · refine .inr ⟨hlt, Pv (i + 1), fun σ' H' p' => ⟨z.cps.size - (i + 1), by omega, rfl, hlt, p'⟩, fun x H' y => ?_⟩
    obtain ⟨rfl, c, hc, rfl⟩ := y
    exact hs i c σ _ hc p
  · have e : i = z.cps.size := by omega
    subst e
    exact .inl ⟨Nat.le_refl _, hd σ H p⟩
/-! ### a list made item by item, where an item may fail -/
section
variable {K : PySem.W.Frag} {g : TG} {te : TE} {vs : List Nat} {σ : L2.St} {H : Hp}
theorem mapM_take {A B : Type} {f : A → Option B} : ∀ {l : List A} {r : List B} {i : Nat} {a : A} {b : B}, List.mapM f (l.take i) = some r → l[i]? = some a → f a = some b → List.mapM f (l.take (i + 1)) = some (r ++ [b])
  | [], _, _, _, _, _, h, _ => by cases h
  | x :: l, r, 0, a, b, h, h2, h3 => by
    obtain rfl := Option.some.inj h2
    obtain rfl := Option.some.inj h
    show List.mapM f [x] = _
    rw [mapM_cons', h3]
    rfl
  | x :: l, r, i + 1, a, b, h, h2, h3 => by
    rw [List.take_succ_cons, mapM_cons'] at h
    rw [List.take_succ_cons, mapM_cons']
    cases e : f x with
    | none => rw [e] at h; cases h
    | some y =>
      cases e2 : List.mapM f (l.take i) with
      | none => rw [e, e2] at h; cases h
      | some c =>
        rw [e, e2] at h
        obtain rfl := Option.some.inj h
        rw [mapM_take e2 (by rw [List.getElem?_cons_succ] at h2; exact h2) h3]
        rfl
theorem mapM_fail {A B : Type} {f : A → Option B} : ∀ {l : List A} {i : Nat} {a : A}, l[i]? = some a → f a = none → List.mapM f l = none
  | x :: l, 0, a, h2, h3 => by
    obtain rfl := Option.some.inj h2
    rw [mapM_cons', h3]
    rfl
  | x :: l, i + 1, a, h2, h3 => by
    rw [mapM_cons', mapM_fail (l := l) (i := i) (by rw [List.getElem?_cons_succ] at h2; exact h2) h3]
    cases f x <;> rfl
/-- texts read one by one; Rr tells a value by what was read -/
theorem lc_read {A B : Type} (em : A → V) {a D : Addr} {Qd : Hp → Prop} {ws : List A} (f : A → Option B) (Rr : Hp → List V → List B → Prop) (hS : SqL K H a (ws.map em)) (hD : H D = none) (hz : ws.length ≤ 100000)
    (h0 : Rr (upd H D (.lst [])) [] [])
    (hs : ∀ (i : Nat) (w : A), ws[i]? = some w → ∀ (H' : Hp) (F : V → Hp → Prop) (vsn : List V) (bs : List B), Same H H' → H' D = some (.lst vsn) → Rr H' vsn bs →
      (∀ b v H2, f w = some b → Same H' H2 → (∀ H3, Same H H3 → (∀ p u, p ≠ D → H2 p = some u → H3 p = some u) → Rr H3 (vsn ++ [v]) (bs ++ [b])) → F v H2) → (∀ H2, Same H' H2 → f w = none → ws.mapM f = none) →
      g (em w) (wipe σ vs) H' fun σ2 H2 => wipe σ2 vs = wipe σ vs ∧ te σ2 H2 F)
    (hr : ∀ H1 vsn bs, Rr H1 vsn bs → vsn.length = bs.length)
    (hd : ∀ H' vsn bs, ws.mapM f = some bs → Same H H' → H' D = some (.lst vsn) → Rr H' vsn bs → Qd H') :
    ∃ W : Nat → Nat → Hp → Prop, (∃ m, W 0 m (upd H D (.lst []))) ∧ ∀ i m H, W i m H →
      ((Itl K a).stop i H ∧ Qd H) ∨ ((Itl K a).go i H ∧ ∃ Nx : Hp → Prop, (∀ H', Nx H' → ∃ m', m' < m ∧ W (i + 1) m' H') ∧ ∀ x H', (Itl K a).yld i H x H' → g x (wipe σ vs) H' fun σ2 H2 => wipe σ2 vs = wipe σ vs ∧ tYes σ2 H2 fun b H3 =>
        if b = true then te σ2 H3 fun y H4 => ∃ acc, H4 D = some (.lst acc) ∧ acc.length < sizeLine ∧ Nx (upd H4 D (.lst (acc ++ [y]))) else Nx H3) := by
  have big : (100000 : Nat) < sizeLine := by decide
  refine lc_list (K := K) (a := a) (xs := ws.map em) (fun i H' => Same H H' ∧ ∃ vsn bs, (ws.take i).mapM f = some bs ∧ H' D = some (.lst vsn) ∧ Rr H' vsn bs) ⟨same_upd hD, [], [], rfl, upd_same, h0⟩ (fun i H' _ p => p.1.seq hS) (fun i x H' hx p => ?_) fun H' p => ?_
  · rw [List.getElem?_map] at hx
    cases hw : ws[i]? with
    | none => rw [hw] at hx; cases hx
    | some w =>
      rw [hw] at hx
      obtain rfl := Option.some.inj hx
      have hi : i < ws.length := (List.getElem?_eq_some_iff.mp hw).1
      obtain ⟨s1, vsn, bs, e1, d1, r1⟩ := p
      have hl : vsn.length ≤ i := by
        rw [hr _ _ _ r1, (mapM_some e1).1, List.length_take]
        exact Nat.min_le_left _ _
      refine hs i w hw H' _ vsn bs s1 d1 r1 (fun b v H2 e s2 k => ?_) fun H2 s2 e => mapM_fail hw e
      refine ⟨vsn, s2 _ _ d1, by omega, same_mut (Same.trans s1 s2) hD, vsn ++ [v], bs ++ [b], mapM_take e1 hw e, upd_same, ?_⟩
      exact k _ (same_mut (Same.trans s1 s2) hD) fun p u hp e => by rw [upd_ne hp]; exact e
  · obtain ⟨s1, vsn, bs, e1, d1, r1⟩ := p
    rw [List.length_map, List.take_length] at e1
    exact hd H' vsn bs e1 s1 d1 r1
theorem opt_yes {A : Type} {k : List Nat} {d : A} {f : List Nat → Option A} {l : List (List Nat)} (c : l.headD [] = k) : opt k d f l = (f (l.tail.headD [])).map fun x => (x, l.tail.tail) := if_pos c
theorem opt_no {A : Type} {k : List Nat} {d : A} {f : List Nat → Option A} {l : List (List Nat)} (c : ¬ l.headD [] = k) : opt k d f l = some (d, l) := if_neg c
/-- tuples of items that lie in the heap -/
def ItemsS (D : Addr) (H : Hp) (vsn : List V) (bs : List Cl01.Item) : Prop := ∃ ts : List Addr, vsn = ts.map V.ref ∧ ts.length = bs.length ∧ ∀ (j : Nat) (t : Addr) (i : Cl01.Item), ts[j]? = some t → bs[j]? = some i → t ≠ D ∧ H t = some (.tup (itV i))
theorem ItemsS.snoc {D t : Addr} {H H2 H3 : Hp} {vsn : List V} {bs : List Cl01.Item} {i : Cl01.Item} (h : ItemsS D H vsn bs) (s : Same H H2) (ht : H2 t = some (.tup (itV i))) (hd : t ≠ D) (k : ∀ p u, p ≠ D → H2 p = some u → H3 p = some u) : ItemsS D H3 (vsn ++ [.ref t]) (bs ++ [i]) := by
  obtain ⟨ts, rfl, hl, g⟩ := h
  refine ⟨ts ++ [t], by rw [List.map_append]; rfl, by rw [List.length_append, List.length_append, hl]; rfl, fun j u x h1 h2 => ?_⟩
  by_cases c : j < ts.length
  · rw [List.getElem?_append_left c] at h1
    rw [List.getElem?_append_left (by omega)] at h2
    obtain ⟨g1, g2⟩ := g j u x h1 h2
    exact ⟨g1, k u _ g1 (s _ _ g2)⟩
  · rw [List.getElem?_append_right (by omega)] at h1
    rw [List.getElem?_append_right (by omega), ← hl] at h2
    cases e : j - ts.length with
    | succ m => rw [e] at h1; cases h1
    | zero =>
      rw [e] at h1 h2
      obtain rfl := Option.some.inj h1
      obtain rfl := Option.some.inj h2
      exact ⟨hd, k t _ hd ht⟩
theorem ItemsS.items {K : PySem.W.Frag} {D : Addr} {H : Hp} {vsn : List V} {bs : List Cl01.Item} (h : ItemsS D H vsn bs) : ∃ ts : List Addr, vsn = ts.map V.ref ∧ Items K H ts bs := by
  obtain ⟨ts, e, hl, g⟩ := h
  exact ⟨ts, e, hl, fun j t i h1 h2 => SqT.of (g j t i h1 h2).2⟩
/-- what is read is numbers -/
def RrN (_ : Hp) (vsn : List V) (bs : List Nat) : Prop := vsn = iv bs
end
end CA
end file_CaRd
local macro_rules | `(tactic| walk_at "w") => `(tactic| (repeat (first
  | with_reducible refine CA.w_seq ?_
  | with_reducible refine CA.w_ret ?_
  | with_reducible refine CA.w_asg ?_
  | with_reducible refine CA.w_op ?_
  | ((with_reducible refine' CA.w_var ?wvar ?_); (case wvar => rfl))
  | with_reducible refine CA.w_c ?_
  | with_reducible refine CA.w_i0 ?_
  | with_reducible refine CA.w_test ?_
  | with_reducible refine CA.w_tb ?_
  | with_reducible refine CA.w_bl ?_
  | with_reducible refine CA.w_if ?_
  | with_reducible refine CA.w_ife ?_
  | with_reducible refine CA.w_and ?_
  | with_reducible refine CA.w_or ?_
  | with_reducible refine CA.w_not ?_
  | with_reducible refine CA.w_eqi ?_
  | with_reducible refine CA.w_eqs ?_
  | with_reducible refine CA.w_nei ?_
  | with_reducible refine CA.w_nes ?_
  | with_reducible refine CA.w_mod (by decide) ?_
  | with_reducible refine CA.w_fdiv (by decide) ?_
  | with_reducible refine CA.w_mul (Or.inl (by decide)) ?_
  | with_reducible refine CA.w_mul (Or.inr (by decide)) ?_
  | with_reducible refine CA.w_cl ?_
  | with_reducible refine CA.w_cb ?_
  | with_reducible refine CA.w_cons ?_
  | with_reducible refine CA.w_nil ?_
  | with_reducible refine CA.w_tup ?_
  | with_reducible refine CA.w_lst ?_
  | with_reducible refine CA.w_sz0 ?_
  | with_reducible refine CA.w_sz1 ?_
  | with_reducible refine CA.w_sz2 ?_
  | with_reducible refine CA.w_sz3 ?_
  | with_reducible refine CA.w_un ?_
  | with_reducible refine CA.w_u ?_
  | with_reducible refine CA.w_drop ?_
  | with_reducible refine CA.w_next ?_
  | with_reducible refine CA.w_chain ?_
  | with_reducible refine CA.w_t ?_
  | with_reducible refine CA.w_f ?_
  | ((with_reducible refine' CA.w_aug ?wvar ?_); (case wvar => rfl))
  | with_reducible refine CA.w_ipi ?_
  | with_reducible refine CA.w_gname ?_
  | with_reducible refine CA.w_for ?_
  | with_reducible refine CA.w_rng1 ?_
  | with_reducible refine CA.w_rng2 ?_
  | with_reducible refine CA.w_ilist ?_
  | with_reducible refine CA.w_lc ?_
  | with_reducible refine CA.w_istr ?_
  | with_reducible refine CA.w_rng3 ?_
  | with_reducible refine CA.w_yesT ?_
  | with_reducible refine CA.w_din ?_
  | with_reducible refine CA.w_dnotin ?_
  | with_reducible refine CA.w_dput ?_
  | with_reducible refine CA.w_dnew ?_
  | with_reducible refine CA.w_fld ?_
  | with_reducible refine CA.w_sfld ?_
  | with_reducible refine CA.w_m1 ?_
  | with_reducible refine CA.w_m0 ?_
  | with_reducible refine CA.w_isstr ?_
  | with_reducible refine CA.w_bm ?_
  | with_reducible refine CA.w_js ?_
  | with_reducible refine CA.w_js0 ?_
  | with_reducible refine CA.w_fmt ?_
  | with_reducible refine CA.w_asgG ?_
  | with_reducible refine CA.w_gcons ?_
  | with_reducible refine CA.w_gnil ?_
  | with_reducible refine CA.w_sl ?_
  | with_reducible refine CA.w_nopart ?_
  | with_reducible refine CA.w_part ?_
  | with_reducible refine CA.w_isint ?_
  | with_reducible refine CA.w_lrg3 ?_
  | with_reducible refine CA.w_me ?_
  | with_reducible refine CA.w_mk ?_
  | with_reducible refine CA.w_sfa ?_)))
local macro_rules | `(tactic| walk_at "vs") => `(tactic| (first | rfl | (simp only [List.cons.injEq, L2.V.int.injEq, and_true, true_and]; omega)))
local macro_rules | `(tactic| walk_at "sz") => `(tactic| (first | assumption | omega))
section file_CaM6
set_option maxRecDepth 100000
set_option maxHeartbeats 4000000
namespace CA
open PySem PySem.Spec PyProof.Rows L2
open SX (S)
open Cl01 (monthDays monthStart isDate dayOf yearOf monthOf domOf weekday week weekOf)

open Cl01 (parted joined within numberOf weekdayOf itemOf dateOf sorted MO Item insertItem itemCode)
theorem nodup_le {D M : List Int} (nd : D.Nodup) (sb : ∀ x ∈ D, x ∈ M) : D.length ≤ M.length := by
  have h := sum_sub2 (fun _ => 1) D M nd sb
  have e : ∀ l : List Int, (l.map fun _ => 1).sum = l.length := fun l => by
    induction l with
    | nil => rfl
    | cons a l ih => rw [List.map_cons, List.sum_cons, ih, List.length_cons, Nat.add_comm]
  rw [e, e] at h
  exact h
/-- rising ints with the members of naturals -/
theorem rise_sorted {ns : List Int} {l : List Nat} (h : ns.Pairwise (· < ·)) (m : ∀ k : Int, k ∈ ns ↔ k ∈ l.map fun n : Nat => (n : Int)) : ns.map V.int = iv (sorted l) := by
  have e : ns = (ns.map Int.toNat).map fun n : Nat => (n : Int) := by
    rw [List.map_map]
    refine (List.map_id ns).symm.trans (List.map_congr_left fun z hz => ?_)
    obtain ⟨n, _, rfl⟩ := List.mem_map.mp ((m z).mp hz)
    show (n : Int) = (((n : Int).toNat : Nat) : Int)
    rw [Int.toNat_natCast]
  have u : Up (ns.map Int.toNat) := by
    rw [e] at h
    exact (List.pairwise_map.mp h).imp fun h => by omega
  have e2 : ns.map Int.toNat = sorted l := sorted_of u fun x => by
    rw [List.mem_map]
    constructor
    · rintro ⟨z, hz, rfl⟩
      obtain ⟨n, hn, rfl⟩ := List.mem_map.mp ((m z).mp hz)
      rw [Int.toNat_natCast]
      exact hn
    · intro hx
      exact ⟨(x : Int), (m _).mpr (List.mem_map.mpr ⟨x, hx, rfl⟩), Int.toNat_natCast x⟩
  rw [e, e2, iv_ints]
theorem sortedSet_lt {K : PySem.W.Frag} {H : Hp} : True := trivial
/-- a sign's code -/
def signOf (b : Int) : Option Nat := SG.find? fun c : Nat => decide ((c : Int) = b)
theorem signs_mapM : ∀ {ds : List Int} {t : List Nat}, ds.mapM signOf = some t → ds = t.map (fun n : Nat => (n : Int)) ∧ Good t
  | [], t, h => by
    obtain rfl := Option.some.inj h
    exact ⟨rfl, fun _ h => absurd h List.not_mem_nil⟩
  | b :: ds, t, h => by
    rw [mapM_cons'] at h
    cases e : signOf b with
    | none => rw [e] at h; cases h
    | some c =>
      cases e2 : List.mapM signOf ds with
      | none => rw [e, e2] at h; cases h
      | some r =>
        rw [e, e2] at h
        obtain rfl := Option.some.inj h
        obtain ⟨h1, h2⟩ := signs_mapM e2
        have hc : (c : Int) = b := by simpa using List.find?_some e
        exact ⟨by rw [List.map_cons, hc, ← h1], good_cons (List.mem_of_find?_eq_some e) h2⟩
theorem signs_good : ∀ {t : List Nat}, Good t → (t.map fun n : Nat => (n : Int)).mapM signOf = some t
  | [], _ => rfl
  | c :: t, h => by
    rw [List.map_cons, mapM_cons', signs_good fun x hx => h x (List.mem_cons_of_mem _ hx)]
    have e : signOf (c : Int) = some c := by
      unfold signOf
      cases k : SG.find? (fun x : Nat => decide ((x : Int) = (c : Int))) with
      | none =>
        have := List.find?_eq_none.mp k c (h c List.mem_cons_self)
        simp at this
      | some x =>
        have hx : (x : Int) = (c : Int) := by simpa using List.find?_some k
        exact congrArg some (by omega)
    rw [e]
    rfl
theorem good_128 {t : List Nat} (h : Good t) : ∀ c ∈ t, c < 128 := fun c hc => (by decide : ∀ c ∈ SG, c < 128) c (h c hc)
theorem mem_parted {k c : Nat} {t w : List Nat} (hw : w ∈ parted k t) (hc : c ∈ w) : c ∈ t := by
  induction t generalizing w with
  | nil =>
    rw [show parted k [] = [[]] from rfl, List.mem_singleton] at hw
    rw [hw] at hc
    cases hc
  | cons x l ih =>
    unfold parted at hw
    split at hw
    · rcases List.mem_cons.mp hw with rfl | hw
      · cases hc
      · exact List.mem_cons_of_mem _ (ih hw hc)
    · cases e : parted k l with
      | nil => exact absurd e (parted_ne k l)
      | cons v r =>
        rw [e] at hw ih
        rcases List.mem_cons.mp hw with rfl | hw
        · rcases List.mem_cons.mp hc with rfl | hc
          · exact List.mem_cons_self
          · exact List.mem_cons_of_mem _ (ih List.mem_cons_self hc)
        · exact List.mem_cons_of_mem _ (ih (List.mem_cons_of_mem _ hw) hc)
theorem wok_parted {k : Nat} {t : List Nat} (h1 : t.length ≤ 200) (h2 : ∀ c ∈ t, c < 128) : ∀ w ∈ parted k t, WOk w := fun w hw => ⟨Nat.le_trans (parted_len k t w hw) h1, fun c hc => h2 c (mem_parted hw hc)⟩
theorem parted_count (k : Nat) (t : List Nat) : (parted k t).length ≤ t.length + 1 := by
  rw [← parted_sum k t]
  generalize parted k t = l
  induction l with
  | nil => exact Nat.le_refl _
  | cons a l ih => rw [List.map_cons, List.sum_cons, List.length_cons]; omega
def sp_Words___init__ (K : PySem.W.Frag) : Sp := fun vs H Q _ => ∃ x dx ps : Addr, vs = [.ref x, .ref ps] ∧ H x = some (.ins (He.ga K "Words") dx []) ∧ ∀ H', (∀ b, b ≠ x → H' b = H b) → H' x = some (.ins (He.ga K "Words") dx (wordsF ps 0)) → Q .non H' 
section
variable {P : Program} {w : World} {K : PySem.W.Frag} {mg : Str → Option Value} {base : Heap}
theorem sc_Words___init__ : FnScope ["self", "parts"] ["self", "parts"] (defScope s_Words___init__) := ⟨rfl, rfl, rfl, by decide +kernel, rfl, by decide +kernel, by decide +kernel⟩
theorem mk_Words (T : Tx K mg) : MakOk P w K mg base 1 "Words" ["self", "parts"] (sp_Words___init__ K) := by
  obtain ⟨fd, F⟩ := T.f_Words___init__
  refine ⟨⟨fd, F.ok sc_Words___init__ (fun vs H Q E h => ?_) (fun cdv A outer s H vs Q E hr h => ?_), F.bindsN fun _ _ _ _ _ _ us hl => match us, hl with | [_, _], _ => rfl⟩, T.k_Words, T.g_Words⟩
  · obtain ⟨x, dx, ps, rfl, _⟩ := h
    rfl
  · refine ⟨_, PSs.nox (pss_cons (ps_fld (pv 0) (pv 1) rfl)
      (pss_one (ps_fld (pv 0) pe_int rfl))), ?_⟩
    clear F hr
    obtain ⟨x, dx, ps, rfl, HX0, hQ⟩ := h
    have OFF0 : ∀ b, b ≠ x → H b = H b := fun b _ => rfl
    walk_at "w"
    refine w_init HX0 OFF0 T.c_Words T.n_Words_parts (by show (0 : Nat) < 1000; decide) (by rfl) fun H1 HX1 OFF1 => ?_
    walk_at "w"
    refine w_init HX1 OFF1 T.c_Words T.n_Words_place (by show (1 : Nat) < 1000; decide) (by rfl) fun H2 HX2 OFF2 => ?_
    walk_at "w"
    exact hQ H2 OFF2 HX2
end

def sp_Words_peek (K : PySem.W.Frag) : Sp := fun vs H Q _ => ∃ (a : Addr) (l : List (List Nat)), vs = [.ref a] ∧ WordsR K H a l ∧ Q (sv (l.headD [])) H
section
variable {P : Program} {w : World} {K : PySem.W.Frag} {mg : Str → Option Value} {base : Heap}
theorem sc_Words_peek : FnScope ["self"] ["self"] (defScope s_Words_peek) := ⟨rfl, rfl, rfl, by decide +kernel, rfl, by decide +kernel, by decide +kernel⟩
theorem ok_Words_peek (T : Tx K mg) : MetOk P w K mg base CX0 1 "Words" "peek" ["self"] (sp_Words_peek K) := by
  obtain ⟨fd, F⟩ := T.f_Words_peek
  refine ⟨⟨fd, F.ok sc_Words_peek (fun vs H Q E h => ?_) (fun cdv A outer s H vs Q E hr h => ?_), F.bindsN fun _ _ _ _ _ _ us hl => match us, hl with | [_], _ => rfl⟩, T.c_Words, T.m_Words_peek⟩
  · obtain ⟨a, l, rfl, _⟩ := h
    rfl
  · refine ⟨_, PSs.nox (pss_cons (ps_if (pt_cmpR op_lt (pe_fldK (K := K) rfl (pv 0) rfl) (pe_callB (len_seqK (K := K) rfl) (by rfl) T.b_len (by decide +kernel) (pa_cons (pe_fldK (K := K) rfl (pv 0) rfl) pa_nil)) (nomark _)) (pss_one (ps_ret (pe_ix (ix_listK (K := K) rfl) (pe_fldK (K := K) rfl (pv 0) rfl) (pe_fldK (K := K) rfl (pv 0) rfl) (fun _ _ => rfl)))) pss_nil)
      (pss_one (ps_ret pe_str))), ?_⟩
    clear F hr
    obtain ⟨a, l, rfl, hW, hQ⟩ := h
    obtain ⟨dx, ps, ws, i, h1, h2, h3, rfl, h5⟩ := hW
    walk_at "w"
    refine ⟨a, _, dx, _, _, rfl, h1, T.c_Words, T.n_Words_place, (lk_past (by decide +kernel)).trans lk_here, ?_⟩
    walk_at "w"
    refine ⟨a, _, dx, _, _, rfl, h1, T.c_Words, T.n_Words_parts, lk_here, ?_⟩
    walk_at "w"
    refine ⟨_, _, rfl, .inl (SqL.of h2), ?_⟩
    rw [List.length_map]
    walk_at "w"
    refine w_cases (fun c => ?_) (fun c => ?_)
    · walk_at "w"
      refine ⟨a, _, dx, _, _, rfl, h1, T.c_Words, T.n_Words_parts, lk_here, ?_⟩
      walk_at "w"
      refine ⟨a, _, dx, _, _, rfl, h1, T.c_Words, T.n_Words_place, (lk_past (by decide +kernel)).trans lk_here, ?_⟩
      have hi : i < ws.length := by omega
      refine w_ixl (v := sv ws[i]) (SqL.of h2) (atI_nat (by rw [List.getElem?_map, List.getElem?_eq_getElem hi]; rfl)) ?_
      rw [List.drop_eq_getElem_cons hi] at hQ
      exact hQ
    · walk_at "w"
      rw [List.drop_eq_nil_of_le (by omega)] at hQ
      exact hQ
end

def sp_Words_take (K : PySem.W.Frag) : Sp := fun vs H Q _ => ∃ (a : Addr) (l : List (List Nat)), vs = [.ref a] ∧ WordsR K H a l ∧ ∀ H', Off a H H' → WordsR K H' a l.tail → Q (sv (l.headD [])) H' 
section
variable {P : Program} {w : World} {K : PySem.W.Frag} {mg : Str → Option Value} {base : Heap}
theorem sc_Words_take : FnScope ["self", "word"] ["self"] (defScope s_Words_take) := ⟨rfl, rfl, rfl, by decide +kernel, rfl, by decide +kernel, by decide +kernel⟩
theorem ok_Words_take (T : Tx K mg) : MetOk P w K mg base CX0 2 "Words" "take" ["self"] (sp_Words_take K) := by
  obtain ⟨fd, F⟩ := T.f_Words_take
  refine ⟨⟨fd, F.ok sc_Words_take (fun vs H Q E h => ?_) (fun cdv A outer s H vs Q E hr h => ?_), F.bindsN fun _ _ _ _ _ _ us hl => match us, hl with | [_], _ => rfl⟩, T.c_Words, T.m_Words_take⟩
  · obtain ⟨a, l, rfl, _⟩ := h
    rfl
  · refine ⟨_, PSs.nox (pss_cons (ps_set (i := 1) sc_Words_take.nd rfl (by first | exact Or.inl rfl | exact Or.inr rfl) (pe_me0 (ok_Words_peek T) (pv 0) (hr.mono (by decide)) pass0))
      (pss_cons (ps_fldaug (pv 0) pe_int in_add)
      (pss_one (ps_ret (pv 1))))), ?_⟩
    clear F hr
    obtain ⟨a, l, rfl, hW, hQ⟩ := h
    walk_at "w"
    refine w_wd hW (lk_words (by decide +kernel) (by decide +kernel)) ?_
    walk_at "w"
    refine ⟨a, l, rfl, hW, ?_⟩
    obtain ⟨dx, ps, ws, i, h1, h2, h3, h4, h5⟩ := hW
    walk_at "w"
    refine ⟨a, _, dx, _, _, rfl, h1, T.c_Words, T.n_Words_place, (lk_past (by decide +kernel)).trans lk_here, ?_⟩
    walk_at "w"
    refine ⟨_, _, rfl, rfl, dx, _, h1, by show (2 : Nat) < 1000; decide, ?_⟩
    walk_at "w"
    exact hQ _ off_upd (WordsR.step h1 h2 h3 h4 h5 rfl)
end

def sp_Words_skip (K : PySem.W.Frag) : Sp := fun vs H Q _ => ∃ (a : Addr) (l : List (List Nat)) (w : List Nat), vs = [.ref a, sv w] ∧ WordsR K H a l ∧ (l.headD [] = w → ∀ H', Off a H H' → WordsR K H' a l.tail → Q (.bl true) H') ∧ (¬ l.headD [] = w → Q (.bl false) H)
section
variable {P : Program} {w : World} {K : PySem.W.Frag} {mg : Str → Option Value} {base : Heap}
theorem sc_Words_skip : FnScope ["self", "word"] ["self", "word"] (defScope s_Words_skip) := ⟨rfl, rfl, rfl, by decide +kernel, rfl, by decide +kernel, by decide +kernel⟩
theorem ok_Words_skip (T : Tx K mg) : MetOk P w K mg base CX0 2 "Words" "skip" ["self", "word"] (sp_Words_skip K) := by
  obtain ⟨fd, F⟩ := T.f_Words_skip
  refine ⟨⟨fd, F.ok sc_Words_skip (fun vs H Q E h => ?_) (fun cdv A outer s H vs Q E hr h => ?_), F.bindsN fun _ _ _ _ _ _ us hl => match us, hl with | [_, _], _ => rfl⟩, T.c_Words, T.m_Words_skip⟩
  · obtain ⟨a, l, w, rfl, _⟩ := h
    rfl
  · refine ⟨_, PSs.nox (pss_cons (ps_if (pt_cmpR op_eq (pe_me0 (ok_Words_peek T) (pv 0) (hr.mono (by decide)) pass0) (pv 1) (nomark _)) (pss_cons (ps_fldaug (pv 0) pe_int in_add)
      (pss_one (ps_ret pe_bl))) pss_nil)
      (pss_one (ps_ret pe_bl))), ?_⟩
    clear F hr
    obtain ⟨a, l, w, rfl, hW, hY, hN⟩ := h
    walk_at "w"
    refine w_wd hW (lk_words (by decide +kernel) (by decide +kernel)) ?_
    walk_at "w"
    refine ⟨a, l, rfl, hW, ?_⟩
    walk_at "w"
    rw [decS]
    refine w_cases (fun c => ?_) (fun c => ?_)
    · obtain ⟨dx, ps, ws, i, h1, h2, h3, h4, h5⟩ := hW
      walk_at "w"
      refine ⟨a, _, dx, _, _, rfl, h1, T.c_Words, T.n_Words_place, (lk_past (by decide +kernel)).trans lk_here, ?_⟩
      walk_at "w"
      refine ⟨_, _, rfl, rfl, dx, _, h1, by show (2 : Nat) < 1000; decide, ?_⟩
      walk_at "w"
      exact hY c _ off_upd (WordsR.step h1 h2 h3 h4 h5 rfl)
    · walk_at "w"
      exact hN c
end

def sp_Words_finish (K : PySem.W.Frag) : Sp := fun vs H Q E => ∃ (a : Addr) (l : List (List Nat)), vs = [.ref a] ∧ WordsR K H a l ∧ (l = [] → Q .non H) ∧ (l ≠ [] → NR K E H)
section
variable {P : Program} {w : World} {K : PySem.W.Frag} {mg : Str → Option Value} {base : Heap}
theorem sc_Words_finish : FnScope ["self"] ["self"] (defScope s_Words_finish) := ⟨rfl, rfl, rfl, by decide +kernel, rfl, by decide +kernel, by decide +kernel⟩
theorem ok_Words_finish (T : Tx K mg) : MetOk P w K mg base (L2.CX P w) 1 "Words" "finish" ["self"] (sp_Words_finish K) := by
  obtain ⟨fd, F⟩ := T.f_Words_finish
  refine ⟨⟨fd, F.ok sc_Words_finish (fun vs H Q E h => ?_) (fun cdv A outer s H vs Q E hr h => ?_), F.bindsN fun _ _ _ _ _ _ us hl => match us, hl with | [_], _ => rfl⟩, T.c_Words, T.m_Words_finish⟩
  · obtain ⟨a, l, rfl, _⟩ := h
    rfl
  · refine ⟨_, (pss_one (ps_if (pt_cmpR op_lt (pe_fldK (K := K) rfl (pv 0) rfl) (pe_callB (len_seqK (K := K) rfl) (by rfl) T.b_len (by decide +kernel) (pa_cons (pe_fldK (K := K) rfl (pv 0) rfl) pa_nil)) (nomark _)) (pss_one (CA.ps_nr T rfl rfl rfl (takes_of rfl rfl rfl rfl) (by rfl))) pss_nil)), ?_⟩
    clear F hr
    obtain ⟨a, l, rfl, hW, hY, hN⟩ := h
    obtain ⟨dx, ps, ws, i, h1, h2, h3, rfl, h5⟩ := hW
    walk_at "w"
    refine ⟨a, _, dx, _, _, rfl, h1, T.c_Words, T.n_Words_place, (lk_past (by decide +kernel)).trans lk_here, ?_⟩
    walk_at "w"
    refine ⟨a, _, dx, _, _, rfl, h1, T.c_Words, T.n_Words_parts, lk_here, ?_⟩
    walk_at "w"
    refine ⟨_, _, rfl, .inl (SqL.of h2), ?_⟩
    rw [List.length_map]
    walk_at "w"
    refine w_cases (fun c => ?_) (fun c => ?_)
    · walk_at "w"
      refine hN fun z => ?_
      have := List.drop_eq_nil_iff.mp z
      omega
    · walk_at "w"
      exact hY (List.drop_eq_nil_of_le (by omega))
end

def sp_sign_of (K : PySem.W.Frag) : Sp := fun vs H Q E => ∃ b : Int, vs = [.int b] ∧ (∀ c, signOf b = some c → Q (sv [c]) H) ∧ (signOf b = none → NR K E H)
section
variable {P : Program} {w : World} {K : PySem.W.Frag} {mg : Str → Option Value} {base : Heap}
theorem sc_sign_of : FnScope ["byte", "sign"] ["byte"] (defScope s_sign_of) := ⟨rfl, rfl, rfl, by decide +kernel, rfl, by decide +kernel, by decide +kernel⟩
theorem ok_sign_of (T : Tx K mg) : DefOk P w K mg base (L2.CX P w) 1 "sign_of" ["byte"] (sp_sign_of K) := by
  obtain ⟨fd, F⟩ := T.f_sign_of
  refine ⟨⟨fd, F.ok sc_sign_of (fun vs H Q E h => ?_) (fun cdv A outer s H vs Q E hr h => ?_), F.bindsN fun _ _ _ _ _ _ us hl => match us, hl with | [_], _ => rfl⟩, F.kp, T.g_sign_of⟩
  · obtain ⟨b, rfl, _⟩ := h
    rfl
  · refine ⟨_, (pss_cons (ps_for (passes_of rfl) rfl (pi_str (pe_gs T.z_SIGNS (by rfl))) (pg_name (i := 1) sc_sign_of.nd rfl (by first | exact Or.inl rfl | exact Or.inr rfl)) (pss_one (ps_if (pt_cmpR op_eq (pe_callB call_ord (by rfl) T.b_ord (by decide +kernel) (pa_cons (pv 1) pa_nil)) (pv 0) (nomark _)) (pss_one (ps_ret (pv 1))) pss_nil)))
      (pss_one (CA.ps_nr T rfl rfl rfl (takes_of rfl rfl rfl rfl) (by rfl)))), ?_⟩
    clear F hr
    obtain ⟨b, rfl, hY, hN⟩ := h
    walk_at "w"
    refine ⟨_, rfl, for_str (fun i σ H' => ∃ e, H' = H ∧ σ = [some (.int b), e] ∧ (SG.take i).find? (fun c : Nat => decide ((c : Int) = b)) = none) ⟨none, rfl, rfl, rfl⟩ ?_ ?_⟩
    · rintro i c σ H' hc ⟨e, rfl, rfl, hf⟩
      have hs : SG[i]? = some c := by
        rw [← hc, ← Array.getElem?_toList]
        exact congrArg (fun l : List Nat => l[i]?) (by decide +kernel)
      walk_at "w"
      refine ⟨_, rfl, rfl, ?_⟩
      walk_at "w"
      refine w_cases (fun c1 => ?_) (fun c1 => ?_)
      · walk_at "w"
        refine hY c ?_
        have c2 : (c : Int) = b := c1
        have e2 := find_take_yes hs hf (decide_eq_true c2)
        exact e2
      · walk_at "w"
        have c2 : ¬ (c : Int) = b := c1
        exact ⟨_, rfl, rfl, find_take_no hs hf (decide_eq_false c2)⟩
    · rintro σ H' ⟨e, rfl, rfl, hf⟩
      walk_at "w"
      refine hN ?_
      rw [List.take_of_length_le (by decide +kernel)] at hf
      exact hf
end

def sp_words_of (K : PySem.W.Frag) : Sp := fun vs H Q E => ∃ (a : Addr) (ds : List Int), vs = [.ref a] ∧ SqL K H a (ds.map V.int) ∧
  (∀ t, ds.length ≤ 200 → ds.mapM signOf = some t → ∀ p H', H p = none → Same H H' → H' p = some (.lst ((parted 32 t).map sv)) → Q (.ref p) H') ∧ ((ds.length ≤ 200 → ds.mapM signOf = none) → ∀ H', Same H H' → NR K E H')
section
variable {P : Program} {w : World} {K : PySem.W.Frag} {mg : Str → Option Value} {base : Heap}
theorem sc_words_of : FnScope ["data", "text", "byte"] ["data"] (defScope s_words_of) := ⟨rfl, rfl, rfl, by decide +kernel, rfl, by decide +kernel, by decide +kernel⟩
theorem ok_words_of (T : Tx K mg) : DefOk P w K mg base (L2.CX P w) 2 "words_of" ["data"] (sp_words_of K) := by
  obtain ⟨fd, F⟩ := T.f_words_of
  refine ⟨⟨fd, F.ok sc_words_of (fun vs H Q E h => ?_) (fun cdv A outer s H vs Q E hr h => ?_), F.bindsN fun _ _ _ _ _ _ us hl => match us, hl with | [_], _ => rfl⟩, F.kp, T.g_words_of⟩
  · obtain ⟨a, ds, rfl, _⟩ := h
    rfl
  · refine ⟨_, (pss_cons (ps_if (pt_cmpR op_gt (pe_callB (len_seqK (K := K) rfl) (by rfl) T.b_len (by decide +kernel) (pa_cons (pv 0) pa_nil)) (pe_gi T.i_MOST_BYTES (by rfl)) (nomark _)) (pss_one (CA.ps_nr T rfl rfl rfl (takes_of rfl rfl rfl rfl) (by rfl))) pss_nil)
      (pss_cons (ps_set (i := 1) sc_words_of.nd rfl (by first | exact Or.inl rfl | exact Or.inr rfl) (pe_join pe_str (pe_lcX (E := E) (own := [("byte", 2)]) (g := gName 2) (tt := tYes) (takes_of rfl rfl rfl rfl) rfl rfl rfl sc_words_of.nd (pi_list (pv 0)) (blkOk_by (N := ["data", "text", "byte"]) (sc := defScope s_words_of) (by decide +kernel)) (fun _ _ _ _ _ => pg_name (i := 2) sc_words_of.nd rfl (Or.inl rfl)) (fun _ _ _ _ _ => pts_nil) (fun _ _ _ _ _ xe hxe => (pe_fn (ok_sign_of T) (hr.mono (by decide)) (by rfl) hxe (pa_cons (pv 2) pa_nil))))))
      (pss_one (ps_ret (pe_split (pv 1) pe_str))))), ?_⟩
    clear F hr
    obtain ⟨a, ds, rfl, hS, hY, hN⟩ := h
    have big : (100000 : Nat) ≤ sizeLine := by decide
    walk_at "w"
    refine ⟨_, _, rfl, .inl hS, ?_⟩
    rw [List.length_map]
    walk_at "w"
    refine w_cases (fun c => ?_) (fun c => ?_)
    · walk_at "w"
      exact hN (fun z => by omega) _ (Same.refl _)
    walk_at "w"
    have hl : ds.length ≤ 200 := by omega
    refine ⟨_, rfl, ⟨_, hS⟩, fun D hD => lc_read V.int signOf (fun _ vsn bs => vsn = bs.map fun c => sv [c]) hS hD (by omega) rfl (fun i b hb H' F vsn bs s1 _ r1 hF hf => ?_) (fun _ vsn bs r => by rw [r, List.length_map]) fun H' vsn bs e s1 d1 r1 => ?_⟩
    · walk_at "w"
      refine ⟨rfl, ?_⟩
      walk_at "w"
      refine ⟨b, rfl, fun c hc => hF c _ _ hc (Same.refl _) fun H3 _ _ => ?_, fun hc => hN (fun _ => hf _ (Same.refl _) hc) _ s1⟩
      rw [r1, List.map_append]
      rfl
    · obtain ⟨e1, g⟩ := signs_mapM e
      have ln : bs.length = ds.length := by rw [e1, List.length_map]
      rw [r1] at d1
      have e3 : (bs.map fun c => sv [c]) = (bs.map fun c => S [c]).map V.str := by rw [List.map_map]; rfl
      rw [e3] at d1
      walk_at "w"
      refine ⟨S [], D, bs.map fun c => S [c], rfl, rfl, .inl (SqL.of d1), ?_, ?_⟩
      · rw [List.map_map, List.length_map]
        have e4 : (bs.map ((fun x : Str => x.length) ∘ fun c => S [c])).sum = bs.length := by
          clear r1 d1 e3 e e1 g ln
          induction bs with
          | nil => rfl
          | cons c bs ih => rw [List.map_cons, List.sum_cons, ih, List.length_cons]; show 1 + bs.length = _; omega
        rw [e4, SX.S_len]
        simp
        omega
      rw [join_signs]
      walk_at "w"
      refine ⟨_, S [32], rfl, rfl, rfl, by rw [SX.S_len]; omega, fun p hp => ?_⟩
      rw [split_eq 32 (by decide), ← sv_strs]
      exact hY bs hl e p _ (Same.free s1 hp) (same_mut s1 (Same.free s1 hp)) upd_same
end

end CA
end file_CaM6
section file_CaM7
set_option maxRecDepth 100000
set_option maxHeartbeats 4000000
namespace CA
open PySem PySem.Spec PyProof.Rows L2
open SX (S)
open Cl01 (monthDays monthStart isDate dayOf yearOf monthOf domOf weekday week weekOf)

open Cl01 (parted joined within numberOf weekdayOf itemOf dateOf sorted MO Item insertItem itemCode)
def itI (i : Item) : List Int := [(i.sort : Int), (i.k : Int), (i.w : Int)]
theorem itV_itI (i : Item) : itV i = (itI i).map V.int := rfl
theorem itI_inj {i j : Item} (h : itI i = itI j) : i = j := by
  obtain ⟨s, k, w⟩ := i
  obtain ⟨s', k', w'⟩ := j
  unfold itI at h
  simp only [List.cons.injEq, Int.natCast_inj, and_true] at h
  obtain ⟨rfl, rfl, rfl⟩ := h
  rfl
theorem code_itI (i : Item) : TS.code 64 (itI i) = ((4096 * i.sort + 64 * i.k + i.w : Nat) : Int) := by
  show (i.sort : Int) * 64 ^ 2 + ((i.k : Int) * 64 ^ 1 + ((i.w : Int) * 64 ^ 0 + 0)) = _
  have e2 : (64 : Int) ^ 2 = 4096 := by decide
  have e1 : (64 : Int) ^ 1 = 64 := by decide
  have e0 : (64 : Int) ^ 0 = 1 := by decide
  rw [e2, e1, e0]
  omega
theorem code_lt {i j : Item} (hi : ItOk i) (hj : ItOk j) (h : TS.code 64 (itI i) ≤ TS.code 64 (itI j)) (ne : i ≠ j) : itemCode i < itemCode j := by
  rw [code_itI, code_itI] at h
  have h1 := hi.k31
  have h2 := hi.w7
  have g1 := hj.k31
  have g2 := hj.w7
  have ne2 : itemCode i ≠ itemCode j := fun e => ne (code_inj hi hj e)
  unfold itemCode at ne2 ⊢
  omega
theorem mo_self {d : Nat} (h : d < 7) : weekdayOf (MO.getD d []) = some d := by
  have : d = 0 ∨ d = 1 ∨ d = 2 ∨ d = 3 ∨ d = 4 ∨ d = 5 ∨ d = 6 := by omega
  rcases this with rfl | rfl | rfl | rfl | rfl | rfl | rfl <;> rfl
theorem weekday_none {w : List Nat} (h : ∀ j, j < 7 → MO.getD j [] ≠ w) : weekdayOf w = none := by
  cases e : weekdayOf w with
  | none => rfl
  | some d => exact absurd (weekdayOf_some e).2.symm (h d (weekdayOf_some e).1)
theorem wok_cut {w : List Nat} (h : WOk w) (i j : Nat) : WOk ((w.drop i).take j) := ⟨by rw [List.length_take, List.length_drop]; have := h.1; omega, fun c hc => h.2 c (List.mem_of_mem_drop (List.mem_of_mem_take hc))⟩
theorem wok_drop {w : List Nat} (h : WOk w) (i : Nat) : WOk (w.drop i) := ⟨by rw [List.length_drop]; have := h.1; omega, fun c hc => h.2 c (List.mem_of_mem_drop hc)⟩
theorem isDate_parts {y m d : Nat} (h : Cl01.isDate y m d = true) : 1 ≤ m ∧ m ≤ 12 ∧ 1 ≤ d := by
  unfold Cl01.isDate at h
  simp only [Bool.and_eq_true, decide_eq_true_eq] at h
  exact ⟨h.2.1, h.2.2.1, h.2.2.2.1⟩
def sp_ascending (K : PySem.W.Frag) : Sp := fun vs H Q _ => ∃ (a : Addr) (ns : List Nat), vs = [.ref a] ∧ SqL K H a (iv ns) ∧ ns.length ≤ 4000 ∧ (∀ D : List Int, D.Nodup → (∀ x ∈ D, x ∈ ns.map fun n : Nat => (n : Int)) → D.length < 64) ∧
  ∀ p H', H p = none → Same H H' → H' p = some (.lst (iv (sorted ns))) → Q (.ref p) H' 
section
variable {P : Program} {w : World} {K : PySem.W.Frag} {mg : Str → Option Value} {base : Heap}
theorem sc_ascending : FnScope ["values"] ["values"] (defScope s_ascending) := ⟨rfl, rfl, rfl, by decide +kernel, rfl, by decide +kernel, by decide +kernel⟩
theorem ok_ascending (T : Tx K mg) : DefOk P w K mg base CX0 1 "ascending" ["values"] (sp_ascending K) := by
  obtain ⟨fd, F⟩ := T.f_ascending
  refine ⟨⟨fd, F.ok sc_ascending (fun vs H Q E h => ?_) (fun cdv A outer s H vs Q E hr h => ?_), F.bindsN fun _ _ _ _ _ _ us hl => match us, hl with | [_], _ => rfl⟩, F.kp, T.g_ascending⟩
  · obtain ⟨a, ns, rfl, _⟩ := h
    rfl
  · refine ⟨_, PSs.nox (pss_one (ps_ret (pe_callB (cr_sortedSet rfl) (by rfl) T.b_sorted (by decide +kernel) (pa_cons (pe_callTy (cr_setI rfl) (by rfl) T.b_set (by decide +kernel) (pa_cons (pv 0) pa_nil)) pa_nil)))), ?_⟩
    clear F hr
    obtain ⟨a, ns, rfl, hS, hl, hd, hQ⟩ := h
    walk_at "w"
    refine ⟨a, ns.map fun n : Nat => (n : Int), rfl, by rw [← iv_ints]; exact hS, by rw [List.length_map]; exact hl, fun s D hs nd sb => ?_⟩
    walk_at "w"
    refine ⟨s, _, _, rfl, upd_same, hd D nd sb, fun out p pw mm _ hp => ?_⟩
    rw [rise_sorted pw fun k => (mm k).trans decide_eq_true_iff]
    exact hQ p _ (Same.free (same_upd hs) hp) (same_mut (same_upd hs) (Same.free (same_upd hs) hp)) upd_same
end

def sp_ascendingT (K : PySem.W.Frag) : Sp := fun vs H Q _ => ∃ (a : Addr) (ts : List Addr) (is : List Item), vs = [.ref a] ∧ SqL K H a (ts.map V.ref) ∧ Items K H ts is ∧ (∀ i ∈ is, ItOk i) ∧ (∀ L : List Item, L.Nodup → (∀ x ∈ L, x ∈ is) → L.length < 63) ∧
  ∀ p ts' H', H p = none → Same H H' → H' p = some (.lst (ts'.map V.ref)) → Items K H' ts' (sortItems is) → Q (.ref p) H' 
section
variable {P : Program} {w : World} {K : PySem.W.Frag} {mg : Str → Option Value} {base : Heap}
theorem ok_ascendingT (T : Tx K mg) : DefOk P w K mg base CX0 1 "ascending" ["values"] (sp_ascendingT K) := by
  obtain ⟨fd, F⟩ := T.f_ascending
  refine ⟨⟨fd, F.ok sc_ascending (fun vs H Q E h => ?_) (fun cdv A outer s H vs Q E hr h => ?_), F.bindsN fun _ _ _ _ _ _ us hl => match us, hl with | [_], _ => rfl⟩, F.kp, T.g_ascending⟩
  · obtain ⟨a, ts, is, rfl, _⟩ := h
    rfl
  · refine ⟨_, PSs.nox (pss_one (ps_ret (pe_callB (cr_sortedT rfl) (by rfl) T.b_sorted (by decide +kernel) (pa_cons (pe_callTy (cr_setT rfl hr.units) (by rfl) T.b_set (by decide +kernel) (pa_cons (pv 0) pa_nil)) pa_nil)))), ?_⟩
    clear F hr
    obtain ⟨a, ts, is, rfl, hS, hI, ok, few, hQ⟩ := h
    have hz : ((ts.zip is).map fun p => (p.1, itI p.2)).map (fun p => V.ref p.1) = ts.map V.ref := by
      rw [List.map_map]
      have e : ((ts.zip is).map fun p => p.1) = ts := by rw [List.map_fst_zip]; rw [hI.1]; exact Nat.le_refl _
      conv => rhs; rw [← e, List.map_map]
      rfl
    have zat : ∀ q ∈ (ts.zip is).map (fun p => (p.1, itI p.2)), ∃ i ∈ is, q.2 = itI i ∧ SqT K H q.1 (itV i) := fun q hq => by
      obtain ⟨⟨t, i⟩, hp, rfl⟩ := List.mem_map.mp hq
      obtain ⟨j, hj⟩ := List.getElem?_of_mem hp
      rw [List.getElem?_zip_eq_some] at hj
      exact ⟨i, List.mem_of_getElem? hj.2, rfl, hI.2 j t i hj.1 hj.2⟩
    have itl : ∀ i ∈ is, ∃ q ∈ (ts.zip is).map (fun p => (p.1, itI p.2)), q.2 = itI i := fun i hi => by
      obtain ⟨j, hj⟩ := List.getElem?_of_mem hi
      have hjl : j < is.length := (List.getElem?_eq_some_iff.mp hj).1
      have hjt : j < ts.length := by rw [hI.1]; exact hjl
      have ht : ts[j]? = some ts[j] := List.getElem?_eq_getElem hjt
      exact ⟨_, List.mem_map.mpr ⟨(ts[j], i), List.mem_of_getElem? (List.getElem?_zip_eq_some.mpr ⟨ht, hj⟩), rfl⟩, rfl⟩
    have unI : ∀ L : List (List Int), L.Nodup → (∀ x ∈ L, ∃ i ∈ is, x = itI i) → ∃ M : List Item, L = M.map itI ∧ M.Nodup ∧ ∀ i ∈ M, i ∈ is := by
      intro L
      induction L with
      | nil => exact fun _ _ => ⟨[], rfl, List.nodup_nil, fun _ h => absurd h List.not_mem_nil⟩
      | cons x L ih =>
        intro nd h
        have nd2 := List.nodup_cons.mp nd
        obtain ⟨M, e, nM, sM⟩ := ih nd2.2 fun y hy => h y (List.mem_cons_of_mem _ hy)
        obtain ⟨i, hi, ex⟩ := h x List.mem_cons_self
        refine ⟨i :: M, by rw [List.map_cons, ← ex, ← e], List.nodup_cons.mpr ⟨fun m => nd2.1 ?_, nM⟩, fun j hj => ?_⟩
        · rw [e, ex]
          exact List.mem_map_of_mem m
        · rcases List.mem_cons.mp hj with rfl | hj
          · exact hi
          · exact sM j hj
    walk_at "w"
    refine ⟨a, (ts.zip is).map fun p => (p.1, itI p.2), rfl, by rw [hz]; exact hS, fun q hq => by obtain ⟨i, _, e, k⟩ := zat q hq; rw [e, ← itV_itI]; exact k, fun L nd sb => ?_, fun s L hs sub cov => ?_⟩
    · obtain ⟨M, e, nM, sM⟩ := unI L nd fun x hx => by
        obtain ⟨q, hq, rfl⟩ := List.mem_map.mp (sb x hx)
        obtain ⟨i, hi, e, _⟩ := zat q hq
        exact ⟨i, hi, e⟩
      rw [e, List.length_map]
      exact few M nM sM
    walk_at "w"
    refine ⟨s, L, 3, 64, rfl, upd_same, fun q hq => ?_, by decide, fun q hq => ?_, fun L' p pm nd _ pw hp => ?_⟩
    · obtain ⟨i, _, e, k⟩ := zat q (sub q hq)
      rw [e, ← itV_itI]
      exact Same.tup (same_upd hs) k
    · obtain ⟨i, hi, e, _⟩ := zat q (sub q hq)
      obtain ⟨o1, o2, o3, o4, o5, o6⟩ := ok i hi
      rw [e]
      refine ⟨rfl, fun m hm => ?_⟩
      rcases List.mem_cons.mp hm with rfl | hm
      · omega
      rcases List.mem_cons.mp hm with rfl | hm
      · omega
      rcases List.mem_cons.mp hm with rfl | hm
      · omega
      · cases hm
    have inL : ∀ q ∈ L', ∃ i ∈ is, q.2 = itI i ∧ SqT K H q.1 (itV i) := fun q hq => zat q (sub q (pm.mem_iff.mp hq))
    obtain ⟨M, eM, nM, sM⟩ := unI (L'.map (·.2)) nd fun x hx => by
      obtain ⟨q, hq, rfl⟩ := List.mem_map.mp hx
      obtain ⟨i, hi, e, _⟩ := inL q hq
      exact ⟨i, hi, e⟩
    have uM : UpI M := by
      have h1 : (L'.map (·.2)).Pairwise fun x y => TS.code 64 x ≤ TS.code 64 y := List.pairwise_map.mpr pw
      rw [eM] at h1
      have h2 := List.pairwise_map.mp h1
      exact (List.Pairwise.and h2 nM).imp_of_mem fun ha hb h => code_lt (ok _ (sM _ ha)) (ok _ (sM _ hb)) h.1 h.2
    have mM : ∀ i, i ∈ M ↔ i ∈ is := fun i => by
      refine ⟨sM i, fun hi => ?_⟩
      obtain ⟨q, hq, e⟩ := itl i hi
      obtain ⟨q2, hq2, e2⟩ := List.mem_map.mp (cov q hq)
      have h3 : q2.2 ∈ L'.map (·.2) := List.mem_map_of_mem (pm.mem_iff.mpr hq2)
      rw [eM, e2, e] at h3
      obtain ⟨j, hj, ej⟩ := List.mem_map.mp h3
      rw [← itI_inj ej]
      exact hj
    have eS : M = sortItems is := upI_ext uM (up_sortItems ok) fun i => (mM i).trans (mem_sortItems ok i).symm
    have s1 := same_mut (same_upd (o := SetTO P w s L) hs) (Same.free (same_upd hs) hp) (o := .lst (L'.map fun q => V.ref q.1))
    refine hQ p (L'.map (·.1)) _ (Same.free (same_upd hs) hp) s1 (by rw [upd_same, List.map_map]; rfl) ?_
    rw [← eS]
    refine ⟨by rw [List.length_map]; have := congrArg List.length eM; rw [List.length_map, List.length_map] at this; exact this, fun j t i h1 h2 => ?_⟩
    rw [List.getElem?_map] at h1
    cases hq : L'[j]? with
    | none => rw [hq] at h1; cases h1
    | some q =>
      rw [hq] at h1
      obtain rfl := Option.some.inj h1
      have h3 : (L'.map (·.2))[j]? = some q.2 := by rw [List.getElem?_map, hq]; rfl
      rw [eM, List.getElem?_map, h2] at h3
      have h4 := Option.some.inj h3
      obtain ⟨i2, _, e2, k2⟩ := inL q (List.mem_of_getElem? hq)
      rw [e2] at h4
      obtain rfl := itI_inj h4
      exact Same.tup s1 k2
end

def sp_read_number (K : PySem.W.Frag) : Sp := fun vs H Q E => ∃ (w : List Nat) (lo hi : Nat), vs = [sv w, .int (lo : Int), .int (hi : Int)] ∧ WOk w ∧ (∀ n : Nat, within lo hi w = some n → Q (.int (n : Int)) H) ∧ (within lo hi w = none → NR K E H)
section
variable {P : Program} {w : World} {K : PySem.W.Frag} {mg : Str → Option Value} {base : Heap}
theorem sc_read_number : FnScope ["word", "least", "most", "number"] ["word", "least", "most"] (defScope s_read_number) := ⟨rfl, rfl, rfl, by decide +kernel, rfl, by decide +kernel, by decide +kernel⟩
theorem ok_read_number (T : Tx K mg) : DefOk P w K mg base (L2.CX P w) 1 "read_number" ["word", "least", "most"] (sp_read_number K) := by
  obtain ⟨fd, F⟩ := T.f_read_number
  refine ⟨⟨fd, F.ok sc_read_number (fun vs H Q E h => ?_) (fun cdv A outer s H vs Q E hr h => ?_), F.bindsN fun _ _ _ _ _ _ us hl => match us, hl with | [_, _, _], _ => rfl⟩, F.kp, T.g_read_number⟩
  · obtain ⟨w, lo, hi, rfl, _⟩ := h
    rfl
  · refine ⟨_, (pss_cons (ps_if (pw_or (pt_cmpR op_gt (pe_callB call_len (by rfl) T.b_len (by decide +kernel) (pa_cons (pv 0) pa_nil)) pe_int (nomark _)) (pw_or (pt_not (pt_val (pe_m0 PySem.F.slot_str_isdigit PySem.F.type_str_isdigit mt_isdigit (pv 0)))) (pw_or1 (pt_cmpR op_eq (pe_ix ix_str (pv 0) pe_int (fun _ _ => rfl)) pe_str (nomark _))))).pt (pss_one (CA.ps_nr T rfl rfl rfl (takes_of rfl rfl rfl rfl) (by rfl))) pss_nil)
      (pss_cons (ps_set (i := 3) sc_read_number.nd rfl (by first | exact Or.inl rfl | exact Or.inr rfl) (pe_callTy call_int_str (by rfl) T.b_int (by decide +kernel) (pa_cons (pv 0) pa_nil)))
      (pss_cons (ps_if (pw_or (pt_cmpR op_lt (pv 3) (pv 1) (nomark _)) (pw_or1 (pt_cmpR op_gt (pv 3) (pv 2) (nomark _)))).pt (pss_one (CA.ps_nr T rfl rfl rfl (takes_of rfl rfl rfl rfl) (by rfl))) pss_nil)
      (pss_one (ps_ret (pv 3)))))), ?_⟩
    clear F hr
    obtain ⟨w1, lo, hi, rfl, hw, hY, hN⟩ := h
    have big : (1000 : Nat) ≤ sizeLine := by decide
    have hl := hw.1
    have bad : numberOf w1 = none → NR K E H := fun e => hN (by unfold within; rw [e]; rfl)
    walk_at "w"
    refine ⟨_, _, rfl, ⟨by rw [SX.S_len]; omega, rfl⟩, ?_⟩
    rw [SX.S_len]
    walk_at "w"
    have nn : ∀ {c : Prop}, c → (c → numberOf w1 = none) → NR K E H := fun c f => bad (f c)
    refine w_cases (fun c => ?_) (fun c => ?_)
    · walk_at "w"
      refine nn c fun c => ?_
      cases e : numberOf w1 with
      | none => rfl
      | some n => have := (numberOf_some e).2.1; omega
    walk_at "w"
    refine ⟨S w1, rfl, rfl, trivial, ?_⟩
    rw [isdigit_eq hw.2]
    walk_at "w"
    cases w1 with
    | nil =>
      refine w_t ?_
      walk_at "w"
      exact bad rfl
    | cons a r =>
      cases hd : (a :: r).all dig with
      | false =>
        rw [show (!(a :: r).isEmpty && (a :: r).all fun c => decide (48 ≤ c) && decide (c ≤ 57)) = false from hd]
        refine w_t ?_
        walk_at "w"
        refine bad ?_
        cases e : numberOf (a :: r) with
        | none => rfl
        | some n => rw [(numberOf_some e).2.2.1] at hd; cases hd
      | true =>
        rw [show (!(a :: r).isEmpty && (a :: r).all fun c => decide (48 ≤ c) && decide (c ≤ 57)) = true from hd]
        refine w_f ?_
        walk_at "w"
        refine ⟨S (a :: r), 0, a, rfl, rfl, by rw [SX.S_len]; omega, atI_nat (j := 0) rfl, ?_⟩
        walk_at "w"
        show (if decide (S [a] = S [48]) = true then _ else _)
        rw [decS]
        refine w_cases (fun c2 => ?_) (fun c2 => ?_)
        · walk_at "w"
          refine bad ?_
          cases e : numberOf (a :: r) with
          | none => rfl
          | some n => exact absurd (by have : a = 48 := by simpa using c2
                                       exact this) (numberOf_some e).2.2.2.1
        · have c3 : ¬ a = 48 := fun z => c2 (by rw [z])
          have en : numberOf (a :: r) = some ((a :: r).foldl (fun (n c : Nat) => 10 * n + (c - 48)) 0) := numberOf_of (by simp) (by omega) hd c3
          walk_at "w"
          refine ⟨S (a :: r), _, rfl, int_eq hd (by simp) (by omega), by rw [SX.S_len]; omega, ?_⟩
          generalize hn : (a :: r).foldl (fun (n c : Nat) => 10 * n + (c - 48)) 0 = n at en ⊢
          have ew : within lo hi (a :: r) = if lo ≤ n ∧ n ≤ hi then some n else none := by
            unfold within
            rw [en]
            rfl
          walk_at "w"
          refine w_cases (fun c4 => ?_) (fun c4 => ?_)
          · walk_at "w"
            exact hN (by rw [ew, if_neg (by omega)])
          · walk_at "w"
            refine w_cases (fun c5 => ?_) (fun c5 => ?_)
            · walk_at "w"
              exact hN (by rw [ew, if_neg (by omega)])
            · walk_at "w"
              exact hY n (by rw [ew, if_pos (by omega)])
end

def sp_weekday_named (K : PySem.W.Frag) : Sp := fun vs H Q _ => ∃ w : List Nat, vs = [sv w] ∧ Q (match weekdayOf w with | some d => .int (d : Nat) | none => .int (-1)) H
section
variable {P : Program} {w : World} {K : PySem.W.Frag} {mg : Str → Option Value} {base : Heap}
theorem sc_weekday_named : FnScope ["word", "weekday"] ["word"] (defScope s_weekday_named) := ⟨rfl, rfl, rfl, by decide +kernel, rfl, by decide +kernel, by decide +kernel⟩
theorem ok_weekday_named (T : Tx K mg) : DefOk P w K mg base CX0 1 "weekday_named" ["word"] (sp_weekday_named K) := by
  obtain ⟨fd, F⟩ := T.f_weekday_named
  refine ⟨⟨fd, F.ok sc_weekday_named (fun vs H Q E h => ?_) (fun cdv A outer s H vs Q E hr h => ?_), F.bindsN fun _ _ _ _ _ _ us hl => match us, hl with | [_], _ => rfl⟩, F.kp, T.g_weekday_named⟩
  · obtain ⟨w, rfl, _⟩ := h
    rfl
  · refine ⟨_, PSs.nox (pss_cons (ps_for PassesOwn.never rfl (pi_range1 (by rfl) T.b_range (pa_cons pe_int pa_nil)) (pg_name (i := 1) sc_weekday_named.nd rfl (by first | exact Or.inl rfl | exact Or.inr rfl)) (pss_one (ps_if (pt_cmpR op_eq (pe_ix (ix_tupK (K := K) rfl) (pe_gr T.g_WEEKDAYS (by rfl)) (pv 1) (fun _ _ => rfl)) (pv 0) (nomark _)) (pss_one (ps_ret (pv 1))) pss_nil)))
      (pss_one (ps_ret (pe_un un_neg pe_int)))), ?_⟩
    clear F hr
    obtain ⟨w1, rfl, hQ⟩ := h
    walk_at "w"
    refine ⟨7, rfl, by omega, by omega, ?_⟩
    refine for_range (n := 7) (fun i σ H' => ∃ e, H' = H ∧ σ = [some (sv w1), e] ∧ ∀ j, j < i → MO.getD j [] ≠ w1) ⟨none, rfl, rfl, fun j h => absurd h (Nat.not_lt_zero j)⟩ ?_ ?_
    · rintro i σ H' hi ⟨e, rfl, rfl, hk⟩
      rw [Int.zero_add]
      walk_at "w"
      refine w_ixt (T.t_WEEKDAYS _) (wd_at hi) ?_
      walk_at "w"
      rw [decS]
      refine w_cases (fun c => ?_) (fun c => ?_)
      · walk_at "w"
        rw [← c, mo_self hi] at hQ
        exact hQ
      · walk_at "w"
        refine ⟨_, rfl, rfl, fun j hj => ?_⟩
        by_cases ej : j = i
        · subst ej
          exact c
        · exact hk j (by omega)
    · rintro σ H' ⟨e, rfl, rfl, hk⟩
      walk_at "w"
      rw [weekday_none hk] at hQ
      exact hQ
end

def sp_read_weekday (K : PySem.W.Frag) : Sp := fun vs H Q E => ∃ w : List Nat, vs = [sv w] ∧ (∀ d : Nat, weekdayOf w = some d → Q (.int (d : Nat)) H) ∧ (weekdayOf w = none → NR K E H)
section
variable {P : Program} {w : World} {K : PySem.W.Frag} {mg : Str → Option Value} {base : Heap}
theorem sc_read_weekday : FnScope ["word", "weekday"] ["word"] (defScope s_read_weekday) := ⟨rfl, rfl, rfl, by decide +kernel, rfl, by decide +kernel, by decide +kernel⟩
theorem ok_read_weekday (T : Tx K mg) : DefOk P w K mg base (L2.CX P w) 2 "read_weekday" ["word"] (sp_read_weekday K) := by
  obtain ⟨fd, F⟩ := T.f_read_weekday
  refine ⟨⟨fd, F.ok sc_read_weekday (fun vs H Q E h => ?_) (fun cdv A outer s H vs Q E hr h => ?_), F.bindsN fun _ _ _ _ _ _ us hl => match us, hl with | [_], _ => rfl⟩, F.kp, T.g_read_weekday⟩
  · obtain ⟨w, rfl, _⟩ := h
    rfl
  · refine ⟨_, (pss_cons (ps_set (i := 1) sc_read_weekday.nd rfl (by first | exact Or.inl rfl | exact Or.inr rfl) (pe_fn (ok_weekday_named T) (hr.mono (by decide)) (by rfl) pass0 (pa_cons (pv 0) pa_nil)))
      (pss_cons (ps_if (pt_cmpR op_lt (pv 1) pe_int (nomark _)) (pss_one (CA.ps_nr T rfl rfl rfl (takes_of rfl rfl rfl rfl) (by rfl))) pss_nil)
      (pss_one (ps_ret (pv 1))))), ?_⟩
    clear F hr
    obtain ⟨w1, rfl, hY, hN⟩ := h
    walk_at "w"
    refine ⟨w1, rfl, ?_⟩
    cases e : weekdayOf w1 with
    | none =>
      dsimp only
      walk_at "w"
      refine w_yes (by decide) ?_
      walk_at "w"
      exact hN e
    | some d =>
      dsimp only
      walk_at "w"
      refine w_no (by omega) ?_
      walk_at "w"
      exact hY d e
end

end CA
end file_CaM7
section file_CaM8
set_option maxRecDepth 100000
set_option maxHeartbeats 4000000
namespace CA
open PySem PySem.Spec PyProof.Rows L2
open SX (S)
open Cl01 (monthDays monthStart isDate dayOf yearOf monthOf domOf weekday week weekOf)

open Cl01 (parted joined within numberOf weekdayOf itemOf dateOf sorted MO Item insertItem itemCode dayOf isDate)
theorem cut_end (w : List Nat) (h : 2 ≤ w.length) : cutS (S w) (some ((w.length : Int) - 2)) none = S (w.drop (w.length - 2)) := by
  rw [show (w.length : Int) - 2 = ((w.length - 2 : Nat) : Int) by omega]
  exact cut_from w _
theorem cut_mid (w : List Nat) (st : Nat) (h : st + 2 < w.length) : cutS (S w) (some (st : Int)) (some ((w.length : Int) - 2)) = S ((w.drop st).take (w.length - 2 - st)) := by
  rw [show (w.length : Int) - 2 = ((w.length - 2 : Nat) : Int) by omega]
  exact cut_to w _ _ (by omega) (by omega)
theorem char_at {w : List Nat} {i c : Nat} (h : w[i]? = some c) : atI (S w).cps.toList (i : Int) = some c := atI_nat h
def sp_read_pick (K : PySem.W.Frag) : Sp := fun vs H Q E => ∃ w : List Nat, vs = [sv w] ∧ WOk w ∧ (∀ i, itemOf w = some i → ∀ p H', H p = none → Same H H' → H' p = some (.tup (itV i)) → Q (.ref p) H') ∧ (itemOf w = none → NR K E H)
section
variable {P : Program} {w : World} {K : PySem.W.Frag} {mg : Str → Option Value} {base : Heap}
theorem sc_read_pick : FnScope ["word", "from_end", "start", "name_start", "k", "weekday"] ["word"] (defScope s_read_pick) := ⟨rfl, rfl, rfl, by decide +kernel, rfl, by decide +kernel, by decide +kernel⟩
theorem ok_read_pick (T : Tx K mg) : DefOk P w K mg base (L2.CX P w) 2 "read_pick" ["word"] (sp_read_pick K) := by
  obtain ⟨fd, F⟩ := T.f_read_pick
  refine ⟨⟨fd, F.ok sc_read_pick (fun vs H Q E h => ?_) (fun cdv A outer s H vs Q E hr h => ?_), F.bindsN fun _ _ _ _ _ _ us hl => match us, hl with | [_], _ => rfl⟩, F.kp, T.g_read_pick⟩
  · obtain ⟨w, rfl, _⟩ := h
    rfl
  · refine ⟨_, (pss_cons (ps_set (i := 1) sc_read_pick.nd rfl (by first | exact Or.inl rfl | exact Or.inr rfl) (pe_m1 PySem.F.slot_str_startswith PySem.F.type_str_startswith mt_startswith (pv 0) pe_str))
      (Evl.pss_cut (ps_set (i := 2) sc_read_pick.nd rfl (by first | exact Or.inl rfl | exact Or.inr rfl) (pe_ifExp (pt_val (pv 1)) pe_int pe_int))
      (pss_cons (ps_set (i := 3) sc_read_pick.nd rfl (by first | exact Or.inl rfl | exact Or.inr rfl) (pe_op op_sub (pe_callB call_len (by rfl) T.b_len (by decide +kernel) (pa_cons (pv 0) pa_nil)) pe_int))
      (Evl.pss_cut (ps_if (pw_and (pt_cmpR op_gt (pv 3) (pv 2) (nomark _)) (pw_and1 (pt_cmpR op_ge (pe_fn (ok_weekday_named T) (hr.mono (by decide)) (by rfl) pass0 (pa_cons (pe_slice sl_str (pv 0) (po_some (pv 3)) po_none) pa_nil)) pe_int (nomark _)))).pt (pss_cons (ps_set (i := 4) sc_read_pick.nd rfl (by first | exact Or.inl rfl | exact Or.inr rfl) (pe_fn (ok_read_number T) (hr.mono (by decide)) (by rfl) (passes_call (takes_of rfl rfl rfl rfl) fun _ _ _ _ h => h) (pa_cons (pe_slice sl_str (pv 0) (po_some (pv 2)) (po_some (pv 3))) (pa_cons pe_int (pa_cons pe_int pa_nil)))))
      (pss_cons (ps_set (i := 5) sc_read_pick.nd rfl (by first | exact Or.inl rfl | exact Or.inr rfl) (pe_fn (ok_weekday_named T) (hr.mono (by decide)) (by rfl) pass0 (pa_cons (pe_slice sl_str (pv 0) (po_some (pv 3)) po_none) pa_nil)))
      (pss_one (ps_ret (pe_tup (pa_cons (pe_ifExp (pt_val (pv 1)) (pe_gi T.i_WEEKDAY_FROM_END (by rfl)) (pe_gi T.i_WEEKDAY (by rfl))) (pa_cons (pv 4) (pa_cons (pv 5) pa_nil)))))))) pss_nil)
      (pss_cons (ps_set (i := 4) sc_read_pick.nd rfl (by first | exact Or.inl rfl | exact Or.inr rfl) (pe_fn (ok_read_number T) (hr.mono (by decide)) (by rfl) (passes_call (takes_of rfl rfl rfl rfl) fun _ _ _ _ h => h) (pa_cons (pe_slice sl_str (pv 0) (po_some (pv 2)) po_none) (pa_cons pe_int (pa_cons pe_int pa_nil)))))
      (pss_one (ps_ret (pe_tup (pa_cons (pe_ifExp (pt_val (pv 1)) (pe_gi T.i_DAY_FROM_END (by rfl)) (pe_gi T.i_DAY_rule (by rfl))) (pa_cons (pv 4) (pa_cons pe_int pa_nil))))))))))), ?_⟩
    clear F hr
    obtain ⟨w1, rfl, hw, hY, hN⟩ := h
    have big : (1000 : Nat) ≤ sizeLine := by decide
    have hl := hw.1
    walk_at "w"
    refine ⟨_, S [45], rfl, rfl, ?_⟩
    rw [starts_minus]
    generalize hb : (w1.headD 0 == 45) = b
    walk_at "w"
    refine w_cut (fun σ' H' => H' = H ∧ σ' = [some (sv w1), some (.bl b), some (.int ((if b = true then 1 else 0 : Nat) : Int)), none, none, none]) ?_ ?_
    · walk_at "w"
      cases b with
      | true =>
        walk_at "w"
        exact ⟨rfl, rfl⟩
      | false =>
        walk_at "w"
        exact ⟨rfl, rfl⟩
    rintro _ H1 ⟨eH, rfl⟩
    have eH := eH.symm
    subst eH
    generalize hst : (if b = true then 1 else 0) = st
    have st1 : st ≤ 1 := by subst hst; cases b <;> decide
    walk_at "w"
    refine ⟨_, _, rfl, ⟨by rw [SX.S_len]; omega, rfl⟩, ?_⟩
    rw [SX.S_len]
    walk_at "w"
    refine w_cut (fun σ' H' => H' = H ∧ (∃ e4 e5, σ' = [some (sv w1), some (.bl b), some (.int (st : Int)), some (.int ((w1.length : Int) - 2)), e4, e5]) ∧ (st + 2 < w1.length → weekdayOf (w1.drop (w1.length - 2)) = none)) ?_ ?_
    · walk_at "w"
      refine w_cases (fun c => ?_) (fun c => ?_)
      · walk_at "w"
        refine w_sls (by rw [SX.S_len]; omega) ?_
        rw [cut_end _ (by omega)]
        walk_at "w"
        refine ⟨_, rfl, ?_⟩
        cases hd : weekdayOf (w1.drop (w1.length - 2)) with
        | none =>
          dsimp only
          walk_at "w"
          refine w_no (by decide) ?_
          walk_at "w"
          exact ⟨rfl, ⟨_, _, rfl⟩, fun _ => rfl⟩
        | some x =>
          dsimp only
          walk_at "w"
          refine w_yes (by omega) ?_
          walk_at "w"
          refine w_sls (by rw [SX.S_len]; omega) ?_
          rw [cut_mid _ st (by omega)]
          walk_at "w"
          have ei := item_wd hb (by rw [hst]; omega) hd
          rw [hst] at ei
          refine ⟨_, 1, 5, rfl, wok_cut hw _ _, fun k hk => ?_, fun hk => hN (by rw [ei, hk]; rfl)⟩
          walk_at "w"
          refine w_sls (by rw [SX.S_len]; omega) ?_
          rw [cut_end _ (by omega)]
          walk_at "w"
          refine ⟨_, rfl, ?_⟩
          rw [hd]
          dsimp only
          walk_at "w"
          rw [hk] at ei
          cases b with
          | true =>
            walk_at "w"
            intro p hp
            exact hY _ ei p _ hp (same_upd hp) upd_same
          | false =>
            walk_at "w"
            intro p hp
            exact hY _ ei p _ hp (same_upd hp) upd_same
      · walk_at "w"
        exact ⟨rfl, ⟨_, _, rfl⟩, fun z => by omega⟩
    rintro _ H1 ⟨eH, ⟨e4, e5, rfl⟩, hno⟩
    have eH := eH.symm
    subst eH
    have ei := item_day hb (by rw [hst]; exact hno)
    rw [hst] at ei
    walk_at "w"
    refine w_sls (by rw [SX.S_len]; omega) ?_
    rw [cut_from]
    walk_at "w"
    refine ⟨_, 1, 31, rfl, wok_drop hw _, fun k hk => ?_, fun hk => hN (by rw [ei, hk]; rfl)⟩
    walk_at "w"
    rw [hk] at ei
    cases b with
    | true =>
      obtain rfl : st = 1 := hst.symm
      walk_at "w"
      intro p hp
      exact hY _ ei p _ hp (same_upd hp) upd_same
    | false =>
      obtain rfl : st = 0 := hst.symm
      walk_at "w"
      intro p hp
      exact hY _ ei p _ hp (same_upd hp) upd_same
end

def sp_read_date (K : PySem.W.Frag) : Sp := fun vs H Q E => ∃ w : List Nat, vs = [sv w] ∧ WOk w ∧ (∀ n : Nat, dateOf w = some n → Q (.int (n : Nat)) H) ∧ (dateOf w = none → NR K E H)
section
variable {P : Program} {w : World} {K : PySem.W.Frag} {mg : Str → Option Value} {base : Heap}
theorem sc_read_date : FnScope ["word", "year", "month", "of_month"] ["word"] (defScope s_read_date) := ⟨rfl, rfl, rfl, by decide +kernel, rfl, by decide +kernel, by decide +kernel⟩
theorem ok_read_date (T : Tx K mg) : DefOk P w K mg base (L2.CX P w) 4 "read_date" ["word"] (sp_read_date K) := by
  obtain ⟨fd, F⟩ := T.f_read_date
  refine ⟨⟨fd, F.ok sc_read_date (fun vs H Q E h => ?_) (fun cdv A outer s H vs Q E hr h => ?_), F.bindsN fun _ _ _ _ _ _ us hl => match us, hl with | [_], _ => rfl⟩, F.kp, T.g_read_date⟩
  · obtain ⟨w, rfl, _⟩ := h
    rfl
  · refine ⟨_, (Evl.pss_cut (ps_if (pw_or (pt_cmpR op_ne (pe_callB call_len (by rfl) T.b_len (by decide +kernel) (pa_cons (pv 0) pa_nil)) pe_int (nomark _)) (pw_or (pt_cmpR op_ne (pe_ix ix_str (pv 0) pe_int (fun _ _ => rfl)) pe_str (nomark _)) (pw_or1 (pt_cmpR op_ne (pe_ix ix_str (pv 0) pe_int (fun _ _ => rfl)) pe_str (nomark _))))).pt (pss_one (CA.ps_nr T rfl rfl rfl (takes_of rfl rfl rfl rfl) (by rfl))) pss_nil)
      (Evl.pss_cut (ps_if (pt_not (pw_and (pt_val (pe_m0 PySem.F.slot_str_isdigit PySem.F.type_str_isdigit mt_isdigit (pe_slice sl_str (pv 0) (po_some pe_int) (po_some pe_int)))) (pw_and (pt_val (pe_m0 PySem.F.slot_str_isdigit PySem.F.type_str_isdigit mt_isdigit (pe_slice sl_str (pv 0) (po_some pe_int) (po_some pe_int)))) (pw_and1 (pt_val (pe_m0 PySem.F.slot_str_isdigit PySem.F.type_str_isdigit mt_isdigit (pe_slice sl_str (pv 0) (po_some pe_int) (po_some pe_int))))))).pt) (pss_one (CA.ps_nr T rfl rfl rfl (takes_of rfl rfl rfl rfl) (by rfl))) pss_nil)
      (pss_cons (ps_set (i := 1) sc_read_date.nd rfl (by first | exact Or.inl rfl | exact Or.inr rfl) (pe_callTy call_int_str (by rfl) T.b_int (by decide +kernel) (pa_cons (pe_slice sl_str (pv 0) (po_some pe_int) (po_some pe_int)) pa_nil)))
      (pss_cons (ps_set (i := 2) sc_read_date.nd rfl (by first | exact Or.inl rfl | exact Or.inr rfl) (pe_callTy call_int_str (by rfl) T.b_int (by decide +kernel) (pa_cons (pe_slice sl_str (pv 0) (po_some pe_int) (po_some pe_int)) pa_nil)))
      (pss_cons (ps_set (i := 3) sc_read_date.nd rfl (by first | exact Or.inl rfl | exact Or.inr rfl) (pe_callTy call_int_str (by rfl) T.b_int (by decide +kernel) (pa_cons (pe_slice sl_str (pv 0) (po_some pe_int) (po_some pe_int)) pa_nil)))
      (pss_cons (ps_if (pt_not (pt_val (pe_fn (ok_is_date T) (hr.mono (by decide)) (by rfl) pass0 (pa_cons (pv 1) (pa_cons (pv 2) (pa_cons (pv 3) pa_nil)))))) (pss_one (CA.ps_nr T rfl rfl rfl (takes_of rfl rfl rfl rfl) (by rfl))) pss_nil)
      (pss_one (ps_ret (pe_fn (ok_day_number T) (hr.mono (by decide)) (by rfl) pass0 (pa_cons (pv 1) (pa_cons (pv 2) (pa_cons (pv 3) pa_nil)))))))))))), ?_⟩
    clear F hr
    obtain ⟨w1, rfl, hw, hY, hN⟩ := h
    have big : (1000 : Nat) ≤ sizeLine := by decide
    have hl := hw.1
    have no : ¬ Dated w1 → NR K E H := fun e => hN (date_no e)
    walk_at "w"
    refine w_cut (fun σ' H' => H' = H ∧ σ' = [some (sv w1), none, none, none] ∧ w1.length = 10 ∧ w1[4]? = some 45 ∧ w1[7]? = some 45) ?_ ?_
    · walk_at "w"
      refine ⟨_, _, rfl, ⟨by rw [SX.S_len]; omega, rfl⟩, ?_⟩
      rw [SX.S_len]
      walk_at "w"
      refine w_ncases (fun c => ?_) (fun c => ?_)
      · walk_at "w"
        exact no fun z => by have := z.1; omega
      walk_at "w"
      have l10 : w1.length = 10 := by omega
      have h4 : w1[4]? = some w1[4] := List.getElem?_eq_getElem (by omega)
      have h7 : w1[7]? = some w1[7] := List.getElem?_eq_getElem (by omega)
      generalize w1[4] = c4 at h4
      generalize w1[7] = c7 at h7
      refine ⟨S w1, 4, c4, rfl, rfl, by rw [SX.S_len]; omega, char_at h4, ?_⟩
      walk_at "w"
      show (if (!decide (S [c4] = S [45])) = true then _ else _)
      rw [decS]
      refine w_ncases (fun c5 => ?_) (fun c5 => ?_)
      · walk_at "w"
        refine no fun z => ?_
        have := z.2.1
        rw [h4] at this
        exact c5 (by rw [Option.some.inj this])
      walk_at "w"
      refine ⟨S w1, 7, c7, rfl, rfl, by rw [SX.S_len]; omega, char_at h7, ?_⟩
      walk_at "w"
      show (if (!decide (S [c7] = S [45])) = true then _ else _)
      rw [decS]
      refine w_ncases (fun c6 => ?_) (fun c6 => ?_)
      · walk_at "w"
        refine no fun z => ?_
        have := z.2.2.1
        rw [h7] at this
        exact c6 (by rw [Option.some.inj this])
      walk_at "w"
      have e4 : c4 = 45 := by simpa using c5
      have e7 : c7 = 45 := by simpa using c6
      exact ⟨rfl, rfl, l10, by rw [h4, e4], by rw [h7, e7]⟩
    rintro _ H1 ⟨eH, rfl, l10, h4, h7⟩
    have eH := eH.symm
    subst eH
    have q1 : cutS (S w1) (some 0) (some 4) = S (w1.take 4) := (cut_to w1 0 4 (by omega) (by omega)).trans rfl
    have q2 : cutS (S w1) (some 5) (some 7) = S ((w1.drop 5).take 2) := cut_to w1 5 7 (by omega) (by omega)
    have q3 : cutS (S w1) (some 8) (some 10) = S (w1.drop 8) := (cut_to w1 8 10 (by omega) (by omega)).trans (congrArg S (List.take_of_length_le (by rw [List.length_drop]; omega)))
    have k1 : WOk (w1.take 4) := wok_cut hw 0 4
    have k2 : WOk ((w1.drop 5).take 2) := wok_cut hw 5 2
    have k3 : WOk (w1.drop 8) := wok_drop hw 8
    have n1 : (w1.take 4).length = 4 := by rw [List.length_take]; omega
    have n2 : ((w1.drop 5).take 2).length = 2 := by rw [List.length_take, List.length_drop]; omega
    have n3 : (w1.drop 8).length = 2 := by rw [List.length_drop]; omega
    have isd : ∀ {v : List Nat}, WOk v → v ≠ [] → Txt.isdigit (S v) = v.all dig := fun {v} k ne => by
      rw [isdigit_eq k.2]
      cases v with
      | nil => exact absurd rfl ne
      | cons a r => rfl
    have ne1 : w1.take 4 ≠ [] := fun z => by rw [z] at n1; cases n1
    have ne2 : (w1.drop 5).take 2 ≠ [] := fun z => by rw [z] at n2; cases n2
    have ne3 : w1.drop 8 ≠ [] := fun z => by rw [z] at n3; cases n3
    have dated : (w1.take 4).all dig = true → ((w1.drop 5).take 2).all dig = true → (w1.drop 8).all dig = true → Dated w1 := fun a b c => ⟨l10, h4, h7, a, b, c⟩
    refine w_cut (fun σ' H' => H' = H ∧ σ' = [some (sv w1), none, none, none] ∧ Dated w1) ?_ ?_
    · walk_at "w"
      refine w_sls (by rw [SX.S_len]; omega) ?_
      rw [q1]
      walk_at "w"
      refine ⟨_, rfl, rfl, trivial, ?_⟩
      rw [isd k1 ne1]
      walk_at "w"
      cases d1 : (w1.take 4).all dig with
      | false =>
        walk_at "w"
        refine w_t ?_
        walk_at "w"
        exact no fun z => by rw [z.2.2.2.1] at d1; cases d1
      | true =>
      walk_at "w"
      refine w_sls (by rw [SX.S_len]; omega) ?_
      rw [q2]
      walk_at "w"
      refine ⟨_, rfl, rfl, trivial, ?_⟩
      rw [isd k2 ne2]
      walk_at "w"
      cases d2 : ((w1.drop 5).take 2).all dig with
      | false =>
        walk_at "w"
        refine w_t ?_
        walk_at "w"
        exact no fun z => by rw [z.2.2.2.2.1] at d2; cases d2
      | true =>
      walk_at "w"
      refine w_sls (by rw [SX.S_len]; omega) ?_
      rw [q3]
      walk_at "w"
      refine ⟨_, rfl, rfl, trivial, ?_⟩
      rw [isd k3 ne3]
      walk_at "w"
      cases d3 : (w1.drop 8).all dig with
      | false =>
        walk_at "w"
        refine w_t ?_
        walk_at "w"
        exact no fun z => by rw [z.2.2.2.2.2] at d3; cases d3
      | true =>
      refine w_f ?_
      walk_at "w"
      exact ⟨rfl, rfl, dated d1 d2 d3⟩
    rintro _ H1 ⟨eH, rfl, dd⟩
    have eH := eH.symm
    subst eH
    have ed := date_of dd
    obtain ⟨_, _, _, d1, d2, d3⟩ := dd
    walk_at "w"
    refine w_sls (by rw [SX.S_len]; omega) ?_
    rw [q1]
    walk_at "w"
    refine ⟨_, _, rfl, int_eq d1 ne1 (by omega), by rw [SX.S_len]; omega, ?_⟩
    walk_at "w"
    refine w_sls (by rw [SX.S_len]; omega) ?_
    rw [q2]
    walk_at "w"
    refine ⟨_, _, rfl, int_eq d2 ne2 (by omega), by rw [SX.S_len]; omega, ?_⟩
    walk_at "w"
    refine w_sls (by rw [SX.S_len]; omega) ?_
    rw [q3]
    walk_at "w"
    refine ⟨_, _, rfl, int_eq d3 ne3 (by omega), by rw [SX.S_len]; omega, ?_⟩
    rw [show (w1.take 4).foldl (fun (n c : Nat) => 10 * n + (c - 48)) 0 = nval (w1.take 4) from rfl, show ((w1.drop 5).take 2).foldl (fun (n c : Nat) => 10 * n + (c - 48)) 0 = nval ((w1.drop 5).take 2) from rfl, show (w1.drop 8).foldl (fun (n c : Nat) => 10 * n + (c - 48)) 0 = nval (w1.drop 8) from rfl]
    generalize nval (w1.take 4) = y at ed ⊢
    generalize nval ((w1.drop 5).take 2) = m at ed ⊢
    generalize nval (w1.drop 8) = dn at ed ⊢
    walk_at "w"
    refine ⟨y, m, dn, rfl, ?_⟩
    walk_at "w"
    by_cases c1 : 2000 ≤ y ∧ isDate (y - 2000) m dn = true
    · rw [if_pos c1] at ed
      rw [decide_eq_true c1.1, c1.2]
      refine w_f ?_
      walk_at "w"
      have pp := isDate_parts c1.2
      refine ⟨y - 2000, m, dn, by rw [show (2000 : Int) + ((y - 2000 : Nat) : Int) = (y : Int) by omega], pp.1, pp.2.1, pp.2.2, ?_⟩
      exact hY _ ed
    · rw [if_neg c1] at ed
      have e0 : (decide (2000 ≤ y) && isDate (y - 2000) m dn) = false := by
        cases a : decide (2000 ≤ y) with
        | false => rfl
        | true =>
          cases b : isDate (y - 2000) m dn with
          | false => rfl
          | true => exact absurd ⟨of_decide_eq_true a, b⟩ c1
      rw [e0]
      refine w_t ?_
      walk_at "w"
      exact hN ed
end

end CA
end file_CaM8
section file_CaM9
set_option maxRecDepth 100000
set_option maxHeartbeats 4000000
namespace CA
open PySem PySem.Spec PyProof.Rows L2
open SX (S)
open Cl01 (monthDays monthStart isDate dayOf yearOf monthOf domOf weekday week weekOf)

open Cl01 (parted joined within numberOf weekdayOf itemOf dateOf sorted MO Item insertItem itemCode dayOf isDate allOf BY ON IN FROM UNTIL TIMES NOT ALSO FREQS)
/-- until, as the program keeps it -/
def uvI : Option Nat → Int
  | some n => (n : Int)
  | none => -1
/-- times, as the program keeps it -/
def tvI : Option Nat → Int
  | some n => (n : Int)
  | none => 0
theorem few_lt {ns : List Nat} {B : Nat} (h : ∀ x ∈ ns, x < B) (hB : B < 64) (D : List Int) (nd : D.Nodup) (sb : ∀ x ∈ D, x ∈ ns.map fun n : Nat => (n : Int)) : D.length < 64 := by
  have := nodup_le (M := (List.range B).map fun n : Nat => (n : Int)) nd fun x hx => by
    obtain ⟨n, hn, rfl⟩ := List.mem_map.mp (sb x hx)
    exact List.mem_map.mpr ⟨n, List.mem_range.mpr (h n hn), rfl⟩
  rw [List.length_map, List.length_range] at this
  omega
theorem few_len {ns : List Nat} (h : ns.length < 64) (D : List Int) (nd : D.Nodup) (sb : ∀ x ∈ D, x ∈ ns.map fun n : Nat => (n : Int)) : D.length < 64 := by
  have := nodup_le nd sb
  rw [List.length_map] at this
  omega
theorem dates_few : ∀ {ws : List (List Nat)} {ns : List Nat}, ws.mapM dateOf = some ns → 11 * ns.length ≤ (ws.map fun x => x.length + 1).sum
  | [], ns, h => by
    obtain rfl := Option.some.inj h
    exact Nat.zero_le _
  | a :: l, r, h => by
    rw [mapM_cons'] at h
    cases e : dateOf a with
    | none => rw [e] at h; cases h
    | some b =>
      cases e2 : List.mapM dateOf l with
      | none => rw [e, e2] at h; cases h
      | some c =>
        rw [e, e2] at h
        obtain rfl := Option.some.inj h
        have ih := dates_few e2
        have : a.length = 10 := by
          by_cases z : Dated a
          · exact z.1
          · rw [date_no z] at e; cases e
        simp only [List.map_cons, List.sum_cons, List.length_cons]
        omega
theorem wk_in {f : Nat} (h : f < 4) : inV (sv (FREQS.getD f [])) [V.str "daily", V.str "weekly"] = decide (f < 2) := by
  have : f = 0 ∨ f = 1 ∨ f = 2 ∨ f = 3 := by omega
  rcases this with rfl | rfl | rfl | rfl <;> decide +kernel
theorem wd_lt {w : List Nat} {ns : List Nat} (h : allOf weekdayOf w = some ns) : ∀ x ∈ ns, x < 7 := fun x hx => by
  obtain ⟨v, hv⟩ := all_mem h hx
  exact (weekdayOf_some hv).1
theorem ms_lt {w : List Nat} {ns : List Nat} (h : allOf (within 1 12) w = some ns) : ∀ x ∈ ns, x < 13 := fun x hx => by
  obtain ⟨v, hv⟩ := all_mem h hx
  have := (within_some hv).2.2
  omega
theorem all_len {A : Type} {f : List Nat → Option A} {w : List Nat} {ns : List A} (h : allOf f w = some ns) : ns.length ≤ w.length + 1 := by
  rw [(mapM_some h).1]
  exact parted_count 44 w
def sp_read_step (K : PySem.W.Frag) : Sp := fun vs H Q E => ∃ (a : Addr) (l : List (List Nat)), vs = [.ref a] ∧ WordsR K H a l ∧ (∀ (n : Nat) l', opt BY 1 (within 1 99) l = some (n, l') → ∀ H', Off a H H' → WordsR K H' a l' → Q (.int (n : Nat)) H') ∧ (opt BY 1 (within 1 99) l = none → ∀ H', Off a H H' → NR K E H')
section
variable {P : Program} {w : World} {K : PySem.W.Frag} {mg : Str → Option Value} {base : Heap}
theorem sc_read_step : FnScope ["words"] ["words"] (defScope s_read_step) := ⟨rfl, rfl, rfl, by decide +kernel, rfl, by decide +kernel, by decide +kernel⟩
theorem ok_read_step (T : Tx K mg) : DefOk P w K mg base (L2.CX P w) 3 "read_step" ["words"] (sp_read_step K) := by
  obtain ⟨fd, F⟩ := T.f_read_step
  refine ⟨⟨fd, F.ok sc_read_step (fun vs H Q E h => ?_) (fun cdv A outer s H vs Q E hr h => ?_), F.bindsN fun _ _ _ _ _ _ us hl => match us, hl with | [_], _ => rfl⟩, F.kp, T.g_read_step⟩
  · obtain ⟨a, l, rfl, _⟩ := h
    rfl
  · refine ⟨_, (pss_cons (ps_if (pt_val (pe_me (ok_Words_skip T) (pv 0) (hr.mono (by decide)) pass0 (pa_cons pe_str pa_nil))) (pss_one (ps_ret (pe_fn (ok_read_number T) (hr.mono (by decide)) (by rfl) (passes_call (takes_of rfl rfl rfl rfl) fun _ _ _ _ h => h) (pa_cons (pe_me0 (ok_Words_take T) (pv 0) (hr.mono (by decide)) pass0) (pa_cons pe_int (pa_cons pe_int pa_nil)))))) pss_nil)
      (pss_one (ps_ret pe_int))), ?_⟩
    clear F hr
    obtain ⟨a, l, rfl, hW, hY, hN⟩ := h
    walk_at "w"
    refine w_wd hW (lk_words (by decide +kernel) (by decide +kernel)) ?_
    walk_at "w"
    refine ⟨a, l, BY, rfl, hW, fun c H1 o1 W1 => ?_, fun c => ?_⟩
    · walk_at "w"
      refine w_wd W1 (lk_words (by decide +kernel) (by decide +kernel)) ?_
      walk_at "w"
      refine ⟨a, _, rfl, W1, fun H2 o2 W2 => ?_⟩
      walk_at "w"
      exact ⟨_, 1, 99, rfl, wok_hd W1.ok, fun n hn => hY n _ (by rw [opt_yes c, hn]; rfl) _ (Off.trans o1 o2) W2, fun hn => hN (by rw [opt_yes c, hn]; rfl) _ (Off.trans o1 o2)⟩
    · walk_at "w"
      exact hY 1 l (opt_no c) H (Off.refl _ _) hW
end

def sp_read_until (K : PySem.W.Frag) : Sp := fun vs H Q E => ∃ (a : Addr) (l : List (List Nat)), vs = [.ref a] ∧ WordsR K H a l ∧ (∀ (u : Option Nat) l', opt UNTIL none (fun w => (dateOf w).map some) l = some (u, l') → ∀ H', Off a H H' → WordsR K H' a l' → Q (.int (uvI u)) H') ∧ (opt UNTIL none (fun w => (dateOf w).map some) l = none → ∀ H', Off a H H' → NR K E H')
section
variable {P : Program} {w : World} {K : PySem.W.Frag} {mg : Str → Option Value} {base : Heap}
theorem sc_read_until : FnScope ["words"] ["words"] (defScope s_read_until) := ⟨rfl, rfl, rfl, by decide +kernel, rfl, by decide +kernel, by decide +kernel⟩
theorem ok_read_until (T : Tx K mg) : DefOk P w K mg base (L2.CX P w) 5 "read_until" ["words"] (sp_read_until K) := by
  obtain ⟨fd, F⟩ := T.f_read_until
  refine ⟨⟨fd, F.ok sc_read_until (fun vs H Q E h => ?_) (fun cdv A outer s H vs Q E hr h => ?_), F.bindsN fun _ _ _ _ _ _ us hl => match us, hl with | [_], _ => rfl⟩, F.kp, T.g_read_until⟩
  · obtain ⟨a, l, rfl, _⟩ := h
    rfl
  · refine ⟨_, (pss_cons (ps_if (pt_val (pe_me (ok_Words_skip T) (pv 0) (hr.mono (by decide)) pass0 (pa_cons pe_str pa_nil))) (pss_one (ps_ret (pe_fn (ok_read_date T) (hr.mono (by decide)) (by rfl) (passes_call (takes_of rfl rfl rfl rfl) fun _ _ _ _ h => h) (pa_cons (pe_me0 (ok_Words_take T) (pv 0) (hr.mono (by decide)) pass0) pa_nil)))) pss_nil)
      (pss_one (ps_ret (pe_un un_neg pe_int)))), ?_⟩
    clear F hr
    obtain ⟨a, l, rfl, hW, hY, hN⟩ := h
    walk_at "w"
    refine w_wd hW (lk_words (by decide +kernel) (by decide +kernel)) ?_
    walk_at "w"
    refine ⟨a, l, UNTIL, rfl, hW, fun c H1 o1 W1 => ?_, fun c => ?_⟩
    · walk_at "w"
      refine w_wd W1 (lk_words (by decide +kernel) (by decide +kernel)) ?_
      walk_at "w"
      refine ⟨a, _, rfl, W1, fun H2 o2 W2 => ?_⟩
      walk_at "w"
      exact ⟨_, rfl, wok_hd W1.ok, fun n hn => hY (some n) _ (by rw [opt_yes c, hn]; rfl) _ (Off.trans o1 o2) W2, fun hn => hN (by rw [opt_yes c, hn]; rfl) _ (Off.trans o1 o2)⟩
    · walk_at "w"
      exact hY none l (opt_no c) H (Off.refl _ _) hW
end

def sp_read_times (K : PySem.W.Frag) : Sp := fun vs H Q E => ∃ (a : Addr) (l : List (List Nat)), vs = [.ref a] ∧ WordsR K H a l ∧ (∀ (u : Option Nat) l', opt TIMES none (fun w => (within 1 999 w).map some) l = some (u, l') → ∀ H', Off a H H' → WordsR K H' a l' → Q (.int (tvI u)) H') ∧ (opt TIMES none (fun w => (within 1 999 w).map some) l = none → ∀ H', Off a H H' → NR K E H')
section
variable {P : Program} {w : World} {K : PySem.W.Frag} {mg : Str → Option Value} {base : Heap}
theorem sc_read_times : FnScope ["words"] ["words"] (defScope s_read_times) := ⟨rfl, rfl, rfl, by decide +kernel, rfl, by decide +kernel, by decide +kernel⟩
theorem ok_read_times (T : Tx K mg) : DefOk P w K mg base (L2.CX P w) 3 "read_times" ["words"] (sp_read_times K) := by
  obtain ⟨fd, F⟩ := T.f_read_times
  refine ⟨⟨fd, F.ok sc_read_times (fun vs H Q E h => ?_) (fun cdv A outer s H vs Q E hr h => ?_), F.bindsN fun _ _ _ _ _ _ us hl => match us, hl with | [_], _ => rfl⟩, F.kp, T.g_read_times⟩
  · obtain ⟨a, l, rfl, _⟩ := h
    rfl
  · refine ⟨_, (pss_cons (ps_if (pt_val (pe_me (ok_Words_skip T) (pv 0) (hr.mono (by decide)) pass0 (pa_cons pe_str pa_nil))) (pss_one (ps_ret (pe_fn (ok_read_number T) (hr.mono (by decide)) (by rfl) (passes_call (takes_of rfl rfl rfl rfl) fun _ _ _ _ h => h) (pa_cons (pe_me0 (ok_Words_take T) (pv 0) (hr.mono (by decide)) pass0) (pa_cons pe_int (pa_cons pe_int pa_nil)))))) pss_nil)
      (pss_one (ps_ret pe_int))), ?_⟩
    clear F hr
    obtain ⟨a, l, rfl, hW, hY, hN⟩ := h
    walk_at "w"
    refine w_wd hW (lk_words (by decide +kernel) (by decide +kernel)) ?_
    walk_at "w"
    refine ⟨a, l, TIMES, rfl, hW, fun c H1 o1 W1 => ?_, fun c => ?_⟩
    · walk_at "w"
      refine w_wd W1 (lk_words (by decide +kernel) (by decide +kernel)) ?_
      walk_at "w"
      refine ⟨a, _, rfl, W1, fun H2 o2 W2 => ?_⟩
      walk_at "w"
      exact ⟨_, 1, 999, rfl, wok_hd W1.ok, fun n hn => hY (some n) _ (by rw [opt_yes c, hn]; rfl) _ (Off.trans o1 o2) W2, fun hn => hN (by rw [opt_yes c, hn]; rfl) _ (Off.trans o1 o2)⟩
    · walk_at "w"
      exact hY none l (opt_no c) H (Off.refl _ _) hW
end

def sp_read_first_day (K : PySem.W.Frag) : Sp := fun vs H Q E => ∃ (a : Addr) (l : List (List Nat)), vs = [.ref a] ∧ WordsR K H a l ∧ (∀ (n : Nat) l', fromL l = some (n, l') → ∀ H', Off a H H' → WordsR K H' a l' → Q (.int (n : Nat)) H') ∧ (fromL l = none → ∀ H', Off a H H' → NR K E H')
section
variable {P : Program} {w : World} {K : PySem.W.Frag} {mg : Str → Option Value} {base : Heap}
theorem sc_read_first_day : FnScope ["words"] ["words"] (defScope s_read_first_day) := ⟨rfl, rfl, rfl, by decide +kernel, rfl, by decide +kernel, by decide +kernel⟩
theorem ok_read_first_day (T : Tx K mg) : DefOk P w K mg base (L2.CX P w) 5 "read_first_day" ["words"] (sp_read_first_day K) := by
  obtain ⟨fd, F⟩ := T.f_read_first_day
  refine ⟨⟨fd, F.ok sc_read_first_day (fun vs H Q E h => ?_) (fun cdv A outer s H vs Q E hr h => ?_), F.bindsN fun _ _ _ _ _ _ us hl => match us, hl with | [_], _ => rfl⟩, F.kp, T.g_read_first_day⟩
  · obtain ⟨a, l, rfl, _⟩ := h
    rfl
  · refine ⟨_, (pss_cons (ps_if (pt_not (pt_val (pe_me (ok_Words_skip T) (pv 0) (hr.mono (by decide)) pass0 (pa_cons pe_str pa_nil)))) (pss_one (CA.ps_nr T rfl rfl rfl (takes_of rfl rfl rfl rfl) (by rfl))) pss_nil)
      (pss_one (ps_ret (pe_fn (ok_read_date T) (hr.mono (by decide)) (by rfl) (passes_call (takes_of rfl rfl rfl rfl) fun _ _ _ _ h => h) (pa_cons (pe_me0 (ok_Words_take T) (pv 0) (hr.mono (by decide)) pass0) pa_nil))))), ?_⟩
    clear F hr
    obtain ⟨a, l, rfl, hW, hY, hN⟩ := h
    walk_at "w"
    refine w_wd hW (lk_words (by decide +kernel) (by decide +kernel)) ?_
    walk_at "w"
    refine ⟨a, l, FROM, rfl, hW, fun c H1 o1 W1 => ?_, fun c => ?_⟩
    · walk_at "w"
      refine w_f ?_
      walk_at "w"
      refine w_wd W1 (lk_words (by decide +kernel) (by decide +kernel)) ?_
      walk_at "w"
      refine ⟨a, _, rfl, W1, fun H2 o2 W2 => ?_⟩
      walk_at "w"
      have e : fromL l = (dateOf (l.tail.headD [])).map fun x => (x, l.tail.tail) := if_pos c
      exact ⟨_, rfl, wok_hd W1.ok, fun n hn => hY n _ (by rw [e, hn]; rfl) _ (Off.trans o1 o2) W2, fun hn => hN (by rw [e, hn]; rfl) _ (Off.trans o1 o2)⟩
    · walk_at "w"
      refine w_t ?_
      walk_at "w"
      exact hN (if_neg c) H (Off.refl _ _)
end

def sp_read_weekdays (K : PySem.W.Frag) : Sp := fun vs H Q E => ∃ (a : Addr) (l : List (List Nat)) (f : Nat), vs = [.ref a, sv (FREQS.getD f [])] ∧ f < 4 ∧ WordsR K H a l ∧ (∀ (ns : List Nat) l', (if f < 2 then opt ON [] (fun w => (allOf (weekdayOf) w).map sorted) l else some ([], l)) = some (ns, l') → ∀ p H', Off a H H' → H p = none → H' p = some (.lst (iv ns)) → WordsR K H' a l' → Q (.ref p) H') ∧ ((if f < 2 then opt ON [] (fun w => (allOf (weekdayOf) w).map sorted) l else some ([], l)) = none → ∀ H', Off a H H' → NR K E H')
section
variable {P : Program} {w : World} {K : PySem.W.Frag} {mg : Str → Option Value} {base : Heap}
theorem sc_read_weekdays : FnScope ["words", "kind", "word"] ["words", "kind"] (defScope s_read_weekdays) := ⟨rfl, rfl, rfl, by decide +kernel, rfl, by decide +kernel, by decide +kernel⟩
theorem ok_read_weekdays (T : Tx K mg) : DefOk P w K mg base (L2.CX P w) 3 "read_weekdays" ["words", "kind"] (sp_read_weekdays K) := by
  obtain ⟨fd, F⟩ := T.f_read_weekdays
  refine ⟨⟨fd, F.ok sc_read_weekdays (fun vs H Q E h => ?_) (fun cdv A outer s H vs Q E hr h => ?_), F.bindsN fun _ _ _ _ _ _ us hl => match us, hl with | [_, _], _ => rfl⟩, F.kp, T.g_read_weekdays⟩
  · obtain ⟨a, l, f, rfl, _⟩ := h
    rfl
  · refine ⟨_, (pss_cons (ps_if (pw_and (pt_cmpR (op_inK (K := K) rfl) (pv 1) (pe_gr T.g_WEEKDAY_KINDS (by rfl)) (by with_unfolding_all rfl)) (pw_and1 (pt_val (pe_me (ok_Words_skip T) (pv 0) (hr.mono (by decide)) pass0 (pa_cons pe_str pa_nil))))).pt (pss_one (ps_ret (pe_fn (ok_ascending T) (hr.mono (by decide)) (by rfl) pass0 (pa_cons (pe_lcX (E := E) (own := [("word", 2)]) (g := gName 2) (tt := tYes) (takes_of rfl rfl rfl rfl) rfl rfl rfl sc_read_weekdays.nd (pi_list (pe_split (pe_me0 (ok_Words_take T) (pv 0) (hr.mono (by decide)) pass0) pe_str)) (blkOk_by (N := ["words", "kind", "word"]) (sc := defScope s_read_weekdays) (by decide +kernel)) (fun _ _ _ _ _ => pg_name (i := 2) sc_read_weekdays.nd rfl (Or.inl rfl)) (fun _ _ _ _ _ => pts_nil) (fun _ _ _ _ _ xe hxe => (pe_fn (ok_read_weekday T) (hr.mono (by decide)) (by rfl) hxe (pa_cons (pv 2) pa_nil)))) pa_nil)))) pss_nil)
      (pss_one (ps_ret (pe_lst pa_nil)))), ?_⟩
    clear F hr
    obtain ⟨a, l, f, rfl, hf, hW, hY, hN⟩ := h
    have big : (1000 : Nat) ≤ sizeLine := by decide
    walk_at "w"
    refine ⟨_, _, rfl, .inr (T.t_WEEKDAY_KINDS H), rfl, rfl, ?_⟩
    rw [wk_in hf]
    walk_at "w"
    refine w_cases (fun hf2 => ?_) (fun hf2 => ?_)
    · walk_at "w"
      refine w_wd hW (lk_words (by decide +kernel) (by decide +kernel)) ?_
      walk_at "w"
      refine ⟨a, l, ON, rfl, hW, fun c H1 o1 W1 => ?_, fun c => ?_⟩
      · walk_at "w"
        refine w_wd W1 (lk_words (by decide +kernel) (by decide +kernel)) ?_
        walk_at "w"
        refine ⟨a, _, rfl, W1, fun H2 o2 W2 => ?_⟩
        walk_at "w"
        have hw := wok_hd W1.ok
        refine ⟨_, S [44], rfl, rfl, rfl, by rw [SX.S_len]; have := hw.1; omega, fun q hq => ?_⟩
        rw [split_eq 44 (by decide), ← sv_strs]
        have o3 : Off a H (upd H2 q (.lst ((parted 44 (l.tail.headD [])).map sv))) := Off.trans o1 (Off.trans o2 (Same.off (same_upd hq)))
        have W3 := W2.same (same_upd (o := .lst ((parted 44 (l.tail.headD [])).map sv)) hq)
        have d3 : upd H2 q (.lst ((parted 44 (l.tail.headD [])).map sv)) q = _ := upd_same
        generalize upd H2 q (.lst ((parted 44 (l.tail.headD [])).map sv)) = H3 at o3 W3 d3 ⊢
        have hc := parted_count 44 (l.tail.headD [])
        have wp := wok_parted (k := 44) hw.1 hw.2
        have free : ∀ {p : Addr}, H3 p = none → H p = none := fun {p} hp => by
          cases e : H p with
          | none => rfl
          | some u =>
            by_cases z : p = a
            · obtain ⟨_, _, _, _, g, _⟩ := W3
              rw [z, g] at hp
              cases hp
            · rw [o3 p u z e] at hp
              cases hp
        walk_at "w"
        refine ⟨_, rfl, ⟨_, SqL.of d3⟩, fun D hD => lc_read sv (weekdayOf) RrN (SqL.of d3) hD (by have := hw.1; omega) rfl (fun i w hwi H' F vsn bs s4 _ r4 hF hf => ?_) (fun _ vsn bs r => by rw [show vsn = iv bs from r, iv_len]) fun H4 vsn bs e s4 d4 r4 => ?_⟩
        · walk_at "w"
          refine ⟨rfl, ?_⟩
          walk_at "w"
          have wi := wp w (List.mem_of_getElem? hwi)
          have yes : ∀ n, (weekdayOf) w = some n → F (.int (n : Nat)) H' := fun n hn => hF n _ _ hn (Same.refl _) fun H5 _ _ => by rw [show vsn = iv bs from r4]; show iv bs ++ iv [n] = iv (bs ++ [n]); rw [iv_append]
          have no : (weekdayOf) w = none → NR K E H' := fun hn => hN (by rw [if_pos hf2]; rw [opt_yes c, show allOf (weekdayOf) (l.tail.headD []) = none from hf _ (Same.refl _) hn]; rfl) _ (Off.trans o3 (Same.off s4))
          exact ⟨w, rfl, yes, no⟩
        · have e : allOf (weekdayOf) (l.tail.headD []) = some bs := e
          rw [show vsn = iv bs from r4] at d4
          walk_at "w"
          refine ⟨D, bs, rfl, SqL.of d4, by have := all_len e; have := hw.1; omega, few_lt (wd_lt e) (by decide), fun p H5 hp s5 d5 => ?_⟩
          refine hY (sorted bs) _ (by rw [if_pos hf2]; rw [opt_yes c, e]; rfl) p H5 (Off.trans o3 (Same.off (Same.trans s4 s5))) (free (Same.free s4 hp)) d5 (W3.same (Same.trans s4 s5))
      · walk_at "w"
        intro p hp
        exact hY [] l (by rw [if_pos hf2]; rw [opt_no c]) p _ (Same.off (same_upd hp)) hp upd_same (hW.same (same_upd hp))
    · walk_at "w"
      intro p hp
      exact hY [] l (by rw [if_neg hf2]) p _ (Same.off (same_upd hp)) hp upd_same (hW.same (same_upd hp))
end

def sp_read_months (K : PySem.W.Frag) : Sp := fun vs H Q E => ∃ (a : Addr) (l : List (List Nat)) (f : Nat), vs = [.ref a, sv (FREQS.getD f [])] ∧ f < 4 ∧ WordsR K H a l ∧ (∀ (ns : List Nat) l', (if f < 2 then some ([], l) else opt IN [] (fun w => (allOf (within 1 12) w).map sorted) l) = some (ns, l') → ∀ p H', Off a H H' → H p = none → H' p = some (.lst (iv ns)) → WordsR K H' a l' → Q (.ref p) H') ∧ ((if f < 2 then some ([], l) else opt IN [] (fun w => (allOf (within 1 12) w).map sorted) l) = none → ∀ H', Off a H H' → NR K E H')
section
variable {P : Program} {w : World} {K : PySem.W.Frag} {mg : Str → Option Value} {base : Heap}
theorem sc_read_months : FnScope ["words", "kind", "word"] ["words", "kind"] (defScope s_read_months) := ⟨rfl, rfl, rfl, by decide +kernel, rfl, by decide +kernel, by decide +kernel⟩
theorem ok_read_months (T : Tx K mg) : DefOk P w K mg base (L2.CX P w) 3 "read_months" ["words", "kind"] (sp_read_months K) := by
  obtain ⟨fd, F⟩ := T.f_read_months
  refine ⟨⟨fd, F.ok sc_read_months (fun vs H Q E h => ?_) (fun cdv A outer s H vs Q E hr h => ?_), F.bindsN fun _ _ _ _ _ _ us hl => match us, hl with | [_, _], _ => rfl⟩, F.kp, T.g_read_months⟩
  · obtain ⟨a, l, f, rfl, _⟩ := h
    rfl
  · refine ⟨_, (pss_cons (ps_if (pw_and (pt_cmpR (op_notInK (K := K) rfl) (pv 1) (pe_gr T.g_WEEKDAY_KINDS (by rfl)) (by with_unfolding_all rfl)) (pw_and1 (pt_val (pe_me (ok_Words_skip T) (pv 0) (hr.mono (by decide)) pass0 (pa_cons pe_str pa_nil))))).pt (pss_one (ps_ret (pe_fn (ok_ascending T) (hr.mono (by decide)) (by rfl) pass0 (pa_cons (pe_lcX (E := E) (own := [("word", 2)]) (g := gName 2) (tt := tYes) (takes_of rfl rfl rfl rfl) rfl rfl rfl sc_read_months.nd (pi_list (pe_split (pe_me0 (ok_Words_take T) (pv 0) (hr.mono (by decide)) pass0) pe_str)) (blkOk_by (N := ["words", "kind", "word"]) (sc := defScope s_read_months) (by decide +kernel)) (fun _ _ _ _ _ => pg_name (i := 2) sc_read_months.nd rfl (Or.inl rfl)) (fun _ _ _ _ _ => pts_nil) (fun _ _ _ _ _ xe hxe => (pe_fn (ok_read_number T) (hr.mono (by decide)) (by rfl) hxe (pa_cons (pv 2) (pa_cons pe_int (pa_cons pe_int pa_nil)))))) pa_nil)))) pss_nil)
      (pss_one (ps_ret (pe_lst pa_nil)))), ?_⟩
    clear F hr
    obtain ⟨a, l, f, rfl, hf, hW, hY, hN⟩ := h
    have big : (1000 : Nat) ≤ sizeLine := by decide
    walk_at "w"
    refine ⟨_, _, rfl, .inr (T.t_WEEKDAY_KINDS H), rfl, rfl, ?_⟩
    rw [wk_in hf]
    walk_at "w"
    refine w_ncases (fun hf2 => ?_) (fun hf2 => ?_)
    · walk_at "w"
      refine w_wd hW (lk_words (by decide +kernel) (by decide +kernel)) ?_
      walk_at "w"
      refine ⟨a, l, IN, rfl, hW, fun c H1 o1 W1 => ?_, fun c => ?_⟩
      · walk_at "w"
        refine w_wd W1 (lk_words (by decide +kernel) (by decide +kernel)) ?_
        walk_at "w"
        refine ⟨a, _, rfl, W1, fun H2 o2 W2 => ?_⟩
        walk_at "w"
        have hw := wok_hd W1.ok
        refine ⟨_, S [44], rfl, rfl, rfl, by rw [SX.S_len]; have := hw.1; omega, fun q hq => ?_⟩
        rw [split_eq 44 (by decide), ← sv_strs]
        have o3 : Off a H (upd H2 q (.lst ((parted 44 (l.tail.headD [])).map sv))) := Off.trans o1 (Off.trans o2 (Same.off (same_upd hq)))
        have W3 := W2.same (same_upd (o := .lst ((parted 44 (l.tail.headD [])).map sv)) hq)
        have d3 : upd H2 q (.lst ((parted 44 (l.tail.headD [])).map sv)) q = _ := upd_same
        generalize upd H2 q (.lst ((parted 44 (l.tail.headD [])).map sv)) = H3 at o3 W3 d3 ⊢
        have hc := parted_count 44 (l.tail.headD [])
        have wp := wok_parted (k := 44) hw.1 hw.2
        have free : ∀ {p : Addr}, H3 p = none → H p = none := fun {p} hp => by
          cases e : H p with
          | none => rfl
          | some u =>
            by_cases z : p = a
            · obtain ⟨_, _, _, _, g, _⟩ := W3
              rw [z, g] at hp
              cases hp
            · rw [o3 p u z e] at hp
              cases hp
        walk_at "w"
        refine ⟨_, rfl, ⟨_, SqL.of d3⟩, fun D hD => lc_read sv (within 1 12) RrN (SqL.of d3) hD (by have := hw.1; omega) rfl (fun i w hwi H' F vsn bs s4 _ r4 hF hf => ?_) (fun _ vsn bs r => by rw [show vsn = iv bs from r, iv_len]) fun H4 vsn bs e s4 d4 r4 => ?_⟩
        · walk_at "w"
          refine ⟨rfl, ?_⟩
          walk_at "w"
          have wi := wp w (List.mem_of_getElem? hwi)
          have yes : ∀ n, (within 1 12) w = some n → F (.int (n : Nat)) H' := fun n hn => hF n _ _ hn (Same.refl _) fun H5 _ _ => by rw [show vsn = iv bs from r4]; show iv bs ++ iv [n] = iv (bs ++ [n]); rw [iv_append]
          have no : (within 1 12) w = none → NR K E H' := fun hn => hN (by rw [if_neg hf2]; rw [opt_yes c, show allOf (within 1 12) (l.tail.headD []) = none from hf _ (Same.refl _) hn]; rfl) _ (Off.trans o3 (Same.off s4))
          exact ⟨w, 1, 12, rfl, wi, yes, no⟩
        · have e : allOf (within 1 12) (l.tail.headD []) = some bs := e
          rw [show vsn = iv bs from r4] at d4
          walk_at "w"
          refine ⟨D, bs, rfl, SqL.of d4, by have := all_len e; have := hw.1; omega, few_lt (ms_lt e) (by decide), fun p H5 hp s5 d5 => ?_⟩
          refine hY (sorted bs) _ (by rw [if_neg hf2]; rw [opt_yes c, e]; rfl) p H5 (Off.trans o3 (Same.off (Same.trans s4 s5))) (free (Same.free s4 hp)) d5 (W3.same (Same.trans s4 s5))
      · walk_at "w"
        intro p hp
        exact hY [] l (by rw [if_neg hf2]; rw [opt_no c]) p _ (Same.off (same_upd hp)) hp upd_same (hW.same (same_upd hp))
    · walk_at "w"
      intro p hp
      exact hY [] l (by rw [if_pos hf2]) p _ (Same.off (same_upd hp)) hp upd_same (hW.same (same_upd hp))
end

def sp_read_dates (K : PySem.W.Frag) : Sp := fun vs H Q E => ∃ (a : Addr) (l : List (List Nat)) (k : List Nat), vs = [.ref a, sv k] ∧ k ≠ [] ∧ WordsR K H a l ∧ (∀ (ns : List Nat) l', opt k [] (fun w => (allOf (dateOf) w).map sorted) l = some (ns, l') → ∀ p H', Off a H H' → H p = none → H' p = some (.lst (iv ns)) → WordsR K H' a l' → Q (.ref p) H') ∧ (opt k [] (fun w => (allOf (dateOf) w).map sorted) l = none → ∀ H', Off a H H' → NR K E H')
section
variable {P : Program} {w : World} {K : PySem.W.Frag} {mg : Str → Option Value} {base : Heap}
theorem sc_read_dates : FnScope ["words", "name", "word"] ["words", "name"] (defScope s_read_dates) := ⟨rfl, rfl, rfl, by decide +kernel, rfl, by decide +kernel, by decide +kernel⟩
theorem ok_read_dates (T : Tx K mg) : DefOk P w K mg base (L2.CX P w) 5 "read_dates" ["words", "name"] (sp_read_dates K) := by
  obtain ⟨fd, F⟩ := T.f_read_dates
  refine ⟨⟨fd, F.ok sc_read_dates (fun vs H Q E h => ?_) (fun cdv A outer s H vs Q E hr h => ?_), F.bindsN fun _ _ _ _ _ _ us hl => match us, hl with | [_, _], _ => rfl⟩, F.kp, T.g_read_dates⟩
  · obtain ⟨a, l, k, rfl, _⟩ := h
    rfl
  · refine ⟨_, (pss_cons (ps_if (pt_val (pe_me (ok_Words_skip T) (pv 0) (hr.mono (by decide)) pass0 (pa_cons (pv 1) pa_nil))) (pss_one (ps_ret (pe_fn (ok_ascending T) (hr.mono (by decide)) (by rfl) pass0 (pa_cons (pe_lcX (E := E) (own := [("word", 2)]) (g := gName 2) (tt := tYes) (takes_of rfl rfl rfl rfl) rfl rfl rfl sc_read_dates.nd (pi_list (pe_split (pe_me0 (ok_Words_take T) (pv 0) (hr.mono (by decide)) pass0) pe_str)) (blkOk_by (N := ["words", "name", "word"]) (sc := defScope s_read_dates) (by decide +kernel)) (fun _ _ _ _ _ => pg_name (i := 2) sc_read_dates.nd rfl (Or.inl rfl)) (fun _ _ _ _ _ => pts_nil) (fun _ _ _ _ _ xe hxe => (pe_fn (ok_read_date T) (hr.mono (by decide)) (by rfl) hxe (pa_cons (pv 2) pa_nil)))) pa_nil)))) pss_nil)
      (pss_one (ps_ret (pe_lst pa_nil)))), ?_⟩
    clear F hr
    obtain ⟨a, l, k, rfl, hk, hW, hY, hN⟩ := h
    have big : (1000 : Nat) ≤ sizeLine := by decide
    walk_at "w"
    refine w_wd hW (lk_words (by decide +kernel) (by decide +kernel)) ?_
    walk_at "w"
    refine ⟨a, l, k, rfl, hW, fun c H1 o1 W1 => ?_, fun c => ?_⟩
    · walk_at "w"
      refine w_wd W1 (lk_words (by decide +kernel) (by decide +kernel)) ?_
      walk_at "w"
      refine ⟨a, _, rfl, W1, fun H2 o2 W2 => ?_⟩
      walk_at "w"
      have hw := wok_hd W1.ok
      refine ⟨_, S [44], rfl, rfl, rfl, by rw [SX.S_len]; have := hw.1; omega, fun q hq => ?_⟩
      rw [split_eq 44 (by decide), ← sv_strs]
      have o3 : Off a H (upd H2 q (.lst ((parted 44 (l.tail.headD [])).map sv))) := Off.trans o1 (Off.trans o2 (Same.off (same_upd hq)))
      have W3 := W2.same (same_upd (o := .lst ((parted 44 (l.tail.headD [])).map sv)) hq)
      have d3 : upd H2 q (.lst ((parted 44 (l.tail.headD [])).map sv)) q = _ := upd_same
      generalize upd H2 q (.lst ((parted 44 (l.tail.headD [])).map sv)) = H3 at o3 W3 d3 ⊢
      have hc := parted_count 44 (l.tail.headD [])
      have wp := wok_parted (k := 44) hw.1 hw.2
      have free : ∀ {p : Addr}, H3 p = none → H p = none := fun {p} hp => by
        cases e : H p with
        | none => rfl
        | some u =>
          by_cases z : p = a
          · obtain ⟨_, _, _, _, g, _⟩ := W3
            rw [z, g] at hp
            cases hp
          · rw [o3 p u z e] at hp
            cases hp
      walk_at "w"
      refine ⟨_, rfl, ⟨_, SqL.of d3⟩, fun D hD => lc_read sv (dateOf) RrN (SqL.of d3) hD (by have := hw.1; omega) rfl (fun i w hwi H' F vsn bs s4 _ r4 hF hf => ?_) (fun _ vsn bs r => by rw [show vsn = iv bs from r, iv_len]) fun H4 vsn bs e s4 d4 r4 => ?_⟩
      · walk_at "w"
        refine ⟨rfl, ?_⟩
        walk_at "w"
        have wi := wp w (List.mem_of_getElem? hwi)
        have yes : ∀ n, (dateOf) w = some n → F (.int (n : Nat)) H' := fun n hn => hF n _ _ hn (Same.refl _) fun H5 _ _ => by rw [show vsn = iv bs from r4]; show iv bs ++ iv [n] = iv (bs ++ [n]); rw [iv_append]
        have no : (dateOf) w = none → NR K E H' := fun hn => hN (by  rw [opt_yes c, show allOf (dateOf) (l.tail.headD []) = none from hf _ (Same.refl _) hn]; rfl) _ (Off.trans o3 (Same.off s4))
        exact ⟨w, rfl, wi, yes, no⟩
      · have e : allOf (dateOf) (l.tail.headD []) = some bs := e
        rw [show vsn = iv bs from r4] at d4
        walk_at "w"
        refine ⟨D, bs, rfl, SqL.of d4, by have := all_len e; have := hw.1; omega, few_len (by have := dates_few e; rw [parted_sum] at this; have := hw.1; omega), fun p H5 hp s5 d5 => ?_⟩
        refine hY (sorted bs) _ (by  rw [opt_yes c, e]; rfl) p H5 (Off.trans o3 (Same.off (Same.trans s4 s5))) (free (Same.free s4 hp)) d5 (W3.same (Same.trans s4 s5))
    · walk_at "w"
      intro p hp
      exact hY [] l (by  rw [opt_no c]) p _ (Same.off (same_upd hp)) hp upd_same (hW.same (same_upd hp))
end

end CA
end file_CaM9
section file_CaM10
set_option maxRecDepth 100000
set_option maxHeartbeats 4000000
namespace CA
open PySem PySem.Spec PyProof.Rows L2
open SX (S)
open Cl01 (monthDays monthStart isDate dayOf yearOf monthOf domOf weekday week weekOf)

open Cl01 (parted joined within numberOf weekdayOf itemOf dateOf sorted MO Item insertItem itemCode dayOf isDate allOf BY ON IN FROM UNTIL TIMES NOT ALSO FREQS Rule)
theorem kd_in (w : List Nat) : inV (sv w) [V.str "daily", V.str "weekly", V.str "monthly", V.str "yearly"] = (FREQS.findIdx? fun (x : List Nat) => x == w).isSome := by
  have e : ∀ (s : Str) (x : List Nat), s = S x → eqV (V.str s) (sv w) = (x == w) := fun s x h => by
    subst h
    show (S x == S w) = (x == w)
    rw [Bool.eq_iff_iff, beq_iff_eq, beq_iff_eq]
    exact ⟨SX.S_inj, congrArg S⟩
  show (eqV (V.str "daily") (sv w) || (eqV (V.str "weekly") (sv w) || (eqV (V.str "monthly") (sv w) || (eqV (V.str "yearly") (sv w) || false)))) = _
  rw [e _ [100, 97, 105, 108, 121] (by rfl), e _ [119, 101, 101, 107, 108, 121] (by rfl), e _ [109, 111, 110, 116, 104, 108, 121] (by rfl), e _ [121, 101, 97, 114, 108, 121] (by rfl)]
  unfold FREQS
  simp only [List.findIdx?_cons, List.findIdx?_nil]
  cases ([100, 97, 105, 108, 121] == w) <;> cases ([119, 101, 101, 107, 108, 121] == w) <;> cases ([109, 111, 110, 116, 104, 108, 121] == w) <;> cases ([121, 101, 97, 114, 108, 121] == w) <;> rfl
def sp_read_picks (K : PySem.W.Frag) : Sp := fun vs H Q E => ∃ (a : Addr) (l : List (List Nat)) (f : Nat), vs = [.ref a, sv (FREQS.getD f [])] ∧ f < 4 ∧ WordsR K H a l ∧
  (∀ (is : List Item) l', (if f < 2 then some ([], l) else opt ON [] (fun w => (allOf itemOf w).map sortItems) l) = some (is, l') → ∀ p ts H', Off a H H' → H p = none → H' p = some (.lst (ts.map V.ref)) → Items K H' ts is → WordsR K H' a l' → Q (.ref p) H') ∧ ((if f < 2 then some ([], l) else opt ON [] (fun w => (allOf itemOf w).map sortItems) l) = none → ∀ H', Off a H H' → NR K E H')
section
variable {P : Program} {w : World} {K : PySem.W.Frag} {mg : Str → Option Value} {base : Heap}
theorem sc_read_picks : FnScope ["words", "kind", "word"] ["words", "kind"] (defScope s_read_picks) := ⟨rfl, rfl, rfl, by decide +kernel, rfl, by decide +kernel, by decide +kernel⟩
theorem ok_read_picks (T : Tx K mg) : DefOk P w K mg base (L2.CX P w) 3 "read_picks" ["words", "kind"] (sp_read_picks K) := by
  obtain ⟨fd, F⟩ := T.f_read_picks
  refine ⟨⟨fd, F.ok sc_read_picks (fun vs H Q E h => ?_) (fun cdv A outer s H vs Q E hr h => ?_), F.bindsN fun _ _ _ _ _ _ us hl => match us, hl with | [_, _], _ => rfl⟩, F.kp, T.g_read_picks⟩
  · obtain ⟨a, l, f, rfl, _⟩ := h
    rfl
  · refine ⟨_, (pss_cons (ps_if (pw_and (pt_cmpR (op_notInK (K := K) rfl) (pv 1) (pe_gr T.g_WEEKDAY_KINDS (by rfl)) (by with_unfolding_all rfl)) (pw_and1 (pt_val (pe_me (ok_Words_skip T) (pv 0) (hr.mono (by decide)) pass0 (pa_cons pe_str pa_nil))))).pt (pss_one (ps_ret (pe_fn (ok_ascendingT T) (hr.mono (by decide)) (by rfl) pass0 (pa_cons (pe_lcX (E := E) (own := [("word", 2)]) (g := gName 2) (tt := tYes) (takes_of rfl rfl rfl rfl) rfl rfl rfl sc_read_picks.nd (pi_list (pe_split (pe_me0 (ok_Words_take T) (pv 0) (hr.mono (by decide)) pass0) pe_str)) (blkOk_by (N := ["words", "kind", "word"]) (sc := defScope s_read_picks) (by decide +kernel)) (fun _ _ _ _ _ => pg_name (i := 2) sc_read_picks.nd rfl (Or.inl rfl)) (fun _ _ _ _ _ => pts_nil) (fun _ _ _ _ _ xe hxe => (pe_fn (ok_read_pick T) (hr.mono (by decide)) (by rfl) hxe (pa_cons (pv 2) pa_nil)))) pa_nil)))) pss_nil)
      (pss_one (ps_ret (pe_lst pa_nil)))), ?_⟩
    clear F hr
    obtain ⟨a, l, f, rfl, hf, hW, hY, hN⟩ := h
    have big : (1000 : Nat) ≤ sizeLine := by decide
    walk_at "w"
    refine ⟨_, _, rfl, .inr (T.t_WEEKDAY_KINDS H), rfl, rfl, ?_⟩
    rw [wk_in hf]
    walk_at "w"
    refine w_ncases (fun hf2 => ?_) (fun hf2 => ?_)
    · walk_at "w"
      refine w_wd hW (lk_words (by decide +kernel) (by decide +kernel)) ?_
      walk_at "w"
      refine ⟨a, l, ON, rfl, hW, fun c H1 o1 W1 => ?_, fun c => ?_⟩
      · walk_at "w"
        refine w_wd W1 (lk_words (by decide +kernel) (by decide +kernel)) ?_
        walk_at "w"
        refine ⟨a, _, rfl, W1, fun H2 o2 W2 => ?_⟩
        walk_at "w"
        have hw := wok_hd W1.ok
        refine ⟨_, S [44], rfl, rfl, rfl, by rw [SX.S_len]; have := hw.1; omega, fun q hq => ?_⟩
        rw [split_eq 44 (by decide), ← sv_strs]
        have o3 : Off a H (upd H2 q (.lst ((parted 44 (l.tail.headD [])).map sv))) := Off.trans o1 (Off.trans o2 (Same.off (same_upd hq)))
        have W3 := W2.same (same_upd (o := .lst ((parted 44 (l.tail.headD [])).map sv)) hq)
        have d3 : upd H2 q (.lst ((parted 44 (l.tail.headD [])).map sv)) q = _ := upd_same
        generalize upd H2 q (.lst ((parted 44 (l.tail.headD [])).map sv)) = H3 at o3 W3 d3 ⊢
        have hc := parted_count 44 (l.tail.headD [])
        have wp := wok_parted (k := 44) hw.1 hw.2
        have free : ∀ {p : Addr}, H3 p = none → H p = none := fun {p} hp => by
          cases e : H p with
          | none => rfl
          | some u =>
            by_cases z : p = a
            · obtain ⟨_, _, _, _, g, _⟩ := W3
              rw [z, g] at hp
              cases hp
            · rw [o3 p u z e] at hp
              cases hp
        walk_at "w"
        refine ⟨_, rfl, ⟨_, SqL.of d3⟩, fun D hD => lc_read sv itemOf (ItemsS D) (SqL.of d3) hD (by have := hw.1; omega) ⟨[], rfl, rfl, fun j _ _ h => by cases h⟩ (fun i w hwi H' F vsn bs s4 d4' r4 hF hf => ?_) (fun _ vsn bs r => by obtain ⟨ts, e, hl, _⟩ := r; rw [e, List.length_map, hl]) fun H4 vsn bs e s4 d4 r4 => ?_⟩
        · walk_at "w"
          refine ⟨rfl, ?_⟩
          walk_at "w"
          have wi := wp w (List.mem_of_getElem? hwi)
          have no : itemOf w = none → NR K E H' := fun hn => hN (by rw [if_neg hf2]; rw [opt_yes c, show allOf itemOf (l.tail.headD []) = none from hf _ (Same.refl _) hn]; rfl) _ (Off.trans o3 (Same.off s4))
          refine ⟨w, rfl, wi, fun x hx p H5 hp s5 d5 => hF x _ _ hx s5 fun H6 _ k => ItemsS.snoc r4 s5 d5 (fun z => ?_) k, no⟩
          rw [z, d4'] at hp
          cases hp
        · have e : allOf itemOf (l.tail.headD []) = some bs := e
          obtain ⟨ts, ev, hI⟩ := r4.items (K := K)
          rw [ev] at d4
          walk_at "w"
          obtain ⟨k1, k2⟩ := allItems e
          refine ⟨D, ts, bs, rfl, SqL.of d4, hI, k1, fun L nd sb => ?_, fun p ts' H5 hp s5 d5 hI5 => ?_⟩
          · have := k2 L nd sb
            have := hw.1
            omega
          refine hY (sortItems bs) _ (by rw [if_neg hf2]; rw [opt_yes c, e]; rfl) p ts' H5 (Off.trans o3 (Same.off (Same.trans s4 s5))) (free (Same.free s4 hp)) d5 hI5 (W3.same (Same.trans s4 s5))
      · walk_at "w"
        intro p hp
        exact hY [] l (by rw [if_neg hf2]; rw [opt_no c]) p [] _ (Same.off (same_upd hp)) hp upd_same ⟨rfl, fun j _ _ h => by cases h⟩ (hW.same (same_upd hp))
    · walk_at "w"
      intro p hp
      exact hY [] l (by rw [if_pos hf2]) p [] _ (Same.off (same_upd hp)) hp upd_same ⟨rfl, fun j _ _ h => by cases h⟩ (hW.same (same_upd hp))
end

def sp_read_rule (K : PySem.W.Frag) : Sp := fun vs H Q E => ∃ (a : Addr) (ds : List Int), vs = [.ref a] ∧ SqL K H a (ds.map V.int) ∧
  (∀ t r, ds.length ≤ 200 → ds.mapM signOf = some t → Cl01.read t = some r → ∀ p H', H p = none → Same H H' → RuleAt K H' p r → Q (.ref p) H') ∧ ((∀ t, ds.length ≤ 200 → ds.mapM signOf = some t → Cl01.read t = none) → ∀ H', Same H H' → NR K E H')
section
variable {P : Program} {w : World} {K : PySem.W.Frag} {mg : Str → Option Value} {base : Heap}
theorem sc_read_rule : FnScope ["data", "words", "kind", "step", "weekdays", "picks", "months", "first_day", "until", "times", "without", "also"] ["data"] (defScope s_read_rule) := ⟨rfl, rfl, rfl, by decide +kernel, rfl, by decide +kernel, by decide +kernel⟩
theorem ok_read_rule (T : Tx K mg) : DefOk P w K mg base (L2.CX P w) 6 "read_rule" ["data"] (sp_read_rule K) := by
  obtain ⟨fd, F⟩ := T.f_read_rule
  refine ⟨⟨fd, F.ok sc_read_rule (fun vs H Q E h => ?_) (fun cdv A outer s H vs Q E hr h => ?_), F.bindsN fun _ _ _ _ _ _ us hl => match us, hl with | [_], _ => rfl⟩, F.kp, T.g_read_rule⟩
  · obtain ⟨a, ds, rfl, _⟩ := h
    rfl
  · refine ⟨_, (pss_cons (ps_set (i := 1) sc_read_rule.nd rfl (by first | exact Or.inl rfl | exact Or.inr rfl) (pe_mk (mk_Words T) (hr.mono (by decide)) (by rfl) (pa_cons (pe_fn (ok_words_of T) (hr.mono (by decide)) (by rfl) (passes_call (takes_of rfl rfl rfl rfl) fun _ _ _ _ h => h) (pa_cons (pv 0) pa_nil)) pa_nil)))
      (pss_cons (ps_set (i := 2) sc_read_rule.nd rfl (by first | exact Or.inl rfl | exact Or.inr rfl) (pe_me0 (ok_Words_take T) (pv 1) (hr.mono (by decide)) pass0))
      (pss_cons (ps_if (pt_cmpR (op_notInK (K := K) rfl) (pv 2) (pe_gr T.g_KINDS (by rfl)) (by with_unfolding_all rfl)) (pss_one (CA.ps_nr T rfl rfl rfl (takes_of rfl rfl rfl rfl) (by rfl))) pss_nil)
      (pss_cons (ps_set (i := 3) sc_read_rule.nd rfl (by first | exact Or.inl rfl | exact Or.inr rfl) (pe_fn (ok_read_step T) (hr.mono (by decide)) (by rfl) (passes_call (takes_of rfl rfl rfl rfl) fun _ _ _ _ h => h) (pa_cons (pv 1) pa_nil)))
      (pss_cons (ps_set (i := 4) sc_read_rule.nd rfl (by first | exact Or.inl rfl | exact Or.inr rfl) (pe_fn (ok_read_weekdays T) (hr.mono (by decide)) (by rfl) (passes_call (takes_of rfl rfl rfl rfl) fun _ _ _ _ h => h) (pa_cons (pv 1) (pa_cons (pv 2) pa_nil))))
      (pss_cons (ps_set (i := 5) sc_read_rule.nd rfl (by first | exact Or.inl rfl | exact Or.inr rfl) (pe_fn (ok_read_picks T) (hr.mono (by decide)) (by rfl) (passes_call (takes_of rfl rfl rfl rfl) fun _ _ _ _ h => h) (pa_cons (pv 1) (pa_cons (pv 2) pa_nil))))
      (pss_cons (ps_set (i := 6) sc_read_rule.nd rfl (by first | exact Or.inl rfl | exact Or.inr rfl) (pe_fn (ok_read_months T) (hr.mono (by decide)) (by rfl) (passes_call (takes_of rfl rfl rfl rfl) fun _ _ _ _ h => h) (pa_cons (pv 1) (pa_cons (pv 2) pa_nil))))
      (pss_cons (ps_set (i := 7) sc_read_rule.nd rfl (by first | exact Or.inl rfl | exact Or.inr rfl) (pe_fn (ok_read_first_day T) (hr.mono (by decide)) (by rfl) (passes_call (takes_of rfl rfl rfl rfl) fun _ _ _ _ h => h) (pa_cons (pv 1) pa_nil)))
      (pss_cons (ps_set (i := 8) sc_read_rule.nd rfl (by first | exact Or.inl rfl | exact Or.inr rfl) (pe_fn (ok_read_until T) (hr.mono (by decide)) (by rfl) (passes_call (takes_of rfl rfl rfl rfl) fun _ _ _ _ h => h) (pa_cons (pv 1) pa_nil)))
      (pss_cons (ps_set (i := 9) sc_read_rule.nd rfl (by first | exact Or.inl rfl | exact Or.inr rfl) pe_int)
      (Evl.pss_cut (ps_if (pt_cmpR op_lt (pv 8) pe_int (nomark _)) (pss_one (ps_set (i := 9) sc_read_rule.nd rfl (by first | exact Or.inl rfl | exact Or.inr rfl) (pe_fn (ok_read_times T) (hr.mono (by decide)) (by rfl) (passes_call (takes_of rfl rfl rfl rfl) fun _ _ _ _ h => h) (pa_cons (pv 1) pa_nil)))) pss_nil)
      (pss_cons (ps_set (i := 10) sc_read_rule.nd rfl (by first | exact Or.inl rfl | exact Or.inr rfl) (pe_fn (ok_read_dates T) (hr.mono (by decide)) (by rfl) (passes_call (takes_of rfl rfl rfl rfl) fun _ _ _ _ h => h) (pa_cons (pv 1) (pa_cons pe_str pa_nil))))
      (pss_cons (ps_set (i := 11) sc_read_rule.nd rfl (by first | exact Or.inl rfl | exact Or.inr rfl) (pe_fn (ok_read_dates T) (hr.mono (by decide)) (by rfl) (passes_call (takes_of rfl rfl rfl rfl) fun _ _ _ _ h => h) (pa_cons (pv 1) (pa_cons pe_str pa_nil))))
      (pss_cons (ps_expr (pe_me0 (ok_Words_finish T) (pv 1) (hr.mono (by decide)) (passes_call (takes_of rfl rfl rfl rfl) fun _ _ _ _ h => h)))
      (pss_one (ps_ret (pe_mk (mk_Rule T) (hr.mono (by decide)) (by rfl) (pa_cons (pv 2) (pa_cons (pv 3) (pa_cons (pv 4) (pa_cons (pv 5) (pa_cons (pv 6) (pa_cons (pv 7) (pa_cons (pv 8) (pa_cons (pv 9) (pa_cons (pv 10) (pa_cons (pv 11) pa_nil))))))))))))))))))))))))))), ?_⟩
    clear F hr
    obtain ⟨a, ds, rfl, hS, hY, hN⟩ := h
    walk_at "w"
    refine ⟨a, ds, rfl, hS, fun t h200 ht ps H1 hps s1 d1 => ?_, fun hbad => hN fun t h1 h2 => by rw [hbad h1] at h2; cases h2⟩
    have hN : Cl01.read t = none → ∀ H', Same H H' → NR K E H' := fun e => hN fun t' _ ht' => by rw [ht] at ht'; cases ht'; exact e
    have hY : ∀ r, Cl01.read t = some r → ∀ p H', H p = none → Same H H' → RuleAt K H' p r → Q (.ref p) H' := fun r hr => hY t r h200 ht hr
    obtain ⟨et, gt⟩ := signs_mapM ht
    have t200 : t.length ≤ 200 := by rw [et, List.length_map] at h200; exact h200
    have wok := wok_parted (k := 32) t200 (good_128 gt)
    have cnt := parted_count 32 t
    clear hS ht et gt
    walk_at "w"
    intro x dx hx hdx hne
    have ne1 : ps ≠ x := fun z => by rw [z, hx] at d1; cases d1
    have ne2 : ps ≠ dx := fun z => by rw [z, hdx] at d1; cases d1
    refine ⟨x, dx, ps, rfl, upd_same, fun H2 off2 hx2 => ⟨rfl, ?_⟩⟩
    have s2 : Same H1 H2 := fun b u e => by
      have nb : b ≠ x := fun z => by rw [z, hx] at e; cases e
      have nb2 : b ≠ dx := fun z => by rw [z, hdx] at e; cases e
      rw [off2 b nb, upd_ne nb, upd_ne nb2]
      exact e
    have W2 : WordsR K H2 x (parted 32 t) := ⟨dx, ps, parted 32 t, 0, hx2, s2 _ _ d1, by omega, rfl, wok⟩
    have hx0 : H x = none := Same.free s1 hx
    have S2 : Same H H2 := Same.trans s1 s2
    clear off2 hx2 s2 d1 ne1 ne2 hps
    have hR := read_eq t
    unfold readP at hR
    cases ep : parted 32 t with
    | nil => exact absurd ep (parted_ne 32 t)
    | cons w0 l0 =>
    rw [ep] at hR W2
    dsimp only at hR
    walk_at "w"
    refine w_wd W2 (lk_words (by decide +kernel) (by decide +kernel)) ?_
    walk_at "w"
    refine ⟨x, _, rfl, W2, fun H3 o3 W3 => ?_⟩
    have S3 := Off.same S2 hx0 o3
    have W3 : WordsR K H3 x l0 := W3
    walk_at "w"
    refine ⟨_, _, rfl, .inr (T.t_KINDS H3), rfl, rfl, ?_⟩
    rw [show inV (V.str (S ((w0 :: l0).headD []))) [V.str "daily", V.str "weekly", V.str "monthly", V.str "yearly"] = _ from kd_in w0]
    walk_at "w"
    cases ef : FREQS.findIdx? (fun (x : List Nat) => x == w0) with
    | none =>
      rw [ef] at hR
      refine w_t ?_
      walk_at "w"
      exact hN hR _ S3
    | some f =>
    rw [ef, Option.bind_some] at hR
    obtain ⟨f4, rfl⟩ := freq_lt ef
    refine w_f ?_
    walk_at "w"
    unfold readW at hR
    -- by
    refine ⟨x, l0, rfl, W3, fun by_ l1 e1 H4 o4 W4 => ?_, fun e1 H4 o4 => hN (by rw [e1, Option.bind_none] at hR; exact hR) _ (Off.same S3 hx0 o4)⟩
    rw [e1, Option.bind_some] at hR
    dsimp only at hR
    have S4 := Off.same S3 hx0 o4
    walk_at "w"
    -- weekdays
    refine ⟨x, l1, f, rfl, f4, W4, fun wd l2 e2 pw H5 o5 fw dw W5 => ?_, fun e2 H5 o5 => hN (by rw [e2, Option.bind_none] at hR; exact hR) _ (Off.same S4 hx0 o5)⟩
    rw [e2, Option.bind_some] at hR
    dsimp only at hR
    have S5 := Off.same S4 hx0 o5
    have xw : ∀ {p : Addr} {H' : Hp} {l : List (List Nat)}, WordsR K H' x l → H' p = none → p ≠ x := fun {p H' l} W hp z => by
      obtain ⟨_, _, _, _, g, _⟩ := W
      rw [z, g] at hp
      cases hp
    have nw := xw W4 fw
    walk_at "w"
    -- picks
    refine ⟨x, l2, f, rfl, f4, W5, fun it l3 e3 pi ts H6 o6 fi di hI6 W6 => ?_, fun e3 H6 o6 => hN (by rw [e3, Option.bind_none] at hR; exact hR) _ (Off.same S5 hx0 o6)⟩
    rw [e3, Option.bind_some] at hR
    dsimp only at hR
    have S6 := Off.same S5 hx0 o6
    have ni := xw W5 fi
    replace dw := o6 _ _ nw dw
    walk_at "w"
    -- months
    refine ⟨x, l3, f, rfl, f4, W6, fun ms l4 e4 pm H7 o7 fm dm W7 => ?_, fun e4 H7 o7 => hN (by rw [e4, Option.bind_none] at hR; exact hR) _ (Off.same S6 hx0 o7)⟩
    rw [e4, Option.bind_some] at hR
    dsimp only at hR
    have S7 := Off.same S6 hx0 o7
    have nm := xw W6 fm
    replace dw := o7 _ _ nw dw
    replace di := o7 _ _ ni di
    have offI : ∀ {H' H'' : Hp} {l : List (List Nat)}, WordsR K H' x l → Off x H' H'' → Items K H' ts it → Items K H'' ts it := fun {H' H'' l} W o h => ⟨h.1, fun j u i h1 h2 => by
      obtain ⟨_, _, _, _, g, _⟩ := W
      rcases h.2 j u i h1 h2 with (k | ⟨q, k⟩) | k
      · refine .inl (.inl (o u _ (fun z => ?_) k))
        rw [z, g] at k
        cases k
      · refine .inl (.inr ⟨q, o u _ (fun z => ?_) k⟩)
        rw [z, g] at k
        cases k
      · exact .inr k⟩
    replace hI6 := offI W6 o7 hI6
    walk_at "w"
    -- first day
    refine ⟨x, l4, rfl, W7, fun st l5 e5 H8 o8 W8 => ?_, fun e5 H8 o8 => hN (by rw [e5, Option.bind_none] at hR; exact hR) _ (Off.same S7 hx0 o8)⟩
    rw [e5, Option.bind_some] at hR
    dsimp only at hR
    have S8 := Off.same S7 hx0 o8
    replace dw := o8 _ _ nw dw
    replace di := o8 _ _ ni di
    replace dm := o8 _ _ nm dm
    replace hI6 := offI W7 o8 hI6
    walk_at "w"
    -- until
    refine ⟨x, l5, rfl, W8, fun u l6 e6 H9 o9 W9 => ?_, fun e6 H9 o9 => hN (by rw [e6, Option.bind_none] at hR; exact hR) _ (Off.same S8 hx0 o9)⟩
    rw [e6, Option.bind_some] at hR
    dsimp only at hR
    have S9 := Off.same S8 hx0 o9
    replace dw := o9 _ _ nw dw
    replace di := o9 _ _ ni di
    replace dm := o9 _ _ nm dm
    replace hI6 := offI W8 o9 hI6
    walk_at "w"
    -- times
    refine w_cut (fun σ' H' => ∃ (n : Option Nat) (l7 : List (List Nat)), (if u.isSome then some (none, l6) else opt TIMES none (fun w => (within 1 999 w).map some) l6) = some (n, l7) ∧ Off x H9 H' ∧ WordsR K H' x l7 ∧ σ' = [some (.ref a), some (.ref x), some (sv (FREQS.getD f [])), some (.int (by_ : Nat)), some (.ref pw), some (.ref pi), some (.ref pm), some (.int (st : Nat)), some (.int (uvI u)), some (.int (tvI n)), none, none]) ?_ ?_
    · walk_at "w"
      cases u with
      | some v =>
        refine w_no (by show ¬ (v : Int) < 0; omega) ?_
        walk_at "w"
        exact ⟨none, l6, rfl, Off.refl _ _, W9, rfl⟩
      | none =>
        refine w_yes (by decide) ?_
        walk_at "w"
        refine ⟨x, l6, rfl, W9, fun n l7 e7 H10 o10 W10 => ?_, fun e7 H10 o10 => hN (by rw [if_neg (show ¬ (none : Option Nat).isSome = true from Bool.false_ne_true), e7, Option.bind_none] at hR; exact hR) _ (Off.same S9 hx0 o10)⟩
        walk_at "w"
        exact ⟨n, l7, by rw [if_neg (show ¬ (none : Option Nat).isSome = true from Bool.false_ne_true)]; exact e7, o10, W10, rfl⟩
    rintro _ H10 ⟨n, l7, e7, o10, W10, rfl⟩
    rw [e7, Option.bind_some] at hR
    dsimp only at hR
    have S10 := Off.same S9 hx0 o10
    replace dw := o10 _ _ nw dw
    replace di := o10 _ _ ni di
    replace dm := o10 _ _ nm dm
    replace hI6 := offI W9 o10 hI6
    walk_at "w"
    -- not
    refine ⟨x, l7, NOT, rfl, by decide, W10, fun ns l8 e8 pn H11 o11 fn dn W11 => ?_, fun e8 H11 o11 => hN (by rw [e8, Option.bind_none] at hR; exact hR) _ (Off.same S10 hx0 o11)⟩
    rw [e8, Option.bind_some] at hR
    dsimp only at hR
    have S11 := Off.same S10 hx0 o11
    have nn := xw W10 fn
    replace dw := o11 _ _ nw dw
    replace di := o11 _ _ ni di
    replace dm := o11 _ _ nm dm
    replace hI6 := offI W10 o11 hI6
    walk_at "w"
    -- also
    refine ⟨x, l8, ALSO, rfl, by decide, W11, fun as l9 e9 pa H12 o12 fa da W12 => ?_, fun e9 H12 o12 => hN (by rw [e9, Option.bind_none] at hR; exact hR) _ (Off.same S11 hx0 o12)⟩
    rw [e9, Option.bind_some] at hR
    dsimp only at hR
    have S12 := Off.same S11 hx0 o12
    replace dw := o12 _ _ nw dw
    replace di := o12 _ _ ni di
    replace dm := o12 _ _ nm dm
    replace dn := o12 _ _ nn dn
    replace hI6 := offI W11 o12 hI6
    walk_at "w"
    refine w_wd W12 (lk_words (by decide +kernel) (by decide +kernel)) ?_
    walk_at "w"
    refine ⟨x, l9, rfl, W12, fun e => ?_, fun e => hN (by rw [if_neg e] at hR; exact hR) _ S12⟩
    rw [if_pos e] at hR
    walk_at "w"
    intro p dp hp hdp hpne
    generalize hr : (⟨f, by_, wd, it, ms, st, if u.isSome then 1 else if n.isSome then 2 else 0, if u.isSome then u.getD 0 else n.getD 0, ns, as⟩ : Rule) = r at hR
    have npw : ∀ {q : Addr} {v : HO}, H12 q = some v → q ≠ p ∧ q ≠ dp := fun {q v} e => ⟨fun z => (by rw [z, hp] at e; cases e), fun z => (by rw [z, hdp] at e; cases e)⟩
    have un : u.isSome = true → n = none := fun hu => by
      cases u with
      | none => cases hu
      | some v => cases e7; rfl
    refine ⟨p, dp, pw, pi, pm, pn, pa, r, ?_, upd_same, fun H13 off13 hp13 => ⟨rfl, ?_⟩⟩
    · subst hr
      cases u with
      | some v =>
        obtain rfl := un rfl
        rfl
      | none => cases n <;> rfl
    · have s13 : Same H12 H13 := fun b v e => by
        have z := npw e
        rw [off13 b z.1, upd_ne z.1, upd_ne z.2]
        exact e
      refine hY r hR p H13 (Same.free S12 hp) (Same.trans S12 s13) ?_
      subst hr
      exact ⟨dp, pw, pi, pm, pn, pa, ts, hp13, SqL.of (s13 _ _ dw), SqL.of (s13 _ _ di), hI6.same s13, SqL.of (s13 _ _ dm), SqL.of (s13 _ _ dn), SqL.of (s13 _ _ da)⟩
end

end CA
end file_CaM10
section file_CaKeep
set_option maxRecDepth 100000
set_option maxHeartbeats 4000000
/-! The keeper as it lies in the heap; a call that raises, within try. -/
namespace CA
open PySem PySem.Spec PyProof.Rows L2
open SX (S)
open Cl01 (Rule days text step)
section
variable {X : Cx} {CX : CXT} {k : Nat} {ps : List Str} {sp : Sp} {E : L2.St → XK} {x : Str} {p pos : Pos} {e : Expr} {es : List Expr} {t : TA}
theorem pe_fnS (D : DefOk X.prog X.w X.K X.mg X.base CX k x ps sp) (hr : Room k X.A) (hg : Gl X x) (hx : ∀ σ, PassesAt CX X σ (E σ)) (ha : PA X (e :: es) t) (hdb : (x == ("__debug__" : Str)) = false := by decide)
    (he : starEach (e :: es) X.env = (false, eval e X.env) :: starEach es X.env := by rfl) (hpl : (backTo pos (starEach es X.env)).any (·.1) = false := by rfl) : PE X (.Call (.Name x p) (e :: es) [] pos) (tCallS sp E t) := by
  obtain ⟨⟨fd, F, b⟩, kp, gl⟩ := D
  exact pe_callS F hr hg gl kp b hx ha hdb he hpl
theorem w_cls {σ : L2.St} {H : Hp} {Q : VK} (h : t σ H fun vs H1 => sp vs H1 Q (E σ)) : tCallS sp E t σ H Q := h
end
abbrev KeptC := Cl01.Kept
/-- what is kept beside a row -/
def txV (k : KeptC) : V := match k.rule with
  | none => .non
  | some r => sv (text r)
/-- what a kept row has -/
def StK (k : KeptC) : Prop := Up k.days ∧ (∀ x ∈ k.days, x < 36525) ∧ ∀ r, k.rule = some r → (text r).length ≤ 1000000
theorem StK.len {k : KeptC} (h : StK k) : k.days.length ≤ 36525 := up_length h.1 h.2.1
def keeperF (kr kt : Addr) : List (Str × V) := [("kept_rows", .ref kr), ("kept_texts", .ref kt)]
def Off2 (p q : Addr) (H H' : Hp) : Prop := ∀ b u, b ≠ p → b ≠ q → H b = some u → H' b = some u
theorem Off2.refl (p q : Addr) (H : Hp) : Off2 p q H H := fun _ _ _ _ e => e
theorem Off2.trans {p q : Addr} {H1 H2 H3 : Hp} (s : Off2 p q H1 H2) (t : Off2 p q H2 H3) : Off2 p q H1 H3 := fun b u n m e => t b u n m (s b u n m e)
theorem Same.off2 {p q : Addr} {H H' : Hp} (s : Same H H') : Off2 p q H H' := fun b u _ _ e => s b u e
theorem off2_l {p q : Addr} {H : Hp} {o : HO} : Off2 p q H (upd H p o) := fun b u n _ e => by rw [upd_ne n]; exact e
theorem off2_r {p q : Addr} {H : Hp} {o : HO} : Off2 p q H (upd H q o) := fun b u _ m e => by rw [upd_ne m]; exact e
/-- the keeper and what it keeps -/
structure Kee (K : PySem.W.Frag) (H : Hp) (a kr kt rx : Addr) (s : List KeptC) : Prop where
  ins : ∃ dx, H a = some (.ins (He.ga K "Keeper") dx (keeperF kr kt))
  rows : ∃ rs : List Addr, H kr = some (.lst (rs.map V.ref)) ∧ rs.length = s.length ∧ ∀ (j : Nat) (r : Addr) (k : KeptC), rs[j]? = some r → s[j]? = some k → H r = some (.lst (iv k.days)) ∧ r ≠ kr ∧ r ≠ kt ∧ r ≠ rx
  texts : H kt = some (.lst (s.map txV))
  ne : kr ≠ kt
  few : s.length ≤ 8
  ok : ∀ k ∈ s, StK k
  fr : H rx ≠ none
theorem Kee.same {K : PySem.W.Frag} {H H' : Hp} {a kr kt rx : Addr} {s : List KeptC} (h : Kee K H a kr kt rx s) (e : Same H H') : Kee K H' a kr kt rx s := by
  obtain ⟨⟨dx, h1⟩, ⟨rs, h2, h3, h4⟩, h5, h6, h7, h8, h9⟩ := h
  refine ⟨⟨dx, e _ _ h1⟩, ⟨rs, e _ _ h2, h3, fun j r k x y => ⟨e _ _ (h4 j r k x y).1, (h4 j r k x y).2⟩⟩, e _ _ h5, h6, h7, h8, fun z => ?_⟩
  cases g : H rx with
  | none => exact h9 g
  | some u => rw [e _ _ g] at z; cases z
theorem Kee.nr {K : PySem.W.Frag} {H : Hp} {a kr kt rx p : Addr} {s : List KeptC} (h : Kee K H a kr kt rx s) (hp : H p = none) : p ≠ kr ∧ p ≠ kt ∧ p ≠ rx ∧ p ≠ a := by
  obtain ⟨⟨dx, h1⟩, ⟨rs, h2, h3, h4⟩, h5, h6, h7, h8, h9⟩ := h
  exact ⟨fun z => (by rw [z, h2] at hp; cases hp), fun z => (by rw [z, h5] at hp; cases hp), fun z => (by rw [z] at hp; exact h9 hp), fun z => (by rw [z, h1] at hp; cases hp)⟩
theorem Off2.free {K : PySem.W.Frag} {H H' : Hp} {a kr kt rx p : Addr} {s s' : List KeptC} (h : Kee K H a kr kt rx s) (h' : Kee K H' a kr kt rx s') (o : Off2 kr kt H H') (hp : H' p = none) : H p = none := by
  obtain ⟨n1, n2, _⟩ := h'.nr hp
  cases e : H p with
  | none => rfl
  | some u => rw [o p u n1 n2 e] at hp; cases hp
theorem Kee.row {K : PySem.W.Frag} {H : Hp} {a kr kt rx : Addr} {s : List KeptC} (h : Kee K H a kr kt rx s) {j : Nat} {k : KeptC} (hj : s[j]? = some k) : ∃ (dx : Addr) (rs : List Addr) (r : Addr), H a = some (.ins (He.ga K "Keeper") dx (keeperF kr kt)) ∧ H kr = some (.lst (rs.map V.ref)) ∧ rs[j]? = some r ∧ H r = some (.lst (iv k.days)) ∧ StK k := by
  obtain ⟨⟨dx, h1⟩, ⟨rs, h2, h3, h4⟩, h5, h6, h7, h8, h9⟩ := h
  have hl : j < s.length := (List.getElem?_eq_some_iff.mp hj).1
  have hr : rs[j]? = some (rs[j]'(by omega)) := List.getElem?_eq_getElem (by omega)
  exact ⟨dx, rs, _, h1, h2, hr, (h4 j _ k hr hj).1, h8 k (List.mem_of_getElem? hj)⟩
/-- one more row, one more text -/
theorem Kee.store {K : PySem.W.Frag} {H : Hp} {a kr kt rx p dx : Addr} {s : List KeptC} {k : KeptC} {rs : List Addr} (h : Kee K H a kr kt rx s) (h2 : H kr = some (.lst (rs.map V.ref))) (hp : H p = some (.lst (iv k.days))) (n1 : p ≠ kr) (n2 : p ≠ kt) (n3 : p ≠ rx) (hk : StK k) (l8 : s.length < 8) :
    Kee K (upd (upd H kr (.lst (rs.map V.ref ++ [.ref p]))) kt (.lst (s.map txV ++ [txV k]))) a kr kt rx (s ++ [k]) := by
  obtain ⟨⟨dx, h1⟩, ⟨rs', h2', h3, h4⟩, h5, h6, h7, h8, h9⟩ := h
  have er : rs' = rs := by
    rw [h2] at h2'
    have e := Option.some.inj h2'
    have e2 : rs.map V.ref = rs'.map V.ref := by injection e
    have inj : ∀ {l m : List Addr}, l.map V.ref = m.map V.ref → l = m := by
      intro l
      induction l with
      | nil => intro m h; cases m with
        | nil => rfl
        | cons b m => cases h
      | cons a l ih => intro m h; cases m with
        | nil => cases h
        | cons b m =>
          rw [List.map_cons, List.map_cons, List.cons.injEq] at h
          obtain ⟨h1, h2⟩ := h
          injection h1 with h1
          rw [h1, ih h2]
    exact (inj e2).symm
  subst er
  have na1 : a ≠ kr := fun z => by rw [z, h2] at h1; cases h1
  have na2 : a ≠ kt := fun z => by rw [z, h5] at h1; cases h1
  refine ⟨⟨dx, by rw [upd_ne na2, upd_ne na1]; exact h1⟩, ⟨rs' ++ [p], by rw [upd_ne h6, upd_same, List.map_append]; rfl, by rw [List.length_append, List.length_append, h3]; rfl, fun j r x hr hx => ?_⟩, by rw [upd_same, List.map_append]; rfl, h6, by rw [List.length_append]; show s.length + 1 ≤ 8; omega, fun x hx => ?_, fun z => ?_⟩
  · by_cases c : j < rs'.length
    · rw [List.getElem?_append_left c] at hr
      rw [List.getElem?_append_left (by omega)] at hx
      obtain ⟨g1, g2, g3⟩ := h4 j r x hr hx
      exact ⟨by rw [upd_ne g3.1, upd_ne g2]; exact g1, g2, g3⟩
    · rw [List.getElem?_append_right (by omega)] at hr
      rw [List.getElem?_append_right (by omega), ← h3] at hx
      cases e : j - rs'.length with
      | succ m => rw [e] at hr; cases hr
      | zero =>
        rw [e] at hr hx
        obtain rfl := Option.some.inj hr
        obtain rfl := Option.some.inj hx
        exact ⟨by rw [upd_ne n2, upd_ne n1]; exact hp, n1, n2, n3⟩
  · rcases List.mem_append.mp hx with hx | hx
    · exact h8 x hx
    · rw [List.mem_singleton.mp hx]
      exact hk
  · by_cases c1 : rx = kt
    · rw [c1, upd_same] at z
      cases z
    · rw [upd_ne c1] at z
      by_cases c2 : rx = kr
      · rw [c2, upd_same] at z
        cases z
      · rw [upd_ne c2] at z
        exact h9 z
/-- the list that no row is may change -/
theorem Kee.mut {K : PySem.W.Frag} {H : Hp} {a kr kt rx : Addr} {s : List KeptC} {o : HO} (h : Kee K H a kr kt rx s) (n1 : rx ≠ kr) (n2 : rx ≠ kt) (n3 : rx ≠ a) : Kee K (upd H rx o) a kr kt rx s := by
  obtain ⟨⟨dx, h1⟩, ⟨rs, h2, h3, h4⟩, h5, h6, h7, h8, h9⟩ := h
  exact ⟨⟨dx, by rw [upd_ne n3.symm]; exact h1⟩, ⟨rs, by rw [upd_ne n1.symm]; exact h2, h3, fun j r k x y => ⟨by rw [upd_ne (h4 j r k x y).2.2.2]; exact (h4 j r k x y).1, (h4 j r k x y).2⟩⟩, by rw [upd_ne n2.symm]; exact h5, h6, h7, h8, fun z => by rw [upd_same] at z; cases z⟩
theorem Kee.chg {K : PySem.W.Frag} {H : Hp} {a kr kt rx ry : Addr} (h : Kee K H a kr kt rx []) (hy : H ry ≠ none) : Kee K H a kr kt ry [] := by
  obtain ⟨h1, ⟨rs, h2, h3, h4⟩, h5, h6, h7, h8, h9⟩ := h
  exact ⟨h1, ⟨rs, h2, h3, fun j r k x y => by cases y⟩, h5, h6, h7, h8, hy⟩
/-- what an answer to a call must leave -/
def AnsP (K : PySem.W.Frag) (H : Hp) (a kr kt rx : Addr) (s : List KeptC) (c : Cl01.Call) (Q : VK) : Prop :=
  ∀ q H', H q = none → Off2 kr kt H H' → Kee K H' a kr kt rx (step s c).1 → H' q = some (.lst ((step s c).2.map V.int)) → Q (.ref q) H'
theorem lk_keeper {m : Str} (h1 : (m == ("kept_rows" : Str)) = false) (h2 : (m == ("kept_texts" : Str)) = false) (kr kt : Addr) : (keeperF kr kt).lookup m = none := by
  unfold keeperF
  rw [lk_past h1, lk_past h2]
  rfl
theorem w_kd {K : PySem.W.Frag} {H : Hp} {a kr kt rx : Addr} {s : List KeptC} {m : Str} {F : Prop} (W : Kee K H a kr kt rx s) (hm : (keeperF kr kt).lookup m = none) (h : F) : ∃ a' dx fs, V.ref a = .ref a' ∧ H a' = some (.ins (He.ga K "Keeper") dx fs) ∧ fs.lookup m = none ∧ F := by
  obtain ⟨dx, h1⟩ := W.ins
  exact ⟨a, dx, _, rfl, h1, hm, h⟩
theorem w_k_rows {K : PySem.W.Frag} {mg : Str → Option Value} {H : Hp} {a kr kt rx : Addr} {s : List KeptC} (T : Tx K mg) (W : Kee K H a kr kt rx s) {F : V → Prop} (h : F (.ref kr)) : ∃ a' C dx' fs v', V.ref a = .ref a' ∧ H a' = some (.ins C dx' fs) ∧ Cls K C ∧ NoAttr K C "kept_rows" ∧ fs.lookup ("kept_rows" : Str) = some v' ∧ F v' := by
  obtain ⟨dx, h1⟩ := W.ins
  exact ⟨a, _, dx, _, _, rfl, h1, T.c_Keeper, T.n_Keeper_kept_rows, lk_here, h⟩
theorem w_k_texts {K : PySem.W.Frag} {mg : Str → Option Value} {H : Hp} {a kr kt rx : Addr} {s : List KeptC} (T : Tx K mg) (W : Kee K H a kr kt rx s) {F : V → Prop} (h : F (.ref kt)) : ∃ a' C dx' fs v', V.ref a = .ref a' ∧ H a' = some (.ins C dx' fs) ∧ Cls K C ∧ NoAttr K C "kept_texts" ∧ fs.lookup ("kept_texts" : Str) = some v' ∧ F v' := by
  obtain ⟨dx, h1⟩ := W.ins
  exact ⟨a, _, dx, _, _, rfl, h1, T.c_Keeper, T.n_Keeper_kept_texts, (lk_past (by decide +kernel)).trans lk_here, h⟩
theorem text_len {r : Rule} (ok : ROk r) : (text r).length ≤ 1000000 := by
  rw [text_parts ok]
  have lwd := ok.lwd
  have lms := ok.lms
  have lit := ok.lit
  have lnt := ok.lnt
  have lal := ok.lal
  refine Nat.le_trans (joined_len 32 _) ?_
  have z3 := part_z (fun n => Cl01.MO.getD n []) 2 r.weekdays fun n hn => by rw [mo_len (ok.wd n hn)]; exact Nat.le_refl 2
  have z4 := part_sum Cl01.ON (r.weekdays.map fun n => Cl01.MO.getD n [])
  have l4 := part_len Cl01.ON (r.weekdays.map fun n => Cl01.MO.getD n [])
  have z5 := part_z Cl01.itemText 10 r.items fun n hn => item_len (ok.it n hn)
  have z6 := part_sum Cl01.ON (r.items.map Cl01.itemText)
  have l6 := part_len Cl01.ON (r.items.map Cl01.itemText)
  have z7 := part_z (Cl01.digitsOf 4) 4 r.months fun n hn => num_len n (by have := ok.ms n hn; omega)
  have l7 := part_len Cl01.IN (r.months.map (Cl01.digitsOf 4))
  have z7' := part_sum Cl01.IN (r.months.map (Cl01.digitsOf 4))
  have z12 := part_z Cl01.dateText 10 r.not_ fun n hn => by rw [dateText_len]; exact Nat.le_refl 10
  have l12 := part_len Cl01.NOT (r.not_.map Cl01.dateText)
  have z12' := part_sum Cl01.NOT (r.not_.map Cl01.dateText)
  have z13 := part_z Cl01.dateText 10 r.also fun n hn => by rw [dateText_len]; exact Nat.le_refl 10
  have l13 := part_len Cl01.ALSO (r.also.map Cl01.dateText)
  have z13' := part_sum Cl01.ALSO (r.also.map Cl01.dateText)
  have fl := freq_len r.freq
  generalize h1 : ((if r.by_ = 1 then [] else [Cl01.BY, Cl01.digitsOf 4 r.by_]) : List (List Nat)) = q1
  have q1l : q1.length ≤ 2 ∧ (q1.map fun x => x.length).sum ≤ 10 := by
    rw [← h1]
    split
    · exact ⟨Nat.zero_le _, Nat.zero_le _⟩
    · have := num_len r.by_ (by have := ok.by99; omega)
      refine ⟨Nat.le_refl 2, ?_⟩
      show Cl01.BY.length + ((Cl01.digitsOf 4 r.by_).length + 0) ≤ 10
      have : Cl01.BY.length = 2 := rfl
      omega
  have k1 : Cl01.ON.length = 2 := rfl
  have k2 : Cl01.IN.length = 2 := rfl
  have k3 : Cl01.FROM.length = 4 := rfl
  have k4 : Cl01.NOT.length = 3 := rfl
  have k5 : Cl01.ALSO.length = 4 := rfl
  have k6 := dateText_len r.start
  have key : ∀ q10 : List (List Nat), q10.length ≤ 2 ∧ (q10.map fun x => x.length).sum ≤ 20 →
      (([Cl01.FREQS.getD r.freq []] ++ q1 ++ Cl01.part Cl01.ON (r.weekdays.map fun n => Cl01.MO.getD n []) ++ Cl01.part Cl01.ON (r.items.map Cl01.itemText) ++ Cl01.part Cl01.IN (r.months.map (Cl01.digitsOf 4)) ++ [Cl01.FROM, Cl01.dateText r.start] ++ q10 ++ Cl01.part Cl01.NOT (r.not_.map Cl01.dateText) ++ Cl01.part Cl01.ALSO (r.also.map Cl01.dateText)).map fun x => x.length).sum +
      ([Cl01.FREQS.getD r.freq []] ++ q1 ++ Cl01.part Cl01.ON (r.weekdays.map fun n => Cl01.MO.getD n []) ++ Cl01.part Cl01.ON (r.items.map Cl01.itemText) ++ Cl01.part Cl01.IN (r.months.map (Cl01.digitsOf 4)) ++ [Cl01.FROM, Cl01.dateText r.start] ++ q10 ++ Cl01.part Cl01.NOT (r.not_.map Cl01.dateText) ++ Cl01.part Cl01.ALSO (r.also.map Cl01.dateText)).length ≤ 1000000 := by
    intro q10 l10
    simp only [List.map_append, List.sum_append, List.length_append, List.map_cons, List.map_nil, List.sum_cons, List.sum_nil, List.length_cons, List.length_nil]
    omega
  refine key _ ?_
  have h3 : r.halt_ = 0 ∨ r.halt_ = 1 ∨ r.halt_ = 2 := by have := ok.halt; omega
  rcases h3 with e | e | e
  · rw [e]
    exact ⟨Nat.zero_le _, Nat.zero_le _⟩
  · rw [e]
    refine ⟨Nat.le_refl 2, ?_⟩
    show Cl01.UNTIL.length + ((Cl01.dateText r.last).length + 0) ≤ 20
    rw [dateText_len]
    decide
  · rw [e]
    refine ⟨Nat.le_refl 2, ?_⟩
    show Cl01.TIMES.length + ((Cl01.digitsOf 4 r.last).length + 0) ≤ 20
    have := num_len r.last (by have := (ok.times e).2; omega)
    have : Cl01.TIMES.length = 5 := rfl
    omega
end CA
end file_CaKeep
section file_CaM11
set_option maxRecDepth 100000
set_option maxHeartbeats 4000000
namespace CA
open PySem PySem.Spec PyProof.Rows L2
open SX (S)
open Cl01 (monthDays monthStart isDate dayOf yearOf monthOf domOf weekday week weekOf)

open Cl01 (Rule days text step read)
theorem put_eq (s : List KeptC) (k : KeptC) : Cl01.put s k = if 8 ≤ s.length then (s, [-5]) else (s ++ [k], [(s.length : Int)]) := rfl
theorem up_meet {l m : List Nat} (hl : Up l) (hm : Up m) (bl : ∀ x ∈ l, x < 36525) : Up (Cl01.of Cl01.meet l m) ∧ ∀ x ∈ Cl01.of Cl01.meet l m, x < 36525 := by
  rw [of_meet hl hm]
  exact ⟨Up.filter hl _, fun x hx => bl x (List.mem_filter.mp hx).1⟩
theorem up_minus {l m : List Nat} (hl : Up l) (hm : Up m) (bl : ∀ x ∈ l, x < 36525) : Up (Cl01.of Cl01.minus l m) ∧ ∀ x ∈ Cl01.of Cl01.minus l m, x < 36525 := by
  rw [of_minus hl hm]
  exact ⟨Up.filter hl _, fun x hx => bl x (List.mem_filter.mp hx).1⟩
theorem up_joinB {l m : List Nat} (hl : Up l) (hm : Up m) (bl : ∀ x ∈ l, x < 36525) (bm : ∀ x ∈ m, x < 36525) : Up (Cl01.of Cl01.join l m) ∧ ∀ x ∈ Cl01.of Cl01.join l m, x < 36525 :=
  ⟨up_join hl hm, fun x hx => ((mem_join hl hm x).mp hx).elim (bl x) (bm x)⟩
def sp_Keeper___init__ (K : PySem.W.Frag) : Sp := fun vs H Q _ => ∃ x dx : Addr, vs = [.ref x] ∧ H x = some (.ins (He.ga K "Keeper") dx []) ∧ H dx = some (.own x) ∧ ∀ kr kt H', kr ≠ x → kt ≠ x → H kr = none → H kt = none → (∀ b u, b ≠ x → H b = some u → H' b = some u) → Kee K H' x kr kt x [] → Q .non H' 
section
variable {P : Program} {w : World} {K : PySem.W.Frag} {mg : Str → Option Value} {base : Heap}
theorem sc_Keeper___init__ : FnScope ["self"] ["self"] (defScope s_Keeper___init__) := ⟨rfl, rfl, rfl, by decide +kernel, rfl, by decide +kernel, by decide +kernel⟩
theorem mk_Keeper (T : Tx K mg) : MakOk P w K mg base 1 "Keeper" ["self"] (sp_Keeper___init__ K) := by
  obtain ⟨fd, F⟩ := T.f_Keeper___init__
  refine ⟨⟨fd, F.ok sc_Keeper___init__ (fun vs H Q E h => ?_) (fun cdv A outer s H vs Q E hr h => ?_), F.bindsN fun _ _ _ _ _ _ us hl => match us, hl with | [_], _ => rfl⟩, T.k_Keeper, T.g_Keeper⟩
  · obtain ⟨x, dx, rfl, _⟩ := h
    rfl
  · refine ⟨_, PSs.nox (pss_cons (ps_fld (pv 0) (pe_lst pa_nil) rfl)
      (pss_one (ps_fld (pv 0) (pe_lst pa_nil) rfl))), ?_⟩
    clear F hr
    obtain ⟨x, dx, rfl, HX0, HD0, hQ⟩ := h
    walk_at "w"
    intro kr hkr
    walk_at "w"
    have n1 : x ≠ kr := fun z => by rw [← z, HX0] at hkr; cases hkr
    have HX1 : upd H kr (.lst []) x = some (.ins (He.ga K "Keeper") dx []) := by rw [upd_ne n1]; exact HX0
    refine w_init (H0 := upd H kr (.lst [])) HX1 (fun b _ => rfl) T.c_Keeper T.n_Keeper_kept_rows (by show (0 : Nat) < 1000; decide) (by rfl) fun H2 HX2 OFF2 => ?_
    walk_at "w"
    intro kt hkt
    walk_at "w"
    have n2 : x ≠ kt := fun z => by rw [← z, HX2] at hkt; cases hkt
    have e2 : H2 kr = some (.lst []) := by rw [OFF2 kr n1.symm]; exact upd_same
    have n3 : kr ≠ kt := fun z => by rw [← z, e2] at hkt; cases hkt
    have HX3 : upd H2 kt (.lst []) x = some (.ins (He.ga K "Keeper") dx ([] ++ [(("kept_rows" : Str), V.ref kr)])) := by rw [upd_ne n2]; exact HX2
    refine w_init (H0 := upd H2 kt (.lst [])) HX3 (fun b _ => rfl) T.c_Keeper T.n_Keeper_kept_texts (by show (1 : Nat) < 1000; decide) (by rfl) fun H4 HX4 OFF4 => ?_
    walk_at "w"
    have ekt : H kt = none := by
      rw [OFF2 kt n2.symm] at hkt
      rw [← hkt, upd_ne n3.symm]
    refine hQ kr kt H4 n1.symm n2.symm hkr ekt (fun b u nb e => ?_) ⟨⟨dx, HX4⟩, ⟨[], ?_, rfl, fun j r k h => by cases h⟩, ?_, n3, Nat.zero_le _, fun _ h => absurd h List.not_mem_nil, fun z => by rw [HX4] at z; cases z⟩
    · have b1 : b ≠ kr := fun z => by rw [z, hkr] at e; cases e
      have b2 : b ≠ kt := fun z => by rw [z, ekt] at e; cases e
      rw [OFF4 b nb, upd_ne b2, OFF2 b nb, upd_ne b1]
      exact e
    · rw [OFF4 kr n1.symm, upd_ne n3]
      exact e2
    · rw [OFF4 kt n2.symm]
      exact upd_same
end

def sp_Keeper_has_kept (K : PySem.W.Frag) : Sp := fun vs H Q _ => ∃ (a kr kt rx : Addr) (s : List KeptC) (k : Nat), vs = [.ref a, .int (k : Int)] ∧ Kee K H a kr kt rx s ∧ Q (.bl (decide (k < s.length))) H
section
variable {P : Program} {w : World} {K : PySem.W.Frag} {mg : Str → Option Value} {base : Heap}
theorem sc_Keeper_has_kept : FnScope ["self", "kept"] ["self", "kept"] (defScope s_Keeper_has_kept) := ⟨rfl, rfl, rfl, by decide +kernel, rfl, by decide +kernel, by decide +kernel⟩
theorem ok_Keeper_has_kept (T : Tx K mg) : MetOk P w K mg base CX0 1 "Keeper" "has_kept" ["self", "kept"] (sp_Keeper_has_kept K) := by
  obtain ⟨fd, F⟩ := T.f_Keeper_has_kept
  refine ⟨⟨fd, F.ok sc_Keeper_has_kept (fun vs H Q E h => ?_) (fun cdv A outer s H vs Q E hr h => ?_), F.bindsN fun _ _ _ _ _ _ us hl => match us, hl with | [_, _], _ => rfl⟩, T.c_Keeper, T.m_Keeper_has_kept⟩
  · obtain ⟨a, kr, kt, rx, s, k, rfl, _⟩ := h
    rfl
  · refine ⟨_, PSs.nox (pss_one (ps_ret (pe_cmpR op_lt (pv 1) (pe_callB (len_seqK (K := K) rfl) (by rfl) T.b_len (by decide +kernel) (pa_cons (pe_fldK (K := K) rfl (pv 0) rfl) pa_nil)) (nomark _)))), ?_⟩
    clear F hr
    obtain ⟨a, kr, kt, rx, s', k, rfl, hW, hQ⟩ := h
    walk_at "w"
    refine w_k_rows T hW ?_
    obtain ⟨rs, h2, h3, _⟩ := hW.rows
    walk_at "w"
    refine ⟨_, _, rfl, .inl (SqL.of h2), ?_⟩
    rw [List.length_map, h3]
    walk_at "w"
    rw [show decide ((k : Int) < (s'.length : Int)) = decide (k < s'.length) from decide_eq_decide.mpr (by omega)]
    exact hQ
end

def sp_Keeper_is_full (K : PySem.W.Frag) : Sp := fun vs H Q _ => ∃ (a kr kt rx : Addr) (s : List KeptC), vs = [.ref a] ∧ Kee K H a kr kt rx s ∧ Q (.bl (decide (8 ≤ s.length))) H
section
variable {P : Program} {w : World} {K : PySem.W.Frag} {mg : Str → Option Value} {base : Heap}
theorem sc_Keeper_is_full : FnScope ["self"] ["self"] (defScope s_Keeper_is_full) := ⟨rfl, rfl, rfl, by decide +kernel, rfl, by decide +kernel, by decide +kernel⟩
theorem ok_Keeper_is_full (T : Tx K mg) : MetOk P w K mg base CX0 1 "Keeper" "is_full" ["self"] (sp_Keeper_is_full K) := by
  obtain ⟨fd, F⟩ := T.f_Keeper_is_full
  refine ⟨⟨fd, F.ok sc_Keeper_is_full (fun vs H Q E h => ?_) (fun cdv A outer s H vs Q E hr h => ?_), F.bindsN fun _ _ _ _ _ _ us hl => match us, hl with | [_], _ => rfl⟩, T.c_Keeper, T.m_Keeper_is_full⟩
  · obtain ⟨a, kr, kt, rx, s, rfl, _⟩ := h
    rfl
  · refine ⟨_, PSs.nox (pss_one (ps_ret (pe_cmpR op_ge (pe_callB (len_seqK (K := K) rfl) (by rfl) T.b_len (by decide +kernel) (pa_cons (pe_fldK (K := K) rfl (pv 0) rfl) pa_nil)) (pe_gi T.i_MOST_KEPT (by rfl)) (nomark _)))), ?_⟩
    clear F hr
    obtain ⟨a, kr, kt, rx, s', rfl, hW, hQ⟩ := h
    walk_at "w"
    refine w_k_rows T hW ?_
    obtain ⟨rs, h2, h3, _⟩ := hW.rows
    walk_at "w"
    refine ⟨_, _, rfl, .inl (SqL.of h2), ?_⟩
    rw [List.length_map, h3]
    walk_at "w"
    rw [show decide ((8 : Int) ≤ (s'.length : Int)) = decide (8 ≤ s'.length) from decide_eq_decide.mpr (by omega)]
    exact hQ
end

def sp_Keeper_store (K : PySem.W.Frag) : Sp := fun vs H Q _ => ∃ (a kr kt rx p : Addr) (s : List KeptC) (k : KeptC), vs = [.ref a, .ref p, txV k] ∧ Kee K H a kr kt rx s ∧ H p = some (.lst (iv k.days)) ∧ p ≠ kr ∧ p ≠ kt ∧ p ≠ rx ∧ StK k ∧ s.length < 8 ∧ ∀ H', Off2 kr kt H H' → Kee K H' a kr kt rx (s ++ [k]) → Q (.int (s.length : Nat)) H' 
section
variable {P : Program} {w : World} {K : PySem.W.Frag} {mg : Str → Option Value} {base : Heap}
theorem sc_Keeper_store : FnScope ["self", "row", "text"] ["self", "row", "text"] (defScope s_Keeper_store) := ⟨rfl, rfl, rfl, by decide +kernel, rfl, by decide +kernel, by decide +kernel⟩
theorem ok_Keeper_store (T : Tx K mg) : MetOk P w K mg base CX0 1 "Keeper" "store" ["self", "row", "text"] (sp_Keeper_store K) := by
  obtain ⟨fd, F⟩ := T.f_Keeper_store
  refine ⟨⟨fd, F.ok sc_Keeper_store (fun vs H Q E h => ?_) (fun cdv A outer s H vs Q E hr h => ?_), F.bindsN fun _ _ _ _ _ _ us hl => match us, hl with | [_, _, _], _ => rfl⟩, T.c_Keeper, T.m_Keeper_store⟩
  · obtain ⟨a, kr, kt, rx, p, s, k, rfl, _⟩ := h
    rfl
  · refine ⟨_, PSs.nox (pss_cons (ps_expr (pe_bm PySem.F.plainAttrs_list PySem.F.slot_list_append PySem.F.type_list_append mt_append (pe_fldK (K := K) rfl (pv 0) rfl) (pa_cons (pv 1) pa_nil)))
      (pss_cons (ps_expr (pe_bm PySem.F.plainAttrs_list PySem.F.slot_list_append PySem.F.type_list_append mt_append (pe_fldK (K := K) rfl (pv 0) rfl) (pa_cons (pv 2) pa_nil)))
      (pss_one (ps_ret (pe_op op_sub (pe_callB (len_seqK (K := K) rfl) (by rfl) T.b_len (by decide +kernel) (pa_cons (pe_fldK (K := K) rfl (pv 0) rfl) pa_nil)) pe_int))))), ?_⟩
    clear F hr
    obtain ⟨a, kr, kt, rx, p, s', k, rfl, hW, hp, n1, n2, n3, hk, l8, hQ⟩ := h
    have big : (1000 : Nat) ≤ sizeLine := by decide
    obtain ⟨rs, h2, h3, _⟩ := hW.rows
    have h5 := hW.texts
    obtain ⟨dx, h1⟩ := hW.ins
    have na1 : a ≠ kr := fun z => by rw [z, h2] at h1; cases h1
    have na2 : a ≠ kt := fun z => by rw [z, h5] at h1; cases h1
    walk_at "w"
    refine w_k_rows T hW ?_
    refine ⟨.inl ⟨rfl, _, SqL.of h2⟩, ?_⟩
    walk_at "w"
    refine w_app h2 (by rw [List.length_map]; omega) ?_
    walk_at "w"
    have h1' : upd H kr (.lst (rs.map V.ref ++ [.ref p])) a = some (.ins (He.ga K "Keeper") dx (keeperF kr kt)) := by rw [upd_ne na1]; exact h1
    have h5' : upd H kr (.lst (rs.map V.ref ++ [.ref p])) kt = some (.lst (s'.map txV)) := by rw [upd_ne hW.ne.symm]; exact h5
    refine ⟨a, _, dx, _, _, rfl, h1', T.c_Keeper, T.n_Keeper_kept_texts, (lk_past (by decide +kernel)).trans lk_here, ?_⟩
    refine ⟨.inl ⟨rfl, _, SqL.of h5'⟩, ?_⟩
    walk_at "w"
    refine w_app h5' (by rw [List.length_map]; omega) ?_
    walk_at "w"
    have W2 := Kee.store (dx := dx) hW h2 hp n1 n2 n3 hk l8
    have o2 : Off2 kr kt H (upd (upd H kr (.lst (rs.map V.ref ++ [.ref p]))) kt (.lst (s'.map txV ++ [txV k]))) := Off2.trans off2_l off2_r
    generalize upd (upd H kr (.lst (rs.map V.ref ++ [.ref p]))) kt (.lst (s'.map txV ++ [txV k])) = H2 at W2 o2 ⊢
    refine w_k_rows T W2 ?_
    obtain ⟨rs2, g2, g3, _⟩ := W2.rows
    walk_at "w"
    refine ⟨_, _, rfl, .inl (SqL.of g2), ?_⟩
    rw [List.length_map, g3]
    walk_at "w"
    rw [show (((s' ++ [k]).length : Nat) : Int) - 1 = ((s'.length : Nat) : Int) by rw [List.length_append]; show ((s'.length + 1 : Nat) : Int) - 1 = _; omega]
    exact hQ H2 o2 W2
end

def sp_Keeper_answer_rule (K : PySem.W.Frag) : Sp := fun vs H Q _ => ∃ (a kr kt rx p : Addr) (s : List KeptC) (t : List Nat), vs = [.ref a, .ref p] ∧ Kee K H a kr kt rx s ∧ SqL K H p (iv t) ∧ AnsP K H a kr kt rx s (.rule t) Q
section
variable {P : Program} {w : World} {K : PySem.W.Frag} {mg : Str → Option Value} {base : Heap}
theorem sc_Keeper_answer_rule : FnScope ["self", "data", "rule"] ["self", "data"] (defScope s_Keeper_answer_rule) := ⟨rfl, rfl, rfl, by decide +kernel, rfl, by decide +kernel, by decide +kernel⟩
theorem ok_Keeper_answer_rule (T : Tx K mg) : MetOk P w K mg base CX0 10 "Keeper" "answer_rule" ["self", "data"] (sp_Keeper_answer_rule K) := by
  obtain ⟨fd, F⟩ := T.f_Keeper_answer_rule
  refine ⟨⟨fd, F.ok sc_Keeper_answer_rule (fun vs H Q E h => ?_) (fun cdv A outer s H vs Q E hr h => ?_), F.bindsN fun _ _ _ _ _ _ us hl => match us, hl with | [_, _], _ => rfl⟩, T.c_Keeper, T.m_Keeper_answer_rule⟩
  · obtain ⟨a, kr, kt, rx, p, s, t, rfl, _⟩ := h
    rfl
  · refine ⟨_, PSs.nox (pss_cons (ps_try_only (tb := fun W => tAsg (tCallS (sp_read_rule K) (WE W) (tCons (tVar 1) tNil)) (gName 2)) (ts := fun _ _ _ => tRet (tLst (tCons (tC (.int (-1))) tNil))) (Wout := fun _ _ _ _ => False) rfl rfl ⟨by rfl, by decide, Or.inl T.g_NoRule⟩ takes0 (fun W pn xe tk _ => pss_one (ps_set (i := 2) sc_Keeper_answer_rule.nd rfl (Or.inl rfl) (pe_fnS (ok_read_rule T) (hr.mono (by decide)) (by rfl) (fun σ => passAt tk σ) (by exact (pa_cons (pv 1) pa_nil))))) (fun _ _ _ _ _ _ _ => pss_one (ps_ret (pe_lst (pa_cons (pe_gi T.i_NOT_GOOD (by rfl)) pa_nil)))))
      (pss_cons (ps_if (pt_val (pe_me0 (ok_Keeper_is_full T) (pv 0) (hr.mono (by decide)) pass0)) (pss_one (ps_ret (pe_lst (pa_cons (pe_gi T.i_FULL (by rfl)) pa_nil)))) pss_nil)
      (pss_one (ps_ret (pe_lst (pa_cons (pe_me (ok_Keeper_store T) (pv 0) (hr.mono (by decide)) pass0 (pa_cons (pe_fn (ok_days_of T) (hr.mono (by decide)) (by rfl) pass0 (pa_cons (pv 2) pa_nil)) (pa_cons (pe_fn (ok_rule_text T) (hr.mono (by decide)) (by rfl) pass0 (pa_cons (pv 2) pa_nil)) pa_nil))) pa_nil)))))), ?_⟩
    clear F hr
    obtain ⟨a, kr, kt, rx, p, s', t, rfl, hW, hS, hQ⟩ := h
    have bad : (t.length ≤ 200 → read t = none) → step s' (.rule t) = (s', [-1]) := fun hb => by
      show (if 200 < t.length then _ else _) = _
      by_cases c : 200 < t.length
      · rw [if_pos c]
      · rw [if_neg c, hb (by omega)]
    have nogood : (t.length ≤ 200 → read t = none) → ∀ (D : Ends), D.rt = Q → ∀ H1, Same H H1 → NR K (WE (wOnly K (.ref (He.ga K "NoRule")) (fun _ _ _ => tRet (tLst (tCons (tC (.int (-1))) tNil))) (fun _ _ _ _ => False) D) [some (.ref a), some (.ref p), none]) H1 := fun hb D hD H1 s1 => by
      obtain ⟨nx, rt, bk, ct⟩ := D
      have hD : rt = Q := hD
      subst hD
      refine ⟨true, T.e_NoRule, fun _ q hq => ?_, fun z => nomatch z⟩
      walk_at "w"
      intro u hu
      have hu0 := Same.free s1 hu
      refine hQ u _ hu0 (Same.off2 (same_mut s1 hu0)) ?_ ?_
      · rw [bad hb]
        exact hW.same (same_mut s1 hu0)
      · rw [bad hb]
        exact upd_same
    walk_at "w"
    refine w_cls ?_
    walk_at "w"
    refine ⟨p, t.map fun n : Nat => (n : Int), rfl, by rw [← iv_ints]; exact hS, fun t' r h200 ht hr p1 H1 hp1 s1 hR => ?_, fun hb => ?_⟩
    · rw [List.length_map] at h200
      obtain ⟨et, _⟩ := signs_mapM ht
      have ett : t' = t := by
        have inj : ∀ {l m : List Nat}, l.map (fun n : Nat => (n : Int)) = m.map (fun n : Nat => (n : Int)) → l = m := fun h => (List.map_inj_right fun a b h => Int.natCast_inj.mp h).mp h
        exact (inj et).symm
      subst ett
      have ok := read_ok h200 hr
      have dok := days_ok ok
      have est : step s' (.rule t') = Cl01.put s' ⟨some r, days r⟩ := by
        show (if 200 < t'.length then _ else _) = _
        rw [if_neg (by omega), hr]
      walk_at "w"
      have W1 := hW.same s1
      refine w_kd W1 (lk_keeper (by decide +kernel) (by decide +kernel) _ _) ?_
      walk_at "w"
      refine ⟨a, kr, kt, rx, s', rfl, W1, ?_⟩
      walk_at "w"
      refine w_cases (fun c => ?_) (fun c => ?_)
      · walk_at "w"
        intro u hu
        have hu0 := Same.free s1 hu
        have s2 := same_mut s1 hu0 (o := .lst [.int (-5)])
        refine hQ u _ hu0 (Same.off2 s2) ?_ ?_
        · rw [est, put_eq, if_pos c]
          exact hW.same s2
        · rw [est, put_eq, if_pos c]
          exact upd_same
      · walk_at "w"
        refine w_kd W1 (lk_keeper (by decide +kernel) (by decide +kernel) _ _) ?_
        walk_at "w"
        refine ⟨p1, r, rfl, hR, ok, fun pd H2 hpd s2 dd => ?_⟩
        walk_at "w"
        refine ⟨p1, r, rfl, hR.same s2, ok, fun H3 s3 => ?_⟩
        walk_at "w"
        have W3 := (W1.same s2).same s3
        obtain ⟨m1, m2, m3, _⟩ := (W1).nr hpd
        refine ⟨a, kr, kt, rx, pd, s', ⟨some r, days r⟩, rfl, W3, s3 _ _ dd, m1, m2, m3, ⟨dok.1, dok.2, fun x hx => ?_⟩, by omega, fun H4 o4 W4 => ?_⟩
        · cases hx
          exact text_len ok
        walk_at "w"
        intro u hu
        have s13 := Same.trans s1 (Same.trans s2 s3)
        have hu3 : H3 u = none := Off2.free W3 W4 o4 hu
        have hu0 := Same.free s13 hu3
        refine hQ u _ hu0 (Off2.trans (Same.off2 s13) (Off2.trans o4 (Same.off2 (same_upd hu)))) ?_ ?_
        · rw [est, put_eq, if_neg c]
          exact W4.same (same_upd hu)
        · rw [est, put_eq, if_neg c]
          exact upd_same
    · refine nogood (fun hl => ?_) _ rfl
      cases hr : read t with
      | none => rfl
      | some r =>
        have := hb t (by rw [List.length_map]; exact hl) (signs_good (read_good hr))
        rw [hr] at this
        cases this
end

end CA
end file_CaM11
section file_CaM12
set_option maxRecDepth 100000
set_option maxHeartbeats 4000000
namespace CA
open PySem PySem.Spec PyProof.Rows L2
open SX (S)
open Cl01 (monthDays monthStart isDate dayOf yearOf monthOf domOf weekday week weekOf)

open Cl01 (Rule days text step read nums)
theorem nums_V (l : List Nat) : (nums l).map V.int = iv l := by
  rw [iv_ints]
  rfl
theorem atI_map {α : Type} {l : List α} {f : α → V} {j : Nat} {x : α} (h : l[j]? = some x) : atI (l.map f) (j : Int) = some (f x) := atI_nat (by rw [List.getElem?_map, h]; rfl)
def sp_Keeper_answer_text (K : PySem.W.Frag) : Sp := fun vs H Q _ => ∃ (a kr kt rx : Addr) (s : List KeptC) (k : Nat) (x : KeptC), vs = [.ref a, .int (k : Int)] ∧ Kee K H a kr kt rx s ∧ s[k]? = some x ∧
  ∀ q H', H q = none → Same H H' → H' q = some (.lst ((match x.rule with
    | none => [-4]
    | some r => nums ((text r).length :: text r)).map V.int)) → Q (.ref q) H' 
section
variable {P : Program} {w : World} {K : PySem.W.Frag} {mg : Str → Option Value} {base : Heap}
theorem sc_Keeper_answer_text : FnScope ["self", "kept", "text", "sign"] ["self", "kept"] (defScope s_Keeper_answer_text) := ⟨rfl, rfl, rfl, by decide +kernel, rfl, by decide +kernel, by decide +kernel⟩
theorem ok_Keeper_answer_text (T : Tx K mg) : MetOk P w K mg base CX0 1 "Keeper" "answer_text" ["self", "kept"] (sp_Keeper_answer_text K) := by
  obtain ⟨fd, F⟩ := T.f_Keeper_answer_text
  refine ⟨⟨fd, F.ok sc_Keeper_answer_text (fun vs H Q E h => ?_) (fun cdv A outer s H vs Q E hr h => ?_), F.bindsN fun _ _ _ _ _ _ us hl => match us, hl with | [_, _], _ => rfl⟩, T.c_Keeper, T.m_Keeper_answer_text⟩
  · obtain ⟨a, kr, kt, rx, s, k, x, rfl, _⟩ := h
    rfl
  · refine ⟨_, PSs.nox (pss_cons (ps_set (i := 2) sc_Keeper_answer_text.nd rfl (by first | exact Or.inl rfl | exact Or.inr rfl) (pe_ix (ix_listK (K := K) rfl) (pe_fldK (K := K) rfl (pv 0) rfl) (pv 1) (fun _ _ => rfl)))
      (pss_cons (ps_if (pt_cmpR op_isN1 (pv 2) pe_non (nomark _)) (pss_one (ps_ret (pe_lst (pa_cons (pe_gi T.i_NOT_A_RULE (by rfl)) pa_nil)))) pss_nil)
      (pss_one (ps_ret (pe_op op_cat (pe_lst (pa_cons (pe_callB call_len (by rfl) T.b_len (by decide +kernel) (pa_cons (pv 2) pa_nil)) pa_nil)) (pe_lc (own := [("sign", 3)]) (g := gName 3) (tt := tYes) rfl sc_Keeper_answer_text.nd (pi_str (pv 2)) (blkOk_by (N := ["self", "kept", "text", "sign"]) (sc := defScope s_Keeper_answer_text) (by decide +kernel)) (fun _ _ _ _ _ => pg_name (i := 3) sc_Keeper_answer_text.nd rfl (Or.inl rfl)) (fun _ _ _ _ _ => pts_nil) (fun _ _ _ _ _ => (pe_callB call_ord (by rfl) T.b_ord (by decide +kernel) (pa_cons (pv 3) pa_nil))))))))), ?_⟩
    clear F hr
    obtain ⟨a, kr, kt, rx, s', k, x, rfl, hW, hk, hQ⟩ := h
    have big : (16000000 : Nat) ≤ sizeLine := by decide
    walk_at "w"
    refine w_k_texts T hW ?_
    walk_at "w"
    refine w_ixl (SqL.of hW.texts) (atI_map hk) ?_
    walk_at "w"
    have ok := hW.ok x (List.mem_of_getElem? hk)
    obtain ⟨ru, dy⟩ := x
    cases ru with
    | none =>
      refine ⟨rfl, _, rfl, ?_⟩
      refine w_yes rfl ?_
      walk_at "w"
      intro q hq
      exact hQ q _ hq (same_upd hq) upd_same
    | some r =>
      have hl : (text r).length ≤ 1000000 := ok.2.2 r rfl
      refine ⟨rfl, _, rfl, ?_⟩
      refine w_no (fun z => by cases z) ?_
      walk_at "w"
      refine ⟨_, _, rfl, ⟨by rw [SX.S_len]; omega, rfl⟩, ?_⟩
      rw [SX.S_len]
      walk_at "w"
      intro p hp
      have s1 : Same H (upd H p (.lst [.int ((text r).length : Nat)])) := same_upd hp
      have d1 : upd H p (.lst [.int ((text r).length : Nat)]) p = some (.lst (iv [(text r).length])) := upd_same
      generalize upd H p (.lst [.int ((text r).length : Nat)]) = H1 at s1 d1 ⊢
      walk_at "w"
      refine ⟨_, rfl, fun D hD => lc_extS (fun _ => true) (fun v => match v with | .str z => .int ((z.cps.getD 0 0 : Nat) : Int) | _ => .non) hD (by show (S (text r)).length ≤ _; rw [SX.S_len]; omega) (fun c hc => ?_) fun H2 s2 d2 => ?_⟩
      · intro H' F G s hF hG
        walk_at "w"
        refine ⟨rfl, ?_⟩
        walk_at "w"
        refine ⟨_, rfl, rfl, ?_⟩
        exact hF rfl _ (Same.refl _)
      · have e2 : (((S (text r)).cps.toList.map fun c => V.str ⟨#[c]⟩).filter fun _ => true).map (fun v => match v with | .str z => .int ((z.cps.getD 0 0 : Nat) : Int) | _ => .non) = iv (text r) := by
          rw [List.filter_eq_self.mpr fun _ _ => rfl, List.map_map]
          rfl
        rw [e2] at d2
        refine ⟨p, D, _, _, rfl, rfl, s2 _ _ d1, d2, by rw [iv_len, iv_len]; show 1 + _ ≤ _; omega, fun q hq => ?_⟩
        have s3 := Same.trans s1 s2
        refine hQ q _ (Same.free s3 hq) (same_mut s3 (Same.free s3 hq)) ?_
        rw [upd_same, ← iv_append]
        exact congrArg (fun l => some (HO.lst l)) (nums_V _).symm
end

def sp_Keeper_row_of (K : PySem.W.Frag) : Sp := fun vs H Q _ => ∃ (a kr kt rx : Addr) (s : List KeptC) (k : Nat) (x : KeptC), vs = [.ref a, .int (k : Int)] ∧ Kee K H a kr kt rx s ∧ s[k]? = some x ∧ ∀ r, H r = some (.lst (iv x.days)) → Q (.ref r) H
section
variable {P : Program} {w : World} {K : PySem.W.Frag} {mg : Str → Option Value} {base : Heap}
theorem sc_Keeper_row_of : FnScope ["self", "kept"] ["self", "kept"] (defScope s_Keeper_row_of) := ⟨rfl, rfl, rfl, by decide +kernel, rfl, by decide +kernel, by decide +kernel⟩
theorem ok_Keeper_row_of (T : Tx K mg) : MetOk P w K mg base CX0 1 "Keeper" "row_of" ["self", "kept"] (sp_Keeper_row_of K) := by
  obtain ⟨fd, F⟩ := T.f_Keeper_row_of
  refine ⟨⟨fd, F.ok sc_Keeper_row_of (fun vs H Q E h => ?_) (fun cdv A outer s H vs Q E hr h => ?_), F.bindsN fun _ _ _ _ _ _ us hl => match us, hl with | [_, _], _ => rfl⟩, T.c_Keeper, T.m_Keeper_row_of⟩
  · obtain ⟨a, kr, kt, rx, s, k, x, rfl, _⟩ := h
    rfl
  · refine ⟨_, PSs.nox (pss_one (ps_ret (pe_ix (ix_listK (K := K) rfl) (pe_fldK (K := K) rfl (pv 0) rfl) (pv 1) (fun _ _ => rfl)))), ?_⟩
    clear F hr
    obtain ⟨a, kr, kt, rx, s', k, x, rfl, hW, hk, hQ⟩ := h
    obtain ⟨dx, rs, r, _, h2, hr, hd, _⟩ := hW.row hk
    walk_at "w"
    refine w_k_rows T hW ?_
    walk_at "w"
    refine w_ixl (SqL.of h2) (atI_map hr) ?_
    exact hQ r hd
end

def sp_Keeper_answer_new (K : PySem.W.Frag) : Sp := fun vs H Q _ => ∃ (a kr kt rx p : Addr) (s : List KeptC) (ds : List Nat), vs = [.ref a, .ref p] ∧ Kee K H a kr kt rx s ∧ H p = some (.lst (iv ds)) ∧ p ≠ kr ∧ p ≠ kt ∧ p ≠ rx ∧ Up ds ∧ (∀ x ∈ ds, x < 36525) ∧
  ∀ q H', H q = none → Off2 kr kt H H' → Kee K H' a kr kt rx (Cl01.put s ⟨none, ds⟩).1 → H' q = some (.lst ((Cl01.put s ⟨none, ds⟩).2.map V.int)) → Q (.ref q) H' 
section
variable {P : Program} {w : World} {K : PySem.W.Frag} {mg : Str → Option Value} {base : Heap}
theorem sc_Keeper_answer_new : FnScope ["self", "row"] ["self", "row"] (defScope s_Keeper_answer_new) := ⟨rfl, rfl, rfl, by decide +kernel, rfl, by decide +kernel, by decide +kernel⟩
theorem ok_Keeper_answer_new (T : Tx K mg) : MetOk P w K mg base CX0 2 "Keeper" "answer_new" ["self", "row"] (sp_Keeper_answer_new K) := by
  obtain ⟨fd, F⟩ := T.f_Keeper_answer_new
  refine ⟨⟨fd, F.ok sc_Keeper_answer_new (fun vs H Q E h => ?_) (fun cdv A outer s H vs Q E hr h => ?_), F.bindsN fun _ _ _ _ _ _ us hl => match us, hl with | [_, _], _ => rfl⟩, T.c_Keeper, T.m_Keeper_answer_new⟩
  · obtain ⟨a, kr, kt, rx, p, s, ds, rfl, _⟩ := h
    rfl
  · refine ⟨_, PSs.nox (pss_cons (ps_if (pt_val (pe_me0 (ok_Keeper_is_full T) (pv 0) (hr.mono (by decide)) pass0)) (pss_one (ps_ret (pe_lst (pa_cons (pe_gi T.i_FULL (by rfl)) pa_nil)))) pss_nil)
      (pss_one (ps_ret (pe_lst (pa_cons (pe_me (ok_Keeper_store T) (pv 0) (hr.mono (by decide)) pass0 (pa_cons (pv 1) (pa_cons pe_non pa_nil))) pa_nil))))), ?_⟩
    clear F hr
    obtain ⟨a, kr, kt, rx, p, s', ds, rfl, hW, hp, n1, n2, n3, u1, u2, hQ⟩ := h
    walk_at "w"
    refine w_kd hW (lk_keeper (by decide +kernel) (by decide +kernel) _ _) ?_
    walk_at "w"
    refine ⟨a, kr, kt, rx, s', rfl, hW, ?_⟩
    walk_at "w"
    refine w_cases (fun c => ?_) (fun c => ?_)
    · walk_at "w"
      intro u hu
      refine hQ u _ hu (Same.off2 (same_upd hu)) ?_ ?_
      · rw [put_eq, if_pos c]
        exact hW.same (same_upd hu)
      · rw [put_eq, if_pos c]
        exact upd_same
    · walk_at "w"
      refine w_kd hW (lk_keeper (by decide +kernel) (by decide +kernel) _ _) ?_
      walk_at "w"
      refine ⟨a, kr, kt, rx, p, s', ⟨none, ds⟩, rfl, hW, hp, n1, n2, n3, ⟨u1, u2, fun r hr => by cases hr⟩, by omega, fun H4 o4 W4 => ?_⟩
      walk_at "w"
      intro u hu
      have hu0 : H u = none := Off2.free hW W4 o4 hu
      refine hQ u _ hu0 (Off2.trans o4 (Same.off2 (same_upd hu))) ?_ ?_
      · rw [put_eq, if_neg c]
        exact W4.same (same_upd hu)
      · rw [put_eq, if_neg c]
        exact upd_same
end

def sp_Keeper_answer_both (K : PySem.W.Frag) : Sp := fun vs H Q _ => ∃ (a kr kt rx : Addr) (s : List KeptC) (k t : Nat) (x y : KeptC), vs = [.ref a, .int (k : Int), .int (t : Int)] ∧ Kee K H a kr kt rx s ∧ s[k]? = some x ∧ s[t]? = some y ∧ AnsP K H a kr kt rx s (.both k t) Q
section
variable {P : Program} {w : World} {K : PySem.W.Frag} {mg : Str → Option Value} {base : Heap}
theorem sc_Keeper_answer_both : FnScope ["self", "kept", "other"] ["self", "kept", "other"] (defScope s_Keeper_answer_both) := ⟨rfl, rfl, rfl, by decide +kernel, rfl, by decide +kernel, by decide +kernel⟩
theorem ok_Keeper_answer_both (T : Tx K mg) : MetOk P w K mg base CX0 3 "Keeper" "answer_both" ["self", "kept", "other"] (sp_Keeper_answer_both K) := by
  obtain ⟨fd, F⟩ := T.f_Keeper_answer_both
  refine ⟨⟨fd, F.ok sc_Keeper_answer_both (fun vs H Q E h => ?_) (fun cdv A outer s H vs Q E hr h => ?_), F.bindsN fun _ _ _ _ _ _ us hl => match us, hl with | [_, _, _], _ => rfl⟩, T.c_Keeper, T.m_Keeper_answer_both⟩
  · obtain ⟨a, kr, kt, rx, s, k, t, x, y, rfl, _⟩ := h
    rfl
  · refine ⟨_, PSs.nox (pss_one (ps_ret (pe_me (ok_Keeper_answer_new T) (pv 0) (hr.mono (by decide)) pass0 (pa_cons (pe_fn (ok_both_of T) (hr.mono (by decide)) (by rfl) pass0 (pa_cons (pe_ix (ix_listK (K := K) rfl) (pe_fldK (K := K) rfl (pv 0) rfl) (pv 1) (fun _ _ => rfl)) (pa_cons (pe_ix (ix_listK (K := K) rfl) (pe_fldK (K := K) rfl (pv 0) rfl) (pv 2) (fun _ _ => rfl)) pa_nil))) pa_nil)))), ?_⟩
    clear F hr
    obtain ⟨a, kr, kt, rx, s', k, t, x, y, rfl, hW, hk, ht, hQ⟩ := h
    obtain ⟨dx, rs, r, _, h2, hr, hd, okx⟩ := hW.row hk
    obtain ⟨dx', rs', r2, _, h2', hr2, hd2, oky⟩ := hW.row ht
    have lx := okx.len
    have ly := oky.len
    have est : step s' (.both k t) = Cl01.put s' ⟨none, Cl01.of Cl01.meet x.days y.days⟩ := by
      show Cl01.two? s' k t _ = _
      unfold Cl01.two?
      rw [hk, ht]
    walk_at "w"
    refine w_kd hW (lk_keeper (by decide +kernel) (by decide +kernel) _ _) ?_
    walk_at "w"
    refine w_k_rows T hW ?_
    walk_at "w"
    refine w_ixl (SqL.of h2) (atI_map hr) ?_
    walk_at "w"
    refine w_k_rows T hW ?_
    walk_at "w"
    refine w_ixl (SqL.of h2') (atI_map hr2) ?_
    walk_at "w"
    refine ⟨r, r2, x.days, y.days, rfl, SqL.of hd, SqL.of hd2, by omega, by omega, fun p H1 hp s1 d1 => ?_⟩
    have W1 := hW.same s1
    obtain ⟨m1, m2, m3, _⟩ := hW.nr hp
    have d1 : H1 p = some (.lst (iv (Cl01.of Cl01.meet x.days y.days))) := d1.trans (congrArg (fun l => some (HO.lst (iv l))) ((of_meet okx.1 oky.1).symm))
    have ups := up_meet okx.1 oky.1 okx.2.1
    walk_at "w"
    refine ⟨a, kr, kt, rx, p, s', _, rfl, W1, d1, m1, m2, m3, ups.1, ups.2, fun q H2 hq o2 W2 d2 => ?_⟩
    refine hQ q H2 (Same.free s1 hq) (Off2.trans (Same.off2 s1) o2) ?_ ?_
    · rw [est]
      exact W2
    · rw [est]
      exact d2
end

def sp_Keeper_answer_either (K : PySem.W.Frag) : Sp := fun vs H Q _ => ∃ (a kr kt rx : Addr) (s : List KeptC) (k t : Nat) (x y : KeptC), vs = [.ref a, .int (k : Int), .int (t : Int)] ∧ Kee K H a kr kt rx s ∧ s[k]? = some x ∧ s[t]? = some y ∧ AnsP K H a kr kt rx s (.either k t) Q
section
variable {P : Program} {w : World} {K : PySem.W.Frag} {mg : Str → Option Value} {base : Heap}
theorem sc_Keeper_answer_either : FnScope ["self", "kept", "other"] ["self", "kept", "other"] (defScope s_Keeper_answer_either) := ⟨rfl, rfl, rfl, by decide +kernel, rfl, by decide +kernel, by decide +kernel⟩
theorem ok_Keeper_answer_either (T : Tx K mg) : MetOk P w K mg base CX0 4 "Keeper" "answer_either" ["self", "kept", "other"] (sp_Keeper_answer_either K) := by
  obtain ⟨fd, F⟩ := T.f_Keeper_answer_either
  refine ⟨⟨fd, F.ok sc_Keeper_answer_either (fun vs H Q E h => ?_) (fun cdv A outer s H vs Q E hr h => ?_), F.bindsN fun _ _ _ _ _ _ us hl => match us, hl with | [_, _, _], _ => rfl⟩, T.c_Keeper, T.m_Keeper_answer_either⟩
  · obtain ⟨a, kr, kt, rx, s, k, t, x, y, rfl, _⟩ := h
    rfl
  · refine ⟨_, PSs.nox (pss_one (ps_ret (pe_me (ok_Keeper_answer_new T) (pv 0) (hr.mono (by decide)) pass0 (pa_cons (pe_fn (ok_either_of T) (hr.mono (by decide)) (by rfl) pass0 (pa_cons (pe_ix (ix_listK (K := K) rfl) (pe_fldK (K := K) rfl (pv 0) rfl) (pv 1) (fun _ _ => rfl)) (pa_cons (pe_ix (ix_listK (K := K) rfl) (pe_fldK (K := K) rfl (pv 0) rfl) (pv 2) (fun _ _ => rfl)) pa_nil))) pa_nil)))), ?_⟩
    clear F hr
    obtain ⟨a, kr, kt, rx, s', k, t, x, y, rfl, hW, hk, ht, hQ⟩ := h
    obtain ⟨dx, rs, r, _, h2, hr, hd, okx⟩ := hW.row hk
    obtain ⟨dx', rs', r2, _, h2', hr2, hd2, oky⟩ := hW.row ht
    have lx := okx.len
    have ly := oky.len
    have est : step s' (.either k t) = Cl01.put s' ⟨none, Cl01.of Cl01.join x.days y.days⟩ := by
      show Cl01.two? s' k t _ = _
      unfold Cl01.two?
      rw [hk, ht]
    walk_at "w"
    refine w_kd hW (lk_keeper (by decide +kernel) (by decide +kernel) _ _) ?_
    walk_at "w"
    refine w_k_rows T hW ?_
    walk_at "w"
    refine w_ixl (SqL.of h2) (atI_map hr) ?_
    walk_at "w"
    refine w_k_rows T hW ?_
    walk_at "w"
    refine w_ixl (SqL.of h2') (atI_map hr2) ?_
    walk_at "w"
    refine ⟨r, r2, x.days, y.days, rfl, hd, SqL.of hd2, by omega, by omega, okx.1, oky.1, fun p H1 hp s1 d1 => ?_⟩
    have W1 := hW.same s1
    obtain ⟨m1, m2, m3, _⟩ := hW.nr hp
    have d1 : H1 p = some (.lst (iv (Cl01.of Cl01.join x.days y.days))) := d1.trans (congrArg (fun l => some (HO.lst (iv l))) (rfl))
    have ups := up_joinB okx.1 oky.1 okx.2.1 oky.2.1
    walk_at "w"
    refine ⟨a, kr, kt, rx, p, s', _, rfl, W1, d1, m1, m2, m3, ups.1, ups.2, fun q H2 hq o2 W2 d2 => ?_⟩
    refine hQ q H2 (Same.free s1 hq) (Off2.trans (Same.off2 s1) o2) ?_ ?_
    · rw [est]
      exact W2
    · rw [est]
      exact d2
end

def sp_Keeper_answer_less (K : PySem.W.Frag) : Sp := fun vs H Q _ => ∃ (a kr kt rx : Addr) (s : List KeptC) (k t : Nat) (x y : KeptC), vs = [.ref a, .int (k : Int), .int (t : Int)] ∧ Kee K H a kr kt rx s ∧ s[k]? = some x ∧ s[t]? = some y ∧ AnsP K H a kr kt rx s (.less k t) Q
section
variable {P : Program} {w : World} {K : PySem.W.Frag} {mg : Str → Option Value} {base : Heap}
theorem sc_Keeper_answer_less : FnScope ["self", "kept", "other"] ["self", "kept", "other"] (defScope s_Keeper_answer_less) := ⟨rfl, rfl, rfl, by decide +kernel, rfl, by decide +kernel, by decide +kernel⟩
theorem ok_Keeper_answer_less (T : Tx K mg) : MetOk P w K mg base CX0 3 "Keeper" "answer_less" ["self", "kept", "other"] (sp_Keeper_answer_less K) := by
  obtain ⟨fd, F⟩ := T.f_Keeper_answer_less
  refine ⟨⟨fd, F.ok sc_Keeper_answer_less (fun vs H Q E h => ?_) (fun cdv A outer s H vs Q E hr h => ?_), F.bindsN fun _ _ _ _ _ _ us hl => match us, hl with | [_, _, _], _ => rfl⟩, T.c_Keeper, T.m_Keeper_answer_less⟩
  · obtain ⟨a, kr, kt, rx, s, k, t, x, y, rfl, _⟩ := h
    rfl
  · refine ⟨_, PSs.nox (pss_one (ps_ret (pe_me (ok_Keeper_answer_new T) (pv 0) (hr.mono (by decide)) pass0 (pa_cons (pe_fn (ok_less_of T) (hr.mono (by decide)) (by rfl) pass0 (pa_cons (pe_ix (ix_listK (K := K) rfl) (pe_fldK (K := K) rfl (pv 0) rfl) (pv 1) (fun _ _ => rfl)) (pa_cons (pe_ix (ix_listK (K := K) rfl) (pe_fldK (K := K) rfl (pv 0) rfl) (pv 2) (fun _ _ => rfl)) pa_nil))) pa_nil)))), ?_⟩
    clear F hr
    obtain ⟨a, kr, kt, rx, s', k, t, x, y, rfl, hW, hk, ht, hQ⟩ := h
    obtain ⟨dx, rs, r, _, h2, hr, hd, okx⟩ := hW.row hk
    obtain ⟨dx', rs', r2, _, h2', hr2, hd2, oky⟩ := hW.row ht
    have lx := okx.len
    have ly := oky.len
    have est : step s' (.less k t) = Cl01.put s' ⟨none, Cl01.of Cl01.minus x.days y.days⟩ := by
      show Cl01.two? s' k t _ = _
      unfold Cl01.two?
      rw [hk, ht]
    walk_at "w"
    refine w_kd hW (lk_keeper (by decide +kernel) (by decide +kernel) _ _) ?_
    walk_at "w"
    refine w_k_rows T hW ?_
    walk_at "w"
    refine w_ixl (SqL.of h2) (atI_map hr) ?_
    walk_at "w"
    refine w_k_rows T hW ?_
    walk_at "w"
    refine w_ixl (SqL.of h2') (atI_map hr2) ?_
    walk_at "w"
    refine ⟨r, r2, x.days, y.days, rfl, SqL.of hd, SqL.of hd2, by omega, by omega, fun p H1 hp s1 d1 => ?_⟩
    have W1 := hW.same s1
    obtain ⟨m1, m2, m3, _⟩ := hW.nr hp
    have d1 : H1 p = some (.lst (iv (Cl01.of Cl01.minus x.days y.days))) := d1.trans (congrArg (fun l => some (HO.lst (iv l))) ((of_minus okx.1 oky.1).symm))
    have ups := up_minus okx.1 oky.1 okx.2.1
    walk_at "w"
    refine ⟨a, kr, kt, rx, p, s', _, rfl, W1, d1, m1, m2, m3, ups.1, ups.2, fun q H2 hq o2 W2 d2 => ?_⟩
    refine hQ q H2 (Same.free s1 hq) (Off2.trans (Same.off2 s1) o2) ?_ ?_
    · rw [est]
      exact W2
    · rw [est]
      exact d2
end

def sp_answer_date (K : PySem.W.Frag) : Sp := fun vs H Q _ => ∃ n : Nat, vs = [.int (n : Int)] ∧ ∀ q H', H q = none → Same H H' → H' q = some (.lst ((if Cl01.DAYS ≤ n then [-1] else nums [2000 + yearOf n, monthOf n, domOf n, weekday n + 1] ++ [2000 + (weekOf n).1, ((weekOf n).2 : Int)]).map V.int)) → Q (.ref q) H' 
section
variable {P : Program} {w : World} {K : PySem.W.Frag} {mg : Str → Option Value} {base : Heap}
theorem sc_answer_date : FnScope ["day"] ["day"] (defScope s_answer_date) := ⟨rfl, rfl, rfl, by decide +kernel, rfl, by decide +kernel, by decide +kernel⟩
theorem ok_answer_date (T : Tx K mg) : DefOk P w K mg base CX0 5 "answer_date" ["day"] (sp_answer_date K) := by
  obtain ⟨fd, F⟩ := T.f_answer_date
  refine ⟨⟨fd, F.ok sc_answer_date (fun vs H Q E h => ?_) (fun cdv A outer s H vs Q E hr h => ?_), F.bindsN fun _ _ _ _ _ _ us hl => match us, hl with | [_], _ => rfl⟩, F.kp, T.g_answer_date⟩
  · obtain ⟨n, rfl, _⟩ := h
    rfl
  · refine ⟨_, PSs.nox (pss_cons (ps_if (pt_cmpR op_gt (pv 0) (pe_gi T.i_LAST_DAY (by rfl)) (nomark _)) (pss_one (ps_ret (pe_lst (pa_cons (pe_gi T.i_NOT_GOOD (by rfl)) pa_nil)))) pss_nil)
      (pss_one (ps_ret (pe_op op_cat (pe_op op_cat (pe_callTy call_list_of (by rfl) T.b_list (by decide +kernel) (pa_cons (pe_fn (ok_date_of T) (hr.mono (by decide)) (by rfl) pass0 (pa_cons (pv 0) pa_nil)) pa_nil)) (pe_lst (pa_cons (pe_op op_add (pe_fn (ok_weekday_of T) (hr.mono (by decide)) (by rfl) pass0 (pa_cons (pv 0) pa_nil)) pe_int) pa_nil))) (pe_callTy call_list_of (by rfl) T.b_list (by decide +kernel) (pa_cons (pe_fn (ok_week_of T) (hr.mono (by decide)) (by rfl) pass0 (pa_cons (pv 0) pa_nil)) pa_nil)))))), ?_⟩
    clear F hr
    obtain ⟨n, rfl, hQ⟩ := h
    have big : (1000 : Nat) ≤ sizeLine := by decide
    have eD : Cl01.DAYS = 36525 := rfl
    walk_at "w"
    refine w_cases (fun c => ?_) (fun c => ?_)
    · walk_at "w"
      intro u hu
      rw [if_pos (by omega)] at hQ
      exact hQ u _ hu (same_upd hu) upd_same
    rw [if_neg (by omega)] at hQ
    walk_at "w"
    refine ⟨n, rfl, by omega, fun p hp => ?_⟩
    walk_at "w"
    have s1 : Same H (upd H p (.tup [.int (2000 + (yearOf n : Nat)), .int (monthOf n : Nat), .int (domOf n : Nat)])) := same_upd hp
    have d1 : upd H p (.tup [.int (2000 + (yearOf n : Nat)), .int (monthOf n : Nat), .int (domOf n : Nat)]) p = _ := upd_same
    generalize upd H p (.tup [.int (2000 + (yearOf n : Nat)), .int (monthOf n : Nat), .int (domOf n : Nat)]) = H1 at s1 d1 ⊢
    refine ⟨p, _, rfl, .inr (SqT.of d1), fun l1 hl1 => ?_⟩
    walk_at "w"
    have s2 := Same.trans s1 (same_upd (o := .lst [.int (2000 + (yearOf n : Nat)), .int (monthOf n : Nat), .int (domOf n : Nat)]) hl1)
    have d2 : upd H1 l1 (.lst [.int (2000 + (yearOf n : Nat)), .int (monthOf n : Nat), .int (domOf n : Nat)]) l1 = _ := upd_same
    generalize upd H1 l1 (.lst [.int (2000 + (yearOf n : Nat)), .int (monthOf n : Nat), .int (domOf n : Nat)]) = H2 at s2 d2 ⊢
    refine ⟨n, rfl, ?_⟩
    walk_at "w"
    intro l2 hl2
    walk_at "w"
    have d2' := same_upd (o := .lst [.int ((weekday n : Nat) + 1)]) hl2 _ _ d2
    have s3 := Same.trans s2 (same_upd (o := .lst [.int ((weekday n : Nat) + 1)]) hl2)
    have d3 : upd H2 l2 (.lst [.int ((weekday n : Nat) + 1)]) l2 = _ := upd_same
    generalize upd H2 l2 (.lst [.int ((weekday n : Nat) + 1)]) = H3 at s3 d3 d2' ⊢
    refine ⟨l1, l2, _, _, rfl, rfl, d2', d3, by show 3 + 1 ≤ _; omega, fun l3 hl3 => ?_⟩
    walk_at "w"
    have s4 := Same.trans s3 (same_upd (o := .lst ([.int (2000 + (yearOf n : Nat)), .int (monthOf n : Nat), .int (domOf n : Nat)] ++ [.int ((weekday n : Nat) + 1)])) hl3)
    have d4 : upd H3 l3 (.lst ([.int (2000 + (yearOf n : Nat)), .int (monthOf n : Nat), .int (domOf n : Nat)] ++ [.int ((weekday n : Nat) + 1)])) l3 = _ := upd_same
    generalize upd H3 l3 (.lst ([.int (2000 + (yearOf n : Nat)), .int (monthOf n : Nat), .int (domOf n : Nat)] ++ [.int ((weekday n : Nat) + 1)])) = H4 at s4 d4 ⊢
    refine ⟨n, rfl, by omega, fun p5 hp5 => ?_⟩
    walk_at "w"
    have d4' := same_upd (o := .tup [.int (2000 + (weekOf n).1), .int ((weekOf n).2 : Nat)]) hp5 _ _ d4
    have s5 := Same.trans s4 (same_upd (o := .tup [.int (2000 + (weekOf n).1), .int ((weekOf n).2 : Nat)]) hp5)
    have d5 : upd H4 p5 (.tup [.int (2000 + (weekOf n).1), .int ((weekOf n).2 : Nat)]) p5 = _ := upd_same
    generalize upd H4 p5 (.tup [.int (2000 + (weekOf n).1), .int ((weekOf n).2 : Nat)]) = H5 at s5 d5 d4' ⊢
    refine ⟨p5, _, rfl, .inr (SqT.of d5), fun l6 hl6 => ?_⟩
    have d4'' := same_upd (o := .lst [.int (2000 + (weekOf n).1), .int ((weekOf n).2 : Nat)]) hl6 _ _ d4'
    have s6 := Same.trans s5 (same_upd (o := .lst [.int (2000 + (weekOf n).1), .int ((weekOf n).2 : Nat)]) hl6)
    have d6 : upd H5 l6 (.lst [.int (2000 + (weekOf n).1), .int ((weekOf n).2 : Nat)]) l6 = _ := upd_same
    generalize upd H5 l6 (.lst [.int (2000 + (weekOf n).1), .int ((weekOf n).2 : Nat)]) = H6 at s6 d6 d4'' ⊢
    refine ⟨l3, l6, _, _, rfl, rfl, d4'', d6, by show 4 + 2 ≤ _; omega, fun q hq => ?_⟩
    refine hQ q _ (Same.free s6 hq) (same_mut s6 (Same.free s6 hq)) ?_
    rw [upd_same]
    rfl
end

def sp_answer_day (K : PySem.W.Frag) : Sp := fun vs H Q _ => ∃ y m d : Nat, vs = [.int (y : Int), .int (m : Int), .int (d : Int)] ∧ ∀ q H', H q = none → Same H H' → H' q = some (.lst ((if y < 2000 ∨ isDate (y - 2000) m d = false then [-1] else [(dayOf (y - 2000) m d : Int)]).map V.int)) → Q (.ref q) H' 
section
variable {P : Program} {w : World} {K : PySem.W.Frag} {mg : Str → Option Value} {base : Heap}
theorem sc_answer_day : FnScope ["year", "month", "of_month"] ["year", "month", "of_month"] (defScope s_answer_day) := ⟨rfl, rfl, rfl, by decide +kernel, rfl, by decide +kernel, by decide +kernel⟩
theorem ok_answer_day (T : Tx K mg) : DefOk P w K mg base CX0 4 "answer_day" ["year", "month", "of_month"] (sp_answer_day K) := by
  obtain ⟨fd, F⟩ := T.f_answer_day
  refine ⟨⟨fd, F.ok sc_answer_day (fun vs H Q E h => ?_) (fun cdv A outer s H vs Q E hr h => ?_), F.bindsN fun _ _ _ _ _ _ us hl => match us, hl with | [_, _, _], _ => rfl⟩, F.kp, T.g_answer_day⟩
  · obtain ⟨y, m, d, rfl, _⟩ := h
    rfl
  · refine ⟨_, PSs.nox (pss_cons (ps_if (pt_not (pt_val (pe_fn (ok_is_date T) (hr.mono (by decide)) (by rfl) pass0 (pa_cons (pv 0) (pa_cons (pv 1) (pa_cons (pv 2) pa_nil)))))) (pss_one (ps_ret (pe_lst (pa_cons (pe_gi T.i_NOT_GOOD (by rfl)) pa_nil)))) pss_nil)
      (pss_one (ps_ret (pe_lst (pa_cons (pe_fn (ok_day_number T) (hr.mono (by decide)) (by rfl) pass0 (pa_cons (pv 0) (pa_cons (pv 1) (pa_cons (pv 2) pa_nil)))) pa_nil))))), ?_⟩
    clear F hr
    obtain ⟨y, m, dd, rfl, hQ⟩ := h
    walk_at "w"
    refine ⟨y, m, dd, rfl, ?_⟩
    walk_at "w"
    by_cases c1 : 2000 ≤ y ∧ isDate (y - 2000) m dd = true
    · rw [if_neg (fun z => z.elim (fun z => by omega) fun z => by rw [c1.2] at z; cases z)] at hQ
      rw [decide_eq_true c1.1, c1.2]
      refine w_f ?_
      walk_at "w"
      have pp := isDate_parts c1.2
      refine ⟨y - 2000, m, dd, by rw [show (2000 : Int) + ((y - 2000 : Nat) : Int) = (y : Int) by omega], pp.1, pp.2.1, pp.2.2, ?_⟩
      walk_at "w"
      intro u hu
      exact hQ u _ hu (same_upd hu) upd_same
    · have e0 : (decide (2000 ≤ y) && isDate (y - 2000) m dd) = false := by
        cases a : decide (2000 ≤ y) with
        | false => rfl
        | true =>
          cases b : isDate (y - 2000) m dd with
          | false => rfl
          | true => exact absurd ⟨of_decide_eq_true a, b⟩ c1
      rw [if_pos (by
        by_cases z : y < 2000
        · exact .inl z
        · refine .inr ?_
          cases b : isDate (y - 2000) m dd with
          | false => rfl
          | true => exact absurd ⟨by omega, b⟩ c1)] at hQ
      rw [e0]
      refine w_t ?_
      walk_at "w"
      intro u hu
      exact hQ u _ hu (same_upd hu) upd_same
end

end CA
end file_CaM12
section file_CaM13
set_option maxRecDepth 100000
set_option maxHeartbeats 4000000
namespace CA
open PySem PySem.Spec PyProof.Rows L2
open SX (S)
open Cl01 (monthDays monthStart isDate dayOf yearOf monthOf domOf weekday week weekOf)

open Cl01 (Rule days text step read nums)
/-- calls that name rows, by their number and what is given -/
inductive CallC : Nat → List Nat → Cl01.Call → Prop
  | text_ (r : Nat) : CallC 1 [r] (.text r)
  | is_ (r n : Nat) : CallC 2 [r, n] (.is r n)
  | next_ (r n : Nat) : CallC 3 [r, n] (.next r n)
  | last_ (r n : Nat) : CallC 4 [r, n] (.last r n)
  | count_ (r u v : Nat) : CallC 5 [r, u, v] (.count r u v)
  | list_ (r u v : Nat) : CallC 6 [r, u, v] (.list r u v)
  | nth_ (r n : Nat) : CallC 7 [r, n] (.nth r n)
  | clash_ (r n : Nat) : CallC 8 [r, n] (.clash r n)
  | differ_ (r n : Nat) : CallC 9 [r, n] (.differ r n)
  | both_ (r n : Nat) : CallC 10 [r, n] (.both r n)
  | either_ (r n : Nat) : CallC 11 [r, n] (.either r n)
  | less_ (r n : Nat) : CallC 12 [r, n] (.less r n)
theorem CallC.head {p : Nat} {G : List Nat} {c : Cl01.Call} (h : CallC p G c) : ∃ r G', G = r :: G' := by
  cases h <;> exact ⟨_, _, rfl⟩
theorem CallC.lost {p : Nat} {G : List Nat} {c : Cl01.Call} (h : CallC p G c) {r : Nat} {G' : List Nat} (e : G = r :: G') {s : List KeptC} (hs : s[r]? = none) : step s c = (s, [-3]) := by
  cases h <;> cases e <;> simp only [Cl01.step, Cl01.one, Cl01.two?, hs]
theorem CallC.lost2 {p : Nat} {r n : Nat} {c : Cl01.Call} (h : CallC p [r, n] c) (hp : 8 ≤ p) {s : List KeptC} {x : KeptC} (hr : s[r]? = some x) (hs : s[n]? = none) : step s c = (s, [-3]) := by
  cases h <;> first | omega | simp only [Cl01.step, Cl01.two?, hr, hs]
/-- what is answered of one row -/
inductive RowC (l : List Nat) : Nat → List Nat → List Int → Prop
  | is_ (r n : Nat) : RowC l 2 [r, n] [if l.contains n = true then 1 else 0]
  | next_ (r n : Nat) : RowC l 3 [r, n] (Cl01.opt (l.find? fun (m : Nat) => decide (n ≤ m)))
  | last_ (r n : Nat) : RowC l 4 [r, n] (Cl01.opt ((l.filter fun (m : Nat) => decide (m ≤ n)).getLast?))
  | count_ (r u v : Nat) : RowC l 5 [r, u, v] [((l.filter fun (n : Nat) => decide (u ≤ n) && decide (n ≤ v)).length : Int)]
  | list_ (r u v : Nat) : RowC l 6 [r, u, v] (nums ((l.filter fun (n : Nat) => decide (u ≤ n) && decide (n ≤ v)).length :: (l.filter fun (n : Nat) => decide (u ≤ n) && decide (n ≤ v)).take 100))
  | nth_ (r n : Nat) : RowC l 7 [r, n] (if n = 0 then [-6] else Cl01.opt l[n - 1]?)
theorem CallC.row {p : Nat} {G : List Nat} {c : Cl01.Call} (h : CallC p G c) {r : Nat} {G' : List Nat} (e : G = r :: G') {s : List KeptC} {x : KeptC} (hs : s[r]? = some x) (h2 : 2 ≤ p) (h7 : p ≤ 7) : ∃ A, RowC x.days p G A ∧ step s c = (s, A) := by
  cases h <;> first
    | omega
    | (cases e
       simp only [Cl01.step, Cl01.one, hs]
       exact ⟨_, by constructor, rfl⟩)
theorem ov_opt (o : Option Nat) : [ov o] = (Cl01.opt o).map V.int := by
  cases o <;> rfl
def SZ : List Nat := [2, 2, 3, 3, 3, 4, 4, 3, 3, 3, 3, 3, 3, 2, 4]
theorem sz_at {p z : Nat} (h : SZ[p]? = some z) : atI (SZ.map fun n : Nat => V.int (n : Int)) (p : Int) = some (.int (z : Int)) := atI_nat (by rw [List.getElem?_map, h]; rfl)
def sp_call_size (K : PySem.W.Frag) : Sp := fun vs H Q _ => ∃ (ca : Addr) (L : List Int) (pl p : Nat) (rest : List Int), vs = [.ref ca, .int (pl : Int)] ∧ SqL K H ca (L.map V.int) ∧ L.drop pl = (p : Int) :: rest ∧
  ((p = 0 ∧ ∃ n rest', rest = n :: rest' ∧ Q (.int (2 + n)) H) ∨ (p ≠ 0 ∧ ∃ z, SZ[p]? = some z ∧ Q (.int (z : Nat)) H))
section
variable {P : Program} {w : World} {K : PySem.W.Frag} {mg : Str → Option Value} {base : Heap}
theorem sc_call_size : FnScope ["calls", "place"] ["calls", "place"] (defScope s_call_size) := ⟨rfl, rfl, rfl, by decide +kernel, rfl, by decide +kernel, by decide +kernel⟩
theorem ok_call_size (T : Tx K mg) : DefOk P w K mg base CX0 1 "call_size" ["calls", "place"] (sp_call_size K) := by
  obtain ⟨fd, F⟩ := T.f_call_size
  refine ⟨⟨fd, F.ok sc_call_size (fun vs H Q E h => ?_) (fun cdv A outer s H vs Q E hr h => ?_), F.bindsN fun _ _ _ _ _ _ us hl => match us, hl with | [_, _], _ => rfl⟩, F.kp, T.g_call_size⟩
  · obtain ⟨ca, L, pl, p, rest, rfl, _⟩ := h
    rfl
  · refine ⟨_, PSs.nox (pss_cons (ps_if (pt_cmpR op_eq (pe_ix (ix_listK (K := K) rfl) (pv 0) (pv 1) (fun _ _ => rfl)) (pe_gi T.i_RULE (by rfl)) (nomark _)) (pss_one (ps_ret (pe_op op_add (pe_ix (ix_tupK (K := K) rfl) (pe_gr T.g_SIZES (by rfl)) (pe_gi T.i_RULE (by rfl)) (fun _ _ => rfl)) (pe_ix (ix_listK (K := K) rfl) (pv 0) (pe_op op_add (pv 1) pe_int) (fun _ _ => rfl))))) pss_nil)
      (pss_one (ps_ret (pe_ix (ix_tupK (K := K) rfl) (pe_gr T.g_SIZES (by rfl)) (pe_ix (ix_listK (K := K) rfl) (pv 0) (pv 1) (fun _ _ => rfl)) (fun _ _ => rfl))))), ?_⟩
    clear F hr
    obtain ⟨ca, L, pl, p, rest, rfl, hS, hL, hQ⟩ := h
    have at0 : L[pl]? = some (p : Int) := by
      have : (L.drop pl)[0]? = some (p : Int) := by rw [hL]; rfl
      rw [List.getElem?_drop] at this
      exact this
    walk_at "w"
    refine w_ixl hS (atI_nat (by rw [List.getElem?_map, at0]; rfl)) ?_
    walk_at "w"
    rcases hQ with ⟨rfl, n, rest', rfl, hQ⟩ | ⟨hp, z, hz, hQ⟩
    · refine w_yes rfl ?_
      walk_at "w"
      refine w_ixt (T.t_SIZES H) (v := .int 2) rfl ?_
      walk_at "w"
      have at1 : L[pl + 1]? = some n := by
        have : (L.drop pl)[1]? = some n := by rw [hL]; rfl
        rw [List.getElem?_drop] at this
        exact this
      rw [show (pl : Int) + 1 = ((pl + 1 : Nat) : Int) by omega]
      refine w_ixl hS (atI_nat (by rw [List.getElem?_map, at1]; rfl)) ?_
      walk_at "w"
      exact hQ
    · refine w_no (by omega) ?_
      walk_at "w"
      refine w_ixl hS (atI_nat (by rw [List.getElem?_map, at0]; rfl)) ?_
      refine w_ixt (T.t_SIZES H) (sz_at hz) ?_
      exact hQ
end

def sp_answer_row (K : PySem.W.Frag) : Sp := fun vs H Q _ => ∃ (r g : Addr) (l G : List Nat) (p : Nat) (A : List Int), vs = [.ref r, .int (p : Int), .ref g] ∧ SqL K H r (iv l) ∧ SqL K H g (iv G) ∧ l.length ≤ 40000 ∧ RowC l p G A ∧ ∀ q H', H q = none → Same H H' → H' q = some (.lst (A.map V.int)) → Q (.ref q) H' 
section
variable {P : Program} {w : World} {K : PySem.W.Frag} {mg : Str → Option Value} {base : Heap}
theorem sc_answer_row : FnScope ["row", "call", "given", "found"] ["row", "call", "given"] (defScope s_answer_row) := ⟨rfl, rfl, rfl, by decide +kernel, rfl, by decide +kernel, by decide +kernel⟩
theorem ok_answer_row (T : Tx K mg) : DefOk P w K mg base CX0 2 "answer_row" ["row", "call", "given"] (sp_answer_row K) := by
  obtain ⟨fd, F⟩ := T.f_answer_row
  refine ⟨⟨fd, F.ok sc_answer_row (fun vs H Q E h => ?_) (fun cdv A outer s H vs Q E hr h => ?_), F.bindsN fun _ _ _ _ _ _ us hl => match us, hl with | [_, _, _], _ => rfl⟩, F.kp, T.g_answer_row⟩
  · obtain ⟨r, g, l, G, p, A, rfl, _⟩ := h
    rfl
  · refine ⟨_, PSs.nox (pss_cons (ps_if (pt_cmpR op_eq (pv 1) (pe_gi T.i_HAS (by rfl)) (nomark _)) (pss_one (ps_ret (pe_lst (pa_cons (pe_ifExp (pt_cmpR (op_inK (K := K) rfl) (pe_ix (ix_listK (K := K) rfl) (pv 2) pe_int (fun _ _ => rfl)) (pv 0) (by with_unfolding_all rfl)) pe_int pe_int) pa_nil)))) pss_nil)
      (pss_cons (ps_if (pt_cmpR op_eq (pv 1) (pe_gi T.i_NEXT_DAY (by rfl)) (nomark _)) (pss_one (ps_ret (pe_lst (pa_cons (pe_fn (ok_first_from T) (hr.mono (by decide)) (by rfl) pass0 (pa_cons (pv 0) (pa_cons (pe_ix (ix_listK (K := K) rfl) (pv 2) pe_int (fun _ _ => rfl)) pa_nil))) pa_nil)))) pss_nil)
      (pss_cons (ps_if (pt_cmpR op_eq (pv 1) (pe_gi T.i_LAST (by rfl)) (nomark _)) (pss_one (ps_ret (pe_lst (pa_cons (pe_fn (ok_last_up_to T) (hr.mono (by decide)) (by rfl) pass0 (pa_cons (pv 0) (pa_cons (pe_ix (ix_listK (K := K) rfl) (pv 2) pe_int (fun _ _ => rfl)) pa_nil))) pa_nil)))) pss_nil)
      (pss_cons (ps_if (pt_cmpR op_eq (pv 1) (pe_gi T.i_NTH (by rfl)) (nomark _)) (pss_one (ps_ret (pe_lst (pa_cons (pe_fn (ok_nth_of T) (hr.mono (by decide)) (by rfl) pass0 (pa_cons (pv 0) (pa_cons (pe_ix (ix_listK (K := K) rfl) (pv 2) pe_int (fun _ _ => rfl)) pa_nil))) pa_nil)))) pss_nil)
      (pss_cons (ps_set (i := 3) sc_answer_row.nd rfl (by first | exact Or.inl rfl | exact Or.inr rfl) (pe_fn (ok_between T) (hr.mono (by decide)) (by rfl) pass0 (pa_cons (pv 0) (pa_cons (pe_ix (ix_listK (K := K) rfl) (pv 2) pe_int (fun _ _ => rfl)) (pa_cons (pe_ix (ix_listK (K := K) rfl) (pv 2) pe_int (fun _ _ => rfl)) pa_nil)))))
      (pss_cons (ps_if (pt_cmpR op_eq (pv 1) (pe_gi T.i_COUNT (by rfl)) (nomark _)) (pss_one (ps_ret (pe_lst (pa_cons (pe_callB (len_seqK (K := K) rfl) (by rfl) T.b_len (by decide +kernel) (pa_cons (pv 3) pa_nil)) pa_nil)))) pss_nil)
      (pss_one (ps_ret (pe_op op_cat (pe_lst (pa_cons (pe_callB (len_seqK (K := K) rfl) (by rfl) T.b_len (by decide +kernel) (pa_cons (pv 3) pa_nil)) pa_nil)) (pe_slice sl_list (pv 3) po_none (po_some (pe_gi T.i_MOST_LISTED (by rfl))))))))))))), ?_⟩
    clear F hr
    obtain ⟨r, g, l, G, p, A, rfl, hS, hG, hl, hC, hQ⟩ := h
    have big : (100000 : Nat) ≤ sizeLine := by decide
    walk_at "w"
    cases hC with
    | is_ r0 n =>
      refine w_yes rfl ?_
      walk_at "w"
      refine w_ixl hG (atI_nat (j := 1) rfl) ?_
      walk_at "w"
      refine w_inI hS ?_
      walk_at "w"
      cases c : l.contains n with
      | true =>
        rw [c] at hQ
        walk_at "w"
        intro q hq
        exact hQ q _ hq (same_upd hq) upd_same
      | false =>
        rw [c] at hQ
        walk_at "w"
        intro q hq
        exact hQ q _ hq (same_upd hq) upd_same
    | next_ r0 n =>
      refine w_no (by decide) ?_
      walk_at "w"
      refine w_yes rfl ?_
      walk_at "w"
      refine w_ixl hG (atI_nat (j := 1) rfl) ?_
      walk_at "w"
      refine ⟨r, l, n, rfl, hS, ?_⟩
      walk_at "w"
      intro q hq
      refine hQ q _ hq (same_upd hq) ?_
      rw [upd_same, ov_opt]
    | last_ r0 n =>
      refine w_no (by decide) ?_
      walk_at "w"
      refine w_no (by decide) ?_
      walk_at "w"
      refine w_yes rfl ?_
      walk_at "w"
      refine w_ixl hG (atI_nat (j := 1) rfl) ?_
      walk_at "w"
      refine ⟨r, l, n, rfl, hS, ?_⟩
      walk_at "w"
      intro q hq
      refine hQ q _ hq (same_upd hq) ?_
      rw [upd_same, ov_opt]
    | nth_ r0 n =>
      refine w_no (by decide) ?_
      walk_at "w"
      refine w_no (by decide) ?_
      walk_at "w"
      refine w_no (by decide) ?_
      walk_at "w"
      refine w_yes rfl ?_
      walk_at "w"
      refine w_ixl hG (atI_nat (j := 1) rfl) ?_
      walk_at "w"
      refine ⟨r, l, n, rfl, hS, ?_⟩
      walk_at "w"
      intro q hq
      refine hQ q _ hq (same_upd hq) ?_
      rw [upd_same]
      by_cases c : n = 0
      · rw [if_pos c, if_pos c]
        rfl
      · rw [if_neg c, if_neg c, ov_opt]
    | count_ r0 u v =>
      refine w_no (by decide) ?_
      walk_at "w"
      refine w_no (by decide) ?_
      walk_at "w"
      refine w_no (by decide) ?_
      walk_at "w"
      refine w_no (by decide) ?_
      walk_at "w"
      refine w_ixl hG (atI_nat (j := 1) rfl) ?_
      walk_at "w"
      refine w_ixl hG (atI_nat (j := 2) rfl) ?_
      walk_at "w"
      refine ⟨r, l, u, v, rfl, hS, by omega, fun p1 H1 hp1 s1 d1 => ?_⟩
      walk_at "w"
      refine w_yes rfl ?_
      walk_at "w"
      refine ⟨_, _, rfl, .inl (SqL.of d1), ?_⟩
      rw [iv_len]
      walk_at "w"
      intro q hq
      exact hQ q _ (Same.free s1 hq) (same_mut s1 (Same.free s1 hq)) upd_same
    | list_ r0 u v =>
      refine w_no (by decide) ?_
      walk_at "w"
      refine w_no (by decide) ?_
      walk_at "w"
      refine w_no (by decide) ?_
      walk_at "w"
      refine w_no (by decide) ?_
      walk_at "w"
      refine w_ixl hG (atI_nat (j := 1) rfl) ?_
      walk_at "w"
      refine w_ixl hG (atI_nat (j := 2) rfl) ?_
      walk_at "w"
      refine ⟨r, l, u, v, rfl, hS, by omega, fun p1 H1 hp1 s1 d1 => ?_⟩
      have hf := List.length_filter_le (fun (n : Nat) => decide (u ≤ n) && decide (n ≤ v)) l
      generalize l.filter (fun (n : Nat) => decide (u ≤ n) && decide (n ≤ v)) = fnd at hf d1 hQ
      walk_at "w"
      refine w_no (by decide) ?_
      walk_at "w"
      refine ⟨_, _, rfl, .inl (SqL.of d1), ?_⟩
      rw [iv_len]
      walk_at "w"
      intro p2 hp2
      walk_at "w"
      have d1' := same_upd (o := .lst [.int (fnd.length : Nat)]) hp2 _ _ d1
      have s2 := Same.trans s1 (same_upd (o := .lst [.int (fnd.length : Nat)]) hp2)
      have d2 : upd H1 p2 (.lst [.int (fnd.length : Nat)]) p2 = some (.lst (iv [fnd.length])) := upd_same
      generalize upd H1 p2 (.lst [.int (fnd.length : Nat)]) = H2 at s2 d2 d1' ⊢
      refine w_sll (SqL.of d1') fun p3 hp3 => ?_
      rw [show (100 : Int) = ((100 : Nat) : Int) from rfl, cutV_to]
      have d2' := same_upd (o := .lst (iv (fnd.take 100))) hp3 _ _ d2
      have s3 := Same.trans s2 (same_upd (o := .lst (iv (fnd.take 100))) hp3)
      have d3 : upd H2 p3 (.lst (iv (fnd.take 100))) p3 = _ := upd_same
      generalize upd H2 p3 (.lst (iv (fnd.take 100))) = H3 at s3 d3 d2' ⊢
      refine ⟨p2, p3, _, _, rfl, rfl, d2', d3, by rw [iv_len, iv_len, List.length_take]; show 1 + _ ≤ _; omega, fun q hq => ?_⟩
      refine hQ q _ (Same.free s3 hq) (same_mut s3 (Same.free s3 hq)) ?_
      rw [upd_same, ← iv_append, nums_V]
      rfl
end


/-- calls of two rows that are kept -/
inductive PairC (k t : Nat) : Nat → Cl01.Call → Prop
  | clash_ : PairC k t 8 (.clash k t)
  | differ_ : PairC k t 9 (.differ k t)
  | both_ : PairC k t 10 (.both k t)
  | either_ : PairC k t 11 (.either k t)
  | less_ : PairC k t 12 (.less k t)
theorem CallC.pair {p r n : Nat} {c : Cl01.Call} (h : CallC p [r, n] c) (hp : 8 ≤ p) : PairC r n p c := by
  cases h <;> first
    | omega
    | constructor
theorem CallC.two {p : Nat} {G : List Nat} {c : Cl01.Call} (h : CallC p G c) (hp : 8 ≤ p) : ∃ r n, G = [r, n] := by
  cases h <;> first
    | omega
    | exact ⟨_, _, rfl⟩

def sp_answer_pair (K : PySem.W.Frag) : Sp := fun vs H Q _ => ∃ (a kr kt rx : Addr) (s : List KeptC) (p k t : Nat) (x y : KeptC) (c : Cl01.Call), vs = [.ref a, .int (p : Int), .int (k : Int), .int (t : Int)] ∧ Kee K H a kr kt rx s ∧ s[k]? = some x ∧ s[t]? = some y ∧ PairC k t p c ∧ AnsP K H a kr kt rx s c Q
section
variable {P : Program} {w : World} {K : PySem.W.Frag} {mg : Str → Option Value} {base : Heap}
theorem sc_answer_pair : FnScope ["keeper", "call", "kept", "other"] ["keeper", "call", "kept", "other"] (defScope s_answer_pair) := ⟨rfl, rfl, rfl, by decide +kernel, rfl, by decide +kernel, by decide +kernel⟩
theorem ok_answer_pair (T : Tx K mg) : DefOk P w K mg base CX0 5 "answer_pair" ["keeper", "call", "kept", "other"] (sp_answer_pair K) := by
  obtain ⟨fd, F⟩ := T.f_answer_pair
  refine ⟨⟨fd, F.ok sc_answer_pair (fun vs H Q E h => ?_) (fun cdv A outer s H vs Q E hr h => ?_), F.bindsN fun _ _ _ _ _ _ us hl => match us, hl with | [_, _, _, _], _ => rfl⟩, F.kp, T.g_answer_pair⟩
  · obtain ⟨a, kr, kt, rx, s, p, k, t, x, y, c, rfl, _⟩ := h
    rfl
  · refine ⟨_, PSs.nox (pss_cons (ps_if (pt_cmpR op_eq (pv 1) (pe_gi T.i_CLASH (by rfl)) (nomark _)) (pss_one (ps_ret (pe_lst (pa_cons (pe_fn (ok_first_common T) (hr.mono (by decide)) (by rfl) pass0 (pa_cons (pe_me (ok_Keeper_row_of T) (pv 0) (hr.mono (by decide)) pass0 (pa_cons (pv 2) pa_nil)) (pa_cons (pe_me (ok_Keeper_row_of T) (pv 0) (hr.mono (by decide)) pass0 (pa_cons (pv 3) pa_nil)) pa_nil))) pa_nil)))) pss_nil)
      (pss_cons (ps_if (pt_cmpR op_eq (pv 1) (pe_gi T.i_DIFFER (by rfl)) (nomark _)) (pss_one (ps_ret (pe_fn (ok_first_different T) (hr.mono (by decide)) (by rfl) pass0 (pa_cons (pe_me (ok_Keeper_row_of T) (pv 0) (hr.mono (by decide)) pass0 (pa_cons (pv 2) pa_nil)) (pa_cons (pe_me (ok_Keeper_row_of T) (pv 0) (hr.mono (by decide)) pass0 (pa_cons (pv 3) pa_nil)) pa_nil))))) pss_nil)
      (pss_cons (ps_if (pt_cmpR op_eq (pv 1) (pe_gi T.i_BOTH (by rfl)) (nomark _)) (pss_one (ps_ret (pe_me (ok_Keeper_answer_both T) (pv 0) (hr.mono (by decide)) pass0 (pa_cons (pv 2) (pa_cons (pv 3) pa_nil))))) pss_nil)
      (pss_cons (ps_if (pt_cmpR op_eq (pv 1) (pe_gi T.i_EITHER (by rfl)) (nomark _)) (pss_one (ps_ret (pe_me (ok_Keeper_answer_either T) (pv 0) (hr.mono (by decide)) pass0 (pa_cons (pv 2) (pa_cons (pv 3) pa_nil))))) pss_nil)
      (pss_one (ps_ret (pe_me (ok_Keeper_answer_less T) (pv 0) (hr.mono (by decide)) pass0 (pa_cons (pv 2) (pa_cons (pv 3) pa_nil))))))))), ?_⟩
    clear F hr
    obtain ⟨a, kr, kt, rx, s', p, k, t, x, y, c, rfl, hW, hk, ht, hC, hQ⟩ := h
    have okx := hW.ok x (List.mem_of_getElem? hk)
    have oky := hW.ok y (List.mem_of_getElem? ht)
    have lx := okx.len
    have ly := oky.len
    walk_at "w"
    cases hC with
    | clash_ =>
      refine w_yes rfl ?_
      walk_at "w"
      refine w_kd hW (lk_keeper (by decide +kernel) (by decide +kernel) _ _) ?_
      walk_at "w"
      refine ⟨a, kr, kt, rx, s', k, x, rfl, hW, hk, fun r1 hr1 => ?_⟩
      walk_at "w"
      refine w_kd hW (lk_keeper (by decide +kernel) (by decide +kernel) _ _) ?_
      walk_at "w"
      refine ⟨a, kr, kt, rx, s', t, y, rfl, hW, ht, fun r2 hr2 => ?_⟩
      walk_at "w"
      refine ⟨r1, r2, x.days, y.days, rfl, SqL.of hr1, SqL.of hr2, by omega, by omega, fun H1 s1 => ?_⟩
      walk_at "w"
      intro q hq
      have hq0 := Same.free s1 hq
      have est : step s' (.clash k t) = (s', Cl01.opt (x.days.filter fun z => y.days.contains z).head?) := by
        simp only [Cl01.step, Cl01.two?, hk, ht, of_meet okx.1 oky.1]
      refine hQ q _ hq0 (Same.off2 (same_mut s1 hq0)) ?_ ?_
      · rw [est]
        exact hW.same (same_mut s1 hq0)
      · rw [est, upd_same, ov_opt]
    | differ_ =>
      refine w_no (by decide) ?_
      walk_at "w"
      refine w_yes rfl ?_
      walk_at "w"
      refine w_kd hW (lk_keeper (by decide +kernel) (by decide +kernel) _ _) ?_
      walk_at "w"
      refine ⟨a, kr, kt, rx, s', k, x, rfl, hW, hk, fun r1 hr1 => ?_⟩
      walk_at "w"
      refine w_kd hW (lk_keeper (by decide +kernel) (by decide +kernel) _ _) ?_
      walk_at "w"
      refine ⟨a, kr, kt, rx, s', t, y, rfl, hW, ht, fun r2 hr2 => ?_⟩
      walk_at "w"
      refine ⟨r1, r2, x.days, y.days, rfl, SqL.of hr1, SqL.of hr2, by omega, by omega, fun q H1 hq s1 d1 => ?_⟩
      refine hQ q H1 hq (Same.off2 s1) ?_ ?_
      · have e1 : (step s' (.differ k t)).1 = s' := by simp only [Cl01.step, Cl01.two?, hk, ht]
        rw [e1]
        exact hW.same s1
      · rw [d1]
        refine congrArg (fun l => some (HO.lst l)) ?_
        simp only [Cl01.step, Cl01.two?, hk, ht, of_minus okx.1 oky.1, of_minus oky.1 okx.1]
        generalize (x.days.filter fun z => !y.days.contains z).head? = u
        generalize (y.days.filter fun z => !x.days.contains z).head? = v
        cases u with
        | none => cases v <;> rfl
        | some u =>
          cases v with
          | none => rfl
          | some v =>
            dsimp only
            split <;> rfl
    | both_ =>
      refine w_no (by decide) ?_
      walk_at "w"
      refine w_no (by decide) ?_
      walk_at "w"
      refine w_yes rfl ?_
      walk_at "w"
      refine w_kd hW (lk_keeper (by decide +kernel) (by decide +kernel) _ _) ?_
      walk_at "w"
      exact ⟨a, kr, kt, rx, s', k, t, x, y, rfl, hW, hk, ht, hQ⟩
    | either_ =>
      refine w_no (by decide) ?_
      walk_at "w"
      refine w_no (by decide) ?_
      walk_at "w"
      refine w_no (by decide) ?_
      walk_at "w"
      refine w_yes rfl ?_
      walk_at "w"
      refine w_kd hW (lk_keeper (by decide +kernel) (by decide +kernel) _ _) ?_
      walk_at "w"
      exact ⟨a, kr, kt, rx, s', k, t, x, y, rfl, hW, hk, ht, hQ⟩
    | less_ =>
      refine w_no (by decide) ?_
      walk_at "w"
      refine w_no (by decide) ?_
      walk_at "w"
      refine w_no (by decide) ?_
      walk_at "w"
      refine w_no (by decide) ?_
      walk_at "w"
      refine w_kd hW (lk_keeper (by decide +kernel) (by decide +kernel) _ _) ?_
      walk_at "w"
      exact ⟨a, kr, kt, rx, s', k, t, x, y, rfl, hW, hk, ht, hQ⟩
end

end CA
end file_CaM13
section file_CaPlay
set_option maxRecDepth 100000
set_option maxHeartbeats 4000000
/-! Calls as one list of numbers, one by one. Plain Lean. -/
namespace CA
open Cl01Neutral (callOf asked1 kept day)
open PyCl01 (shape whole)
inductive CallA : Nat → List Nat → Cl01.Call → Prop
  | rule_ (t : List Nat) : CallA 0 (t.length :: t) (.rule t)
  | date_ (n : Nat) : CallA 13 [n] (.date n)
  | day_ (y m d : Nat) : CallA 14 [y, m, d] (.day y m d)
  | kept_ {p : Nat} {G : List Nat} {c : Cl01.Call} (h : CallC p G c) : CallA p G c
def SizeOk (p : Nat) (G : List Nat) : Prop := (p = 0 ∧ ∃ G', G = G'.length :: G') ∨ (p ≠ 0 ∧ SZ[p]? = some (G.length + 1))
theorem whole_id (c : List (List Int)) : whole c = c := by
  unfold whole
  split <;> rfl
theorem nat_of {z : Int} (h : 0 ≤ z) : z = ((z.toNat : Nat) : Int) := by omega
theorem kept_nn {z : Int} (h : kept z = true) : 0 ≤ z := by
  unfold kept NeutralIO.within at h
  rw [Bool.and_eq_true, decide_eq_true_eq, decide_eq_true_eq] at h
  exact h.1
theorem day_nn {z : Int} (h : day z = true) : 0 ≤ z := by
  unfold day NeutralIO.within at h
  rw [Bool.and_eq_true, decide_eq_true_eq, decide_eq_true_eq] at h
  exact h.1
theorem within_nn {z hi : Int} (h : NeutralIO.within z 0 hi = true) : 0 ≤ z := by
  unfold NeutralIO.within at h
  rw [Bool.and_eq_true, decide_eq_true_eq, decide_eq_true_eq] at h
  exact h.1
theorem nats_cast : ∀ {t : List Int}, (∀ z ∈ t, 0 ≤ z) → t = (t.map Int.toNat).map fun n : Nat => (n : Int)
  | [], _ => rfl
  | z :: t, h => by
    rw [List.map_cons, List.map_cons, ← nats_cast fun y hy => h y (List.mem_cons_of_mem _ hy), ← nat_of (h z List.mem_cons_self)]
/-- what one call is -/
def One (p0 : Int) (r0 : List Int) (c : List (List Int)) (t : List Int) : Prop := ∃ (p : Nat) (G : List Nat) (cc : Cl01.Call), p0 = (p : Int) ∧ r0 = (G.map fun n : Nat => (n : Int)) ++ t ∧ CallA p G cc ∧ callOf c = some cc ∧ SizeOk p G
theorem one_rule {r0 : List Int} {c : List (List Int)} {t : List Int} (h : PyFlat.call shape (0 :: r0) = some (c, t)) (ha : asked1 c = true) : One 0 r0 c t := by
  have hs : shape 0 = some (0, 1) := rfl
  unfold PyFlat.call at h
  dsimp only at h
  rw [hs] at h
  dsimp only at h
  rw [if_neg (by omega)] at h
  unfold PyFlat.rows PyFlat.row PyFlat.rows at h
  cases r0 with
  | nil => cases h
  | cons n r =>
    simp only [List.drop_zero, List.take_zero] at h
    by_cases hn : 0 ≤ n ∧ n.toNat ≤ r.length
    · rw [if_pos hn] at h
      have e := Option.some.inj h
      cases e
      have ha2 : (decide ((r.take n.toNat).length ≤ 300) && (r.take n.toNat).all fun z => NeutralIO.within z 0 255) = true := ha
      rw [Bool.and_eq_true] at ha2
      have nn : ∀ z ∈ r.take n.toNat, 0 ≤ z := fun z hz => within_nn (List.all_eq_true.mp ha2.2 z hz)
      have hl : ((r.take n.toNat).map Int.toNat).length = n.toNat := by rw [List.length_map, List.length_take]; omega
      refine ⟨0, ((r.take n.toNat).map Int.toNat).length :: (r.take n.toNat).map Int.toNat, .rule ((r.take n.toNat).map Int.toNat), rfl, ?_, .rule_ _, rfl, .inl ⟨rfl, _, rfl⟩⟩
      rw [hl, List.map_cons, ← nats_cast nn, ← nat_of hn.1]
      show n :: r = n :: (r.take n.toNat ++ r.drop n.toNat)
      rw [List.take_append_drop]
    · rw [if_neg hn] at h
      cases h
theorem one_text {r0 : List Int} {c : List (List Int)} {t : List Int} (h : PyFlat.call shape (1 :: r0) = some (c, t)) (ha : asked1 c = true) : One 1 r0 c t := by
  match r0, h with
  | [], h =>
    cases (show (none : Option (List (List Int) × List Int)) = some (c, t) from h)
  | x0 :: t0, h =>
    have h2 : some ([[1, x0]], t0) = some (c, t) := h
    cases h2
    have ha2 : kept x0 = true := ha
    refine ⟨1, [x0.toNat], .text x0.toNat, rfl, ?_, .kept_ (.text_ _), rfl, .inr ⟨by decide, rfl⟩⟩
    show x0 :: t = ((x0.toNat : Nat) : Int) :: t
    rw [← nat_of (kept_nn ha2)]
theorem one_is {r0 : List Int} {c : List (List Int)} {t : List Int} (h : PyFlat.call shape (2 :: r0) = some (c, t)) (ha : asked1 c = true) : One 2 r0 c t := by
  match r0, h with
  | [], h =>
    cases (show (none : Option (List (List Int) × List Int)) = some (c, t) from h)
  | [x0], h =>
    cases (show (none : Option (List (List Int) × List Int)) = some (c, t) from h)
  | x0 :: x1 :: t0, h =>
    have h2 : some ([[2, x0, x1]], t0) = some (c, t) := h
    cases h2
    have ha2 : (kept x0 && day x1) = true := ha
    rw [Bool.and_eq_true] at ha2
    refine ⟨2, [x0.toNat, x1.toNat], .is x0.toNat x1.toNat, rfl, ?_, .kept_ (.is_ _ _), rfl, .inr ⟨by decide, rfl⟩⟩
    show x0 :: x1 :: t = ((x0.toNat : Nat) : Int) :: ((x1.toNat : Nat) : Int) :: t
    rw [← nat_of (kept_nn ha2.1), ← nat_of (day_nn ha2.2)]
theorem one_next {r0 : List Int} {c : List (List Int)} {t : List Int} (h : PyFlat.call shape (3 :: r0) = some (c, t)) (ha : asked1 c = true) : One 3 r0 c t := by
  match r0, h with
  | [], h =>
    cases (show (none : Option (List (List Int) × List Int)) = some (c, t) from h)
  | [x0], h =>
    cases (show (none : Option (List (List Int) × List Int)) = some (c, t) from h)
  | x0 :: x1 :: t0, h =>
    have h2 : some ([[3, x0, x1]], t0) = some (c, t) := h
    cases h2
    have ha2 : (kept x0 && day x1) = true := ha
    rw [Bool.and_eq_true] at ha2
    refine ⟨3, [x0.toNat, x1.toNat], .next x0.toNat x1.toNat, rfl, ?_, .kept_ (.next_ _ _), rfl, .inr ⟨by decide, rfl⟩⟩
    show x0 :: x1 :: t = ((x0.toNat : Nat) : Int) :: ((x1.toNat : Nat) : Int) :: t
    rw [← nat_of (kept_nn ha2.1), ← nat_of (day_nn ha2.2)]
theorem one_last {r0 : List Int} {c : List (List Int)} {t : List Int} (h : PyFlat.call shape (4 :: r0) = some (c, t)) (ha : asked1 c = true) : One 4 r0 c t := by
  match r0, h with
  | [], h =>
    cases (show (none : Option (List (List Int) × List Int)) = some (c, t) from h)
  | [x0], h =>
    cases (show (none : Option (List (List Int) × List Int)) = some (c, t) from h)
  | x0 :: x1 :: t0, h =>
    have h2 : some ([[4, x0, x1]], t0) = some (c, t) := h
    cases h2
    have ha2 : (kept x0 && day x1) = true := ha
    rw [Bool.and_eq_true] at ha2
    refine ⟨4, [x0.toNat, x1.toNat], .last x0.toNat x1.toNat, rfl, ?_, .kept_ (.last_ _ _), rfl, .inr ⟨by decide, rfl⟩⟩
    show x0 :: x1 :: t = ((x0.toNat : Nat) : Int) :: ((x1.toNat : Nat) : Int) :: t
    rw [← nat_of (kept_nn ha2.1), ← nat_of (day_nn ha2.2)]
theorem one_count {r0 : List Int} {c : List (List Int)} {t : List Int} (h : PyFlat.call shape (5 :: r0) = some (c, t)) (ha : asked1 c = true) : One 5 r0 c t := by
  match r0, h with
  | [], h =>
    cases (show (none : Option (List (List Int) × List Int)) = some (c, t) from h)
  | [x0], h =>
    cases (show (none : Option (List (List Int) × List Int)) = some (c, t) from h)
  | [x0, x1], h =>
    cases (show (none : Option (List (List Int) × List Int)) = some (c, t) from h)
  | x0 :: x1 :: x2 :: t0, h =>
    have h2 : some ([[5, x0, x1, x2]], t0) = some (c, t) := h
    cases h2
    have ha2 : (kept x0 && (day x1 && day x2)) = true := ha
    rw [Bool.and_eq_true, Bool.and_eq_true] at ha2
    refine ⟨5, [x0.toNat, x1.toNat, x2.toNat], .count x0.toNat x1.toNat x2.toNat, rfl, ?_, .kept_ (.count_ _ _ _), rfl, .inr ⟨by decide, rfl⟩⟩
    show x0 :: x1 :: x2 :: t = ((x0.toNat : Nat) : Int) :: ((x1.toNat : Nat) : Int) :: ((x2.toNat : Nat) : Int) :: t
    rw [← nat_of (kept_nn ha2.1), ← nat_of (day_nn ha2.2.1), ← nat_of (day_nn ha2.2.2)]
theorem one_list {r0 : List Int} {c : List (List Int)} {t : List Int} (h : PyFlat.call shape (6 :: r0) = some (c, t)) (ha : asked1 c = true) : One 6 r0 c t := by
  match r0, h with
  | [], h =>
    cases (show (none : Option (List (List Int) × List Int)) = some (c, t) from h)
  | [x0], h =>
    cases (show (none : Option (List (List Int) × List Int)) = some (c, t) from h)
  | [x0, x1], h =>
    cases (show (none : Option (List (List Int) × List Int)) = some (c, t) from h)
  | x0 :: x1 :: x2 :: t0, h =>
    have h2 : some ([[6, x0, x1, x2]], t0) = some (c, t) := h
    cases h2
    have ha2 : (kept x0 && (day x1 && day x2)) = true := ha
    rw [Bool.and_eq_true, Bool.and_eq_true] at ha2
    refine ⟨6, [x0.toNat, x1.toNat, x2.toNat], .list x0.toNat x1.toNat x2.toNat, rfl, ?_, .kept_ (.list_ _ _ _), rfl, .inr ⟨by decide, rfl⟩⟩
    show x0 :: x1 :: x2 :: t = ((x0.toNat : Nat) : Int) :: ((x1.toNat : Nat) : Int) :: ((x2.toNat : Nat) : Int) :: t
    rw [← nat_of (kept_nn ha2.1), ← nat_of (day_nn ha2.2.1), ← nat_of (day_nn ha2.2.2)]
theorem one_nth {r0 : List Int} {c : List (List Int)} {t : List Int} (h : PyFlat.call shape (7 :: r0) = some (c, t)) (ha : asked1 c = true) : One 7 r0 c t := by
  match r0, h with
  | [], h =>
    cases (show (none : Option (List (List Int) × List Int)) = some (c, t) from h)
  | [x0], h =>
    cases (show (none : Option (List (List Int) × List Int)) = some (c, t) from h)
  | x0 :: x1 :: t0, h =>
    have h2 : some ([[7, x0, x1]], t0) = some (c, t) := h
    cases h2
    have ha2 : (kept x0 && day x1) = true := ha
    rw [Bool.and_eq_true] at ha2
    refine ⟨7, [x0.toNat, x1.toNat], .nth x0.toNat x1.toNat, rfl, ?_, .kept_ (.nth_ _ _), rfl, .inr ⟨by decide, rfl⟩⟩
    show x0 :: x1 :: t = ((x0.toNat : Nat) : Int) :: ((x1.toNat : Nat) : Int) :: t
    rw [← nat_of (kept_nn ha2.1), ← nat_of (day_nn ha2.2)]
theorem one_clash {r0 : List Int} {c : List (List Int)} {t : List Int} (h : PyFlat.call shape (8 :: r0) = some (c, t)) (ha : asked1 c = true) : One 8 r0 c t := by
  match r0, h with
  | [], h =>
    cases (show (none : Option (List (List Int) × List Int)) = some (c, t) from h)
  | [x0], h =>
    cases (show (none : Option (List (List Int) × List Int)) = some (c, t) from h)
  | x0 :: x1 :: t0, h =>
    have h2 : some ([[8, x0, x1]], t0) = some (c, t) := h
    cases h2
    have ha2 : (kept x0 && kept x1) = true := ha
    rw [Bool.and_eq_true] at ha2
    refine ⟨8, [x0.toNat, x1.toNat], .clash x0.toNat x1.toNat, rfl, ?_, .kept_ (.clash_ _ _), rfl, .inr ⟨by decide, rfl⟩⟩
    show x0 :: x1 :: t = ((x0.toNat : Nat) : Int) :: ((x1.toNat : Nat) : Int) :: t
    rw [← nat_of (kept_nn ha2.1), ← nat_of (kept_nn ha2.2)]
theorem one_differ {r0 : List Int} {c : List (List Int)} {t : List Int} (h : PyFlat.call shape (9 :: r0) = some (c, t)) (ha : asked1 c = true) : One 9 r0 c t := by
  match r0, h with
  | [], h =>
    cases (show (none : Option (List (List Int) × List Int)) = some (c, t) from h)
  | [x0], h =>
    cases (show (none : Option (List (List Int) × List Int)) = some (c, t) from h)
  | x0 :: x1 :: t0, h =>
    have h2 : some ([[9, x0, x1]], t0) = some (c, t) := h
    cases h2
    have ha2 : (kept x0 && kept x1) = true := ha
    rw [Bool.and_eq_true] at ha2
    refine ⟨9, [x0.toNat, x1.toNat], .differ x0.toNat x1.toNat, rfl, ?_, .kept_ (.differ_ _ _), rfl, .inr ⟨by decide, rfl⟩⟩
    show x0 :: x1 :: t = ((x0.toNat : Nat) : Int) :: ((x1.toNat : Nat) : Int) :: t
    rw [← nat_of (kept_nn ha2.1), ← nat_of (kept_nn ha2.2)]
theorem one_both {r0 : List Int} {c : List (List Int)} {t : List Int} (h : PyFlat.call shape (10 :: r0) = some (c, t)) (ha : asked1 c = true) : One 10 r0 c t := by
  match r0, h with
  | [], h =>
    cases (show (none : Option (List (List Int) × List Int)) = some (c, t) from h)
  | [x0], h =>
    cases (show (none : Option (List (List Int) × List Int)) = some (c, t) from h)
  | x0 :: x1 :: t0, h =>
    have h2 : some ([[10, x0, x1]], t0) = some (c, t) := h
    cases h2
    have ha2 : (kept x0 && kept x1) = true := ha
    rw [Bool.and_eq_true] at ha2
    refine ⟨10, [x0.toNat, x1.toNat], .both x0.toNat x1.toNat, rfl, ?_, .kept_ (.both_ _ _), rfl, .inr ⟨by decide, rfl⟩⟩
    show x0 :: x1 :: t = ((x0.toNat : Nat) : Int) :: ((x1.toNat : Nat) : Int) :: t
    rw [← nat_of (kept_nn ha2.1), ← nat_of (kept_nn ha2.2)]
theorem one_either {r0 : List Int} {c : List (List Int)} {t : List Int} (h : PyFlat.call shape (11 :: r0) = some (c, t)) (ha : asked1 c = true) : One 11 r0 c t := by
  match r0, h with
  | [], h =>
    cases (show (none : Option (List (List Int) × List Int)) = some (c, t) from h)
  | [x0], h =>
    cases (show (none : Option (List (List Int) × List Int)) = some (c, t) from h)
  | x0 :: x1 :: t0, h =>
    have h2 : some ([[11, x0, x1]], t0) = some (c, t) := h
    cases h2
    have ha2 : (kept x0 && kept x1) = true := ha
    rw [Bool.and_eq_true] at ha2
    refine ⟨11, [x0.toNat, x1.toNat], .either x0.toNat x1.toNat, rfl, ?_, .kept_ (.either_ _ _), rfl, .inr ⟨by decide, rfl⟩⟩
    show x0 :: x1 :: t = ((x0.toNat : Nat) : Int) :: ((x1.toNat : Nat) : Int) :: t
    rw [← nat_of (kept_nn ha2.1), ← nat_of (kept_nn ha2.2)]
theorem one_less {r0 : List Int} {c : List (List Int)} {t : List Int} (h : PyFlat.call shape (12 :: r0) = some (c, t)) (ha : asked1 c = true) : One 12 r0 c t := by
  match r0, h with
  | [], h =>
    cases (show (none : Option (List (List Int) × List Int)) = some (c, t) from h)
  | [x0], h =>
    cases (show (none : Option (List (List Int) × List Int)) = some (c, t) from h)
  | x0 :: x1 :: t0, h =>
    have h2 : some ([[12, x0, x1]], t0) = some (c, t) := h
    cases h2
    have ha2 : (kept x0 && kept x1) = true := ha
    rw [Bool.and_eq_true] at ha2
    refine ⟨12, [x0.toNat, x1.toNat], .less x0.toNat x1.toNat, rfl, ?_, .kept_ (.less_ _ _), rfl, .inr ⟨by decide, rfl⟩⟩
    show x0 :: x1 :: t = ((x0.toNat : Nat) : Int) :: ((x1.toNat : Nat) : Int) :: t
    rw [← nat_of (kept_nn ha2.1), ← nat_of (kept_nn ha2.2)]
theorem one_date {r0 : List Int} {c : List (List Int)} {t : List Int} (h : PyFlat.call shape (13 :: r0) = some (c, t)) (ha : asked1 c = true) : One 13 r0 c t := by
  match r0, h with
  | [], h =>
    cases (show (none : Option (List (List Int) × List Int)) = some (c, t) from h)
  | x0 :: t0, h =>
    have h2 : some ([[13, x0]], t0) = some (c, t) := h
    cases h2
    have ha2 : day x0 = true := ha
    refine ⟨13, [x0.toNat], .date x0.toNat, rfl, ?_, .date_ _, rfl, .inr ⟨by decide, rfl⟩⟩
    show x0 :: t = ((x0.toNat : Nat) : Int) :: t
    rw [← nat_of (day_nn ha2)]
theorem one_day {r0 : List Int} {c : List (List Int)} {t : List Int} (h : PyFlat.call shape (14 :: r0) = some (c, t)) (ha : asked1 c = true) : One 14 r0 c t := by
  match r0, h with
  | [], h =>
    cases (show (none : Option (List (List Int) × List Int)) = some (c, t) from h)
  | [x0], h =>
    cases (show (none : Option (List (List Int) × List Int)) = some (c, t) from h)
  | [x0, x1], h =>
    cases (show (none : Option (List (List Int) × List Int)) = some (c, t) from h)
  | x0 :: x1 :: x2 :: t0, h =>
    have h2 : some ([[14, x0, x1, x2]], t0) = some (c, t) := h
    cases h2
    have ha2 : (NeutralIO.within x0 0 9999 && (NeutralIO.within x1 0 99 && NeutralIO.within x2 0 99)) = true := ha
    rw [Bool.and_eq_true, Bool.and_eq_true] at ha2
    refine ⟨14, [x0.toNat, x1.toNat, x2.toNat], .day x0.toNat x1.toNat x2.toNat, rfl, ?_, .day_ _ _ _, rfl, .inr ⟨by decide, rfl⟩⟩
    show x0 :: x1 :: x2 :: t = ((x0.toNat : Nat) : Int) :: ((x1.toNat : Nat) : Int) :: ((x2.toNat : Nat) : Int) :: t
    rw [← nat_of (within_nn ha2.1), ← nat_of (within_nn ha2.2.1), ← nat_of (within_nn ha2.2.2)]
theorem play_one {p0 : Int} {r0 : List Int} {c : List (List Int)} {t : List Int} (h : PyFlat.call shape (p0 :: r0) = some (c, t)) (ha : asked1 c = true) : One p0 r0 c t := by
  have hp : p0 = 0 ∨ p0 = 1 ∨ p0 = 2 ∨ p0 = 3 ∨ p0 = 4 ∨ p0 = 5 ∨ p0 = 6 ∨ p0 = 7 ∨ p0 = 8 ∨ p0 = 9 ∨ p0 = 10 ∨ p0 = 11 ∨ p0 = 12 ∨ p0 = 13 ∨ p0 = 14 ∨ shape p0 = none := by
    by_cases e0 : p0 = 0
    · exact .inl e0
    by_cases e1 : p0 = 1
    · exact .inr (.inl e1)
    by_cases e2 : p0 = 2
    · exact .inr (.inr (.inl e2))
    by_cases e3 : p0 = 3
    · exact .inr (.inr (.inr (.inl e3)))
    by_cases e4 : p0 = 4
    · exact .inr (.inr (.inr (.inr (.inl e4))))
    by_cases e5 : p0 = 5
    · exact .inr (.inr (.inr (.inr (.inr (.inl e5)))))
    by_cases e6 : p0 = 6
    · exact .inr (.inr (.inr (.inr (.inr (.inr (.inl e6))))))
    by_cases e7 : p0 = 7
    · exact .inr (.inr (.inr (.inr (.inr (.inr (.inr (.inl e7)))))))
    by_cases e8 : p0 = 8
    · exact .inr (.inr (.inr (.inr (.inr (.inr (.inr (.inr (.inl e8))))))))
    by_cases e9 : p0 = 9
    · exact .inr (.inr (.inr (.inr (.inr (.inr (.inr (.inr (.inr (.inl e9)))))))))
    by_cases e10 : p0 = 10
    · exact .inr (.inr (.inr (.inr (.inr (.inr (.inr (.inr (.inr (.inr (.inl e10))))))))))
    by_cases e11 : p0 = 11
    · exact .inr (.inr (.inr (.inr (.inr (.inr (.inr (.inr (.inr (.inr (.inr (.inl e11)))))))))))
    by_cases e12 : p0 = 12
    · exact .inr (.inr (.inr (.inr (.inr (.inr (.inr (.inr (.inr (.inr (.inr (.inr (.inl e12))))))))))))
    by_cases e13 : p0 = 13
    · exact .inr (.inr (.inr (.inr (.inr (.inr (.inr (.inr (.inr (.inr (.inr (.inr (.inr (.inl e13)))))))))))))
    by_cases e14 : p0 = 14
    · exact .inr (.inr (.inr (.inr (.inr (.inr (.inr (.inr (.inr (.inr (.inr (.inr (.inr (.inr (.inl e14))))))))))))))
    refine .inr (.inr (.inr (.inr (.inr (.inr (.inr (.inr (.inr (.inr (.inr (.inr (.inr (.inr (.inr ?_))))))))))))))
    unfold shape
    rw [if_neg e0, if_neg e1, if_neg e2, if_neg e3, if_neg e4, if_neg e5, if_neg e6, if_neg e7, if_neg e8, if_neg e9, if_neg e10, if_neg e11, if_neg e12, if_neg e13, if_neg e14]
  rcases hp with rfl | rfl | rfl | rfl | rfl | rfl | rfl | rfl | rfl | rfl | rfl | rfl | rfl | rfl | rfl | e
  · exact one_rule h ha
  · exact one_text h ha
  · exact one_is h ha
  · exact one_next h ha
  · exact one_last h ha
  · exact one_count h ha
  · exact one_list h ha
  · exact one_nth h ha
  · exact one_clash h ha
  · exact one_differ h ha
  · exact one_both h ha
  · exact one_either h ha
  · exact one_less h ha
  · exact one_date h ha
  · exact one_day h ha
  · unfold PyFlat.call at h
    dsimp only at h
    rw [e] at h
    cases h
/-- calls, the first one off -/
theorem calls_cons {f : Nat} {l : List Int} {c : List (List Int)} {raw : List (List (List Int))} (h : PyFlat.calls shape f l = some (c :: raw)) : ∃ (f' : Nat) (p0 : Int) (r0 t : List Int), l = p0 :: r0 ∧ PyFlat.call shape (p0 :: r0) = some (c, t) ∧ PyFlat.calls shape f' t = some raw := by
  cases l with
  | nil => cases f <;> cases h
  | cons p0 r0 =>
    cases f with
    | zero => cases h
    | succ f =>
      unfold PyFlat.calls at h
      cases e : PyFlat.call shape (p0 :: r0) with
      | none => rw [e] at h; cases h
      | some x =>
        obtain ⟨c', t⟩ := x
        rw [e] at h
        dsimp only at h
        cases e2 : PyFlat.calls shape f t with
        | none => rw [e2] at h; cases h
        | some cs =>
          rw [e2] at h
          cases h
          exact ⟨f, p0, r0, t, rfl, e, e2⟩
theorem calls_nil {f : Nat} {l : List Int} (h : PyFlat.calls shape f l = some []) : l = [] := by
  cases l with
  | nil => rfl
  | cons p0 r0 =>
    cases f with
    | zero => cases h
    | succ f =>
      unfold PyFlat.calls at h
      cases e : PyFlat.call shape (p0 :: r0) with
      | none => rw [e] at h; cases h
      | some x =>
        obtain ⟨c', t⟩ := x
        rw [e] at h
        dsimp only at h
        cases e2 : PyFlat.calls shape f t with
        | none => rw [e2] at h; cases h
        | some cs => rw [e2] at h; cases h
theorem told_append (a b : List (List Int)) : PyFlat.told (a ++ b) = PyFlat.told a ++ PyFlat.told b := by
  unfold PyFlat.told
  rw [List.flatMap_append]
theorem step_of {c : List (List Int)} {cc : Cl01.Call} (h : callOf c = some cc) (s : Cl01.State) : Cl01Neutral.step s c = Cl01.step s cc := by
  unfold Cl01Neutral.step
  rw [h]
theorem asked_parts {l : List Int} (h : PyCl01.answers_asked l = true) : ∃ raw, PyFlat.calls shape l.length l = some raw ∧ (∀ c ∈ raw, asked1 c = true) ∧ PyCl01.answers l = PyFlat.told (PyFlat.played Cl01Neutral.step [] raw) ∧ (PyCl01.answers l).length ≤ 10000000 := by
  unfold PyCl01.answers_asked at h
  cases e : PyFlat.calls shape l.length l with
  | none => rw [e] at h; cases h
  | some raw =>
    rw [e] at h
    simp only [Bool.and_eq_true] at h
    have hw : raw.map whole = raw := by
      rw [show whole = fun c => c from funext whole_id]
      exact List.map_id raw
    refine ⟨raw, rfl, fun c hc => ?_, ?_, ?_⟩
    · have h2 := h.1.2
      rw [hw] at h2
      unfold Cl01Neutral.asked at h2
      simp only [Bool.and_eq_true] at h2
      exact List.all_eq_true.mp h2.2.2 c hc
    · unfold PyCl01.answers PyCl01.calls
      rw [e]
      dsimp only
      rw [hw]
      rfl
    · have h3 := h.2
      unfold PyFlat.short at h3
      exact of_decide_eq_true h3
end CA
end file_CaPlay
section file_CaM14
set_option maxRecDepth 100000
set_option maxHeartbeats 4000000
namespace CA
open PySem PySem.Spec PyProof.Rows L2
open SX (S)
open Cl01 (monthDays monthStart isDate dayOf yearOf monthOf domOf weekday week weekOf)

open Cl01 (Rule days text read nums)
theorem cutV_one (n : Nat) (l : List Nat) : cutV (iv (n :: l)) (some (1 : Int)) none = iv l := by
  unfold cutV
  rw [show (1 : Int) = ((1 : Nat) : Int) from rfl, HT.sIx_nat, HT.sIx_none, iv_len]
  show ((iv (n :: l)).drop _).take _ = _
  rw [List.length_cons, Nat.min_eq_left (by omega)]
  show (iv l).take _ = _
  rw [List.take_of_length_le (by rw [iv_len]; omega)]
theorem CallC.lt {p : Nat} {G : List Nat} {c : Cl01.Call} (h : CallC p G c) : 1 ≤ p ∧ p ≤ 12 := by
  cases h <;> exact ⟨by decide, by decide⟩
def sp_answer_kept (K : PySem.W.Frag) : Sp := fun vs H Q _ => ∃ (a kr kt rx g : Addr) (s : List KeptC) (G : List Nat) (p : Nat) (c : Cl01.Call), vs = [.ref a, .int (p : Int), .ref g] ∧ Kee K H a kr kt rx s ∧ SqL K H g (iv G) ∧ CallC p G c ∧ AnsP K H a kr kt rx s c Q
section
variable {P : Program} {w : World} {K : PySem.W.Frag} {mg : Str → Option Value} {base : Heap}
theorem sc_answer_kept : FnScope ["keeper", "call", "given"] ["keeper", "call", "given"] (defScope s_answer_kept) := ⟨rfl, rfl, rfl, by decide +kernel, rfl, by decide +kernel, by decide +kernel⟩
theorem ok_answer_kept (T : Tx K mg) : DefOk P w K mg base CX0 6 "answer_kept" ["keeper", "call", "given"] (sp_answer_kept K) := by
  obtain ⟨fd, F⟩ := T.f_answer_kept
  refine ⟨⟨fd, F.ok sc_answer_kept (fun vs H Q E h => ?_) (fun cdv A outer s H vs Q E hr h => ?_), F.bindsN fun _ _ _ _ _ _ us hl => match us, hl with | [_, _, _], _ => rfl⟩, F.kp, T.g_answer_kept⟩
  · obtain ⟨a, kr, kt, rx, g, s, G, p, c, rfl, _⟩ := h
    rfl
  · refine ⟨_, PSs.nox (pss_cons (ps_if (pt_not (pt_val (pe_me (ok_Keeper_has_kept T) (pv 0) (hr.mono (by decide)) pass0 (pa_cons (pe_ix (ix_listK (K := K) rfl) (pv 2) pe_int (fun _ _ => rfl)) pa_nil)))) (pss_one (ps_ret (pe_lst (pa_cons (pe_gi T.i_NOT_KEPT (by rfl)) pa_nil)))) pss_nil)
      (pss_cons (ps_if (pt_cmpR op_eq (pv 1) (pe_gi T.i_TEXT (by rfl)) (nomark _)) (pss_one (ps_ret (pe_me (ok_Keeper_answer_text T) (pv 0) (hr.mono (by decide)) pass0 (pa_cons (pe_ix (ix_listK (K := K) rfl) (pv 2) pe_int (fun _ _ => rfl)) pa_nil)))) pss_nil)
      (pss_cons (ps_if (pt_cmpR op_le (pv 1) (pe_gi T.i_NTH (by rfl)) (nomark _)) (pss_one (ps_ret (pe_fn (ok_answer_row T) (hr.mono (by decide)) (by rfl) pass0 (pa_cons (pe_me (ok_Keeper_row_of T) (pv 0) (hr.mono (by decide)) pass0 (pa_cons (pe_ix (ix_listK (K := K) rfl) (pv 2) pe_int (fun _ _ => rfl)) pa_nil)) (pa_cons (pv 1) (pa_cons (pv 2) pa_nil)))))) pss_nil)
      (pss_cons (ps_if (pt_not (pt_val (pe_me (ok_Keeper_has_kept T) (pv 0) (hr.mono (by decide)) pass0 (pa_cons (pe_ix (ix_listK (K := K) rfl) (pv 2) pe_int (fun _ _ => rfl)) pa_nil)))) (pss_one (ps_ret (pe_lst (pa_cons (pe_gi T.i_NOT_KEPT (by rfl)) pa_nil)))) pss_nil)
      (pss_one (ps_ret (pe_fn (ok_answer_pair T) (hr.mono (by decide)) (by rfl) pass0 (pa_cons (pv 0) (pa_cons (pv 1) (pa_cons (pe_ix (ix_listK (K := K) rfl) (pv 2) pe_int (fun _ _ => rfl)) (pa_cons (pe_ix (ix_listK (K := K) rfl) (pv 2) pe_int (fun _ _ => rfl)) pa_nil))))))))))), ?_⟩
    clear F hr
    obtain ⟨a, kr, kt, rx, g, s', G, p, c, rfl, hW, hG, hC, hQ⟩ := h
    obtain ⟨r0, G', rfl⟩ := hC.head
    have lost : Cl01.step s' c = (s', [-3]) → ∀ u, H u = none → Q (.ref u) (upd H u (.lst [.int (-3)])) := fun e u hu => by
      refine hQ u _ hu (Same.off2 (same_upd hu)) ?_ ?_
      · rw [e]
        exact hW.same (same_upd hu)
      · rw [e]
        exact upd_same
    walk_at "w"
    refine w_kd hW (lk_keeper (by decide +kernel) (by decide +kernel) _ _) ?_
    walk_at "w"
    refine w_ixl hG (atI_nat (j := 0) rfl) ?_
    walk_at "w"
    refine ⟨a, kr, kt, rx, s', r0, rfl, hW, ?_⟩
    walk_at "w"
    refine w_ncases (fun c1 => ?_) (fun c1 => ?_)
    · walk_at "w"
      exact lost (hC.lost rfl (List.getElem?_eq_none (by omega)))
    walk_at "w"
    have hk : s'[r0]? = some s'[r0] := List.getElem?_eq_getElem c1
    generalize s'[r0] = x at hk
    have okx := hW.ok x (List.mem_of_getElem? hk)
    have lx := okx.len
    refine w_cases (fun c2 => ?_) (fun c2 => ?_)
    · obtain rfl : p = 1 := by omega
      walk_at "w"
      refine w_kd hW (lk_keeper (by decide +kernel) (by decide +kernel) _ _) ?_
      walk_at "w"
      refine w_ixl hG (atI_nat (j := 0) rfl) ?_
      walk_at "w"
      refine ⟨a, kr, kt, rx, s', r0, x, rfl, hW, hk, fun q H1 hq s1 d1 => ?_⟩
      cases hC with
      | text_ r =>
        refine hQ q H1 hq (Same.off2 s1) ?_ ?_
        · have e1 : (Cl01.step s' (.text r0)).1 = s' := by simp only [Cl01.step, Cl01.one, hk]
          rw [e1]
          exact hW.same s1
        · rw [d1]
          simp only [Cl01.step, Cl01.one, hk]
          generalize x.rule = ru
          cases ru <;> rfl
    walk_at "w"
    have hp := hC.lt
    refine w_cases (fun c3 => ?_) (fun c3 => ?_)
    · walk_at "w"
      obtain ⟨A, hA, est⟩ := hC.row rfl hk (by omega) (by omega)
      refine w_kd hW (lk_keeper (by decide +kernel) (by decide +kernel) _ _) ?_
      walk_at "w"
      refine w_ixl hG (atI_nat (j := 0) rfl) ?_
      walk_at "w"
      refine ⟨a, kr, kt, rx, s', r0, x, rfl, hW, hk, fun r1 hr1 => ?_⟩
      walk_at "w"
      refine ⟨r1, g, x.days, _, p, A, rfl, SqL.of hr1, hG, by omega, hA, fun q H1 hq s1 d1 => ?_⟩
      refine hQ q H1 hq (Same.off2 s1) ?_ ?_
      · rw [est]
        exact hW.same s1
      · rw [est]
        exact d1
    walk_at "w"
    obtain ⟨r2, n2, e2⟩ := hC.two (by omega)
    cases e2
    refine w_kd hW (lk_keeper (by decide +kernel) (by decide +kernel) _ _) ?_
    walk_at "w"
    refine w_ixl hG (atI_nat (j := 1) rfl) ?_
    walk_at "w"
    refine ⟨a, kr, kt, rx, s', n2, rfl, hW, ?_⟩
    walk_at "w"
    refine w_ncases (fun c4 => ?_) (fun c4 => ?_)
    · walk_at "w"
      exact lost (hC.lost2 (by omega) hk (List.getElem?_eq_none (by omega)))
    walk_at "w"
    have hk2 : s'[n2]? = some s'[n2] := List.getElem?_eq_getElem c4
    refine w_ixl hG (atI_nat (j := 0) rfl) ?_
    walk_at "w"
    refine w_ixl hG (atI_nat (j := 1) rfl) ?_
    walk_at "w"
    exact ⟨a, kr, kt, rx, s', p, r0, n2, x, _, c, rfl, hW, hk, hk2, hC.pair (by omega), hQ⟩
end

def sp_answer_call (K : PySem.W.Frag) : Sp := fun vs H Q _ => ∃ (a kr kt rx g : Addr) (s : List KeptC) (G : List Nat) (p : Nat) (c : Cl01.Call), vs = [.ref a, .int (p : Int), .ref g] ∧ Kee K H a kr kt rx s ∧ SqL K H g (iv G) ∧ CallA p G c ∧ AnsP K H a kr kt rx s c Q
section
variable {P : Program} {w : World} {K : PySem.W.Frag} {mg : Str → Option Value} {base : Heap}
theorem sc_answer_call : FnScope ["keeper", "call", "given"] ["keeper", "call", "given"] (defScope s_answer_call) := ⟨rfl, rfl, rfl, by decide +kernel, rfl, by decide +kernel, by decide +kernel⟩
theorem ok_answer_call (T : Tx K mg) : DefOk P w K mg base CX0 11 "answer_call" ["keeper", "call", "given"] (sp_answer_call K) := by
  obtain ⟨fd, F⟩ := T.f_answer_call
  refine ⟨⟨fd, F.ok sc_answer_call (fun vs H Q E h => ?_) (fun cdv A outer s H vs Q E hr h => ?_), F.bindsN fun _ _ _ _ _ _ us hl => match us, hl with | [_, _, _], _ => rfl⟩, F.kp, T.g_answer_call⟩
  · obtain ⟨a, kr, kt, rx, g, s, G, p, c, rfl, _⟩ := h
    rfl
  · refine ⟨_, PSs.nox (pss_cons (ps_if (pt_cmpR op_eq (pv 1) (pe_gi T.i_RULE (by rfl)) (nomark _)) (pss_one (ps_ret (pe_me (ok_Keeper_answer_rule T) (pv 0) (hr.mono (by decide)) pass0 (pa_cons (pe_slice sl_list (pv 2) (po_some pe_int) po_none) pa_nil)))) pss_nil)
      (pss_cons (ps_if (pt_cmpR op_eq (pv 1) (pe_gi T.i_DATE (by rfl)) (nomark _)) (pss_one (ps_ret (pe_fn (ok_answer_date T) (hr.mono (by decide)) (by rfl) pass0 (pa_cons (pe_ix (ix_listK (K := K) rfl) (pv 2) pe_int (fun _ _ => rfl)) pa_nil)))) pss_nil)
      (pss_cons (ps_if (pt_cmpR op_eq (pv 1) (pe_gi T.i_DAY_days (by rfl)) (nomark _)) (pss_one (ps_ret (pe_fn (ok_answer_day T) (hr.mono (by decide)) (by rfl) pass0 (pa_cons (pe_ix (ix_listK (K := K) rfl) (pv 2) pe_int (fun _ _ => rfl)) (pa_cons (pe_ix (ix_listK (K := K) rfl) (pv 2) pe_int (fun _ _ => rfl)) (pa_cons (pe_ix (ix_listK (K := K) rfl) (pv 2) pe_int (fun _ _ => rfl)) pa_nil)))))) pss_nil)
      (pss_one (ps_ret (pe_fn (ok_answer_kept T) (hr.mono (by decide)) (by rfl) pass0 (pa_cons (pv 0) (pa_cons (pv 1) (pa_cons (pv 2) pa_nil))))))))), ?_⟩
    clear F hr
    obtain ⟨a, kr, kt, rx, g, s', G, p, c, rfl, hW, hG, hC, hQ⟩ := h
    walk_at "w"
    cases hC with
    | rule_ t =>
      refine w_yes rfl ?_
      walk_at "w"
      refine w_kd hW (lk_keeper (by decide +kernel) (by decide +kernel) _ _) ?_
      walk_at "w"
      refine w_sll hG fun p1 hp1 => ?_
      rw [cutV_one]
      walk_at "w"
      have s1 := same_upd (o := .lst (iv t)) hp1
      refine ⟨a, kr, kt, rx, p1, s', t, rfl, hW.same s1, SqL.of upd_same, fun q H2 hq o2 W2 d2 => ?_⟩
      exact hQ q H2 (Same.free s1 hq) (Off2.trans (Same.off2 s1) o2) W2 d2
    | date_ n =>
      refine w_no (by decide) ?_
      walk_at "w"
      refine w_yes rfl ?_
      walk_at "w"
      refine w_ixl hG (atI_nat (j := 0) rfl) ?_
      walk_at "w"
      exact ⟨n, rfl, fun q H1 hq s1 d1 => hQ q H1 hq (Same.off2 s1) (hW.same s1) d1⟩
    | day_ y m dd =>
      refine w_no (by decide) ?_
      walk_at "w"
      refine w_no (by decide) ?_
      walk_at "w"
      refine w_yes rfl ?_
      walk_at "w"
      refine w_ixl hG (atI_nat (j := 0) rfl) ?_
      walk_at "w"
      refine w_ixl hG (atI_nat (j := 1) rfl) ?_
      walk_at "w"
      refine w_ixl hG (atI_nat (j := 2) rfl) ?_
      walk_at "w"
      exact ⟨y, m, dd, rfl, fun q H1 hq s1 d1 => hQ q H1 hq (Same.off2 s1) (hW.same s1) d1⟩
    | kept_ hC =>
      have hp := hC.lt
      refine w_no (by omega) ?_
      walk_at "w"
      refine w_no (by omega) ?_
      walk_at "w"
      refine w_no (by omega) ?_
      walk_at "w"
      exact ⟨a, kr, kt, rx, g, s', G, p, c, rfl, hW, hG, hC, hQ⟩
end

end CA
end file_CaM14
section file_CaM15
set_option maxRecDepth 100000
set_option maxHeartbeats 4000000
namespace CA
open PySem PySem.Spec PyProof.Rows L2
open SX (S)
open Cl01 (monthDays monthStart isDate dayOf yearOf monthOf domOf weekday week weekOf)

open Cl01 (Rule days text read nums)
theorem cutV_mid {L : List Int} {pl : Nat} {p0 : Int} {G : List Nat} {t : List Int} (h : L.drop pl = p0 :: ((G.map fun n : Nat => (n : Int)) ++ t)) :
    cutV (L.map V.int) (some ((pl : Int) + 1)) (some ((pl : Int) + ((G.length + 1 : Nat) : Int))) = iv G := by
  have hl : L.length = pl + (1 + (G.length + t.length)) ∨ L.length ≤ pl := by
    have := congrArg List.length h
    rw [List.length_drop, List.length_cons, List.length_append, List.length_map] at this
    omega
  have hl2 : L.length = pl + (1 + (G.length + t.length)) := by
    rcases hl with e | e
    · exact e
    · rw [List.drop_eq_nil_of_le e] at h
      cases h
  unfold cutV
  rw [show (pl : Int) + 1 = ((pl + 1 : Nat) : Int) by omega, show (pl : Int) + ((G.length + 1 : Nat) : Int) = ((pl + (G.length + 1) : Nat) : Int) by omega, HT.sIx_nat, HT.sIx_nat, List.length_map, Nat.min_eq_left (by omega), Nat.min_eq_left (by omega), show pl + (G.length + 1) - (pl + 1) = G.length by omega]
  rw [← List.map_drop, ← List.map_take]
  have e1 : L.drop (pl + 1) = (G.map fun n : Nat => (n : Int)) ++ t := by
    rw [← List.drop_drop, h]
    rfl
  rw [e1, List.take_left' (List.length_map ..), iv_ints]
theorem told_one (a : List Int) : PyFlat.told [a] = (a.length : Int) :: a := by
  show List.flatMap _ [a] = _
  rw [List.flatMap_singleton]
def sp_answers (K : PySem.W.Frag) : Sp := fun vs H Q _ => ∃ (ca : Addr) (L : List Int), vs = [.ref ca] ∧ SqL K H ca (L.map V.int) ∧ PyCl01.answers_asked L = true ∧ ∀ q H', H' q = some (.lst ((PyCl01.answers L).map V.int)) → Q (.ref q) H' 
section
variable {P : Program} {w : World} {K : PySem.W.Frag} {mg : Str → Option Value} {base : Heap}
theorem sc_answers : FnScope ["calls", "keeper", "result", "place", "size", "told"] ["calls"] (defScope s_answers) := ⟨rfl, rfl, rfl, by decide +kernel, rfl, by decide +kernel, by decide +kernel⟩
theorem ok_answers (T : Tx K mg) : ∃ fd : FuncData, (∀ (s : Shared) (us : List Value), us.length = (["calls"] : List Str).length → BindsTo s fd ⟨us, []⟩ ((["calls"] : List Str).zip us)) ∧ ∀ base : Heap, FnOk P w K mg base CX0 12 (He.ga K "answers") fd ["calls"] (sp_answers K) := by
  obtain ⟨fd, F⟩ := T.f_answers
  refine ⟨fd, FunD.bindsA (ps := ["calls"]) F (fun _ _ _ _ _ _ us hl => match us, hl with | [_], _ => rfl), fun base => F.ok sc_answers (fun vs H Q E h => ?_) (fun cdv A outer s H vs Q E hr h => ?_)⟩
  · obtain ⟨ca, L, rfl, _⟩ := h
    rfl
  · refine ⟨_, PSs.nox (pss_cons (ps_set (i := 1) sc_answers.nd rfl (by first | exact Or.inl rfl | exact Or.inr rfl) (pe_mk0 (mk_Keeper T) (hr.mono (by decide)) (by rfl)))
      (pss_cons (ps_set (i := 2) sc_answers.nd rfl (by first | exact Or.inl rfl | exact Or.inr rfl) (pe_lst pa_nil))
      (pss_cons (ps_set (i := 3) sc_answers.nd rfl (by first | exact Or.inl rfl | exact Or.inr rfl) pe_int)
      (pss_cons (ps_while PassesOwn.never (pt_cmpR op_lt (pv 3) (pe_callB (len_seqK (K := K) rfl) (by rfl) T.b_len (by decide +kernel) (pa_cons (pv 0) pa_nil)) (nomark _)) (Evl.pss_cut (ps_set (i := 4) sc_answers.nd rfl (by first | exact Or.inl rfl | exact Or.inr rfl) (pe_fn (ok_call_size T) (hr.mono (by decide)) (by rfl) pass0 (pa_cons (pv 0) (pa_cons (pv 3) pa_nil))))
      (pss_cons (ps_set (i := 5) sc_answers.nd rfl (by first | exact Or.inl rfl | exact Or.inr rfl) (pe_fn (ok_answer_call T) (hr.mono (by decide)) (by rfl) pass0 (pa_cons (pv 1) (pa_cons (pe_ix (ix_listK (K := K) rfl) (pv 0) (pv 3) (fun _ _ => rfl)) (pa_cons (pe_slice sl_list (pv 0) (po_some (pe_op op_add (pv 3) pe_int)) (po_some (pe_op op_add (pv 3) (pv 4)))) pa_nil)))))
      (pss_cons (ps_expr (pe_bm PySem.F.plainAttrs_list PySem.F.slot_list_append PySem.F.type_list_append mt_append (pv 2) (pa_cons (pe_callB (len_seqK (K := K) rfl) (by rfl) T.b_len (by decide +kernel) (pa_cons (pv 5) pa_nil)) pa_nil)))
      (pss_cons (ps_expr (pe_bm PySem.F.plainAttrs_list PySem.F.slot_list_extend PySem.F.type_list_extend mt_extend (pv 2) (pa_cons (pv 5) pa_nil)))
      (pss_one (ps_aug (i := 3) sc_answers.nd rfl (by first | exact Or.inl rfl | exact Or.inr rfl) (pv 4) ip_add)))))))
      (pss_one (ps_ret (pv 2))))))), ?_⟩
    clear F hr
    obtain ⟨ca, L, rfl, hS, hA, hQ⟩ := h
    obtain ⟨raw, hcalls, hask, hans, hlen⟩ := asked_parts hA
    have big : (16000000 : Nat) ≤ sizeLine := by decide
    walk_at "w"
    intro x dx hx hdx hne
    refine ⟨x, dx, rfl, upd_same, by rw [upd_ne hne]; exact upd_same, fun kr kt H1 nkx nkt hkr hkt keep W1 => ⟨rfl, ?_⟩⟩
    have s1 : Same H H1 := fun b u e => by
      have b1 : b ≠ x := fun z => by rw [z, hx] at e; cases e
      have b2 : b ≠ dx := fun z => by rw [z, hdx] at e; cases e
      exact keep b u b1 (by rw [upd_ne b1, upd_ne b2]; exact e)
    have fkr : H kr = none := by
      cases e : H kr with
      | none => rfl
      | some u =>
        have b2 : kr ≠ dx := fun z => by rw [z, hdx] at e; cases e
        rw [upd_ne nkx, upd_ne b2, e] at hkr
        cases hkr
    have fkt : H kt = none := by
      cases e : H kt with
      | none => rfl
      | some u =>
        have b2 : kt ≠ dx := fun z => by rw [z, hdx] at e; cases e
        rw [upd_ne nkt, upd_ne b2, e] at hkt
        cases hkt
    walk_at "w"
    intro res hres
    have fres : H res = none := Same.free s1 hres
    obtain ⟨nr1, nr2, _, nrx⟩ := W1.nr hres
    walk_at "w"
    refine ⟨fun m σ' H' => ∃ (pl f : Nat) (st : List KeptC) (done raw' : List (List Int)) (rw' : List (List (List Int))) (e4 e5 : Option V), m = rw'.length ∧ σ' = [some (.ref ca), some (.ref x), some (.ref res), some (.int (pl : Int)), e4, e5] ∧ PyFlat.calls PyCl01.shape f (L.drop pl) = some rw' ∧ (∀ c ∈ rw', Cl01Neutral.asked1 c = true) ∧ Same H H' ∧ Kee K H' x kr kt res st ∧
      H' res = some (.lst ((PyFlat.told done).map V.int)) ∧ PyCl01.answers L = PyFlat.told (done ++ PyFlat.played Cl01Neutral.step st rw'), ⟨raw.length, 0, L.length, [], [], [], raw, none, none, rfl, rfl, hcalls, hask, Same.trans s1 (same_upd hres), (W1.same (same_upd hres)).chg (by rw [upd_same]; exact fun z => by cases z), upd_same, hans⟩, ?_⟩
    rintro m σ' H2 ⟨pl, f, st, done, _, rwl, e4, e5, rfl, rfl, hc, hk, s2, W2, d2, ean⟩
    walk_at "w"
    refine ⟨_, _, rfl, .inl (Same.seq s2 hS), ?_⟩
    rw [List.length_map]
    walk_at "w"
    refine w_cases (fun c => ?_) (fun c => ?_)
    · cases rwl with
      | nil =>
        have := calls_nil hc
        have := List.drop_eq_nil_iff.mp this
        omega
      | cons c0 rwl =>
      obtain ⟨f', p0, r0, t, eL, ecall, erest⟩ := calls_cons hc
      obtain ⟨p, G, cc, rfl, rfl, hCA, hco, hsz⟩ := play_one ecall (hk c0 List.mem_cons_self)
      have est := step_of hco st
      refine ⟨fun σ' H' => ∃ m', m' < (c0 :: rwl).length ∧ ∃ (pl f : Nat) (st : List KeptC) (done raw' : List (List Int)) (rw' : List (List (List Int))) (e4 e5 : Option V), m' = rw'.length ∧ σ' = [some (.ref ca), some (.ref x), some (.ref res), some (.int (pl : Int)), e4, e5] ∧ PyFlat.calls PyCl01.shape f (L.drop pl) = some rw' ∧ (∀ c ∈ rw', Cl01Neutral.asked1 c = true) ∧ Same H H' ∧ Kee K H' x kr kt res st ∧
      H' res = some (.lst ((PyFlat.told done).map V.int)) ∧ PyCl01.answers L = PyFlat.told (done ++ PyFlat.played Cl01Neutral.step st rw'), fun _ _ h => h, ?_⟩
      refine w_cut (fun σ' H' => H' = H2 ∧ σ' = [some (.ref ca), some (.ref x), some (.ref res), some (.int (pl : Int)), some (.int ((G.length + 1 : Nat) : Int)), e5]) ?_ ?_
      · walk_at "w"
        refine ⟨ca, L, pl, p, _, rfl, Same.seq s2 hS, eL, ?_⟩
        rcases hsz with ⟨rfl, G', eG⟩ | ⟨hp0, hz⟩
        · refine .inl ⟨rfl, (G'.length : Int), (G'.map fun n : Nat => (n : Int)) ++ t, by rw [eG]; rfl, ?_⟩
          walk_at "w"
          refine ⟨rfl, ?_⟩
          rw [eG, List.length_cons, show (2 : Int) + (G'.length : Int) = ((G'.length + 1 + 1 : Nat) : Int) by omega]
          rfl
        · refine .inr ⟨hp0, _, hz, ?_⟩
          walk_at "w"
          exact ⟨rfl, rfl⟩
      rintro _ H3 ⟨eH, rfl⟩
      have eH := eH.symm
      subst eH
      walk_at "w"
      have at0 : L[pl]? = some (p : Int) := by
        have : (L.drop pl)[0]? = some (p : Int) := by rw [eL]; rfl
        rw [List.getElem?_drop] at this
        exact this
      refine w_ixl (Same.seq s2 hS) (atI_nat (by rw [List.getElem?_map, at0]; rfl)) ?_
      walk_at "w"
      refine w_sll (Same.seq s2 hS) fun g hg => ?_
      rw [cutV_mid eL]
      walk_at "w"
      have s3 := same_upd (o := .lst (iv G)) hg
      refine ⟨x, kr, kt, res, g, st, G, p, cc, rfl, W2.same s3, SqL.of upd_same, hCA, fun q H4 hq o4 W4 d4 => ?_⟩
      have s4 : Same H H4 := fun b u e => by
        have b1 : b ≠ kr := fun z => by rw [z, fkr] at e; cases e
        have b2 : b ≠ kt := fun z => by rw [z, fkt] at e; cases e
        exact o4 b u b1 b2 (s3 _ _ (s2 _ _ e))
      have d4r : H4 res = some (.lst ((PyFlat.told done).map V.int)) := o4 _ _ nr1 nr2 (s3 _ _ d2)
      have nq : q ≠ res := fun z => by rw [z, s3 _ _ d2] at hq; cases hq
      walk_at "w"
      refine ⟨.inl ⟨rfl, _, SqL.of d4r⟩, ?_⟩
      walk_at "w"
      refine ⟨_, _, rfl, .inl (SqL.of d4), ?_⟩
      rw [List.length_map]
      walk_at "w"
      have tot : (PyFlat.told done).length + (1 + (Cl01.step st cc).2.length) ≤ 10000000 := by
        rw [ean, told_append, List.length_append] at hlen
        have e1 : PyFlat.played Cl01Neutral.step st (c0 :: rwl) = (Cl01.step st cc).2 :: PyFlat.played Cl01Neutral.step (Cl01.step st cc).1 rwl := by
          show (Cl01Neutral.step st c0).2 :: PyFlat.played Cl01Neutral.step (Cl01Neutral.step st c0).1 rwl = _
          rw [est]
        have e2 : PyFlat.told ((Cl01.step st cc).2 :: PyFlat.played Cl01Neutral.step (Cl01.step st cc).1 rwl) = ((Cl01.step st cc).2.length : Int) :: (Cl01.step st cc).2 ++ PyFlat.told (PyFlat.played Cl01Neutral.step (Cl01.step st cc).1 rwl) := by
          show List.flatMap _ (_ :: _) = _
          rw [List.flatMap_cons]
          rfl
        rw [e1, e2, List.length_append, List.length_cons] at hlen
        omega
      refine w_app d4r (by rw [List.length_map]; omega) ?_
      walk_at "w"
      have d5r : upd H4 res (.lst ((PyFlat.told done).map V.int ++ [.int ((Cl01.step st cc).2.length : Nat)])) res = _ := upd_same
      have d5 : upd H4 res (.lst ((PyFlat.told done).map V.int ++ [.int ((Cl01.step st cc).2.length : Nat)])) q = _ := (upd_ne nq).trans d4
      refine ⟨.inl ⟨rfl, _, SqL.of d5r⟩, ?_⟩
      walk_at "w"
      refine w_ext d5r d5 (by rw [List.length_append, List.length_map, List.length_map]; show _ + 1 + _ ≤ _; omega) ?_
      walk_at "w"
      refine ⟨rwl.length, by rw [List.length_cons]; omega, pl + (G.length + 1), f', (Cl01.step st cc).1, done ++ [(Cl01.step st cc).2], [], rwl, some (.int ((G.length + 1 : Nat) : Int)), some (.ref q), rfl, ?_, ?_, fun c hc => hk c (List.mem_cons_of_mem _ hc), ?_, ?_, ?_, ?_⟩
      · rw [Int.natCast_add]
        rfl
      · have e1 : L.drop (pl + (G.length + 1)) = t := by
          rw [← List.drop_drop, eL]
          show List.drop G.length (_ ++ t) = t
          rw [List.drop_left' (List.length_map ..)]
        rw [e1]
        exact erest
      · exact same_mut (same_mut s4 fres) fres
      · exact (W4.mut nr1 nr2 nrx).mut nr1 nr2 nrx
      · rw [upd_same, told_append, told_one, List.map_append, List.append_assoc]
        rfl
      · rw [ean]
        show _ = PyFlat.told (done ++ [_] ++ _)
        rw [List.append_assoc]
        show PyFlat.told (done ++ ((Cl01Neutral.step st c0).2 :: PyFlat.played Cl01Neutral.step (Cl01Neutral.step st c0).1 rwl)) = _
        rw [est]
        rfl
    · have er : L.drop pl = [] := List.drop_eq_nil_of_le (by omega)
      have e0 : rwl = [] := by
        rw [er] at hc
        cases f <;> exact (Option.some.inj hc).symm
      subst e0
      walk_at "w"
      refine hQ res H2 ?_
      rw [d2, ean]
      show _ = some (HO.lst ((PyFlat.told (done ++ [])).map V.int))
      rw [List.append_nil]
end

end CA
end file_CaM15
section file_CaEnd
set_option maxRecDepth 100000
set_option maxHeartbeats 8000000
namespace CA
open PySem PySem.Spec PyProof.Rows L2
open PySem.W (WData Codec OpenSpec Well WellAll ReadsW ReadsAllW)
theorem walk_specE {r : OpenSpec} {k : Nat} {q : Program} {loose : List Str} {XP : (Str → Option Value) → Heap → Prop} {YP : World → Heap → Prop} {d : DefRec} {CX : CXT} {ps : List Str}
    (hwell : r.wellSaid = true) (hdf : d.params.defaults = []) (hlen : r.args.length = ps.length) (hr : Room k callerA)
    (F : ∀ (w : World) (mg : Str → Option Value) (fa : Addr) (h : Heap), YP w h → h.Ns mainGlobals mg → mg d.name = some (.ref fa) →
      ∃ (K : PySem.W.Frag) (fd : FuncData) (sp : Sp), K.In h ∧ (∀ (s : Shared) (us : List Value), us.length = ps.length → BindsTo s fd ⟨us, []⟩ (ps.zip us)) ∧
        (∀ (H : Hp) (xs : List V) (a : Codec.denoteAll r.args), OnlyF H → Codec.withinAll r.args a = true → Codec.app r.args r.asked a = true → DwAll K H xs (Codec.encAll r.args a) →
          sp xs H (fun v H' => Dw K H' v (r.ret.enc (Codec.app r.args r.f a))) fun _ _ _ => False) ∧
        ∀ base : Heap, K.In base → base.Ns mainGlobals mg → FnOk r.prog w K mg base CX k fa fd ps sp)
    (hCX : ∀ (H : Hp) (s : Shared) (e : Value) (s' : Shared), CX [] H s (fun _ _ _ => False) e s' → False) :
    PySem.W.WalkOS q loose XP YP r d [] (fun f vs => PySem.call f vs) := by
  intro w s₀ s₁ mg mb G Y fa o pm cd doc dV kV ho hd hcd hD hmg hg args vals as hpre hlay hrd hwl hlo
  obtain ⟨a, e1, e2⟩ := PySem.W.os_pre_some hpre
  obtain ⟨e3, hwi⟩ := Codec.encAll_of_decAll r.args args a e1
  subst e3
  obtain ⟨K, fd, sp, KX, hb, hsp, hF⟩ := F w mg fa _ Y G.T.g hmg
  refine PySem.W.enter_call (codeAny_mono (spec_call (R := []) (cl := classAt s₀.heap) (d0 := r.ret.enc (Codec.app r.args r.f a)) KX G.T.g G.T.b G.T.builtins G.T.nolimit hg hwl (pl_encAll _ _) (layable_weight hlay) hr hF hb (by rw [encAll_len]; exact hlen)
    (fun H xs hO hS => hsp H xs a hO hwi e2 hS) fun H e s' => hCX H s₁ e s') fun r' s' hq => ?_)
  obtain ⟨u, as', rfl, h1, h2, h3, h4⟩ := hq
  exact ⟨.inl ⟨u, _, as', rfl, fun _ => rfl, h1, (OpenSpec.post_iff hwell hwi _ _).mpr rfl, fun z => Bool.noConfusion (show false = true from z)⟩, h2, h3, h4⟩
/-! the looks at the program, one by one: together they take twice the memory -/
open PySem.W in
theorem end_l1 : sreFenced RW.prog.main = true := by decide +kernel
open PySem.W in
theorem end_l2 : ((moduleNames RW.prog.main.body).isEmpty || lookedIntoSs (moduleNames RW.prog.main.body) RW.prog.main.body) = true := by decide +kernel
open PySem.W in
theorem end_l3 : namesResolve RW.prog = true := by decide +kernel
open PySem.W in
theorem end_l4 : (RW.prog.boundNames.all fun n => !worldNames.contains n) = true := by decide +kernel
open PySem.W in
theorem end_l5 : noRoadLSs { strict := !(importedModules RW.prog.main.body).all cThrough.contains, foot := none, bare := (["vars", "dir", "locals"] : List PySem.Str).filter (readsOut RW.prog RW.prog.main.body) } RW.prog.main.body = true := by decide +kernel
open PySem.W in
theorem end_l6 : (namesMeet RW.prog RW.prog.main.body fun _ n => attrL n) = true := by decide +kernel
open PySem.W in
theorem end_l7a : RW.prog.boundNames.contains RW.name = true := by decide +kernel
open PySem.W in
theorem end_l7b : (!startupNames.contains RW.name) = true := by decide +kernel
open PySem.W in
theorem end_l7c : specDef RW.prog RW.name RW.args.length = true := by decide +kernel
open PySem.W in
theorem end_l7d : RW.args.all Codec.fits = true := by decide +kernel
open PySem.W in
theorem end_l7e : RW.ret.ok = true := by decide +kernel
open PySem.W in
theorem end_l8 : RW.prog.tablesWhole = true := by decide +kernel
theorem and6 {a b c d e f : Bool} (ha : a = true) (hb : b = true) (hc : c = true) (hd : d = true) (he : e = true) (hf : f = true) : (a && b && c && d && e && f) = true := by
  subst ha hb hc hd he hf; rfl
open PySem.W in
theorem end_looks : looksOpen RW.prog = true := and6 end_l1 end_l2 end_l3 end_l4 end_l5 end_l6
open PySem.W in
theorem end_said : RW.wellSaid = true := and6 end_looks end_l7a end_l7b end_l7c end_l7d end_l7e
open PySem.W in
theorem end_bare : RW.prog.bare := ⟨rfl, rfl, rfl, rfl, rfl, end_l8⟩
end CA
open PySem PySem.W PySem.Calls PyProof.Rows
set_option maxRecDepth 100000 in
set_option maxHeartbeats 8000000 in
theorem PySem.Challenge.cw_comeagain_s01_answers_holds : PySem.Challenge.rw_comeagain_s01_answers.Holds := by
  w_on
  refine HandSHeadRun.head_spec (r := PySem.Challenge.rw_comeagain_s01_answers) (q := view (PySem.Challenge.rw_comeagain_s01_answers).prog [109]) (H := CA.hk) (ob := CA.ob) (M := 20000) (loose := CA.loose) (d := HandSHeadRun.topDef (PySem.Challenge.rw_comeagain_s01_answers).prog 109) (kwd := []) CA.ob_eq
    (by kernel_rfl) (fun s => by kernel_rfl) CA.run (by kernel_rfl) (by kernel_rfl) (by kernel_rfl) os_shapes CA.end_said (by decide +kernel) CA.end_bare ?hw ?hc
  case hw => exact ⟨[.list [.int 13, .int 0]], by decide +kernel, by decide +kernel⟩
  case hc =>
    refine CA.walk_specE (r := PySem.Challenge.rw_comeagain_s01_answers) (k := 12) (CX := L2.CX0) (ps := ["calls"]) CA.end_said (by kernel_rfl) rfl ⟨rfl, by decide, by decide⟩ ?F (fun _ _ _ _ z => z)
    intro w mg fa h Y G hmg0
    obtain ⟨K, KX, c⟩ := Y
    have hmg : mg ("answers" : PySem.Str) = some (.ref fa) := by
      have e : (HandSHeadRun.topDef (PySem.Challenge.rw_comeagain_s01_answers).prog 109).name = ("answers" : PySem.Str) := by kernel_rfl
      rw [← e]
      exact hmg0
    have T : CA.Tx K mg := ⟨c, h, KX, G⟩
    have e := hmg.symm.trans T.g_answers
    cases e
    obtain ⟨fd, hb, hF⟩ := CA.ok_answers (P := (PySem.Challenge.rw_comeagain_s01_answers).prog) (w := w) T
    refine ⟨K, fd, CA.sp_answers K, KX, hb, fun H xs a hO hwi hask hx => ?_, fun base _ _ => hF base⟩
    cases hx with
    | cons h1 h2 =>
      cases h2
      cases h1 with
      | lst hs ha =>
        have e := L2.ints_dw a.1 _ ha
        subst e
        exact ⟨_, a.1, rfl, hs, hask, fun q H' hp => .lst (L2.SqL.of hp) (L2.dw_ints _)⟩
end file_CaEnd
