import PyProof.Rows.All
import Wide.All
import OpenK.AllK
import Wide.FinOn
import KE.KStateDown
import HandS.ForMost
import HandS.Defaults
import HandS.HeadHook1
import HandS.HeadHook2
import PySem.Challenge.RW_oddcrowds_k97_whole_scripts_and_choices
import Lean
import HandS.Head0
import HandS.Head1
import HandS.Head2
import HandS.HeadEnd
import HandS.Style
import HandS.List
import HandS.SetBool
import HandS.Strs
import HandS.IsInst
import HandS.Sort
import HandS.ListItems
import HandS.Conv
import HandS.DictComp
import KE.KSortKey
import HandS.More
import HandS.SortKw
import KE.GoesEnum
import KE.KItemsList
import HandS.Zip
import KE.DataMinMax
import KE.SortData
import HandS.Star
import HandS.TupMul
import HandS.RaiseMore
import HandS.SetFor
import HandS.Exc
import HandS.Deep
import HandS.Comp
set_option Elab.async false
set_option linter.all false
set_option maxRecDepth 100000
set_option maxHeartbeats 4000000
namespace OC
open PySem PySem.Spec PyProof.Rows L2
/-! ### the text by places -/
def top (i : Nat) : Stmt := PySem.Challenge.pw_oddcrowds_k97_whole_scripts_and_choices.main.body.getD i (.Pass ⟨0, 0, 0, 0⟩)
abbrev s_is_integer : Stmt := top 13
abbrev s_is_word : Stmt := top 14
abbrev s_is_row_words : Stmt := top 15
abbrev s_wrong_person : Stmt := top 18
abbrev s_wrong_people : Stmt := top 19
abbrev s_S_init : Stmt := inClass (top 20) 0
abbrev s_S_eq : Stmt := inClass (top 20) 1
abbrev s_S_people : Stmt := inClass (top 20) 2
abbrev s_S_names : Stmt := inClass (top 20) 3
abbrev s_S_has_name : Stmt := inClass (top 20) 4
abbrev s_S_person : Stmt := inClass (top 20) 5
abbrev s_S_place : Stmt := inClass (top 20) 6
abbrev s_S_voice : Stmt := inClass (top 20) 7
abbrev s_S_places : Stmt := inClass (top 20) 8
abbrev s_S_at : Stmt := inClass (top 20) 9
abbrev s_S_line : Stmt := inClass (top 20) 10
abbrev s_S_voices : Stmt := inClass (top 20) 11
abbrev s_S_is_together : Stmt := inClass (top 20) 12
abbrev s_are_like : Stmt := top 21
abbrev s_is_odd_crowd : Stmt := top 23
abbrev s_is_loud : Stmt := top 24
abbrev s_can_call : Stmt := top 25
abbrev s_drawn_in : Stmt := top 26
abbrev s_called : Stmt := top 27
abbrev s_callers : Stmt := top 28
abbrev s_nearest : Stmt := top 29
abbrev s_rounds_of : Stmt := top 30
abbrev s_voices_at : Stmt := top 32
abbrev s_gaps : Stmt := top 33
abbrev s_odd_sum : Stmt := top 34
abbrev s_even_sum : Stmt := top 35
abbrev s_corners : Stmt := top 37
abbrev s_greatest_height : Stmt := top 38
abbrev s_order_break : Stmt := top 40
abbrev s_first_place : Stmt := top 41
abbrev s_kept_widths : Stmt := top 42
abbrev s_need_like : Stmt := top 44
abbrev s_lost_sums : Stmt := top 45
abbrev s_moved_by : Stmt := top 46
abbrev s_first_fault : Stmt := top 47
abbrev s_gap_bounds : Stmt := top 48
abbrev s_told_bounds : Stmt := top 49
abbrev s_all_bounds : Stmt := top 50
abbrev s_lead_paper : Stmt := top 51
abbrev s_leads : Stmt := top 52
abbrev s_first_calls : Stmt := top 53
abbrev s_lead_bounds : Stmt := top 54
abbrev s_is_order_paper : Stmt := top 55
abbrev s_bound_of : Stmt := top 56
abbrev s_is_clash : Stmt := top 57
abbrev s_keeps_all : Stmt := top 58
abbrev s_judge_lead : Stmt := top 59
abbrev s_is_row_scripts : Stmt := top 61
abbrev s_standings_along : Stmt := top 63
abbrev s_walked : Stmt := top 64
abbrev s_first_bad : Stmt := top 65
abbrev s_calls_of : Stmt := top 66
abbrev s_fallen_leadscripts : Stmt := top 68
abbrev s_kind_of_other : Stmt := top 70
abbrev s_kept_pieces : Stmt := top 71
abbrev s_cut_pieces : Stmt := top 72
abbrev s_script_by : Stmt := top 73
abbrev s_lead_script : Stmt := top 74
abbrev s_judge_script : Stmt := top 75
abbrev s_row_kinds : Stmt := top 76
abbrev s_script_kinds : Stmt := top 77
abbrev s_is_tidy : Stmt := top 78
abbrev s_tidy_script : Stmt := top 79
abbrev s_callers_on : Stmt := top 81
abbrev s_callers_barring : Stmt := top 82
abbrev s_lost_by : Stmt := top 83
abbrev s_fewest_callers : Stmt := top 84
abbrev s_most_callers : Stmt := top 85
abbrev s_need_odd : Stmt := top 87
abbrev s_call_numbers : Stmt := top 88
abbrev s_need_number : Stmt := top 89
abbrev s_share_of : Stmt := top 90
abbrev s_stretches : Stmt := top 92
abbrev s_parted : Stmt := top 93
abbrev s_fallen_meetscripts : Stmt := top 94
abbrev s_meet_script : Stmt := top 96
abbrev s_judge_meeting : Stmt := top 97
abbrev s_price_of : Stmt := top 99
abbrev s_price_by : Stmt := top 100
abbrev s_lead_prices : Stmt := top 101
abbrev s_cheapest_script : Stmt := top 102
abbrev s_source_L : Stmt := top 104
abbrev s_pick_L : Stmt := top 105
abbrev s_of_L : Stmt := top 106
abbrev s_mixed_L : Stmt := top 107
abbrev s_names_L : Stmt := top 108
abbrev s_words_L : Stmt := top 109
abbrev s_near_people_L : Stmt := top 110
abbrev s_stops_L : Stmt := top 111
abbrev s_gaps_L : Stmt := top 112
abbrev s_wide_L : Stmt := top 113
abbrev s_heights_L : Stmt := top 114
abbrev s_turn_sum_L : Stmt := top 115
abbrev s_is_loud_L : Stmt := top 116
abbrev s_place_L : Stmt := top 117
abbrev s_called_L : Stmt := top 118
abbrev s_callers_L : Stmt := top 119
abbrev s_spots_L : Stmt := top 120
abbrev s_at_L : Stmt := top 121
abbrev s_is_in_order_L : Stmt := top 122
abbrev s_kept_L : Stmt := top 123
abbrev s_bounds_L : Stmt := top 124
abbrev s_lead_numbers_L : Stmt := top 125
abbrev s_walked_L : Stmt := top 126
abbrev s_goal_L : Stmt := top 127
abbrev s_scripts_right_L : Stmt := top 128
abbrev s_paid_L : Stmt := top 129
abbrev s_prices_right_L : Stmt := top 130
abbrev s_meeting_right_L : Stmt := top 131
abbrev s_choices_right_L : Stmt := top 132
abbrev s_law : Stmt := top 133
def d_is_integer : He.DefD := ⟨("is_integer", none), "is_integer", "is_integer", defArgs s_is_integer, defBody s_is_integer, defScope s_is_integer, [], []⟩
def d_is_word : He.DefD := ⟨("is_word", none), "is_word", "is_word", defArgs s_is_word, defBody s_is_word, defScope s_is_word, [], []⟩
def d_is_row_words : He.DefD := ⟨("is_row_words", none), "is_row", "is_row", defArgs s_is_row_words, defBody s_is_row_words, defScope s_is_row_words, [], []⟩
def d_wrong_person : He.DefD := ⟨("wrong_person", none), "wrong_person", "wrong_person", defArgs s_wrong_person, defBody s_wrong_person, defScope s_wrong_person, [], []⟩
def d_wrong_people : He.DefD := ⟨("wrong_people", none), "wrong_people", "wrong_people", defArgs s_wrong_people, defBody s_wrong_people, defScope s_wrong_people, [], []⟩
def d_S_init : He.DefD := ⟨("Standing", some "__init__"), "__init__", "Standing.__init__", defArgs s_S_init, defBody s_S_init, defScope s_S_init, [], []⟩
def d_S_eq : He.DefD := ⟨("Standing", some "__eq__"), "__eq__", "Standing.__eq__", defArgs s_S_eq, defBody s_S_eq, defScope s_S_eq, [], []⟩
def d_S_people : He.DefD := ⟨("Standing", some "people"), "people", "Standing.people", defArgs s_S_people, defBody s_S_people, defScope s_S_people, [], []⟩
def d_S_names : He.DefD := ⟨("Standing", some "names"), "names", "Standing.names", defArgs s_S_names, defBody s_S_names, defScope s_S_names, [], []⟩
def d_S_has_name : He.DefD := ⟨("Standing", some "has_name"), "has_name", "Standing.has_name", defArgs s_S_has_name, defBody s_S_has_name, defScope s_S_has_name, [], []⟩
def d_S_person : He.DefD := ⟨("Standing", some "person"), "person", "Standing.person", defArgs s_S_person, defBody s_S_person, defScope s_S_person, [], []⟩
def d_S_place : He.DefD := ⟨("Standing", some "place"), "place", "Standing.place", defArgs s_S_place, defBody s_S_place, defScope s_S_place, [], []⟩
def d_S_voice : He.DefD := ⟨("Standing", some "voice"), "voice", "Standing.voice", defArgs s_S_voice, defBody s_S_voice, defScope s_S_voice, [], []⟩
def d_S_places : He.DefD := ⟨("Standing", some "places"), "places", "Standing.places", defArgs s_S_places, defBody s_S_places, defScope s_S_places, [], []⟩
def d_S_at : He.DefD := ⟨("Standing", some "at"), "at", "Standing.at", defArgs s_S_at, defBody s_S_at, defScope s_S_at, [], []⟩
def d_S_line : He.DefD := ⟨("Standing", some "line"), "line", "Standing.line", defArgs s_S_line, defBody s_S_line, defScope s_S_line, [], []⟩
def d_S_voices : He.DefD := ⟨("Standing", some "voices"), "voices", "Standing.voices", defArgs s_S_voices, defBody s_S_voices, defScope s_S_voices, [], []⟩
def d_S_is_together : He.DefD := ⟨("Standing", some "is_together"), "is_together", "Standing.is_together", defArgs s_S_is_together, defBody s_S_is_together, defScope s_S_is_together, [], []⟩
def d_are_like : He.DefD := ⟨("are_like", none), "are_like", "are_like", defArgs s_are_like, defBody s_are_like, defScope s_are_like, [], []⟩
def d_is_odd_crowd : He.DefD := ⟨("is_odd_crowd", none), "is_odd_crowd", "is_odd_crowd", defArgs s_is_odd_crowd, defBody s_is_odd_crowd, defScope s_is_odd_crowd, [], []⟩
def d_is_loud : He.DefD := ⟨("is_loud", none), "is_loud", "is_loud", defArgs s_is_loud, defBody s_is_loud, defScope s_is_loud, [], []⟩
def d_can_call : He.DefD := ⟨("can_call", none), "can_call", "can_call", defArgs s_can_call, defBody s_can_call, defScope s_can_call, [], []⟩
def d_drawn_in : He.DefD := ⟨("drawn_in", none), "drawn_in", "drawn_in", defArgs s_drawn_in, defBody s_drawn_in, defScope s_drawn_in, [], []⟩
def d_called : He.DefD := ⟨("called", none), "called", "called", defArgs s_called, defBody s_called, defScope s_called, [], []⟩
def d_callers : He.DefD := ⟨("callers", none), "callers", "callers", defArgs s_callers, defBody s_callers, defScope s_callers, [], []⟩
def d_nearest : He.DefD := ⟨("nearest", none), "nearest", "nearest", defArgs s_nearest, defBody s_nearest, defScope s_nearest, [], []⟩
def d_rounds_of : He.DefD := ⟨("rounds_of", none), "rounds_of", "rounds_of", defArgs s_rounds_of, defBody s_rounds_of, defScope s_rounds_of, [], []⟩
def d_voices_at : He.DefD := ⟨("voices_at", none), "voices_at", "voices_at", defArgs s_voices_at, defBody s_voices_at, defScope s_voices_at, [], []⟩
def d_gaps : He.DefD := ⟨("gaps", none), "gaps", "gaps", defArgs s_gaps, defBody s_gaps, defScope s_gaps, [], []⟩
def d_odd_sum : He.DefD := ⟨("odd_sum", none), "odd_sum", "odd_sum", defArgs s_odd_sum, defBody s_odd_sum, defScope s_odd_sum, [], []⟩
def d_even_sum : He.DefD := ⟨("even_sum", none), "even_sum", "even_sum", defArgs s_even_sum, defBody s_even_sum, defScope s_even_sum, [], []⟩
def d_corners : He.DefD := ⟨("corners", none), "corners", "corners", defArgs s_corners, defBody s_corners, defScope s_corners, [], []⟩
def d_greatest_height : He.DefD := ⟨("greatest_height", none), "greatest_height", "greatest_height", defArgs s_greatest_height, defBody s_greatest_height, defScope s_greatest_height, [], []⟩
def d_order_break : He.DefD := ⟨("order_break", none), "order_break", "order_break", defArgs s_order_break, defBody s_order_break, defScope s_order_break, [], []⟩
def d_first_place : He.DefD := ⟨("first_place", none), "first_place", "first_place", defArgs s_first_place, defBody s_first_place, defScope s_first_place, [], []⟩
def d_kept_widths : He.DefD := ⟨("kept_widths", none), "kept_widths", "kept_widths", defArgs s_kept_widths, defBody s_kept_widths, defScope s_kept_widths, [], []⟩
def d_need_like : He.DefD := ⟨("need_like", none), "need_like", "need_like", defArgs s_need_like, defBody s_need_like, defScope s_need_like, [], []⟩
def d_lost_sums : He.DefD := ⟨("lost_sums", none), "lost_sums", "lost_sums", defArgs s_lost_sums, defBody s_lost_sums, defScope s_lost_sums, [], []⟩
def d_moved_by : He.DefD := ⟨("moved_by", none), "moved_by", "moved_by", defArgs s_moved_by, defBody s_moved_by, defScope s_moved_by, [], []⟩
def d_first_fault : He.DefD := ⟨("first_fault", none), "first_fault", "first_fault", defArgs s_first_fault, defBody s_first_fault, defScope s_first_fault, [], []⟩
def d_gap_bounds : He.DefD := ⟨("gap_bounds", none), "gap_bounds", "gap_bounds", defArgs s_gap_bounds, defBody s_gap_bounds, defScope s_gap_bounds, [], []⟩
def d_told_bounds : He.DefD := ⟨("told_bounds", none), "told_bounds", "told_bounds", defArgs s_told_bounds, defBody s_told_bounds, defScope s_told_bounds, [], []⟩
def d_all_bounds : He.DefD := ⟨("all_bounds", none), "all_bounds", "all_bounds", defArgs s_all_bounds, defBody s_all_bounds, defScope s_all_bounds, [], []⟩
def d_lead_paper : He.DefD := ⟨("lead_paper", none), "lead_paper", "lead_paper", defArgs s_lead_paper, defBody s_lead_paper, defScope s_lead_paper, [], []⟩
def d_leads : He.DefD := ⟨("leads", none), "leads", "leads", defArgs s_leads, defBody s_leads, defScope s_leads, [], []⟩
def d_first_calls : He.DefD := ⟨("first_calls", none), "first_calls", "first_calls", defArgs s_first_calls, defBody s_first_calls, defScope s_first_calls, [], []⟩
def d_lead_bounds : He.DefD := ⟨("lead_bounds", none), "lead_bounds", "lead_bounds", defArgs s_lead_bounds, defBody s_lead_bounds, defScope s_lead_bounds, [], []⟩
def d_is_order_paper : He.DefD := ⟨("is_order_paper", none), "is_order_paper", "is_order_paper", defArgs s_is_order_paper, defBody s_is_order_paper, defScope s_is_order_paper, [], []⟩
def d_bound_of : He.DefD := ⟨("bound_of", none), "bound_of", "bound_of", defArgs s_bound_of, defBody s_bound_of, defScope s_bound_of, [], []⟩
def d_is_clash : He.DefD := ⟨("is_clash", none), "is_clash", "is_clash", defArgs s_is_clash, defBody s_is_clash, defScope s_is_clash, [], []⟩
def d_keeps_all : He.DefD := ⟨("keeps_all", none), "keeps_all", "keeps_all", defArgs s_keeps_all, defBody s_keeps_all, defScope s_keeps_all, [], []⟩
def d_judge_lead : He.DefD := ⟨("judge_lead", none), "judge_lead", "judge_lead", defArgs s_judge_lead, defBody s_judge_lead, defScope s_judge_lead, [], []⟩
def d_is_row_scripts : He.DefD := ⟨("is_row_scripts", none), "is_row", "is_row", defArgs s_is_row_scripts, defBody s_is_row_scripts, defScope s_is_row_scripts, [], []⟩
def d_standings_along : He.DefD := ⟨("standings_along", none), "standings_along", "standings_along", defArgs s_standings_along, defBody s_standings_along, defScope s_standings_along, [], []⟩
def d_walked : He.DefD := ⟨("walked", none), "walked", "walked", defArgs s_walked, defBody s_walked, defScope s_walked, [], []⟩
def d_first_bad : He.DefD := ⟨("first_bad", none), "first_bad", "first_bad", defArgs s_first_bad, defBody s_first_bad, defScope s_first_bad, [], []⟩
def d_calls_of : He.DefD := ⟨("calls_of", none), "calls_of", "calls_of", defArgs s_calls_of, defBody s_calls_of, defScope s_calls_of, [], []⟩
def d_fallen_leadscripts : He.DefD := ⟨("fallen_leadscripts", none), "fallen", "fallen", defArgs s_fallen_leadscripts, defBody s_fallen_leadscripts, defScope s_fallen_leadscripts, [], []⟩
def d_kind_of_other : He.DefD := ⟨("kind_of_other", none), "kind_of_other", "kind_of_other", defArgs s_kind_of_other, defBody s_kind_of_other, defScope s_kind_of_other, [], []⟩
def d_kept_pieces : He.DefD := ⟨("kept_pieces", none), "kept_pieces", "kept_pieces", defArgs s_kept_pieces, defBody s_kept_pieces, defScope s_kept_pieces, [], []⟩
def d_cut_pieces : He.DefD := ⟨("cut_pieces", none), "cut_pieces", "cut_pieces", defArgs s_cut_pieces, defBody s_cut_pieces, defScope s_cut_pieces, [], []⟩
def d_script_by : He.DefD := ⟨("script_by", none), "script_by", "script_by", defArgs s_script_by, defBody s_script_by, defScope s_script_by, [], []⟩
def d_lead_script : He.DefD := ⟨("lead_script", none), "lead_script", "lead_script", defArgs s_lead_script, defBody s_lead_script, defScope s_lead_script, [], []⟩
def d_judge_script : He.DefD := ⟨("judge_script", none), "judge_script", "judge_script", defArgs s_judge_script, defBody s_judge_script, defScope s_judge_script, [], []⟩
def d_row_kinds : He.DefD := ⟨("row_kinds", none), "row_kinds", "row_kinds", defArgs s_row_kinds, defBody s_row_kinds, defScope s_row_kinds, [], []⟩
def d_script_kinds : He.DefD := ⟨("script_kinds", none), "script_kinds", "script_kinds", defArgs s_script_kinds, defBody s_script_kinds, defScope s_script_kinds, [], []⟩
def d_is_tidy : He.DefD := ⟨("is_tidy", none), "is_tidy", "is_tidy", defArgs s_is_tidy, defBody s_is_tidy, defScope s_is_tidy, [], []⟩
def d_tidy_script : He.DefD := ⟨("tidy_script", none), "tidy_script", "tidy_script", defArgs s_tidy_script, defBody s_tidy_script, defScope s_tidy_script, [], []⟩
def d_callers_on : He.DefD := ⟨("callers_on", none), "callers_on", "callers_on", defArgs s_callers_on, defBody s_callers_on, defScope s_callers_on, [], []⟩
def d_callers_barring : He.DefD := ⟨("callers_barring", none), "callers_barring", "callers_barring", defArgs s_callers_barring, defBody s_callers_barring, defScope s_callers_barring, [], []⟩
def d_lost_by : He.DefD := ⟨("lost_by", none), "lost_by", "lost_by", defArgs s_lost_by, defBody s_lost_by, defScope s_lost_by, [], []⟩
def d_fewest_callers : He.DefD := ⟨("fewest_callers", none), "fewest_callers", "fewest_callers", defArgs s_fewest_callers, defBody s_fewest_callers, defScope s_fewest_callers, [], []⟩
def d_most_callers : He.DefD := ⟨("most_callers", none), "most_callers", "most_callers", defArgs s_most_callers, defBody s_most_callers, defScope s_most_callers, [], []⟩
def d_need_odd : He.DefD := ⟨("need_odd", none), "need_odd", "need_odd", defArgs s_need_odd, defBody s_need_odd, defScope s_need_odd, [], []⟩
def d_call_numbers : He.DefD := ⟨("call_numbers", none), "call_numbers", "call_numbers", defArgs s_call_numbers, defBody s_call_numbers, defScope s_call_numbers, [], []⟩
def d_need_number : He.DefD := ⟨("need_number", none), "need_number", "need_number", defArgs s_need_number, defBody s_need_number, defScope s_need_number, [], []⟩
def d_share_of : He.DefD := ⟨("share_of", none), "share_of", "share_of", defArgs s_share_of, defBody s_share_of, defScope s_share_of, [], []⟩
def d_stretches : He.DefD := ⟨("stretches", none), "stretches", "stretches", defArgs s_stretches, defBody s_stretches, defScope s_stretches, [], []⟩
def d_parted : He.DefD := ⟨("parted", none), "parted", "parted", defArgs s_parted, defBody s_parted, defScope s_parted, [], []⟩
def d_fallen_meetscripts : He.DefD := ⟨("fallen_meetscripts", none), "fallen", "fallen", defArgs s_fallen_meetscripts, defBody s_fallen_meetscripts, defScope s_fallen_meetscripts, [], []⟩
def d_meet_script : He.DefD := ⟨("meet_script", none), "meet_script", "meet_script", defArgs s_meet_script, defBody s_meet_script, defScope s_meet_script, [], []⟩
def d_judge_meeting : He.DefD := ⟨("judge_meeting", none), "judge_meeting", "judge_meeting", defArgs s_judge_meeting, defBody s_judge_meeting, defScope s_judge_meeting, [], []⟩
def d_price_of : He.DefD := ⟨("price_of", none), "price_of", "price_of", defArgs s_price_of, defBody s_price_of, defScope s_price_of, [], []⟩
def d_price_by : He.DefD := ⟨("price_by", none), "price_by", "price_by", defArgs s_price_by, defBody s_price_by, defScope s_price_by, [], []⟩
def d_lead_prices : He.DefD := ⟨("lead_prices", none), "lead_prices", "lead_prices", defArgs s_lead_prices, defBody s_lead_prices, defScope s_lead_prices, [], []⟩
def d_cheapest_script : He.DefD := ⟨("cheapest_script", none), "cheapest_script", "cheapest_script", defArgs s_cheapest_script, defBody s_cheapest_script, defScope s_cheapest_script, [], []⟩
def d_source_L : He.DefD := ⟨("_law_source", none), "_law_source", "_law_source", defArgs s_source_L, defBody s_source_L, defScope s_source_L, [], []⟩
def d_pick_L : He.DefD := ⟨("_law_pick", none), "_law_pick", "_law_pick", defArgs s_pick_L, defBody s_pick_L, defScope s_pick_L, [], []⟩
def d_of_L : He.DefD := ⟨("_law_of", none), "_law_of", "_law_of", defArgs s_of_L, defBody s_of_L, defScope s_of_L, [], []⟩
def d_mixed_L : He.DefD := ⟨("_law_mixed", none), "_law_mixed", "_law_mixed", defArgs s_mixed_L, defBody s_mixed_L, defScope s_mixed_L, [], []⟩
def d_names_L : He.DefD := ⟨("_law_names", none), "_law_names", "_law_names", defArgs s_names_L, defBody s_names_L, defScope s_names_L, [], []⟩
def d_words_L : He.DefD := ⟨("_law_words", none), "_law_words", "_law_words", defArgs s_words_L, defBody s_words_L, defScope s_words_L, [], []⟩
def d_near_people_L : He.DefD := ⟨("_law_near_people", none), "_law_near_people", "_law_near_people", defArgs s_near_people_L, defBody s_near_people_L, defScope s_near_people_L, [], []⟩
def d_stops_L : He.DefD := ⟨("_law_stops", none), "_law_stops", "_law_stops", defArgs s_stops_L, defBody s_stops_L, defScope s_stops_L, [], []⟩
def d_gaps_L : He.DefD := ⟨("_law_gaps", none), "_law_gaps", "_law_gaps", defArgs s_gaps_L, defBody s_gaps_L, defScope s_gaps_L, [], []⟩
def d_wide_L : He.DefD := ⟨("_law_wide", none), "_law_wide", "_law_wide", defArgs s_wide_L, defBody s_wide_L, defScope s_wide_L, [], []⟩
def d_heights_L : He.DefD := ⟨("_law_heights", none), "_law_heights", "_law_heights", defArgs s_heights_L, defBody s_heights_L, defScope s_heights_L, [], []⟩
def d_turn_sum_L : He.DefD := ⟨("_law_turn_sum", none), "_law_turn_sum", "_law_turn_sum", defArgs s_turn_sum_L, defBody s_turn_sum_L, defScope s_turn_sum_L, [], []⟩
def d_is_loud_L : He.DefD := ⟨("_law_is_loud", none), "_law_is_loud", "_law_is_loud", defArgs s_is_loud_L, defBody s_is_loud_L, defScope s_is_loud_L, [], []⟩
def d_place_L : He.DefD := ⟨("_law_place", none), "_law_place", "_law_place", defArgs s_place_L, defBody s_place_L, defScope s_place_L, [], []⟩
def d_called_L : He.DefD := ⟨("_law_called", none), "_law_called", "_law_called", defArgs s_called_L, defBody s_called_L, defScope s_called_L, [], []⟩
def d_callers_L : He.DefD := ⟨("_law_callers", none), "_law_callers", "_law_callers", defArgs s_callers_L, defBody s_callers_L, defScope s_callers_L, [], []⟩
def d_spots_L : He.DefD := ⟨("_law_spots", none), "_law_spots", "_law_spots", defArgs s_spots_L, defBody s_spots_L, defScope s_spots_L, [], []⟩
def d_at_L : He.DefD := ⟨("_law_at", none), "_law_at", "_law_at", defArgs s_at_L, defBody s_at_L, defScope s_at_L, [], []⟩
def d_is_in_order_L : He.DefD := ⟨("_law_is_in_order", none), "_law_is_in_order", "_law_is_in_order", defArgs s_is_in_order_L, defBody s_is_in_order_L, defScope s_is_in_order_L, [], []⟩
def d_kept_L : He.DefD := ⟨("_law_kept", none), "_law_kept", "_law_kept", defArgs s_kept_L, defBody s_kept_L, defScope s_kept_L, [], []⟩
def d_bounds_L : He.DefD := ⟨("_law_bounds", none), "_law_bounds", "_law_bounds", defArgs s_bounds_L, defBody s_bounds_L, defScope s_bounds_L, [], []⟩
def d_lead_numbers_L : He.DefD := ⟨("_law_lead_numbers", none), "_law_lead_numbers", "_law_lead_numbers", defArgs s_lead_numbers_L, defBody s_lead_numbers_L, defScope s_lead_numbers_L, [], []⟩
def d_walked_L : He.DefD := ⟨("_law_walked", none), "_law_walked", "_law_walked", defArgs s_walked_L, defBody s_walked_L, defScope s_walked_L, [], []⟩
def d_goal_L : He.DefD := ⟨("_law_goal", none), "_law_goal", "_law_goal", defArgs s_goal_L, defBody s_goal_L, defScope s_goal_L, [], []⟩
def d_scripts_right_L : He.DefD := ⟨("_law_scripts_right", none), "_law_scripts_right", "_law_scripts_right", defArgs s_scripts_right_L, defBody s_scripts_right_L, defScope s_scripts_right_L, [], []⟩
def d_paid_L : He.DefD := ⟨("_law_paid", none), "_law_paid", "_law_paid", defArgs s_paid_L, defBody s_paid_L, defScope s_paid_L, [], []⟩
def d_prices_right_L : He.DefD := ⟨("_law_prices_right", none), "_law_prices_right", "_law_prices_right", defArgs s_prices_right_L, defBody s_prices_right_L, defScope s_prices_right_L, [], []⟩
def d_meeting_right_L : He.DefD := ⟨("_law_meeting_right", none), "_law_meeting_right", "_law_meeting_right", defArgs s_meeting_right_L, defBody s_meeting_right_L, defScope s_meeting_right_L, [], []⟩
def d_choices_right_L : He.DefD := ⟨("_law_choices_right", none), "_law_choices_right", "_law_choices_right", defArgs s_choices_right_L, defBody s_choices_right_L, defScope s_choices_right_L, [], []⟩
def d_law : He.DefD := ⟨("law", none), "law", "law", defArgs s_law, defBody s_law, defScope s_law, [], []⟩
def fnP0 : List He.DefD := [d_is_integer, d_is_word, d_is_row_words, d_wrong_person, d_wrong_people, d_S_init, d_S_eq, d_S_people, d_S_names, d_S_has_name, d_S_person, d_S_place]
def fnP1 : List He.DefD := [d_S_voice, d_S_places, d_S_at, d_S_line, d_S_voices, d_S_is_together, d_are_like, d_is_odd_crowd, d_is_loud, d_can_call, d_drawn_in, d_called]
def fnP2 : List He.DefD := [d_callers, d_nearest, d_rounds_of, d_voices_at, d_gaps, d_odd_sum, d_even_sum, d_corners, d_greatest_height, d_order_break, d_first_place, d_kept_widths]
def fnP3 : List He.DefD := [d_need_like, d_lost_sums, d_moved_by, d_first_fault, d_gap_bounds, d_told_bounds, d_all_bounds, d_lead_paper, d_leads, d_first_calls, d_lead_bounds, d_is_order_paper]
def fnP4 : List He.DefD := [d_bound_of, d_is_clash, d_keeps_all, d_judge_lead, d_is_row_scripts, d_standings_along, d_walked, d_first_bad, d_calls_of, d_fallen_leadscripts, d_kind_of_other, d_kept_pieces]
def fnP5 : List He.DefD := [d_cut_pieces, d_script_by, d_lead_script, d_judge_script, d_row_kinds, d_script_kinds, d_is_tidy, d_tidy_script, d_callers_on, d_callers_barring, d_lost_by, d_fewest_callers]
def fnP6 : List He.DefD := [d_most_callers, d_need_odd, d_call_numbers, d_need_number, d_share_of, d_stretches, d_parted, d_fallen_meetscripts, d_meet_script, d_judge_meeting, d_price_of, d_price_by]
def fnP7 : List He.DefD := [d_lead_prices, d_cheapest_script, d_source_L, d_pick_L, d_of_L, d_mixed_L, d_names_L, d_words_L, d_near_people_L, d_stops_L, d_gaps_L, d_wide_L]
def fnP8 : List He.DefD := [d_heights_L, d_turn_sum_L, d_is_loud_L, d_place_L, d_called_L, d_callers_L, d_spots_L, d_at_L, d_is_in_order_L, d_kept_L, d_bounds_L, d_lead_numbers_L]
def fnP9 : List He.DefD := [d_walked_L, d_goal_L, d_scripts_right_L, d_paid_L, d_prices_right_L, d_meeting_right_L, d_choices_right_L, d_law]
def fnAll : List He.DefD := fnP0 ++ fnP1 ++ fnP2 ++ fnP3 ++ fnP4 ++ fnP5 ++ fnP6 ++ fnP7 ++ fnP8 ++ fnP9
def faP0 : List He.Fa := [.glo "is_integer", .glo "is_word", .glo "is_row_words", .glo "wrong_person", .glo "wrong_people", .glo "are_like", .glo "is_odd_crowd", .glo "is_loud", .glo "can_call", .glo "drawn_in", .glo "called", .glo "callers"]
def faP1 : List He.Fa := [.glo "nearest", .glo "rounds_of", .glo "voices_at", .glo "gaps", .glo "odd_sum", .glo "even_sum", .glo "corners", .glo "greatest_height", .glo "order_break", .glo "first_place", .glo "kept_widths", .glo "need_like"]
def faP2 : List He.Fa := [.glo "lost_sums", .glo "moved_by", .glo "first_fault", .glo "gap_bounds", .glo "told_bounds", .glo "all_bounds", .glo "lead_paper", .glo "leads", .glo "first_calls", .glo "lead_bounds", .glo "is_order_paper", .glo "bound_of"]
def faP3 : List He.Fa := [.glo "is_clash", .glo "keeps_all", .glo "judge_lead", .glo "is_row_scripts", .glo "standings_along", .glo "walked", .glo "first_bad", .glo "calls_of", .glo "fallen_leadscripts", .glo "kind_of_other", .glo "kept_pieces", .glo "cut_pieces"]
def faP4 : List He.Fa := [.glo "script_by", .glo "lead_script", .glo "judge_script", .glo "row_kinds", .glo "script_kinds", .glo "is_tidy", .glo "tidy_script", .glo "callers_on", .glo "callers_barring", .glo "lost_by", .glo "fewest_callers", .glo "most_callers"]
def faP5 : List He.Fa := [.glo "need_odd", .glo "call_numbers", .glo "need_number", .glo "share_of", .glo "stretches", .glo "parted", .glo "fallen_meetscripts", .glo "meet_script", .glo "judge_meeting", .glo "price_of", .glo "price_by", .glo "lead_prices"]
def faP6 : List He.Fa := [.glo "cheapest_script", .glo "_law_source", .glo "_law_pick", .glo "_law_of", .glo "_law_mixed", .glo "_law_names", .glo "_law_words", .glo "_law_near_people", .glo "_law_stops", .glo "_law_gaps", .glo "_law_wide", .glo "_law_heights"]
def faP7 : List He.Fa := [.glo "_law_turn_sum", .glo "_law_is_loud", .glo "_law_place", .glo "_law_called", .glo "_law_callers", .glo "_law_spots", .glo "_law_at", .glo "_law_is_in_order", .glo "_law_kept", .glo "_law_bounds", .glo "_law_lead_numbers", .glo "_law_walked"]
def faP8 : List He.Fa := [.glo "_law_goal", .glo "_law_scripts_right", .glo "_law_paid", .glo "_law_prices_right", .glo "_law_meeting_right", .glo "_law_choices_right", .glo "law", .glo "Standing", .free "abs", .free "all", .free "bool", .free "enumerate"]
def faP9 : List He.Fa := [.free "int", .free "isinstance", .free "len", .free "list", .free "max", .free "min", .free "range", .free "repr", .free "sorted", .free "str", .free "sum", .free "super"]
def faP10 : List He.Fa := [.free "tuple", .free "zip", .str "LETTERS" "abcdefghijklmnopqrstuvwxyz", .str "FIGURES" "0123456789", .cls "Standing", .noat "Standing" "own_people", .mkr "Standing", .meth "Standing" "people", .meth "Standing" "names", .meth "Standing" "has_name", .meth "Standing" "person", .meth "Standing" "place"]
def faP11 : List He.Fa := [.meth "Standing" "voice", .meth "Standing" "places", .meth "Standing" "at", .meth "Standing" "line", .meth "Standing" "voices", .meth "Standing" "is_together"]
def faAll : List He.Fa := faP0 ++ faP1 ++ faP2 ++ faP3 ++ faP4 ++ faP5 ++ faP6 ++ faP7 ++ faP8 ++ faP9 ++ faP10 ++ faP11
def loP0 : List Str := ["__name__", "CrowdError", "UnlikePeople", "EvenVoices", "BadStanding", "NoLead", "BadCall", "BadNumber", "NameMissing", "UnknownName", "LETTERS", "FIGURES"]
def loP1 : List Str := ["is_integer", "is_word", "is_row", "is_row_words", "wrong_person", "wrong_people", "Standing", "are_like", "is_odd_crowd", "is_loud", "can_call", "drawn_in"]
def loP2 : List Str := ["called", "callers", "nearest", "rounds_of", "voices_at", "gaps", "odd_sum", "even_sum", "corners", "greatest_height", "order_break", "first_place"]
def loP3 : List Str := ["kept_widths", "need_like", "lost_sums", "moved_by", "first_fault", "gap_bounds", "told_bounds", "all_bounds", "lead_paper", "leads", "first_calls", "lead_bounds"]
def loP4 : List Str := ["is_order_paper", "bound_of", "is_clash", "keeps_all", "judge_lead", "is_row_scripts", "standings_along", "walked", "first_bad", "calls_of", "fallen", "fallen_leadscripts"]
def loP5 : List Str := ["kind_of_other", "kept_pieces", "cut_pieces", "script_by", "lead_script", "judge_script", "row_kinds", "script_kinds", "is_tidy", "tidy_script", "callers_on", "callers_barring"]
def loP6 : List Str := ["lost_by", "fewest_callers", "most_callers", "need_odd", "call_numbers", "need_number", "share_of", "stretches", "parted", "fallen_meetscripts", "meet_script", "judge_meeting"]
def loP7 : List Str := ["price_of", "price_by", "lead_prices", "cheapest_script", "_law_source", "_law_pick", "_law_of", "_law_mixed", "_law_names", "_law_words", "_law_near_people", "_law_stops"]
def loP8 : List Str := ["_law_gaps", "_law_wide", "_law_heights", "_law_turn_sum", "_law_is_loud", "_law_place", "_law_called", "_law_callers", "_law_spots", "_law_at", "_law_is_in_order", "_law_kept"]
def loP9 : List Str := ["_law_bounds", "_law_lead_numbers", "_law_walked", "_law_goal", "_law_scripts_right", "_law_paid", "_law_prices_right", "_law_meeting_right", "_law_choices_right"]
def loAll : List Str := loP0 ++ loP1 ++ loP2 ++ loP3 ++ loP4 ++ loP5 ++ loP6 ++ loP7 ++ loP8 ++ loP9
end OC
set_option maxHeartbeats 0
namespace OC
open PySem PySem.Spec PyProof.Rows L2
/-- a function and its code; a class, its dict, its functions -/
def nearF (g : Addr → Option Obj) (a : Addr) : List Addr := match g a with
  | some ⟨_, _, .func fd, _⟩ => a :: He.refV fd.code
  | _ => []
def nearA (g : Addr → Option Obj) (a : Addr) : List Addr := match g a with
  | some ⟨_, _, .func fd, _⟩ => a :: He.refV fd.code
  | some ⟨_, _, .cls cd, _⟩ => a :: cd.ns :: (match g cd.ns with
    | some ⟨_, _, .dict es _, _⟩ => es.toList.flatMap fun e => (He.refV e.val).flatMap (nearF g)
    | _ => [])
  | _ => []
def placesM (g : Addr → Option Obj) : List Addr := mainGlobals :: (match g mainGlobals with
  | some ⟨_, _, .dict es _, _⟩ => es.toList.flatMap fun e => (He.refV e.val).flatMap (nearA g)
  | _ => [])
def lookM (fa : List He.Fa) (fn : List He.DefD) (g : Addr → Option Obj) : He.AlD := He.obsD fa fn (He.frG g (placesM g))
def hookM (fa : List He.Fa) (fn : List He.DefD) : PySem.W.Hook where
  α := He.AlD
  obs := fun s => lookM fa fn s.heap.get?
  val := fun _ => He.valD fn
  says := fun _ h => ∃ K : PySem.W.Frag, K.In h ∧ He.SaysD fa fn K
  of := fun _ _ e => ⟨_, He.frG_in, e⟩
  keeps := fun _ _ _ ⟨K, hK, c⟩ k => ⟨K, PySem.W.Frag.In.keeps hK k, c⟩
abbrev R : PySem.W.OpenRow := PySem.W.OpenLaw.row PySem.Challenge.rw_oddcrowds_k97_whole_scripts_and_choices
abbrev hk : PySem.W.Hook := hookM faAll fnAll
def obM (fa : List He.Fa) (fn : List He.DefD) (s : PySem.W.SharedT) : He.AlD := lookM fa fn (HandSHeadRun.getT s)
abbrev ob (s : PySem.W.SharedT) : He.AlD := obM faAll fnAll s
theorem ob_eq (s : PySem.W.SharedT) : ob s = hk.obs s.abs := by
  have e : HandSHeadRun.getT s = s.abs.heap.get? := funext (HandSHeadRun.getT_eq s)
  show lookM faAll fnAll (HandSHeadRun.getT s) = _
  rw [e]
  rfl
/-- what two looks see at the same end -/
theorem look_join {fa : List He.Fa} {f1 f2 : List He.DefD} {g : Addr → Option Obj} (h1 : lookM fa f1 g = He.valD f1) (h2 : lookM [] f2 g = He.valD f2) : lookM fa (f1 ++ f2) g = He.valD (f1 ++ f2) := by
  unfold lookM He.obsD He.valD at h1 h2 ⊢
  obtain ⟨a1, b1⟩ := Prod.mk.inj h1
  obtain ⟨a2, b2⟩ := Prod.mk.inj h2
  rw [Bool.and_eq_true] at a1 a2
  refine Prod.ext ?_ ?_
  · show (_ && (f1 ++ f2).all _) = true
    rw [List.all_append, a1.1, a1.2, a2.2]; rfl
  · show (f1 ++ f2).map _ = (f1 ++ f2).map _
    rw [List.map_append, List.map_append, b1, b2]
theorem run_join {fa : List He.Fa} {f1 f2 : List He.DefD} {q : Program} {n : Nat} {lo : List Str} {w : World} (h1 : HandSHeadRun.RunEq R q (hookM fa f1) (obM fa f1) n lo w) (h2 : HandSHeadRun.RunEq R q (hookM [] f2) (obM [] f2) n lo w) : HandSHeadRun.RunEq R q (hookM fa (f1 ++ f2)) (obM fa (f1 ++ f2)) n lo w := by
  intro os
  have e1 := h1 os
  have e2 := h2 os
  rw [Option.map_eq_some_iff] at e1 e2
  obtain ⟨s, k1, k2⟩ := e1
  obtain ⟨s', k3, k4⟩ := e2
  rw [k1] at k3
  cases k3
  rw [k1]
  obtain ⟨a1, a2⟩ := Prod.mk.inj k2
  obtain ⟨a2, a3⟩ := Prod.mk.inj a2
  obtain ⟨_, b2⟩ := Prod.mk.inj k4
  obtain ⟨_, b3⟩ := Prod.mk.inj b2
  show some (_, _, _) = some (_, _, _)
  rw [a1, a2]
  exact congrArg (fun z => some (true, _, z)) (look_join a3 b3)
def fn1 : List He.DefD := fnAll.take 58
def fn2 : List He.DefD := fnAll.drop 58
theorem run1 (w : World) : HandSHeadRun.RunEq R (PySem.W.view R.prog [133]) (hookM faAll fn1) (obM faAll fn1) 6100 loAll w := by
  intro os
  kernel_rfl
theorem run2 (w : World) : HandSHeadRun.RunEq R (PySem.W.view R.prog [133]) (hookM [] fn2) (obM [] fn2) 6100 loAll w := by
  intro os
  kernel_rfl
theorem run (w : World) : HandSHeadRun.RunEq R (PySem.W.view R.prog [133]) hk ob 6100 loAll w := by
  have e : fn1 ++ fn2 = fnAll := List.take_append_drop 58 fnAll
  have z := run_join (run1 w) (run2 w)
  rw [e] at z
  exact z
end OC
set_option maxHeartbeats 4000000
/-! The data layer: what a value stands for (D), and what expressions and statements make of it. -/
namespace OC
open PySem PySem.Spec L2

/-- a person -/
structure Per where
  nm : Str
  pl : Int
  vc : Int
  deriving DecidableEq

inductive D where
  | non | bl (b : Bool) | int (i : Int) | str (s : Str) | lst (ds : List D) | tup (ds : List D) | std (ps : List Per) | src | dic (ks : List Str) | ty (n : String) | rng (lo hi : Int) | pdic (ps : List Per)

def Ex (H H' : Hp) : Prop := ∀ a o, H a = some o → H' a = some o
theorem Ex.rfl' {H : Hp} : Ex H H := fun _ _ h => h
theorem Ex.tr {H H1 H2 : Hp} (a : Ex H H1) (b : Ex H1 H2) : Ex H H2 := fun x o h => b x o (a x o h)
theorem Ex.new {H : Hp} {p : Addr} {o : HO} (h : H p = none) : Ex H (upd H p o) := fun a u e => by
  rw [upd_ne (ne_of_none e h)]; exact e
theorem Ex.free {H H' : Hp} {p : Addr} (e : Ex H H') (h : H' p = none) : H p = none := by
  cases q : H p with
  | none => rfl
  | some o => rw [e p o q] at h; cases h
theorem Ex.upd2 {H H' : Hp} {p : Addr} {o : HO} (e : Ex H H') : Ex (upd H p o) (upd H' p o) := fun a u h => by
  by_cases q : a = p
  · subst q; rw [upd_same] at h ⊢; exact h
  · rw [upd_ne q] at h ⊢; exact e a u h
theorem Ex.updR {H H' : Hp} {p : Addr} {o : HO} (e : Ex H H') (h : H p = none) : Ex H (upd H' p o) := fun a u ha => by
  rw [upd_ne (ne_of_none ha h)]; exact e a u ha
theorem Ex.updL {H H' : Hp} {p : Addr} {o : HO} (e : Ex H H') (h : H' p = some o) : Ex (upd H p o) H' := fun a u ha => by
  by_cases q : a = p
  · subst q; rw [upd_same] at ha; cases ha; exact h
  · rw [upd_ne q] at ha; exact e a u ha

/-- the person's tuple; the pairs of a standing's dict -/
def perV (p : Per) : List V := [.str p.nm, .int p.pl, .int p.vc]
def KvP (H : Hp) : List Per → List (Key × V) → Prop := Paired fun p kv => kv.1 = Sum.inr p.nm ∧ ∃ t, kv.2 = .ref t ∧ H t = some (.tup (perV p))
theorem Paired.imp {α β : Type} {F F' : α → β → Prop} : ∀ {l : List α} {m : List β}, Paired F l m → (∀ a b, F a b → F' a b) → Paired F' l m
  | _, _, .nil, _ => .nil
  | _, _, .cons a b, h => .cons (h _ _ a) (Paired.imp b h)
theorem KvP.mono {H H' : Hp} (e : Ex H H') {ps : List Per} {kvs : List (Key × V)} (h : KvP H ps kvs) : KvP H' ps kvs :=
  Paired.imp h fun _ _ ⟨a, t, b, c⟩ => ⟨a, t, b, e _ _ c⟩

mutual
inductive RD (C S : Addr) (H : Hp) : D → V → Prop
  | non : RD C S H .non .non
  | bl (b : Bool) : RD C S H (.bl b) (.bl b)
  | int (i : Int) : RD C S H (.int i) (.int i)
  | str (s : Str) : RD C S H (.str s) (.str s)
  | lst {ds : List D} {xs : List V} {a : Addr} : H a = some (.lst xs) → RDs C S H ds xs → RD C S H (.lst ds) (.ref a)
  | tup {ds : List D} {xs : List V} {a : Addr} : H a = some (.tup xs) → RDs C S H ds xs → RD C S H (.tup ds) (.ref a)
  | std {ps : List Per} {a dx d : Addr} {kvs : List (Key × V)} : H a = some (.ins C dx [("own_people", .ref d)]) → H d = some (.dK kvs) → KvP H ps kvs → RD C S H (.std ps) (.ref a)
  | src : RD C S H .src (.ref S)
  | dic {ks : List Str} {a : Addr} {kvs : List (Key × V)} : H a = some (.dK kvs) → kvs.map (·.1) = ks.map Sum.inr → RD C S H (.dic ks) (.ref a)
  | ty (n : String) : RD C S H (.ty n) (.ty n)
  | rng {lo hi : Int} {a : Addr} : H a = some (.rng lo hi) → RD C S H (.rng lo hi) (.ref a)
  | pdic {ps : List Per} {d : Addr} {kvs : List (Key × V)} : H d = some (.dK kvs) → KvP H ps kvs → RD C S H (.pdic ps) (.ref d)
inductive RDs (C S : Addr) (H : Hp) : List D → List V → Prop
  | nil : RDs C S H [] []
  | cons {d : D} {v : V} {ds : List D} {vs : List V} : RD C S H d v → RDs C S H ds vs → RDs C S H (d :: ds) (v :: vs)
end
mutual
theorem RD.mono {C S : Addr} {H H' : Hp} (e : Ex H H') : ∀ {d : D} {v : V}, RD C S H d v → RD C S H' d v
  | _, _, .non => .non
  | _, _, .bl b => .bl b
  | _, _, .int i => .int i
  | _, _, .str s => .str s
  | _, _, .lst h r => .lst (e _ _ h) (RDs.mono e r)
  | _, _, .tup h r => .tup (e _ _ h) (RDs.mono e r)
  | _, _, .std h1 h2 h3 => .std (e _ _ h1) (e _ _ h2) (h3.mono e)
  | _, _, .src => .src
  | _, _, .dic h k => .dic (e _ _ h) k
  | _, _, .ty n => .ty n
  | _, _, .rng h => .rng (e _ _ h)
  | _, _, .pdic h k => .pdic (e _ _ h) (k.mono e)
theorem RDs.mono {C S : Addr} {H H' : Hp} (e : Ex H H') : ∀ {ds : List D} {vs : List V}, RDs C S H ds vs → RDs C S H' ds vs
  | _, _, .nil => .nil
  | _, _, .cons a b => .cons (RD.mono e a) (RDs.mono e b)
end
section
variable {C S : Addr} {H : Hp}
theorem RDs.len : ∀ {ds : List D} {vs : List V}, RDs C S H ds vs → ds.length = vs.length
  | _, _, .nil => rfl
  | _, _, .cons _ b => congrArg (· + 1) (RDs.len b)
theorem RDs.at : ∀ {ds : List D} {vs : List V} {i : Nat} {v : V}, RDs C S H ds vs → vs[i]? = some v → ∃ d, ds[i]? = some d ∧ RD C S H d v
  | _, _, _, _, .nil, e => by simp at e
  | _, _, 0, _, .cons a _, e => by simp at e; subst e; exact ⟨_, rfl, a⟩
  | _, _, i + 1, v, .cons _ b, e => by
    obtain ⟨d, h1, h2⟩ := RDs.at (i := i) (v := v) b (by simpa using e)
    exact ⟨d, by simpa using h1, h2⟩
theorem RDs.atD : ∀ {ds : List D} {vs : List V} {i : Nat} {d : D}, RDs C S H ds vs → ds[i]? = some d → ∃ v, vs[i]? = some v ∧ RD C S H d v
  | _, _, _, _, .nil, e => by simp at e
  | _, _, 0, _, .cons a _, e => by simp at e; subst e; exact ⟨_, rfl, a⟩
  | _, _, i + 1, v, .cons _ b, e => by
    obtain ⟨d, h1, h2⟩ := RDs.atD (i := i) (d := v) b (by simpa using e)
    exact ⟨d, by simpa using h1, h2⟩
theorem RDs.app : ∀ {ds es : List D} {vs ws : List V}, RDs C S H ds vs → RDs C S H es ws → RDs C S H (ds ++ es) (vs ++ ws)
  | _, _, _, _, .nil, h => h
  | _, _, _, _, .cons a b, h => .cons a (RDs.app b h)
theorem RDs.take : ∀ {ds : List D} {vs : List V} (n : Nat), RDs C S H ds vs → RDs C S H (ds.take n) (vs.take n)
  | _, _, 0, _ => .nil
  | _, _, n + 1, .nil => .nil
  | _, _, n + 1, .cons a b => .cons a (RDs.take n b)
theorem RDs.drop : ∀ {ds : List D} {vs : List V} (n : Nat), RDs C S H ds vs → RDs C S H (ds.drop n) (vs.drop n)
  | _, _, 0, h => h
  | _, _, n + 1, .nil => .nil
  | _, _, n + 1, .cons _ b => RDs.drop n b
theorem RDs.snoc {ds : List D} {vs : List V} {d : D} {v : V} (h : RDs C S H ds vs) (r : RD C S H d v) : RDs C S H (ds ++ [d]) (vs ++ [v]) := h.app (.cons r .nil)
theorem RDs.ints : ∀ {ns : List Int} {vs : List V}, RDs C S H (ns.map D.int) vs → vs = ns.map V.int
  | [], _, .nil => rfl
  | n :: ns, _, .cons (.int _) b => by rw [RDs.ints b]; rfl
theorem RDs.ofInts : ∀ (ns : List Int), RDs C S H (ns.map D.int) (ns.map V.int)
  | [] => .nil
  | n :: ns => .cons (.int n) (RDs.ofInts ns)
theorem RDs.strs : ∀ {ns : List Str} {vs : List V}, RDs C S H (ns.map D.str) vs → vs = ns.map V.str
  | [], _, .nil => rfl
  | n :: ns, _, .cons (.str _) b => by rw [RDs.strs b]; rfl
theorem RDs.ofStrs : ∀ (ns : List Str), RDs C S H (ns.map D.str) (ns.map V.str)
  | [] => .nil
  | n :: ns => .cons (.str n) (RDs.ofStrs ns)
theorem RDs.bls : ∀ {ns : List Bool} {vs : List V}, RDs C S H (ns.map D.bl) vs → vs = ns.map V.bl
  | [], _, .nil => rfl
  | n :: ns, _, .cons (.bl _) b => by rw [RDs.bls b]; rfl
end

/-- the law's source, if it is there: its dict, its cells -/
structure Sc where
  on : Bool
  s : Addr
  c : Addr
def SrcOk (Z : Sc) (H : Hp) : Prop := Z.on = true → Z.s ≠ Z.c ∧ ∃ (cs : List Int) (left mixed turn : Int), 0 ≤ left ∧ 0 ≤ mixed ∧ (∀ n ∈ cs, 0 ≤ n) ∧ mixed < 2147483647 ∧
  H Z.s = some (.dK [(.inr "cells", .ref Z.c), (.inr "left", .int left), (.inr "mixed", .int mixed), (.inr "turn", .int turn)]) ∧ H Z.c = some (.lst (cs.map V.int))

/-- what may have happened: B what is shared, H all; the source alone may change -/
structure Fr (Z : Sc) (B H B' H' : Hp) : Prop where
  b : Ex B B'
  h : ∀ a o, H a = some o → (Z.on = true → a ≠ Z.s ∧ a ≠ Z.c) → H' a = some o
  s : Ex B' H'
  hid : ∀ a o, H a = some o → B a = none → B' a = none
  src : SrcOk Z H'
section
variable {Z : Sc} {B H B' H' B2 H2 : Hp}
theorem Fr.rfl' (s : Ex B H) (src : SrcOk Z H) : Fr Z B H B H := ⟨Ex.rfl', fun _ _ h _ => h, s, fun _ _ _ n => n, src⟩
theorem Fr.tr (f : Fr Z B H B' H') (g : Fr Z B' H' B2 H2) (s0 : SrcOk Z H) : Fr Z B H B2 H2 := by
  refine ⟨f.b.tr g.b, fun a o h z => g.h a o (f.h a o h z) z, g.s, fun a o h n => ?_, g.src⟩
  have n1 := f.hid a o h n
  by_cases q : Z.on = true ∧ (a = Z.s ∨ a = Z.c)
  · obtain ⟨_, cs, l, m, t, _, _, _, _, e1, e2⟩ := f.src q.1
    rcases q.2 with e | e
    · subst e; exact g.hid _ _ e1 n1
    · subst e; exact g.hid _ _ e2 n1
  · exact g.hid a o (f.h a o h fun z => ⟨fun e => q ⟨z, .inl e⟩, fun e => q ⟨z, .inr e⟩⟩) n1
/-- a new shared object -/
theorem SrcOk.new {p : Addr} {o : HO} (h : SrcOk Z H) (n : H p = none) : SrcOk Z (upd H p o) := fun z => by
  obtain ⟨ne, cs, l, m, t, a1, a2, a3, a4, e1, e2⟩ := h z
  exact ⟨ne, cs, l, m, t, a1, a2, a3, a4, by rw [upd_ne (ne_of_none e1 n)]; exact e1, by rw [upd_ne (ne_of_none e2 n)]; exact e2⟩
theorem Fr.new {p : Addr} {o : HO} (f : Fr Z B H B' H') (n : H' p = none) (n0 : H p = none) : Fr Z B H (upd B' p o) (upd H' p o) :=
  ⟨f.b.updR (by cases q : B p with
    | none => rfl
    | some u => exact absurd (f.s p u (f.b p u q)) (by rw [n]; exact fun e => nomatch e)),
   fun a u h z => by rw [upd_ne (ne_of_none h n0)]; exact f.h a u h z, f.s.upd2,
   fun a u h nb => by rw [upd_ne (ne_of_none h n0)]; exact f.hid a u h nb, f.src.new n⟩
theorem Fr.free (f : Fr Z B H B' H') (s0 : SrcOk Z H) {p : Addr} (n : H' p = none) : H p = none := by
  cases q : H p with
  | none => rfl
  | some u =>
    by_cases z : Z.on = true ∧ (p = Z.s ∨ p = Z.c)
    · obtain ⟨_, cs, l, m, t, _, _, _, _, e1, e2⟩ := f.src z.1
      rcases z.2 with e | e
      · subst e; rw [n] at e1; cases e1
      · subst e; rw [n] at e2; cases e2
    · rw [f.h p u q fun y => ⟨fun e => z ⟨y, .inl e⟩, fun e => z ⟨y, .inr e⟩⟩] at n; cases n
end

section
variable {Z : Sc}
/-- an own list is given away -/
theorem Fr.give {B H B' H' : Hp} {p : Addr} {o : HO} (f : Fr Z B H B' H') (n0 : H p = none) (nb : B p = none) (h : H' p = some o) : Fr Z B H (L2.upd B' p o) H' :=
  ⟨f.b.updR nb, f.h, f.s.updL h, fun a u e n => by rw [upd_ne (ne_of_none e n0)]; exact f.hid a u e n, f.src⟩
end
/-! ### bindings of slots -/
inductive L where
  | d (x : D) | own (ds : List D) | own2 (dss : List (List D)) | odic (ks : List Str)
abbrev Rho := List (Option L)
def Own1 (C : Addr) (Z : Sc) (H0 B H : Hp) (ds : List D) (p : Addr) : Prop := H0 p = none ∧ B p = none ∧ ∃ xs, H p = some (.lst xs) ∧ RDs C Z.s B ds xs
def OwnD (H0 B H : Hp) (ks : List Str) (p : Addr) : Prop := H0 p = none ∧ B p = none ∧ ∃ kvs : List (Key × V), H p = some (.dK kvs) ∧ kvs.map (·.1) = ks.map Sum.inr
def RL (C : Addr) (Z : Sc) (H0 B H : Hp) : L → V → Prop
  | .d x, v => RD C Z.s B x v
  | .own ds, v => ∃ p, v = .ref p ∧ Own1 C Z H0 B H ds p
  | .odic ks, v => ∃ p, v = .ref p ∧ OwnD H0 B H ks p
  | .own2 dss, v => ∃ p qs, v = .ref p ∧ H0 p = none ∧ B p = none ∧ H p = some (.lst (qs.map V.ref)) ∧ qs.Nodup ∧ p ∉ qs ∧ Paired (fun ds q => Own1 C Z H0 B H ds q) dss qs
/-- the addresses that a slot owns -/
def Foot (H : Hp) : L → V → Addr → Prop
  | .own _, .ref p, a => a = p
  | .odic _, .ref p, a => a = p
  | .own2 _, .ref p, a => a = p ∨ ∃ xs, H p = some (.lst xs) ∧ V.ref a ∈ xs
  | _, _, _ => False
structure RS (C : Addr) (Z : Sc) (B0 H0 B H : Hp) (r : Rho) (σ : St) : Prop where
  s0 : SrcOk Z H0
  hz : Z.on = true → B0 Z.s = none ∧ B0 Z.c = none
  fr : Fr Z B0 H0 B H
  len : σ.length = r.length
  at_ : ∀ (i : Nat) (l : L), r[i]? = some (some l) → ∃ v, σ[i]? = some (some v) ∧ RL C Z H0 B H l v
  ap : ∀ (i j : Nat) (l m : L) (v w : V) (a : Addr), r[i]? = some (some l) → r[j]? = some (some m) → σ[i]? = some (some v) → σ[j]? = some (some w) → i ≠ j → Foot H l v a → ¬ Foot H m w a
section
variable {C : Addr} {Z : Sc} {B0 H0 B H B' H' : Hp} {r r' : Rho} {σ σ' : St}
theorem SrcOk.ne {p : Addr} (s : SrcOk Z H) (n : H p = none) : Z.on = true → p ≠ Z.s ∧ p ≠ Z.c := fun z => by
  obtain ⟨_, cs, l, m, t, _, _, _, _, e1, e2⟩ := s z
  exact ⟨fun e => (by subst e; rw [n] at e1; cases e1), fun e => (by subst e; rw [n] at e2; cases e2)⟩
theorem Own1.step {ds : List D} {p : Addr} (s0 : SrcOk Z H0) (f : Fr Z B H B' H') (h : Own1 C Z H0 B H ds p) : Own1 C Z H0 B' H' ds p := by
  obtain ⟨n0, nb, xs, e, r⟩ := h
  exact ⟨n0, f.hid p _ e nb, xs, f.h p _ e (s0.ne n0), r.mono f.b⟩
theorem RL.step {l : L} {v : V} (s0 : SrcOk Z H0) (f : Fr Z B H B' H') (h : RL C Z H0 B H l v) : RL C Z H0 B' H' l v := by
  cases l with
  | d x => exact RD.mono f.b h
  | own ds => obtain ⟨p, e, o⟩ := h; exact ⟨p, e, o.step s0 f⟩
  | odic ks => obtain ⟨p, e, n0, nb, kvs, hp, hk⟩ := h; exact ⟨p, e, n0, f.hid p _ hp nb, kvs, f.h p _ hp (s0.ne n0), hk⟩
  | own2 dss =>
    obtain ⟨p, qs, e, n0, nb, hp, nd, np, pr⟩ := h
    exact ⟨p, qs, e, n0, f.hid p _ hp nb, f.h p _ hp (s0.ne n0), nd, np, Paired.imp pr fun _ _ o => o.step s0 f⟩
theorem Foot.back {l : L} {v : V} {a : Addr} (s0 : SrcOk Z H0) (f : Fr Z B H B' H') (h : RL C Z H0 B H l v) (k : Foot H' l v a) : Foot H l v a := by
  cases l with
  | d x => cases v <;> exact k
  | own ds => cases v <;> exact k
  | odic ds => cases v <;> exact k
  | own2 dss =>
    obtain ⟨p, qs, e, n0, nb, hp, nd, np, pr⟩ := h
    subst e
    rcases k with k | ⟨xs, k1, k2⟩
    · exact .inl k
    · rw [f.h p _ hp (s0.ne n0)] at k1
      exact .inr ⟨_, hp, by cases k1; exact k2⟩
theorem RS.step (R : RS C Z B0 H0 B H r σ) (f : Fr Z B H B' H') : RS C Z B0 H0 B' H' r σ := by
  refine ⟨R.s0, R.hz, R.fr.tr f R.s0, R.len, fun i l e => ?_, fun i j l m v w a e1 e2 e3 e4 ne k1 k2 => ?_⟩
  · obtain ⟨v, e1, h⟩ := R.at_ i l e
    exact ⟨v, e1, h.step R.s0 f⟩
  · obtain ⟨v', q1, h1⟩ := R.at_ i l e1
    rw [e3] at q1; cases q1
    obtain ⟨w', q2, h2⟩ := R.at_ j m e2
    rw [e4] at q2; cases q2
    exact R.ap i j l m v w a e1 e2 e3 e4 ne (Foot.back R.s0 f h1 k1) (Foot.back R.s0 f h2 k2)
/-- r' knows less than r -/
def Le (r' r : Rho) : Prop := r'.length = r.length ∧ ∀ (i : Nat) (l : L), r'[i]? = some (some l) → r[i]? = some (some l)
theorem RS.weak (R : RS C Z B0 H0 B H r σ) (h : Le r' r) : RS C Z B0 H0 B H r' σ :=
  ⟨R.s0, R.hz, R.fr, R.len.trans h.1.symm, fun i l e => R.at_ i l (h.2 i l e), fun i j l m v w a e1 e2 => R.ap i j l m v w a (h.2 i l e1) (h.2 j m e2)⟩
theorem RS.sB (R : RS C Z B0 H0 B H r σ) : Ex B H := R.fr.s
theorem RS.src (R : RS C Z B0 H0 B H r σ) : SrcOk Z H := R.fr.src
/-- a slot is set to shared data -/
theorem RS.set (R : RS C Z B0 H0 B H r σ) {i : Nat} {x : D} {v : V} (h : RD C Z.s B x v) : RS C Z B0 H0 B H (r.set i (some (.d x))) (σ.set i (some v)) := by
  refine ⟨R.s0, R.hz, R.fr, by rw [List.length_set, List.length_set]; exact R.len, fun j l e => ?_, fun j k l m u w a e1 e2 e3 e4 ne k1 k2 => ?_⟩
  · by_cases q : i = j
    · subst q
      have hl : i < r.length := by
        have := (List.getElem?_eq_some_iff.mp e).1
        rwa [List.length_set] at this
      rw [List.getElem?_set_self hl] at e
      cases e
      exact ⟨v, List.getElem?_set_self (by rw [R.len]; exact hl), h⟩
    · rw [List.getElem?_set_ne q] at e ⊢
      exact R.at_ j l e
  · have nf : ∀ (j : Nat) (l : L) (u : V) (a : Addr), (r.set i (some (.d x)))[j]? = some (some l) → Foot H l u a → i ≠ j := fun j l u a e k q => by
      subst q
      have hl : i < r.length := by
        have := (List.getElem?_eq_some_iff.mp e).1
        rwa [List.length_set] at this
      rw [List.getElem?_set_self hl] at e
      cases e
      cases u <;> exact k
    have q1 := nf j l u a e1 k1
    have q2 := nf k m w a e2 k2
    rw [List.getElem?_set_ne q1] at e1 e3
    rw [List.getElem?_set_ne q2] at e2 e4
    exact R.ap j k l m u w a e1 e2 e3 e4 ne k1 k2
end
end OC
set_option maxHeartbeats 4000000
/-! What expressions evaluate to. -/
namespace OC
open PySem PySem.Spec L2

structure Mo where
  P : Program
  w : World
  K : PySem.W.Frag
  mg : Str → Option Value
  base : Heap
  C : Addr
structure G where
  N : List Str
  sc : Scope
  fn : Str → Bool
  k : Nat
structure Okx (M : Mo) (g : G) (X : Cx) : Prop where
  p : X.prog = M.P
  w : X.w = M.w
  K : X.K = M.K
  mg : X.mg = M.mg
  base : X.base = M.base
  N : X.N = g.N
  nd : X.N.Nodup
  sc : X.env.scope = g.sc
  fn : X.fn = g.fn
  calm : X.calm = true
  room : Room g.k X.A
  xe : X.xe = fun _ _ => False

/-! ### the best readings -/
def wE (X : Cx) (e : Expr) : TE := fun σ H Q => ∃ t, PE X e t ∧ t σ H Q
theorem pe_w {X : Cx} {e : Expr} : PE X e (wE X e) := ⟨fun pins s σ H Q I ⟨t, p, h⟩ => p.run pins s σ H Q I h⟩
def wT (X : Cx) (e : Expr) : TT := fun σ H Q => ∃ t, PT X e t ∧ t σ H Q
theorem pt_w {X : Cx} {e : Expr} : PT X e (wT X e) := ⟨fun pins s σ H Q I ⟨t, p, h⟩ => p.run pins s σ H Q I h⟩
def wW (X : Cx) (e : Expr) : TT := fun σ H Q => ∃ t, PW X e t ∧ t σ H Q
theorem pw_w {X : Cx} {e : Expr} : PW X e (wW X e) := ⟨fun wh pins s σ H Q I ⟨t, p, h⟩ => p.run wh pins s σ H Q I h⟩
def wA (X : Cx) (es : List Expr) : TA := fun σ H Q => ∃ t, PA X es t ∧ t σ H Q
theorem pa_w {X : Cx} {es : List Expr} : PA X es (wA X es) := ⟨fun pos pins s σ H Q I ⟨t, p, h⟩ => p.run pos pins s σ H Q I h⟩
def wG (X : Cx) (e : Expr) : TG := fun v σ H Q => ∃ t, PG X e t ∧ t v σ H Q
theorem pg_w {X : Cx} {e : Expr} : PG X e (wG X e) := ⟨fun pins s σ H v u Q I r ⟨t, p, h⟩ => p.run pins s σ H v u Q I r h⟩
def wGs (X : Cx) (e : List Expr) : TGs := fun v σ H Q => ∃ t, PGs X e t ∧ t v σ H Q
theorem pgs_w {X : Cx} {e : List Expr} : PGs X e (wGs X e) := ⟨fun pins s σ H v u Q I r ⟨t, p, h⟩ => p.run pins s σ H v u Q I r h⟩
def wOp (X : Cx) (f : Value → Value → Sem Value) : R2 := fun x y H Q => ∃ r, OpR X f r ∧ r x y H Q
theorem op_w {X : Cx} {f : Value → Value → Sem Value} : OpR X f (wOp X f) := fun pins s σ H x y u v Q I rx ry ⟨r, p, h⟩ => p pins s σ H x y u v Q I rx ry h
def wCl (X : Cx) (f : Value) : List V → Hp → VK → Prop := fun vs H Q => ∃ r, CallR X f r ∧ r vs H Q
theorem cl_w {X : Cx} {f : Value} : CallR X f (wCl X f) := fun pins s σ H xs us Q I r ⟨t, p, h⟩ => p pins s σ H xs us Q I r h

section
variable (M : Mo) (g : G) (Z : Sc)
def EP (e : Expr) (r : Rho) (P : D → Prop) : Prop := ∀ X, Okx M g X → ∀ B0 H0 B H σ, RS M.C Z B0 H0 B H r σ → ∀ Q : VK, (∀ x v B' H', P x → Fr Z B H B' H' → RD M.C Z.s B' x v → Q v H') → wE X e σ H Q
abbrev E (e : Expr) (r : Rho) (d : D) : Prop := EP M g Z e r fun x => x = d
def TP (e : Expr) (r : Rho) (P : Bool → Prop) : Prop := ∀ X, Okx M g X → ∀ B0 H0 B H σ, RS M.C Z B0 H0 B H r σ → ∀ Q : Bool → Hp → Prop, (∀ b B' H', P b → Fr Z B H B' H' → Q b H') → wT X e σ H Q
abbrev T (e : Expr) (r : Rho) (b : Bool) : Prop := TP M g Z e r fun x => x = b
/-- and, or chains as tests -/
def WP (e : Expr) (r : Rho) (P : Bool → Prop) : Prop := ∀ X, Okx M g X → ∀ B0 H0 B H σ, RS M.C Z B0 H0 B H r σ → ∀ Q : Bool → Hp → Prop, (∀ b B' H', P b → Fr Z B H B' H' → Q b H') → wW X e σ H Q
def AP (es : List Expr) (r : Rho) (P : List D → Prop) : Prop := ∀ X, Okx M g X → ∀ B0 H0 B H σ, RS M.C Z B0 H0 B H r σ → ∀ Q : List V → Hp → Prop, (∀ x v B' H', P x → Fr Z B H B' H' → RDs M.C Z.s B' x v → Q v H') → wA X es σ H Q
abbrev A (es : List Expr) (r : Rho) (ds : List D) : Prop := AP M g Z es r fun x => x = ds
/-- a two-place operation -/
def OpD (f : Value → Value → Sem Value) (x y z : D) : Prop := ∀ X, Okx M g X → ∀ B H v u, Ex B H → SrcOk Z H → RD M.C Z.s B x v → RD M.C Z.s B y u → ∀ Q : VK, (∀ w B' H', Fr Z B H B' H' → RD M.C Z.s B' z w → Q w H') → wOp X f v u H Q
/-- a built-in called -/
def ClD (f : Value) (xs : List D) (z : D) : Prop := ∀ X, Okx M g X → ∀ B H vs, Ex B H → SrcOk Z H → RDs M.C Z.s B xs vs → ∀ Q : VK, (∀ w B' H', Fr Z B H B' H' → RD M.C Z.s B' z w → Q w H') → wCl X f vs H Q
end
section
variable {M : Mo} {g : G} {Z : Sc} {e a b : Expr} {es : List Expr} {r : Rho} {P P' Pa Pb : D → Prop} {x y z d : D} {pos : Pos} {k : Nat}
theorem EP.imp (h : EP M g Z e r P) (k : ∀ x, P x → P' x) : EP M g Z e r P' := fun X ok B0 H0 B H σ R Q q => h X ok B0 H0 B H σ R Q fun x v B' H' p => q x v B' H' (k x p)
theorem E.of (h : E M g Z e r x) (k : x = y) : E M g Z e r y := k ▸ h
theorem E.pr (h : E M g Z e r x) (k : P x) : EP M g Z e r P := h.imp fun y e => e ▸ k
theorem TP.imp {P P' : Bool → Prop} (h : TP M g Z e r P) (k : ∀ x, P x → P' x) : TP M g Z e r P' := fun X ok B0 H0 B H σ R Q q => h X ok B0 H0 B H σ R Q fun x B' H' p => q x B' H' (k x p)
theorem T.of {b c : Bool} (h : T M g Z e r b) (k : b = c) : T M g Z e r c := k ▸ h
/-- a new object of shared data -/
theorem Fr.add {B H B' H' : Hp} {p : Addr} {o : HO} (f : Fr Z B H B' H') (s0 : SrcOk Z H) (n : H' p = none) : Fr Z B H (upd B' p o) (upd H' p o) := f.new n (f.free s0 n)
theorem Ex.n {B H : Hp} {p : Addr} (e : Ex B H) (n : H p = none) : B p = none := e.free n

/-! ### names, constants -/
theorem E_var (i : Nat) {nm : Str} (hr : r[i]? = some (some (.d x)) := by rfl) (hN : g.N[i]? = some nm := by rfl) (hv : Vis g.sc nm := by first | exact Or.inl rfl | exact Or.inr (Or.inl rfl) | exact Or.inr (Or.inr rfl))
    (hd : (nm == ("__debug__" : Str)) = false := by decide) (hcd : (nm == ("__classdict__" : Str)) = false := by decide) : E M g Z (.Name nm pos) r x := fun X ok B0 H0 B H σ R Q q => by
  obtain ⟨v, e1, h⟩ := R.at_ i _ hr
  exact ⟨_, pe_var (i := i) (by rw [ok.N]; exact hN) (by rw [ok.sc]; exact hv) hd hcd, v, e1, q x v B H rfl (Fr.rfl' R.sB R.src) h⟩
theorem E_int {i : Int} {j : Nat} : E M g Z (.Constant (.int i) j pos) r (.int i) := fun X ok B0 H0 B H σ R Q q => ⟨_, pe_int, q _ _ B H rfl (Fr.rfl' R.sB R.src) (.int i)⟩
theorem E_str {s : Str} {j : Nat} : E M g Z (.Constant (.str s) j pos) r (.str s) := fun X ok B0 H0 B H σ R Q q => ⟨_, pe_str, q _ _ B H rfl (Fr.rfl' R.sB R.src) (.str s)⟩
theorem E_bl {s : Bool} {j : Nat} : E M g Z (.Constant (.bool s) j pos) r (.bl s) := fun X ok B0 H0 B H σ R Q q => ⟨_, pe_bl, q _ _ B H rfl (Fr.rfl' R.sB R.src) (.bl s)⟩
theorem E_non {j : Nat} : E M g Z (.Constant .none j pos) r .non := fun X ok B0 H0 B H σ R Q q => ⟨_, pe_non, q _ _ B H rfl (Fr.rfl' R.sB R.src) .non⟩
def GlS (g : G) (x : Str) : Prop := g.sc.names.lookup x = some .globalImplicit
theorem Okx.gl {X : Cx} {x : Str} (ok : Okx M g X) (h : GlS g x) : Gl X x := by
  show X.env.scope.names.lookup x = some .globalImplicit
  rw [ok.sc]; exact h
theorem E_gstr {nm s : Str} {t : Tok} (hm : M.mg nm = some (.str s t)) (hg : GlS g nm := by rfl) (hd : (nm == ("__debug__" : Str)) = false := by decide) : E M g Z (.Name nm pos) r (.str s) := fun X ok B0 H0 B H σ R Q q =>
  ⟨_, pe_glob (v := .str s) (ok.gl hg) (by rw [ok.mg]; exact hm) ⟨t, rfl⟩ hd, q _ _ B H rfl (Fr.rfl' R.sB R.src) (.str s)⟩

/-! ### operators -/
theorem EP_op {op : Operator} (ha : EP M g Z a r Pa) (hb : EP M g Z b r Pb) (ho : ∀ x y, Pa x → Pb y → ∃ z, P z ∧ OpD M g Z (binaryOp op) x y z) : EP M g Z (.BinOp a op b pos) r P := fun X ok B0 H0 B H σ R Q q => by
  refine ⟨_, pe_op op_w pe_w pe_w, ?_⟩
  refine ha X ok B0 H0 B H σ R _ fun x v B1 H1 px f1 r1 => ?_
  refine hb X ok B0 H0 B1 H1 σ (R.step f1) _ fun y u B2 H2 py f2 r2 => ?_
  obtain ⟨z, pz, o⟩ := ho x y px py
  refine o X ok B2 H2 v u f2.s f2.src (r1.mono f2.b) r2 Q fun w B3 H3 f3 r3 => ?_
  exact q z w B3 H3 pz ((f1.tr f2 R.src).tr f3 R.src) r3
theorem E_op {op : Operator} (ha : E M g Z a r x) (hb : E M g Z b r y) (o : OpD M g Z (binaryOp op) x y z) : E M g Z (.BinOp a op b pos) r z := EP_op ha hb fun _ _ e1 e2 => ⟨z, rfl, by rw [e1, e2]; exact o⟩
theorem opI {f : Value → Value → Sem Value} {c : Int → Int → Prop} {h : Int → Int → V} {i j : Int} (o : ∀ X : Cx, OpR X f (rI c h)) (hc : c i j) (hz : ∀ B, RD M.C Z.s B z (h i j)) : OpD M g Z f (.int i) (.int j) z := fun X ok B H v u s sr r1 r2 Q q => by
  cases r1; cases r2
  exact ⟨_, o X, i, j, rfl, rfl, hc, q _ B H (Fr.rfl' s sr) (hz B)⟩
theorem opI0 {f : Value → Value → Sem Value} {h : Int → Int → V} {i j : Int} (o : ∀ X : Cx, OpR X f (rI0 h)) (hz : ∀ B, RD M.C Z.s B z (h i j)) : OpD M g Z f (.int i) (.int j) z := fun X ok B H v u s sr r1 r2 Q q => by
  cases r1; cases r2
  exact ⟨_, o X, i, j, rfl, rfl, q _ B H (Fr.rfl' s sr) (hz B)⟩
theorem addI (i j : Int) : OpD M g Z (binaryOp .Add) (.int i) (.int j) (.int (i + j)) := opI0 (fun _ => op_add) fun _ => .int _
theorem subI (i j : Int) : OpD M g Z (binaryOp .Sub) (.int i) (.int j) (.int (i - j)) := opI0 (fun _ => op_sub) fun _ => .int _
theorem mulI (i j : Int) (h : CMul i j) : OpD M g Z (binaryOp .Mult) (.int i) (.int j) (.int (i * j)) := opI (fun _ => op_mul) h fun _ => .int _
theorem modI (i j : Int) (h : 0 < j) : OpD M g Z (binaryOp .Mod) (.int i) (.int j) (.int (i % j)) := opI (fun _ => op_mod) h fun _ => .int _
theorem divI (i j : Int) (h : CDiv i j) : OpD M g Z (binaryOp .FloorDiv) (.int i) (.int j) (.int (i / j)) := opI (fun _ => op_fdiv) h fun _ => .int _
theorem powI (i j : Int) (h : CPow i j) : OpD M g Z (binaryOp .Pow) (.int i) (.int j) (.int (i ^ j.toNat)) := opI (fun _ => op_pow) h fun _ => .int _
theorem addS (i j : Str) (h : i.length + j.length ≤ sizeLine) : OpD M g Z (binaryOp .Add) (.str i) (.str j) (.str (i ++ j)) := fun X ok B H v u s sr r1 r2 Q q => by
  cases r1; cases r2
  exact ⟨_, op_add_str, i, j, rfl, rfl, h, q _ B H (Fr.rfl' s sr) (.str _)⟩
theorem addL (xs ys : List D) (h : xs.length + ys.length ≤ sizeLine) : OpD M g Z (binaryOp .Add) (.lst xs) (.lst ys) (.lst (xs ++ ys)) := fun X ok B H v u s sr r1 r2 Q q => by
  cases r1 with
  | lst h1 k1 =>
    cases r2 with
    | lst h2 k2 =>
      refine ⟨_, op_cat, _, _, _, _, rfl, rfl, s _ _ h1, s _ _ h2, by rw [← k1.len, ← k2.len]; exact h, fun p hp => ?_⟩
      exact q _ _ _ ((Fr.rfl' s sr).add sr hp) (.lst upd_same ((k1.app k2).mono (Ex.new (s.n hp))))
theorem E_add {i j : Int} (ha : E M g Z a r (.int i)) (hb : E M g Z b r (.int j)) : E M g Z (.BinOp a .Add b pos) r (.int (i + j)) := E_op ha hb (addI i j)
theorem E_sub {i j : Int} (ha : E M g Z a r (.int i)) (hb : E M g Z b r (.int j)) : E M g Z (.BinOp a .Sub b pos) r (.int (i - j)) := E_op ha hb (subI i j)
theorem E_mod {i j : Int} (ha : E M g Z a r (.int i)) (hb : E M g Z b r (.int j)) (h : 0 < j := by decide) : E M g Z (.BinOp a .Mod b pos) r (.int (i % j)) := E_op ha hb (modI i j h)
theorem E_mul {i j : Int} (ha : E M g Z a r (.int i)) (hb : E M g Z b r (.int j)) (h : CMul i j) : E M g Z (.BinOp a .Mult b pos) r (.int (i * j)) := E_op ha hb (mulI i j h)
theorem E_cat {xs ys : List D} (ha : E M g Z a r (.lst xs)) (hb : E M g Z b r (.lst ys)) (h : xs.length + ys.length ≤ sizeLine) : E M g Z (.BinOp a .Add b pos) r (.lst (xs ++ ys)) := E_op ha hb (addL xs ys h)
theorem E_neg {i : Int} (ha : E M g Z a r (.int i)) : E M g Z (.UnaryOp .USub a pos) r (.int (-i)) := fun X ok B0 H0 B H σ R Q q => by
  refine ⟨_, pe_un un_neg pe_w, ?_⟩
  refine ha X ok B0 H0 B H σ R _ fun x v B1 H1 px f1 r1 => ?_
  subst px; cases r1
  exact ⟨i, rfl, q _ _ B1 H1 rfl f1 (.int _)⟩

/-! ### comparisons -/
theorem EP_cmp {op : CmpOp} (ha : EP M g Z a r Pa) (hb : EP M g Z b r Pb) (ho : ∀ x y, Pa x → Pb y → ∃ z, P z ∧ OpD M g Z (compareOp op) x y z) (hm : behindInMarks op b = false := by rfl) : EP M g Z (.Compare a [op] [b] pos) r P := fun X ok B0 H0 B H σ R Q q => by
  refine ⟨_, pe_cmpR op_w pe_w pe_w hm, ?_⟩
  refine ha X ok B0 H0 B H σ R _ fun x v B1 H1 px f1 r1 => ?_
  refine hb X ok B0 H0 B1 H1 σ (R.step f1) _ fun y u B2 H2 py f2 r2 => ?_
  obtain ⟨z, pz, o⟩ := ho x y px py
  refine o X ok B2 H2 v u f2.s f2.src (r1.mono f2.b) r2 Q fun w B3 H3 f3 r3 => ?_
  exact q z w B3 H3 pz ((f1.tr f2 R.src).tr f3 R.src) r3
theorem TP_cmp {op : CmpOp} {P : Bool → Prop} (ha : EP M g Z a r Pa) (hb : EP M g Z b r Pb) (ho : ∀ x y, Pa x → Pb y → ∃ z, P z ∧ OpD M g Z (compareOp op) x y (.bl z)) (hm : behindInMarks op b = false := by rfl) : TP M g Z (.Compare a [op] [b] pos) r P := fun X ok B0 H0 B H σ R Q q => by
  refine ⟨_, pt_cmpR op_w pe_w pe_w hm, ?_⟩
  refine ha X ok B0 H0 B H σ R _ fun x v B1 H1 px f1 r1 => ?_
  refine hb X ok B0 H0 B1 H1 σ (R.step f1) _ fun y u B2 H2 py f2 r2 => ?_
  obtain ⟨z, pz, o⟩ := ho x y px py
  refine o X ok B2 H2 v u f2.s f2.src (r1.mono f2.b) r2 _ fun w B3 H3 f3 r3 => ?_
  cases r3
  exact ⟨z, rfl, q z B3 H3 pz ((f1.tr f2 R.src).tr f3 R.src)⟩
theorem E_cmp {op : CmpOp} (ha : E M g Z a r x) (hb : E M g Z b r y) (o : OpD M g Z (compareOp op) x y z) (hm : behindInMarks op b = false := by rfl) : E M g Z (.Compare a [op] [b] pos) r z := EP_cmp ha hb (fun _ _ e1 e2 => ⟨z, rfl, by rw [e1, e2]; exact o⟩) hm
theorem T_cmp {op : CmpOp} {z : Bool} (ha : E M g Z a r x) (hb : E M g Z b r y) (o : OpD M g Z (compareOp op) x y (.bl z)) (hm : behindInMarks op b = false := by rfl) : T M g Z (.Compare a [op] [b] pos) r z := TP_cmp ha hb (fun _ _ e1 e2 => ⟨z, rfl, by rw [e1, e2]; exact o⟩) hm
theorem ltI (i j : Int) : OpD M g Z (compareOp .Lt) (.int i) (.int j) (.bl (decide (i < j))) := opI0 (fun _ => op_lt) fun _ => .bl _
theorem leI (i j : Int) : OpD M g Z (compareOp .LtE) (.int i) (.int j) (.bl (decide (i ≤ j))) := opI0 (fun _ => op_le) fun _ => .bl _
theorem gtI (i j : Int) : OpD M g Z (compareOp .Gt) (.int i) (.int j) (.bl (decide (j < i))) := opI0 (fun _ => op_gt) fun _ => .bl _
theorem geI (i j : Int) : OpD M g Z (compareOp .GtE) (.int i) (.int j) (.bl (decide (j ≤ i))) := opI0 (fun _ => op_ge) fun _ => .bl _
theorem eqI (i j : Int) : OpD M g Z (compareOp .Eq) (.int i) (.int j) (.bl (decide (i = j))) := fun X ok B H v u s sr r1 r2 Q q => by
  cases r1; cases r2
  refine ⟨_, op_eq, rfl, ?_⟩
  rw [dec_int, Bool.beq_eq_decide_eq]
  exact q _ B H (Fr.rfl' s sr) (.bl _)
theorem neI (i j : Int) : OpD M g Z (compareOp .NotEq) (.int i) (.int j) (.bl (decide (i ≠ j))) := fun X ok B H v u s sr r1 r2 Q q => by
  cases r1; cases r2
  refine ⟨_, op_ne, rfl, ?_⟩
  rw [dec_int, Bool.beq_eq_decide_eq, ← decide_not]
  exact q _ B H (Fr.rfl' s sr) (.bl _)
theorem eqS (i j : Str) : OpD M g Z (compareOp .Eq) (.str i) (.str j) (.bl (decide (i = j))) := fun X ok B H v u s sr r1 r2 Q q => by
  cases r1; cases r2
  refine ⟨_, op_eq, rfl, ?_⟩
  have e : decide (V.str i = V.str j) = decide (i = j) := by
    by_cases h : i = j
    · subst h; simp
    · rw [decide_eq_false h, decide_eq_false fun q => h (V.str.inj q)]
  rw [e]
  exact q _ B H (Fr.rfl' s sr) (.bl _)
theorem neS (i j : Str) : OpD M g Z (compareOp .NotEq) (.str i) (.str j) (.bl (decide (i ≠ j))) := fun X ok B H v u s sr r1 r2 Q q => by
  cases r1; cases r2
  refine ⟨_, op_ne, rfl, ?_⟩
  have e : (!decide (V.str i = V.str j)) = decide (i ≠ j) := by
    by_cases h : i = j
    · subst h; simp
    · rw [decide_eq_true (show i ≠ j from h), decide_eq_false fun q => h (V.str.inj q)]; rfl
  rw [e]
  exact q _ B H (Fr.rfl' s sr) (.bl _)
def D.isN : D → Bool
  | .non => true
  | _ => false
theorem isN_V {C S : Addr} {H : Hp} {v : V} (h : RD C S H x v) : decide (v = .non) = x.isN := by
  cases h <;> rfl
theorem E_isN {j : Nat} {pos' : Pos} (ha : E M g Z a r x) : E M g Z (.Compare a [.Is] [.Constant .none j pos'] pos) r (.bl x.isN) := fun X ok B0 H0 B H σ R Q q => by
  refine ⟨_, pe_cmp (pc_isN pe_w), ?_⟩
  refine ha X ok B0 H0 B H σ R _ fun x v B1 H1 px f1 r1 => ?_
  subst px
  rw [isN_V r1]
  exact q _ _ B1 H1 rfl f1 (.bl _)
theorem T_isN {j : Nat} {pos' : Pos} (ha : E M g Z a r x) : T M g Z (.Compare a [.Is] [.Constant .none j pos'] pos) r x.isN := fun X ok B0 H0 B H σ R Q q => by
  refine ⟨_, pt_cmp (pc_isN pe_w), ?_⟩
  refine ha X ok B0 H0 B H σ R _ fun x v B1 H1 px f1 r1 => ?_
  subst px
  rw [isN_V r1]
  exact ⟨_, rfl, q _ B1 H1 rfl f1⟩
theorem E_notN {j : Nat} {pos' : Pos} (ha : E M g Z a r x) : E M g Z (.Compare a [.IsNot] [.Constant .none j pos'] pos) r (.bl (!x.isN)) := fun X ok B0 H0 B H σ R Q q => by
  refine ⟨_, pe_cmp (pc_notN pe_w), ?_⟩
  refine ha X ok B0 H0 B H σ R _ fun x v B1 H1 px f1 r1 => ?_
  subst px
  rw [isN_V r1]
  exact q _ _ B1 H1 rfl f1 (.bl _)
theorem T_notN {j : Nat} {pos' : Pos} (ha : E M g Z a r x) : T M g Z (.Compare a [.IsNot] [.Constant .none j pos'] pos) r (!x.isN) := fun X ok B0 H0 B H σ R Q q => by
  refine ⟨_, pt_cmp (pc_notN pe_w), ?_⟩
  refine ha X ok B0 H0 B H σ R _ fun x v B1 H1 px f1 r1 => ?_
  subst px
  rw [isN_V r1]
  exact ⟨_, rfl, q _ B1 H1 rfl f1⟩
/-- a < b < c -/
theorem T_chain {op op' : CmpOp} {c : Expr} {x y z : D} {p q : Bool} (ha : E M g Z a r x) (hb : E M g Z b r y) (hc : p = true → E M g Z c r z) (o : OpD M g Z (compareOp op) x y (.bl p)) (o' : p = true → OpD M g Z (compareOp op') y z (.bl q)) (hm : lastMarks [op, op'] [b, c] = false := by rfl) : T M g Z (.Compare a [op, op'] [b, c] pos) r (p && q) := fun X ok B0 H0 B H σ R Q k => by
  refine ⟨_, pt_chain op_w op_w pe_w pe_w pe_w hm, ?_⟩
  refine ha X ok B0 H0 B H σ R _ fun x' v B1 H1 px f1 r1 => ?_
  subst px
  refine hb X ok B0 H0 B1 H1 σ (R.step f1) _ fun y' u B2 H2 py f2 r2 => ?_
  subst py
  have f12 := f1.tr f2 R.src
  refine o X ok B2 H2 v u f2.s f2.src (r1.mono f2.b) r2 _ fun w B3 H3 f3 r3 => ?_
  cases r3
  have f13 := f12.tr f3 R.src
  refine ⟨p, rfl, ?_⟩
  cases p with
  | false => exact ⟨false, rfl, k _ B3 H3 rfl f13⟩
  | true =>
    refine iteT ?_
    refine hc rfl X ok B0 H0 B3 H3 σ (R.step f13) _ fun z' w B4 H4 pz f4 r4 => ?_
    subst pz
    refine o' rfl X ok B4 H4 u w f4.s f4.src ((r2.mono f3.b).mono f4.b) r4 _ fun w' B5 H5 f5 r5 => ?_
    cases r5
    exact ⟨q, rfl, k _ B5 H5 rfl ((f13.tr f4 R.src).tr f5 R.src)⟩
theorem E_chain {op op' : CmpOp} {c : Expr} {x y z : D} {p q : Bool} (ha : E M g Z a r x) (hb : E M g Z b r y) (hc : p = true → E M g Z c r z) (o : OpD M g Z (compareOp op) x y (.bl p)) (o' : p = true → OpD M g Z (compareOp op') y z (.bl q)) (hm : lastMarks [op, op'] [b, c] = false := by rfl) : E M g Z (.Compare a [op, op'] [b, c] pos) r (.bl (p && q)) := fun X ok B0 H0 B H σ R Q k => by
  refine ⟨_, pe_chain op_w op_w pe_w pe_w pe_w hm, ?_⟩
  refine ha X ok B0 H0 B H σ R _ fun x' v B1 H1 px f1 r1 => ?_
  subst px
  refine hb X ok B0 H0 B1 H1 σ (R.step f1) _ fun y' u B2 H2 py f2 r2 => ?_
  subst py
  have f12 := f1.tr f2 R.src
  refine o X ok B2 H2 v u f2.s f2.src (r1.mono f2.b) r2 _ fun w B3 H3 f3 r3 => ?_
  cases r3
  have f13 := f12.tr f3 R.src
  refine ⟨p, rfl, ?_⟩
  cases p with
  | false => exact k _ _ B3 H3 rfl f13 (.bl _)
  | true =>
    refine iteT ?_
    refine hc rfl X ok B0 H0 B3 H3 σ (R.step f13) _ fun z' w B4 H4 pz f4 r4 => ?_
    subst pz
    refine o' rfl X ok B4 H4 u w f4.s f4.src ((r2.mono f3.b).mono f4.b) r4 _ fun w' B5 H5 f5 r5 => ?_
    exact k _ _ B5 H5 rfl ((f13.tr f4 R.src).tr f5 R.src) r5

/-! ### tests -/
theorem TP_val {P : Bool → Prop} (h : EP M g Z e r fun x => ∃ c, P c ∧ x = .bl c) (he : ∀ env whole, isTrue e env whole = (do let v ← whole; standAt e.pos; holding [v] (truthy v)) := by intro _ _; rfl) : TP M g Z e r P := fun X ok B0 H0 B H σ R Q q => by
  refine ⟨_, pt_val pe_w (he _), ?_⟩
  refine h X ok B0 H0 B H σ R _ fun x v B1 H1 px f1 r1 => ?_
  obtain ⟨c, pc, rfl⟩ := px
  cases r1
  exact ⟨c, rfl, q c B1 H1 pc f1⟩
theorem T_val {c : Bool} (h : E M g Z e r (.bl c)) (he : ∀ env whole, isTrue e env whole = (do let v ← whole; standAt e.pos; holding [v] (truthy v)) := by intro _ _; rfl) : T M g Z e r c := TP_val (h.imp fun _ e => ⟨c, rfl, e⟩) he
theorem TP_not {P : Bool → Prop} (h : TP M g Z a r fun c => P (!c)) : TP M g Z (.UnaryOp .Not a pos) r P := fun X ok B0 H0 B H σ R Q q =>
  ⟨_, pt_not pt_w, h X ok B0 H0 B H σ R _ fun c B1 H1 pc f1 => q _ B1 H1 pc f1⟩
theorem T_not {c : Bool} (h : T M g Z a r c) : T M g Z (.UnaryOp .Not a pos) r (!c) := TP_not (h.imp fun _ e => by rw [e])
theorem WP.t {P : Bool → Prop} (h : WP M g Z e r P) : TP M g Z e r P := fun X ok B0 H0 B H σ R Q q => ⟨_, PW.pt pw_w, h X ok B0 H0 B H σ R Q q⟩
theorem W_and1 {c : Bool} (h : T M g Z a r c) : WP M g Z (.BoolOp .And [a] pos) r fun x => x = c := fun X ok B0 H0 B H σ R Q q => ⟨_, pw_and1 pt_w, h X ok B0 H0 B H σ R Q q⟩
theorem W_or1 {c : Bool} (h : T M g Z a r c) : WP M g Z (.BoolOp .Or [a] pos) r fun x => x = c := fun X ok B0 H0 B H σ R Q q => ⟨_, pw_or1 pt_w, h X ok B0 H0 B H σ R Q q⟩
theorem W_and {c c' : Bool} (h : T M g Z a r c) (h' : c = true → WP M g Z (.BoolOp .And (b :: es) pos) r fun x => x = c') : WP M g Z (.BoolOp .And (a :: b :: es) pos) r fun x => x = (c && c') := fun X ok B0 H0 B H σ R Q q => by
  refine ⟨_, pw_and pt_w pw_w, ?_⟩
  refine h X ok B0 H0 B H σ R _ fun x B1 H1 px f1 => ?_
  subst px
  cases x with
  | true =>
    refine iteT ?_
    exact h' rfl X ok B0 H0 B1 H1 σ (R.step f1) Q fun b B2 H2 pb f2 => q b B2 H2 (by rw [pb]; rfl) (f1.tr f2 R.src)
  | false => exact q false B1 H1 rfl f1
theorem W_or {c c' : Bool} (h : T M g Z a r c) (h' : c = false → WP M g Z (.BoolOp .Or (b :: es) pos) r fun x => x = c') : WP M g Z (.BoolOp .Or (a :: b :: es) pos) r fun x => x = (c || c') := fun X ok B0 H0 B H σ R Q q => by
  refine ⟨_, pw_or pt_w pw_w, ?_⟩
  refine h X ok B0 H0 B H σ R _ fun x B1 H1 px f1 => ?_
  subst px
  cases x with
  | true => exact q true B1 H1 rfl f1
  | false =>
    refine iteF ?_
    exact h' rfl X ok B0 H0 B1 H1 σ (R.step f1) Q fun b B2 H2 pb f2 => q b B2 H2 (by rw [pb]; rfl) (f1.tr f2 R.src)
theorem T_and {c c' : Bool} (h : T M g Z a r c) (h' : c = true → T M g Z b r c') : T M g Z (.BoolOp .And [a, b] pos) r (c && c') := (W_and h fun q => W_and1 (h' q)).t
theorem T_or {c c' : Bool} (h : T M g Z a r c) (h' : c = false → T M g Z b r c') : T M g Z (.BoolOp .Or [a, b] pos) r (c || c') := (W_or h fun q => W_or1 (h' q)).t
/-- the same as values -/
theorem E_one {op : BoolOp} (h : E M g Z a r x) : E M g Z (.BoolOp op [a] pos) r x := fun X ok B0 H0 B H σ R Q q => ⟨_, pe_one pe_w, h X ok B0 H0 B H σ R Q q⟩
theorem E_and {c : Bool} {c' : Bool} (h : E M g Z a r (.bl c)) (h' : c = true → E M g Z (.BoolOp .And (b :: es) pos) r (.bl c')) : E M g Z (.BoolOp .And (a :: b :: es) pos) r (.bl (c && c')) := fun X ok B0 H0 B H σ R Q q => by
  refine ⟨_, pe_and pe_w pe_w, ?_⟩
  refine h X ok B0 H0 B H σ R _ fun x v B1 H1 px f1 r1 => ?_
  subst px; cases r1
  refine ⟨c, rfl, ?_⟩
  cases c with
  | true =>
    refine iteT ?_
    exact h' rfl X ok B0 H0 B1 H1 σ (R.step f1) Q fun b v B2 H2 pb f2 r2 => q b v B2 H2 (by rw [pb]; rfl) (f1.tr f2 R.src) r2
  | false => exact q _ _ B1 H1 rfl f1 (.bl _)
theorem E_or {c : Bool} {c' : Bool} (h : E M g Z a r (.bl c)) (h' : c = false → E M g Z (.BoolOp .Or (b :: es) pos) r (.bl c')) : E M g Z (.BoolOp .Or (a :: b :: es) pos) r (.bl (c || c')) := fun X ok B0 H0 B H σ R Q q => by
  refine ⟨_, pe_or pe_w pe_w, ?_⟩
  refine h X ok B0 H0 B H σ R _ fun x v B1 H1 px f1 r1 => ?_
  subst px; cases r1
  refine ⟨c, rfl, ?_⟩
  cases c with
  | true => exact q _ _ B1 H1 rfl f1 (.bl _)
  | false =>
    refine iteF ?_
    exact h' rfl X ok B0 H0 B1 H1 σ (R.step f1) Q fun b v B2 H2 pb f2 r2 => q b v B2 H2 (by rw [pb]; rfl) (f1.tr f2 R.src) r2
theorem E_not {c : Bool} (h : E M g Z a r (.bl c)) : E M g Z (.UnaryOp .Not a pos) r (.bl (!c)) := fun X ok B0 H0 B H σ R Q q => by
  refine ⟨_, pe_not pe_w, ?_⟩
  refine h X ok B0 H0 B H σ R _ fun x v B1 H1 px f1 r1 => ?_
  subst px; cases r1
  exact ⟨c, rfl, q _ _ B1 H1 rfl f1 (.bl _)⟩
theorem EP_if {c : Expr} {p : Bool} (h : T M g Z c r p) (h1 : p = true → EP M g Z a r P) (h2 : p = false → EP M g Z b r P) : EP M g Z (.IfExp c a b pos) r P := fun X ok B0 H0 B H σ R Q q => by
  refine ⟨_, pe_ifExp pt_w pe_w pe_w, ?_⟩
  refine h X ok B0 H0 B H σ R _ fun x B1 H1 px f1 => ?_
  subst px
  cases x with
  | true =>
    refine iteT ?_
    exact h1 rfl X ok B0 H0 B1 H1 σ (R.step f1) Q fun b v B2 H2 pb f2 => q b v B2 H2 pb (f1.tr f2 R.src)
  | false =>
    refine iteF ?_
    exact h2 rfl X ok B0 H0 B1 H1 σ (R.step f1) Q fun b v B2 H2 pb f2 => q b v B2 H2 pb (f1.tr f2 R.src)
theorem E_if {c : Expr} {p : Bool} {u v : D} (h : T M g Z c r p) (h1 : p = true → E M g Z a r u) (h2 : p = false → E M g Z b r v) : E M g Z (.IfExp c a b pos) r (if p then u else v) := by
  cases p with
  | true => exact EP_if h (fun q => h1 q) (fun q => nomatch q)
  | false => exact EP_if h (fun q => nomatch q) (fun q => h2 q)

/-! ### lists of expressions, displays -/
theorem A_nil : A M g Z [] r [] := fun X ok B0 H0 B H σ R Q q => ⟨_, pa_nil, q _ _ B H rfl (Fr.rfl' R.sB R.src) .nil⟩
theorem AP_cons {Ps P' : List D → Prop} (h : EP M g Z e r P) (h' : AP M g Z es r Ps) (hp : ∀ x xs, P x → Ps xs → P' (x :: xs)) (hs : ∀ env, starEach (e :: es) env = (false, eval e env) :: starEach es env := by intro _; rfl) : AP M g Z (e :: es) r P' := fun X ok B0 H0 B H σ R Q q => by
  refine ⟨_, pa_cons pe_w pa_w (hs _), ?_⟩
  refine h X ok B0 H0 B H σ R _ fun x v B1 H1 px f1 r1 => ?_
  refine h' X ok B0 H0 B1 H1 σ (R.step f1) _ fun xs vs B2 H2 pxs f2 r2 => ?_
  exact q _ _ B2 H2 (hp _ _ px pxs) (f1.tr f2 R.src) (.cons (r1.mono f2.b) r2)
theorem A_cons {xs : List D} (h : E M g Z e r x) (h' : A M g Z es r xs) (hs : ∀ env, starEach (e :: es) env = (false, eval e env) :: starEach es env := by intro _; rfl) : A M g Z (e :: es) r (x :: xs) := AP_cons h h' (fun _ _ e1 e2 => by rw [e1, e2]) hs
theorem A1 (h : E M g Z e r x) (hs : ∀ env, starEach [e] env = (false, eval e env) :: starEach [] env := by intro _; rfl) : A M g Z [e] r [x] := A_cons h A_nil hs
theorem A2 (h : E M g Z a r x) (h' : E M g Z b r y) (hs : ∀ env, starEach [a, b] env = (false, eval a env) :: starEach [b] env := by intro _; rfl) (hs' : ∀ env, starEach [b] env = (false, eval b env) :: starEach [] env := by intro _; rfl) : A M g Z [a, b] r [x, y] := A_cons h (A1 h' hs') hs
theorem EP_tup {Ps : List D → Prop} (h : AP M g Z es r Ps) (hp : ∀ xs, Ps xs → P (.tup xs)) (hl : es.length ≤ 1000 := by decide) (hn : ∀ xs, Ps xs → xs.length ≤ 1000) : EP M g Z (.Tuple es k pos) r P := fun X ok B0 H0 B H σ R Q q => by
  refine ⟨_, pe_tup pa_w, ?_⟩
  refine h X ok B0 H0 B H σ R _ fun xs vs B1 H1 px f1 r1 => ⟨?_, fun p hp' => ?_⟩
  · rw [← r1.len]; exact Nat.le_trans (hn _ px) (by decide)
  · exact q _ _ _ _ (hp _ px) (f1.add R.src hp') (.tup upd_same (r1.mono (Ex.new (f1.s.n hp'))))
theorem E_tup {xs : List D} (h : A M g Z es r xs) (hn : xs.length ≤ 1000 := by exact Nat.le_of_ble_eq_true rfl) : E M g Z (.Tuple es k pos) r (.tup xs) := fun X ok B0 H0 B H σ R Q q => by
  refine ⟨_, pe_tup pa_w, ?_⟩
  refine h X ok B0 H0 B H σ R _ fun xs vs B1 H1 px f1 r1 => ⟨?_, fun p hp' => ?_⟩
  · subst px; rw [← r1.len]; exact Nat.le_trans hn (by decide)
  · exact q _ _ _ _ (by rw [px]) (f1.add R.src hp') (.tup upd_same (r1.mono (Ex.new (f1.s.n hp'))))
theorem EP_lst {Ps : List D → Prop} (h : AP M g Z es r Ps) (hp : ∀ xs, Ps xs → P (.lst xs)) (hn : ∀ xs, Ps xs → xs.length ≤ 10000) : EP M g Z (.List es pos) r P := fun X ok B0 H0 B H σ R Q q => by
  refine ⟨_, pe_lst pa_w, ?_⟩
  refine h X ok B0 H0 B H σ R _ fun xs vs B1 H1 px f1 r1 => ⟨?_, fun p hp' => ?_⟩
  · rw [← r1.len]; exact Nat.le_trans (hn _ px) (by decide)
  · exact q _ _ _ _ (hp _ px) (f1.add R.src hp') (.lst upd_same (r1.mono (Ex.new (f1.s.n hp'))))
theorem E_lst {xs : List D} (h : A M g Z es r xs) (hn : xs.length ≤ 10000 := by exact Nat.le_of_ble_eq_true rfl) : E M g Z (.List es pos) r (.lst xs) := EP_lst h (fun _ e => by rw [e]) (fun _ e => by rw [e]; exact hn)

/-! ### built-ins by name -/
theorem E_callB {nm : Str} {p : Pos} {id : String} {xs : List D} (h : A M g Z (e :: es) r xs) (c : ClD M g Z (.builtin id) xs z) (hm : M.mg nm = none) (hv : bootBuiltins nm = some (.builtin id) := by decide +kernel) (hg : GlS g nm := by rfl)
    (hn : nm ≠ "__name__" := by decide) (hdb : (nm == ("__debug__" : Str)) = false := by decide) (he : ∀ env, starEach (e :: es) env = (false, eval e env) :: starEach es env := by intro _; rfl) (hpl : ∀ env, (backTo pos (starEach es env)).any (·.1) = false := by intro _; rfl) :
    E M g Z (.Call (.Name nm p) (e :: es) [] pos) r z := fun X ok B0 H0 B H σ R Q q => by
  refine ⟨_, pe_callB cl_w (ok.gl hg) (by rw [ok.mg]; exact hm) hv pa_w hn hdb (he _) (hpl _), ?_⟩
  refine h X ok B0 H0 B H σ R _ fun xs vs B1 H1 px f1 r1 => ?_
  subst px
  exact c X ok B1 H1 vs f1.s f1.src r1 Q fun w B2 H2 f2 r2 => q _ _ B2 H2 rfl (f1.tr f2 R.src) r2
theorem E_callTy {nm : Str} {p : Pos} {id : String} {xs : List D} (h : A M g Z (e :: es) r xs) (c : ClD M g Z (.type id) xs z) (hm : M.mg nm = none) (hv : bootBuiltins nm = some (.type id) := by decide +kernel) (hg : GlS g nm := by rfl)
    (hn : nm ≠ "__name__" := by decide) (hdb : (nm == ("__debug__" : Str)) = false := by decide) (he : ∀ env, starEach (e :: es) env = (false, eval e env) :: starEach es env := by intro _; rfl) (hpl : ∀ env, (backTo pos (starEach es env)).any (·.1) = false := by intro _; rfl) :
    E M g Z (.Call (.Name nm p) (e :: es) [] pos) r z := fun X ok B0 H0 B H σ R Q q => by
  refine ⟨_, pe_callTy cl_w (ok.gl hg) (by rw [ok.mg]; exact hm) hv pa_w hn hdb (he _) (hpl _), ?_⟩
  refine h X ok B0 H0 B H σ R _ fun xs vs B1 H1 px f1 r1 => ?_
  subst px
  exact c X ok B1 H1 vs f1.s f1.src r1 Q fun w B2 H2 f2 r2 => q _ _ B2 H2 rfl (f1.tr f2 R.src) r2
end
end OC
set_option maxHeartbeats 4000000
/-! Statements: targets, blocks, loops. -/
namespace OC
open PySem PySem.Spec L2

/-! ### slots of any binding -/
section
variable {C : Addr} {Z : Sc} {B0 H0 B H B' H' : Hp} {r r' : Rho} {σ σ' : L2.St}
theorem RS.setL (R : RS C Z B0 H0 B H r σ) {i : Nat} {l : L} {v : V} (h : RL C Z H0 B H l v)
    (ap : ∀ (j : Nat) (m : L) (w : V) (a : Addr), j ≠ i → r[j]? = some (some m) → σ[j]? = some (some w) → Foot H l v a → ¬ Foot H m w a) : RS C Z B0 H0 B H (r.set i (some l)) (σ.set i (some v)) := by
  refine ⟨R.s0, R.hz, R.fr, by rw [List.length_set, List.length_set]; exact R.len, fun j m e => ?_, fun j k m n u w a e1 e2 e3 e4 ne k1 k2 => ?_⟩
  · by_cases q : i = j
    · subst q
      have hl : i < r.length := by
        have := (List.getElem?_eq_some_iff.mp e).1
        rwa [List.length_set] at this
      rw [List.getElem?_set_self hl] at e
      cases e
      exact ⟨v, List.getElem?_set_self (by rw [R.len]; exact hl), h⟩
    · rw [List.getElem?_set_ne q] at e ⊢
      exact R.at_ j m e
  · by_cases q1 : i = j
    · subst q1
      have hl : i < r.length := by
        have := (List.getElem?_eq_some_iff.mp e1).1
        rwa [List.length_set] at this
      rw [List.getElem?_set_self hl] at e1
      rw [List.getElem?_set_self (by rw [R.len]; exact hl)] at e3
      cases e1; cases e3
      rw [List.getElem?_set_ne ne] at e2 e4
      exact ap k n w a (Ne.symm ne) e2 e4 k1 k2
    · rw [List.getElem?_set_ne q1] at e1 e3
      by_cases q2 : i = k
      · subst q2
        have hl : i < r.length := by
          have := (List.getElem?_eq_some_iff.mp e2).1
          rwa [List.length_set] at this
        rw [List.getElem?_set_self hl] at e2
        rw [List.getElem?_set_self (by rw [R.len]; exact hl)] at e4
        cases e2; cases e4
        exact ap j m u a (Ne.symm q1) e1 e3 k2 k1
      · rw [List.getElem?_set_ne q2] at e2 e4
        exact R.ap j k m n u w a e1 e2 e3 e4 ne k1 k2
/-- what a slot owns stands in the heap -/
theorem RL.foot {H0 : Hp} {l : L} {v : V} {a : Addr} (h : RL C Z H0 B H l v) (k : Foot H l v a) : H0 a = none ∧ ∃ o, H a = some o := by
  cases l with
  | d x => cases v <;> exact k.elim
  | own ds => obtain ⟨p, e, n0, _, xs, hp, _⟩ := h; subst e; have k : a = p := k; subst k; exact ⟨n0, _, hp⟩
  | odic ks => obtain ⟨p, e, n0, _, kvs, hp, _⟩ := h; subst e; have k : a = p := k; subst k; exact ⟨n0, _, hp⟩
  | own2 dss =>
    obtain ⟨p, qs, e, n0, nb, hp, nd, np, pr⟩ := h
    subst e
    rcases k with k | ⟨xs, k1, k2⟩
    · subst k; exact ⟨n0, _, hp⟩
    · rw [hp] at k1; cases k1
      obtain ⟨q, hq, e⟩ := List.mem_map.mp k2
      cases e
      clear hp k2 nd np
      induction pr with
      | nil => cases hq
      | cons f t ih =>
        rcases List.mem_cons.mp hq with e | hq
        · subst e; exact ⟨f.1, _, f.2.2.choose_spec.1⟩
        · exact ih hq
theorem RL.start {Ha Hb : Hp} {l : L} {v : V} (h : RL C Z Hb B H l v) (k : ∀ a, Hb a = none → Ha a = none) : RL C Z Ha B H l v := by
  cases l with
  | d x => exact h
  | own ds => obtain ⟨p, e, n0, o⟩ := h; exact ⟨p, e, k _ n0, o⟩
  | odic ds => obtain ⟨p, e, n0, o⟩ := h; exact ⟨p, e, k _ n0, o⟩
  | own2 dss =>
    obtain ⟨p, qs, e, n0, nb, hp, nd, np, pr⟩ := h
    exact ⟨p, qs, e, k _ n0, nb, hp, nd, np, Paired.imp pr fun _ _ o => ⟨k _ o.1, o.2⟩⟩
/-- the store of something new -/
theorem RS.setN (R : RS C Z B0 H0 B H r σ) (f : Fr Z B H B' H') {i : Nat} {l : L} {v : V} (h : RL C Z H B' H' l v) : RS C Z B0 H0 B' H' (r.set i (some l)) (σ.set i (some v)) := by
  refine (R.step f).setL (h.start fun a n => R.fr.free R.s0 n) fun j m w a ne e1 e2 k1 k2 => ?_
  obtain ⟨n, _⟩ := h.foot k1
  obtain ⟨w', q1, h1⟩ := R.at_ j m e1
  rw [e2] at q1; cases q1
  obtain ⟨_, o, q⟩ := h1.foot (Foot.back R.s0 f h1 k2)
  rw [n] at q; cases q
end

/-! ### targets -/
def SameOff (is : List Nat) (σ σ' : L2.St) : Prop := σ'.length = σ.length ∧ ∀ j : Nat, j ∉ is → σ'[j]? = σ[j]?
theorem SameOff.tr {is js : List Nat} {a b c : L2.St} (h : SameOff is a b) (h' : SameOff js b c) : SameOff (is ++ js) a c :=
  ⟨h'.1.trans h.1, fun j n => (h'.2 j fun q => n (List.mem_append_right _ q)).trans (h.2 j fun q => n (List.mem_append_left _ q))⟩
theorem wipe_get (σ : L2.St) : ∀ (vs : List Nat) (j : Nat), (wipe σ vs)[j]? = if j ∈ vs ∧ j < σ.length then some none else σ[j]?
  | [], j => by simp [wipe]
  | v :: vs, j => by
    show ((wipe σ vs).set v none)[j]? = _
    by_cases q : v = j
    · subst q
      by_cases l : v < σ.length
      · rw [List.getElem?_set_self (by rw [wipe_length]; exact l), if_pos ⟨List.mem_cons_self, l⟩]
      · rw [if_neg fun z => l z.2, List.getElem?_eq_none (by rw [List.length_set, wipe_length]; omega), List.getElem?_eq_none (by omega)]
    · rw [List.getElem?_set_ne q, wipe_get σ vs j]
      have e : (j ∈ v :: vs ∧ j < σ.length) ↔ (j ∈ vs ∧ j < σ.length) := by
        rw [List.mem_cons]
        exact ⟨fun ⟨a, b⟩ => ⟨a.resolve_left fun z => q z.symm, b⟩, fun ⟨a, b⟩ => ⟨.inr a, b⟩⟩
      by_cases z : j ∈ vs ∧ j < σ.length
      · rw [if_pos z, if_pos (e.mpr z)]
      · rw [if_neg z, if_neg fun y => z (e.mp y)]
theorem SameOff.wipe {is vs : List Nat} {σ σ' : L2.St} (h : SameOff is (L2.wipe σ vs) σ') (k : ∀ j ∈ is, j ∈ vs) : L2.wipe σ' vs = L2.wipe σ vs := by
  apply List.ext_getElem?
  intro j
  have hl : σ'.length = σ.length := h.1.trans (wipe_length _ _)
  rw [wipe_get, wipe_get, hl]
  by_cases z : j ∈ vs ∧ j < σ.length
  · rw [if_pos z, if_pos z]
  · rw [if_neg z, if_neg z]
    by_cases y : j ∈ vs
    · have hz : ¬ j < σ.length := fun q => z ⟨y, q⟩
      rw [List.getElem?_eq_none (by omega), List.getElem?_eq_none (by omega)]
    · rw [h.2 j fun q => y (k j q), wipe_get, if_neg fun q => y q.1]
section
variable (M : Mo) (g : G) (Z : Sc)
def GT (tg : Expr) (x : D) (r r1 : Rho) (is : List Nat) : Prop := ∀ X, Okx M g X → ∀ B0 H0 B H σ v, RS M.C Z B0 H0 B H r σ → RD M.C Z.s B x v → ∀ Q : L2.St → Hp → Prop, (∀ σ', RS M.C Z B0 H0 B H r1 σ' → SameOff is σ σ' → Q σ' H) → wG X tg v σ H Q
def GTs (ts : List Expr) (xs : List D) (r r1 : Rho) (is : List Nat) : Prop := ∀ X, Okx M g X → ∀ B0 H0 B H σ vs, RS M.C Z B0 H0 B H r σ → RDs M.C Z.s B xs vs → ∀ Q : L2.St → Hp → Prop, (∀ σ', RS M.C Z B0 H0 B H r1 σ' → SameOff is σ σ' → Q σ' H) → wGs X ts vs σ H Q
end
def LocS (g : G) (x : Str) : Prop := g.sc.names.lookup x = some .local ∨ (g.sc.names.lookup x = some .cell ∧ g.fn x = true)
section
variable {M : Mo} {g : G} {Z : Sc} {e a b : Expr} {es ts : List Expr} {r r1 r2 : Rho} {x y z d : D} {xs : List D} {pos : Pos} {k : Nat} {is js : List Nat}
theorem Okx.loc {X : Cx} {nm : Str} (ok : Okx M g X) (h : LocS g nm) : Loc X.env.scope nm ∧ (X.fn nm = true ∨ X.env.scope.names.lookup nm = some .local) := by
  rw [ok.sc, ok.fn]
  rcases h with h | ⟨h, h2⟩
  · exact ⟨.inl h, .inr h⟩
  · exact ⟨.inr h, .inl h2⟩
theorem G_name (i : Nat) {nm : Str} (hN : g.N[i]? = some nm := by rfl) (hl : LocS g nm := by first | exact Or.inl rfl | exact Or.inr ⟨rfl, rfl⟩) : GT M g Z (.Name nm pos) x r (r.set i (some (.d x))) [i] := fun X ok B0 H0 B H σ v R h Q q => by
  obtain ⟨l1, l2⟩ := ok.loc hl
  refine ⟨_, pg_name (i := i) ok.nd (by rw [ok.N]; exact hN) l1 l2, q _ (R.set h) ⟨List.length_set, fun j n => List.getElem?_set_ne fun z => n (by rw [z]; exact List.mem_cons_self)⟩⟩
theorem Gs_nil : GTs M g Z [] [] r r [] := fun X ok B0 H0 B H σ v R h Q q => by
  cases h
  exact ⟨_, pgs_nil, rfl, q σ R ⟨rfl, fun _ _ => rfl⟩⟩
theorem Gs_cons (h : GT M g Z e x r r1 is) (h' : GTs M g Z ts xs r1 r2 js) (hs : ∀ env, (assignEach (e :: ts) env).map (·.2) = assign e env :: (assignEach ts env).map (·.2) := by intro _; rfl) : GTs M g Z (e :: ts) (x :: xs) r r2 (is ++ js) := fun X ok B0 H0 B H σ v R k Q q => by
  cases k with
  | cons k1 k2 =>
    refine ⟨_, pgs_cons pg_w pgs_w (hs _), _, _, rfl, ?_⟩
    refine h X ok B0 H0 B H σ _ R k1 _ fun σ1 R1 s1 => ?_
    exact h' X ok B0 H0 B H σ1 _ R1 k2 Q fun σ2 R2 s2 => q σ2 R2 (s1.tr s2)
theorem G_tup (h : GTs M g Z ts xs r r1 is) (hn : ∀ env, (assignEach ts env).length = xs.length := by intro _; rfl) (hst : ∀ env, (assignEach ts env).findIdx? (·.1) = none := by intro _; rfl) : GT M g Z (.Tuple ts k pos) (.tup xs) r r1 is := fun X ok B0 H0 B H σ v R q0 Q q => by
  cases q0 with
  | tup h1 h2 =>
    refine ⟨_, pg_tup ok.calm pgs_w (hn _) (hst _), _, _, rfl, SqT.of (R.sB _ _ h1), ?_, ?_⟩
    · rw [← h2.len]
    · exact h X ok B0 H0 B H σ _ R h2 Q q
theorem G_2 {a b : Expr} {y : D} {js : List Nat} (h : GT M g Z a x r r1 is) (h' : GT M g Z b y r1 r2 js) (hs : ∀ env, (assignEach [a, b] env).map (·.2) = assign a env :: (assignEach [b] env).map (·.2) := by intro _; rfl) (hs' : ∀ env, (assignEach [b] env).map (·.2) = assign b env :: (assignEach [] env).map (·.2) := by intro _; rfl)
    (hn : ∀ env, (assignEach [a, b] env).length = 2 := by intro _; rfl) (hst : ∀ env, (assignEach [a, b] env).findIdx? (·.1) = none := by intro _; rfl) : GT M g Z (.Tuple [a, b] k pos) (.tup [x, y]) r r2 (is ++ (js ++ [])) := G_tup (Gs_cons h (Gs_cons h' Gs_nil hs') hs) hn hst
theorem G_3 {a b c : Expr} {y z : D} {js ks : List Nat} {r3 : Rho} (h : GT M g Z a x r r1 is) (h' : GT M g Z b y r1 r2 js) (h'' : GT M g Z c z r2 r3 ks) (hs : ∀ env, (assignEach [a, b, c] env).map (·.2) = assign a env :: (assignEach [b, c] env).map (·.2) := by intro _; rfl) (hs' : ∀ env, (assignEach [b, c] env).map (·.2) = assign b env :: (assignEach [c] env).map (·.2) := by intro _; rfl)
    (hs'' : ∀ env, (assignEach [c] env).map (·.2) = assign c env :: (assignEach [] env).map (·.2) := by intro _; rfl) (hn : ∀ env, (assignEach [a, b, c] env).length = 3 := by intro _; rfl) (hst : ∀ env, (assignEach [a, b, c] env).findIdx? (·.1) = none := by intro _; rfl) :
    GT M g Z (.Tuple [a, b, c] k pos) (.tup [x, y, z]) r r3 (is ++ (js ++ (ks ++ []))) := G_tup (Gs_cons h (Gs_cons h' (Gs_cons h'' Gs_nil hs'') hs') hs) hn hst
end

/-! ### statements -/
def wS (X : Cx) (e : Stmt) : TS := fun Dn σ H => ∃ t, PS X e t ∧ t Dn σ H
theorem ps_w {X : Cx} {e : Stmt} : PS X e (wS X e) := ⟨fun pins s σ H Q I ⟨t, p, h⟩ => p.run pins s σ H Q I h⟩
def wSs (X : Cx) (e : List Stmt) : TS := fun Dn σ H => ∃ t, PSs X e t ∧ t Dn σ H
theorem pss_w {X : Cx} {e : List Stmt} : PSs X e (wSs X e) := ⟨fun pins s σ H Q I ⟨t, p, h⟩ => p.run pins s σ H Q I h⟩
def wI (X : Cx) (tg it : Expr) : TI := fun σ H R => ∃ t, PI X tg it t ∧ t σ H R
theorem pi_w {X : Cx} {tg it : Expr} : PI X tg it (wI X tg it) := ⟨fun pins s σ H Q I ⟨t, p, h⟩ => p.run pins s σ H Q I h⟩
structure Out where
  nx : Rho → Prop
  rt : D → Prop
  bk : Rho → Prop := fun _ => False
  ct : Rho → Prop := fun _ => False
structure Ok4 (C : Addr) (Z : Sc) (B0 H0 Bs : Hp) (O : Out) (Dn : Ends) : Prop where
  nx : ∀ r B H σ, O.nx r → RS C Z B0 H0 B H r σ → Ex Bs B → Dn.nx σ H
  rt : ∀ d v B H, O.rt d → Fr Z B0 H0 B H → RD C Z.s B d v → Dn.rt v H
  bk : ∀ r B H σ, O.bk r → RS C Z B0 H0 B H r σ → Ex Bs B → Dn.bk σ H
  ct : ∀ r B H σ, O.ct r → RS C Z B0 H0 B H r σ → Ex Bs B → Dn.ct σ H
theorem Ok4.go {C : Addr} {Z : Sc} {B0 H0 Bs B1 : Hp} {O : Out} {Dn : Ends} (o : Ok4 C Z B0 H0 Bs O Dn) (e : Ex Bs B1) : Ok4 C Z B0 H0 B1 O Dn :=
  ⟨fun r B H σ a b c => o.nx r B H σ a b (e.tr c), o.rt, fun r B H σ a b c => o.bk r B H σ a b (e.tr c), fun r B H σ a b c => o.ct r B H σ a b (e.tr c)⟩
section
variable (M : Mo) (g : G) (Z : Sc)
def SS (body : List Stmt) (r : Rho) (O : Out) : Prop := ∀ X, Okx M g X → ∀ B0 H0 B H σ, RS M.C Z B0 H0 B H r σ → ∀ Dn : Ends, Ok4 M.C Z B0 H0 B O Dn → wSs X body Dn σ H
def S1 (st : Stmt) (r : Rho) (O : Out) : Prop := ∀ X, Okx M g X → ∀ B0 H0 B H σ, RS M.C Z B0 H0 B H r σ → ∀ Dn : Ends, Ok4 M.C Z B0 H0 B O Dn → wS X st Dn σ H
end
def Out.to (O : Out) (N : Rho → Prop) : Out := { O with nx := N }
section
variable {M : Mo} {g : G} {Z : Sc} {e a b : Expr} {es ts : List Expr} {r r1 r2 : Rho} {x y z d : D} {xs : List D} {pos : Pos} {k : Nat} {is js : List Nat} {st : Stmt} {rest : List Stmt} {O O' : Out}
theorem SS.weak (h : SS M g Z rest r1 O) (l : Le r1 r) : SS M g Z rest r O := fun X ok B0 H0 B H σ R => h X ok B0 H0 B H σ (R.weak l)
theorem SS_nil (h : O.nx r) : SS M g Z [] r O := fun X ok B0 H0 B H σ R Dn o => ⟨_, pss_nil, o.nx r B H σ h R Ex.rfl'⟩
theorem SS_cons (h : S1 M g Z st r (O.to fun r' => SS M g Z rest r' O)) : SS M g Z (st :: rest) r O := fun X ok B0 H0 B H σ R Dn o => by
  refine ⟨_, pss_cons ps_w pss_w, ?_⟩
  exact h X ok B0 H0 B H σ R { Dn with nx := wSs X rest Dn } ⟨fun r' B' H' σ' n R' e => n X ok B0 H0 B' H' σ' R' Dn (o.go e), o.rt, o.bk, o.ct⟩
theorem SS_never (h : False) : SS M g Z rest r O := h.elim
/-- return e -/
theorem SS_retP {P : D → Prop} (h : EP M g Z e r P) (k : ∀ x, P x → O.rt x) : SS M g Z (.Return (some e) pos :: rest) r O := SS_cons fun X ok B0 H0 B H σ R Dn o => by
  refine ⟨_, ps_ret pe_w, ?_⟩
  refine h X ok B0 H0 B H σ R _ fun x v B1 H1 px f1 r1 => ?_
  exact o.rt x v B1 H1 (k x px) (R.fr.tr f1 R.s0) r1
theorem SS_ret (h : E M g Z e r x) (k : O.rt x) : SS M g Z (.Return (some e) pos :: rest) r O := SS_retP h fun _ q => q ▸ k
/-- name = e -/
theorem SS_setP {P : D → Prop} (i : Nat) {nm : Str} {pos' : Pos} (h : EP M g Z e r P) (k : ∀ x, P x → SS M g Z rest (r.set i (some (.d x))) O) (hN : g.N[i]? = some nm := by rfl) (hl : LocS g nm := by first | exact Or.inl rfl | exact Or.inr ⟨rfl, rfl⟩)
    (hs : ∀ env : Env, env.scope = g.sc → swapsWith e (some (.Name nm pos')) pos.line env = pure false := by intro _ _; rfl) : SS M g Z (.Assign [.Name nm pos'] e pos :: rest) r O := SS_cons fun X ok B0 H0 B H σ R Dn o => by
  obtain ⟨l1, l2⟩ := ok.loc hl
  refine ⟨_, ps_set (i := i) ok.nd (by rw [ok.N]; exact hN) l1 pe_w (hs _ ok.sc) l2, ?_⟩
  refine h X ok B0 H0 B H σ R _ fun x v B1 H1 px f1 r1 => ?_
  exact o.nx _ B1 H1 _ (k x px) ((R.step f1).set r1) f1.b
theorem SS_set (i : Nat) {nm : Str} {pos' : Pos} (h : E M g Z e r x) (k : SS M g Z rest (r.set i (some (.d x))) O) (hN : g.N[i]? = some nm := by rfl) (hl : LocS g nm := by first | exact Or.inl rfl | exact Or.inr ⟨rfl, rfl⟩)
    (hs : ∀ env : Env, env.scope = g.sc → swapsWith e (some (.Name nm pos')) pos.line env = pure false := by intro _ _; rfl) : SS M g Z (.Assign [.Name nm pos'] e pos :: rest) r O := SS_setP i h (fun _ q => q ▸ k) hN hl hs
/-- target = e -/
theorem SS_asgP {P : D → Prop} {tg : Expr} (h : EP M g Z e r P) (k : ∀ x, P x → ∃ r1 is, GT M g Z tg x r r1 is ∧ SS M g Z rest r1 O) (hs : ∀ env : Env, env.scope = g.sc → swapsWithSole [tg] e pos.line env = pure false := by intro _ _; rfl) (hw : ∀ env : Env, env.scope = g.sc → swappedStores [tg] e env = pure none := by intro _ _; rfl)
    (h1 : ∀ env, (assignEach [tg] env).map (·.2) = [assign tg env] := by intro _; rfl) : SS M g Z (.Assign [tg] e pos :: rest) r O := SS_cons fun X ok B0 H0 B H σ R Dn o => by
  refine ⟨_, ps_asg pe_w pg_w (hs _ ok.sc) (hw _ ok.sc) (h1 _), ?_⟩
  refine h X ok B0 H0 B H σ R _ fun x v B1 H1 px f1 q1 => ?_
  obtain ⟨r1, is, gt, k⟩ := k x px
  exact gt X ok B0 H0 B1 H1 σ v (R.step f1) q1 _ fun σ' R' _ => o.nx _ B1 H1 _ k R' f1.b
theorem SS_asg {tg : Expr} (h : E M g Z e r x) (gt : GT M g Z tg x r r1 is) (k : SS M g Z rest r1 O) (hs : ∀ env : Env, env.scope = g.sc → swapsWithSole [tg] e pos.line env = pure false := by intro _ _; rfl) (hw : ∀ env : Env, env.scope = g.sc → swappedStores [tg] e env = pure none := by intro _ _; rfl)
    (h1 : ∀ env, (assignEach [tg] env).map (·.2) = [assign tg env] := by intro _; rfl) : SS M g Z (.Assign [tg] e pos :: rest) r O := SS_asgP h (fun _ q => ⟨r1, is, q ▸ gt, k⟩) hs hw h1
/-- an expression alone -/
theorem SS_exprP {P : D → Prop} (h : EP M g Z e r P) (k : SS M g Z rest r O) (hs : ∀ env : Env, env.scope = g.sc → swapsWith e none pos.line env = pure false := by intro _ _; rfl) : SS M g Z (.Expr e pos :: rest) r O := SS_cons fun X ok B0 H0 B H σ R Dn o => by
  refine ⟨_, ps_expr pe_w (hs _ ok.sc), ?_⟩
  refine h X ok B0 H0 B H σ R _ fun x v B1 H1 px f1 q1 => ?_
  exact o.nx _ B1 H1 _ k (R.step f1) f1.b
/-- if -/
theorem SS_if {c : Expr} {th el : List Stmt} {p : Bool} (h : T M g Z c r p) (h1 : p = true → SS M g Z th r (O.to fun r' => SS M g Z rest r' O)) (h2 : p = false → SS M g Z el r (O.to fun r' => SS M g Z rest r' O)) : SS M g Z (.If c th el pos :: rest) r O := SS_cons fun X ok B0 H0 B H σ R Dn o => by
  refine ⟨_, ps_if pt_w pss_w pss_w, ?_⟩
  refine h X ok B0 H0 B H σ R _ fun x B1 H1 px f1 => ?_
  subst px
  cases x with
  | true => exact iteT (h1 rfl X ok B0 H0 B1 H1 σ (R.step f1) Dn (o.go f1.b))
  | false => exact iteF (h2 rfl X ok B0 H0 B1 H1 σ (R.step f1) Dn (o.go f1.b))
theorem SS_ifP {c : Expr} {th el : List Stmt} {P : Bool → Prop} (h : TP M g Z c r P) (h1 : P true → SS M g Z th r (O.to fun r' => SS M g Z rest r' O)) (h2 : P false → SS M g Z el r (O.to fun r' => SS M g Z rest r' O)) : SS M g Z (.If c th el pos :: rest) r O := SS_cons fun X ok B0 H0 B H σ R Dn o => by
  refine ⟨_, ps_if pt_w pss_w pss_w, ?_⟩
  refine h X ok B0 H0 B H σ R _ fun x B1 H1 px f1 => ?_
  cases x with
  | true => exact iteT (h1 px X ok B0 H0 B1 H1 σ (R.step f1) Dn (o.go f1.b))
  | false => exact iteF (h2 px X ok B0 H0 B1 H1 σ (R.step f1) Dn (o.go f1.b))
/-- if c: (what never goes on to here) -/
theorem SS_ifF {c : Expr} {th : List Stmt} {p : Bool} (h : T M g Z c r p) (k : SS M g Z rest r O) (hp : p = false := by rfl) : SS M g Z (.If c th [] pos :: rest) r O := SS_if h (fun q => nomatch hp.symm.trans q) fun _ => SS_nil k
theorem SS_ifT {c : Expr} {th el : List Stmt} {p : Bool} (h : T M g Z c r p) (k : SS M g Z th r (O.to fun r' => SS M g Z rest r' O)) (hp : p = true := by rfl) : SS M g Z (.If c th el pos :: rest) r O := SS_if h (fun _ => k) fun q => nomatch hp.symm.trans q
/-- i op= e -/
theorem SS_aug (i : Nat) {nm : Str} {op : Operator} {pos' : Pos} {f : Int → Int → Int} {p q : Int} (hr : r[i]? = some (some (.d (.int p)))) (h : E M g Z e r (.int q)) (ho : ∀ X : Cx, PIp X op (ipI f)) (k : SS M g Z rest (r.set i (some (.d (.int (f p q))))) O)
    (hN : g.N[i]? = some nm := by rfl) (hl : LocS g nm := by first | exact Or.inl rfl | exact Or.inr ⟨rfl, rfl⟩) : SS M g Z (.AugAssign (.Name nm pos') op e pos :: rest) r O := SS_cons fun X ok B0 H0 B H σ R Dn o => by
  obtain ⟨l1, l2⟩ := ok.loc hl
  refine ⟨_, ps_aug (i := i) ok.nd (by rw [ok.N]; exact hN) l1 pe_w (ho X) l2, ?_⟩
  obtain ⟨v, e1, h1⟩ := R.at_ i _ hr
  cases h1
  refine ⟨_, e1, ?_⟩
  refine h X ok B0 H0 B H σ R _ fun x v B1 H1 px f1 q1 => ?_
  subst px; cases q1
  exact ⟨p, q, rfl, rfl, o.nx _ B1 H1 _ k ((R.step f1).set (.int _)) f1.b⟩
theorem SS_break (h : O.bk r) : SS M g Z (.Break pos :: rest) r O := SS_cons fun X ok B0 H0 B H σ R Dn o => ⟨_, ps_break, o.bk r B H σ h R Ex.rfl'⟩

/-! ### own lists -/
/-- what an expression gives that is new -/
def EL (M : Mo) (g : G) (Z : Sc) (e : Expr) (r : Rho) (l : L) : Prop := ∀ X, Okx M g X → ∀ B0 H0 B H σ, RS M.C Z B0 H0 B H r σ → ∀ Q : VK, (∀ v B' H', Fr Z B H B' H' → RL M.C Z H B' H' l v → Q v H') → wE X e σ H Q
theorem E.l (h : E M g Z e r x) : EL M g Z e r (.d x) := fun X ok B0 H0 B H σ R Q q => h X ok B0 H0 B H σ R Q fun y v B' H' py f r1 => q v B' H' f (py ▸ r1)
/-- a new list as one's own -/
theorem EL_lst {es : List Expr} {xs : List D} (h : A M g Z es r xs) (hn : xs.length ≤ 10000 := by exact Nat.le_of_ble_eq_true rfl) : EL M g Z (.List es pos) r (.own xs) := fun X ok B0 H0 B H σ R Q q => by
  refine ⟨_, pe_lst pa_w, ?_⟩
  refine h X ok B0 H0 B H σ R _ fun ys vs B1 H1 px f1 r1 => ⟨?_, fun p hp' => ?_⟩
  · subst px; rw [← r1.len]; exact Nat.le_trans hn (by decide)
  · subst px
    have n0 := f1.free R.src hp'
    refine q _ B1 (upd H1 p (.lst vs)) ⟨f1.b, fun a o h z => ?_, f1.s.updR (f1.s.n hp'), f1.hid, f1.src.new hp'⟩ ⟨p, rfl, n0, f1.s.n hp', vs, upd_same, r1⟩
    rw [upd_ne (ne_of_none h n0)]
    exact f1.h a o h z
theorem SS_setL (i : Nat) {nm : Str} {pos' : Pos} {l : L} (h : EL M g Z e r l) (k : SS M g Z rest (r.set i (some l)) O) (hN : g.N[i]? = some nm := by rfl) (hl : LocS g nm := by first | exact Or.inl rfl | exact Or.inr ⟨rfl, rfl⟩)
    (hs : ∀ env : Env, env.scope = g.sc → swapsWith e (some (.Name nm pos')) pos.line env = pure false := by intro _ _; rfl) : SS M g Z (.Assign [.Name nm pos'] e pos :: rest) r O := SS_cons fun X ok B0 H0 B H σ R Dn o => by
  obtain ⟨l1, l2⟩ := ok.loc hl
  refine ⟨_, ps_set (i := i) ok.nd (by rw [ok.N]; exact hN) l1 pe_w (hs _ ok.sc) l2, ?_⟩
  refine h X ok B0 H0 B H σ R _ fun v B1 H1 f1 r1 => ?_
  exact o.nx _ B1 H1 _ k (R.setN f1 r1) f1.b
/-- several, from the left -/
def AL (M : Mo) (g : G) (Z : Sc) (es : List Expr) (r : Rho) (ls : List L) : Prop := ∀ X, Okx M g X → ∀ B0 H0 B H σ, RS M.C Z B0 H0 B H r σ → ∀ Q : List V → Hp → Prop,
  (∀ vs B' H', Fr Z B H B' H' → Paired (RL M.C Z H B' H') ls vs → (∀ (i j : Nat) (l m : L) (v w : V) (a : Addr), ls[i]? = some l → ls[j]? = some m → vs[i]? = some v → vs[j]? = some w → i ≠ j → Foot H' l v a → ¬ Foot H' m w a) → Q vs H') → wA X es σ H Q
theorem AL_nil : AL M g Z [] r [] := fun X ok B0 H0 B H σ R Q q => ⟨_, pa_nil, q [] B H (Fr.rfl' R.sB R.src) .nil (fun i j l m v w a e => by simp at e)⟩
theorem Paired.at1 {α β : Type} {F : α → β → Prop} : ∀ {l : List α} {m : List β} {i : Nat} {x : α} {y : β}, Paired F l m → l[i]? = some x → m[i]? = some y → F x y
  | _, _, i, _, _, .nil, e, _ => by simp at e
  | _, _, 0, _, _, .cons h _, e, e' => by simp at e e'; subst e e'; exact h
  | _, _, i + 1, _, _, .cons _ t, e, e' => Paired.at1 (i := i) t (by simpa using e) (by simpa using e')
theorem AL_cons {l : L} {ls : List L} (h : EL M g Z e r l) (h' : AL M g Z es r ls) (hs : ∀ env, starEach (e :: es) env = (false, eval e env) :: starEach es env := by intro _; rfl) : AL M g Z (e :: es) r (l :: ls) := fun X ok B0 H0 B H σ R Q q => by
  refine ⟨_, pa_cons pe_w pa_w (hs _), ?_⟩
  refine h X ok B0 H0 B H σ R _ fun v B1 H1 f1 r1 => ?_
  refine h' X ok B0 H0 B1 H1 σ (R.step f1) _ fun vs B2 H2 f2 r2 ap => ?_
  have r1' : RL M.C Z H B2 H2 l v := r1.step R.src f2
  have r2' : Paired (RL M.C Z H B2 H2) ls vs := Paired.imp r2 fun _ _ k => k.start fun a n => f1.free R.src n
  have dis : ∀ (j : Nat) (m : L) (w : V) (a : Addr), ls[j]? = some m → vs[j]? = some w → Foot H2 l v a → Foot H2 m w a → False := fun j m w a e1 e2 k1 k2 => by
    obtain ⟨_, o, q1⟩ := r1.foot (Foot.back R.src f2 r1 k1)
    obtain ⟨n, _⟩ := (Paired.at1 r2 e1 e2).foot k2
    rw [n] at q1; cases q1
  refine q _ B2 H2 (f1.tr f2 R.src) (.cons r1' r2') fun i j l' m' v' w' a e1 e2 e3 e4 ne k1 k2 => ?_
  cases i with
  | zero =>
    cases j with
    | zero => exact ne rfl
    | succ j => simp at e1 e2 e3 e4; subst e1 e3; exact dis j m' w' a e2 e4 k1 k2
  | succ i =>
    cases j with
    | zero => simp at e1 e2 e3 e4; subst e2 e4; exact dis i l' v' a e1 e3 k2 k1
    | succ j => exact ap i j l' m' v' w' a (by simpa using e1) (by simpa using e2) (by simpa using e3) (by simpa using e4) (fun z => ne (by rw [z])) k1 k2
/-- a, b = x, y -/
theorem SS_par {i j : Nat} {nm nm' : Str} {l m : L} {px py pt pt2 : Pos} {kt k2 : Nat} (h : AL M g Z [a, b] r [l, m]) (k : SS M g Z rest ((r.set i (some l)).set j (some m)) O) (hi : g.N[i]? = some nm := by rfl) (hj : g.N[j]? = some nm' := by rfl) (hij : i ≠ j := by decide)
    (hx : g.sc.names.lookup nm = some .local := by rfl) (hy : g.sc.names.lookup nm' = some .local := by rfl)
    (hw : ∀ env : Env, env.scope = g.sc → swappedStores [.Tuple [.Name nm px, .Name nm' py] kt pt] (.Tuple [a, b] k2 pt2) env = pure (some [nm, nm']) := by intro env h; obtain ⟨sc, _⟩ := env; subst h; rfl)
    (hs : ∀ env : Env, env.scope = g.sc → swapsWithSole [.Tuple [.Name nm px, .Name nm' py] kt pt] (.Tuple [a, b] k2 pt2) pos.line env = pure false := by intro _ _; rfl) :
    SS M g Z (.Assign [.Tuple [.Name nm px, .Name nm' py] kt pt] (.Tuple [a, b] k2 pt2) pos :: rest) r O := SS_cons fun X ok B0 H0 B H σ R Dn o => by
  refine ⟨_, ps_par (i := i) (j := j) ok.calm ok.nd (by rw [ok.N]; exact hi) (by rw [ok.N]; exact hj) hij (by rw [ok.sc]; exact hx) (by rw [ok.sc]; exact hy) pa_w (hw _ ok.sc) (hs _ ok.sc), ?_⟩
  refine h X ok B0 H0 B H σ R _ fun vs B1 H1 f1 r1 ap => ?_
  cases r1 with
  | cons h1 t1 => cases t1 with
    | cons h2 t2 => cases t2 with
      | nil =>
        refine ⟨_, _, rfl, o.nx _ B1 H1 _ k ?_ f1.b⟩
        refine (R.setN f1 h1).setL (h2.start fun a n => R.fr.free R.s0 n) fun j' m' w' a' ne e1 e2 k1 k2 => ?_
        by_cases q : i = j'
        · subst q
          have hl : i < r.length := by
            have := (List.getElem?_eq_some_iff.mp e1).1
            rwa [List.length_set] at this
          rw [List.getElem?_set_self hl] at e1
          rw [List.getElem?_set_self (by rw [R.len]; exact hl)] at e2
          cases e1; cases e2
          exact ap 1 0 m l _ _ a' rfl rfl rfl rfl (by decide) k1 k2
        · rw [List.getElem?_set_ne q] at e1 e2
          obtain ⟨n, _⟩ := h2.foot k1
          obtain ⟨w2, q1, h3⟩ := R.at_ j' m' e1
          rw [e2] at q1; cases q1
          obtain ⟨_, ob, q3⟩ := h3.foot (Foot.back R.s0 f1 h3 k2)
          rw [n] at q3; cases q3
end
end OC
set_option maxHeartbeats 4000000
/-! Loops, comprehensions, items. -/
namespace OC
open PySem PySem.Spec L2

theorem ofLe {a b : Nat} {P : Prop} (h : a ≤ b → P) : b = a → P := fun e => h (Nat.le_of_eq e.symm)
/-- the walk J goes through the data ds, from any state behind B1, H1 -/
def WalkD (C : Addr) (Z : Sc) (ds : List D) (J : It) (B1 H1 : Hp) : Prop := ∀ B' H', Ex B1 B' → Ex B' H' → SrcOk Z H' → ∀ i : Nat, (∀ d, ds[i]? = some d → J.go i H' ∧ ∀ x H'', J.yld i H' x H'' → ∃ B'', Fr Z B' H' B'' H'' ∧ RD C Z.s B'' d x) ∧ (i = ds.length → J.stop i H')
def ITP (M : Mo) (g : G) (Z : Sc) (tg it : Expr) (r : Rho) (P : List D → Prop) : Prop := ∀ X, Okx M g X → ∀ B0 H0 B H σ, RS M.C Z B0 H0 B H r σ → ∀ R : It → Hp → Prop, (∀ ds J B1 H1, P ds → Fr Z B H B1 H1 → WalkD M.C Z ds J B1 H1 → R J H1) → wI X tg it σ H R
abbrev IT (M : Mo) (g : G) (Z : Sc) (tg it : Expr) (r : Rho) (ds : List D) : Prop := ITP M g Z tg it r fun x => x = ds
theorem IT.of {M : Mo} {g : G} {Z : Sc} {tg it : Expr} {r : Rho} {ds es : List D} (h : IT M g Z tg it r ds) (k : ds = es) : IT M g Z tg it r es := k ▸ h
section
variable {M : Mo} {g : G} {Z : Sc} {e a b tg it : Expr} {es ts : List Expr} {r r1 r2 : Rho} {x y z d : D} {xs ds : List D} {pos : Pos} {k : Nat} {is js : List Nat} {st : Stmt} {rest body : List Stmt} {O O' : Out}

/-! ### what is walked -/
/-- the list at p, tracked: what is yielded is its item -/
theorem IT_list (he : EP M g Z it r fun x => x = .lst ds) (hp : ∀ X, Okx M g X → ∀ tl, PE X it tl → PI X tg it (iList X.K tl) := by intro X ok tl h; exact pi_list h) : IT M g Z tg it r ds := fun X ok B0 H0 B H σ R Q q => by
  refine ⟨_, hp X ok _ pe_w, ?_⟩
  refine he X ok B0 H0 B H σ R _ fun x v B1 H1 px f1 r1 => ?_
  subst px
  cases r1 with
  | lst h1 k1 =>
    rename_i vs p
    refine ⟨p, rfl, ⟨_, SqL.of (f1.s _ _ h1)⟩, q ds (Itl X.K p) B1 H1 rfl f1 fun B' H' fb fs fr i => ⟨fun d hd => ?_, ofLe fun hl => ?_⟩⟩
    · obtain ⟨v, e1, r⟩ := k1.atD hd
      have hq : H' p = some (.lst vs) := fs _ _ (fb _ _ h1)
      refine ⟨⟨vs, v, SqL.of hq, e1⟩, fun x H'' y => ⟨B', ?_, ?_⟩⟩
      · obtain ⟨e2, _⟩ := y; subst e2; exact Fr.rfl' fs fr
      · have e3 := y.2 vs (SqL.of hq)
        rw [e1] at e3; cases e3
        exact r.mono fb
    · exact ⟨vs, SqL.of (fs _ _ (fb _ _ h1)), by rw [← k1.len]; exact hl⟩
theorem IT_tup (he : E M g Z it r (.tup ds)) : IT M g Z tg it r ds := fun X ok B0 H0 B H σ R Q q => by
  refine ⟨_, pi_tup pe_w, ?_⟩
  refine he X ok B0 H0 B H σ R _ fun x v B1 H1 px f1 r1 => ?_
  subst px
  cases r1 with
  | tup h1 k1 =>
    rename_i vs p
    refine ⟨p, rfl, ⟨_, SqT.of (f1.s _ _ h1)⟩, q ds (Itt X.K p) B1 H1 rfl f1 fun B' H' fb fs fr i => ⟨fun d hd => ?_, ofLe fun hl => ?_⟩⟩
    · obtain ⟨v, e1, r⟩ := k1.atD hd
      have hq : H' p = some (.tup vs) := fs _ _ (fb _ _ h1)
      refine ⟨⟨vs, v, SqT.of hq, e1⟩, fun x H'' y => ⟨B', ?_, ?_⟩⟩
      · obtain ⟨e2, _⟩ := y; subst e2; exact Fr.rfl' fs fr
      · have e3 := y.2 vs (SqT.of hq)
        rw [e1] at e3; cases e3
        exact r.mono fb
    · exact ⟨vs, SqT.of (fs _ _ (fb _ _ h1)), by rw [← k1.len]; exact hl⟩
def rangeD (n : Nat) : List D := (List.range n).map fun (i : Nat) => D.int (i : Int)
theorem IT_rangeP {P : D → Prop} {nm : Str} {p : Pos} {Pn : Nat → Prop} (he : EP M g Z e r P) (hP : ∀ x, P x → ∃ n : Nat, x = .int n ∧ Pn n ∧ n < 2 ^ 62) (hm : M.mg "range" = none) (hg : GlS g "range" := by rfl) (hs : ∀ env, starEach [e] env = [(false, eval e env)] := by intro _; rfl) :
    ITP M g Z tg (.Call (.Name "range" p) [e] [] pos) r fun x => ∃ n, Pn n ∧ x = rangeD n := fun X ok B0 H0 B H σ R Q q => by
  refine ⟨_, pi_range1 (ok.gl hg) (by rw [ok.mg]; exact hm) (pa_cons pe_w pa_nil (hs _)) (hs _), ?_⟩
  refine he X ok B0 H0 B H σ R _ fun x v B1 H1 px f1 r1 => ?_
  obtain ⟨n, e1, hn, hb⟩ := hP x px
  subst e1; cases r1
  refine ⟨n, rfl, by omega, by omega, q (rangeD n) _ B1 H1 ⟨n, hn, rfl⟩ f1 fun B' H' fb fs fr i => ⟨fun d hd => ?_, ofLe fun hl => ?_⟩⟩
  · unfold rangeD at hd
    rw [List.getElem?_map] at hd
    have hi : i < n := by
      by_cases z : i < n
      · exact z
      · rw [List.getElem?_eq_none (by rw [List.length_range]; omega)] at hd; cases hd
    rw [List.getElem?_range hi] at hd
    cases hd
    refine ⟨by show i < (n : Int).toNat; rw [Int.toNat_natCast]; exact hi, fun x H'' y => ⟨B', ?_, ?_⟩⟩
    · obtain ⟨e2, _⟩ := y; subst e2; exact Fr.rfl' fs fr
    · obtain ⟨_, e3⟩ := y; subst e3; rw [Int.zero_add]; exact .int _
  · unfold rangeD at hl
    rw [List.length_map, List.length_range] at hl
    show (n : Int).toNat ≤ i
    rw [Int.toNat_natCast]; exact hl
theorem IT_range {p : Pos} {n : Nat} (he : E M g Z e r (.int n)) (hn : n < 2 ^ 62) (hm : M.mg "range" = none) (hg : GlS g "range" := by rfl) (hs : ∀ env, starEach [e] env = [(false, eval e env)] := by intro _; rfl) :
    IT M g Z tg (.Call (.Name "range" p) [e] [] pos) r (rangeD n) := by
  have h := IT_rangeP (tg := tg) (p := p) (pos := pos) (nm := "range") (Pn := fun m => m = n) he (fun x e => ⟨n, e, rfl, hn⟩) hm hg hs
  intro X ok B0 H0 B H σ R Q q
  refine h X ok B0 H0 B H σ R Q fun ds J B1 H1 p f w => q ds J B1 H1 ?_ f w
  obtain ⟨m, e1, e2⟩ := p
  rw [e2, e1]
def enumD (ds : List D) : List D := ds.zipIdx.map fun p => D.tup [.int (p.2 : Int), p.1]
theorem IT_enum {elts : List Expr} {kk : Nat} {tpos p : Pos} (he : E M g Z e r (.lst ds)) (hm : M.mg "enumerate" = none) (hg : GlS g "enumerate" := by rfl) (hs : ∀ env, starEach [e] env = [(false, eval e env)] := by intro _; rfl) :
    IT M g Z (.Tuple elts kk tpos) (.Call (.Name "enumerate" p) [e] [] pos) r (enumD ds) := fun X ok B0 H0 B H σ R Q q => by
  refine ⟨_, pi_enum (ok.gl hg) (by rw [ok.mg]; exact hm) (pa_cons pe_w pa_nil (hs _)) (hs _), ?_⟩
  refine he X ok B0 H0 B H σ R _ fun x v B1 H1 px f1 r1 => ?_
  subst px
  cases r1 with
  | lst h1 k1 =>
    rename_i vs p
    refine ⟨p, vs, rfl, SqL.of (f1.s _ _ h1), q (enumD ds) (Ite X.K p) B1 H1 rfl f1 fun B' H' fb fs fr i => ⟨fun d hd => ?_, ofLe fun hl => ?_⟩⟩
    · unfold enumD at hd
      rw [List.getElem?_map, List.getElem?_zipIdx] at hd
      cases e0 : ds[i]? with
      | none => rw [e0] at hd; cases hd
      | some d0 =>
        rw [e0] at hd
        simp only [Option.map_some, Option.some.injEq, Nat.zero_add] at hd
        subst hd
        obtain ⟨v, e1, r⟩ := k1.atD e0
        have hq : H' p = some (.lst vs) := fs _ _ (fb _ _ h1)
        refine ⟨⟨vs, v, SqL.of hq, e1⟩, fun x H'' y => ?_⟩
        obtain ⟨T, w, e2, nT, e3, hw⟩ := y
        subst e2 e3
        have e4 := hw vs (SqL.of hq)
        rw [e1] at e4; cases e4
        refine ⟨upd B' T (.tup [.int (i : Int), v]), (Fr.rfl' fs fr).add fr nT, .tup upd_same (.cons (.int _) (.cons ((r.mono fb).mono (Ex.new (fs.n nT))) .nil))⟩
    · unfold enumD at hl
      rw [List.length_map, List.length_zipIdx] at hl
      exact ⟨vs, SqL.of (fs _ _ (fb _ _ h1)), by rw [← k1.len]; exact hl⟩
def zipD (ds es : List D) : List D := (ds.zip es).map fun p => D.tup [p.1, p.2]
theorem IT_zip {elts : List Expr} {kk : Nat} {tpos p : Pos} {es' : List D} (he : A M g Z [a, b] r [.lst ds, .lst es']) (hm : M.mg "zip" = none) (hg : GlS g "zip" := by rfl) (hs : ∀ env, starEach [a, b] env = (false, eval a env) :: starEach [b] env := by intro _; rfl) (hpl : ∀ env, (backTo pos (starEach [b] env)).any (·.1) = false := by intro _; rfl) :
    IT M g Z (.Tuple elts kk tpos) (.Call (.Name "zip" p) [a, b] [] pos) r (zipD ds es') := fun X ok B0 H0 B H σ R Q q => by
  refine ⟨_, pi_zip (ok.gl hg) (by rw [ok.mg]; exact hm) pa_w (hs _) (hpl _), ?_⟩
  refine he X ok B0 H0 B H σ R _ fun xs vs B1 H1 px f1 r1 => ?_
  subst px
  cases r1 with
  | cons ra rr => cases rr with
    | cons rb rr => cases rr with
      | nil =>
        cases ra with
        | lst h1 k1 =>
          cases rb with
          | lst h2 k2 =>
            rename_i vs p ws q'
            refine ⟨p, q', vs, ws, rfl, SqL.of (f1.s _ _ h1), SqL.of (f1.s _ _ h2), q (zipD ds es') (Itz X.K p q') B1 H1 rfl f1 fun B' H' fb fs fr i => ⟨fun d hd => ?_, ofLe fun hl => ?_⟩⟩
            · unfold zipD at hd
              rw [List.getElem?_map] at hd
              cases e0 : (ds.zip es')[i]? with
              | none => rw [e0] at hd; cases hd
              | some d0 =>
                rw [e0] at hd
                simp only [Option.map_some, Option.some.injEq] at hd
                subst hd
                have e0 : (ds.zip es')[i]? = some (d0.1, d0.2) := e0
                obtain ⟨ea, eb⟩ := List.getElem?_zip_eq_some.mp e0
                obtain ⟨v, e1, r⟩ := k1.atD ea
                obtain ⟨w, e2, r'⟩ := k2.atD eb
                have hq : H' p = some (.lst vs) := fs _ _ (fb _ _ h1)
                have hq2 : H' q' = some (.lst ws) := fs _ _ (fb _ _ h2)
                refine ⟨⟨vs, ws, v, w, SqL.of hq, SqL.of hq2, e1, e2⟩, fun x H'' y => ?_⟩
                obtain ⟨T, x1, y1, e3, nT, e4, hw1, hw2⟩ := y
                subst e3 e4
                have e5 := hw1 vs (SqL.of hq)
                rw [e1] at e5; cases e5
                have e6 := hw2 ws (SqL.of hq2)
                rw [e2] at e6; cases e6
                have nx := Ex.new (o := HO.tup [v, w]) (fs.n nT)
                exact ⟨upd B' T (.tup [v, w]), (Fr.rfl' fs fr).add fr nT, .tup upd_same (.cons ((r.mono fb).mono nx) (.cons ((r'.mono fb).mono nx) .nil))⟩
            · unfold zipD at hl
              rw [List.length_map, List.length_zip] at hl
              refine ⟨vs, ws, SqL.of (fs _ _ (fb _ _ h1)), SqL.of (fs _ _ (fb _ _ h2)), ?_⟩
              rw [← k1.len, ← k2.len]
              omega

/-! ### for -/
/-- the loop over the data ds: I, by what is gone through -/
theorem SS_forI {P : List D → Prop} (hi : ITP M g Z tg it r P) (I : Nat → Rho → Prop) (h0 : ∃ r0, Le r0 r ∧ I 0 r0)
    (hb : ∀ ds, P ds → ∀ (i : Nat) (d : D), ds[i]? = some d → ∀ r', I i r' → ∃ r1 is, GT M g Z tg d r' r1 is ∧ SS M g Z body r1 ⟨fun r2 => ∃ r3, Le r3 r2 ∧ I (i + 1) r3, O.rt, fun r2 => SS M g Z rest r2 O, fun r2 => ∃ r3, Le r3 r2 ∧ I (i + 1) r3⟩)
    (hd : ∀ ds, P ds → ∀ r', I ds.length r' → SS M g Z rest r' O) (hs : ∀ env x, foldedSetIterable it env x = pure x := by intro _ _; rfl) : SS M g Z (.For tg it body [] pos :: rest) r O := SS_cons fun X ok B0 H0 B H σ R Dn o => by
  obtain ⟨r0, l0, i0⟩ := h0
  refine ⟨_, ps_for (by rw [ok.xe]; exact PassesOwn.never) ok.calm pi_w pg_w pss_w (hs _), ?_⟩
  refine hi X ok B0 H0 B H σ R _ fun ds J B1 H1 pds f1 wk => ?_
  have R1 := (R.step f1).weak l0
  refine ⟨fun i m σ' H' => m = ds.length - i ∧ i ≤ ds.length ∧ ∃ r' B', I i r' ∧ RS M.C Z B0 H0 B' H' r' σ' ∧ Ex B1 B', ⟨_, rfl, Nat.zero_le _, r0, B1, i0, R1, Ex.rfl'⟩, ?_⟩
  rintro i m σ' H' ⟨rfl, hle, r', B', ii, R', fB⟩
  obtain ⟨wgo, wstop⟩ := wk B' H' fB R'.sB R'.src i
  by_cases hlt : i < ds.length
  · have hd1 : ds[i]? = some ds[i] := by simp [hlt]
    obtain ⟨go, yl⟩ := wgo _ hd1
    refine .inr ⟨go, fun σ2 H2 => ∃ r2 B2, I (i + 1) r2 ∧ RS M.C Z B0 H0 B2 H2 r2 σ2 ∧ Ex B1 B2, fun σ2 H2 q => ⟨ds.length - (i + 1), by omega, rfl, hlt, q⟩, fun x H'' y => ?_⟩
    obtain ⟨B'', f2, rx⟩ := yl x H'' y
    obtain ⟨r1, is, gt, ss⟩ := hb ds pds i _ hd1 r' ii
    refine gt X ok B0 H0 B'' H'' σ' x (R'.step f2) rx _ fun σ2 R2 _ => ?_
    have fB2 := fB.tr f2.b
    refine ss X ok B0 H0 B'' H'' σ2 R2 _ ⟨fun r2 B2 H2 σ3 ⟨r3, l3, i3⟩ R3 e3 => ⟨r3, B2, i3, R3.weak l3, fB2.tr e3⟩, o.rt, fun r2 B2 H2 σ3 n R3 e3 => o.nx _ _ _ _ n R3 ((f1.b.tr fB2).tr e3), fun r2 B2 H2 σ3 ⟨r3, l3, i3⟩ R3 e3 => ⟨r3, B2, i3, R3.weak l3, fB2.tr e3⟩⟩
  · have e : i = ds.length := by omega
    subst e
    exact .inl ⟨wstop rfl, o.nx _ _ _ _ (hd ds pds r' ii) R' (f1.b.tr fB)⟩
/-- a fold: the slots are env of a state -/
theorem SS_fold {α S : Type} {l : List α} {gf : α → D} (hi : IT M g Z tg it r (l.map gf)) (env : S → Rho) (step : S → α → S) (s0 : S) (h0 : Le (env s0) r)
    (hb : ∀ (s : S) (pre : List α) (x : α) (post : List α), l = pre ++ x :: post → s = pre.foldl step s0 → ∃ r1 is, GT M g Z tg (gf x) (env s) r1 is ∧ SS M g Z body r1 ⟨fun r2 => Le (env (step s x)) r2, O.rt, fun _ => False, fun r2 => Le (env (step s x)) r2⟩)
    (hd : SS M g Z rest (env (l.foldl step s0)) O) (hs : ∀ env x, foldedSetIterable it env x = pure x := by intro _ _; rfl) : SS M g Z (.For tg it body [] pos :: rest) r O := by
  refine SS_forI hi (fun i r' => r' = env ((l.take i).foldl step s0)) ⟨_, h0, rfl⟩ ?_ ?_ hs
  · intro ds e i d hd1 r' er
    subst e er
    rw [List.getElem?_map] at hd1
    cases e0 : l[i]? with
    | none => rw [e0] at hd1; cases hd1
    | some x =>
      rw [e0] at hd1
      simp only [Option.map_some, Option.some.injEq] at hd1
      subst hd1
      have hlt : i < l.length := (List.getElem?_eq_some_iff.mp e0).1
      have e1 : l = l.take i ++ x :: l.drop (i + 1) := by
        have e2 := (List.getElem?_eq_some_iff.mp e0).2
        rw [← e2, ← List.drop_eq_getElem_cons hlt, List.take_append_drop]
      obtain ⟨r1, is, gt, ss⟩ := hb _ (l.take i) x (l.drop (i + 1)) e1 rfl
      have e3 : (l.take (i + 1)).foldl step s0 = step ((l.take i).foldl step s0) x := by
        rw [List.take_succ, e0, List.foldl_append]; rfl
      refine ⟨r1, is, gt, fun X ok B0 H0 B H σ R Dn o => ss X ok B0 H0 B H σ R Dn ⟨fun r2 B2 H2 σ2 n => o.nx r2 B2 H2 σ2 ⟨_, n, by rw [e3]⟩, o.rt, fun r2 B2 H2 σ2 n => n.elim, fun r2 B2 H2 σ2 n => o.ct r2 B2 H2 σ2 ⟨_, n, by rw [e3]⟩⟩⟩
  · intro ds e r' er
    subst e er
    rw [List.length_map, List.take_length]
    exact hd

/-! ### while -/
theorem SS_while {c : Expr} (W : Nat → Rho → Prop) (m0 : Nat) {r0 : Rho} (l0 : Le r0 r) (h0 : W m0 r0)
    (hs : ∀ m r', W m r' → ∃ p, T M g Z c r' p ∧ (p = true → SS M g Z body r' ⟨fun r2 => ∃ m' r3, m' < m ∧ Le r3 r2 ∧ W m' r3, O.rt, fun r2 => SS M g Z rest r2 O, fun r2 => ∃ m' r3, m' < m ∧ Le r3 r2 ∧ W m' r3⟩) ∧ (p = false → SS M g Z rest r' O)) :
    SS M g Z (.While c body [] pos :: rest) r O := SS_cons fun X ok B0 H0 B H σ R Dn o => by
  refine ⟨_, ps_while (by rw [ok.xe]; exact PassesOwn.never) pt_w pss_w, ?_⟩
  refine ⟨fun m σ' H' => ∃ r' B', W m r' ∧ RS M.C Z B0 H0 B' H' r' σ' ∧ Ex B B', ⟨m0, r0, B, h0, R.weak l0, Ex.rfl'⟩, ?_⟩
  rintro m σ' H' ⟨r', B', w, R', eB⟩
  obtain ⟨p, tc, ht, hf⟩ := hs m r' w
  refine tc X ok B0 H0 B' H' σ' R' _ fun x B1 H1 px f1 => ?_
  subst px
  cases x with
  | true =>
    refine iteT ⟨fun σ2 H2 => ∃ m', m' < m ∧ ∃ r2 B2, W m' r2 ∧ RS M.C Z B0 H0 B2 H2 r2 σ2 ∧ Ex B B2, fun σ2 H2 q => q, ?_⟩
    have e1 := eB.tr f1.b
    exact ht rfl X ok B0 H0 B1 H1 σ' (R'.step f1) _ ⟨fun r2 B2 H2 σ3 ⟨m', r3, lt, l3, w3⟩ R3 e3 => ⟨m', lt, r3, B2, w3, R3.weak l3, e1.tr e3⟩, o.rt, fun r2 B2 H2 σ3 n R3 e3 => o.nx _ _ _ _ n R3 (e1.tr e3), fun r2 B2 H2 σ3 ⟨m', r3, lt, l3, w3⟩ R3 e3 => ⟨m', lt, r3, B2, w3, R3.weak l3, e1.tr e3⟩⟩
  | false => exact iteF (o.nx _ _ _ _ (hf rfl) (R'.step f1) (eB.tr f1.b))

/-! ### forgetting -/
theorem Le.nil : Le [] [] := ⟨rfl, fun i l e => by simp at e⟩
theorem Le.rfl' {r : Rho} : Le r r := ⟨rfl, fun _ _ e => e⟩
theorem Le.keep {r r' : Rho} {o : Option L} (h : Le r' r) : Le (o :: r') (o :: r) := by
  refine ⟨congrArg (· + 1) h.1, fun i l e => ?_⟩
  cases i with
  | zero => exact e
  | succ i => exact h.2 i l (by simpa using e)
theorem Le.drop {r r' : Rho} {o : Option L} (h : Le r' r) : Le (none :: r') (o :: r) := by
  refine ⟨congrArg (· + 1) h.1, fun i l e => ?_⟩
  cases i with
  | zero => simp at e
  | succ i => exact h.2 i l (by simpa using e)
theorem Le.tr {a b c : Rho} (h : Le a b) (h' : Le b c) : Le a c := ⟨h.1.trans h'.1, fun i l e => h'.2 i l (h.2 i l e)⟩

/-! ### list comprehensions -/
def T2 (M : Mo) (g : G) (Z : Sc) (ifs : List Expr) (r : Rho) (p : Bool) : Prop := (ifs = [] ∧ p = true) ∨ ∃ c, ifs = [c] ∧ T M g Z c r p
def wTs (X : Cx) (e : List Expr) : TT := fun σ H Q => ∃ t, PTs X e t ∧ t σ H Q
theorem pts_w {X : Cx} {e : List Expr} : PTs X e (wTs X e) := ⟨fun pins s σ H Q I ⟨t, p, h⟩ => p.run pins s σ H Q I h⟩
/-- the block's context -/
def G.blk (g : G) (scope : Scope) : G := ⟨g.N, relS scope g.sc, fun x => scope.names.lookup x == some .cell, g.k⟩
theorem Okx.blk {X : Cx} {scope : Scope} {s : Shared} {H : Hp} {Cc : Addr} {cl : List (Str × Addr)} {fp : List Addr} (ok : Okx M g X) : Okx M (g.blk scope) (X.blk s H scope (compEnvC scope cl Cc X.env) fp) :=
  ⟨ok.p, ok.w, ok.K, ok.mg, ok.base, ok.N, ok.nd, by show relS scope X.env.scope = relS scope g.sc; rw [ok.sc], rfl, ok.calm, ok.room, rfl⟩
/-- the slots that are forgotten -/
def wipeR (r : Rho) : List Nat → Rho
  | [] => r
  | v :: vs => (wipeR r vs).set v none
theorem wipeR_len (r : Rho) : ∀ vs : List Nat, (wipeR r vs).length = r.length
  | [] => rfl
  | v :: vs => by unfold wipeR; rw [List.length_set, wipeR_len r vs]
theorem wipeR_get (r : Rho) : ∀ (vs : List Nat) (j : Nat) (l : L), (wipeR r vs)[j]? = some (some l) → j ∉ vs ∧ r[j]? = some (some l)
  | [], j, l, h => ⟨fun z => (nomatch z), h⟩
  | v :: vs, j, l, h => by
    have h : ((wipeR r vs).set v none)[j]? = some (some l) := h
    by_cases q : v = j
    · subst q
      by_cases z : v < (wipeR r vs).length
      · rw [List.getElem?_set_self z] at h; cases h
      · rw [List.getElem?_eq_none (by rw [List.length_set]; omega)] at h; cases h
    · rw [List.getElem?_set_ne q] at h
      obtain ⟨a, b⟩ := wipeR_get r vs j l h
      exact ⟨fun z => (List.mem_cons.mp z).elim (fun e => q e.symm) a, b⟩
theorem RS.wipe {C : Addr} {B0 H0 B H : Hp} {σ : L2.St} (R : RS C Z B0 H0 B H r σ) (vs : List Nat) : RS C Z B0 H0 B H (wipeR r vs) (L2.wipe σ vs) := by
  have q : ∀ (j : Nat) (l : L), (wipeR r vs)[j]? = some (some l) → r[j]? = some (some l) ∧ (L2.wipe σ vs)[j]? = σ[j]? := fun j l e => by
    obtain ⟨a, b⟩ := wipeR_get r vs j l e
    exact ⟨b, by rw [wipe_get, if_neg fun z => a z.1]⟩
  refine ⟨R.s0, R.hz, R.fr, by rw [wipe_length, wipeR_len]; exact R.len, fun i l e => ?_, fun i j l m v w a e1 e2 e3 e4 ne k1 k2 => ?_⟩
  · obtain ⟨a, b⟩ := q i l e
    rw [b]; exact R.at_ i l a
  · obtain ⟨a1, b1⟩ := q i l e1
    obtain ⟨a2, b2⟩ := q j m e2
    rw [b1] at e3; rw [b2] at e4
    exact R.ap i j l m v w a a1 a2 e3 e4 ne k1 k2
/-- the block's parts, read the same from wherever the block begins -/
def bG (X : Cx) (scope : Scope) (tg : Expr) : TG := fun v σ H Q => ∀ (s : Shared) (Hs : Hp) (Cc : Addr) (cl : List (Str × Addr)) (fp : List Addr), wG (X.blk s Hs scope (compEnvC scope cl Cc X.env) fp) tg v σ H Q
def bT (X : Cx) (scope : Scope) (ifs : List Expr) : TT := fun σ H Q => ∀ (s : Shared) (Hs : Hp) (Cc : Addr) (cl : List (Str × Addr)) (fp : List Addr), wTs (X.blk s Hs scope (compEnvC scope cl Cc X.env) fp) ifs σ H Q
def bE (X : Cx) (scope : Scope) (e : Expr) : TE := fun σ H Q => ∀ (s : Shared) (Hs : Hp) (Cc : Addr) (cl : List (Str × Addr)) (fp : List Addr), wE (X.blk s Hs scope (compEnvC scope cl Cc X.env) fp) e σ H Q
theorem pg_b {X : Cx} {scope : Scope} {tg : Expr} (s : Shared) (Hs : Hp) (Cc : Addr) (cl : List (Str × Addr)) (fp : List Addr) : PG (X.blk s Hs scope (compEnvC scope cl Cc X.env) fp) tg (bG X scope tg) := ⟨fun pins s' σ' H' v u Q' I' r' hh => pg_w.run pins s' σ' H' v u Q' I' r' (hh s Hs Cc cl fp)⟩
theorem pt_b {X : Cx} {scope : Scope} {tg : List Expr} (s : Shared) (Hs : Hp) (Cc : Addr) (cl : List (Str × Addr)) (fp : List Addr) : PTs (X.blk s Hs scope (compEnvC scope cl Cc X.env) fp) tg (bT X scope tg) := ⟨fun pins s' σ' H' Q' I' hh => pts_w.run pins s' σ' H' Q' I' (hh s Hs Cc cl fp)⟩
theorem pe_b {X : Cx} {scope : Scope} {tg : Expr} (s : Shared) (Hs : Hp) (Cc : Addr) (cl : List (Str × Addr)) (fp : List Addr) : PE (X.blk s Hs scope (compEnvC scope cl Cc X.env) fp) tg (bE X scope tg) := ⟨fun pins s' σ' H' Q' I' hh => pe_w.run pins s' σ' H' Q' I' (hh s Hs Cc cl fp)⟩
theorem SrcOk.upd' {H : Hp} {p : Addr} {o : HO} (h : SrcOk Z H) (n : Z.on = true → p ≠ Z.s ∧ p ≠ Z.c) : SrcOk Z (upd H p o) := fun z => by
  obtain ⟨ne, cs, l, m, t, a1, a2, a3, a4, e1, e2⟩ := h z
  exact ⟨ne, cs, l, m, t, a1, a2, a3, a4, by rw [upd_ne (Ne.symm (n z).1)]; exact e1, by rw [upd_ne (Ne.symm (n z).2)]; exact e2⟩
/-- a block's list at p grows: to those who do not know p nothing has happened -/
theorem Fr.grow {B H B' H' : Hp} {p : Addr} {o : HO} (f : Fr Z B H B' H') (s0 : SrcOk Z H) (n : H p = none) (nb : B' p = none) : Fr Z B H B' (upd H' p o) :=
  ⟨f.b, fun a u h z => by rw [upd_ne (ne_of_none h n)]; exact f.h a u h z, f.s.updR nb, f.hid, f.src.upd' (s0.ne n)⟩
/-- [elt for tg in it if ..] -/
structure LC (M : Mo) (g : G) (Z : Sc) (elt tg it : Expr) (ifs : List Expr) (scope : Scope) (r : Rho) (Q0 : D → Prop) : Prop where
  fs : ∀ env x, foldedSetIterable it env x = pure x
  run : ∃ own : List (Str × Nat), BlkOk g.N g.sc scope own ∧ ∀ X, Okx M g X → ∀ B0 H0 B H σ, RS M.C Z B0 H0 B H r σ → ∀ Q : VK, (∀ ds p xs B' H', Q0 (.lst ds) → Fr Z B H B' H' → H p = none → B' p = none → H' p = some (.lst xs) → RDs M.C Z.s B' ds xs → Q (.ref p) H') → tLc (wI X tg it) (bG X scope tg) (bT X scope ifs) (bE X scope elt) (own.map (·.2)) σ H Q
theorem LC.ex {elt : Expr} {ifs : List Expr} {scope : Scope} {Q0 : D → Prop} (h : LC M g Z elt tg it ifs scope r Q0) : EP M g Z (.ListComp elt [⟨tg, it, ifs, 0⟩] scope pos) r Q0 := fun X ok B0 H0 B H σ R Q q => by
  obtain ⟨own, bo, run⟩ := h.run
  exact ⟨_, pe_lc (own := own) ok.calm ok.nd pi_w (by rw [ok.N, ok.sc]; exact bo) pg_b pt_b pe_b (h.fs _), run X ok B0 H0 B H σ R Q fun ds p xs B' H' pd f nH nb hx rs => q (.lst ds) (.ref p) (upd B' p (.lst xs)) H' pd (f.give nH (R.sB.n nH) hx) (.lst upd_same (rs.mono (Ex.new nb)))⟩
theorem SS_setLc {elt : Expr} {ifs : List Expr} {scope : Scope} {Q0 : D → Prop} (i : Nat) {nm : Str} {pos' spos : Pos} (h : LC M g Z elt tg it ifs scope r Q0) (k : ∀ x, Q0 x → SS M g Z rest (r.set i (some (.d x))) O) (hN : g.N[i]? = some nm := by rfl) (hl : g.sc.names.lookup nm = some .local := by rfl)
    (hsw : ∀ env : Env, env.scope = g.sc → swapsWith (.ListComp elt [⟨tg, it, ifs, 0⟩] scope pos) (some (.Name nm pos')) spos.line env = pure true := by intro _ e; exact sw_true (by rw [e]; rfl) (by rw [e]; rfl) rfl (by rfl)) : SS M g Z (.Assign [.Name nm pos'] (.ListComp elt [⟨tg, it, ifs, 0⟩] scope pos) spos :: rest) r O := SS_cons fun X ok B0 H0 B H σ R Dn o => by
  obtain ⟨own, bo, run⟩ := h.run
  have l1 : Loc X.env.scope nm ∧ (X.fn nm = true ∨ X.env.scope.names.lookup nm = some .local) := ok.loc (.inl hl)
  refine ⟨_, ps_setLc (i := i) (own := own) ok.calm ok.nd (by rw [ok.N]; exact hN) (by rw [ok.sc]; exact hl) (hsw _ ok.sc) pi_w (by rw [ok.N, ok.sc]; exact bo) pg_b pt_b pe_b (h.fs _), ?_⟩
  refine run X ok B0 H0 B H σ R _ fun ds p xs B1 H1 px f nH nb hx rs => ?_
  have f1 := f.give nH (R.sB.n nH) hx
  exact o.nx _ _ H1 _ (k _ px) ((R.step f1).set (.lst upd_same (rs.mono (Ex.new nb)))) f1.b
/-- the new list as one's own -/
theorem EL_lc {elt : Expr} {ifs : List Expr} {scope : Scope} {ds : List D} (h : LC M g Z elt tg it ifs scope r fun y => y = .lst ds) : EL M g Z (.ListComp elt [⟨tg, it, ifs, 0⟩] scope pos) r (.own ds) := fun X ok B0 H0 B H σ R Q q => by
  obtain ⟨own, bo, run⟩ := h.run
  refine ⟨_, pe_lc (own := own) ok.calm ok.nd pi_w (by rw [ok.N, ok.sc]; exact bo) pg_b pt_b pe_b (h.fs _), run X ok B0 H0 B H σ R Q fun es p xs B' H' pd f nH nb hx rs => ?_⟩
  cases pd
  exact q _ B' H' f ⟨p, rfl, nH, nb, xs, hx, rs⟩
theorem LC_of {elt : Expr} {ifs : List Expr} {scope : Scope} {P : List D → Prop} {Q0 : D → Prop} (own : List (Str × Nat)) (hi : ITP M g Z tg it r P) (ok' : BlkOk g.N g.sc scope own) (I : Nat → List D → Prop) (h0 : I 0 [])
    (hb : ∀ ds, P ds → ∀ (i : Nat) (d : D), ds[i]? = some d → ∃ r1 is p, GT M (g.blk scope) Z tg d (wipeR r (own.map (·.2))) r1 is ∧ (∀ j ∈ is, j ∈ own.map (·.2)) ∧ T2 M (g.blk scope) Z ifs r1 p ∧
      (p = true → EP M (g.blk scope) Z elt r1 fun y => ∀ acc, I i acc → I (i + 1) (acc ++ [y])) ∧ (p = false → ∀ acc, I i acc → I (i + 1) acc))
    (hl : ∀ ds, P ds → ds.length ≤ 1000) (hd : ∀ ds acc, P ds → I ds.length acc → Q0 (.lst acc)) (hs : ∀ env x, foldedSetIterable it env x = pure x := by intro _ _; rfl) : LC M g Z elt tg it ifs scope r Q0 := ⟨hs, own, ok', fun X ok B0 H0 B H σ R Q q => by
  refine hi X ok B0 H0 B H σ R _ fun ds J B1 H1 pds f1 wk => ?_
  intro Dl hD
  have nH : H Dl = none := f1.free R.src hD
  have nB : B1 Dl = none := f1.s.n hD
  have nZ := R.src.ne nH
  refine ⟨fun i m H' => m = ds.length - i ∧ i ≤ ds.length ∧ ∃ B' acc xs, I i acc ∧ Ex B1 B' ∧ Fr Z B H B' H' ∧ B' Dl = none ∧ H' Dl = some (.lst xs) ∧ RDs M.C Z.s B' acc xs ∧ xs.length ≤ i, ⟨ds.length, rfl, Nat.zero_le _, B1, [], [], h0, Ex.rfl', f1.grow R.src nH nB, nB, upd_same, .nil, Nat.le_refl _⟩, ?_⟩
  rintro i m H' ⟨rfl, hle, B', acc, xs, ii, eB, fr, nb, hx, rx, lx⟩
  obtain ⟨wgo, wstop⟩ := wk B' H' eB fr.s fr.src i
  by_cases hlt : i < ds.length
  · have hd1 : ds[i]? = some ds[i] := by simp [hlt]
    obtain ⟨go, yl⟩ := wgo _ hd1
    refine .inr ⟨go, fun H3 => ∃ B' acc xs, I (i + 1) acc ∧ Ex B1 B' ∧ Fr Z B H B' H3 ∧ B' Dl = none ∧ H3 Dl = some (.lst xs) ∧ RDs M.C Z.s B' acc xs ∧ xs.length ≤ i + 1, fun H3 q3 => ⟨ds.length - (i + 1), by omega, rfl, hlt, q3⟩, fun x H'' y => ?_⟩
    obtain ⟨B'', f2, rd⟩ := yl x H'' y
    obtain ⟨r1, is, p, gt, hin, t2, he, hne⟩ := hb ds pds i _ hd1
    have Rw := ((R.step fr).wipe (own.map (·.2))).step f2
    intro s Hs Cc cl fp
    refine gt _ ok.blk B0 H0 B'' H'' _ x Rw rd _ fun σ2 R2 so => ⟨so.wipe hin, ?_⟩
    -- the test
    have fin : ∀ (b : Bool) (B3 H3 : Hp), b = p → Fr Z B'' H'' B3 H3 → (if b = true then bE X scope elt σ2 H3 fun y H4 => ∃ acc, H4 Dl = some (.lst acc) ∧ acc.length < sizeLine ∧ ∃ B' acc' xs, I (i + 1) acc' ∧ Ex B1 B' ∧ Fr Z B H B' (upd H4 Dl (.lst (acc ++ [y]))) ∧ B' Dl = none ∧ (upd H4 Dl (.lst (acc ++ [y]))) Dl = some (.lst xs) ∧ RDs M.C Z.s B' acc' xs ∧ xs.length ≤ i + 1
        else ∃ B' acc xs, I (i + 1) acc ∧ Ex B1 B' ∧ Fr Z B H B' H3 ∧ B' Dl = none ∧ H3 Dl = some (.lst xs) ∧ RDs M.C Z.s B' acc xs ∧ xs.length ≤ i + 1) := fun b B3 H3 eb f3 => by
      subst eb
      have f23 := f2.tr f3 fr.src
      have fr3 := fr.tr f23 R.src
      have nb3 : B3 Dl = none := f23.hid _ _ hx nb
      have hx3 : H3 Dl = some (.lst xs) := f23.h _ _ hx nZ
      cases b with
      | false => exact iteF ⟨B3, acc, xs, hne rfl acc ii, eB.tr f23.b, fr3, nb3, hx3, rx.mono f23.b, by omega⟩
      | true =>
        refine iteT fun s Hs Cc cl fp => ?_
        refine he rfl _ ok.blk B0 H0 B3 H3 σ2 (R2.step f3) _ fun y v B4 H4 py f4 r4 => ?_
        have hx4 : H4 Dl = some (.lst xs) := f4.h _ _ hx3 nZ
        have nb4 : B4 Dl = none := f4.hid _ _ hx3 nb3
        have fr4 := fr3.tr f4 R.src
        have small : xs.length < sizeLine := Nat.lt_of_le_of_lt (Nat.le_trans lx (Nat.le_trans (Nat.le_of_lt hlt) (hl ds pds))) (by decide)
        exact ⟨xs, hx4, small, B4, acc ++ [y], xs ++ [v], py acc ii, (eB.tr f23.b).tr f4.b, fr4.grow R.src nH nb4, nb4, upd_same, ((rx.mono f23.b).mono f4.b).snoc r4, by rw [List.length_append]; show xs.length + 1 ≤ i + 1; omega⟩
    intro s2 Hs2 Cc2 cl2 fp2
    rcases t2 with ⟨e1, e2⟩ | ⟨c, e1, tc⟩
    · subst e1
      exact ⟨_, pts_nil, fin true B'' H'' e2.symm (Fr.rfl' f2.s f2.src)⟩
    · subst e1
      exact ⟨_, pts_one pt_w, tc _ ok.blk B0 H0 B'' H'' σ2 R2 _ fun b B3 H3 pb f3 => fin b B3 H3 pb f3⟩
  · have e : i = ds.length := by omega
    subst e
    exact .inl ⟨wstop rfl, q acc Dl xs B' H' (hd ds acc pds ii) fr nH nb hx rx⟩⟩
/-- the same, each item's own way told by the data it comes from -/
theorem L_lc {α : Type} {l : List α} {gf : α → D} {elt : Expr} {ifs : List Expr} {scope : Scope} (own : List (Str × Nat)) (hi : IT M g Z tg it r (l.map gf)) (ok' : BlkOk g.N g.sc scope own) (p : α → Bool) (h : α → D)
    (hb : ∀ x ∈ l, ∃ r1 is, GT M (g.blk scope) Z tg (gf x) (wipeR r (own.map (·.2))) r1 is ∧ (∀ j ∈ is, j ∈ own.map (·.2)) ∧ T2 M (g.blk scope) Z ifs r1 (p x) ∧ (p x = true → E M (g.blk scope) Z elt r1 (h x)))
    (hl : l.length ≤ 1000) (hs : ∀ env x, foldedSetIterable it env x = pure x := by intro _ _; rfl) : LC M g Z elt tg it ifs scope r fun y => y = .lst ((l.filter p).map h) := by
  refine LC_of own hi ok' (fun i acc => acc = ((l.take i).filter p).map h) rfl ?_ (fun ds e => by rw [e, List.length_map]; exact hl) (fun ds acc e e2 => by rw [e2, e, List.length_map, List.take_length]) hs
  intro ds e i d hd
  subst e
  rw [List.getElem?_map] at hd
  cases e0 : l[i]? with
  | none => rw [e0] at hd; cases hd
  | some x =>
    rw [e0] at hd
    simp only [Option.map_some, Option.some.injEq] at hd
    subst hd
    obtain ⟨r1, is, a1, a2, a3, a4⟩ := hb x (List.mem_of_getElem? e0)
    refine ⟨r1, is, p x, a1, a2, a3, fun px => (a4 px).pr fun acc e2 => ?_, fun px acc e2 => ?_⟩
    · rw [e2, List.take_succ, e0, List.filter_append, List.map_append]
      simp [px]
    · rw [e2, List.take_succ, e0, List.filter_append, List.map_append]
      simp [px]
theorem LC.of {elt : Expr} {ifs : List Expr} {scope : Scope} {x y : D} (h : LC M g Z elt tg it ifs scope r fun z => z = x) (k : x = y) : LC M g Z elt tg it ifs scope r fun z => z = y := k ▸ h
theorem E_lc {α : Type} {l : List α} {gf : α → D} {elt : Expr} {ifs : List Expr} {scope : Scope} (own : List (Str × Nat)) (hi : IT M g Z tg it r (l.map gf)) (ok' : BlkOk g.N g.sc scope own) (p : α → Bool) (h : α → D)
    (hb : ∀ x ∈ l, ∃ r1 is, GT M (g.blk scope) Z tg (gf x) (wipeR r (own.map (·.2))) r1 is ∧ (∀ j ∈ is, j ∈ own.map (·.2)) ∧ T2 M (g.blk scope) Z ifs r1 (p x) ∧ (p x = true → E M (g.blk scope) Z elt r1 (h x)))
    (hl : l.length ≤ 1000) (hs : ∀ env x, foldedSetIterable it env x = pure x := by intro _ _; rfl) : E M g Z (.ListComp elt [⟨tg, it, ifs, 0⟩] scope pos) r (.lst ((l.filter p).map h)) := (L_lc own hi ok' p h hb hl hs).ex
theorem L_lcM {α : Type} {l : List α} {gf : α → D} {elt : Expr} {scope : Scope} (own : List (Str × Nat)) (hi : IT M g Z tg it r (l.map gf)) (ok' : BlkOk g.N g.sc scope own) (h : α → D)
    (hb : ∀ x ∈ l, ∃ r1 is, GT M (g.blk scope) Z tg (gf x) (wipeR r (own.map (·.2))) r1 is ∧ (∀ j ∈ is, j ∈ own.map (·.2)) ∧ E M (g.blk scope) Z elt r1 (h x))
    (hl : l.length ≤ 1000) (hs : ∀ env x, foldedSetIterable it env x = pure x := by intro _ _; rfl) : LC M g Z elt tg it [] scope r fun y => y = .lst (l.map h) := by
  have q := L_lc (ifs := []) own hi ok' (fun _ => true) h (fun x hx => by
    obtain ⟨r1, is, a1, a2, a3⟩ := hb x hx
    exact ⟨r1, is, a1, a2, .inl ⟨rfl, rfl⟩, fun _ => a3⟩) hl hs
  rw [List.filter_eq_self.mpr (fun _ _ => rfl)] at q
  exact q
theorem E_lcM {α : Type} {l : List α} {gf : α → D} {elt : Expr} {scope : Scope} (own : List (Str × Nat)) (hi : IT M g Z tg it r (l.map gf)) (ok' : BlkOk g.N g.sc scope own) (h : α → D)
    (hb : ∀ x ∈ l, ∃ r1 is, GT M (g.blk scope) Z tg (gf x) (wipeR r (own.map (·.2))) r1 is ∧ (∀ j ∈ is, j ∈ own.map (·.2)) ∧ E M (g.blk scope) Z elt r1 (h x))
    (hl : l.length ≤ 1000) (hs : ∀ env x, foldedSetIterable it env x = pure x := by intro _ _; rfl) : E M g Z (.ListComp elt [⟨tg, it, [], 0⟩] scope pos) r (.lst (l.map h)) := (L_lcM own hi ok' h hb hl hs).ex
end
end OC
set_option maxHeartbeats 4000000
/-! Functions, methods, items, slices, equality, built-ins. -/
namespace OC
open PySem PySem.Spec L2

/-! ### functions -/
abbrev Rel := List D → (D → Prop) → Prop
def spD (C : Addr) (on : Bool) (R : Rel) : Sp := fun vs H Q _ => ∃ (Z : Sc) (B : Hp) (ds : List D) (P : D → Prop), Z.on = on ∧ R ds P ∧ Ex B H ∧ SrcOk Z H ∧ (Z.on = true → B Z.s = none ∧ B Z.c = none) ∧ RDs C Z.s B ds vs ∧ ∀ d v B' H', P d → Fr Z B H B' H' → RD C Z.s B' d v → Q v H'
structure FnG (M : Mo) (k : Nat) (nm : Str) (on : Bool) (R : Rel) : Prop where
  ex : ∃ f fd ps, FnOk M.P M.w M.K M.mg M.base CX0 k f fd ps (spD M.C on R) ∧ M.mg nm = some (.ref f) ∧ PySem.W.keepIn M.K (.ref f) = true ∧ Binds M.K fd ps []
structure FnM (M : Mo) (k : Nat) (m : Str) (R : Rel) : Prop where
  ex : ∃ f fd ps, FnOk M.P M.w M.K M.mg M.base CX0 k f fd ps (spD M.C false R) ∧ Meth M.K M.C m f ∧ Binds M.K fd ps [] ∧ PySem.W.fnIn M.K f = true
def rho0 (N : List Str) (ds : List D) : Rho := ds.map (fun d => some (.d d)) ++ List.replicate (N.length - ds.length) none
theorem fn_ok {M : Mo} {x qual : Str} {params : Arguments} {body : List Stmt} {scope : Scope} {f : Addr} {fd : FuncData} {N ps : List Str} {k : Nat} {on : Bool} {R : Rel} (F : FunD M.K x qual params body scope [] [] f fd) (S : FnScope N ps scope) (len : ∀ ds P, R ds P → ds.length = ps.length)
    (hb : ∀ Z ds P, Z.on = on → R ds P → SS M ⟨N, scope, fun _ => true, k⟩ Z body (rho0 N ds) ⟨fun _ => P .non, P, fun _ => False, fun _ => False⟩) : FnOk M.P M.w M.K M.mg M.base CX0 (k + 1) f fd ps (spD M.C on R) := by
  refine F.ok S (fun vs H Q E h => ?_) (fun cdv A outer s H vs Q E hr h => ?_)
  · obtain ⟨Z, B, ds, P, _, hR, _, _, _, rs, _⟩ := h
    rw [← rs.len]; exact len ds P hR
  · obtain ⟨Z, B, ds, P, hon, hR, eB, src, hz, rs, q⟩ := h
    have hle : ds.length ≤ N.length := by
      rw [len ds P hR]
      have := congrArg List.length S.pre
      rw [List.length_take] at this
      omega
    have ok : Okx M ⟨N, scope, fun _ => true, k⟩ (cxOf CX0 M.P M.w M.K M.mg M.base N qual scope f cdv A outer s H E).nox := ⟨rfl, rfl, rfl, rfl, rfl, rfl, S.nd, rfl, rfl, rfl, hr, rfl⟩
    have R0 : RS M.C Z B H B H (rho0 N ds) (L2.start N vs) := by
      have ll := rs.len
      refine ⟨src, hz, Fr.rfl' eB src, by unfold L2.start rho0; simp [ll], fun i l e => ?_, fun i j l m v w a e1 e2 e3 e4 ne k1 k2 => ?_⟩
      · unfold rho0 at e
        by_cases hi : i < ds.length
        · rw [List.getElem?_append_left (by simpa using hi), List.getElem?_map] at e
          cases e0 : ds[i]? with
          | none => rw [e0] at e; cases e
          | some d =>
            rw [e0] at e
            simp only [Option.map_some, Option.some.injEq] at e
            subst e
            obtain ⟨v, e1, r⟩ := rs.atD e0
            refine ⟨v, ?_, r⟩
            unfold L2.start
            rw [List.getElem?_append_left (by rw [List.length_map, ← ll]; exact hi), List.getElem?_map, e1]; rfl
        · rw [List.getElem?_append_right (by simpa using Nat.le_of_not_lt hi), List.getElem?_replicate] at e
          split at e <;> cases e
      · unfold rho0 at e1
        by_cases hi : i < ds.length
        · rw [List.getElem?_append_left (by simpa using hi), List.getElem?_map] at e1
          cases e0 : ds[i]? with
          | none => rw [e0] at e1; cases e1
          | some d =>
            rw [e0] at e1
            simp only [Option.map_some, Option.some.injEq] at e1
            subst e1
            cases v <;> exact k1
        · rw [List.getElem?_append_right (by simpa using Nat.le_of_not_lt hi), List.getElem?_replicate] at e1
          split at e1 <;> cases e1
    obtain ⟨t, h1, h2⟩ := hb Z ds P hon hR _ ok B H B H (L2.start N vs) R0 { nx := fun _ H' => Q .non H', rt := Q } ⟨fun r B' H' σ n R' _ => q .non .non B' H' n R'.fr .non, fun d v B' H' p f r => q d v B' H' p f r, fun _ _ _ _ n => n.elim, fun _ _ _ _ n => n.elim⟩
    exact ⟨t, PSs.nox h1, h2⟩
section
variable {M : Mo} {g : G} {Z : Sc} {e a b o : Expr} {es : List Expr} {r : Rho} {x y z d : D} {xs ds : List D} {pos : Pos} {k j : Nat} {P : D → Prop} {R : Rel}
def Sc.off (Z : Sc) : Sc := ⟨false, Z.s, Z.c⟩
theorem Fr.offOn {B H B' H' : Hp} (f : Fr Z.off B H B' H') (s : SrcOk Z H) : Fr Z B H B' H' := by
  refine ⟨f.b, fun a u h _ => f.h a u h fun z => (nomatch z), f.s, f.hid, fun z => ?_⟩
  obtain ⟨ne, cs, l, m, t, a1, a2, a3, a4, e1, e2⟩ := s z
  exact ⟨ne, cs, l, m, t, a1, a2, a3, a4, f.h _ _ e1 fun z => (nomatch z), f.h _ _ e2 fun z => (nomatch z)⟩
theorem SrcOk.off (Z : Sc) (H : Hp) : SrcOk Z.off H := fun z => nomatch z
theorem spD_off {C : Addr} {B H : Hp} {vs : List V} {Q : VK} {E : XK} (s : Ex B H) (src : SrcOk Z H) (rs : RDs C Z.s B xs vs) (hR : R xs P) (q : ∀ d v B' H', P d → Fr Z B H B' H' → RD C Z.s B' d v → Q v H') : spD C false R vs H Q E :=
  ⟨Z.off, B, xs, P, rfl, hR, s, SrcOk.off Z H, fun z => (nomatch z), rs, fun d v B' H' p f r => q d v B' H' p (f.offOn src) r⟩
theorem Okx.fn' {X : Cx} {f : Addr} {fd : FuncData} {ps : List Str} {sp : Sp} (ok : Okx M g X) (F : FnOk M.P M.w M.K M.mg M.base CX0 j f fd ps sp) : FnOk X.prog X.w X.K X.mg X.base CX0 j f fd ps sp := by
  rw [ok.p, ok.w, ok.K, ok.mg, ok.base]; exact F
theorem EP_callP {nm : Str} {p : Pos} {Ps : List D → Prop} (F : FnG M j nm false R) (h : AP M g Z (e :: es) r Ps) (hR : ∀ xs, Ps xs → R xs P) (hj : j ≤ g.k := by decide) (hg : GlS g nm := by rfl) (hdb : (nm == ("__debug__" : Str)) = false := by decide)
    (he : ∀ env, starEach (e :: es) env = (false, eval e env) :: starEach es env := by intro _; rfl) (hpl : ∀ env, (backTo pos (starEach es env)).any (·.1) = false := by intro _; rfl) : EP M g Z (.Call (.Name nm p) (e :: es) [] pos) r P := fun X ok B0 H0 B H σ Rs Q q => by
  obtain ⟨f, fd, ps, F, hm, hk, hb⟩ := F.ex
  refine ⟨_, pe_call (ok.fn' F) (ok.room.mono hj) (ok.gl hg) (by rw [ok.mg]; exact hm) (by rw [ok.K]; exact hk) (by rw [ok.K]; exact hb) .nil pass0 pa_w hdb (he _) (hpl _), ?_⟩
  refine h X ok B0 H0 B H σ Rs _ fun xs vs B1 H1 px f1 r1 => ?_
  rw [List.append_nil]
  exact spD_off f1.s f1.src r1 (hR _ px) fun d v B' H' p f r => q d v B' H' p (f1.tr f Rs.src) r
theorem EP_call {nm : Str} {p : Pos} (F : FnG M j nm false R) (h : A M g Z (e :: es) r xs) (hR : R xs P) (hj : j ≤ g.k := by decide) (hg : GlS g nm := by rfl) (hdb : (nm == ("__debug__" : Str)) = false := by decide)
    (he : ∀ env, starEach (e :: es) env = (false, eval e env) :: starEach es env := by intro _; rfl) (hpl : ∀ env, (backTo pos (starEach es env)).any (·.1) = false := by intro _; rfl) : EP M g Z (.Call (.Name nm p) (e :: es) [] pos) r P := EP_callP F h (fun _ q => q ▸ hR) hj hg hdb he hpl
/-- a function that draws -/
theorem EP_callS {nm : Str} {p : Pos} (hon : Z.on = true) (F : FnG M j nm true R) (h : A M g Z (e :: es) r xs) (hR : R xs P) (hj : j ≤ g.k := by decide) (hg : GlS g nm := by rfl) (hdb : (nm == ("__debug__" : Str)) = false := by decide)
    (he : ∀ env, starEach (e :: es) env = (false, eval e env) :: starEach es env := by intro _; rfl) (hpl : ∀ env, (backTo pos (starEach es env)).any (·.1) = false := by intro _; rfl) : EP M g Z (.Call (.Name nm p) (e :: es) [] pos) r P := fun X ok B0 H0 B H σ Rs Q q => by
  obtain ⟨f, fd, ps, F, hm, hk, hb⟩ := F.ex
  refine ⟨_, pe_call (ok.fn' F) (ok.room.mono hj) (ok.gl hg) (by rw [ok.mg]; exact hm) (by rw [ok.K]; exact hk) (by rw [ok.K]; exact hb) .nil pass0 pa_w hdb (he _) (hpl _), ?_⟩
  refine h X ok B0 H0 B H σ Rs _ fun xs vs B1 H1 px f1 r1 => ?_
  subst px
  rw [List.append_nil]
  refine ⟨Z, B1, _, P, hon, hR, f1.s, f1.src, fun z => ?_, r1, fun d v B' H' p f r => q d v B' H' p (f1.tr f Rs.src) r⟩
  obtain ⟨_, cs, l, m, t, _, _, _, _, e1, e2⟩ := Rs.s0 z
  have ff := Rs.fr.tr f1 Rs.s0
  exact ⟨ff.hid _ _ e1 (Rs.hz z).1, ff.hid _ _ e2 (Rs.hz z).2⟩
theorem RD.stdI {C S : Addr} {H : Hp} {ps : List Per} {v : V} (h : RD C S H (.std ps) v) : ∃ a dx d, v = .ref a ∧ H a = some (.ins C dx [("own_people", .ref d)]) := by
  cases h with
  | std h1 h2 h3 => exact ⟨_, _, _, rfl, h1⟩
theorem EP_meth {m : Str} {ps : List Per} {apos : Pos} (c : Cls M.K M.C) (F : FnM M j m R) (ho : E M g Z o r (.std ps)) (h : A M g Z (e :: es) r xs) (hR : R (.std ps :: xs) P) (hj : j ≤ g.k := by decide) (hm : (m == ("own_people" : Str)) = false := by decide)
    (hst : ∀ env, starEach (e :: es) env = (false, eval e env) :: starEach es env := by intro _; rfl) (hpl : ∀ env, (backTo pos (starEach es env)).any (·.1) = false := by intro _; rfl)
    (ht : ∀ env, ∃ pl, eval (.Call (.Attribute o m apos) (e :: es) [] pos) env = (do
      let ov ← eval o env
      standAt apos.atName
      let (f, first) ← holding [ov] (getMethod ov m pl)
      callWith pos f first (backTo pos (starEach (e :: es) env)) (backToKw pos (keywordEach [] env))) := by intro _; exact ⟨_, rfl⟩) : EP M g Z (.Call (.Attribute o m apos) (e :: es) [] pos) r P := fun X ok B0 H0 B H σ Rs Q q => by
  obtain ⟨f, fd, pars, F, mt, hb, _⟩ := F.ex
  obtain ⟨pl, ht⟩ := ht X.env
  refine ⟨_, pe_meth (pl := pl) (C := M.C) pe_w (by rw [ok.K]; exact c) (by rw [ok.K]; exact mt) (ok.fn' F) (ok.room.mono hj) (by rw [ok.K]; exact hb) .nil pass0 pa_w (hst _) (hpl _) ht, ?_⟩
  refine ho X ok B0 H0 B H σ Rs _ fun x v B1 H1 px f1 r1 => ?_
  subst px
  obtain ⟨a, dx, d, rfl, ha⟩ := r1.stdI
  refine ⟨a, dx, _, rfl, f1.s _ _ ha, ?_, ?_⟩
  · rw [List.lookup_cons, hm]; rfl
  · refine h X ok B0 H0 B1 H1 σ (Rs.step f1) _ fun ys vs B2 H2 py f2 r2 => ?_
    subst py
    rw [List.append_nil]
    exact spD_off f2.s f2.src (.cons (r1.mono f2.b) r2) hR fun d v B' H' p f r => q d v B' H' p ((f1.tr f2 Rs.src).tr f Rs.src) r
theorem EP_meth0 {m : Str} {ps : List Per} {apos : Pos} (c : Cls M.K M.C) (F : FnM M j m R) (ho : E M g Z o r (.std ps)) (hR : R [.std ps] P) (hj : j ≤ g.k := by decide) (hm : (m == ("own_people" : Str)) = false := by decide)
    (ht : ∀ env, ∃ pl, eval (.Call (.Attribute o m apos) [] [] pos) env = (do
      let ov ← eval o env
      standAt apos.atName
      let (f, first) ← holding [ov] (getMethod ov m pl)
      callWith pos f first (backTo pos (starEach [] env)) (backToKw pos (keywordEach [] env))) := by intro _; exact ⟨_, rfl⟩) : EP M g Z (.Call (.Attribute o m apos) [] [] pos) r P := fun X ok B0 H0 B H σ Rs Q q => by
  obtain ⟨f, fd, pars, F, mt, hb, _⟩ := F.ex
  obtain ⟨pl, ht⟩ := ht X.env
  refine ⟨_, pe_meth0 (pl := pl) (C := M.C) pe_w (by rw [ok.K]; exact c) (by rw [ok.K]; exact mt) (ok.fn' F) (ok.room.mono hj) (by rw [ok.K]; exact hb) .nil pass0 ht, ?_⟩
  refine ho X ok B0 H0 B H σ Rs _ fun x v B1 H1 px f1 r1 => ?_
  subst px
  obtain ⟨a, dx, d, rfl, ha⟩ := r1.stdI
  refine ⟨a, dx, _, rfl, f1.s _ _ ha, ?_, ?_⟩
  · rw [List.lookup_cons, hm]; rfl
  · exact spD_off (E := E0) f1.s f1.src (.cons r1 .nil) hR fun d v B' H' p f r => q d v B' H' p (f1.tr f Rs.src) r

/-! ### items, slices -/
def wX (X : Cx) : R2 := fun x y H Q => ∃ r, IxR X r ∧ r x y H Q
theorem ix_w {X : Cx} : IxR X (wX X) := fun value slice pins s σ H x y v u Q I rx ry ⟨r, p, h⟩ hs => p value slice pins s σ H x y v u Q I rx ry h hs
def IxD (M : Mo) (g : G) (Z : Sc) (x y z : D) : Prop := ∀ X, Okx M g X → ∀ B H v u, Ex B H → SrcOk Z H → RD M.C Z.s B x v → RD M.C Z.s B y u → ∀ Q : VK, (∀ w, RD M.C Z.s B z w → Q w H) → wX X v u H Q
theorem EP_ix {Pa Pb : D → Prop} (ha : EP M g Z a r Pa) (hb : EP M g Z b r Pb) (h : ∀ x y, Pa x → Pb y → ∃ z, P z ∧ IxD M g Z x y z) (hs : PlainIx b := by intro _ _; rfl) : EP M g Z (.Subscript a b pos) r P := fun X ok B0 H0 B H σ R Q q => by
  refine ⟨_, pe_ix ix_w pe_w pe_w hs, ?_⟩
  refine ha X ok B0 H0 B H σ R _ fun x v B1 H1 px f1 r1 => ?_
  refine hb X ok B0 H0 B1 H1 σ (R.step f1) _ fun y u B2 H2 py f2 r2 => ?_
  obtain ⟨z, pz, o⟩ := h x y px py
  exact o X ok B2 H2 v u f2.s f2.src (r1.mono f2.b) r2 Q fun w rw' => q z w B2 H2 pz (f1.tr f2 R.src) rw'
theorem E_ix (ha : E M g Z a r x) (hb : E M g Z b r y) (h : IxD M g Z x y z) (hs : PlainIx b := by intro _ _; rfl) : E M g Z (.Subscript a b pos) r z := EP_ix ha hb (fun _ _ e1 e2 => ⟨z, rfl, by rw [e1, e2]; exact h⟩) hs
theorem atI_map {α β : Type} (f : α → β) {xs : List α} {i : Int} {v : α} (h : atI xs i = some v) : atI (xs.map f) i = some (f v) := by
  unfold atI at h ⊢
  rw [List.length_map]
  cases e : ixN xs.length i with
  | none => rw [e] at h; cases h
  | some j =>
    rw [e] at h
    show (xs.map f)[j]? = _
    have h : xs[j]? = some v := h
    rw [List.getElem?_map, h]; rfl
theorem atI_rds {C S : Addr} {H : Hp} {vs : List V} {i : Int} (r : RDs C S H ds vs) (h : atI ds i = some d) : ∃ v, atI vs i = some v ∧ RD C S H d v := by
  unfold atI at h ⊢
  rw [← r.len]
  cases e : ixN ds.length i with
  | none => rw [e] at h; cases h
  | some j =>
    rw [e] at h
    exact r.atD (show ds[j]? = some d from h)
theorem ixL {i : Int} (h : atI ds i = some d) : IxD M g Z (.lst ds) (.int i) d := fun X ok B H v u s sr r1 r2 Q q => by
  cases r1 with
  | lst h1 k1 =>
    cases r2
    obtain ⟨w, e, rw'⟩ := atI_rds k1 h
    exact ⟨_, ix_list, _, _, i, w, rfl, rfl, SqL.of (s _ _ h1), e, q w rw'⟩
theorem ixT {i : Int} (h : atI ds i = some d) : IxD M g Z (.tup ds) (.int i) d := fun X ok B H v u s sr r1 r2 Q q => by
  cases r1 with
  | tup h1 k1 =>
    cases r2
    obtain ⟨w, e, rw'⟩ := atI_rds k1 h
    exact ⟨_, ix_tup, _, _, i, w, rfl, rfl, SqT.of (s _ _ h1), e, q w rw'⟩
theorem ixS {t : Str} {i : Int} {c : Nat} (hz : t.length ≤ sizeLine) (h : atI t.cps.toList i = some c) : IxD M g Z (.str t) (.int i) (.str ⟨#[c]⟩) := fun X ok B H v u s sr r1 r2 Q q => by
  cases r1; cases r2
  exact ⟨_, ix_str, _, i, c, rfl, rfl, hz, h, q _ (.str _)⟩
theorem E_ixL {i : Int} (ha : E M g Z a r (.lst ds)) (hb : E M g Z b r (.int i)) (h : atI ds i = some d) (hs : PlainIx b := by intro _ _; rfl) : E M g Z (.Subscript a b pos) r d := E_ix ha hb (ixL h) hs
theorem E_ixT {i : Int} (ha : E M g Z a r (.tup ds)) (hb : E M g Z b r (.int i)) (h : atI ds i = some d := by rfl) (hs : PlainIx b := by intro _ _; rfl) : E M g Z (.Subscript a b pos) r d := E_ix ha hb (ixT h) hs
def cutL {α : Type} (xs : List α) (lo hi : Option Int) : List α := (xs.drop (HT.sIx xs.length 0 lo)).take (HT.sIx xs.length xs.length hi - HT.sIx xs.length 0 lo)
/-- a slice's part -/
def OPt (M : Mo) (g : G) (Z : Sc) (e : Option Expr) (r : Rho) (i : Option Int) : Prop := (e = none ∧ i = none) ∨ ∃ e' j, e = some e' ∧ i = some j ∧ E M g Z e' r (.int j)
def wO (X : Cx) (e : Option Expr) : TO := fun σ H Q => ∃ t, PO X e t ∧ t σ H Q
theorem po_w {X : Cx} {e : Option Expr} : PO X e (wO X e) := ⟨fun pins s σ H Q I ⟨t, p, h⟩ => p.run pins s σ H Q I h⟩
theorem OPt.use {e : Option Expr} {i : Option Int} (h : OPt M g Z e r i) {X : Cx} (ok : Okx M g X) {B0 H0 B H : Hp} {σ : L2.St} (R : RS M.C Z B0 H0 B H r σ) (Q : Option Int → Hp → Prop) (q : ∀ B' H', Fr Z B H B' H' → Q i H') : wO X e σ H Q := by
  rcases h with ⟨rfl, rfl⟩ | ⟨e', j, rfl, rfl, h⟩
  · exact ⟨_, po_none, q B H (Fr.rfl' R.sB R.src)⟩
  · refine ⟨_, po_some pe_w, ?_⟩
    refine h X ok B0 H0 B H σ R _ fun x v B1 H1 px f1 r1 => ?_
    subst px; cases r1
    exact ⟨j, rfl, q B1 H1 f1⟩
theorem E_slL {lo hi : Option Expr} {i j : Option Int} {p2 : Pos} (ha : E M g Z a r (.lst ds)) (hl : OPt M g Z lo r i) (hh : OPt M g Z hi r j) : E M g Z (.Subscript a (.Slice lo hi none p2) pos) r (.lst (cutL ds i j)) := fun X ok B0 H0 B H σ R Q q => by
  refine ⟨_, pe_slice sl_list pe_w po_w po_w, ?_⟩
  refine ha X ok B0 H0 B H σ R _ fun x v B1 H1 px f1 r1 => ?_
  subst px
  refine hl.use ok (R.step f1) _ fun B2 H2 f2 => ?_
  refine hh.use ok ((R.step f1).step f2) _ fun B3 H3 f3 => ?_
  have f13 := (f1.tr f2 R.src).tr f3 R.src
  cases r1 with
  | lst h1 k1 =>
    rename_i vs p
    refine ⟨p, vs, rfl, SqL.of (f3.s _ _ (f3.b _ _ (f2.b _ _ h1))), fun p' hp' => ?_⟩
    refine q _ _ _ _ rfl (f13.add R.src hp') (.lst upd_same ?_)
    have k3 := ((k1.mono f2.b).mono f3.b).mono (Ex.new (o := .lst (cutV vs i j)) (f3.s.n hp'))
    unfold cutL cutV
    rw [k3.len]
    exact (k3.drop _).take _
theorem E_slS {t : Str} {lo hi : Option Expr} {i j : Option Int} {p2 : Pos} (ha : E M g Z a r (.str t)) (hl : OPt M g Z lo r i) (hh : OPt M g Z hi r j) (hz : t.length ≤ sizeLine) : E M g Z (.Subscript a (.Slice lo hi none p2) pos) r (.str (cutS t i j)) := fun X ok B0 H0 B H σ R Q q => by
  refine ⟨_, pe_slice sl_str pe_w po_w po_w, ?_⟩
  refine ha X ok B0 H0 B H σ R _ fun x v B1 H1 px f1 r1 => ?_
  subst px
  refine hl.use ok (R.step f1) _ fun B2 H2 f2 => ?_
  refine hh.use ok ((R.step f1).step f2) _ fun B3 H3 f3 => ?_
  have f13 := (f1.tr f2 R.src).tr f3 R.src
  cases r1
  exact ⟨t, rfl, hz, q _ _ B3 H3 rfl f13 (.str _)⟩

/-! ### equality at any depth -/
mutual
def dP : D → PyData
  | .non => .none
  | .bl b => .bool b
  | .int i => .int i
  | .str s => .str s
  | .lst ds => .list (dPs ds)
  | .tup ds => .tuple (dPs ds)
  | _ => .none
def dPs : List D → List PyData
  | [] => []
  | d :: ds => dP d :: dPs ds
end
theorem dPs_map : ∀ ds : List D, dPs ds = ds.map dP
  | [] => rfl
  | d :: ds => by rw [dPs, dPs_map ds]; rfl
/-- data of a depth, without objects -/
inductive Sh : Nat → D → Prop
  | non {n : Nat} : Sh n .non
  | int {n : Nat} (i : Int) : Sh n (.int i)
  | str {n : Nat} {i : Str} (h : PyData.strOk i = true) : Sh n (.str i)
  | lst {n : Nat} {ds : List D} : (∀ d ∈ ds, Sh n d) → Sh (n + 1) (.lst ds)
  | tup {n : Nat} {ds : List D} : (∀ d ∈ ds, Sh n d) → Sh (n + 1) (.tup ds)
theorem Sh.all {n : Nat} : ∀ {ds : List D}, (∀ d ∈ ds, (dP d).canLay0 = true ∧ (dP d).depth ≤ n) → PyData.canLayAll0 (dPs ds) = true ∧ PyData.depthAll (dPs ds) ≤ n
  | [], _ => ⟨rfl, Nat.zero_le _⟩
  | d :: ds, h => by
    obtain ⟨a, b⟩ := h d List.mem_cons_self
    obtain ⟨a', b'⟩ := Sh.all (ds := ds) fun x hx => h x (List.mem_cons_of_mem _ hx)
    rw [dPs]
    exact ⟨by simp [PyData.canLayAll0, a, a'], by simp [PyData.depthAll]; omega⟩
theorem Sh.ok {n : Nat} {d : D} (h : Sh n d) : (dP d).canLay0 = true ∧ (dP d).depth ≤ n := by
  induction h with
  | non => exact ⟨rfl, by simp [dP, PyData.depth]⟩
  | int i => exact ⟨rfl, by simp [dP, PyData.depth]⟩
  | str h => exact ⟨by simp [dP, PyData.canLay0, h], by simp [dP, PyData.depth]⟩
  | lst _ ih => obtain ⟨a, b⟩ := Sh.all ih; exact ⟨by simp [dP, PyData.canLay0, a], by simp [dP, PyData.depth]; omega⟩
  | tup _ ih => obtain ⟨a, b⟩ := Sh.all ih; exact ⟨by simp [dP, PyData.canLay0, a], by simp [dP, PyData.depth]; omega⟩
theorem Sh.shaped {n : Nat} {d : D} (h : Sh n d) (hn : n ≤ 64) : SeqAt.shaped (dP d) = true := by
  obtain ⟨a, b⟩ := h.ok
  unfold SeqAt.shaped
  rw [a, decide_eq_true (Nat.le_trans b hn)]; rfl
mutual
theorem RD.dp {K : PySem.W.Frag} {C S : Addr} {H : Hp} : ∀ {n : Nat} {d : D} {v : V}, Sh n d → RD C S H d v → Dp K H v (dP d)
  | _, _, _, _, .non => .non
  | _, _, _, h, .bl _ => nomatch h
  | _, _, _, _, .int i => .int i
  | _, _, _, _, .str i => .str i
  | _, _, _, .lst h, .lst a b => .lst (SqL.of a) (RDs.dp h b)
  | _, _, _, .tup h, .tup a b => .tup (SqT.of a) (RDs.dp h b)
  | _, _, _, h, .std _ _ _ => nomatch h
  | _, _, _, h, .src => nomatch h
  | _, _, _, h, .dic _ _ => nomatch h
  | _, _, _, h, .ty _ => nomatch h
  | _, _, _, h, .rng _ => nomatch h
  | _, _, _, h, .pdic _ _ => nomatch h
theorem RDs.dp {K : PySem.W.Frag} {C S : Addr} {H : Hp} : ∀ {n : Nat} {ds : List D} {vs : List V}, (∀ d ∈ ds, Sh n d) → RDs C S H ds vs → DpAll K H vs (dPs ds)
  | _, _, _, _, .nil => .nil
  | _, _, _, h, .cons a b => .cons (RD.dp (h _ List.mem_cons_self) a) (RDs.dp (fun d hd => h d (List.mem_cons_of_mem _ hd)) b)
end
theorem eqD {n m : Nat} {q : Bool} (hx : Sh n x) (hy : Sh m y) (h : PyData.eqv (dP x) (dP y) = q) (hn : n ≤ 64 := by decide) (hm : m ≤ 64 := by decide) : OpD M g Z (compareOp .Eq) x y (.bl q) := fun X ok B H v u s sr r1 r2 Q k => by
  refine ⟨_, op_eqD ok.room.units, dP x, dP y, (r1.mono s).dp hx, (r2.mono s).dp hy, hx.shaped hn, hy.shaped hm, ?_⟩
  rw [h]
  exact k _ B H (Fr.rfl' s sr) (.bl q)
theorem neD {n m : Nat} {q : Bool} (hx : Sh n x) (hy : Sh m y) (h : PyData.eqv (dP x) (dP y) = q) (hn : n ≤ 64 := by decide) (hm : m ≤ 64 := by decide) : OpD M g Z (compareOp .NotEq) x y (.bl (!q)) := fun X ok B H v u s sr r1 r2 Q k => by
  refine ⟨_, op_neD ok.room.units, dP x, dP y, (r1.mono s).dp hx, (r2.mono s).dp hy, hx.shaped hn, hy.shaped hm, ?_⟩
  rw [h]
  exact k _ B H (Fr.rfl' s sr) (.bl _)
theorem Sh.refl {n : Nat} (h : Sh n x) : PyData.eqv (dP x) (dP x) = true := SeqAt.eqv_refl _ h.ok.1

/-! ### built-ins -/
theorem clLenL : ClD M g Z (.builtin "len") [.lst ds] (.int ds.length) := fun X ok B H vs s sr rs Q q => by
  cases rs with
  | cons ra rr => cases rr with
    | nil => cases ra with
      | lst h1 k1 => exact ⟨_, call_len_seq, _, _, rfl, .inl (SqL.of (s _ _ h1)), by rw [← k1.len]; exact q _ B H (Fr.rfl' s sr) (.int _)⟩
theorem clLenT : ClD M g Z (.builtin "len") [.tup ds] (.int ds.length) := fun X ok B H vs s sr rs Q q => by
  cases rs with
  | cons ra rr => cases rr with
    | nil => cases ra with
      | tup h1 k1 => exact ⟨_, call_len_seq, _, _, rfl, .inr (SqT.of (s _ _ h1)), by rw [← k1.len]; exact q _ B H (Fr.rfl' s sr) (.int _)⟩
theorem clLenS {t : Str} (h : t.length ≤ sizeLine) : ClD M g Z (.builtin "len") [.str t] (.int t.length) := fun X ok B H vs s sr rs Q q => by
  cases rs with
  | cons ra rr => cases rr with
    | nil => cases ra; exact ⟨_, call_len_str, _, rfl, h, q _ B H (Fr.rfl' s sr) (.int _)⟩
theorem clSum (ns : List Int) : ClD M g Z (.builtin "sum") [.lst (ns.map D.int)] (.int ns.sum) := fun X ok B H vs s sr rs Q q => by
  cases rs with
  | cons ra rr => cases rr with
    | nil => cases ra with
      | lst h1 k1 =>
        rw [k1.ints] at h1
        exact ⟨_, cr_sum ok.calm, _, ns, rfl, SqL.of (s _ _ h1), q _ B H (Fr.rfl' s sr) (.int _)⟩
theorem clAll (bs : List Bool) : ClD M g Z (.builtin "all") [.lst (bs.map D.bl)] (.bl (bs.all id)) := fun X ok B H vs s sr rs Q q => by
  cases rs with
  | cons ra rr => cases rr with
    | nil => cases ra with
      | lst h1 k1 =>
        rw [k1.bls] at h1
        exact ⟨_, cr_all ok.calm, _, bs, rfl, SqL.of (s _ _ h1), q _ B H (Fr.rfl' s sr) (.bl _)⟩
theorem clAbs (i : Int) : ClD M g Z (.builtin "abs") [.int i] (.int (if i < 0 then -i else i)) := fun X ok B H vs s sr rs Q q => by
  cases rs with
  | cons ra rr => cases rr with
    | nil => cases ra; exact ⟨_, call_abs, i, rfl, q _ B H (Fr.rfl' s sr) (.int _)⟩
theorem clMax2 (i j : Int) : ClD M g Z (.builtin "max") [.int i, .int j] (.int (max i j)) := fun X ok B H vs s sr rs Q q => by
  cases rs with
  | cons ra rr => cases rr with
    | cons rb rr => cases rr with
      | nil =>
        cases ra; cases rb
        refine ⟨_, call_max2 ok.calm, i, j, rfl, ?_⟩
        have e : (if j > i then j else i) = max i j := by by_cases h : j > i <;> simp [h] <;> omega
        rw [e]
        exact q _ B H (Fr.rfl' s sr) (.int _)
theorem clMin2 (i j : Int) : ClD M g Z (.builtin "min") [.int i, .int j] (.int (min i j)) := fun X ok B H vs s sr rs Q q => by
  cases rs with
  | cons ra rr => cases rr with
    | cons rb rr => cases rr with
      | nil =>
        cases ra; cases rb
        refine ⟨_, call_min2 ok.calm, i, j, rfl, ?_⟩
        have e : (if j < i then j else i) = min i j := by by_cases h : j < i <;> simp [h] <;> omega
        rw [e]
        exact q _ B H (Fr.rfl' s sr) (.int _)
/-- the greatest, the least of a list of ints, by what they are -/
theorem clMax {ns : List Int} {m : Int} (hm : m ∈ ns) (h : ∀ y ∈ ns, y ≤ m) : ClD M g Z (.builtin "max") [.lst (ns.map D.int)] (.int m) := fun X ok B H vs s sr rs Q q => by
  cases rs with
  | cons ra rr => cases rr with
    | nil => cases ra with
      | lst h1 k1 =>
        rw [k1.ints] at h1
        refine ⟨_, cr_max ok.calm, _, ns, rfl, SqL.of (s _ _ h1), List.length_pos_of_mem hm, fun m' hm' h' => ?_⟩
        rw [show m' = m from Int.le_antisymm (h m' hm') (h' m hm)]
        exact q _ B H (Fr.rfl' s sr) (.int _)
theorem clMin {ns : List Int} {m : Int} (hm : m ∈ ns) (h : ∀ y ∈ ns, m ≤ y) : ClD M g Z (.builtin "min") [.lst (ns.map D.int)] (.int m) := fun X ok B H vs s sr rs Q q => by
  cases rs with
  | cons ra rr => cases rr with
    | nil => cases ra with
      | lst h1 k1 =>
        rw [k1.ints] at h1
        refine ⟨_, cr_min ok.calm, _, ns, rfl, SqL.of (s _ _ h1), List.length_pos_of_mem hm, fun m' hm' h' => ?_⟩
        rw [show m' = m from Int.le_antisymm (h' m hm) (h m' hm')]
        exact q _ B H (Fr.rfl' s sr) (.int _)
theorem clInt (i : Int) : ClD M g Z (.type "int") [.int i] (.int i) := fun X ok B H vs s sr rs Q q => by
  cases rs with
  | cons ra rr => cases rr with
    | nil => cases ra; exact ⟨_, call_int1, .inl ⟨i, rfl, q _ B H (Fr.rfl' s sr) (.int _)⟩⟩
theorem clIntB (i : Bool) : ClD M g Z (.type "int") [.bl i] (.int (if i then 1 else 0)) := fun X ok B H vs s sr rs Q q => by
  cases rs with
  | cons ra rr => cases rr with
    | nil => cases ra; exact ⟨_, call_int1, .inr ⟨i, rfl, q _ B H (Fr.rfl' s sr) (.int _)⟩⟩
theorem clStr (i : Int) (h : i.natAbs.log2 < 1920) : ClD M g Z (.type "str") [.int i] (.str (toString i)) := fun X ok B H vs s sr rs Q q => by
  cases rs with
  | cons ra rr => cases rr with
    | nil => cases ra; exact ⟨_, call_str_int, i, rfl, h, q _ B H (Fr.rfl' s sr) (.str _)⟩
theorem clListL : ClD M g Z (.type "list") [.lst ds] (.lst ds) := fun X ok B H vs s sr rs Q q => by
  cases rs with
  | cons ra rr => cases rr with
    | nil => cases ra with
      | lst h1 k1 => exact ⟨_, call_list_of, _, _, rfl, .inl (SqL.of (s _ _ h1)), fun l hl => q _ _ _ ((Fr.rfl' s sr).add sr hl) (.lst upd_same (k1.mono (Ex.new (s.n hl))))⟩
theorem clTupL : ClD M g Z (.type "tuple") [.lst ds] (.tup ds) := fun X ok B H vs s sr rs Q q => by
  cases rs with
  | cons ra rr => cases rr with
    | nil => cases ra with
      | lst h1 k1 => exact ⟨_, call_tuple_of, _, _, rfl, .inl ⟨SqL.of (s _ _ h1), fun l hl => q _ _ _ ((Fr.rfl' s sr).add sr hl) (.tup upd_same (k1.mono (Ex.new (s.n hl))))⟩⟩
end
end OC
set_option maxHeartbeats 4000000
/-! Own lists and dicts: reading, growing, giving away. -/
namespace OC
open PySem PySem.Spec L2

section
variable {C : Addr} {Z : Sc} {B0 H0 B H B' H' : Hp} {r r' : Rho} {σ σ' : L2.St} {l l' m : L} {v w : V} {p : Addr} {o : HO}
theorem foot_upd (h : RL C Z H0 B H l v) (n : ¬ Foot H l v p) {a : Addr} (k : Foot (upd H p o) l v a) : Foot H l v a := by
  cases l with
  | d x => cases v <;> exact k
  | own ds => cases v <;> exact k
  | odic ds => cases v <;> exact k
  | own2 dss =>
    obtain ⟨q, qs, e, n0, nb, hp, nd, np, pr⟩ := h
    subst e
    have ne : q ≠ p := fun e => n (.inl e.symm)
    rcases k with k | ⟨xs, k1, k2⟩
    · exact .inl k
    · rw [upd_ne ne] at k1; exact .inr ⟨xs, k1, k2⟩
theorem RL.upd (h : RL C Z H0 B H l v) (n : ¬ Foot H l v p) : RL C Z H0 B (L2.upd H p o) l v := by
  cases l with
  | d x => exact h
  | own ds =>
    obtain ⟨q, e, n0, nb, xs, hq, rs⟩ := h
    subst e
    exact ⟨q, rfl, n0, nb, xs, by rw [upd_ne fun e : q = p => n e.symm]; exact hq, rs⟩
  | odic ks =>
    obtain ⟨q, e, n0, nb, xs, hq, rs⟩ := h
    subst e
    exact ⟨q, rfl, n0, nb, xs, by rw [upd_ne fun e : q = p => n e.symm]; exact hq, rs⟩
  | own2 dss =>
    obtain ⟨q, qs, e, n0, nb, hp, nd, np, pr⟩ := h
    subst e
    refine ⟨q, qs, rfl, n0, nb, by rw [upd_ne fun e : q = p => n (.inl e.symm)]; exact hp, nd, np, ?_⟩
    have n2 : p ∉ qs := fun e => n (.inr ⟨_, hp, List.mem_map.mpr ⟨p, e, rfl⟩⟩)
    clear hp n nd np
    induction pr with
    | nil => exact .nil
    | cons f t ih =>
      obtain ⟨a1, a2, xs, a3, a4⟩ := f
      refine .cons ⟨a1, a2, xs, ?_, a4⟩ (ih fun z => n2 (List.mem_cons_of_mem _ z))
      rw [upd_ne fun e => n2 (by rw [e]; exact List.mem_cons_self)]
      exact a3
theorem RS.upd1 (R : RS C Z B0 H0 B H r σ) {i : Nat} (hi : r[i]? = some (some l)) (hs : σ[i]? = some (some v)) (hp : Foot H l v p) (nb : B p = none) (h' : RL C Z H0 B (L2.upd H p o) l' v)
    (hf : ∀ a, Foot (L2.upd H p o) l' v a → Foot H l v a ∨ ∀ (j : Nat) (m : L) (w : V), j ≠ i → r[j]? = some (some m) → σ[j]? = some (some w) → ¬ Foot H m w a) : RS C Z B0 H0 B (L2.upd H p o) (r.set i (some l')) σ := by
  obtain ⟨v', q1, h0⟩ := R.at_ i l hi
  rw [hs] at q1; cases q1
  have n0 := (h0.foot hp).1
  have hl : i < r.length := (List.getElem?_eq_some_iff.mp hi).1
  have oth : ∀ (j : Nat) (m : L) (w : V), j ≠ i → r[j]? = some (some m) → σ[j]? = some (some w) → ¬ Foot H m w p := fun j m w ne e1 e2 k => R.ap i j l m v w p hi e1 hs e2 (Ne.symm ne) hp k
  refine ⟨R.s0, R.hz, R.fr.grow R.s0 n0 nb, by rw [List.length_set]; exact R.len, fun j m e => ?_, fun j k m n u w a e1 e2 e3 e4 ne k1 k2 => ?_⟩
  · by_cases q : i = j
    · subst q
      rw [List.getElem?_set_self hl] at e
      cases e
      exact ⟨v, hs, h'⟩
    · rw [List.getElem?_set_ne q] at e
      obtain ⟨u, e1, h1⟩ := R.at_ j m e
      exact ⟨u, e1, h1.upd (oth j m u (Ne.symm q) e e1)⟩
  · have back : ∀ (j : Nat) (m : L) (u : V), i ≠ j → r[j]? = some (some m) → σ[j]? = some (some u) → Foot (L2.upd H p o) m u a → Foot H m u a := fun j m u q e1 e3 k => by
      obtain ⟨u', q1, h1⟩ := R.at_ j m e1
      rw [e3] at q1; cases q1
      exact foot_upd h1 (oth j m u (Ne.symm q) e1 e3) k
    by_cases q1 : i = j
    · subst q1
      rw [List.getElem?_set_self hl] at e1
      rw [hs] at e3
      cases e1; cases e3
      rw [List.getElem?_set_ne ne] at e2
      have k2 := back k n w ne e2 e4 k2
      rcases hf a k1 with k1 | k1
      · exact R.ap i k l n v w a hi e2 hs e4 ne k1 k2
      · exact k1 k n w (Ne.symm ne) e2 e4 k2
    · rw [List.getElem?_set_ne q1] at e1
      have k1 := back j m u q1 e1 e3 k1
      by_cases q2 : i = k
      · subst q2
        rw [List.getElem?_set_self hl] at e2
        rw [hs] at e4
        cases e2; cases e4
        rcases hf a k2 with k2 | k2
        · exact R.ap j i m l u v a e1 hi e3 hs ne k1 k2
        · exact k2 j m u (Ne.symm q1) e1 e3 k1
      · rw [List.getElem?_set_ne q2] at e2
        exact R.ap j k m n u w a e1 e2 e3 e4 ne k1 (back k n w q2 e2 e4 k2)
theorem RS.ownAt (R : RS C Z B0 H0 B H r σ) {i : Nat} {ds : List D} (hi : r[i]? = some (some (.own ds))) : ∃ p xs, σ[i]? = some (some (.ref p)) ∧ H0 p = none ∧ B p = none ∧ H p = some (.lst xs) ∧ RDs C Z.s B ds xs := by
  obtain ⟨v, e, p, rfl, n0, nb, xs, hp, rs⟩ := R.at_ i _ hi
  exact ⟨p, xs, e, n0, nb, hp, rs⟩
/-- an own list changes -/
theorem RS.updOwn (R : RS C Z B0 H0 B H r σ) {i : Nat} {ds ds' : List D} {xs' : List V} (hi : r[i]? = some (some (.own ds))) (hs : σ[i]? = some (some (.ref p))) (h : RDs C Z.s B ds' xs') : RS C Z B0 H0 B (L2.upd H p (.lst xs')) (r.set i (some (.own ds'))) σ := by
  obtain ⟨q, xs, e, n0, nb, hp, rs⟩ := R.ownAt hi
  rw [hs] at e; cases e
  exact R.upd1 hi hs rfl nb ⟨p, rfl, n0, nb, xs', upd_same, h⟩ fun a k => .inl k
theorem RS.give (R : RS C Z B0 H0 B H r σ) {i : Nat} {ds : List D} (hi : r[i]? = some (some (.own ds))) : ∃ p xs, σ[i]? = some (some (.ref p)) ∧ B p = none ∧ H p = some (.lst xs) ∧ RD C Z.s (L2.upd B p (.lst xs)) (.lst ds) (.ref p) ∧ RS C Z B0 H0 (L2.upd B p (.lst xs)) H (r.set i (some (.d (.lst ds)))) σ := by
  obtain ⟨p, xs, e, n0, nb, hp, rs⟩ := R.ownAt hi
  have ex : Ex B (L2.upd B p (.lst xs)) := Ex.new nb
  have rd : RD C Z.s (L2.upd B p (.lst xs)) (.lst ds) (.ref p) := .lst upd_same (rs.mono ex)
  have hl : i < r.length := (List.getElem?_eq_some_iff.mp hi).1
  refine ⟨p, xs, e, nb, hp, rd, R.s0, R.hz, R.fr.give n0 (by
    cases q : B0 p with
    | none => rfl
    | some u => rw [R.fr.b p u q] at nb; cases nb) hp, by rw [List.length_set]; exact R.len, fun j m em => ?_, fun j k m n u w a e1 e2 e3 e4 ne k1 k2 => ?_⟩
  · by_cases q : i = j
    · subst q
      rw [List.getElem?_set_self hl] at em
      cases em
      exact ⟨_, e, rd⟩
    · rw [List.getElem?_set_ne q] at em
      obtain ⟨u, e1, h1⟩ := R.at_ j m em
      refine ⟨u, e1, ?_⟩
      have np : ∀ a, Foot H m u a → a ≠ p := fun a k z => R.ap i j _ m _ u p hi em e e1 q rfl (z ▸ k)
      cases m with
      | d x => exact RD.mono ex h1
      | own ds => obtain ⟨q, rfl, n0, nb, xs, hq, rs⟩ := h1; exact ⟨q, rfl, n0, by rw [upd_ne (np q rfl)]; exact nb, xs, hq, rs.mono ex⟩
      | odic ds => obtain ⟨q, rfl, n0, nb, xs, hq, rs⟩ := h1; exact ⟨q, rfl, n0, by rw [upd_ne (np q rfl)]; exact nb, xs, hq, rs⟩
      | own2 dss =>
        obtain ⟨q, qs, rfl, n0, nb, hq, nd, nq, pr⟩ := h1
        refine ⟨q, qs, rfl, n0, by rw [upd_ne (np q (.inl rfl))]; exact nb, hq, nd, nq, ?_⟩
        have np2 : ∀ a ∈ qs, a ≠ p := fun a ha => np a (.inr ⟨_, hq, List.mem_map.mpr ⟨a, ha, rfl⟩⟩)
        clear hq nd nq np em e1
        induction pr with
        | nil => exact .nil
        | cons f t ih =>
          obtain ⟨a1, a2, xs, a3, a4⟩ := f
          exact .cons ⟨a1, by rw [upd_ne (np2 _ List.mem_cons_self)]; exact a2, xs, a3, a4.mono ex⟩ (ih fun a ha => np2 a (List.mem_cons_of_mem _ ha))
  · have nf : ∀ (j : Nat) (l : L) (u : V) (a : Addr), (r.set i (some (.d (.lst ds))))[j]? = some (some l) → Foot H l u a → i ≠ j := fun j l u a e k q => by
      subst q
      rw [List.getElem?_set_self hl] at e
      cases e
      cases u <;> exact k
    have q1 := nf j m u a e1 k1
    have q2 := nf k n w a e2 k2
    rw [List.getElem?_set_ne q1] at e1
    rw [List.getElem?_set_ne q2] at e2
    exact R.ap j k m n u w a e1 e2 e3 e4 ne k1 k2
end
def flatD : D → Bool
  | .non | .bl _ | .int _ | .str _ => true
  | _ => false
theorem RD.flat {C S : Addr} {H H' : Hp} {d : D} {v : V} (h : RD C S H d v) (f : flatD d = true) : RD C S H' d v := by
  cases h with
  | non => exact .non
  | bl b => exact .bl b
  | int i => exact .int i
  | str s => exact .str s
  | _ => cases f

section
variable {M : Mo} {g : G} {Z : Sc} {e a b : Expr} {es ts : List Expr} {r r1 r2 : Rho} {x y z d : D} {xs ds : List D} {pos : Pos} {k : Nat} {st : Stmt} {rest : List Stmt} {O : Out} {P : D → Prop}
/-- from here on the own list is shared -/
theorem SS_give (i : Nat) {ds : List D} (k : SS M g Z rest (r.set i (some (.d (.lst ds)))) O) (hi : r[i]? = some (some (.own ds)) := by rfl) : SS M g Z rest r O := fun X ok B0 H0 B H σ R Dn o => by
  obtain ⟨p, xs, e, nb, hp, rd, R'⟩ := R.give hi
  exact k X ok B0 H0 _ H σ R' Dn (o.go (Ex.new nb))
/-- looking at an own list as if it were shared -/
theorem Fr.back {B H B1 B' H' : Hp} (f : Fr Z B1 H B' H') (s : Ex B H) (eb : Ex B B1) : Fr Z B H B H' := ⟨Ex.rfl', f.h, (eb.tr f.b).tr f.s, fun _ _ _ n => n, f.src⟩
theorem EP_view (i : Nat) {ds : List D} (h : EP M g Z e (r.set i (some (.d (.lst ds)))) P) (hf : ∀ x, P x → flatD x = true) (hi : r[i]? = some (some (.own ds)) := by rfl) : EP M g Z e r P := fun X ok B0 H0 B H σ R Q q => by
  obtain ⟨p, xs, e, nb, hp, rd, R'⟩ := R.give hi
  exact h X ok B0 H0 _ H σ R' Q fun x v B' H' px f rx => q x v B H' px (f.back R.sB (Ex.new nb)) (rx.flat (hf x px))
theorem E_view (i : Nat) {ds : List D} (h : E M g Z e (r.set i (some (.d (.lst ds)))) x) (hf : flatD x = true := by rfl) (hi : r[i]? = some (some (.own ds)) := by rfl) : E M g Z e r x := EP_view i h (fun _ e => by rw [e]; exact hf) hi
theorem TP_view (i : Nat) {ds : List D} {P : Bool → Prop} (h : TP M g Z e (r.set i (some (.d (.lst ds)))) P) (hi : r[i]? = some (some (.own ds)) := by rfl) : TP M g Z e r P := fun X ok B0 H0 B H σ R Q q => by
  obtain ⟨p, xs, e, nb, hp, rd, R'⟩ := R.give hi
  exact h X ok B0 H0 _ H σ R' Q fun x B' H' px f => q x B H' px (f.back R.sB (Ex.new nb))
theorem WP_view (i : Nat) {ds : List D} {P : Bool → Prop} (h : WP M g Z e (r.set i (some (.d (.lst ds)))) P) (hi : r[i]? = some (some (.own ds)) := by rfl) : WP M g Z e r P := fun X ok B0 H0 B H σ R Q q => by
  obtain ⟨p, xs, e, nb, hp, rd, R'⟩ := R.give hi
  exact h X ok B0 H0 _ H σ R' Q fun x B' H' px f => q x B H' px (f.back R.sB (Ex.new nb))
/-- own[i], its item -/
theorem E_ownIx (i : Nat) {nm : Str} {p : Pos} {ds : List D} {n : Int} (hb : E M g Z b r (.int n)) (ha : atI ds n = some d) (hi : r[i]? = some (some (.own ds)) := by rfl) (hN : g.N[i]? = some nm := by rfl) (hv : Vis g.sc nm := by first | exact Or.inl rfl | exact Or.inr (Or.inl rfl) | exact Or.inr (Or.inr rfl))
    (hd : (nm == ("__debug__" : Str)) = false := by decide) (hcd : (nm == ("__classdict__" : Str)) = false := by decide) (hs : PlainIx b := by intro _ _; rfl) : E M g Z (.Subscript (.Name nm p) b pos) r d := fun X ok B0 H0 B H σ R Q q => by
  refine ⟨_, pe_ix ix_list (pe_var (i := i) (by rw [ok.N]; exact hN) (by rw [ok.sc]; exact hv) hd hcd) pe_w hs, ?_⟩
  obtain ⟨pp, xs, e, n0, nb, hp, rs⟩ := R.ownAt hi
  refine ⟨_, e, ?_⟩
  refine hb X ok B0 H0 B H σ R _ fun x v B1 H1 px f1 r1 => ?_
  subst px; cases r1
  obtain ⟨w, e1, rw'⟩ := atI_rds (rs.mono f1.b) ha
  exact ⟨pp, xs, n, w, rfl, rfl, SqL.of (f1.h pp _ hp (R.s0.ne n0)), e1, q d w B1 H1 rfl f1 rw'⟩
/-- own.append(e) -/
theorem SS_append (i : Nat) {nm : Str} {p ap cp : Pos} {ds : List D} (h : E M g Z e r d) (hl : ds.length < 1000) (k : SS M g Z rest (r.set i (some (.own (ds ++ [d])))) O) (hi : r[i]? = some (some (.own ds)) := by rfl) (hN : g.N[i]? = some nm := by rfl) (hv : Vis g.sc nm := by first | exact Or.inl rfl | exact Or.inr (Or.inl rfl) | exact Or.inr (Or.inr rfl))
    (hd : (nm == ("__debug__" : Str)) = false := by decide) (hcd : (nm == ("__classdict__" : Str)) = false := by decide)
    (hs : ∀ env : Env, env.scope = g.sc → swapsWith (.Call (.Attribute (.Name nm p) "append" ap) [e] [] cp) none pos.line env = pure false := by intro _ _; rfl)
    (h1 : ∀ env, attributeBase (.Name nm p) "append" env (eval (.Name nm p) env) = eval (.Name nm p) env := by intro _; rfl)
    (h2 : ∀ env, ((backTo cp (starEach [e] env)).all (fun x => !x.1) && (backToKw cp (keywordEach [] env)).all (fun x => x.1.isSome) && decide ([e].length + ([] : List Keyword).length + (if ([] : List Keyword).isEmpty then 0 else 1) < 30)) = true := by intro _; rfl)
    (h3 : (ap.endLine == cp.line) = true := by rfl) (h4 : ∀ env, starEach [e] env = (false, eval e env) :: starEach [] env := by intro _; rfl) : SS M g Z (.Expr (.Call (.Attribute (.Name nm p) "append" ap) [e] [] cp) pos :: rest) r O := SS_cons fun X ok B0 H0 B H σ R Dn o => by
  refine ⟨_, ps_expr (pe_bm F.plainAttrs_list F.slot_list_append F.type_list_append mt_append (pe_var (i := i) (by rw [ok.N]; exact hN) (by rw [ok.sc]; exact hv) hd hcd) (pa_cons pe_w pa_nil (h4 _)) (h1 _) (h2 _) h3 (h4 _) rfl) (hs _ ok.sc), ?_⟩
  obtain ⟨pp, xs, e0, n0, nb, hp, rs⟩ := R.ownAt hi
  refine ⟨_, e0, .inl ⟨rfl, xs, SqL.of hp⟩, ?_⟩
  refine h X ok B0 H0 B H σ R _ fun x v B1 H1 px f1 r1 => ?_
  subst px
  have R1 := R.step f1
  obtain ⟨p2, xs2, e2, n2, nb2, hp2, rs2⟩ := R1.ownAt hi
  rw [e0] at e2; cases e2
  refine ⟨pp, xs2, v, rfl, rfl, hp2, by rw [← rs2.len]; exact Nat.lt_of_lt_of_le hl (by decide), ?_⟩
  exact o.nx _ B1 _ _ k (R1.updOwn hi e0 (rs2.snoc r1)) f1.b
/-- own.extend(e) -/
theorem SS_extend (i : Nat) {nm : Str} {p ap cp : Pos} {ds es' : List D} (h : E M g Z e r (.lst es')) (hl : ds.length + es'.length ≤ 10000) (k : SS M g Z rest (r.set i (some (.own (ds ++ es')))) O) (hi : r[i]? = some (some (.own ds)) := by rfl) (hN : g.N[i]? = some nm := by rfl) (hv : Vis g.sc nm := by first | exact Or.inl rfl | exact Or.inr (Or.inl rfl) | exact Or.inr (Or.inr rfl))
    (hd : (nm == ("__debug__" : Str)) = false := by decide) (hcd : (nm == ("__classdict__" : Str)) = false := by decide)
    (hs : ∀ env : Env, env.scope = g.sc → swapsWith (.Call (.Attribute (.Name nm p) "extend" ap) [e] [] cp) none pos.line env = pure false := by intro _ _; rfl)
    (h1 : ∀ env, attributeBase (.Name nm p) "extend" env (eval (.Name nm p) env) = eval (.Name nm p) env := by intro _; rfl)
    (h2 : ∀ env, ((backTo cp (starEach [e] env)).all (fun x => !x.1) && (backToKw cp (keywordEach [] env)).all (fun x => x.1.isSome) && decide ([e].length + ([] : List Keyword).length + (if ([] : List Keyword).isEmpty then 0 else 1) < 30)) = true := by intro _; rfl)
    (h3 : (ap.endLine == cp.line) = true := by rfl) (h4 : ∀ env, starEach [e] env = (false, eval e env) :: starEach [] env := by intro _; rfl) : SS M g Z (.Expr (.Call (.Attribute (.Name nm p) "extend" ap) [e] [] cp) pos :: rest) r O := SS_cons fun X ok B0 H0 B H σ R Dn o => by
  refine ⟨_, ps_expr (pe_bm F.plainAttrs_list F.slot_list_extend F.type_list_extend mt_extend (pe_var (i := i) (by rw [ok.N]; exact hN) (by rw [ok.sc]; exact hv) hd hcd) (pa_cons pe_w pa_nil (h4 _)) (h1 _) (h2 _) h3 (h4 _) rfl) (hs _ ok.sc), ?_⟩
  obtain ⟨pp, xs, e0, n0, nb, hp, rs⟩ := R.ownAt hi
  refine ⟨_, e0, .inl ⟨rfl, xs, SqL.of hp⟩, ?_⟩
  refine h X ok B0 H0 B H σ R _ fun x v B1 H1 px f1 r1 => ?_
  subst px
  have R1 := R.step f1
  obtain ⟨p2, xs2, e2, n2, nb2, hp2, rs2⟩ := R1.ownAt hi
  rw [e0] at e2; cases e2
  cases r1 with
  | lst h5 k5 =>
    refine ⟨pp, _, xs2, _, rfl, rfl, hp2, R1.sB _ _ h5, by rw [← rs2.len, ← k5.len]; exact Nat.le_trans hl (by decide), ?_⟩
    exact o.nx _ B1 _ _ k (R1.updOwn hi e0 (rs2.app k5)) f1.b
/-- an expression that changes own lists -/
def EX (M : Mo) (g : G) (Z : Sc) (e : Expr) (r : Rho) (P : D → Rho → Prop) : Prop := ∀ X, Okx M g X → ∀ B0 H0 B H σ, RS M.C Z B0 H0 B H r σ → ∀ Q : VK, (∀ x r' v B' H', P x r' → RS M.C Z B0 H0 B' H' r' σ → Ex B B' → RD M.C Z.s B' x v → Q v H') → wE X e σ H Q
/-- own.pop() -/
theorem EX_pop (i : Nat) {nm : Str} {p ap cp : Pos} {ds : List D} (hi : r[i]? = some (some (.own (ds ++ [d]))) := by rfl) (hN : g.N[i]? = some nm := by rfl) (hv : Vis g.sc nm := by first | exact Or.inl rfl | exact Or.inr (Or.inl rfl) | exact Or.inr (Or.inr rfl))
    (hd : (nm == ("__debug__" : Str)) = false := by decide) (hcd : (nm == ("__classdict__" : Str)) = false := by decide)
    (h1 : ∀ env, attributeBase (.Name nm p) "pop" env (eval (.Name nm p) env) = eval (.Name nm p) env := by intro _; rfl) (h3 : (ap.endLine == cp.line) = true := by rfl) : EX M g Z (.Call (.Attribute (.Name nm p) "pop" ap) [] [] cp) r fun x r' => x = d ∧ r' = r.set i (some (.own ds)) := fun X ok B0 H0 B H σ R Q q => by
  refine ⟨_, pe_bm0 F.plainAttrs_list F.slot_list_pop F.type_list_pop mt_pop (pe_var (i := i) (by rw [ok.N]; exact hN) (by rw [ok.sc]; exact hv) hd hcd) (h1 _) h3, ?_⟩
  obtain ⟨pp, xs, e0, n0, nb, hp, rs⟩ := R.ownAt hi
  refine ⟨_, e0, .inl ⟨rfl, xs, SqL.of hp⟩, ?_⟩
  have hl := rs.len
  rw [List.length_append, List.length_singleton] at hl
  have hn : xs.length - 1 = ds.length := by omega
  obtain ⟨v, e1, r1⟩ := rs.atD (i := ds.length) (d := d) (by simp)
  refine ⟨pp, xs, v, rfl, rfl, hp, by rw [hn]; exact e1, ?_⟩
  refine q d _ v B _ ⟨rfl, rfl⟩ (R.updOwn hi e0 ?_) Ex.rfl' r1
  have e3 : xs.dropLast = xs.take ds.length := by rw [List.dropLast_eq_take, hn]
  have e4 : ds = (ds ++ [d]).take ds.length := by simp
  rw [e3]
  have := rs.take ds.length
  rwa [← e4] at this
theorem EX_ix {P : D → Rho → Prop} {n : Int} {j : Nat} {p2 : Pos} (ha : EX M g Z a r fun x r' => ∃ ds, x = .tup ds ∧ ∃ d, atI ds n = some d ∧ P d r') (hs : PlainIx (.Constant (.int n) j p2) := by intro _ _; rfl) : EX M g Z (.Subscript a (.Constant (.int n) j p2) pos) r P := fun X ok B0 H0 B H σ R Q q => by
  refine ⟨_, pe_ix ix_w pe_w pe_int hs, ?_⟩
  refine ha X ok B0 H0 B H σ R _ fun x r' v B1 H1 ⟨ds, e, d, hd, pd⟩ R1 e1 r1 => ?_
  subst e
  cases r1 with
  | tup h2 k2 =>
    obtain ⟨w, e2, rw'⟩ := atI_rds k2 hd
    exact ⟨_, ix_tup, _, _, n, w, rfl, rfl, SqT.of (R1.sB _ _ h2), e2, q d r' w B1 H1 pd R1 e1 rw'⟩
theorem EX_subV {P : D → Rho → Prop} {n : Int} {b : Expr} (ha : EX M g Z a r fun x r' => ∃ m : Int, x = .int m ∧ E M g Z b r' (.int n) ∧ P (.int (m - n)) r') : EX M g Z (.BinOp a .Sub b pos) r P := fun X ok B0 H0 B H σ R Q q => by
  refine ⟨_, pe_op op_sub pe_w pe_w, ?_⟩
  refine ha X ok B0 H0 B H σ R _ fun x r' v B1 H1 ⟨m, e, hb, pd⟩ R1 e1 r1 => ?_
  subst e; cases r1
  refine hb X ok B0 H0 B1 H1 σ R1 _ fun y u B2 H2 py f2 r2 => ?_
  subst py; cases r2
  exact ⟨m, n, rfl, rfl, q _ r' _ B2 H2 pd (R1.step f2) (e1.tr f2.b) (.int _)⟩
theorem SS_setX {P : D → Rho → Prop} (i : Nat) {nm : Str} {pos' : Pos} (h : EX M g Z e r P) (k : ∀ x r', P x r' → SS M g Z rest (r'.set i (some (.d x))) O) (hN : g.N[i]? = some nm := by rfl) (hl : LocS g nm := by first | exact Or.inl rfl | exact Or.inr ⟨rfl, rfl⟩)
    (hs : ∀ env : Env, env.scope = g.sc → swapsWith e (some (.Name nm pos')) pos.line env = pure false := by intro _ _; rfl) : SS M g Z (.Assign [.Name nm pos'] e pos :: rest) r O := SS_cons fun X ok B0 H0 B H σ R Dn o => by
  obtain ⟨l1, l2⟩ := ok.loc hl
  refine ⟨_, ps_set (i := i) ok.nd (by rw [ok.N]; exact hN) l1 pe_w (hs _ ok.sc) l2, ?_⟩
  refine h X ok B0 H0 B H σ R _ fun x r' v B1 H1 px R1 e1 q1 => ?_
  exact o.nx _ B1 H1 _ (k x r' px) (R1.set q1) e1

/-! ### dicts of one's own -/
theorem EL_dict0 : EL M g Z (.Dict [] [] pos) r (.odic []) := fun X ok B0 H0 B H σ R Q q => by
  refine ⟨_, pe_dnewK, fun p hp => ?_⟩
  have nb := R.sB.n hp
  exact q _ B _ ((Fr.rfl' R.sB R.src).grow R.src hp nb) ⟨p, rfl, hp, nb, [], upd_same, rfl⟩
theorem RS.giveD {C : Addr} {B0 H0 B H : Hp} {σ : L2.St} (R : RS C Z B0 H0 B H r σ) {i : Nat} {ks : List Str} (hi : r[i]? = some (some (.odic ks))) : ∃ p kvs, σ[i]? = some (some (.ref p)) ∧ B p = none ∧ H0 p = none ∧ H p = some (.dK kvs) ∧ kvs.map (·.1) = ks.map Sum.inr ∧ RS C Z B0 H0 (L2.upd B p (.dK kvs)) H (r.set i (some (.d (.dic ks)))) σ := by
  obtain ⟨v, e, p, rfl, n0, nb, kvs, hp, hk⟩ := R.at_ i _ hi
  have ex : Ex B (L2.upd B p (.dK kvs)) := Ex.new nb
  have rd : RD C Z.s (L2.upd B p (.dK kvs)) (.dic ks) (.ref p) := .dic upd_same hk
  have hl : i < r.length := (List.getElem?_eq_some_iff.mp hi).1
  refine ⟨p, kvs, e, nb, n0, hp, hk, R.s0, R.hz, R.fr.give n0 (by
    cases q : B0 p with
    | none => rfl
    | some u => rw [R.fr.b p u q] at nb; cases nb) hp, by rw [List.length_set]; exact R.len, fun j m em => ?_, fun j k m n u w a e1 e2 e3 e4 ne k1 k2 => ?_⟩
  · by_cases q : i = j
    · subst q
      rw [List.getElem?_set_self hl] at em
      cases em
      exact ⟨_, e, rd⟩
    · rw [List.getElem?_set_ne q] at em
      obtain ⟨u, e1, h1⟩ := R.at_ j m em
      refine ⟨u, e1, ?_⟩
      have np : ∀ a, Foot H m u a → a ≠ p := fun a k z => R.ap i j _ m _ u p hi em e e1 q rfl (z ▸ k)
      cases m with
      | d x => exact RD.mono ex h1
      | own ds => obtain ⟨q, rfl, n0, nb, xs, hq, rs⟩ := h1; exact ⟨q, rfl, n0, by rw [upd_ne (np q rfl)]; exact nb, xs, hq, rs.mono ex⟩
      | odic ds => obtain ⟨q, rfl, n0, nb, xs, hq, rs⟩ := h1; exact ⟨q, rfl, n0, by rw [upd_ne (np q rfl)]; exact nb, xs, hq, rs⟩
      | own2 dss =>
        obtain ⟨q, qs, rfl, n0, nb, hq, nd, nq, pr⟩ := h1
        refine ⟨q, qs, rfl, n0, by rw [upd_ne (np q (.inl rfl))]; exact nb, hq, nd, nq, ?_⟩
        have np2 : ∀ a ∈ qs, a ≠ p := fun a ha => np a (.inr ⟨_, hq, List.mem_map.mpr ⟨a, ha, rfl⟩⟩)
        clear hq nd nq np em e1
        induction pr with
        | nil => exact .nil
        | cons f t ih =>
          obtain ⟨a1, a2, xs, a3, a4⟩ := f
          exact .cons ⟨a1, by rw [upd_ne (np2 _ List.mem_cons_self)]; exact a2, xs, a3, a4.mono ex⟩ (ih fun a ha => np2 a (List.mem_cons_of_mem _ ha))
  · have nf : ∀ (j : Nat) (l : L) (u : V) (a : Addr), (r.set i (some (.d (.dic ks))))[j]? = some (some l) → Foot H l u a → i ≠ j := fun j l u a e k q => by
      subst q
      rw [List.getElem?_set_self hl] at e
      cases e
      cases u <;> exact k
    have q1 := nf j m u a e1 k1
    have q2 := nf k n w a e2 k2
    rw [List.getElem?_set_ne q1] at e1
    rw [List.getElem?_set_ne q2] at e2
    exact R.ap j k m n u w a e1 e2 e3 e4 ne k1 k2
theorem E_viewD (i : Nat) {ks : List Str} (h : E M g Z e (r.set i (some (.d (.dic ks)))) x) (hf : flatD x = true := by rfl) (hi : r[i]? = some (some (.odic ks)) := by rfl) : E M g Z e r x := fun X ok B0 H0 B H σ R Q q => by
  obtain ⟨p, kvs, e, nb, n0, hp, hk, R'⟩ := RS.giveD R hi
  exact h X ok B0 H0 _ H σ R' Q fun x v B' H' px f rx => q x v B H' px (f.back R.sB (Ex.new nb)) (rx.flat (px ▸ hf))
/-- own[key] = v, the key new -/
theorem SS_dput (i : Nat) {nm key : Str} {p p' : Pos} {ks : List Str} (h : E M g Z e r d) (hb : E M g Z b r (.str key)) (hk : key ∉ ks) (hl : ks.length < 1000) (k : SS M g Z rest (r.set i (some (.odic (ks ++ [key])))) O) (hi : r[i]? = some (some (.odic ks)) := by rfl) (hN : g.N[i]? = some nm := by rfl) (hv : Vis g.sc nm := by first | exact Or.inl rfl | exact Or.inr (Or.inl rfl) | exact Or.inr (Or.inr rfl))
    (hd : (nm == ("__debug__" : Str)) = false := by decide) (hcd : (nm == ("__classdict__" : Str)) = false := by decide)
    (hs : ∀ env : Env, env.scope = g.sc → swapsWith e (some (.Subscript (.Name nm p) b p')) pos.line env = pure false := by intro _ _; rfl) : SS M g Z (.Assign [.Subscript (.Name nm p) b p'] e pos :: rest) r O := SS_cons fun X ok B0 H0 B H σ R Dn o => by
  refine ⟨_, ps_dput (hu_of ok.room) (pe_var (i := i) (by rw [ok.N]; exact hN) (by rw [ok.sc]; exact hv) hd hcd) pe_w pe_w (hs _ ok.sc), ?_⟩
  refine h X ok B0 H0 B H σ R _ fun x v B1 H1 px f1 r1 => ?_
  obtain ⟨v0, e0, _⟩ := R.at_ i _ hi
  refine ⟨v0, e0, ?_⟩
  refine hb X ok B0 H0 B1 H1 σ (R.step f1) _ fun y u B2 H2 py f2 r2 => ?_
  subst py; cases r2
  have R2 := (R.step f1).step f2
  obtain ⟨v1, e1, p, rfl, n0, nb, kvs, hp, hq⟩ := R2.at_ i _ hi
  rw [e0] at e1; cases e1
  have hlen : kvs.length = ks.length := by
    have := congrArg List.length hq
    simpa using this
  refine ⟨p, _, rfl, DPut.k (k := Sum.inr key) hp (by rw [hlen]; exact Nat.lt_of_lt_of_le hl (by decide)), ?_⟩
  have hnone : (kvs.any fun kv => decide (kv.1 = (Sum.inr key : Key))) = false := by
    rw [List.any_eq_false]
    intro kv hkv z
    have e2 : kv.1 ∈ kvs.map (·.1) := List.mem_map.mpr ⟨kv, hkv, rfl⟩
    rw [hq, of_decide_eq_true z] at e2
    obtain ⟨s, hs, e3⟩ := List.mem_map.mp e2
    exact hk (by cases e3; exact hs)
  have e3 : putK kvs (Sum.inr key) v = kvs ++ [(Sum.inr key, v)] := by
    unfold putK; rw [if_neg (by rw [hnone]; decide)]
  rw [e3]
  refine o.nx _ B2 _ _ k (R2.upd1 hi e0 rfl nb ⟨p, rfl, n0, nb, _, upd_same, ?_⟩ fun a k => .inl k) (f1.b.tr f2.b)
  rw [List.map_append, hq, List.map_append]; rfl

/-! ### dicts: asking -/
theorem keys_val {kvs : List (Key × V)} {ks : List Str} (h : kvs.map (·.1) = ks.map Sum.inr) (k : Str) : (valV kvs (Sum.inr k)).isSome = decide (k ∈ ks) := by
  rw [← valV_any]
  by_cases q : k ∈ ks
  · rw [decide_eq_true q, List.any_eq_true]
    have : (Sum.inr k : Key) ∈ kvs.map (·.1) := by rw [h]; exact List.mem_map.mpr ⟨k, q, rfl⟩
    obtain ⟨kv, hkv, e⟩ := List.mem_map.mp this
    exact ⟨kv, hkv, decide_eq_true e⟩
  · rw [decide_eq_false q, List.any_eq_false]
    intro kv hkv z
    have e2 : kv.1 ∈ kvs.map (·.1) := List.mem_map.mpr ⟨kv, hkv, rfl⟩
    rw [h, of_decide_eq_true z] at e2
    obtain ⟨s, hs, e3⟩ := List.mem_map.mp e2
    exact q (by cases e3; exact hs)
theorem KvP.keys {H : Hp} : ∀ {ps : List Per} {kvs : List (Key × V)}, KvP H ps kvs → kvs.map (·.1) = (ps.map (·.nm)).map Sum.inr
  | _, _, .nil => rfl
  | _, _, .cons a b => by rw [List.map_cons, a.1, KvP.keys b]; rfl
/-- what has keys -/
inductive Keys : D → List Str → Prop
  | dic (ks : List Str) : Keys (.dic ks) ks
  | pdic (ps : List Per) : Keys (.pdic ps) (ps.map (·.nm))
theorem Keys.at {C S : Addr} {H : Hp} {ks : List Str} {v : V} (h : Keys d ks) (r : RD C S H d v) : ∃ a kvs, v = .ref a ∧ H a = some (.dK kvs) ∧ kvs.map (·.1) = ks.map Sum.inr := by
  cases h with
  | dic => cases r with
    | dic h1 h2 => exact ⟨_, _, rfl, h1, h2⟩
  | pdic => cases r with
    | pdic h1 h2 => exact ⟨_, _, rfl, h1, h2.keys⟩
theorem E_inD {ks : List Str} {key : Str} (ha : E M g Z a r (.str key)) (hb : E M g Z b r d) (hk : Keys d ks) (hm : behindInMarks .In b = false := by rfl) : E M g Z (.Compare a [.In] [b] pos) r (.bl (decide (key ∈ ks))) := fun X ok B0 H0 B H σ R Q q => by
  refine ⟨_, pe_cmp (pc_din (hu_of ok.room) pe_w pe_w) hm, ?_⟩
  refine ha X ok B0 H0 B H σ R _ fun x v B1 H1 px f1 r1 => ?_
  subst px; cases r1
  refine hb X ok B0 H0 B1 H1 σ (R.step f1) _ fun y u B2 H2 py f2 r2 => ?_
  subst py
  obtain ⟨p, kvs, rfl, hp, hkk⟩ := hk.at r2
  refine ⟨p, _, rfl, DGet.k (k := Sum.inr key) (f2.s _ _ hp), ?_⟩
  rw [keys_val hkk]
  exact q _ _ B2 H2 rfl (f1.tr f2 R.src) (.bl _)
theorem T_inD {ks : List Str} {key : Str} (ha : E M g Z a r (.str key)) (hb : E M g Z b r d) (hk : Keys d ks) (hm : behindInMarks .In b = false := by rfl) : T M g Z (.Compare a [.In] [b] pos) r (decide (key ∈ ks)) := fun X ok B0 H0 B H σ R Q q => by
  refine ⟨_, pt_cmp (pc_din (hu_of ok.room) pe_w pe_w) hm, ?_⟩
  refine ha X ok B0 H0 B H σ R _ fun x v B1 H1 px f1 r1 => ?_
  subst px; cases r1
  refine hb X ok B0 H0 B1 H1 σ (R.step f1) _ fun y u B2 H2 py f2 r2 => ?_
  subst py
  obtain ⟨p, kvs, rfl, hp, hkk⟩ := hk.at r2
  refine ⟨p, _, rfl, DGet.k (k := Sum.inr key) (f2.s _ _ hp), ?_⟩
  rw [keys_val hkk]
  exact ⟨_, rfl, q _ B2 H2 rfl (f1.tr f2 R.src)⟩
def perD (p : Per) : D := .tup [.str p.nm, .int p.pl, .int p.vc]
theorem perRD {C S : Addr} {H : Hp} {p : Per} {t : Addr} (h : H t = some (.tup (perV p))) : RD C S H (perD p) (.ref t) := .tup h (.cons (.str _) (.cons (.int _) (.cons (.int _) .nil)))
theorem KvP.get {C S : Addr} {H : Hp} {p : Per} : ∀ {ps : List Per} {kvs : List (Key × V)}, KvP H ps kvs → (ps.map (·.nm)).Nodup → p ∈ ps → ∃ v, valV kvs (Sum.inr p.nm) = some v ∧ RD C S H (perD p) v
  | _, _, .nil, _, h => nomatch h
  | _, _, @Paired.cons _ _ _ p0 kv ps kvs ⟨e1, t, e2, e3⟩ b, nd, h => by
    rw [List.map_cons, List.nodup_cons] at nd
    rcases List.mem_cons.mp h with e | h
    · subst e
      exact ⟨kv.2, valV_pos e1, by rw [e2]; exact perRD e3⟩
    · have ne : ¬ kv.1 = (Sum.inr p.nm : Key) := by
        rw [e1]
        intro z
        have z : p0.nm = p.nm := by injection z
        exact nd.1 (by rw [z]; exact List.mem_map.mpr ⟨p, h, rfl⟩)
      obtain ⟨v, e, rd⟩ := KvP.get b nd.2 h
      exact ⟨v, by rw [valV_neg ne]; exact e, rd⟩
/-- own_people[name] -/
theorem E_pget {ps : List Per} {p : Per} (ha : E M g Z a r (.pdic ps)) (hb : E M g Z b r (.str p.nm)) (nd : (ps.map (·.nm)).Nodup) (hp : p ∈ ps) (hs : NoSl b := by intro _ _; rfl) : E M g Z (.Subscript a b pos) r (perD p) := fun X ok B0 H0 B H σ R Q q => by
  refine ⟨_, pe_dget (hu_of ok.room) pe_w pe_w hs, ?_⟩
  refine ha X ok B0 H0 B H σ R _ fun x v B1 H1 px f1 r1 => ?_
  subst px
  refine hb X ok B0 H0 B1 H1 σ (R.step f1) _ fun y u B2 H2 py f2 r2 => ?_
  subst py; cases r2
  have r1 := r1.mono f2.b
  cases r1 with
  | pdic h1 h2 =>
    obtain ⟨w, e, rd⟩ := h2.get nd hp
    exact ⟨_, w, rfl, by have := DGet.k (k := Sum.inr p.nm) (f2.s _ _ h1); rw [e] at this; exact this, q _ w B2 H2 rfl (f1.tr f2 R.src) rd⟩
end
end OC
set_option maxHeartbeats 4000000
/-! Sets of ints, isinstance, ranges, texts, the class Standing. -/
namespace OC
open PySem PySem.Spec PyProof.Rows L2 PpSet

section
variable {X : Cx}
theorem addI_ok {pins : List (Addr × Obj)} {σ : L2.St} {H : Hp} {s : Shared} {E : Value → Shared → Prop} {D : Addr} {S : Int → Bool} {n : Nat} {y : Int} {tk : Tok} {Q : Value → Shared → Prop} (I : Inv X pins σ H s) (hD : H D = some (SetO X.w D S n)) (room : n + 1 < scanBound)
    (h : ∀ s', Inv X pins σ (upd H D (SetO X.w D (fun j => S j || decide (j = y)) (if S y = true then n else n + 1))) s' → Q .none s') : wpAny (model X.prog X.w) X.A (call (.builtin "set.add") [.ref D, .int y tk]) Q E s := by
  refine setR_add (setO_get I hD) room fun h' sb new => ?_
  have old : ∃ u, h'.get? D = some u := let ⟨o, _, _, _, ho, _⟩ := new; ⟨o, ho⟩
  exact h _ (I.write (e := D) (t' := s.toks + 1) (by rw [hD]; trivial) (.inl rfl) (fun b u ne hu => (sb.2 b ne).trans hu) old (setO_new new))
/-- {elt for target in iter if ..}, elt an int -/
def tScI (w : World) (wi : TI) (g : TG) (tt : TT) (te : TE) (vs : List Nat) : TE := fun σ H Q => wi σ H fun J G1 => ∀ dl, G1 dl = none → ∃ Wk : Nat → Nat → Hp → Prop, (∃ m, Wk 0 m (upd G1 dl (SetO w dl (fun _ => false) 0))) ∧ ∀ i m H, Wk i m H →
  (J.stop i H ∧ Q (.ref dl) H) ∨ (J.go i H ∧ ∃ Nx : Hp → Prop, (∀ H', Nx H' → ∃ m', m' < m ∧ Wk (i + 1) m' H') ∧ ∀ x H', J.yld i H x H' → g x (wipe σ vs) H' fun σ2 G2 => wipe σ2 vs = wipe σ vs ∧ tt σ2 G2 fun b G3 =>
    if b = true then te σ2 G3 fun y G4 => ∃ (c : Int) (S : Int → Bool) (n : Nat), y = .int c ∧ G4 dl = some (SetO w dl S n) ∧ n + 1 < scanBound ∧ Nx (upd G4 dl (SetO w dl (fun j => S j || decide (j = c)) (if S c = true then n else n + 1))) else Nx G3)
theorem scI_core {pins : List (Addr × Obj)} {s : Shared} {σ : L2.St} {H : Hp} {Q : VK} {elt tg iter : Expr} {ifs : List Expr} {scope : Scope} {own : List (PySem.Str × Nat)} {pos pos' : Pos} {wi : TI} {g : TG} {tt : TT} {te : TE} {use : Option (Value → Sem Unit)} {Qf : Value → Shared → Prop}
    (calm : X.calm = true) (ndN : X.N.Nodup) (inv : Inv X pins σ H s) (pit : PI X tg iter wi) (bo : BlkOk X.N X.env.scope scope own)
    (pgs : ∀ (s : Shared) (H : Hp) (C : Addr) (cl : List (PySem.Str × Addr)) (fq : List Addr), PG (X.blk s H scope (compEnvC scope cl C X.env) fq) tg g) (pts : ∀ (s : Shared) (H : Hp) (C : Addr) (cl : List (PySem.Str × Addr)) (fq : List Addr), PTs (X.blk s H scope (compEnvC scope cl C X.env) fq) ifs tt)
    (pes : ∀ (s : Shared) (H : Hp) (C : Addr) (cl : List (PySem.Str × Addr)) (fq : List Addr), PE (X.blk s H scope (compEnvC scope cl C X.env) fq) elt te) (fst : ∀ x, foldedSetIterable iter X.env x = pure x)
    (h : tScI X.w wi g tt te (own.map (·.2)) σ H Q)
    (hend : ∀ dl C s' m H', Inv X pins σ H' s' → Q (.ref dl) H' → s'.heap.Ns C m → FpOk X pins H' C → compPost (model X.prog X.w) X.A X.xe use Qf (.ref dl) C (.ok .next) s') :
    wpAny (model X.prog X.w) X.A (comprehension (.SetComp elt [⟨tg, iter, ifs, 0⟩] scope pos) scope X.env pos' (newSet (.type "set")) false (eval iter X.env) use) Qf X.xe s := by
  have frees : ∀ y ∈ scope.names, y.2 = .free → ∃ c, X.env.cells.lookup y.1 = some c := fun y hy e => by
    rcases bo.free y hy e with k | k
    · exact inv.ok.has _ (.inl k)
    · exact inv.ok.has _ (.inr k)
  refine wpAny_comprehension_free (use := use) rfl fst (closure_ok frees) bo.kind (fun y hy e => by rw [bo.uniq y hy, e])
    (thn (pit.run pins s σ H _ inv h) fun xv t1 hx => thn hx fun itv t2 h2 => ?_)
  obtain ⟨it, fq, tn, J, G2, e, J2, trn, st2, f2, q⟩ := h2
  subst e
  refine newSet_ok (newEnv_comp ?_)
  generalize hD : t2.heap.objs.size = dl
  have dn : G2 dl = none := J2.hok.fresh (Nat.le_of_eq hD)
  obtain ⟨wlk, ⟨m0, w0⟩, turn⟩ := q dl dn
  -- the new list
  generalize hs3 : ({ t2 with heap := t2.heap.push { cls := .type "set", dict := none, data := .set #[] 0 (.fresh 0 0 (!X.w.params.followText "set-order")) } } : Shared) = t3
  have J3 : Inv X pins σ (upd G2 dl (SetO X.w dl (fun _ => false) 0)) t3 := by
    rw [← hs3]
    refine J2.laid (t' := t2.toks) (fun b o e => Heap.get?_push_of_some _ e) (Nat.le_of_eq hD) ?_
    rw [← hD]
    exact setO_new (setR_fresh X.w)
  have h3 : t3.heap = t2.heap.push { cls := .type "set", dict := none, data := .set #[] 0 (.fresh 0 0 (!X.w.params.followText "set-order")) } := by rw [← hs3]
  have sz : ∀ b ∈ fq, b < t2.heap.objs.size := fun b mb => by
    obtain ⟨o, e, _⟩ := trn.obj _ _ st2 b mb
    exact Heap.lt_size e
  have f3 : ∀ b ∈ fq, FpOk X pins (upd G2 dl (SetO X.w dl (fun _ => false) 0)) b ∧ b < t3.heap.objs.size := fun b mb => by
    have ltz := sz b mb
    refine ⟨⟨?_, (f2 b mb).2⟩, by rw [h3, Heap.size_push]; exact Nat.lt_succ_of_lt ltz⟩
    rw [upd_ne (by rw [← hD]; exact Nat.ne_of_lt ltz)]
    exact (f2 b mb).1
  have st3 : tn 0 t3.heap := trn.keep _ _ _ st2 fun b _ o e => by rw [h3]; exact Heap.get?_push_of_some _ e
  have J4 := block_start J3 bo ndN f3
  have pg := pgs t3 (upd G2 dl (SetO X.w dl (fun _ => false) 0)) t3.heap.objs.size (cellsFrom (t3.heap.objs.size + 1) scope.names (cloFrom X.env.cells scope.names [])) fq
  have pt := pts t3 (upd G2 dl (SetO X.w dl (fun _ => false) 0)) t3.heap.objs.size (cellsFrom (t3.heap.objs.size + 1) scope.names (cloFrom X.env.cells scope.names [])) fq
  have pe := pes t3 (upd G2 dl (SetO X.w dl (fun _ => false) 0)) t3.heap.objs.size (cellsFrom (t3.heap.objs.size + 1) scope.names (cloFrom X.env.cells scope.names [])) fq
  show codeAny _ _ (.compStart (.SetComp elt [⟨tg, iter, ifs, 0⟩] scope pos) 0 (.ref it) (.ref dl) (compEnvC scope (cellsFrom (t3.heap.objs.size + 1) scope.names (cloFrom X.env.cells scope.names [])) t3.heap.objs.size X.env)) (compPost (model X.prog X.w) X.A X.xe use Qf (.ref dl) t3.heap.objs.size) { t3 with heap := pushCells (t3.heap.push { cls := .type "dict", data := .dict #[] }) scope.names }
  have nof : ∀ b ∈ fq, (upd G2 dl (SetO X.w dl (fun _ => false) 0)) b = none := fun b mb => (f3 b mb).1.1
  generalize ecn : compEnvC scope (cellsFrom (t3.heap.objs.size + 1) scope.names (cloFrom X.env.cells scope.names [])) t3.heap.objs.size X.env = ce at J4 pg pt pe ⊢
  have cL : ce.locals = t3.heap.objs.size := by subst ecn; rfl
  generalize hH3 : upd G2 dl (SetO X.w dl (fun _ => false) 0) = G3 at J3 J4 pg pt pe w0 nof f3
  generalize hs4 : ({ t3 with heap := pushCells (t3.heap.push { cls := .type "dict", data := .dict #[] }) scope.names } : Shared) = t4 at J4 ⊢
  have st4 : tn 0 t4.heap := trn.keep _ _ _ st3 fun b _ o e => by rw [← hs4]; exact pushCells_keeps _ _ _ _ (Heap.get?_push_of_some _ e)
  have stays : ∀ {σ' : L2.St} {H' : Hp} {s' : Shared}, Inv (X.blk t3 G3 scope ce fq) [] σ' H' s' → (∀ b ∈ fq, H' b = none) → ∀ b ∈ fq, FpOk (X.blk t3 G3 scope ce fq) [] H' b := fun {σ' H' s'} inv' hn b mb =>
    ⟨hn b mb, (inv'.ok.exf b mb).1, inv'.ok.exfs b mb, .inl mb, fun x c e => (inv'.ok.exf b mb).2 x c e, fun p hp => absurd (show p ∈ ([] : List (Addr × Obj)) ++ [] from hp) (by simp)⟩
  have lap : codeAny (model X.prog X.w) X.A (.compLoop (.SetComp elt [⟨tg, iter, ifs, 0⟩] scope pos) 0 (.ref it) (.ref dl) ce) (compPost (model X.prog X.w) X.A X.xe use Qf (.ref dl) t3.heap.objs.size) t4 := by
    refine compLoopS_any (fun n s' => ∃ i H', Inv (X.blk t3 G3 scope ce fq) [] (wipe σ (own.map (·.2))) H' s' ∧ tn i s'.heap ∧ (∀ b ∈ fq, H' b = none) ∧ wlk i n H') ?_ m0 ⟨0, G3, J4, st4, nof, w0⟩
    rintro n t5 ⟨i, G5, J5, st5, n5, w5⟩
    rcases turn i n G5 w5 with ⟨stop, qq⟩ | ⟨go, Nx, hNx, step⟩
    · have td := trn.done (X.blk t3 G3 scope ce fq) rfl rfl rfl calm i [] t5 _ G5 (fun _ _ => False) J5 (stays J5 n5) st5 stop
      refine thnF td fun r t6 ⟨hr, J6⟩ => ?_
      subst hr
      -- back in the def's context
      have J7 : Inv X pins σ G5 t6 := J3.call' (ch := fq) J6.os J6.base J6.hok J6.bare fun b mb => ⟨(f3 b mb).1.2.2.2.1, (f3 b mb).1.2.1, (f3 b mb).1.2.2.2.2.1, (f3 b mb).1.2.2.2.2.2⟩
      have nC : G5 t3.heap.objs.size = none := by
        have z : G5 ce.locals = none := J6.free
        rw [cL] at z
        exact z
      obtain ⟨m, hn, _⟩ := J6.loc
      have hn : t6.heap.Ns ce.locals m := hn
      rw [cL] at hn
      exact hend dl t3.heap.objs.size t6 m G5 J7 qq hn (J3.fpOk (Nat.le_refl _) nC)
    · have ti := trn.item (X.blk t3 G3 scope ce fq) rfl rfl rfl calm i [] t5 _ G5 (fun _ _ => False) J5 (stays J5 n5) st5 go
      refine thnF ti fun r t6 ⟨u, hr, h6⟩ => ?_
      subst hr
      refine thnF h6 fun _ t7 ⟨x, G7, J7, r7, y7, st7, n7⟩ => ?_
      have J7' := J7.pinned (stays J7 n7) (trn.obj _ _ st7)
      refine thnF (pg.run _ t7 _ G7 x u _ J7' r7 (step x G7 y7)) fun _ t8 ⟨σ8, G8, J8, hw8, q8⟩ => ?_
      refine thnF (pt.run _ t8 σ8 G8 _ J8 q8) fun b t9 ⟨G9, J9, q9⟩ => ?_
      -- the turn's end
      have fin : ∀ {s' : Shared} {H' : Hp}, Inv (X.blk t3 G3 scope ce fq) ([] ++ pinsAt fq t7.heap) σ8 H' s' → Nx H' → ∃ m, m < n ∧ ∃ i H', Inv (X.blk t3 G3 scope ce fq) [] (wipe σ (own.map (·.2))) H' s' ∧ tn i s'.heap ∧ (∀ b ∈ fq, H' b = none) ∧ wlk i m H' := fun {s' H'} inv' nxt => by
        obtain ⟨m', hm, w'⟩ := hNx H' nxt
        have pin' : ∀ b ∈ fq, ∀ o, t7.heap.get? b = some o → s'.heap.get? b = some o ∧ H' b = none := fun b mb o e =>
          let z := inv'.pin (b, o) (List.mem_append_right _ (List.mem_append_right _ (mem_pinsAt mb e)))
          ⟨z.1, z.2.1⟩
        have hl : (wipe σ (own.map (·.2))).length = σ8.length := by rw [← hw8, wipe_length]
        refine ⟨m', hm, i + 1, H', (inv'.unpinned (pins := [])).weak hl (fun j v e => ?_), trn.keep _ _ _ st7 fun b mb o e => (pin' b mb o e).1, fun b mb => ?_, w'⟩
        · rw [← hw8] at e
          exact (wipe_some e).1
        · obtain ⟨o, e, _⟩ := trn.obj _ _ st7 b mb
          exact (pin' b mb o e).2
      cases b with
      | false =>
        simp only [Bool.false_eq_true, if_false] at q9 ⊢
        exact fin J9 q9
      | true =>
        simp only [if_true] at q9 ⊢
        refine thnF (pe.run _ t9 σ8 G9 _ J9 q9) fun z t10 ⟨yv, G10, J10, r10, cb, S0, n0, ey, hD10, hz10, nxt⟩ => ?_
        subst ey
        obtain ⟨tk10, rfl⟩ := r10
        exact addI_ok (X := X.blk t3 G3 scope ce fq) J10 hD10 hz10 fun t11 J11 => fin J11 nxt
  exact codeAny_compStart_set lap (trn.self X.A 0 _ _ _ st4 lap)
/-- as a value -/
theorem pe_scI {elt tg iter : Expr} {ifs : List Expr} {scope : Scope} {own : List (PySem.Str × Nat)} {pos : Pos} {wi : TI} {g : TG} {tt : TT} {te : TE} (calm : X.calm = true) (ndN : X.N.Nodup) (pit : PI X tg iter wi) (bo : BlkOk X.N X.env.scope scope own)
    (pgs : ∀ (s : Shared) (H : Hp) (C : Addr) (cl : List (PySem.Str × Addr)) (fq : List Addr), PG (X.blk s H scope (compEnvC scope cl C X.env) fq) tg g) (pts : ∀ (s : Shared) (H : Hp) (C : Addr) (cl : List (PySem.Str × Addr)) (fq : List Addr), PTs (X.blk s H scope (compEnvC scope cl C X.env) fq) ifs tt)
    (pes : ∀ (s : Shared) (H : Hp) (C : Addr) (cl : List (PySem.Str × Addr)) (fq : List Addr), PE (X.blk s H scope (compEnvC scope cl C X.env) fq) elt te) (fst : ∀ x, foldedSetIterable iter X.env x = pure x := by intro _; rfl) :
    PE X (.SetComp elt [⟨tg, iter, ifs, 0⟩] scope pos) (tScI X.w wi g tt te (own.map (·.2))) := by
  refine ⟨fun pins s σ H Q inv h => ?_⟩
  rw [eval_SetComp]
  refine scI_core calm ndN inv pit bo pgs pts pes fst h fun dl C s' m H' inv' q hn f => ⟨m, hn, fun h'' sb => ?_⟩
  obtain ⟨f0, f1, f2, f3, f4, f5⟩ := f
  exact ⟨.ref dl, H', inv'.turned (t' := s'.toks) (fun b o mb e => (sb.2 b mb).trans e) f0 f1 f3 f4 f5, rfl, q⟩
end

section
variable {M : Mo} {g : G} {Z : Sc} {e a b tg it : Expr} {es ts : List Expr} {r r1 r2 : Rho} {x y z d : D} {xs ds : List D} {pos : Pos} {k : Nat} {rest body : List Stmt} {O O' : Out}
/-- sorted({elt for tg in it}) -/
theorem E_sortedSet {α : Type} {l : List α} {gf : α → D} {h : α → Int} {ns : List Int} {elt : Expr} {scope : Scope} {p pos' : Pos} (own : List (Str × Nat)) (hi : IT M g Z tg it r (l.map gf)) (ok' : BlkOk g.N g.sc scope own)
    (hb : ∀ x ∈ l, ∃ r1 is, GT M (g.blk scope) Z tg (gf x) (wipeR r (own.map (·.2))) r1 is ∧ (∀ j ∈ is, j ∈ own.map (·.2)) ∧ E M (g.blk scope) Z elt r1 (.int (h x)))
    (hl : l.length < 60) (hns : ∀ ms : List Int, ms.Pairwise (· < ·) → (∀ k, k ∈ ms ↔ k ∈ l.map h) → ms = ns) (hm : M.mg "sorted" = none) (hg : GlS g "sorted" := by rfl) (hs : ∀ env x, foldedSetIterable it env x = pure x := by intro _ _; rfl) :
    E M g Z (.Call (.Name "sorted" p) [.SetComp elt [⟨tg, it, [], 0⟩] scope pos'] [] pos) r (.lst (ns.map D.int)) := fun X ok B0 H0 B H σ R Q q => by
  refine ⟨_, pe_callB (cr_sortedSet ok.calm) (ok.gl hg) (by rw [ok.mg]; exact hm) (by decide +kernel) (pa_cons (pe_scI (own := own) ok.calm ok.nd pi_w (by rw [ok.N, ok.sc]; exact ok') pg_b (fun _ _ _ _ _ => pts_nil) pe_b (hs _)) pa_nil), ?_⟩
  refine hi X ok B0 H0 B H σ R _ fun ds J B1 H1 pds f1 wk => ?_
  subst pds
  intro Dl hD
  have nH : H Dl = none := f1.free R.src hD
  have nB : B1 Dl = none := f1.s.n hD
  have nZ := R.src.ne nH
  refine ⟨fun i m H' => m = l.length - i ∧ i ≤ l.length ∧ ∃ B' S n, Ex B1 B' ∧ Fr Z B H B' H' ∧ B' Dl = none ∧ H' Dl = some (SetO X.w Dl S n) ∧ (∀ k, S k = true ↔ k ∈ (l.take i).map h) ∧ n ≤ i, ⟨l.length, rfl, Nat.zero_le _, B1, _, 0, Ex.rfl', f1.grow R.src nH nB, nB, upd_same, fun k => by simp, Nat.le_refl _⟩, ?_⟩
  rintro i m H' ⟨rfl, hle, B', S, n, eB, fr, nb, hx, hS, hn⟩
  obtain ⟨wgo, wstop⟩ := wk B' H' eB fr.s fr.src i
  by_cases hlt : i < l.length
  · have hd1 : (l.map gf)[i]? = some (gf l[i]) := by simp [hlt]
    obtain ⟨go, yl⟩ := wgo _ hd1
    refine .inr ⟨go, fun H3 => ∃ B' S n, Ex B1 B' ∧ Fr Z B H B' H3 ∧ B' Dl = none ∧ H3 Dl = some (SetO X.w Dl S n) ∧ (∀ k, S k = true ↔ k ∈ (l.take (i + 1)).map h) ∧ n ≤ i + 1, fun H3 q3 => ⟨l.length - (i + 1), by omega, rfl, hlt, q3⟩, fun x H'' y => ?_⟩
    obtain ⟨B'', f2, rd⟩ := yl x H'' y
    obtain ⟨r1, is, gt, hin, he⟩ := hb l[i] (List.getElem_mem hlt)
    have Rw := ((R.step fr).wipe (own.map (·.2))).step f2
    intro s Hs Cc cl fp
    refine gt _ ok.blk B0 H0 B'' H'' _ x Rw rd _ fun σ2 R2 so => ⟨so.wipe hin, ?_⟩
    dsimp only [tYes]
    rw [if_pos rfl]
    intro s Hs Cc cl fp
    refine he _ ok.blk B0 H0 B'' H'' σ2 R2 _ fun y v B4 H4 py f4 r4 => ?_
    subst py; cases r4
    have f24 := f2.tr f4 fr.src
    have nb4 : B4 Dl = none := f24.hid _ _ hx nb
    refine ⟨h l[i], S, n, rfl, f24.h _ _ hx nZ, Nat.lt_of_le_of_lt (show n + 1 ≤ 61 by omega) (by decide), B4, _, _, eB.tr f24.b, (fr.tr f24 R.src).grow R.src nH nb4, nb4, upd_same, fun k => ?_, ?_⟩
    · rw [Bool.or_eq_true, hS, decide_eq_true_iff, List.take_succ, List.getElem?_eq_getElem hlt, List.map_append, List.mem_append]
      simp
    · split <;> omega
  · have e : i = l.length := by omega
    subst e
    refine .inl ⟨wstop (by simp), Dl, S, n, rfl, hx, by omega, fun ms p up mem _ hp => ?_⟩
    have e2 := hns ms up fun k => by rw [mem, hS, List.take_length]
    subst e2
    exact q _ _ _ _ rfl (fr.add R.src hp) (.lst upd_same (RDs.ofInts _))
end
end OC
set_option maxHeartbeats 4000000
/-! isinstance, ranges, texts, the people of a standing. -/
namespace OC
open PySem PySem.Spec PyProof.Rows L2

def tyD : D → Option String
  | .non => some "NoneType"
  | .bl _ => some "bool"
  | .int _ => some "int"
  | .str _ => some "str"
  | .lst _ => some "list"
  | .tup _ => some "tuple"
  | _ => none
theorem tyD_X {K : PySem.W.Frag} {C S : Addr} {B H : Hp} {d : D} {v : V} {n : String} (h : tyD d = some n) (r : RD C S B d v) (s : Ex B H) : TyX K H v (.type n) := by
  cases r with
  | non => cases h; exact .base .non
  | bl b => cases h; exact .base (.bl b)
  | int b => cases h; exact .base (.int b)
  | str b => cases h; exact .base (.str b)
  | lst e _ => cases h; exact .base (.lst (s _ _ e))
  | tup e _ => cases h; exact .base (.tup (s _ _ e))
  | _ => cases h
section
variable {M : Mo} {g : G} {Z : Sc} {e a b tg it : Expr} {es ts : List Expr} {r r1 r2 : Rho} {x y z d : D} {xs ds : List D} {pos : Pos} {k : Nat} {rest body : List Stmt} {O O' : Out}
theorem clIsi {n m : String} {q : Bool} (h : tyD x = some n) (e : kitB n m = some q) : ClD M g Z (.builtin "isinstance") [x, .ty m] (.bl q) := fun X ok B H vs s sr rs Q k => by
  cases rs with
  | cons ra rr => cases rr with
    | cons rb rr => cases rr with
      | nil =>
        cases rb
        exact ⟨_, call_isi, _, _, _, _, q, rfl, .ty m, tyD_X h ra s, kit_ty e, k _ B H (Fr.rfl' s sr) (.bl _)⟩
theorem clIsi2 {n m m' : String} {q q' : Bool} (h : tyD x = some n) (e : kitB n m = some q) (e' : kitB n m' = some q') : ClD M g Z (.builtin "isinstance") [x, .tup [.ty m, .ty m']] (.bl (q || q')) := fun X ok B H vs s sr rs Q k => by
  cases rs with
  | cons ra rr => cases rr with
    | cons rb rr => cases rr with
      | nil =>
        cases rb with
        | tup h1 k1 => cases k1 with
          | cons c1 k2 => cases k2 with
            | cons c2 k3 => cases k3 with
              | nil =>
                cases c1; cases c2
                refine ⟨_, call_isiT, _, _, _, _, [.type m, .type m'], q || q', rfl, s _ _ h1, .cons (.ty m) (.cons (.ty m') .nil), tyD_X h ra s, ?_, k _ B H (Fr.rfl' s sr) (.bl _)⟩
                cases q with
                | true => exact kitAny_cons (kit_ty e) (fun z => nomatch z) fun _ => rfl
                | false =>
                  refine kitAny_cons (kit_ty e) (fun _ => ?_) fun z => nomatch z
                  cases q' with
                  | true => exact kitAny_cons (kit_ty e') (fun z => nomatch z) fun _ => rfl
                  | false => exact kitAny_cons (kit_ty e') (fun _ => kitAny_nil) fun z => nomatch z
theorem E_bty {nm : Str} {n : String} (hm : M.mg nm = none) (hv : bootBuiltins nm = some (.type n) := by decide +kernel) (hg : GlS g nm := by rfl) (hn : nm ≠ "__name__" := by decide) (hd : (nm == ("__debug__" : Str)) = false := by decide) : E M g Z (.Name nm pos) r (.ty n) := fun X ok B0 H0 B H σ R Q q =>
  ⟨_, pe_bltn (v := .ty n) (ok.gl hg) (by rw [ok.mg]; exact hm) hv rfl hn hd, q _ _ B H rfl (Fr.rfl' R.sB R.src) (.ty n)⟩
theorem clRange2 (i j : Int) : ClD M g Z (.type "range") [.int i, .int j] (.rng i j) := fun X ok B H vs s sr rs Q k => by
  cases rs with
  | cons ra rr => cases rr with
    | cons rb rr => cases rr with
      | nil =>
        cases ra; cases rb
        exact ⟨_, cr_range2, i, j, rfl, fun p hp => k _ _ _ ((Fr.rfl' s sr).add sr hp) (.rng upd_same)⟩
theorem op_notin_rng {X : Cx} : OpR X (compareOp .NotIn) (fun x y H Q => ∃ i a lo hi, x = V.int i ∧ y = V.ref a ∧ H a = some (.rng lo hi) ∧ Q (.bl (!decide (lo ≤ i ∧ i < hi))) H) := by
  intro pins s σ H x y v u Q I rx ry h
  obtain ⟨i, a, lo, hi, rfl, rfl, ha, q⟩ := h
  obtain ⟨k, rfl⟩ := rx
  obtain rfl : u = Value.ref a := ry
  obtain ⟨t1, t2, t3, ho⟩ := I.hok a _ ha
  show wpAny _ _ (do return Value.bool (!(← contains (Value.ref a) (Value.int i k)))) _ _ s
  refine wpAny_bind (wpAny_contains_slot (T := "range") ⟨_, ho, rfl⟩ F.slot_range_contains (call_meets F.slot_range_contains ⟨_, ho, rfl⟩ F.entry_range_contains (F.args_range_contains_2 _ _) (q_contains a lo hi i t1 t2 t3 k)
    ⟨ho, wpAny_truthy_bool (wpAny_pure ⟨.bl _, H, I, rfl, ?_⟩)⟩))
  rw [place1]; exact q
theorem inRng (i lo hi : Int) : OpD M g Z (compareOp .In) (.int i) (.rng lo hi) (.bl (decide (lo ≤ i ∧ i < hi))) := fun X ok B H v u s sr r1 r2 Q q => by
  cases r1
  cases r2 with
  | rng h1 => exact ⟨_, op_in_rng, i, _, lo, hi, rfl, rfl, s _ _ h1, q _ B H (Fr.rfl' s sr) (.bl _)⟩
theorem notInRng (i lo hi : Int) : OpD M g Z (compareOp .NotIn) (.int i) (.rng lo hi) (.bl (!decide (lo ≤ i ∧ i < hi))) := fun X ok B H v u s sr r1 r2 Q q => by
  cases r1
  cases r2 with
  | rng h1 => exact ⟨_, op_notin_rng, i, _, lo, hi, rfl, rfl, s _ _ h1, q _ B H (Fr.rfl' s sr) (.bl _)⟩
theorem inS (c : Nat) (z : Str) : OpD M g Z (compareOp .In) (.str ⟨#[c]⟩) (.str z) (.bl (decide (c ∈ z.cps.toList))) := fun X ok B H v u s sr r1 r2 Q q => by
  cases r1; cases r2
  exact ⟨_, op_in_sign, c, z, rfl, rfl, q _ B H (Fr.rfl' s sr) (.bl _)⟩
theorem notInS (c : Nat) (z : Str) : OpD M g Z (compareOp .NotIn) (.str ⟨#[c]⟩) (.str z) (.bl (!decide (c ∈ z.cps.toList))) := fun X ok B H v u s sr r1 r2 Q q => by
  cases r1; cases r2
  exact ⟨_, op_notIn_sign, c, z, rfl, rfl, q _ B H (Fr.rfl' s sr) (.bl _)⟩
theorem IT_str {t : Str} (he : E M g Z it r (.str t)) : IT M g Z tg it r (t.cps.toList.map fun c => D.str ⟨#[c]⟩) := fun X ok B0 H0 B H σ R Q q => by
  refine ⟨_, pi_str pe_w, ?_⟩
  refine he X ok B0 H0 B H σ R _ fun x v B1 H1 px f1 r1 => ?_
  subst px; cases r1
  refine ⟨t, rfl, q _ (Its t) B1 H1 rfl f1 fun B' H' fb fs fr i => ⟨fun d hd => ?_, ofLe fun hl => ?_⟩⟩
  · rw [List.getElem?_map, Array.getElem?_toList] at hd
    cases e0 : t.cps[i]? with
    | none => rw [e0] at hd; cases hd
    | some c =>
      rw [e0] at hd
      simp only [Option.map_some, Option.some.injEq] at hd
      subst hd
      refine ⟨(Array.getElem?_eq_some_iff.mp e0).1, fun x H'' y => ⟨B', ?_, ?_⟩⟩
      · obtain ⟨e2, _⟩ := y; subst e2; exact Fr.rfl' fs fr
      · obtain ⟨_, c', e3, e4⟩ := y
        rw [e0] at e3; cases e3
        subst e4; exact .str _
  · show t.cps.size ≤ i
    rw [List.length_map, Array.length_toList] at hl; exact hl
/-- e.own_people -/
theorem E_people {ps : List Per} (h : E M g Z e r (.std ps)) (c : Cls M.K M.C) (na : NoAttr M.K M.C "own_people") (hb : ∀ env, attributeBase e "own_people" env (eval e env) = eval e env := by intro _; rfl) : E M g Z (.Attribute e "own_people" pos) r (.pdic ps) := fun X ok B0 H0 B H σ R Q q => by
  refine ⟨_, pe_fld pe_w (hb _), ?_⟩
  refine h X ok B0 H0 B H σ R _ fun x v B1 H1 px f1 r1 => ?_
  subst px
  cases r1 with
  | std h1 h2 h3 => exact ⟨_, M.C, _, _, _, rfl, f1.s _ _ h1, by rw [ok.K]; exact c, by rw [ok.K]; exact na, rfl, q _ _ B1 H1 rfl f1 (.pdic h2 h3)⟩
theorem KvP.strs {C S : Addr} {H : Hp} : ∀ {ps : List Per} {kvs : List (Key × V)}, KvP H ps kvs → RDs C S H (ps.map fun p => D.str p.nm) (kvs.map fun kv => kV kv.1)
  | _, _, .nil => .nil
  | _, _, .cons ⟨e, _⟩ b => .cons (by dsimp only; rw [e]; exact .str _) (KvP.strs b)
theorem KvP.pers {C S : Addr} {H : Hp} : ∀ {ps : List Per} {kvs : List (Key × V)}, KvP H ps kvs → RDs C S H (ps.map perD) (kvs.map (·.2))
  | _, _, .nil => .nil
  | _, _, .cons ⟨_, t, e2, e3⟩ b => .cons (by dsimp only; rw [e2]; exact perRD e3) (KvP.pers b)
theorem clListP {ps : List Per} : ClD M g Z (.type "list") [.pdic ps] (.lst (ps.map fun p => D.str p.nm)) := fun X ok B H vs s sr rs Q q => by
  cases rs with
  | cons ra rr => cases rr with
    | nil => cases ra with
      | pdic h1 k1 => exact ⟨_, call_list_dK ok.calm, _, _, rfl, s _ _ h1, fun l hl => q _ _ _ ((Fr.rfl' s sr).add sr hl) (.lst upd_same (k1.strs.mono (Ex.new (s.n hl))))⟩
end
section
variable {X : Cx} {e : Expr} {te : TE} {p apos cpos pos : Pos}
def tLV (te : TE) : TE := fun σ H Q => te σ H fun x H1 => ∃ d kvs, x = .ref d ∧ H1 d = some (.dK kvs) ∧ ∀ q, H1 q = none → Q (.ref q) (upd H1 q (.lst (kvs.map (·.2))))
theorem pe_listVals (hc : X.calm = true) (he : PE X e te) (hg : Gl X "list") (hm : X.mg "list" = none) (hv : bootBuiltins "list" = some (.type "list")) (hbase : attributeBase e "values" X.env (eval e X.env) = eval e X.env) (hline : (apos.endLine == cpos.line) = true) : PE X (.Call (.Name "list" p) [.Call (.Attribute e "values" apos) [] [] cpos] [] pos) (tLV te) := by
  have one : starEach [.Call (.Attribute e "values" apos) [] [] cpos] X.env = (false, eval (.Call (.Attribute e "values" apos) [] [] cpos) X.env) :: starEach [] X.env := rfl
  refine ⟨fun pins s σ H Q I hq => wpAny_Call_Name_kw (ld_blt I hg hm hv (PyProof.Rows.callWith_type1 ?_ one rfl))⟩
  rw [one]
  show wpAny _ _ (spliced ((false, eval (.Call (.Attribute e "values" apos) [] [] cpos) X.env) :: backTo pos (starEach [] X.env))) _ _ s
  refine Calls.spliced_cons (wpAny_Call_method (T := "dict") (id := "dict.values") hbase rfl hline F.plainAttrs_dict F.slot_dict_values F.type_dict_values (thn (he.run pins s σ H _ I hq) fun u s1 ⟨x, H1, J, rx, d, kvs, ex, hd, q⟩ => ?_))
  subst ex
  cases (show u = Value.ref d from rx)
  obtain ⟨hz, lo, vs, kv, hdo⟩ := J.hok d _ hd
  obtain ⟨ep, hat⟩ := hdo.dictAt
  have lk : kvs.length = vs.length := Paired.length kv
  have J2 : Inv X pins σ H1 { s1 with heap := s1.heap.push { cls := .type "dict_values", data := .fields #[.ref d] } } := J.kept (t' := s1.toks) fun b ob z => Heap.get?_push_of_some _ z
  refine ⟨hdo.typeIs, hdo.mapOf.noDict, ?_⟩
  show wpAny _ _ (callWith cpos (.builtin "dict.values") [.ref d] [] []) _ X.xe s1
  refine method_meetsIn F.slot_dict_values F.entry_dict_values rfl (PySem.evalArgs_none ⟨rfl, hdo.typeIs, F.args_dict_values_1 _, _, meets_dict_values (mixKind X.prog X.w) d lo, ⟨vs, hdo⟩, Calls.spliced_nil ?_⟩)
  refine PySem.W.kdl_call (PySem.W.kdl_values (knd := mixKind X.prog X.w) (kvs := vs) (ep := ep)) (J.ok.hd hc) ⟨⟨_, Heap.get?_push_size _ rfl, rfl, rfl⟩, hat.push _⟩ (by omega) fun h' tk acc' c' hkeep hS hacc => ?_
  refine ⟨.ref _, _, J2.laid hkeep (Nat.le_refl _) (show ObjOk X.prog X.w _ _ _ (.lst (kvs.map (·.2))) from ⟨by rw [List.length_map]; exact hz, acc'.toList, c', ?_, ?_⟩), rfl, q _ (J2.hok.fresh (Nat.le_refl _))⟩
  · have el : acc'.toList.length = acc'.size := by simp
    refine vals_of_at (by rw [List.length_map, el, hacc.1, lk]) fun j x w e1 e2 => ?_
    obtain ⟨k, e3⟩ := hacc.2 j w (by rw [← Array.getElem?_toList]; exact e2)
    obtain ⟨y, e4, e5⟩ := KV.at' kv e3
    rw [List.getElem?_map, e4] at e1
    cases e1; exact e5
  · rw [Array.toArray_toList]; exact hS
end
section
variable {M : Mo} {g : G} {Z : Sc} {e a b tg it : Expr} {es ts : List Expr} {r r1 r2 : Rho} {x y z d : D} {xs ds : List D} {pos : Pos} {k : Nat} {rest body : List Stmt} {O O' : Out}
theorem E_listVals {ps : List Per} {p apos cpos : Pos} (h : E M g Z e r (.pdic ps)) (hm : M.mg "list" = none) (hg : GlS g "list" := by rfl) (hb : ∀ env, attributeBase e "values" env (eval e env) = eval e env := by intro _; rfl) (hline : (apos.endLine == cpos.line) = true := by rfl) :
    E M g Z (.Call (.Name "list" p) [.Call (.Attribute e "values" apos) [] [] cpos] [] pos) r (.lst (ps.map perD)) := fun X ok B0 H0 B H σ R Q q => by
  refine ⟨_, pe_listVals ok.calm pe_w (ok.gl hg) (by rw [ok.mg]; exact hm) (by decide +kernel) (hb _) hline, ?_⟩
  refine h X ok B0 H0 B H σ R _ fun x v B1 H1 px f1 r1 => ?_
  subst px
  cases r1 with
  | pdic h1 k1 => exact ⟨_, _, rfl, f1.s _ _ h1, fun l hl => q _ _ _ _ rfl (f1.add R.src hl) (.lst upd_same (k1.pers.mono (Ex.new (f1.s.n hl))))⟩
end
end OC
set_option maxHeartbeats 4000000
/-! What the head tells; functions by their places in it; making a standing. -/
namespace OC
open PySem PySem.Spec PyProof.Rows L2

structure Hd (M : Mo) : Prop where
  c : He.SaysD faAll fnAll M.K
  ex : ∃ h, M.K.In h ∧ h.Ns mainGlobals M.mg
  C : M.C = He.ga M.K "Standing"
section
variable {M : Mo} (h : Hd M)
include h
theorem Hd.free (i : Nat) {x : Str} (e : faAll[i]? = some (.free x) := by rfl) : M.mg x = none := by
  obtain ⟨h0, X, G⟩ := h.ex
  exact He.free_ok X G (h.c.fact i e)
theorem Hd.glo (i : Nat) {x : Str} (e : faAll[i]? = some (.glo x) := by rfl) : M.mg x = some (.ref (He.ga M.K x)) := by
  obtain ⟨h0, X, G⟩ := h.ex
  exact He.glo_ok X G (h.c.fact i e)
theorem Hd.str (i : Nat) {x z : Str} (e : faAll[i]? = some (.str x z) := by rfl) : ∃ t, M.mg x = some (.str z t) := by
  obtain ⟨h0, X, G⟩ := h.ex
  exact He.str_ok X G (h.c.fact i e)
theorem Hd.cls : Cls M.K M.C := by rw [h.C]; exact He.cls_ok (h.c.fact 124 rfl)
theorem Hd.noat : NoAttr M.K M.C "own_people" := by rw [h.C]; exact He.noat_ok (h.c.fact 125 rfl)
theorem Hd.mkr : Mk M.K M.C (He.ma M.K (He.ga M.K "Standing") "__init__") := by rw [h.C]; exact He.mkr_ok (h.c.fact 126 rfl)
theorem Hd.meth (i : Nat) {m : Str} (e : faAll[i]? = some (.meth "Standing" m) := by rfl) : Meth M.K M.C m (He.ma M.K (He.ga M.K "Standing") m) := by rw [h.C]; exact He.meth_ok (h.c.fact i e)
omit h
abbrev Bnd (d : He.DefD) (ps : List Str) : Prop := ∀ (kV doc pm : Value) (an : Option Addr) (cdv ct : Value) (us : List Value), us.length = ps.length → bindArgs (PySem.W.fnOf d.name d.qual d.params d.body d.scope .none kV doc pm an cdv ct) ⟨us, []⟩ = pure (ps.zip us)
abbrev Bod (M : Mo) (d : He.DefD) (N : List Str) (k : Nat) (on : Bool) (R : Rel) : Prop := ∀ Z ds P, Z.on = on → R ds P → SS M ⟨N, d.scope, fun _ => true, k⟩ Z d.body (rho0 N ds) ⟨fun _ => P .non, P, fun _ => False, fun _ => False⟩
theorem Hd.fn (h : Hd M) {d : He.DefD} {N ps : List Str} {k : Nat} {on : Bool} {R : Rel} (i : Nat) (hd : fnAll[i]? = some d) (S : FnScope N ps d.scope) (hv : d.dfl = []) (hw : d.kwd = []) (hb : Bnd d ps) (len : ∀ ds P, R ds P → ds.length = ps.length) (body : Bod M d N k on R) :
    ∃ fd, FnOk M.P M.w M.K M.mg M.base CX0 (k + 1) (He.fAd M.K d.at_) fd ps (spD M.C on R) ∧ PySem.W.keepIn M.K (.ref (He.fAd M.K d.at_)) = true ∧ Binds M.K fd ps [] ∧ PySem.W.fnIn M.K (He.fAd M.K d.at_) = true := by
  obtain ⟨fd, F⟩ := h.c.def_ i hd
  have e1 : d.dvs M.K = [] := by unfold He.DefD.dvs; rw [hv]; rfl
  have e2 : d.kws M.K = [] := by unfold He.DefD.kws; rw [hw]; rfl
  rw [e1, e2] at F
  refine ⟨fd, fn_ok F S len body, F.kp, FunD.bindsN F hb, ?_⟩
  obtain ⟨oc, od, dV, kV, doc, pm, an, cdv, ct, osl, _, lk, _⟩ := F.ex
  unfold PySem.W.fnIn; rw [lk]
theorem Hd.fnG (h : Hd M) {nm : Str} {d : He.DefD} {N ps : List Str} {k : Nat} {on : Bool} {R : Rel} (i j : Nat) (S : FnScope N ps d.scope) (hb : Bnd d ps) (len : ∀ ds P, R ds P → ds.length = ps.length) (body : Bod M d N k on R)
    (hd : fnAll[i]? = some d := by rfl) (hj : faAll[j]? = some (.glo nm) := by rfl) (hat : d.at_ = (nm, none) := by rfl) (hv : d.dfl = [] := by rfl) (hw : d.kwd = [] := by rfl) : FnG M (k + 1) nm on R := by
  obtain ⟨fd, F, kp, b, _⟩ := h.fn i hd S hv hw hb len body
  rw [hat] at F kp
  exact ⟨_, fd, ps, F, h.glo j hj, kp, b⟩
theorem Hd.fnM (h : Hd M) {m : Str} {d : He.DefD} {N ps : List Str} {k : Nat} {R : Rel} (i j : Nat) (S : FnScope N ps d.scope) (hb : Bnd d ps) (len : ∀ ds P, R ds P → ds.length = ps.length) (body : Bod M d N k false R)
    (hd : fnAll[i]? = some d := by rfl) (hj : faAll[j]? = some (.meth "Standing" m) := by rfl) (hat : d.at_ = (("Standing" : Str), some m) := by rfl) (hv : d.dfl = [] := by rfl) (hw : d.kwd = [] := by rfl) : FnM M (k + 1) m R := by
  obtain ⟨fd, F, kp, b, fi⟩ := h.fn i hd S hv hw hb len body
  rw [hat] at F kp fi
  exact ⟨_, fd, ps, F, h.meth j hj, b, fi⟩
end
end OC
set_option maxHeartbeats 4000000
/-! The defs' slots and scopes (printed by gen_sc.py). -/
namespace OC
open PySem PySem.Spec PyProof.Rows L2
abbrev N_is_integer : List Str := ["value"]
theorem fs_is_integer : FnScope N_is_integer ["value"] d_is_integer.scope := ⟨rfl, rfl, rfl, by decide +kernel, rfl, by decide +kernel, by decide +kernel⟩
theorem bn_is_integer : Bnd d_is_integer ["value"] := fun _ _ _ _ _ _ us hl => match us, hl with | [_], _ => rfl
abbrev N_is_word : List Str := ["value", "sign"]
theorem fs_is_word : FnScope N_is_word ["value"] d_is_word.scope := ⟨rfl, rfl, rfl, by decide +kernel, rfl, by decide +kernel, by decide +kernel⟩
theorem bn_is_word : Bnd d_is_word ["value"] := fun _ _ _ _ _ _ us hl => match us, hl with | [_], _ => rfl
abbrev N_is_row_words : List Str := ["value", "many"]
theorem fs_is_row_words : FnScope N_is_row_words ["value", "many"] d_is_row_words.scope := ⟨rfl, rfl, rfl, by decide +kernel, rfl, by decide +kernel, by decide +kernel⟩
theorem bn_is_row_words : Bnd d_is_row_words ["value", "many"] := fun _ _ _ _ _ _ us hl => match us, hl with | [_, _], _ => rfl
abbrev N_wrong_person : List Str := ["value", "names"]
theorem fs_wrong_person : FnScope N_wrong_person ["value", "names"] d_wrong_person.scope := ⟨rfl, rfl, rfl, by decide +kernel, rfl, by decide +kernel, by decide +kernel⟩
theorem bn_wrong_person : Bnd d_wrong_person ["value", "names"] := fun _ _ _ _ _ _ us hl => match us, hl with | [_, _], _ => rfl
abbrev N_wrong_people : List Str := ["value", "names", "k", "person", "path"]
theorem fs_wrong_people : FnScope N_wrong_people ["value"] d_wrong_people.scope := ⟨rfl, rfl, rfl, by decide +kernel, rfl, by decide +kernel, by decide +kernel⟩
theorem bn_wrong_people : Bnd d_wrong_people ["value"] := fun _ _ _ _ _ _ us hl => match us, hl with | [_], _ => rfl
abbrev N_S_init : List Str := ["self", "people", "path", "person"]
theorem fs_S_init : FnScope N_S_init ["self", "people"] d_S_init.scope := ⟨rfl, rfl, rfl, by decide +kernel, rfl, by decide +kernel, by decide +kernel⟩
theorem bn_S_init : Bnd d_S_init ["self", "people"] := fun _ _ _ _ _ _ us hl => match us, hl with | [_, _], _ => rfl
abbrev N_S_people : List Str := ["self"]
theorem fs_S_people : FnScope N_S_people ["self"] d_S_people.scope := ⟨rfl, rfl, rfl, by decide +kernel, rfl, by decide +kernel, by decide +kernel⟩
theorem bn_S_people : Bnd d_S_people ["self"] := fun _ _ _ _ _ _ us hl => match us, hl with | [_], _ => rfl
abbrev N_S_names : List Str := ["self"]
theorem fs_S_names : FnScope N_S_names ["self"] d_S_names.scope := ⟨rfl, rfl, rfl, by decide +kernel, rfl, by decide +kernel, by decide +kernel⟩
theorem bn_S_names : Bnd d_S_names ["self"] := fun _ _ _ _ _ _ us hl => match us, hl with | [_], _ => rfl
abbrev N_S_has_name : List Str := ["self", "value"]
theorem fs_S_has_name : FnScope N_S_has_name ["self", "value"] d_S_has_name.scope := ⟨rfl, rfl, rfl, by decide +kernel, rfl, by decide +kernel, by decide +kernel⟩
theorem bn_S_has_name : Bnd d_S_has_name ["self", "value"] := fun _ _ _ _ _ _ us hl => match us, hl with | [_, _], _ => rfl
abbrev N_S_person : List Str := ["self", "name"]
theorem fs_S_person : FnScope N_S_person ["self", "name"] d_S_person.scope := ⟨rfl, rfl, rfl, by decide +kernel, rfl, by decide +kernel, by decide +kernel⟩
theorem bn_S_person : Bnd d_S_person ["self", "name"] := fun _ _ _ _ _ _ us hl => match us, hl with | [_, _], _ => rfl
abbrev N_S_place : List Str := ["self", "name"]
theorem fs_S_place : FnScope N_S_place ["self", "name"] d_S_place.scope := ⟨rfl, rfl, rfl, by decide +kernel, rfl, by decide +kernel, by decide +kernel⟩
theorem bn_S_place : Bnd d_S_place ["self", "name"] := fun _ _ _ _ _ _ us hl => match us, hl with | [_, _], _ => rfl
abbrev N_S_voice : List Str := ["self", "name"]
theorem fs_S_voice : FnScope N_S_voice ["self", "name"] d_S_voice.scope := ⟨rfl, rfl, rfl, by decide +kernel, rfl, by decide +kernel, by decide +kernel⟩
theorem bn_S_voice : Bnd d_S_voice ["self", "name"] := fun _ _ _ _ _ _ us hl => match us, hl with | [_, _], _ => rfl
abbrev N_S_places : List Str := ["self", "name", "place", "voice"]
theorem fs_S_places : FnScope N_S_places ["self"] d_S_places.scope := ⟨rfl, rfl, rfl, by decide +kernel, rfl, by decide +kernel, by decide +kernel⟩
theorem bn_S_places : Bnd d_S_places ["self"] := fun _ _ _ _ _ _ us hl => match us, hl with | [_], _ => rfl
abbrev N_S_at : List Str := ["self", "place", "name", "here", "voice"]
theorem fs_S_at : FnScope N_S_at ["self", "place"] d_S_at.scope := ⟨rfl, rfl, rfl, by decide +kernel, rfl, by decide +kernel, by decide +kernel⟩
theorem bn_S_at : Bnd d_S_at ["self", "place"] := fun _ _ _ _ _ _ us hl => match us, hl with | [_, _], _ => rfl
abbrev N_S_line : List Str := ["self"]
theorem fs_S_line : FnScope N_S_line ["self"] d_S_line.scope := ⟨rfl, rfl, rfl, by decide +kernel, rfl, by decide +kernel, by decide +kernel⟩
theorem bn_S_line : Bnd d_S_line ["self"] := fun _ _ _ _ _ _ us hl => match us, hl with | [_], _ => rfl
abbrev N_S_voices : List Str := ["self", "name", "place", "voice"]
theorem fs_S_voices : FnScope N_S_voices ["self"] d_S_voices.scope := ⟨rfl, rfl, rfl, by decide +kernel, rfl, by decide +kernel, by decide +kernel⟩
theorem bn_S_voices : Bnd d_S_voices ["self"] := fun _ _ _ _ _ _ us hl => match us, hl with | [_], _ => rfl
abbrev N_S_is_together : List Str := ["self"]
theorem fs_S_is_together : FnScope N_S_is_together ["self"] d_S_is_together.scope := ⟨rfl, rfl, rfl, by decide +kernel, rfl, by decide +kernel, by decide +kernel⟩
theorem bn_S_is_together : Bnd d_S_is_together ["self"] := fun _ _ _ _ _ _ us hl => match us, hl with | [_], _ => rfl
abbrev N_are_like : List Str := ["one", "other", "told", "standing", "name", "place", "voice"]
theorem fs_are_like : FnScope N_are_like ["one", "other"] d_are_like.scope := ⟨rfl, rfl, rfl, by decide +kernel, rfl, by decide +kernel, by decide +kernel⟩
theorem bn_are_like : Bnd d_are_like ["one", "other"] := fun _ _ _ _ _ _ us hl => match us, hl with | [_, _], _ => rfl
abbrev N_is_odd_crowd : List Str := ["standing", "place", "name"]
theorem fs_is_odd_crowd : FnScope N_is_odd_crowd ["standing", "place"] d_is_odd_crowd.scope := ⟨rfl, rfl, rfl, by decide +kernel, rfl, by decide +kernel, by decide +kernel⟩
theorem bn_is_odd_crowd : Bnd d_is_odd_crowd ["standing", "place"] := fun _ _ _ _ _ _ us hl => match us, hl with | [_, _], _ => rfl
abbrev N_is_loud : List Str := ["standing", "name"]
theorem fs_is_loud : FnScope N_is_loud ["standing", "name"] d_is_loud.scope := ⟨rfl, rfl, rfl, by decide +kernel, rfl, by decide +kernel, by decide +kernel⟩
theorem bn_is_loud : Bnd d_is_loud ["standing", "name"] := fun _ _ _ _ _ _ us hl => match us, hl with | [_, _], _ => rfl
abbrev N_can_call : List Str := ["standing", "name"]
theorem fs_can_call : FnScope N_can_call ["standing", "name"] d_can_call.scope := ⟨rfl, rfl, rfl, by decide +kernel, rfl, by decide +kernel, by decide +kernel⟩
theorem bn_can_call : Bnd d_can_call ["standing", "name"] := fun _ _ _ _ _ _ us hl => match us, hl with | [_, _], _ => rfl
abbrev N_drawn_in : List Str := ["standing", "place", "times", "people", "name", "here", "voice", "there"]
theorem fs_drawn_in : FnScope N_drawn_in ["standing", "place", "times"] d_drawn_in.scope := ⟨rfl, rfl, rfl, by decide +kernel, rfl, by decide +kernel, by decide +kernel⟩
theorem bn_drawn_in : Bnd d_drawn_in ["standing", "place", "times"] := fun _ _ _ _ _ _ us hl => match us, hl with | [_, _, _], _ => rfl
abbrev N_called : List Str := ["standing", "name"]
theorem fs_called : FnScope N_called ["standing", "name"] d_called.scope := ⟨rfl, rfl, rfl, by decide +kernel, rfl, by decide +kernel, by decide +kernel⟩
theorem bn_called : Bnd d_called ["standing", "name"] := fun _ _ _ _ _ _ us hl => match us, hl with | [_, _], _ => rfl
abbrev N_callers : List Str := ["standing", "names", "place", "name"]
theorem fs_callers : FnScope N_callers ["standing"] d_callers.scope := ⟨rfl, rfl, rfl, by decide +kernel, rfl, by decide +kernel, by decide +kernel⟩
theorem bn_callers : Bnd d_callers ["standing"] := fun _ _ _ _ _ _ us hl => match us, hl with | [_], _ => rfl
abbrev N_nearest : List Str := ["standing", "place", "other"]
theorem fs_nearest : FnScope N_nearest ["standing", "place"] d_nearest.scope := ⟨rfl, rfl, rfl, by decide +kernel, rfl, by decide +kernel, by decide +kernel⟩
theorem bn_nearest : Bnd d_nearest ["standing", "place"] := fun _ _ _ _ _ _ us hl => match us, hl with | [_, _], _ => rfl
abbrev N_rounds_of : List Str := ["standing", "name", "most", "times", "here", "place", "many"]
theorem fs_rounds_of : FnScope N_rounds_of ["standing", "name", "most"] d_rounds_of.scope := ⟨rfl, rfl, rfl, by decide +kernel, rfl, by decide +kernel, by decide +kernel⟩
theorem bn_rounds_of : Bnd d_rounds_of ["standing", "name", "most"] := fun _ _ _ _ _ _ us hl => match us, hl with | [_, _, _], _ => rfl
abbrev N_voices_at : List Str := ["standing", "place", "name", "spot", "voice"]
theorem fs_voices_at : FnScope N_voices_at ["standing", "place"] d_voices_at.scope := ⟨rfl, rfl, rfl, by decide +kernel, rfl, by decide +kernel, by decide +kernel⟩
theorem bn_voices_at : Bnd d_voices_at ["standing", "place"] := fun _ _ _ _ _ _ us hl => match us, hl with | [_, _], _ => rfl
abbrev N_gaps : List Str := ["standing", "found", "many", "places", "left", "right"]
theorem fs_gaps : FnScope N_gaps ["standing"] d_gaps.scope := ⟨rfl, rfl, rfl, by decide +kernel, rfl, by decide +kernel, by decide +kernel⟩
theorem bn_gaps : Bnd d_gaps ["standing"] := fun _ _ _ _ _ _ us hl => match us, hl with | [_], _ => rfl
abbrev N_odd_sum : List Str := ["standing", "left", "width", "kind"]
theorem fs_odd_sum : FnScope N_odd_sum ["standing"] d_odd_sum.scope := ⟨rfl, rfl, rfl, by decide +kernel, rfl, by decide +kernel, by decide +kernel⟩
theorem bn_odd_sum : Bnd d_odd_sum ["standing"] := fun _ _ _ _ _ _ us hl => match us, hl with | [_], _ => rfl
abbrev N_even_sum : List Str := ["standing", "left", "width", "kind"]
theorem fs_even_sum : FnScope N_even_sum ["standing"] d_even_sum.scope := ⟨rfl, rfl, rfl, by decide +kernel, rfl, by decide +kernel, by decide +kernel⟩
theorem bn_even_sum : Bnd d_even_sum ["standing"] := fun _ _ _ _ _ _ us hl => match us, hl with | [_], _ => rfl
abbrev N_corners : List Str := ["standing", "height", "found", "left", "width", "kind", "place"]
theorem fs_corners : FnScope N_corners ["standing"] d_corners.scope := ⟨rfl, rfl, rfl, by decide +kernel, rfl, by decide +kernel, by decide +kernel⟩
theorem bn_corners : Bnd d_corners ["standing"] := fun _ _ _ _ _ _ us hl => match us, hl with | [_], _ => rfl
abbrev N_greatest_height : List Str := ["standing", "found", "place", "height"]
theorem fs_greatest_height : FnScope N_greatest_height ["standing"] d_greatest_height.scope := ⟨rfl, rfl, rfl, by decide +kernel, rfl, by decide +kernel, by decide +kernel⟩
theorem bn_greatest_height : Bnd d_greatest_height ["standing"] := fun _ _ _ _ _ _ us hl => match us, hl with | [_], _ => rfl
abbrev N_order_break : List Str := ["one", "other", "name", "far", "ahead"]
theorem fs_order_break : FnScope N_order_break ["one", "other"] d_order_break.scope := ⟨rfl, rfl, rfl, by decide +kernel, rfl, by decide +kernel, by decide +kernel⟩
theorem bn_order_break : Bnd d_order_break ["one", "other"] := fun _ _ _ _ _ _ us hl => match us, hl with | [_, _], _ => rfl
abbrev N_first_place : List Str := ["standing"]
theorem fs_first_place : FnScope N_first_place ["standing"] d_first_place.scope := ⟨rfl, rfl, rfl, by decide +kernel, rfl, by decide +kernel, by decide +kernel⟩
theorem bn_first_place : Bnd d_first_place ["standing"] := fun _ _ _ _ _ _ us hl => match us, hl with | [_], _ => rfl
abbrev N_kept_widths : List Str := ["one", "other", "places", "place", "left", "right"]
theorem fs_kept_widths : FnScope N_kept_widths ["one", "other"] d_kept_widths.scope := ⟨rfl, rfl, rfl, by decide +kernel, rfl, by decide +kernel, by decide +kernel⟩
theorem bn_kept_widths : Bnd d_kept_widths ["one", "other"] := fun _ _ _ _ _ _ us hl => match us, hl with | [_, _], _ => rfl
abbrev N_need_like : List Str := ["one", "other"]
theorem fs_need_like : FnScope N_need_like ["one", "other"] d_need_like.scope := ⟨rfl, rfl, rfl, by decide +kernel, rfl, by decide +kernel, by decide +kernel⟩
theorem bn_need_like : Bnd d_need_like ["one", "other"] := fun _ _ _ _ _ _ us hl => match us, hl with | [_, _], _ => rfl
abbrev N_lost_sums : List Str := ["one", "other", "odd", "even", "left", "width", "kind", "kept"]
theorem fs_lost_sums : FnScope N_lost_sums ["one", "other"] d_lost_sums.scope := ⟨rfl, rfl, rfl, by decide +kernel, rfl, by decide +kernel, by decide +kernel⟩
theorem bn_lost_sums : Bnd d_lost_sums ["one", "other"] := fun _ _ _ _ _ _ us hl => match us, hl with | [_, _], _ => rfl
abbrev N_moved_by : List Str := ["one", "other"]
theorem fs_moved_by : FnScope N_moved_by ["one", "other"] d_moved_by.scope := ⟨rfl, rfl, rfl, by decide +kernel, rfl, by decide +kernel, by decide +kernel⟩
theorem bn_moved_by : Bnd d_moved_by ["one", "other"] := fun _ _ _ _ _ _ us hl => match us, hl with | [_, _], _ => rfl
abbrev N_first_fault : List Str := ["one", "other", "broken"]
theorem fs_first_fault : FnScope N_first_fault ["one", "other"] d_first_fault.scope := ⟨rfl, rfl, rfl, by decide +kernel, rfl, by decide +kernel, by decide +kernel⟩
theorem bn_first_fault : Bnd d_first_fault ["one", "other"] := fun _ _ _ _ _ _ us hl => match us, hl with | [_, _], _ => rfl
abbrev N_gap_bounds : List Str := ["one", "other", "found", "before", "rows", "number", "left", "width", "kind", "place", "high", "kept", "near", "lost"]
theorem fs_gap_bounds : FnScope N_gap_bounds ["one", "other"] d_gap_bounds.scope := ⟨rfl, rfl, rfl, by decide +kernel, rfl, by decide +kernel, by decide +kernel⟩
theorem bn_gap_bounds : Bnd d_gap_bounds ["one", "other"] := fun _ _ _ _ _ _ us hl => match us, hl with | [_, _], _ => rfl
abbrev N_told_bounds : List Str := ["one", "other", "odd", "even", "kept", "moved", "top"]
theorem fs_told_bounds : FnScope N_told_bounds ["one", "other"] d_told_bounds.scope := ⟨rfl, rfl, rfl, by decide +kernel, rfl, by decide +kernel, by decide +kernel⟩
theorem bn_told_bounds : Bnd d_told_bounds ["one", "other"] := fun _ _ _ _ _ _ us hl => match us, hl with | [_, _], _ => rfl
abbrev N_all_bounds : List Str := ["one", "other", "fault"]
theorem fs_all_bounds : FnScope N_all_bounds ["one", "other"] d_all_bounds.scope := ⟨rfl, rfl, rfl, by decide +kernel, rfl, by decide +kernel, by decide +kernel⟩
theorem bn_all_bounds : Bnd d_all_bounds ["one", "other"] := fun _ _ _ _ _ _ us hl => match us, hl with | [_, _], _ => rfl
abbrev N_lead_paper : List Str := ["one", "other", "fault", "bounds", "least", "most", "number", "label", "low", "high"]
theorem fs_lead_paper : FnScope N_lead_paper ["one", "other"] d_lead_paper.scope := ⟨rfl, rfl, rfl, by decide +kernel, rfl, by decide +kernel, by decide +kernel⟩
theorem bn_lead_paper : Bnd d_lead_paper ["one", "other"] := fun _ _ _ _ _ _ us hl => match us, hl with | [_, _], _ => rfl
abbrev N_leads : List Str := ["one", "other"]
theorem fs_leads : FnScope N_leads ["one", "other"] d_leads.scope := ⟨rfl, rfl, rfl, by decide +kernel, rfl, by decide +kernel, by decide +kernel⟩
theorem bn_leads : Bnd d_leads ["one", "other"] := fun _ _ _ _ _ _ us hl => match us, hl with | [_, _], _ => rfl
abbrev N_first_calls : List Str := ["one", "other", "paper", "label", "low", "high"]
theorem fs_first_calls : FnScope N_first_calls ["one", "other"] d_first_calls.scope := ⟨rfl, rfl, rfl, by decide +kernel, rfl, by decide +kernel, by decide +kernel⟩
theorem bn_first_calls : Bnd d_first_calls ["one", "other"] := fun _ _ _ _ _ _ us hl => match us, hl with | [_, _], _ => rfl
abbrev N_lead_bounds : List Str := ["one", "other", "least", "most", "odd", "even"]
theorem fs_lead_bounds : FnScope N_lead_bounds ["one", "other"] d_lead_bounds.scope := ⟨rfl, rfl, rfl, by decide +kernel, rfl, by decide +kernel, by decide +kernel⟩
theorem bn_lead_bounds : Bnd d_lead_bounds ["one", "other"] := fun _ _ _ _ _ _ us hl => match us, hl with | [_, _], _ => rfl
abbrev N_keeps_all : List Str := ["bounds", "calls", "label", "low", "high"]
theorem fs_keeps_all : FnScope N_keeps_all ["bounds", "calls"] d_keeps_all.scope := ⟨rfl, rfl, rfl, by decide +kernel, rfl, by decide +kernel, by decide +kernel⟩
theorem bn_keeps_all : Bnd d_keeps_all ["bounds", "calls"] := fun _ _ _ _ _ _ us hl => match us, hl with | [_, _], _ => rfl
abbrev N_judge_lead : List Str := ["one", "other", "value", "fault"]
theorem fs_judge_lead : FnScope N_judge_lead ["one", "other", "value"] d_judge_lead.scope := ⟨rfl, rfl, rfl, by decide +kernel, rfl, by decide +kernel, by decide +kernel⟩
theorem bn_judge_lead : Bnd d_judge_lead ["one", "other", "value"] := fun _ _ _ _ _ _ us hl => match us, hl with | [_, _, _], _ => rfl
abbrev N_is_row_scripts : List Str := ["standing", "row"]
theorem fs_is_row_scripts : FnScope N_is_row_scripts ["standing", "row"] d_is_row_scripts.scope := ⟨rfl, rfl, rfl, by decide +kernel, rfl, by decide +kernel, by decide +kernel⟩
theorem bn_is_row_scripts : Bnd d_is_row_scripts ["standing", "row"] := fun _ _ _ _ _ _ us hl => match us, hl with | [_, _], _ => rfl
abbrev N_standings_along : List Str := ["standing", "script", "found", "number", "row", "times", "behind"]
theorem fs_standings_along : FnScope N_standings_along ["standing", "script"] d_standings_along.scope := ⟨rfl, rfl, rfl, by decide +kernel, rfl, by decide +kernel, by decide +kernel⟩
theorem bn_standings_along : Bnd d_standings_along ["standing", "script"] := fun _ _ _ _ _ _ us hl => match us, hl with | [_, _], _ => rfl
abbrev N_walked : List Str := ["standing", "script"]
theorem fs_walked : FnScope N_walked ["standing", "script"] d_walked.scope := ⟨rfl, rfl, rfl, by decide +kernel, rfl, by decide +kernel, by decide +kernel⟩
theorem bn_walked : Bnd d_walked ["standing", "script"] := fun _ _ _ _ _ _ us hl => match us, hl with | [_, _], _ => rfl
abbrev N_first_bad : List Str := ["standing", "value", "error"]
theorem fs_first_bad : FnScope N_first_bad ["standing", "value"] d_first_bad.scope := ⟨rfl, rfl, rfl, by decide +kernel, rfl, by decide +kernel, by decide +kernel⟩
theorem bn_first_bad : Bnd d_first_bad ["standing", "value"] := fun _ _ _ _ _ _ us hl => match us, hl with | [_, _], _ => rfl
abbrev N_calls_of : List Str := ["script", "name", "times"]
theorem fs_calls_of : FnScope N_calls_of ["script"] d_calls_of.scope := ⟨rfl, rfl, rfl, by decide +kernel, rfl, by decide +kernel, by decide +kernel⟩
theorem bn_calls_of : Bnd d_calls_of ["script"] := fun _ _ _ _ _ _ us hl => match us, hl with | [_], _ => rfl
abbrev N_fallen_leadscripts : List Str := ["pieces", "rows", "waiting", "kind", "width", "name", "left", "times", "over"]
theorem fs_fallen_leadscripts : FnScope N_fallen_leadscripts ["pieces"] d_fallen_leadscripts.scope := ⟨rfl, rfl, rfl, by decide +kernel, rfl, by decide +kernel, by decide +kernel⟩
theorem bn_fallen_leadscripts : Bnd d_fallen_leadscripts ["pieces"] := fun _ _ _ _ _ _ us hl => match us, hl with | [_], _ => rfl
abbrev N_kind_of_other : List Str := ["kind"]
theorem fs_kind_of_other : FnScope N_kind_of_other ["kind"] d_kind_of_other.scope := ⟨rfl, rfl, rfl, by decide +kernel, rfl, by decide +kernel, by decide +kernel⟩
theorem bn_kind_of_other : Bnd d_kind_of_other ["kind"] := fun _ _ _ _ _ _ us hl => match us, hl with | [_], _ => rfl
abbrev N_kept_pieces : List Str := ["one", "other", "first", "found", "before", "left", "width", "kind", "place", "high", "kept", "name", "early"]
theorem fs_kept_pieces : FnScope N_kept_pieces ["one", "other", "first"] d_kept_pieces.scope := ⟨rfl, rfl, rfl, by decide +kernel, rfl, by decide +kernel, by decide +kernel⟩
theorem bn_kept_pieces : Bnd d_kept_pieces ["one", "other", "first"] := fun _ _ _ _ _ _ us hl => match us, hl with | [_, _, _], _ => rfl
abbrev N_cut_pieces : List Str := ["one", "first", "found", "is_cut", "left", "width", "kind", "place", "high", "name", "early"]
theorem fs_cut_pieces : FnScope N_cut_pieces ["one", "first"] d_cut_pieces.scope := ⟨rfl, rfl, rfl, by decide +kernel, rfl, by decide +kernel, by decide +kernel⟩
theorem bn_cut_pieces : Bnd d_cut_pieces ["one", "first"] := fun _ _ _ _ _ _ us hl => match us, hl with | [_, _], _ => rfl
abbrev N_script_by : List Str := ["one", "other", "first", "last", "kept", "pieces", "rows", "some", "line", "width", "row"]
theorem fs_script_by : FnScope N_script_by ["one", "other", "first", "last"] d_script_by.scope := ⟨rfl, rfl, rfl, by decide +kernel, rfl, by decide +kernel, by decide +kernel⟩
theorem bn_script_by : Bnd d_script_by ["one", "other", "first", "last"] := fun _ _ _ _ _ _ us hl => match us, hl with | [_, _, _, _], _ => rfl
abbrev N_lead_script : List Str := ["one", "other", "calls", "least", "most", "odd", "even", "first"]
theorem fs_lead_script : FnScope N_lead_script ["one", "other", "calls"] d_lead_script.scope := ⟨rfl, rfl, rfl, by decide +kernel, rfl, by decide +kernel, by decide +kernel⟩
theorem bn_lead_script : Bnd d_lead_script ["one", "other", "calls"] := fun _ _ _ _ _ _ us hl => match us, hl with | [_, _, _], _ => rfl
abbrev N_judge_script : List Str := ["one", "other", "value", "bad", "behind", "name"]
theorem fs_judge_script : FnScope N_judge_script ["one", "other", "value"] d_judge_script.scope := ⟨rfl, rfl, rfl, by decide +kernel, rfl, by decide +kernel, by decide +kernel⟩
theorem bn_judge_script : Bnd d_judge_script ["one", "other", "value"] := fun _ _ _ _ _ _ us hl => match us, hl with | [_, _, _], _ => rfl
abbrev N_row_kinds : List Str := ["standing", "row", "here", "left", "found", "place", "places", "kind", "many"]
theorem fs_row_kinds : FnScope N_row_kinds ["standing", "row"] d_row_kinds.scope := ⟨rfl, rfl, rfl, by decide +kernel, rfl, by decide +kernel, by decide +kernel⟩
theorem bn_row_kinds : Bnd d_row_kinds ["standing", "row"] := fun _ _ _ _ _ _ us hl => match us, hl with | [_, _], _ => rfl
abbrev N_script_kinds : List Str := ["standing", "script", "found", "here", "number", "row", "told"]
theorem fs_script_kinds : FnScope N_script_kinds ["standing", "script"] d_script_kinds.scope := ⟨rfl, rfl, rfl, by decide +kernel, rfl, by decide +kernel, by decide +kernel⟩
theorem bn_script_kinds : Bnd d_script_kinds ["standing", "script"] := fun _ _ _ _ _ _ us hl => match us, hl with | [_, _], _ => rfl
abbrev N_is_tidy : List Str := ["standing", "value", "rows", "kinds", "row", "kind", "many"]
theorem fs_is_tidy : FnScope N_is_tidy ["standing", "value"] d_is_tidy.scope := ⟨rfl, rfl, rfl, by decide +kernel, rfl, by decide +kernel, by decide +kernel⟩
theorem bn_is_tidy : Bnd d_is_tidy ["standing", "value"] := fun _ _ _ _ _ _ us hl => match us, hl with | [_, _], _ => rfl
abbrev N_tidy_script : List Str := ["standing", "script"]
theorem fs_tidy_script : FnScope N_tidy_script ["standing", "script"] d_tidy_script.scope := ⟨rfl, rfl, rfl, by decide +kernel, rfl, by decide +kernel, by decide +kernel⟩
theorem bn_tidy_script : Bnd d_tidy_script ["standing", "script"] := fun _ _ _ _ _ _ us hl => match us, hl with | [_, _], _ => rfl
abbrev N_callers_on : List Str := ["one", "other", "name"]
theorem fs_callers_on : FnScope N_callers_on ["one", "other"] d_callers_on.scope := ⟨rfl, rfl, rfl, by decide +kernel, rfl, by decide +kernel, by decide +kernel⟩
theorem bn_callers_on : Bnd d_callers_on ["one", "other"] := fun _ _ _ _ _ _ us hl => match us, hl with | [_, _], _ => rfl
abbrev N_callers_barring : List Str := ["one", "other", "name"]
theorem fs_callers_barring : FnScope N_callers_barring ["one", "other"] d_callers_barring.scope := ⟨rfl, rfl, rfl, by decide +kernel, rfl, by decide +kernel, by decide +kernel⟩
theorem bn_callers_barring : Bnd d_callers_barring ["one", "other"] := fun _ _ _ _ _ _ us hl => match us, hl with | [_, _], _ => rfl
abbrev N_lost_by : List Str := ["one", "other", "name", "least", "most", "early", "late"]
theorem fs_lost_by : FnScope N_lost_by ["one", "other", "name"] d_lost_by.scope := ⟨rfl, rfl, rfl, by decide +kernel, rfl, by decide +kernel, by decide +kernel⟩
theorem bn_lost_by : Bnd d_lost_by ["one", "other", "name"] := fun _ _ _ _ _ _ us hl => match us, hl with | [_, _, _], _ => rfl
abbrev N_fewest_callers : List Str := ["one", "other", "name"]
theorem fs_fewest_callers : FnScope N_fewest_callers ["one", "other"] d_fewest_callers.scope := ⟨rfl, rfl, rfl, by decide +kernel, rfl, by decide +kernel, by decide +kernel⟩
theorem bn_fewest_callers : Bnd d_fewest_callers ["one", "other"] := fun _ _ _ _ _ _ us hl => match us, hl with | [_, _], _ => rfl
abbrev N_most_callers : List Str := ["one", "other", "name"]
theorem fs_most_callers : FnScope N_most_callers ["one", "other"] d_most_callers.scope := ⟨rfl, rfl, rfl, by decide +kernel, rfl, by decide +kernel, by decide +kernel⟩
theorem bn_most_callers : Bnd d_most_callers ["one", "other"] := fun _ _ _ _ _ _ us hl => match us, hl with | [_, _], _ => rfl
abbrev N_need_odd : List Str := ["standing"]
theorem fs_need_odd : FnScope N_need_odd ["standing"] d_need_odd.scope := ⟨rfl, rfl, rfl, by decide +kernel, rfl, by decide +kernel, by decide +kernel⟩
theorem bn_need_odd : Bnd d_need_odd ["standing"] := fun _ _ _ _ _ _ us hl => match us, hl with | [_], _ => rfl
abbrev N_call_numbers : List Str := ["standing", "even"]
theorem fs_call_numbers : FnScope N_call_numbers ["standing"] d_call_numbers.scope := ⟨rfl, rfl, rfl, by decide +kernel, rfl, by decide +kernel, by decide +kernel⟩
theorem bn_call_numbers : Bnd d_call_numbers ["standing"] := fun _ _ _ _ _ _ us hl => match us, hl with | [_], _ => rfl
abbrev N_need_number : List Str := ["standing", "calls", "least", "most"]
theorem fs_need_number : FnScope N_need_number ["standing", "calls"] d_need_number.scope := ⟨rfl, rfl, rfl, by decide +kernel, rfl, by decide +kernel, by decide +kernel⟩
theorem bn_need_number : Bnd d_need_number ["standing", "calls"] := fun _ _ _ _ _ _ us hl => match us, hl with | [_, _], _ => rfl
abbrev N_share_of : List Str := ["standing", "calls", "odd", "even"]
theorem fs_share_of : FnScope N_share_of ["standing", "calls"] d_share_of.scope := ⟨rfl, rfl, rfl, by decide +kernel, rfl, by decide +kernel, by decide +kernel⟩
theorem bn_share_of : Bnd d_share_of ["standing", "calls"] := fun _ _ _ _ _ _ us hl => match us, hl with | [_, _], _ => rfl
abbrev N_stretches : List Str := ["standing", "left", "width", "kind"]
theorem fs_stretches : FnScope N_stretches ["standing"] d_stretches.scope := ⟨rfl, rfl, rfl, by decide +kernel, rfl, by decide +kernel, by decide +kernel⟩
theorem bn_stretches : Bnd d_stretches ["standing"] := fun _ _ _ _ _ _ us hl => match us, hl with | [_], _ => rfl
abbrev N_parted : List Str := ["pieces", "height", "left", "rest", "here", "kind", "width", "name", "late", "own"]
theorem fs_parted : FnScope N_parted ["pieces", "height"] d_parted.scope := ⟨rfl, rfl, rfl, by decide +kernel, rfl, by decide +kernel, by decide +kernel⟩
theorem bn_parted : Bnd d_parted ["pieces", "height"] := fun _ _ _ _ _ _ us hl => match us, hl with | [_, _], _ => rfl
abbrev N_fallen_meetscripts : List Str := ["pieces", "rows", "waiting", "kind", "width", "name", "times", "over"]
theorem fs_fallen_meetscripts : FnScope N_fallen_meetscripts ["pieces"] d_fallen_meetscripts.scope := ⟨rfl, rfl, rfl, by decide +kernel, rfl, by decide +kernel, by decide +kernel⟩
theorem bn_fallen_meetscripts : Bnd d_fallen_meetscripts ["pieces"] := fun _ _ _ _ _ _ us hl => match us, hl with | [_], _ => rfl
abbrev N_meet_script : List Str := ["standing", "calls", "first", "between", "last", "left", "right", "rows", "line", "row"]
theorem fs_meet_script : FnScope N_meet_script ["standing", "calls"] d_meet_script.scope := ⟨rfl, rfl, rfl, by decide +kernel, rfl, by decide +kernel, by decide +kernel⟩
theorem bn_meet_script : Bnd d_meet_script ["standing", "calls"] := fun _ _ _ _ _ _ us hl => match us, hl with | [_, _], _ => rfl
abbrev N_judge_meeting : List Str := ["standing", "value", "bad"]
theorem fs_judge_meeting : FnScope N_judge_meeting ["standing", "value"] d_judge_meeting.scope := ⟨rfl, rfl, rfl, by decide +kernel, rfl, by decide +kernel, by decide +kernel⟩
theorem bn_judge_meeting : Bnd d_judge_meeting ["standing", "value"] := fun _ _ _ _ _ _ us hl => match us, hl with | [_, _], _ => rfl
abbrev N_price_of : List Str := ["standing", "script", "prices", "row", "kind", "many"]
theorem fs_price_of : FnScope N_price_of ["standing", "script", "prices"] d_price_of.scope := ⟨rfl, rfl, rfl, by decide +kernel, rfl, by decide +kernel, by decide +kernel⟩
theorem bn_price_of : Bnd d_price_of ["standing", "script", "prices"] := fun _ _ _ _ _ _ us hl => match us, hl with | [_, _, _], _ => rfl
abbrev N_price_by : List Str := ["one", "other", "prices", "first", "odd", "even"]
theorem fs_price_by : FnScope N_price_by ["one", "other", "prices", "first"] d_price_by.scope := ⟨rfl, rfl, rfl, by decide +kernel, rfl, by decide +kernel, by decide +kernel⟩
theorem bn_price_by : Bnd d_price_by ["one", "other", "prices", "first"] := fun _ _ _ _ _ _ us hl => match us, hl with | [_, _, _, _], _ => rfl
abbrev N_lead_prices : List Str := ["one", "other", "prices", "least", "most", "some"]
theorem fs_lead_prices : FnScope N_lead_prices ["one", "other", "prices"] d_lead_prices.scope := ⟨rfl, rfl, rfl, by decide +kernel, rfl, by decide +kernel, by decide +kernel⟩
theorem bn_lead_prices : Bnd d_lead_prices ["one", "other", "prices"] := fun _ _ _ _ _ _ us hl => match us, hl with | [_, _, _], _ => rfl
abbrev N_cheapest_script : List Str := ["one", "other", "prices", "least", "most", "odd", "even", "is_early"]
theorem fs_cheapest_script : FnScope N_cheapest_script ["one", "other", "prices"] d_cheapest_script.scope := ⟨rfl, rfl, rfl, by decide +kernel, rfl, by decide +kernel, by decide +kernel⟩
theorem bn_cheapest_script : Bnd d_cheapest_script ["one", "other", "prices"] := fun _ _ _ _ _ _ us hl => match us, hl with | [_, _, _], _ => rfl
abbrev N_source_L : List Str := ["_law_script", "_law_mixed_here", "_law_cell"]
theorem fs_source_L : FnScope N_source_L ["_law_script"] d_source_L.scope := ⟨rfl, rfl, rfl, by decide +kernel, rfl, by decide +kernel, by decide +kernel⟩
theorem bn_source_L : Bnd d_source_L ["_law_script"] := fun _ _ _ _ _ _ us hl => match us, hl with | [_], _ => rfl
abbrev N_pick_L : List Str := ["_law_source_here", "_law_many", "_law_left", "_law_mixed_here"]
theorem fs_pick_L : FnScope N_pick_L ["_law_source_here", "_law_many"] d_pick_L.scope := ⟨rfl, rfl, rfl, by decide +kernel, rfl, by decide +kernel, by decide +kernel⟩
theorem bn_pick_L : Bnd d_pick_L ["_law_source_here", "_law_many"] := fun _ _ _ _ _ _ us hl => match us, hl with | [_, _], _ => rfl
abbrev N_of_L : List Str := ["_law_source_here", "_law_some"]
theorem fs_of_L : FnScope N_of_L ["_law_source_here", "_law_some"] d_of_L.scope := ⟨rfl, rfl, rfl, by decide +kernel, rfl, by decide +kernel, by decide +kernel⟩
theorem bn_of_L : Bnd d_of_L ["_law_source_here", "_law_some"] := fun _ _ _ _ _ _ us hl => match us, hl with | [_, _], _ => rfl
abbrev N_mixed_L : List Str := ["_law_source_here", "_law_things", "_law_rest", "_law_lap"]
theorem fs_mixed_L : FnScope N_mixed_L ["_law_source_here", "_law_things"] d_mixed_L.scope := ⟨rfl, rfl, rfl, by decide +kernel, rfl, by decide +kernel, by decide +kernel⟩
theorem bn_mixed_L : Bnd d_mixed_L ["_law_source_here", "_law_things"] := fun _ _ _ _ _ _ us hl => match us, hl with | [_, _], _ => rfl
abbrev N_names_L : List Str := ["_law_source_here", "_law_many", "_law_shift", "_law_names_here", "_law_tails", "_law_k", "_law_letter"]
theorem fs_names_L : FnScope N_names_L ["_law_source_here", "_law_many"] d_names_L.scope := ⟨rfl, rfl, rfl, by decide +kernel, rfl, by decide +kernel, by decide +kernel⟩
theorem bn_names_L : Bnd d_names_L ["_law_source_here", "_law_many"] := fun _ _ _ _ _ _ us hl => match us, hl with | [_, _], _ => rfl
abbrev N_words_L : List Str := ["_law_source_here", "_law_many", "_law_some", "_law_k"]
theorem fs_words_L : FnScope N_words_L ["_law_source_here", "_law_many"] d_words_L.scope := ⟨rfl, rfl, rfl, by decide +kernel, rfl, by decide +kernel, by decide +kernel⟩
theorem bn_words_L : Bnd d_words_L ["_law_source_here", "_law_many"] := fun _ _ _ _ _ _ us hl => match us, hl with | [_, _], _ => rfl
abbrev N_near_people_L : List Str := ["_law_source_here", "_law_many", "_law_wide_here", "_law_way", "_law_start", "_law_voices", "_law_places", "_law_lap"]
theorem fs_near_people_L : FnScope N_near_people_L ["_law_source_here", "_law_many", "_law_wide_here"] d_near_people_L.scope := ⟨rfl, rfl, rfl, by decide +kernel, rfl, by decide +kernel, by decide +kernel⟩
theorem bn_near_people_L : Bnd d_near_people_L ["_law_source_here", "_law_many", "_law_wide_here"] := fun _ _ _ _ _ _ us hl => match us, hl with | [_, _, _], _ => rfl
abbrev N_stops_L : List Str := ["_law_people", "_law_places", "_law_k", "_law_place_here", "_law_person"]
theorem fs_stops_L : FnScope N_stops_L ["_law_people"] d_stops_L.scope := ⟨rfl, rfl, rfl, by decide +kernel, rfl, by decide +kernel, by decide +kernel⟩
theorem bn_stops_L : Bnd d_stops_L ["_law_people"] := fun _ _ _ _ _ _ us hl => match us, hl with | [_], _ => rfl
abbrev N_gaps_L : List Str := ["_law_people", "_law_stops_here", "_law_found", "_law_k", "_law_voices", "_law_person"]
theorem fs_gaps_L : FnScope N_gaps_L ["_law_people"] d_gaps_L.scope := ⟨rfl, rfl, rfl, by decide +kernel, rfl, by decide +kernel, by decide +kernel⟩
theorem bn_gaps_L : Bnd d_gaps_L ["_law_people"] := fun _ _ _ _ _ _ us hl => match us, hl with | [_], _ => rfl
abbrev N_wide_L : List Str := ["_law_people", "_law_kind", "_law_gap"]
theorem fs_wide_L : FnScope N_wide_L ["_law_people", "_law_kind"] d_wide_L.scope := ⟨rfl, rfl, rfl, by decide +kernel, rfl, by decide +kernel, by decide +kernel⟩
theorem bn_wide_L : Bnd d_wide_L ["_law_people", "_law_kind"] := fun _ _ _ _ _ _ us hl => match us, hl with | [_, _], _ => rfl
abbrev N_heights_L : List Str := ["_law_people", "_law_found", "_law_left", "_law_width", "_law_kind"]
theorem fs_heights_L : FnScope N_heights_L ["_law_people"] d_heights_L.scope := ⟨rfl, rfl, rfl, by decide +kernel, rfl, by decide +kernel, by decide +kernel⟩
theorem bn_heights_L : Bnd d_heights_L ["_law_people"] := fun _ _ _ _ _ _ us hl => match us, hl with | [_], _ => rfl
abbrev N_turn_sum_L : List Str := ["_law_people", "_law_places", "_law_person", "_law_k", "_law_place_here"]
theorem fs_turn_sum_L : FnScope N_turn_sum_L ["_law_people"] d_turn_sum_L.scope := ⟨rfl, rfl, rfl, by decide +kernel, rfl, by decide +kernel, by decide +kernel⟩
theorem bn_turn_sum_L : Bnd d_turn_sum_L ["_law_people"] := fun _ _ _ _ _ _ us hl => match us, hl with | [_], _ => rfl
abbrev N_is_loud_L : List Str := ["_law_people", "_law_place_here", "_law_person"]
theorem fs_is_loud_L : FnScope N_is_loud_L ["_law_people", "_law_place_here"] d_is_loud_L.scope := ⟨rfl, rfl, rfl, by decide +kernel, rfl, by decide +kernel, by decide +kernel⟩
theorem bn_is_loud_L : Bnd d_is_loud_L ["_law_people", "_law_place_here"] := fun _ _ _ _ _ _ us hl => match us, hl with | [_, _], _ => rfl
abbrev N_place_L : List Str := ["_law_people", "_law_name", "_law_person"]
theorem fs_place_L : FnScope N_place_L ["_law_people", "_law_name"] d_place_L.scope := ⟨rfl, rfl, rfl, by decide +kernel, rfl, by decide +kernel, by decide +kernel⟩
theorem bn_place_L : Bnd d_place_L ["_law_people", "_law_name"] := fun _ _ _ _ _ _ us hl => match us, hl with | [_, _], _ => rfl
abbrev N_called_L : List Str := ["_law_people", "_law_place_here", "_law_name", "_law_here", "_law_voice"]
theorem fs_called_L : FnScope N_called_L ["_law_people", "_law_place_here"] d_called_L.scope := ⟨rfl, rfl, rfl, by decide +kernel, rfl, by decide +kernel, by decide +kernel⟩
theorem bn_called_L : Bnd d_called_L ["_law_people", "_law_place_here"] := fun _ _ _ _ _ _ us hl => match us, hl with | [_, _], _ => rfl
abbrev N_callers_L : List Str := ["_law_people", "_law_stops_here", "_law_loud", "_law_place_here", "_law_person"]
theorem fs_callers_L : FnScope N_callers_L ["_law_people"] d_callers_L.scope := ⟨rfl, rfl, rfl, by decide +kernel, rfl, by decide +kernel, by decide +kernel⟩
theorem bn_callers_L : Bnd d_callers_L ["_law_people"] := fun _ _ _ _ _ _ us hl => match us, hl with | [_], _ => rfl
abbrev N_spots_L : List Str := ["_law_people", "_law_person"]
theorem fs_spots_L : FnScope N_spots_L ["_law_people"] d_spots_L.scope := ⟨rfl, rfl, rfl, by decide +kernel, rfl, by decide +kernel, by decide +kernel⟩
theorem bn_spots_L : Bnd d_spots_L ["_law_people"] := fun _ _ _ _ _ _ us hl => match us, hl with | [_], _ => rfl
abbrev N_at_L : List Str := ["_law_people", "_law_spots_here", "_law_person", "_law_place_here"]
theorem fs_at_L : FnScope N_at_L ["_law_people", "_law_spots_here"] d_at_L.scope := ⟨rfl, rfl, rfl, by decide +kernel, rfl, by decide +kernel, by decide +kernel⟩
theorem bn_at_L : Bnd d_at_L ["_law_people", "_law_spots_here"] := fun _ _ _ _ _ _ us hl => match us, hl with | [_, _], _ => rfl
abbrev N_is_in_order_L : List Str := ["_law_people", "_law_spots_here", "_law_one", "_law_there", "_law_other", "_law_far"]
theorem fs_is_in_order_L : FnScope N_is_in_order_L ["_law_people", "_law_spots_here"] d_is_in_order_L.scope := ⟨rfl, rfl, rfl, by decide +kernel, rfl, by decide +kernel, by decide +kernel⟩
theorem bn_is_in_order_L : Bnd d_is_in_order_L ["_law_people", "_law_spots_here"] := fun _ _ _ _ _ _ us hl => match us, hl with | [_, _], _ => rfl
abbrev N_kept_L : List Str := ["_law_people", "_law_spots_here", "_law_found", "_law_left", "_law_width", "_law_kind", "_law_one", "_law_person", "_law_there"]
theorem fs_kept_L : FnScope N_kept_L ["_law_people", "_law_spots_here"] d_kept_L.scope := ⟨rfl, rfl, rfl, by decide +kernel, rfl, by decide +kernel, by decide +kernel⟩
theorem bn_kept_L : Bnd d_kept_L ["_law_people", "_law_spots_here"] := fun _ _ _ _ _ _ us hl => match us, hl with | [_, _], _ => rfl
abbrev N_bounds_L : List Str := ["_law_people", "_law_spots_here", "_law_gaps_here", "_law_kept_here", "_law_heights_here", "_law_lost", "_law_odd", "_law_even", "_law_moved", "_law_is_odd", "_law_found", "_law_high", "_law_i", "_law_gap", "_law_near", "_law_k", "_law_r", "_law_person"]
theorem fs_bounds_L : FnScope N_bounds_L ["_law_people", "_law_spots_here"] d_bounds_L.scope := ⟨rfl, rfl, rfl, by decide +kernel, rfl, by decide +kernel, by decide +kernel⟩
theorem bn_bounds_L : Bnd d_bounds_L ["_law_people", "_law_spots_here"] := fun _ _ _ _ _ _ us hl => match us, hl with | [_, _], _ => rfl
abbrev N_lead_numbers_L : List Str := ["_law_people", "_law_spots_here", "_law_rows", "_law_least", "_law_most", "_law_gaps_here", "_law_kept_here", "_law_odd", "_law_even", "_law_row", "_law_gap", "_law_k"]
theorem fs_lead_numbers_L : FnScope N_lead_numbers_L ["_law_people", "_law_spots_here"] d_lead_numbers_L.scope := ⟨rfl, rfl, rfl, by decide +kernel, rfl, by decide +kernel, by decide +kernel⟩
theorem bn_lead_numbers_L : Bnd d_lead_numbers_L ["_law_people", "_law_spots_here"] := fun _ _ _ _ _ _ us hl => match us, hl with | [_, _], _ => rfl
abbrev N_walked_L : List Str := ["_law_people", "_law_script", "_law_made", "_law_name", "_law_times", "_law_lap", "_law_place_here"]
theorem fs_walked_L : FnScope N_walked_L ["_law_people", "_law_script"] d_walked_L.scope := ⟨rfl, rfl, rfl, by decide +kernel, rfl, by decide +kernel, by decide +kernel⟩
theorem bn_walked_L : Bnd d_walked_L ["_law_people", "_law_script"] := fun _ _ _ _ _ _ us hl => match us, hl with | [_, _], _ => rfl
abbrev N_goal_L : List Str := ["_law_source_here", "_law_people", "_law_most", "_law_lap", "_law_names_here"]
theorem fs_goal_L : FnScope N_goal_L ["_law_source_here", "_law_people", "_law_most"] d_goal_L.scope := ⟨rfl, rfl, rfl, by decide +kernel, rfl, by decide +kernel, by decide +kernel⟩
theorem bn_goal_L : Bnd d_goal_L ["_law_source_here", "_law_people", "_law_most"] := fun _ _ _ _ _ _ us hl => match us, hl with | [_, _, _], _ => rfl
abbrev N_scripts_right_L : List Str := ["_law_source_here", "_law_people", "_law_goal_here", "_law_numbers", "_law_one", "_law_other", "_law_calls", "_law_told", "_law_script", "_law_gone"]
theorem fs_scripts_right_L : FnScope N_scripts_right_L ["_law_source_here", "_law_people", "_law_goal_here", "_law_numbers"] d_scripts_right_L.scope := ⟨rfl, rfl, rfl, by decide +kernel, rfl, by decide +kernel, by decide +kernel⟩
theorem bn_scripts_right_L : Bnd d_scripts_right_L ["_law_source_here", "_law_people", "_law_goal_here", "_law_numbers"] := fun _ _ _ _ _ _ us hl => match us, hl with | [_, _, _, _], _ => rfl
abbrev N_paid_L : List Str := ["_law_people", "_law_script", "_law_prices", "_law_paid_here", "_law_name", "_law_times", "_law_lap", "_law_stops_here", "_law_place_here"]
theorem fs_paid_L : FnScope N_paid_L ["_law_people", "_law_script", "_law_prices"] d_paid_L.scope := ⟨rfl, rfl, rfl, by decide +kernel, rfl, by decide +kernel, by decide +kernel⟩
theorem bn_paid_L : Bnd d_paid_L ["_law_people", "_law_script", "_law_prices"] := fun _ _ _ _ _ _ us hl => match us, hl with | [_, _, _], _ => rfl
abbrev N_prices_right_L : List Str := ["_law_source_here", "_law_people", "_law_goal_here", "_law_numbers", "_law_one", "_law_other", "_law_prices", "_law_found", "_law_calls", "_law_script", "_law_told", "_law_gone", "_law_lap"]
theorem fs_prices_right_L : FnScope N_prices_right_L ["_law_source_here", "_law_people", "_law_goal_here", "_law_numbers"] d_prices_right_L.scope := ⟨rfl, rfl, rfl, by decide +kernel, rfl, by decide +kernel, by decide +kernel⟩
theorem bn_prices_right_L : Bnd d_prices_right_L ["_law_source_here", "_law_people", "_law_goal_here", "_law_numbers"] := fun _ _ _ _ _ _ us hl => match us, hl with | [_, _, _, _], _ => rfl
abbrev N_meeting_right_L : List Str := ["_law_source_here", "_law_people", "_law_one", "_law_odd", "_law_even", "_law_high", "_law_calls", "_law_told", "_law_gone"]
theorem fs_meeting_right_L : FnScope N_meeting_right_L ["_law_source_here", "_law_people"] d_meeting_right_L.scope := ⟨rfl, rfl, rfl, by decide +kernel, rfl, by decide +kernel, by decide +kernel⟩
theorem bn_meeting_right_L : Bnd d_meeting_right_L ["_law_source_here", "_law_people"] := fun _ _ _ _ _ _ us hl => match us, hl with | [_, _], _ => rfl
abbrev N_choices_right_L : List Str := ["_law_people", "_law_goal_here", "_law_numbers", "_law_one", "_law_other", "_law_on", "_law_lost", "_law_name", "_law_later", "_law_pair"]
theorem fs_choices_right_L : FnScope N_choices_right_L ["_law_people", "_law_goal_here", "_law_numbers"] d_choices_right_L.scope := ⟨rfl, rfl, rfl, by decide +kernel, rfl, by decide +kernel, by decide +kernel⟩
theorem bn_choices_right_L : Bnd d_choices_right_L ["_law_people", "_law_goal_here", "_law_numbers"] := fun _ _ _ _ _ _ us hl => match us, hl with | [_, _, _], _ => rfl
abbrev N_law : List Str := ["_law_script", "_law_source_here", "_law_people", "_law_goal_here", "_law_one", "_law_other", "_law_numbers", "_law_paper", "_law_person"]
theorem fs_law : FnScope N_law ["_law_script"] d_law.scope := ⟨rfl, rfl, rfl, by decide +kernel, rfl, by decide +kernel, by decide +kernel⟩
theorem bn_law : Bnd d_law ["_law_script"] := fun _ _ _ _ _ _ us hl => match us, hl with | [_], _ => rfl
end OC
set_option maxHeartbeats 4000000
/-! Short forms of the rules, mirrors of the small things. -/
namespace OC
open PySem PySem.Spec PyProof.Rows L2
section
variable {M : Mo} (h : Hd M) {g : G} {Z : Sc} {e a b : Expr} {r : Rho} {x y : D} {ds : List D} {pos p p2 : Pos}
include h
theorem E_isi {nm : Str} {n : String} (m : String) (q : Bool) (i : Nat) (ha : E M g Z a r x) (h1 : tyD x = some n := by rfl) (e : kitB n m = some q := by rfl) (hm : faAll[i]? = some (.free nm) := by rfl) (hv : bootBuiltins nm = some (.type m) := by decide +kernel) (hg : GlS g nm := by rfl) (hi : GlS g "isinstance" := by rfl)
    (hn : nm ≠ "__name__" := by decide) (hd : (nm == ("__debug__" : Str)) = false := by decide) (hs : ∀ env, starEach [a, .Name nm p2] env = (false, eval a env) :: starEach [.Name nm p2] env := by intro _; rfl) : E M g Z (.Call (.Name "isinstance" p) [a, .Name nm p2] [] pos) r (.bl q) :=
  E_callB (A2 ha (E_bty (h.free i hm) hv hg hn hd) hs) (clIsi h1 e) (h.free 109) (by decide +kernel) hi (by decide) (by decide) hs (by intro _; rfl)
theorem E_lenL (ha : E M g Z a r (.lst ds)) (hg : GlS g "len" := by rfl) (hs : ∀ env, starEach [a] env = (false, eval a env) :: starEach [] env := by intro _; rfl) : E M g Z (.Call (.Name "len" p) [a] [] pos) r (.int ds.length) := E_callB (A1 ha hs) clLenL (h.free 110) (by decide +kernel) hg (by decide) (by decide) hs (by intro _; rfl)
theorem E_lenT (ha : E M g Z a r (.tup ds)) (hg : GlS g "len" := by rfl) (hs : ∀ env, starEach [a] env = (false, eval a env) :: starEach [] env := by intro _; rfl) : E M g Z (.Call (.Name "len" p) [a] [] pos) r (.int ds.length) := E_callB (A1 ha hs) clLenT (h.free 110) (by decide +kernel) hg (by decide) (by decide) hs (by intro _; rfl)
theorem E_lenS {t : Str} (ht : t.length ≤ sizeLine) (ha : E M g Z a r (.str t)) (hg : GlS g "len" := by rfl) (hs : ∀ env, starEach [a] env = (false, eval a env) :: starEach [] env := by intro _; rfl) : E M g Z (.Call (.Name "len" p) [a] [] pos) r (.int t.length) := E_callB (A1 ha hs) (clLenS ht) (h.free 110) (by decide +kernel) hg (by decide) (by decide) hs (by intro _; rfl)
theorem E_sum {ns : List Int} (ha : E M g Z a r (.lst (ns.map D.int))) (hg : GlS g "sum" := by rfl) (hs : ∀ env, starEach [a] env = (false, eval a env) :: starEach [] env := by intro _; rfl) : E M g Z (.Call (.Name "sum" p) [a] [] pos) r (.int ns.sum) := E_callB (A1 ha hs) (clSum ns) (h.free 118) (by decide +kernel) hg (by decide) (by decide) hs (by intro _; rfl)
theorem E_all {ns : List Bool} (ha : E M g Z a r (.lst (ns.map D.bl))) (hg : GlS g "all" := by rfl) (hs : ∀ env, starEach [a] env = (false, eval a env) :: starEach [] env := by intro _; rfl) : E M g Z (.Call (.Name "all" p) [a] [] pos) r (.bl (ns.all id)) := E_callB (A1 ha hs) (clAll ns) (h.free 105) (by decide +kernel) hg (by decide) (by decide) hs (by intro _; rfl)
theorem E_abs {i : Int} (ha : E M g Z a r (.int i)) (hg : GlS g "abs" := by rfl) (hs : ∀ env, starEach [a] env = (false, eval a env) :: starEach [] env := by intro _; rfl) : E M g Z (.Call (.Name "abs" p) [a] [] pos) r (.int (if i < 0 then -i else i)) := E_callB (A1 ha hs) (clAbs i) (h.free 104) (by decide +kernel) hg (by decide) (by decide) hs (by intro _; rfl)
theorem E_max2 {i j : Int} (ha : E M g Z a r (.int i)) (hb : E M g Z b r (.int j)) (hg : GlS g "max" := by rfl) (hs : ∀ env, starEach [a, b] env = (false, eval a env) :: starEach [b] env := by intro _; rfl) (hs' : ∀ env, starEach [b] env = (false, eval b env) :: starEach [] env := by intro _; rfl) (hpl : ∀ env, (backTo pos (starEach [b] env)).any (·.1) = false := by intro _; rfl) : E M g Z (.Call (.Name "max" p) [a, b] [] pos) r (.int (max i j)) := E_callB (A2 ha hb hs hs') (clMax2 i j) (h.free 112) (by decide +kernel) hg (by decide) (by decide) hs hpl
theorem E_min2 {i j : Int} (ha : E M g Z a r (.int i)) (hb : E M g Z b r (.int j)) (hg : GlS g "min" := by rfl) (hs : ∀ env, starEach [a, b] env = (false, eval a env) :: starEach [b] env := by intro _; rfl) (hs' : ∀ env, starEach [b] env = (false, eval b env) :: starEach [] env := by intro _; rfl) (hpl : ∀ env, (backTo pos (starEach [b] env)).any (·.1) = false := by intro _; rfl) : E M g Z (.Call (.Name "min" p) [a, b] [] pos) r (.int (min i j)) := E_callB (A2 ha hb hs hs') (clMin2 i j) (h.free 113) (by decide +kernel) hg (by decide) (by decide) hs hpl
theorem E_maxL {ns : List Int} {m : Int} (hm : m ∈ ns) (hy : ∀ y ∈ ns, y ≤ m) (ha : E M g Z a r (.lst (ns.map D.int))) (hg : GlS g "max" := by rfl) (hs : ∀ env, starEach [a] env = (false, eval a env) :: starEach [] env := by intro _; rfl) : E M g Z (.Call (.Name "max" p) [a] [] pos) r (.int m) := E_callB (A1 ha hs) (clMax hm hy) (h.free 112) (by decide +kernel) hg (by decide) (by decide) hs (by intro _; rfl)
theorem E_minL {ns : List Int} {m : Int} (hm : m ∈ ns) (hy : ∀ y ∈ ns, m ≤ y) (ha : E M g Z a r (.lst (ns.map D.int))) (hg : GlS g "min" := by rfl) (hs : ∀ env, starEach [a] env = (false, eval a env) :: starEach [] env := by intro _; rfl) : E M g Z (.Call (.Name "min" p) [a] [] pos) r (.int m) := E_callB (A1 ha hs) (clMin hm hy) (h.free 113) (by decide +kernel) hg (by decide) (by decide) hs (by intro _; rfl)
theorem E_intI {i : Int} (ha : E M g Z a r (.int i)) (hg : GlS g "int" := by rfl) (hs : ∀ env, starEach [a] env = (false, eval a env) :: starEach [] env := by intro _; rfl) : E M g Z (.Call (.Name "int" p) [a] [] pos) r (.int i) := E_callTy (A1 ha hs) (clInt i) (h.free 108) (by decide +kernel) hg (by decide) (by decide) hs (by intro _; rfl)
theorem E_intB {i : Bool} (ha : E M g Z a r (.bl i)) (hg : GlS g "int" := by rfl) (hs : ∀ env, starEach [a] env = (false, eval a env) :: starEach [] env := by intro _; rfl) : E M g Z (.Call (.Name "int" p) [a] [] pos) r (.int (if i then 1 else 0)) := E_callTy (A1 ha hs) (clIntB i) (h.free 108) (by decide +kernel) hg (by decide) (by decide) hs (by intro _; rfl)
theorem E_listL (ha : E M g Z a r (.lst ds)) (hg : GlS g "list" := by rfl) (hs : ∀ env, starEach [a] env = (false, eval a env) :: starEach [] env := by intro _; rfl) : E M g Z (.Call (.Name "list" p) [a] [] pos) r (.lst ds) := E_callTy (A1 ha hs) clListL (h.free 111) (by decide +kernel) hg (by decide) (by decide) hs (by intro _; rfl)
theorem E_tupL (ha : E M g Z a r (.lst ds)) (hg : GlS g "tuple" := by rfl) (hs : ∀ env, starEach [a] env = (false, eval a env) :: starEach [] env := by intro _; rfl) : E M g Z (.Call (.Name "tuple" p) [a] [] pos) r (.tup ds) := E_callTy (A1 ha hs) clTupL (h.free 120) (by decide +kernel) hg (by decide) (by decide) hs (by intro _; rfl)
end
section
variable {M : Mo} {g : G} {Z : Sc} {elt tg it e : Expr} {ifs : List Expr} {scope : Scope} {r : Rho} {pos : Pos} {α β : Type} {l : List α} {gf : α → D}
/-- comprehensions, the items by a coding c -/
theorem L_lcc (own : List (Str × Nat)) (p : α → Bool) (c : β → D) (f : α → β) (hi : IT M g Z tg it r (l.map gf))
    (hb : ∀ x ∈ l, ∃ r1 is, GT M (g.blk scope) Z tg (gf x) (wipeR r (own.map (·.2))) r1 is ∧ (∀ j ∈ is, j ∈ own.map (·.2)) ∧ T2 M (g.blk scope) Z ifs r1 (p x) ∧ (p x = true → E M (g.blk scope) Z elt r1 (c (f x))))
    (hl : l.length ≤ 1000) (hs : ∀ env x, foldedSetIterable it env x = pure x := by intro _ _; rfl) (ok' : BlkOk g.N g.sc scope own := by exact ⟨rfl, by decide +kernel, by decide +kernel, by decide +kernel, by decide +kernel⟩) :
    LC M g Z elt tg it ifs scope r fun y => y = .lst (((l.filter p).map f).map c) := (L_lc own hi ok' p (fun x => c (f x)) hb hl hs).of (by rw [List.map_map]; rfl)
theorem E_lcc (own : List (Str × Nat)) (p : α → Bool) (c : β → D) (f : α → β) (hi : IT M g Z tg it r (l.map gf))
    (hb : ∀ x ∈ l, ∃ r1 is, GT M (g.blk scope) Z tg (gf x) (wipeR r (own.map (·.2))) r1 is ∧ (∀ j ∈ is, j ∈ own.map (·.2)) ∧ T2 M (g.blk scope) Z ifs r1 (p x) ∧ (p x = true → E M (g.blk scope) Z elt r1 (c (f x))))
    (hl : l.length ≤ 1000) (hs : ∀ env x, foldedSetIterable it env x = pure x := by intro _ _; rfl) (ok' : BlkOk g.N g.sc scope own := by exact ⟨rfl, by decide +kernel, by decide +kernel, by decide +kernel, by decide +kernel⟩) :
    E M g Z (.ListComp elt [⟨tg, it, ifs, 0⟩] scope pos) r (.lst (((l.filter p).map f).map c)) := (L_lcc own p c f hi hb hl hs ok').ex
theorem L_lcm (own : List (Str × Nat)) (c : β → D) (f : α → β) (hi : IT M g Z tg it r (l.map gf))
    (hb : ∀ x ∈ l, ∃ r1 is, GT M (g.blk scope) Z tg (gf x) (wipeR r (own.map (·.2))) r1 is ∧ (∀ j ∈ is, j ∈ own.map (·.2)) ∧ E M (g.blk scope) Z elt r1 (c (f x)))
    (hl : l.length ≤ 1000) (hs : ∀ env x, foldedSetIterable it env x = pure x := by intro _ _; rfl) (ok' : BlkOk g.N g.sc scope own := by exact ⟨rfl, by decide +kernel, by decide +kernel, by decide +kernel, by decide +kernel⟩) :
    LC M g Z elt tg it [] scope r fun y => y = .lst ((l.map f).map c) := (L_lcM own hi ok' (fun x => c (f x)) hb hl hs).of (by rw [List.map_map]; rfl)
theorem E_lcm (own : List (Str × Nat)) (c : β → D) (f : α → β) (hi : IT M g Z tg it r (l.map gf))
    (hb : ∀ x ∈ l, ∃ r1 is, GT M (g.blk scope) Z tg (gf x) (wipeR r (own.map (·.2))) r1 is ∧ (∀ j ∈ is, j ∈ own.map (·.2)) ∧ E M (g.blk scope) Z elt r1 (c (f x)))
    (hl : l.length ≤ 1000) (hs : ∀ env x, foldedSetIterable it env x = pure x := by intro _ _; rfl) (ok' : BlkOk g.N g.sc scope own := by exact ⟨rfl, by decide +kernel, by decide +kernel, by decide +kernel, by decide +kernel⟩) :
    E M g Z (.ListComp elt [⟨tg, it, [], 0⟩] scope pos) r (.lst ((l.map f).map c)) := (L_lcm own c f hi hb hl hs ok').ex
/-- name = [..], a local name -/
theorem SS_lc {scope : Scope} {x : D} {rest : List Stmt} {O : Out} (i : Nat) {nm : Str} {pos' spos : Pos} (h : LC M g Z elt tg it ifs scope r fun y => y = x) (k : SS M g Z rest (r.set i (some (.d x))) O) (hN : g.N[i]? = some nm := by rfl) (hl : g.sc.names.lookup nm = some .local := by rfl)
    (hsw : ∀ env : Env, env.scope = g.sc → swapsWith (.ListComp elt [⟨tg, it, ifs, 0⟩] scope pos) (some (.Name nm pos')) spos.line env = pure true := by intro _ e; exact sw_true (by rw [e]; rfl) (by rw [e]; rfl) rfl (by rfl)) : SS M g Z (.Assign [.Name nm pos'] (.ListComp elt [⟨tg, it, ifs, 0⟩] scope pos) spos :: rest) r O := SS_setLc i h (fun _ e => e ▸ k) hN hl hsw
theorem inV_ints (i : Int) : ∀ js : List Int, inV (.int i) (js.map V.int) = decide (i ∈ js)
  | [] => rfl
  | j :: js => by
    have ih := inV_ints i js
    unfold inV at ih ⊢
    rw [List.map_cons, List.any_cons, ih]
    have e : eqV (V.int j) (V.int i) = decide (i = j) := by
      by_cases q : i = j
      · subst q; simp [eqV]
      · simp [eqV, q]; try omega
    rw [e]
    by_cases q : i = j <;> simp [q]
theorem inV_strs (i : Str) : ∀ js : List Str, inV (.str i) (js.map V.str) = decide (i ∈ js)
  | [] => rfl
  | j :: js => by
    have ih := inV_strs i js
    unfold inV at ih ⊢
    rw [List.map_cons, List.any_cons, ih]
    have e : eqV (V.str j) (V.str i) = decide (i = j) := by
      by_cases q : i = j
      · subst q; simp [eqV]
      · simp [eqV, q]; try exact fun z => q z.symm
    rw [e]
    by_cases q : i = j <;> simp [q]
theorem flat_ints (js : List Int) : (js.map V.int).all flatV = true := by rw [List.all_eq_true]; intro x hx; obtain ⟨j, _, rfl⟩ := List.mem_map.mp hx; rfl
theorem flat_strs' (js : List Str) : (js.map V.str).all flatV = true := by rw [List.all_eq_true]; intro x hx; obtain ⟨j, _, rfl⟩ := List.mem_map.mp hx; rfl
theorem notInTI (i : Int) (js : List Int) : OpD M g Z (compareOp .NotIn) (.int i) (.tup (js.map D.int)) (.bl (!decide (i ∈ js))) := fun X ok B H v u s sr r1 r2 Q q => by
  cases r1
  cases r2 with
  | tup h1 k1 =>
    rw [k1.ints] at h1
    refine ⟨_, op_notIn_seq, _, _, rfl, .inr (SqT.of (s _ _ h1)), rfl, flat_ints js, ?_⟩
    rw [if_pos rfl, inV_ints]; exact q _ B H (Fr.rfl' s sr) (.bl _)
theorem notInLS (i : Str) (js : List Str) : OpD M g Z (compareOp .NotIn) (.str i) (.lst (js.map D.str)) (.bl (!decide (i ∈ js))) := fun X ok B H v u s sr r1 r2 Q q => by
  cases r1
  cases r2 with
  | lst h1 k1 =>
    rw [k1.strs] at h1
    refine ⟨_, op_notIn_seq, _, _, rfl, .inl (SqL.of (s _ _ h1)), rfl, flat_strs' js, ?_⟩
    rw [if_pos rfl, inV_strs]; exact q _ B H (Fr.rfl' s sr) (.bl _)
end
theorem atI_nat {α : Type} {xs : List α} {n : Nat} {v : α} (e : xs[n]? = some v) : atI xs (n : Int) = some v := by
  have hn : n < xs.length := (List.getElem?_eq_some_iff.mp e).1
  unfold atI ixN
  rw [if_pos (by omega), if_pos (by omega)]
  simpa using e
theorem atI_zero {α : Type} {xs : List α} {v : α} (e : xs[0]? = some v) : atI xs 0 = some v := atI_nat (n := 0) e
theorem atI_last {α : Type} {xs : List α} {v : α} (e : xs.getLast? = some v) : atI xs (-1) = some v := by
  have hn : 0 < xs.length := by
    cases xs with
    | nil => cases e
    | cons x l => simp
  unfold atI ixN
  rw [if_neg (by omega), if_pos (by omega)]
  rw [List.getLast?_eq_getElem?] at e
  have : ((-1 : Int) + (xs.length : Int)).toNat = xs.length - 1 := by omega
  rw [this]; exact e
/-! ### people -/
def letters : Str := "abcdefghijklmnopqrstuvwxyz"
def figures : Str := "0123456789"
structure OkName (s : Str) : Prop where
  one : ∃ c, s.cps.toList[0]? = some c ∧ c ∈ letters.cps.toList
  short : s.cps.toList.length ≤ 12
  all : ∀ c ∈ s.cps.toList, c ∈ letters.cps.toList ∨ c ∈ figures.cps.toList
structure Good (ps : List Per) : Prop where
  ne : ps ≠ []
  len : ps.length ≤ 8
  nd : (ps.map (·.nm)).Nodup
  nm : ∀ p ∈ ps, OkName p.nm
  vc : ∀ p ∈ ps, p.vc = 0 ∨ p.vc = 1
def perOf (ps : List Per) (nm : Str) : Per := (ps.find? fun p => p.nm = nm).getD ⟨nm, 0, 0⟩
def plc (ps : List Per) (nm : Str) : Int := (perOf ps nm).pl
theorem find_nodup : ∀ {ps : List Per} {p : Per}, (ps.map (·.nm)).Nodup → p ∈ ps → ps.find? (fun q => q.nm = p.nm) = some p
  | [], _, _, h => nomatch h
  | q :: ps, p, nd, h => by
    rw [List.map_cons, List.nodup_cons] at nd
    rw [List.find?_cons]
    by_cases e : q.nm = p.nm
    · rw [decide_eq_true e]
      rcases List.mem_cons.mp h with h | h
      · rw [h]
      · exact absurd (List.mem_map.mpr ⟨p, h, e.symm⟩) nd.1
    · rw [decide_eq_false e]
      rcases List.mem_cons.mp h with h | h
      · exact absurd (by rw [h]) e
      · exact find_nodup nd.2 h
theorem perOf_mem {ps : List Per} {p : Per} (nd : (ps.map (·.nm)).Nodup) (h : p ∈ ps) : perOf ps p.nm = p := by
  unfold perOf; rw [find_nodup nd h]; rfl
theorem perOf_spec {ps : List Per} {n : Str} (h : n ∈ ps.map (·.nm)) : perOf ps n ∈ ps ∧ (perOf ps n).nm = n := by
  unfold perOf
  cases e : ps.find? fun p => decide (p.nm = n) with
  | none =>
    obtain ⟨p, hp, e2⟩ := List.mem_map.mp h
    have := List.find?_eq_none.mp e p hp
    simp [e2] at this
  | some p =>
    refine ⟨List.mem_of_find?_eq_some e, ?_⟩
    have := List.find?_some e
    exact of_decide_eq_true this
def insI (x : Int) : List Int → List Int
  | [] => [x]
  | y :: l => if x < y then x :: y :: l else if x = y then y :: l else y :: insI x l
theorem insI_mem (x : Int) : ∀ (l : List Int) (k : Int), k ∈ insI x l ↔ k = x ∨ k ∈ l
  | [], k => by simp [insI]
  | y :: l, k => by
    unfold insI
    split
    · simp
    · split
      · rename_i e; simp [e]
      · simp only [List.mem_cons, insI_mem x l k]
        exact ⟨fun z => by rcases z with z | z | z <;> simp [z], fun z => by rcases z with z | z | z <;> simp [z]⟩
theorem insI_up (x : Int) : ∀ {l : List Int}, l.Pairwise (· < ·) → (insI x l).Pairwise (· < ·)
  | [], _ => by simp [insI]
  | y :: l, h => by
    unfold insI
    rw [List.pairwise_cons] at h
    split
    · rename_i q
      refine List.pairwise_cons.mpr ⟨fun z hz => ?_, List.pairwise_cons.mpr h⟩
      rcases List.mem_cons.mp hz with e | hz
      · rw [e]; exact q
      · exact Int.lt_trans q (h.1 z hz)
    · split
      · exact List.pairwise_cons.mpr h
      · refine List.pairwise_cons.mpr ⟨fun z hz => ?_, insI_up x h.2⟩
        rcases (insI_mem x l z).mp hz with e | hz
        · omega
        · exact h.1 z hz
theorem up_unique : ∀ {l m : List Int}, l.Pairwise (· < ·) → m.Pairwise (· < ·) → (∀ k, k ∈ l ↔ k ∈ m) → l = m
  | [], [], _, _, _ => rfl
  | [], y :: m, _, _, h => nomatch (h y).mpr List.mem_cons_self
  | x :: l, [], _, _, h => nomatch (h x).mp List.mem_cons_self
  | x :: l, y :: m, h1, h2, h => by
    rw [List.pairwise_cons] at h1 h2
    have e : x = y := by
      rcases List.mem_cons.mp ((h x).mp List.mem_cons_self) with e | e
      · exact e
      · rcases List.mem_cons.mp ((h y).mpr List.mem_cons_self) with e2 | e2
        · exact e2.symm
        · have := h2.1 x e; have := h1.1 y e2; omega
    subst e
    rw [up_unique h1.2 h2.2 fun k => ⟨fun hk => ?_, fun hk => ?_⟩]
    · rcases List.mem_cons.mp ((h k).mp (List.mem_cons_of_mem _ hk)) with e | e
      · have := h1.1 k hk; omega
      · exact e
    · rcases List.mem_cons.mp ((h k).mpr (List.mem_cons_of_mem _ hk)) with e | e
      · have := h2.1 k hk; omega
      · exact e
def stops (ps : List Per) : List Int := (ps.map (·.pl)).foldr insI []
theorem foldr_ins_up : ∀ l : List Int, (l.foldr insI []).Pairwise (· < ·)
  | [] => .nil
  | x :: l => insI_up x (foldr_ins_up l)
theorem foldr_ins_mem : ∀ (l : List Int) (k : Int), k ∈ l.foldr insI [] ↔ k ∈ l
  | [], k => Iff.rfl
  | x :: l, k => by rw [List.foldr_cons, insI_mem, foldr_ins_mem l, List.mem_cons]
theorem stops_up (ps : List Per) : (stops ps).Pairwise (· < ·) := foldr_ins_up _
theorem stops_mem (ps : List Per) (k : Int) : k ∈ stops ps ↔ ∃ p ∈ ps, p.pl = k := by
  unfold stops; rw [foldr_ins_mem, List.mem_map]
theorem insI_len (x : Int) : ∀ l : List Int, (insI x l).length ≤ l.length + 1
  | [] => Nat.le_refl _
  | y :: l => by
    unfold insI
    split
    · simp
    · split
      · simp
      · have := insI_len x l; simp; omega
theorem stops_len (ps : List Per) : (stops ps).length ≤ ps.length := by
  unfold stops
  induction ps with
  | nil => exact Nat.le_refl _
  | cons p ps ih => have := insI_len p.pl ((ps.map (·.pl)).foldr insI []); simp only [List.map_cons, List.foldr_cons, List.length_cons]; omega
def crowd (ps : List Per) (y : Int) : List Per := ps.filter fun p => decide (p.pl = y)
def vsum (ps : List Per) : Int := (ps.map (·.vc)).sum
def loudAt (ps : List Per) (y : Int) : Bool := decide (vsum (crowd ps y) % 2 = 1)
abbrev strsD (l : List Str) : D := .lst (l.map D.str)
abbrev intsD (l : List Int) : D := .lst (l.map D.int)
end OC
set_option maxHeartbeats 4000000
/-! Words, the class Standing. -/
namespace OC
open PySem PySem.Spec PyProof.Rows L2
def R1 (f : List Per → D) : Rel := fun ds P => ∃ ps, Good ps ∧ ds = [.std ps] ∧ P = fun x => x = f ps
theorem R1.len {f : List Per → D} : ∀ ds P, R1 f ds P → ds.length = 1 := by rintro ds P ⟨ps, _, rfl, rfl⟩; rfl
def R1N (f : List Per → Str → D) : Rel := fun ds P => ∃ ps n, Good ps ∧ n ∈ ps.map (·.nm) ∧ ds = [.std ps, .str n] ∧ P = fun x => x = f ps n
theorem R1N.len {f : List Per → Str → D} : ∀ ds P, R1N f ds P → ds.length = 2 := by rintro ds P ⟨ps, n, _, _, rfl, rfl⟩; rfl
def R1I (f : List Per → Int → D) : Rel := fun ds P => ∃ ps i, Good ps ∧ ds = [.std ps, .int i] ∧ P = fun x => x = f ps i
theorem R1I.len {f : List Per → Int → D} : ∀ ds P, R1I f ds P → ds.length = 2 := by rintro ds P ⟨ps, n, _, rfl, rfl⟩; rfl
section
variable {M : Mo} (h : Hd M)
include h
def R_is_integer : Rel := fun ds P => ∃ i : Int, ds = [.int i] ∧ P = fun x => x = .bl true
theorem w_is_integer : FnG M 1 "is_integer" false R_is_integer := by
  refine h.fnG 0 0 fs_is_integer bn_is_integer (by rintro ds P ⟨i, rfl, rfl⟩; rfl) ?_
  rintro Z ds P - ⟨i, rfl, rfl⟩
  exact SS_ret (E_and (E_isi h "int" true 108 (E_var 0)) fun _ => E_one (E_not (E_isi h "bool" false 106 (E_var 0)))) rfl
def R_is_word : Rel := fun ds P => ∃ s : Str, OkName s ∧ ds = [.str s] ∧ P = fun x => x = .bl true
theorem w_is_word : FnG M 1 "is_word" false R_is_word := by
  refine h.fnG 1 1 fs_is_word bn_is_word (by rintro ds P ⟨i, _, rfl, rfl⟩; rfl) ?_
  rintro Z ds P - ⟨s, ok, rfl, rfl⟩
  obtain ⟨t1, hl⟩ := h.str 122
  obtain ⟨t2, hf⟩ := h.str 123
  obtain ⟨c, e1, e2⟩ := ok.one
  have hn : s.length = s.cps.toList.length := by simp [Str.length]
  have h12 := ok.short
  have h0 : 0 < s.cps.toList.length := (List.getElem?_eq_some_iff.mp e1).1
  have hz : s.length ≤ sizeLine := Nat.le_trans (by omega : s.length ≤ 12) (by decide)
  refine SS_ifF (TP.imp (W_or (T_not (T_val (E_isi h "str" true 117 (E_var 0)))) fun _ => W_or (T_cmp (E_lenS h hz (E_var 0)) (E_callTy (A2 E_int E_int) (clRange2 1 13) (h.free 114)) (notInRng _ 1 13)) fun _ => W_or1 (T_cmp (E_ix (E_var 0) E_int (ixS hz (i := 0) (c := c) ?_)) (E_gstr hl) (notInS _ _))).t ?_) ?_
  · exact atI_zero e1
  · intro q hq
    have a1 : decide ((1 : Int) ≤ (s.length : Int) ∧ (s.length : Int) < 13) = true := decide_eq_true (by omega)
    have a2 : decide (c ∈ (Str.ofString "abcdefghijklmnopqrstuvwxyz").cps.toList) = true := decide_eq_true e2
    rw [hq, a1, a2]; rfl
  · refine SS_ret (E.of (E_all h (E_lcm [("sign", 1)] D.bl (fun c => decide (c ∈ (Str.ofString "abcdefghijklmnopqrstuvwxyz").cps.toList) || decide (c ∈ (Str.ofString "0123456789").cps.toList)) (IT_str (E_var 0)) (fun x hx => ⟨_, _, G_name 1, by decide, E_or (E_cmp (E_var 1) (E_gstr hl) (inS _ _)) fun _ => E_one (E_cmp (E_var 1) (E_gstr hf) (inS _ _))⟩) (by omega))) ?_) rfl
    have : ((s.cps.toList.map fun c => decide (c ∈ (Str.ofString "abcdefghijklmnopqrstuvwxyz").cps.toList) || decide (c ∈ (Str.ofString "0123456789").cps.toList)).all id) = true := by
      rw [List.all_eq_true]
      intro q hq
      obtain ⟨c, hc, rfl⟩ := List.mem_map.mp hq
      rcases ok.all c hc with z | z
      · show (decide _ || decide _) = true
        rw [decide_eq_true (show c ∈ (Str.ofString "abcdefghijklmnopqrstuvwxyz").cps.toList from z)]; rfl
      · show (decide _ || decide _) = true
        rw [decide_eq_true (show c ∈ (Str.ofString "0123456789").cps.toList from z), Bool.or_true]
    rw [this]
def R_is_row_words : Rel := fun ds P => ∃ (xs : List D) (n : Int), ds = [.tup xs, .int n] ∧ P = fun x => x = .bl (decide ((xs.length : Int) = n))
theorem w_is_row_words : FnG M 1 "is_row_words" false R_is_row_words := by
  refine h.fnG 2 2 fs_is_row_words bn_is_row_words (by rintro ds P ⟨i, n, rfl, rfl⟩; rfl) ?_
  rintro Z ds P - ⟨xs, n, rfl, rfl⟩
  exact SS_ret (E_and (E_isi h "tuple" true 120 (E_var 0)) fun _ => E_one (E_cmp (E_lenT h (E_var 0)) (E_var 1) (eqI _ _))) rfl
def R_wrong_person : Rel := fun ds P => ∃ (p : Per) (ks : List Str), OkName p.nm ∧ p.nm ∉ ks ∧ (p.vc = 0 ∨ p.vc = 1) ∧ ds = [perD p, .dic ks] ∧ P = fun x => x = .non
theorem w_wrong_person : FnG M 2 "wrong_person" false R_wrong_person := by
  refine h.fnG 3 3 fs_wrong_person bn_wrong_person (by rintro ds P ⟨i, n, _, _, _, rfl, rfl⟩; rfl) ?_
  rintro Z ds P - ⟨p, ks, ok, nk, vc, rfl, rfl⟩
  refine SS_ifF (T_not (T_val (EP_call (w_is_row_words h) (A2 (E_var 0) E_int) ⟨_, _, rfl, rfl⟩))) ?_
  refine SS_ifF (TP.imp (W_or (T_not (T_val (EP_call (w_is_word h) (A1 (E_ixT (d := .str p.nm) (E_var 0) E_int)) ⟨_, ok, rfl, rfl⟩))) fun _ => W_or1 (T_inD (E_ixT (d := .str p.nm) (E_var 0) E_int) (E_var 1) (.dic ks))).t fun q hq => ?_) ?_
  · rw [hq, decide_eq_false nk]; rfl
  refine SS_ifF (T_not (T_val (EP_call (w_is_integer h) (A1 (E_ixT (d := .int p.pl) (E_var 0) E_int)) ⟨_, rfl, rfl⟩))) ?_
  refine SS_ret (E.of (E_if (u := .non) (T_or (T_not (T_val (EP_call (w_is_integer h) (A1 (E_ixT (d := .int p.vc) (E_var 0) E_int)) ⟨_, rfl, rfl⟩))) fun _ => T_cmp (E_ixT (d := .int p.vc) (E_var 0) E_int) (E_tup (A2 E_int E_int)) (notInTI p.vc [0, 1])) (fun z => absurd z ?_) (fun _ => E_non)) ?_) rfl
  · simp [vc]
  · split <;> rfl
def R_wrong_people : Rel := fun ds P => ∃ ps : List Per, Good ps ∧ ds = [.lst (ps.map perD)] ∧ P = fun x => x = .non
omit h in
theorem enumD_map {α : Type} (f : α → D) (l : List α) : enumD (l.map f) = l.zipIdx.map fun q => D.tup [.int (q.2 : Int), f q.1] := by
  unfold enumD; rw [List.zipIdx_map, List.map_map]; rfl
theorem w_wrong_people : FnG M 3 "wrong_people" false R_wrong_people := by
  refine h.fnG 4 4 fs_wrong_people bn_wrong_people (by rintro ds P ⟨ps, _, rfl, rfl⟩; rfl) ?_
  rintro Z ds P - ⟨ps, gd, rfl, rfl⟩
  refine SS_ifF (T_not (T_val (E_callB (A2 (E_var 0) (E_tup (A2 (E_bty (n := "list") (h.free 111)) (E_bty (n := "tuple") (h.free 120))))) (clIsi2 (n := "list") (q := true) (q' := false) rfl rfl rfl) (h.free 109)))) ?_
  refine SS_setL 1 EL_dict0 ?_
  refine SS_fold (l := ps.zipIdx) (gf := fun q => D.tup [.int (q.2 : Int), perD q.1]) (by rw [← enumD_map]; exact IT_enum (E_var 0) (h.free 107)) (fun ks : List Str => [some (.d (.lst (ps.map perD))), some (.odic ks), none, none, none]) (fun ks q => ks ++ [q.1.nm]) [] Le.rfl' ?_ ?_
  · rintro ks pre x post e1 e2
    have hm : x.1 ∈ ps := by
      have : x ∈ ps.zipIdx := by rw [e1]; simp
      have e3 := List.fst_mem_of_mem_zipIdx this
      exact e3
    have e3 : ks = pre.map (fun q => q.1.nm) := by
      rw [e2]
      have : ∀ (l : List (Per × Nat)) (acc : List Str), l.foldl (fun ks q => ks ++ [q.1.nm]) acc = acc ++ l.map fun q => q.1.nm := by
        intro l
        induction l with
        | nil => intro acc; simp
        | cons a l ih => intro acc; rw [List.foldl_cons, ih]; simp
      rw [this]; rfl
    have e4 : ps.map (·.nm) = pre.map (fun q => q.1.nm) ++ x.1.nm :: post.map (fun q => q.1.nm) := by
      have : ps = (ps.zipIdx).map (·.1) := by simp
      rw [this, List.map_map, e1, List.map_append, List.map_cons]; rfl
    have nk : x.1.nm ∉ ks := by
      have nd := gd.nd
      rw [e4] at nd
      intro hk
      rw [e3] at hk
      exact (List.nodup_append.mp nd).2.2 _ hk _ List.mem_cons_self rfl
    have hl : ks.length < 1000 := by
      have := congrArg List.length e4
      have := gd.len
      simp at *
      rw [e3]; simp; omega
    refine ⟨_, _, G_2 (G_name 2) (G_name 3), ?_⟩
    refine SS_set 4 (E_viewD 1 (EP_call (w_wrong_person h) (A2 (E_var 3) (E_var 1)) ⟨x.1, ks, gd.nm _ hm, nk, gd.vc _ hm, rfl, rfl⟩)) ?_
    refine SS_ifF (T_notN (E_var 4)) ?_
    refine SS_dput 1 E_bl (E_ixT (d := .str x.1.nm) (E_var 3) E_int) nk hl ?_
    exact SS_nil (Le.keep (Le.keep (Le.drop (Le.drop (Le.drop Le.nil)))))
  · exact SS_ret E_non rfl
def peopleD (ps : List Per) : D := .lst (ps.map perD)
theorem w_S_people : FnM M 1 "people" (R1 peopleD) := by
  refine h.fnM 7 127 fs_S_people bn_S_people R1.len ?_
  rintro Z ds P - ⟨ps, gd, rfl, rfl⟩
  exact SS_ret (E_listVals (E_people (E_var 0) h.cls h.noat) (h.free 111)) rfl
def namesD (ps : List Per) : D := .lst (ps.map fun p => D.str p.nm)
theorem w_S_names : FnM M 1 "names" (R1 namesD) := by
  refine h.fnM 8 128 fs_S_names bn_S_names R1.len ?_
  rintro Z ds P - ⟨ps, gd, rfl, rfl⟩
  exact SS_ret (E_callTy (A1 (E_people (E_var 0) h.cls h.noat)) clListP (h.free 111)) rfl
theorem w_S_has_name : FnM M 2 "has_name" (R1N fun _ _ => .bl true) := by
  refine h.fnM 9 129 fs_S_has_name bn_S_has_name R1N.len ?_
  rintro Z ds P - ⟨ps, n, gd, hn, rfl, rfl⟩
  have ok : OkName n := by obtain ⟨a, b⟩ := perOf_spec hn; rw [← b]; exact gd.nm _ a
  refine SS_ret (E_and (EP_call (w_is_word h) (A1 (E_var 1)) ⟨_, ok, rfl, rfl⟩) fun _ => E_one (E_inD (E_var 1) (E_people (E_var 0) h.cls h.noat) (.pdic ps))) ?_
  rw [decide_eq_true hn]; rfl
theorem w_S_person : FnM M 3 "person" (R1N fun ps n => perD (perOf ps n)) := by
  refine h.fnM 10 130 fs_S_person bn_S_person R1N.len ?_
  rintro Z ds P - ⟨ps, n, gd, hn, rfl, rfl⟩
  obtain ⟨e1, e2⟩ := perOf_spec hn
  refine SS_ifF (T_not (T_val (EP_meth h.cls (w_S_has_name h) (E_var 0) (A1 (E_var 1)) ⟨_, _, gd, hn, rfl, rfl⟩))) ?_
  exact SS_ret (E_pget (E_people (E_var 0) h.cls h.noat) (E.of (E_var 1) (by rw [e2])) gd.nd e1) rfl
theorem w_S_place : FnM M 4 "place" (R1N fun ps n => .int (plc ps n)) := by
  refine h.fnM 11 131 fs_S_place bn_S_place R1N.len ?_
  rintro Z ds P - ⟨ps, n, gd, hn, rfl, rfl⟩
  exact SS_ret (E_ixT (EP_meth h.cls (w_S_person h) (E_var 0) (A1 (E_var 1)) ⟨_, _, gd, hn, rfl, rfl⟩) E_int) rfl
theorem w_S_voice : FnM M 4 "voice" (R1N fun ps n => .int (perOf ps n).vc) := by
  refine h.fnM 12 132 fs_S_voice bn_S_voice R1N.len ?_
  rintro Z ds P - ⟨ps, n, gd, hn, rfl, rfl⟩
  exact SS_ret (E_ixT (EP_meth h.cls (w_S_person h) (E_var 0) (A1 (E_var 1)) ⟨_, _, gd, hn, rfl, rfl⟩) E_int) rfl
def stopsD (ps : List Per) : D := intsD (stops ps)
theorem w_S_places : FnM M 2 "places" (R1 stopsD) := by
  refine h.fnM 13 133 fs_S_places bn_S_places R1.len ?_
  rintro Z ds P - ⟨ps, gd, rfl, rfl⟩
  have l8 := gd.len
  refine SS_ret (E_sortedSet (l := ps) (gf := perD) (h := (·.pl)) (ns := stops ps) [("name", 1), ("place", 2), ("voice", 3)] (IT_list (EP_meth0 h.cls (w_S_people h) (E_var 0) ⟨_, gd, rfl, rfl⟩)) ⟨rfl, by decide +kernel, by decide +kernel, by decide +kernel, by decide +kernel⟩ (fun x hx => ⟨_, _, G_3 (G_name 1) (G_name 2) (G_name 3), by decide, E_var 2⟩) (by omega) (fun ms up mem => up_unique up (stops_up ps) fun k => by rw [mem, stops_mem]; simp) (h.free 116)) rfl
theorem w_S_at : FnM M 2 "at" (R1I fun ps y => strsD ((crowd ps y).map (·.nm))) := by
  refine h.fnM 14 134 fs_S_at bn_S_at R1I.len ?_
  rintro Z ds P - ⟨ps, y, gd, rfl, rfl⟩
  have l8 := gd.len
  exact SS_ret (E_lcc [("name", 2), ("here", 3), ("voice", 4)] (fun p => decide (p.pl = y)) D.str (·.nm) (IT_list (EP_meth0 h.cls (w_S_people h) (E_var 0) ⟨_, gd, rfl, rfl⟩)) (fun x hx => ⟨_, _, G_3 (G_name 2) (G_name 3) (G_name 4), by decide, .inr ⟨_, rfl, T_and (T_val (EP_call (w_is_integer h) (A1 (E_var 1)) ⟨_, rfl, rfl⟩)) fun _ => T_cmp (E_var 3) (E_var 1) (eqI _ _)⟩, fun _ => E_var 2⟩) (by omega)) rfl
theorem w_S_voices : FnM M 2 "voices" (R1 fun ps => .int (vsum ps)) := by
  refine h.fnM 16 136 fs_S_voices bn_S_voices R1.len ?_
  rintro Z ds P - ⟨ps, gd, rfl, rfl⟩
  have l8 := gd.len
  exact SS_ret (E_sum h (E_lcm [("name", 1), ("place", 2), ("voice", 3)] D.int (·.vc) (IT_list (EP_meth0 h.cls (w_S_people h) (E_var 0) ⟨_, gd, rfl, rfl⟩)) (fun x hx => ⟨_, _, G_3 (G_name 1) (G_name 2) (G_name 3), by decide, E_var 3⟩) (by omega))) rfl
theorem w_S_is_together : FnM M 3 "is_together" (R1 fun ps => .bl (decide ((stops ps).length < 2))) := by
  refine h.fnM 17 137 fs_S_is_together bn_S_is_together R1.len ?_
  rintro Z ds P - ⟨ps, gd, rfl, rfl⟩
  refine SS_ret (E_cmp (E_lenL h (EP_meth0 h.cls (w_S_places h) (E_var 0) ⟨_, gd, rfl, rfl⟩)) E_int (ltI _ _)) ?_
  rw [List.length_map]
  have : decide (((stops ps).length : Int) < 2) = decide ((stops ps).length < 2) := decide_eq_decide.mpr (by omega)
  rw [this]
end
end OC
set_option maxHeartbeats 4000000
/-! Making a standing. -/
namespace OC
open PySem PySem.Spec PyProof.Rows L2
theorem perRD_inv {C S : Addr} {H : Hp} {p : Per} {v : V} (h : RD C S H (perD p) v) : ∃ t, v = .ref t ∧ H t = some (.tup (perV p)) := by
  cases h with
  | tup h1 h2 => cases h2 with
    | cons a1 h2 => cases h2 with
      | cons a2 h2 => cases h2 with
        | cons a3 h2 => cases h2; cases a1; cases a2; cases a3; exact ⟨_, rfl, h1⟩
theorem Paired.snoc {α β : Type} {F : α → β → Prop} {a : α} {b : β} : ∀ {l : List α} {m : List β}, Paired F l m → F a b → Paired F (l ++ [a]) (m ++ [b])
  | _, _, .nil, h => .cons h .nil
  | _, _, .cons x t, h => .cons x (Paired.snoc t h)
section
variable {M : Mo} {g : G} {Z : Sc} {e a b tg it kx vx : Expr} {r r1 r2 : Rho} {pos : Pos}
theorem EP.go {P : D → Prop} {X : Cx} {B0 H0 B H : Hp} {σ : L2.St} {Q : VK} (h : EP M g Z e r P) (ok : Okx M g X) (R : RS M.C Z B0 H0 B H r σ) (q : ∀ x v B' H', P x → Fr Z B H B' H' → RD M.C Z.s B' x v → Q v H') : wE X e σ H Q := h X ok B0 H0 B H σ R Q q
theorem TP.go {P : Bool → Prop} {X : Cx} {B0 H0 B H : Hp} {σ : L2.St} {Q : Bool → Hp → Prop} (h : TP M g Z e r P) (ok : Okx M g X) (R : RS M.C Z B0 H0 B H r σ) (q : ∀ x B' H', P x → Fr Z B H B' H' → Q x H') : wT X e σ H Q := h X ok B0 H0 B H σ R Q q
/-- {person[0]: person for person in people} -/
theorem E_dcP {ps : List Per} {scope : Scope} (own : List (Str × Nat)) (hi : IT M g Z tg it r (ps.map perD)) (nd : (ps.map (·.nm)).Nodup)
    (hb : ∀ p ∈ ps, ∃ r1 is, GT M (g.blk scope) Z tg (perD p) (wipeR r (own.map (·.2))) r1 is ∧ (∀ j ∈ is, j ∈ own.map (·.2)) ∧ E M (g.blk scope) Z kx r1 (.str p.nm) ∧ E M (g.blk scope) Z vx r1 (perD p))
    (hl : ps.length ≤ 1000) (ok' : BlkOk g.N g.sc scope own := by exact ⟨rfl, by decide +kernel, by decide +kernel, by decide +kernel, by decide +kernel⟩) (hs : ∀ env x, foldedSetIterable it env x = pure x := by intro _ _; rfl) :
    E M g Z (.DictComp kx vx [⟨tg, it, [], 0⟩] scope pos) r (.pdic ps) := fun X ok B0 H0 B H σ R Q q => by
  refine ⟨_, pe_dc (own := own) ok.calm ok.nd pi_w (by rw [ok.N, ok.sc]; exact ok') pg_b (fun _ _ _ _ _ => pts_nil) pe_b pe_b (hs _), ?_⟩
  refine hi X ok B0 H0 B H σ R _ fun ds J B1 H1 pds f1 wk => ?_
  subst pds
  intro Dl hD
  have nH : H Dl = none := f1.free R.src hD
  have nB : B1 Dl = none := f1.s.n hD
  have nZ := R.src.ne nH
  refine ⟨fun i m H' => m = ps.length - i ∧ i ≤ ps.length ∧ ∃ B' kvs, Ex B1 B' ∧ Fr Z B H B' H' ∧ B' Dl = none ∧ H' Dl = some (.dK kvs) ∧ KvP B' (ps.take i) kvs, ⟨ps.length, rfl, Nat.zero_le _, B1, [], Ex.rfl', f1.grow R.src nH nB, nB, upd_same, .nil⟩, ?_⟩
  rintro i m H' ⟨rfl, hle, B', kvs, eB, fr, nb, hx, hk⟩
  obtain ⟨wgo, wstop⟩ := wk B' H' eB fr.s fr.src i
  by_cases hlt : i < ps.length
  · have hd1 : (ps.map perD)[i]? = some (perD ps[i]) := by simp [hlt]
    obtain ⟨go, yl⟩ := wgo _ hd1
    refine .inr ⟨go, fun H3 => ∃ B' kvs, Ex B1 B' ∧ Fr Z B H B' H3 ∧ B' Dl = none ∧ H3 Dl = some (.dK kvs) ∧ KvP B' (ps.take (i + 1)) kvs, fun H3 q3 => ⟨ps.length - (i + 1), by omega, rfl, hlt, q3⟩, fun x H'' y => ?_⟩
    obtain ⟨B'', f2, rd⟩ := yl x H'' y
    obtain ⟨r1, is, gt, hin, hk1, hv1⟩ := hb ps[i] (List.getElem_mem hlt)
    have Rw := ((R.step fr).wipe (own.map (·.2))).step f2
    intro s Hs Cc cl fp
    refine gt _ ok.blk B0 H0 B'' H'' _ x Rw rd _ fun σ2 R2 so => ⟨so.wipe hin, ?_⟩
    dsimp only [tYes]
    rw [if_pos rfl]
    intro s Hs Cc cl fp
    refine hk1 _ ok.blk B0 H0 B'' H'' σ2 R2 _ fun y v B3 H3 py f3 r3 => ?_
    subst py; cases r3
    intro s Hs Cc cl fp
    refine hv1 _ ok.blk B0 H0 B3 H3 σ2 (R2.step f3) _ fun y v B4 H4 py f4 r4 => ?_
    subst py
    obtain ⟨t, rfl, ht⟩ := perRD_inv r4
    have f24 := (f2.tr f3 fr.src).tr f4 fr.src
    have nb4 : B4 Dl = none := f24.hid _ _ hx nb
    have lk : kvs.length = i := by
      have := Paired.length hk
      rw [List.length_take] at this; omega
    refine ⟨kvs, Sum.inr ps[i].nm, rfl, f24.h _ _ hx nZ, by rw [lk]; exact Nat.lt_of_lt_of_le (by omega : i < 1000) (by decide), B4, kvs ++ [(Sum.inr ps[i].nm, .ref t)], eB.tr f24.b, (fr.tr f24 R.src).grow R.src nH nb4, nb4, ?_, ?_⟩
    · have hnone : (kvs.any fun kv => decide (kv.1 = (Sum.inr ps[i].nm : Key))) = false := by
        rw [List.any_eq_false]
        intro kv hkv z
        have e2 : kv.1 ∈ kvs.map (·.1) := List.mem_map.mpr ⟨kv, hkv, rfl⟩
        rw [KvP.keys hk, of_decide_eq_true z] at e2
        obtain ⟨n, hn, e3⟩ := List.mem_map.mp e2
        have e3 : n = ps[i].nm := by injection e3
        subst e3
        have e4 : ps.map (·.nm) = (ps.take i).map (·.nm) ++ ps[i].nm :: (ps.drop (i + 1)).map (·.nm) := by
          conv => lhs; rw [← List.take_append_drop i ps, List.drop_eq_getElem_cons hlt]
          rw [List.map_append, List.map_cons]
        rw [e4] at nd
        exact (List.nodup_append.mp nd).2.2 _ hn _ List.mem_cons_self rfl
      rw [upd_same]
      unfold putK; rw [if_neg (by rw [hnone]; decide)]
    · rw [List.take_succ, List.getElem?_eq_getElem hlt]
      exact Paired.snoc (hk.mono f24.b) ⟨rfl, t, rfl, ht⟩
  · have e : i = ps.length := by omega
    subst e
    refine .inl ⟨wstop (by simp), q (.pdic ps) _ (upd B' Dl (.dK kvs)) H' rfl (fr.give nH (R.sB.n nH) hx) (.pdic upd_same ?_)⟩
    rw [List.take_length] at hk
    exact hk.mono (Ex.new nb)
end
/-- what __init__ promises -/
def spInit (C : Addr) : Sp := fun vs H Q _ => ∃ (Z : Sc) (B : Hp) (ps : List Per) (x dx : Addr) (v : V), vs = [.ref x, v] ∧ Good ps ∧ H x = some (.ins C dx []) ∧ B x = none ∧ Z.on = false ∧ Ex B H ∧ RD C Z.s B (.lst (ps.map perD)) v ∧
  ∀ B' H' d, Fr Z B H B' H' → RD C Z.s B' (.pdic ps) (.ref d) → Q .non (upd H' x (.ins C dx [("own_people", .ref d)]))
section
variable {M : Mo} (h : Hd M)
include h
theorem w_S_init : ∃ fd, FnOk M.P M.w M.K M.mg M.base CX0 4 (He.ma M.K (He.ga M.K "Standing") "__init__") fd ["self", "people"] (spInit M.C) ∧ Binds M.K fd ["self", "people"] [] := by
  obtain ⟨fd, F⟩ := h.c.def_ 5 (d := d_S_init) rfl
  refine ⟨fd, FunD.ok F fs_S_init (fun vs H Q E hh => ?_) (fun cdv A outer s H vs Q E hr hh => ?_), FunD.bindsN F bn_S_init⟩
  · obtain ⟨Z, B, ps, x, dx, v, rfl, _⟩ := hh; rfl
  · obtain ⟨Z, B, ps, x, dx, v, rfl, gd, hx, nx, zo, eB, rd, q⟩ := hh
    have ok : Okx M ⟨N_S_init, d_S_init.scope, fun _ => true, 3⟩ (cxOf CX0 M.P M.w M.K M.mg M.base N_S_init d_S_init.qual d_S_init.scope (He.ma M.K (He.ga M.K "Standing") "__init__") cdv A outer s H E).nox := ⟨rfl, rfl, rfl, rfl, rfl, rfl, fs_S_init.nd, rfl, rfl, rfl, hr, rfl⟩
    have src : ∀ H', SrcOk Z H' := fun H' z => by rw [zo] at z; cases z
    have R0 : RS M.C Z B H B H [none, some (.d (.lst (ps.map perD))), none, none] (L2.start N_S_init [.ref x, v]) := by
      refine ⟨src H, fun z => (by rw [zo] at z; cases z), Fr.rfl' eB (src H), rfl, fun i l e => ?_, fun i j l m u w a e1 e2 e3 e4 ne k1 k2 => ?_⟩
      · match i, e with
        | 0, e => cases e
        | 1, e => cases e; exact ⟨v, rfl, rd⟩
        | 2, e => cases e
        | 3, e => cases e
        | i + 4, e => simp at e
      · match i, e1 with
        | 0, e => cases e
        | 1, e => cases e; cases u <;> exact k1
        | 2, e => cases e
        | 3, e => cases e
        | i + 4, e => simp at e
    have l8 := gd.len
    have key : wSs (cxOf CX0 M.P M.w M.K M.mg M.base N_S_init d_S_init.qual d_S_init.scope (He.ma M.K (He.ga M.K "Standing") "__init__") cdv A outer s H E).nox d_S_init.body { nx := fun _ H' => Q .non H', rt := Q } (L2.start N_S_init [.ref x, v]) H := by
      refine ⟨_, pss_cons (ps_set (i := 2) ok.nd rfl (.inl rfl) pe_w rfl (.inl rfl)) (pss_cons (ps_if pt_w pss_w pss_nil) (pss_one (ps_fld (pe_var (i := 0) rfl (.inl rfl)) pe_w rfl))), ?_⟩
      refine EP.go (P := fun x => x = .non) ?h1 ok R0 fun y u B1 H1 py f1 r1 => ?_
      case h1 => exact EP_call (w_wrong_people h) (A1 (E_var 1)) ⟨ps, gd, rfl, rfl⟩
      subst py
      have R1 := (R0.step f1).set (i := 2) r1
      refine TP.go (P := fun x => x = false) ?h2 ok R1 fun b B2 H2 pb f2 => ?_
      case h2 => exact T_notN (x := .non) (E_var 2)
      subst pb
      refine iteF ?_
      have R2 := R1.step f2
      refine EP.go (P := fun x => x = .pdic ps) ?h3 ok R2 fun y u B3 H3 py f3 r3 => ?_
      case h3 => exact E_dcP [("person", 3)] (IT_list (E_var 1)) gd.nd (fun p hp => ⟨_, _, G_name 3, by decide, E_ixT (d := .str p.nm) (E_var 3) E_int, E_var 3⟩) (by omega)
      subst py
      have ff := (f1.tr f2 (src _)).tr f3 (src _)
      have hx3 : H3 x = some (.ins M.C dx []) := ff.h x _ hx (fun z => (by rw [zo] at z; cases z))
      obtain ⟨d, rfl⟩ : ∃ d, u = .ref d := by cases r3; exact ⟨_, rfl⟩
      exact ⟨.ref x, rfl, x, M.C, dx, [], rfl, hx3, h.cls, h.noat, by decide, q B3 H3 d ff r3⟩
    obtain ⟨t, k1, k2⟩ := key
    exact ⟨t, PSs.nox k1, k2⟩
end
section
variable {M : Mo} (h : Hd M) {g : G} {Z : Sc} {e a : Expr} {r : Rho} {pos p : Pos}
include h
/-- Standing(people) -/
theorem E_make {ps : List Per} (gd : Good ps) (ha : E M g Z a r (.lst (ps.map perD))) (hj : 5 ≤ g.k := by decide) (hg : GlS g "Standing" := by rfl) (hs : ∀ env, starEach [a] env = (false, eval a env) :: starEach [] env := by intro _; rfl) : E M g Z (.Call (.Name "Standing" p) [a] [] pos) r (.std ps) := fun X ok B0 H0 B H σ R Q q => by
  obtain ⟨fd, F, bd⟩ := w_S_init h
  have mk := h.mkr
  refine ⟨_, pe_make (C := M.C) (by rw [ok.K]; exact mk) (ok.fn' F) (ok.room.mono hj) (ok.gl hg) (by rw [ok.mg, h.glo 103 rfl, h.C]) (by rw [ok.K]; exact bd) .nil pass0 (pa_cons pe_w pa_nil (hs _)) (by decide) (hs _), ?_⟩
  refine ha X ok B0 H0 B H σ R _ fun y v B1 H1 py f1 r1 => ?_
  subst py
  intro x dx nx ndx ne
  have nx0 := f1.free R.src nx
  have bx : B1 x = none := f1.s.n nx
  have bdx : B1 dx = none := f1.s.n ndx
  have e12 : Ex H1 (upd (upd H1 dx (.own x)) x (.ins M.C dx [])) := (Ex.new ndx).tr (Ex.new (by rw [upd_ne (Ne.symm ne)]; exact nx))
  refine ⟨Z.off, B1, ps, x, dx, v, rfl, gd, upd_same, bx, rfl, f1.s.tr e12, r1, fun B' H' d f rd => ⟨rfl, ?_⟩⟩
  have hx : H' x = some (.ins M.C dx []) := f.h x _ upd_same fun z => nomatch z
  have bx' : B' x = none := f.hid x _ upd_same bx
  have f' : Fr Z B1 H1 B' H' := ⟨f.b, fun a o e _ => f.h a o (e12 a o e) fun z => (nomatch z), f.s, fun a o e n => f.hid a o (e12 a o e) n, fun z => by
    obtain ⟨ne, cs, l, m, t, a1, a2, a3, a4, e1, e2⟩ := f1.src z
    exact ⟨ne, cs, l, m, t, a1, a2, a3, a4, f.h _ _ (e12 _ _ e1) fun z => (nomatch z), f.h _ _ (e12 _ _ e2) fun z => (nomatch z)⟩⟩
  have f2 := f1.tr f' R.src
  refine q (.std ps) _ (upd B' x (.ins M.C dx [("own_people", .ref d)])) _ rfl ⟨f2.b.updR (R.sB.n nx0), fun a o e z => ?_, ?_, fun a o e n => ?_, f2.src.upd' (f1.src.ne nx)⟩ ?_
  · rw [upd_ne (ne_of_none e nx0)]; exact f2.h a o e z
  · exact f2.s.upd2
  · rw [upd_ne (ne_of_none e nx0)]; exact f2.hid a o e n
  · have nd : d ≠ x := by
      intro z; subst z
      cases rd with
      | pdic h1 _ => rw [bx'] at h1; cases h1
    cases rd with
    | pdic h1 h2 => exact .std upd_same (by rw [upd_ne nd]; exact h1) (h2.mono (Ex.new bx'))
end
end OC
set_option maxHeartbeats 4000000
/-! sorted(names, key=standing.place). -/
namespace OC
open PySem PySem.Spec PyProof.Rows L2
section
variable {X : Cx} {pins : List (Addr × Obj)} {σ : L2.St} {H : Hp} {s : Shared}
abbrev deepX (X : Cx) : Cx := { X with A := X.A.in1.in1 }
theorem inv_deep (I : Inv X pins σ H s) : Inv (deepX X) pins σ H s :=
  ⟨⟨I.ok.mod, I.ok.kind, I.ok.glob, I.ok.blt, I.ok.above, I.ok.inj, I.ok.has, I.ok.cab, I.ok.hd, I.ok.frames, I.ok.stk, I.ok.exf, I.ok.bs, I.ok.bsz, I.ok.noex, I.ok.exfs, I.ok.funs, I.ok.frf⟩, I.os, I.bare, I.base, I.loc, I.cell, I.free, I.freeC, I.pin, I.hok, I.len⟩
theorem inv_up (ok : X.Ok) (I : Inv (deepX X) pins σ H s) : Inv X pins σ H s := ⟨ok, I.os, I.bare, I.base, I.loc, I.cell, I.free, I.freeC, I.pin, I.hok, I.len⟩
def strOf : Value → Str
  | .str z _ => z
  | _ => ""
theorem vals_strs : ∀ {zs : List Str} {vs : List Value}, Vals (zs.map V.str) vs → zs = vs.map strOf ∧ ∀ v ∈ vs, ∃ z t, v = .str z t
  | [], _, .nil => ⟨rfl, fun v h => nomatch h⟩
  | z :: zs, _, .cons ⟨t, e⟩ r => by
    obtain ⟨a, b⟩ := vals_strs r
    subst e
    refine ⟨by rw [List.map_cons, ← a]; rfl, fun v hv => ?_⟩
    rcases List.mem_cons.mp hv with e | hv
    · exact ⟨z, t, e⟩
    · exact b v hv
theorem strs_vals : ∀ {vs : List Value}, (∀ v ∈ vs, ∃ z t, v = .str z t) → Vals ((vs.map strOf).map V.str) vs
  | [], _ => .nil
  | v :: vs, h => by
    obtain ⟨z, t, e⟩ := h v List.mem_cons_self
    subst e
    exact .cons ⟨t, rfl⟩ (strs_vals fun w hw => h w (List.mem_cons_of_mem _ hw))
theorem sorted_met {l q f a : Addr} {zs : List Str} {Q : VK} (g : Str → Int) (J : Hp → Prop) (I : Inv X pins σ H s) (j0 : J H) (jq : ∀ H', J H' → H' q = some (.met f a)) (hl : H l = some (.lst (zs.map V.str))) (h64 : zs.length < 64)
    (turn : ∀ z ∈ zs, ∀ H' pins' s' t, J H' → Inv (deepX X) pins' σ H' s' → codeAny (model X.prog X.w) (deepX X).A (.call (.ref f) ⟨[.ref a, .str z t], []⟩) (fun r s' => match r with | .ok (.ret v) => L2.EP (deepX X) pins' σ (fun v H'' => v = .int (g z) ∧ J H'') v s' | .ok _ => False | .error _ => False) s')
    (done : ∀ (H' : Hp) (out : List Str) (p : Addr), J H' → out.Perm zs → out.Pairwise (fun x y => g x ≤ g y) → H' p = none → Q (.ref p) (upd H' p (.lst (out.map V.str)))) :
    wpAny (model X.prog X.w) X.A (call (.builtin "sorted") [.ref l] [(Str.ofString "key", .ref q)]) (L2.EP X pins σ Q) X.xe s := by
  obtain ⟨hz, vs, n, rv, hlen, hgl⟩ := I.lstM hl
  rw [List.length_map] at hlen
  obtain ⟨ez, vstr⟩ := vals_strs rv
  have isl : s.heap.IsList l vs.toArray := ⟨_, hgl, rfl, n, rfl⟩
  have vz : vs.length ≤ sizeLine := by rw [← hlen, sizeLine_eq]; omega
  refine call_function_entry_kw kind_sorted plain_sorted entry_sorted (ksk_s1 _ _) ?_
  unfold Builtin.«sorted»
  refine wpAny_bind (m := checkCount "sorted" 1 1 _) (wpAny_pure (wpAny_bind (collect_list isl ?_ vz)))
  refine wpAny_bind (wpAny_newList ?_ vz)
  generalize hn0 : s.heap.objs.size = n0
  have sz1 : ((s.heap.push (seqObj "list" #[] 0)).update n0 (Obj.mapSeq (· ++ vs.toArray))).objs.size = n0 + 1 := by rw [Heap.size_update, size_push', hn0]
  have fresh0 : ∀ b o, s.heap.get? b = some o → b < n0 := fun b o e => hn0 ▸ Heap.lt_size e
  have keep1 : ∀ b o, s.heap.get? b = some o → ((s.heap.push (seqObj "list" #[] 0)).update n0 (Obj.mapSeq (· ++ vs.toArray))).get? b = some o := fun b o e => by
    rw [Heap.get?_update_ne _ _ _ _ (Nat.ne_of_lt (fresh0 b o e))]
    exact Heap.get?_push_of_some _ e
  generalize hh1 : (s.heap.push (seqObj "list" #[] 0)).update n0 (Obj.mapSeq (· ++ vs.toArray)) = h1 at sz1 keep1
  have I1 : Inv X pins σ H { s with heap := h1 } := I.kept (t' := s.toks) keep1
  -- the list that is sorted
  have hoA : (h1.push (seqObj "list" vs.toArray 0)).get? (n0 + 1) = some (seqObj "list" vs.toArray 0) := by rw [← sz1]; exact Heap.get?_push_size _ rfl
  show wpAny _ _ _ _ _ { s with heap := h1.push (seqObj "list" vs.toArray 0) }
  rw [sz1]
  refine wpAny_bind (wpAny_holding (wpAny_call_entry_kw slot_list_sort ⟨_, hoA, rfl⟩ entry_list_sort ?body (ksk_l1 _ _)))
  case body =>
    show wpAny (model X.prog X.w) X.A.in1.in1 (Builtin.«list.sort» ⟨[.ref (n0 + 1)], [(Str.ofString "key", .ref q)]⟩) _ _ _
    rw [ksk_t1]
    have keep2 : ∀ b o, h1.get? b = some o → ((h1.push (seqObj "list" vs.toArray 0)).update (n0 + 1) (Obj.mapSeq fun _ => (#[] : Array Value))).get? b = some o := fun b o e => by
      rw [Heap.get?_update_ne _ _ _ _ (Nat.ne_of_lt (by rw [← sz1]; exact Heap.lt_size e))]
      exact Heap.get?_push_of_some _ e
    obtain ⟨ep, hoA2⟩ : ∃ ep, ((h1.push (seqObj "list" vs.toArray 0)).update (n0 + 1) (Obj.mapSeq fun _ => (#[] : Array Value))).get? (n0 + 1) = some (seqObj "list" #[] ep) := ⟨_, get?_update_seq hoA fun _ => #[]⟩
    have sz2 : ((h1.push (seqObj "list" vs.toArray 0)).update (n0 + 1) (Obj.mapSeq fun _ => (#[] : Array Value))).objs.size = n0 + 2 := by rw [Heap.size_update, size_push', sz1]
    unfold ksk_tree
    refine wpAny_bind (listItems_at hoA rfl (wpAny_bind (listUpdate_at hoA rfl ?_ (by rw [List.size_toArray]; exact vz) (Nat.zero_le _))))
    show wpAny _ _ _ _ _ { s with heap := (h1.push (seqObj "list" vs.toArray 0)).update (n0 + 1) (Obj.mapSeq fun _ => (#[] : Array Value)) }
    generalize hh2 : (h1.push (seqObj "list" vs.toArray 0)).update (n0 + 1) (Obj.mapSeq fun _ => (#[] : Array Value)) = h2 at keep2 hoA2 sz2
    refine wpAny_bind (seqEpoch_at hoA2 rfl (wpAny_bind (wpAny_newTuple ?_ (by show vs.length ≤ _; exact vz))))
    refine wpAny_bind (wpAny_newList ?_ (Nat.zero_le _))
    have sz3 : (h2.push (seqObj "tuple" vs.toArray 0)).objs.size = n0 + 3 := by rw [size_push', sz2]
    refine wpAny_holding ?_
    show wpAny _ _ (ksk_rest (n0 + 1) (.ref q) false vs.toArray ep (.ref (h2.push (seqObj "tuple" vs.toArray 0)).objs.size)) _ _ { s with heap := (h2.push (seqObj "tuple" vs.toArray 0)).push (seqObj "list" #[] 0) }
    rw [sz3]
    have hoK : ((h2.push (seqObj "tuple" vs.toArray 0)).push (seqObj "list" #[] 0)).get? (n0 + 3) = some (seqObj "list" #[] 0) := by rw [← sz3]; exact Heap.get?_push_size _ rfl
    have hoA4 : ((h2.push (seqObj "tuple" vs.toArray 0)).push (seqObj "list" #[] 0)).get? (n0 + 1) = some (seqObj "list" #[] ep) := Heap.get?_push_of_some _ (Heap.get?_push_of_some _ hoA2)
    have keep4 : ∀ b o, s.heap.get? b = some o → ((h2.push (seqObj "tuple" vs.toArray 0)).push (seqObj "list" #[] 0)).get? b = some o := fun b o e => Heap.get?_push_of_some _ (Heap.get?_push_of_some _ (keep2 b o (keep1 b o e)))
    generalize (h2.push (seqObj "tuple" vs.toArray 0)).push (seqObj "list" #[] 0) = h4 at hoK hoA4 keep4
    have I4 : Inv X pins σ H { s with heap := h4 } := I.kept (t' := s.toks) keep4
    have fp : ∀ b, n0 ≤ b → ∀ H', H' b = none → FpOk X pins H' b := fun b hb H' hn => I.fpOk (by rw [hn0]; exact hb) hn
    unfold ksk_rest
    refine wpAny_bind (wpAny_rule ?_)
    first
      | rw [List.forIn_toArray]
      | (rw [← Array.forIn_toList]; simp only [List.toList_toArray])
      | rw [← Array.forIn_toList]
    refine wpAny_bind (ksk_fold (fun i s' => ∃ H' kA e, J H' ∧ H' (n0 + 1) = none ∧ H' (n0 + 3) = none ∧ Inv X pins σ H' s' ∧ s'.heap.get? (n0 + 3) = some (seqObj "list" kA e) ∧ s'.heap.get? (n0 + 1) = some (seqObj "list" #[] ep) ∧ IntsAre kA.toList ((zs.map g).take i)) vs 0 _
      ⟨H, #[], 0, j0, I.hok.fresh (by omega), I.hok.fresh (by omega), I4, hoK, hoA4, by simpa using IntsAre.nil⟩ ?step ?fin)
    case step =>
      rintro j x s5 hx ⟨H5, kA, e, j5, a5, k5, I5, hk, ha, ik⟩
      rw [Nat.zero_add] at ik ⊢
      have hj : j < vs.length := (List.getElem?_eq_some_iff.mp hx).1
      obtain ⟨z, t, rfl⟩ := vstr x (List.mem_of_getElem? hx)
      have hzj : zs[j]? = some z := by rw [ez, List.getElem?_map, hx]; rfl
      have hkz : kA.size ≤ vs.length := by
        have h1 := ik.length
        rw [Array.length_toList, List.length_take, List.length_map] at h1
        omega
      have P5 := I5.pinned (fp := [n0 + 1, n0 + 3]) (fun b hb => by
        rcases List.mem_cons.mp hb with r | hb
        · subst r; exact fp _ (by omega) _ a5
        · rw [List.mem_singleton.mp hb]; exact fp _ (by omega) _ k5) (fun b hb => by
        rcases List.mem_cons.mp hb with r | hb
        · subst r; exact ⟨_, ha, fun v w => nomatch w⟩
        · rw [List.mem_singleton.mp hb]; exact ⟨_, hk, fun v w => nomatch w⟩)
      have call1 : wpAny (model X.prog X.w) (deepX X).A (call (.ref q) [.str z t]) (fun v s6 => L2.EP (deepX X) (pins ++ pinsAt [n0 + 1, n0 + 3] s5.heap) σ (fun v H'' => v = .int (g z) ∧ J H'') v s6) (fun _ _ => False) s5 :=
        wpAny_call (E := fun _ _ => False) (PySem.W.method_call (P5.hok q _ (jq _ j5)) (turn z (List.mem_of_getElem? hzj) H5 _ s5 t j5 (inv_deep P5)))
      refine wpAny_bind (wpAny_attempt (wpAny_mono call1 (fun v s6 hv => ?_) fun _ _ w => w.elim))
      obtain ⟨v', H6, I6', rv, e6, j6⟩ := hv
      subst e6
      obtain ⟨t2, rfl⟩ := rv
      have I6 : Inv X _ σ H6 s6 := inv_up I.ok I6'
      have pk := I6.pin (n0 + 3, seqObj "list" kA e) (List.mem_append_right _ (List.mem_append_right _ (mem_pinsAt (by simp) hk)))
      have pa := I6.pin (n0 + 1, seqObj "list" #[] ep) (List.mem_append_right _ (List.mem_append_right _ (mem_pinsAt (by simp) ha)))
      have I7 : Inv X pins σ H6 s6 := I6.unpinned
      have s1 := Heap.SameBut.update s6.heap (n0 + 3) (Obj.mapSeq (·.push (.int (g z) t2)))
      obtain ⟨c2, hc2⟩ : ∃ c2, (s6.heap.update (n0 + 3) (Obj.mapSeq (·.push (.int (g z) t2)))).get? (n0 + 3) = some (seqObj "list" (kA.push (.int (g z) t2)) c2) := ⟨_, get?_update_seq pk.1 (·.push (.int (g z) t2))⟩
      obtain ⟨f0, f1, f2, f3, f4, f5⟩ := fp (n0 + 3) (by omega) H6 pk.2.1
      have I8 : Inv X pins σ H6 { s6 with heap := s6.heap.update (n0 + 3) (Obj.mapSeq (·.push (.int (g z) t2))) } := I7.turned (t' := s6.toks) (fun b o ne e => (s1.2 b ne).trans e) f0 f1 f3 f4 f5
      try dsimp only
      refine wpAny_bind (listUpdate_at pk.1 rfl ?_ (by rw [sizeLine_eq]; omega) (Nat.le_trans (Nat.le_of_eq (Array.size_push ..)) (by rw [sizeLine_eq]; omega)))
      refine wpAny_pure ⟨rfl, H6, kA.push (.int (g z) t2), c2, j6, pa.2.1, pk.2.1, I8, hc2, (s1.2 (n0 + 1) (by show ¬ ((n0 + 1 : Nat) = n0 + 3); omega)).trans pa.1, ?_⟩
      have ek : (zs.map g).take (j + 1) = (zs.map g).take j ++ [g z] := by rw [List.take_add_one, List.getElem?_map, hzj]; rfl
      rw [ek, Array.toList_push]
      exact ksk_snoc ik
    case fin =>
      rintro s5 ⟨H5, kA, e, j5, a5, k5, I5, hk, ha, ik⟩
      rw [Nat.zero_add, List.take_of_length_le (by rw [List.length_map]; omega)] at ik
      try dsimp only
      refine wpAny_bind (listItems_at hk rfl ?_)
      obtain ⟨m, hm, _⟩ := id I5.loc
      have fa := fp (n0 + 1) (by omega) H5 a5
      have fk := fp (n0 + 3) (by omega) H5 k5
      have noB : ∀ b, n0 ≤ b → X.base.get? b = none := fun b hb => by
        cases qq : X.base.get? b with
        | none => rfl
        | some u => exact absurd (fresh0 b u (I.bk b u qq)) (Nat.not_lt.mpr hb)
      have F5 : PyProof.Rows.Fr X.base X.env.locals s5.heap m := ⟨hm, fun b o e => I5.bk b o e, Nat.le_trans I.ok.bsz I.ok.above⟩
      have N5 : News X.base X.env.locals s5.heap (((allNews X.base s5.heap X.env.locals).filter fun p => decide (p.1 ≠ n0 + 1 ∧ p.1 ≠ n0 + 3)) ++ [(n0 + 3, seqObj "list" kA e), (n0 + 1, seqObj "list" #[] ep)]) := fun p hp => by
        rcases List.mem_append.mp hp with hp | hp
        · exact news_all p (List.mem_filter.mp hp).1
        · rcases List.mem_cons.mp hp with r | hp
          · subst r; exact ⟨hk, fk.2.1, noB _ (by omega)⟩
          · rw [List.mem_singleton.mp hp]; exact ⟨ha, fa.2.1, noB _ (by omega)⟩
      refine ksk_end_ (kz := zs.map g) F5 N5 (by show ¬ ((n0 + 3 : Nat) = n0 + 1); omega) (fun p hp => (of_decide_eq_true (List.mem_filter.mp hp).2).2) (fun p hp => (of_decide_eq_true (List.mem_filter.mp hp).2).1) ik (by rw [List.length_map]; exact hlen) (by omega) fun h7 tk out c F7 N7 ko => ⟨_, rfl, ?_⟩
      refine wpAny_pure ⟨_, rfl, ?_⟩
      have kp : ∀ b o, b ≠ X.env.locals → b ≠ n0 + 1 → b ≠ n0 + 3 → s5.heap.get? b = some o → h7.get? b = some o := fun b o h1 h2 h3 e => by
        cases qq : X.base.get? b with
        | some u =>
          have := I5.bk b u qq
          rw [e] at this; cases this
          exact F7.keep b _ qq
        | none => exact (N7 (b, o) (List.mem_cons_of_mem _ (List.mem_filter.mpr ⟨mem_allNews h1 qq e, decide_eq_true ⟨h2, h3⟩⟩))).1
      have hout := (N7 (n0 + 1, seqObj "list" out c) List.mem_cons_self).1
      obtain ⟨ps, pp, po, pw⟩ := ko
      have pin : ∀ p ∈ ps, ∃ z t, p.2 = Value.str z t ∧ p.1 = g z := fun p hp => by
        have hq : p ∈ (zs.map g).zip vs := pp.mem_iff.mp hp
        obtain ⟨i, hi⟩ := List.mem_iff_getElem?.mp hq
        have hi : ((zs.map g).zip vs)[i]? = some (p.1, p.2) := hi
        obtain ⟨e1, e2⟩ := List.getElem?_zip_eq_some.mp hi
        obtain ⟨z, t, e3⟩ := vstr p.2 (List.mem_of_getElem? e2)
        refine ⟨z, t, e3, ?_⟩
        have e4 : zs[i]? = some z := by rw [ez, List.getElem?_map, e2, e3]; rfl
        rw [List.getElem?_map, e4] at e1
        exact (Option.some.inj e1).symm
      have os : ∀ v ∈ out.toList, ∃ z t, v = Value.str z t := fun v hv => by
        rw [po] at hv
        obtain ⟨p, hp, e⟩ := List.mem_map.mp hv
        obtain ⟨z, t, e1, _⟩ := pin p hp
        exact ⟨z, t, e ▸ e1⟩
      have hperm : (out.toList.map strOf).Perm zs := by
        rw [po, ez]
        have h1 := (pp.map Prod.snd).map strOf
        have h2 : ((zs.map g).zip vs).map Prod.snd = vs := by
          rw [List.map_snd_zip]
          rw [List.length_map]; omega
        rw [h2] at h1
        exact h1
      have hsort : (out.toList.map strOf).Pairwise (fun x y => g x ≤ g y) := by
        rw [po, List.map_map, List.pairwise_map]
        refine List.Pairwise.imp_of_mem (fun {p p'} hp hp' hle => ?_) pw
        obtain ⟨z, t, e1, e2⟩ := pin p hp
        obtain ⟨z', t', e1', e2'⟩ := pin p' hp'
        have hle : p.1 ≤ p'.1 := by simpa using hle
        show g (strOf p.2) ≤ g (strOf p'.2)
        rw [e1, e1']
        show g z ≤ g z'
        rw [← e2, ← e2']; exact hle
      have olen : out.toList.length = zs.length := by have := hperm.length_eq; simpa using this
      have nA : ∀ b u, H5 b = some u → b ≠ n0 + 1 := fun b u e z => by rw [z, a5] at e; cases e
      have nK : ∀ b u, H5 b = some u → b ≠ n0 + 3 := fun b u e z => by rw [z, k5] at e; cases e
      have nL : ∀ b u, H5 b = some u → b ≠ X.env.locals := fun b u e z => by rw [z, I5.free] at e; cases e
      have kh : ∀ b u o, H5 b = some o → s5.heap.get? b = some u → h7.get? b = some u := fun b u o e e2 => kp b u (nL b o e) (nA b o e) (nK b o e) e2
      refine ⟨.ref (n0 + 1), upd H5 (n0 + 1) (.lst ((out.toList.map strOf).map V.str)), ?_, rfl, done H5 _ (n0 + 1) j5 hperm hsort a5⟩
      refine I5.step (g' := s5.gens) (d' := s5.drawn) (t' := tk) (ch := [n0 + 1, n0 + 3]) (fun b hb => ?_) (fun b o h1 _ hc e n => kp b o h1 (fun z => hc (by simp [z])) (fun z => hc (by simp [z])) e) (fun b o h1 _ hc e n => ⟨o.slots, kp b o h1 (fun z => hc (by simp [z])) (fun z => hc (by simp [z])) e⟩)
        (fun b o hc e n => by rw [upd_ne (fun z => hc (by simp [z]))]; exact n) (fun b o hc e => ?_) (fun b xs e => by rw [upd_ne (nA b _ e)]; exact e) (fun b o xs e => by rw [upd_ne (nA b _ e)]; exact e) (fun b ps e => ⟨#[], by rw [upd_ne (nA b _ e), e]; simp⟩) (fun m' hm' => ?_) (fun b u e => ?_) I5.bare
      · rcases List.mem_cons.mp hb with r | hb
        · subst r; exact ⟨fa.2.2.2.1, fa.2.1, fa.2.2.2.2.1, fa.2.2.2.2.2⟩
        · rw [List.mem_singleton.mp hb]; exact ⟨fk.2.2.2.1, fk.2.1, fk.2.2.2.2.1, fk.2.2.2.2.2⟩
      · by_cases hL : b = X.env.locals
        · obtain ⟨o', _, _, e', _⟩ := F7.ns
          exact ⟨o', hL ▸ e'⟩
        · exact ⟨o, kp b o hL (fun z => hc (by simp [z])) (fun z => hc (by simp [z])) e⟩
      · have em : m' = m := by
          obtain ⟨o1, es1, ep1, q1, q2, _, q3⟩ := hm
          obtain ⟨o2, es2, ep2, r1, r2, _, r3⟩ := hm'
          rw [q1] at r1; cases r1
          rw [q2] at r2; cases r2
          funext x; rw [← q3, ← r3]
        rw [em]; exact F7.ns
      · by_cases hb : b = n0 + 1
        · subst hb
          rw [upd_same] at e
          cases e
          exact ⟨by rw [List.length_map, List.length_map, olen, sizeLine_eq]; omega, out.toList, c, strs_vals os, by rw [Array.toArray_toList]; exact hout⟩
        · rw [upd_ne hb] at e
          refine (I5.hok b u e).stay (fun d v hd q => ?_) (fun d q => by rw [upd_ne (nA d _ q)]; exact q) fun d xs q => by rw [upd_ne (nA d _ q)]; exact q
          rcases hd with z | z
          · rw [z] at q ⊢; exact kh b v u e q
          · exact kh d v _ z q
end
end OC
set_option maxHeartbeats 4000000
/-! Standing.line, are_like. -/
namespace OC
open PySem PySem.Spec PyProof.Rows L2
section
variable {X : Cx} {o : Expr} {pos : Pos} {ta : TE} {C g : Addr} {m : Str}
def tBound (C : Addr) (m : Str) (g : Addr) (ta : TE) : TE := fun σ H Q => ta σ H fun x H1 => ∃ a dx fs, x = .ref a ∧ H1 a = some (.ins C dx fs) ∧ fs.lookup m = none ∧ ∀ p, H1 p = none → Q (.ref p) (upd H1 p (.met g a))
theorem pe_bound (he : PE X o ta) (c : Cls X.K C) (k : BMeth X.K C m g) (hb : attributeBase o m X.env (eval o X.env) = eval o X.env) : PE X (.Attribute o m pos) (tBound C m g ta) := by
  refine ⟨fun pins s σ H Q I h => attr_of hb (thn (he.run pins s σ H _ I h) fun u s1 ⟨x, H1, I1, rx, a, dx, fs, ex, ea, l, q⟩ => ?_)⟩
  subst ex
  exact op_getbound I1 ea c k l rx q
theorem bmeth {K : PySem.W.Frag} (mt : Meth K C m g) (fi : PySem.W.fnIn K g = true) (cp : PySem.W.copiedNames.contains m = false) : BMeth K C m g := by
  have ty : PySem.W.typeIn K (.ref g) = some (.type "function") := beq_iff_eq.mp mt.fn
  refine ⟨mt, ?_, ?_, cp, fi⟩
  · unfold PySem.W.specialIn; rw [ty]; show PySem.W.findIn K (.type "function") "__get__" = _; kernel_rfl
  · have e1 : PySem.W.specialIn K (.ref g) "__set__" = some none := by unfold PySem.W.specialIn; rw [ty]; show PySem.W.findIn K (.type "function") "__set__" = _; kernel_rfl
    have e2 : PySem.W.specialIn K (.ref g) "__delete__" = some none := by unfold PySem.W.specialIn; rw [ty]; show PySem.W.findIn K (.type "function") "__delete__" = _; kernel_rfl
    unfold PySem.W.takesIn
    rw [e1]
    simp only
    rw [e2]; rfl
def rKey (f : Addr) (sp : Sp) : List V → List V → Hp → VK → Prop := fun xs zs H Q => ∃ (l q a : Addr) (ns : List Str) (gk : Str → Int) (J : Hp → Prop), xs = [.ref l] ∧ zs = [.ref q] ∧ J H ∧ (∀ H', J H' → H' q = some (.met f a)) ∧ H l = some (.lst (ns.map V.str)) ∧ ns.length < 64 ∧
  (∀ z ∈ ns, ∀ H', J H' → sp [.ref a, .str z] H' (fun v H'' => v = .int (gk z) ∧ J H'') E0) ∧ ∀ (H' : Hp) (out : List Str) (p : Addr), J H' → out.Perm ns → out.Pairwise (fun x y => gk x ≤ gk y) → H' p = none → Q (.ref p) (upd H' p (.lst (out.map V.str)))
theorem cr_key {k : Nat} {f : Addr} {fd : FuncData} {ps : List Str} {sp : Sp} (F : FnOk X.prog X.w X.K X.mg X.base CX0 k f fd ps sp) (hb : Binds X.K fd ps []) (hr : Room (k + 2) X.A) (hxe : X.xe = fun _ _ => False) : CallRK X (.builtin "sorted") ["key"] (rKey f sp) := by
  rintro pins s σ H xs zs us ws Q I r1 r2 ⟨l, q, a, ns, gk, J, rfl, rfl, j0, jq, hl, h64, turn, done⟩
  obtain ⟨u, rfl, ru⟩ := vals1 r1
  cases ru
  obtain ⟨w, rfl, rw'⟩ := vals1 r2
  cases rw'
  refine sorted_met gk J I j0 jq hl h64 (fun z hz H' pins' s' t j' I' => ?_) done
  have hrun := run_fnR (X := deepX X) (E := E0) (FnOk.raw F hb .nil) hr.in1.in1 pass0 I' (us := [.ref a, .str z t]) (vs := [.ref a, .str z]) (.cons rfl (.cons ⟨t, rfl⟩ .nil)) (turn z hz H' j')
  refine codeAny_mono hrun fun r s6 hq => ?_
  cases r with
  | error e =>
    have hq : X.xe e s6 := hq
    rw [hxe] at hq; exact hq
  | ok fl =>
    cases fl with
    | ret u => exact hq
    | next => exact hq
    | brk => exact hq
    | cont => exact hq
end
def LineOf (ps : List Per) (ns : List Str) : Prop := ns.Perm (ps.map (·.nm)) ∧ ns.Pairwise (fun x y => plc ps x ≤ plc ps y)
def R_line : Rel := fun ds P => ∃ ps, Good ps ∧ ds = [.std ps] ∧ P = fun d => ∃ ns, LineOf ps ns ∧ d = strsD ns
section
variable {M : Mo} (h : Hd M)
include h
theorem E_line {ps : List Per} {g : G} {Z : Sc} {a o : Expr} {r : Rho} {p pos p2 p3 : Pos} (gd : Good ps) (ha : E M g Z a r (namesD ps)) (ho : E M g Z o r (.std ps)) (hk : 6 ≤ g.k := by decide) (hg : GlS g "sorted" := by rfl) (hst : ∀ env, starEach [a] env = (false, eval a env) :: starEach [] env := by intro _; rfl)
    (he : ∀ env, backTo pos (starEach [a] env) = (false, eval a env) :: backTo pos (starEach [] env) := by intro _; rfl) (hpl : ∀ env, (backTo pos (starEach [a] env)).any (·.1) = false := by intro _; rfl)
    (hb : ∀ env, attributeBase o "place" env (eval o env) = eval o env := by intro _; rfl) : EP M g Z (.Call (.Name "sorted" p) [a] [⟨some "key", .Attribute o "place" p2, p3⟩] pos) r fun d => ∃ ns, LineOf ps ns ∧ d = strsD ns := fun X ok B0 H0 B H σ R Q q => by
  obtain ⟨f, fd, pars, F, mt, bd, fi⟩ := (w_S_place h).ex
  have bm : BMeth M.K M.C "place" f := bmeth mt fi (by decide +kernel)
  refine ⟨_, pe_callBK (cr_key (ok.fn' F) (by rw [ok.K]; exact bd) (ok.room.mono hk) ok.xe) (ok.gl hg) (by rw [ok.mg]; exact h.free 116) (by decide +kernel) (pa_cons pe_w pa_nil (hst _)) (pk_cons (pe_bound pe_w (by rw [ok.K]; exact h.cls) (by rw [ok.K]; exact bm) (hb _)) pk_nil) (by decide) (by decide) (he _) (hpl _) (by rfl) (by rfl) (by rfl), ?_⟩
  refine ha X ok B0 H0 B H σ R _ fun x v B1 H1 px f1 r1 => ?_
  subst px
  refine ho X ok B0 H0 B1 H1 σ (R.step f1) _ fun y u B2 H2 py f2 r2 => ?_
  subst py
  obtain ⟨ad, dx, dd, rfl, had⟩ := r2.stdI
  have f12 := f1.tr f2 R.src
  refine ⟨ad, dx, _, rfl, f2.s _ _ had, rfl, fun q1 hq1 => ?_⟩
  have e1 : namesD ps = .lst ((ps.map (·.nm)).map D.str) := by unfold namesD; rw [List.map_map]; rfl
  rw [e1] at r1
  have nq : H q1 = none := f12.free R.src hq1
  have nB2 : B2 q1 = none := f2.s.n hq1
  cases r1 with
  | lst h1 k1 =>
    rename_i vs l
    rw [k1.strs] at h1
    have hl2 : H2 l = some (.lst ((ps.map (·.nm)).map V.str)) := f2.s _ _ (f2.b _ _ h1)
    have f2' : Fr Z B H B2 (upd H2 q1 (.met f ad)) := f12.grow R.src nq nB2
    refine ⟨l, q1, ad, ps.map (·.nm), plc ps, fun H' => ∃ B', Fr Z B2 (upd H2 q1 (.met f ad)) B' H', rfl, rfl, ⟨B2, Fr.rfl' f2'.s f2'.src⟩, fun H' ⟨B', f'⟩ => f'.h q1 _ upd_same (R.src.ne nq), by rw [upd_ne (ne_of_none hl2 hq1)]; exact hl2, by have := gd.len; rw [List.length_map]; omega, fun z hz H' ⟨B', f'⟩ => ?_, fun H' out p ⟨B', f'⟩ hp hs hn => ?_⟩
    · refine spD_off (xs := [.std ps, .str z]) f'.s f'.src (.cons (r2.mono f'.b) (.cons (.str z) .nil)) ⟨ps, z, gd, hz, rfl, rfl⟩ fun d v B3 H3 pd f3 r3 => ?_
      subst pd; cases r3
      exact ⟨rfl, B3, f'.tr f3 f2'.src⟩
    · have ff := f2'.tr f' R.src
      refine q _ _ _ _ ⟨out, ⟨hp, hs⟩, rfl⟩ (ff.add R.src hn) (.lst upd_same (RDs.ofStrs out))
theorem w_S_line : FnM M 7 "line" R_line := by
  refine h.fnM 15 135 fs_S_line bn_S_line (by rintro ds P ⟨ps, _, rfl, rfl⟩; rfl) ?_
  rintro Z ds P - ⟨ps, gd, rfl, rfl⟩
  exact SS_retP (E_line h gd (EP_meth0 h.cls (w_S_names h) (E_var 0) ⟨_, gd, rfl, rfl⟩) (E_var 0)) fun x q => q
end
end OC
set_option maxHeartbeats 4000000
/-! Mirrors: callers, drawing in, gaps. -/
namespace OC
open PySem PySem.Spec PyProof.Rows L2
def Like (ps qs : List Per) : Prop := ps.map (fun p => (p.nm, p.vc)) = qs.map (fun p => (p.nm, p.vc))
theorem Like.names {ps qs : List Per} (h : Like ps qs) : ps.map (·.nm) = qs.map (·.nm) := by
  have := congrArg (List.map Prod.fst) h
  simpa [List.map_map, Function.comp_def] using this
theorem Like.vcs {ps qs : List Per} (h : Like ps qs) : ps.map (·.vc) = qs.map (·.vc) := by
  have := congrArg (List.map Prod.snd) h
  simpa [List.map_map, Function.comp_def] using this
def R2 (f : List Per → List Per → D) : Rel := fun ds P => ∃ ps qs, Good ps ∧ Good qs ∧ Like ps qs ∧ ds = [.std ps, .std qs] ∧ P = fun x => x = f ps qs
theorem R2.len {f : List Per → List Per → D} : ∀ ds P, R2 f ds P → ds.length = 2 := by rintro ds P ⟨ps, qs, _, _, _, rfl, rfl⟩; rfl
/-! ### names in the model's texts -/
theorem OkName.str {s : Str} (h : OkName s) : PyData.strOk s = true := by
  have key : ∀ c ∈ s.cps.toList, c < 128 := fun c hc => by
    rcases h.all c hc with z | z
    · have : ∀ c ∈ letters.cps.toList, c < 128 := by decide +kernel
      exact this c z
    · have : ∀ c ∈ figures.cps.toList, c < 128 := by decide +kernel
      exact this c z
  unfold PyData.strOk
  rw [← Array.all_toList, List.all_eq_true]
  intro c hc
  have := key c hc
  exact decide_eq_true (by omega)
/-! ### moving people -/
def movP (f : Per → Int) (p : Per) : Per := ⟨p.nm, f p, p.vc⟩
theorem Good.mov {ps : List Per} (h : Good ps) (f : Per → Int) : Good (ps.map (movP f)) := by
  refine ⟨fun e => h.ne (List.map_eq_nil_iff.mp e), by rw [List.length_map]; exact h.len, ?_, ?_, ?_⟩
  · have : (ps.map (movP f)).map (·.nm) = ps.map (·.nm) := by rw [List.map_map]; rfl
    rw [this]; exact h.nd
  · intro p hp; obtain ⟨q, hq, rfl⟩ := List.mem_map.mp hp; exact h.nm q hq
  · intro p hp; obtain ⟨q, hq, rfl⟩ := List.mem_map.mp hp; exact h.vc q hq
theorem mov_like (ps : List Per) (f : Per → Int) : Like ps (ps.map (movP f)) := by unfold Like; rw [List.map_map]; rfl
theorem mov_names (ps : List Per) (f : Per → Int) : (ps.map (movP f)).map (·.nm) = ps.map (·.nm) := by rw [List.map_map]; rfl
theorem perOf_mov {ps : List Per} {n : Str} (f : Per → Int) (nd : (ps.map (·.nm)).Nodup) (hn : n ∈ ps.map (·.nm)) : perOf (ps.map (movP f)) n = movP f (perOf ps n) := by
  obtain ⟨a, b⟩ := perOf_spec hn
  have h1 : movP f (perOf ps n) ∈ ps.map (movP f) := List.mem_map.mpr ⟨_, a, rfl⟩
  have h2 := perOf_mem (ps := ps.map (movP f)) (by rw [mov_names]; exact nd) h1
  have h3 : (movP f (perOf ps n)).nm = n := b
  rw [h3] at h2; exact h2
def drawI (y t x : Int) : Int := if x < y then min y (x + t) else max y (x - t)
def drawn (ps : List Per) (y t : Int) : List Per := ps.map (movP fun p => drawI y t p.pl)
theorem drawI_add {y s t x : Int} (hs : 0 ≤ s) (ht : 0 ≤ t) : drawI y t (drawI y s x) = drawI y (s + t) x := by
  unfold drawI; split <;> split <;> omega
theorem drawn_add {ps : List Per} {y s t : Int} (hs : 0 ≤ s) (ht : 0 ≤ t) : drawn (drawn ps y s) y t = drawn ps y (s + t) := by
  unfold drawn; rw [List.map_map]
  apply List.map_congr_left
  intro p _
  show movP _ (movP _ p) = movP _ p
  unfold movP
  simp only [drawI_add hs ht]
theorem drawn_zero {ps : List Per} {y : Int} : drawn ps y 0 = ps := by
  unfold drawn
  conv => rhs; rw [← List.map_id ps]
  apply List.map_congr_left
  intro p _
  have : drawI y 0 p.pl = p.pl := by unfold drawI; split <;> omega
  unfold movP
  simp only [this]; rfl
theorem plc_drawn {ps : List Per} {n : Str} {y t : Int} (gd : Good ps) (hn : n ∈ ps.map (·.nm)) : plc (drawn ps y t) n = drawI y t (plc ps n) := by
  unfold plc drawn; rw [perOf_mov _ gd.nd hn]; rfl
theorem drawI_self {y t : Int} (ht : 0 ≤ t) : drawI y t y = y := by unfold drawI; split <;> omega
theorem drawn_good {ps : List Per} (h : Good ps) (y t : Int) : Good (drawn ps y t) := h.mov _
theorem drawn_names (ps : List Per) (y t : Int) : (drawn ps y t).map (·.nm) = ps.map (·.nm) := mov_names _ _
/-! ### crowds -/
theorem crowd_voices {ps : List Per} (gd : Good ps) (y : Int) : (((crowd ps y).map (·.nm)).map fun n => (perOf ps n).vc).sum = vsum (crowd ps y) := by
  unfold vsum; rw [List.map_map]
  congr 1
  apply List.map_congr_left
  intro p hp
  show (perOf ps p.nm).vc = p.vc
  rw [perOf_mem gd.nd (List.mem_filter.mp hp).1]
theorem crowd_len (ps : List Per) (y : Int) : (crowd ps y).length ≤ ps.length := List.length_filter_le _ _
theorem crowd_ne {ps : List Per} {y : Int} (h : y ∈ stops ps) : ∃ p l, crowd ps y = p :: l ∧ p ∈ ps ∧ p.pl = y := by
  obtain ⟨p, hp, e⟩ := (stops_mem ps y).mp h
  have : p ∈ crowd ps y := List.mem_filter.mpr ⟨hp, decide_eq_true e⟩
  cases q : crowd ps y with
  | nil => rw [q] at this; cases this
  | cons a l =>
    have ha : a ∈ crowd ps y := by rw [q]; exact List.mem_cons_self
    obtain ⟨h1, h2⟩ := List.mem_filter.mp ha
    exact ⟨a, l, rfl, h1, of_decide_eq_true h2⟩
def firstAt (ps : List Per) (y : Int) : Str := ((crowd ps y).map (·.nm)).headD ""
theorem firstAt_at {ps : List Per} {y : Int} (h : y ∈ stops ps) : ((crowd ps y).map (·.nm))[0]? = some (firstAt ps y) ∧ firstAt ps y ∈ ps.map (·.nm) := by
  obtain ⟨p, l, e, hp, _⟩ := crowd_ne h
  unfold firstAt; rw [e]
  exact ⟨rfl, List.mem_map.mpr ⟨p, hp, rfl⟩⟩
theorem firstAt_plc {ps : List Per} {y : Int} (gd : Good ps) (h : y ∈ stops ps) : plc ps (firstAt ps y) = y := by
  obtain ⟨p, l, e, hp, hy⟩ := crowd_ne h
  unfold firstAt; rw [e]
  show plc ps p.nm = y
  unfold plc; rw [perOf_mem gd.nd hp, hy]
theorem plc_stop {ps : List Per} {n : Str} (hn : n ∈ ps.map (·.nm)) : plc ps n ∈ stops ps := (stops_mem ps _).mpr ⟨_, (perOf_spec hn).1, rfl⟩
def together (ps : List Per) : Bool := decide ((stops ps).length < 2)
def canCall (ps : List Per) (n : Str) : Bool := loudAt ps (plc ps n) && !together ps
def callers (ps : List Per) : List Str := ((stops ps).map (firstAt ps)).filter (canCall ps)
/-! ### least, greatest -/
def minOf : List Int → Int
  | [] => 0
  | x :: l => l.foldl min x
def maxOf : List Int → Int
  | [] => 0
  | x :: l => l.foldl max x
theorem foldl_min : ∀ (l : List Int) (x : Int), (l.foldl min x = x ∨ l.foldl min x ∈ l) ∧ l.foldl min x ≤ x ∧ ∀ y ∈ l, l.foldl min x ≤ y
  | [], x => ⟨.inl rfl, Int.le_refl _, fun y h => nomatch h⟩
  | a :: l, x => by
    obtain ⟨h1, h2, h3⟩ := foldl_min l (min x a)
    rw [List.foldl_cons]
    refine ⟨?_, by omega, fun y hy => ?_⟩
    · rcases h1 with h1 | h1
      · rw [h1]
        by_cases q : x ≤ a
        · exact .inl (by omega)
        · right; rw [show min x a = a by omega]; exact List.mem_cons_self
      · exact .inr (List.mem_cons_of_mem _ h1)
    · rcases List.mem_cons.mp hy with e | hy
      · omega
      · exact h3 y hy
theorem foldl_max : ∀ (l : List Int) (x : Int), (l.foldl max x = x ∨ l.foldl max x ∈ l) ∧ x ≤ l.foldl max x ∧ ∀ y ∈ l, y ≤ l.foldl max x
  | [], x => ⟨.inl rfl, Int.le_refl _, fun y h => nomatch h⟩
  | a :: l, x => by
    obtain ⟨h1, h2, h3⟩ := foldl_max l (max x a)
    rw [List.foldl_cons]
    refine ⟨?_, by omega, fun y hy => ?_⟩
    · rcases h1 with h1 | h1
      · rw [h1]
        by_cases q : a ≤ x
        · exact .inl (by omega)
        · right; rw [show max x a = a by omega]; exact List.mem_cons_self
      · exact .inr (List.mem_cons_of_mem _ h1)
    · rcases List.mem_cons.mp hy with e | hy
      · omega
      · exact h3 y hy
theorem minOf_mem {l : List Int} (h : l ≠ []) : minOf l ∈ l := by
  cases l with
  | nil => exact absurd rfl h
  | cons x l =>
    rcases (foldl_min l x).1 with e | e
    · show l.foldl min x ∈ _; rw [e]; exact List.mem_cons_self
    · exact List.mem_cons_of_mem _ e
theorem minOf_le {l : List Int} {y : Int} (h : y ∈ l) : minOf l ≤ y := by
  cases l with
  | nil => cases h
  | cons x l =>
    rcases List.mem_cons.mp h with e | e
    · rw [e]; exact (foldl_min l x).2.1
    · exact (foldl_min l x).2.2 y e
theorem maxOf_mem {l : List Int} (h : l ≠ []) : maxOf l ∈ l := by
  cases l with
  | nil => exact absurd rfl h
  | cons x l =>
    rcases (foldl_max l x).1 with e | e
    · show l.foldl max x ∈ _; rw [e]; exact List.mem_cons_self
    · exact List.mem_cons_of_mem _ e
theorem le_maxOf {l : List Int} {y : Int} (h : y ∈ l) : y ≤ maxOf l := by
  cases l with
  | nil => cases h
  | cons x l =>
    rcases List.mem_cons.mp h with e | e
    · rw [e]; exact (foldl_max l x).2.1
    · exact (foldl_max l x).2.2 y e
def absI (i : Int) : Int := if i < 0 then -i else i
def nearest (ps : List Per) (y : Int) : Int := minOf ((((stops ps).filter fun o => decide (o ≠ y))).map fun o => absI (y - o))
theorem two_other {l : List Int} (up : l.Pairwise (· < ·)) (h : ¬ l.length < 2) (y : Int) : l.filter (fun o => decide (o ≠ y)) ≠ [] := by
  match l, h, up with
  | [], h, _ => exact absurd (by simp) h
  | [a], h, _ => exact absurd (by simp) h
  | a :: b :: l, _, up =>
    have hab := (List.pairwise_cons.mp up).1 b List.mem_cons_self
    intro e
    rw [List.filter_eq_nil_iff] at e
    have h1 := e a List.mem_cons_self
    have h2 := e b (List.mem_cons_of_mem _ List.mem_cons_self)
    simp at h1 h2; omega
theorem nearest_pos {ps : List Per} {y : Int} (h : together ps = false) : 1 ≤ nearest ps y := by
  have h2 : ¬ (stops ps).length < 2 := of_decide_eq_false h
  have := minOf_mem (l := (((stops ps).filter fun o => decide (o ≠ y))).map fun o => absI (y - o)) (by simpa using two_other (stops_up ps) h2 y)
  unfold nearest
  obtain ⟨o, ho, e⟩ := List.mem_map.mp this
  rw [← e]
  have := (List.mem_filter.mp ho).2
  simp at this
  unfold absI; split <;> omega
end OC
set_option maxHeartbeats 4000000
/-! a, b, c = x, y, z; slices and zips of plain data; lists of lists of one's own. -/
namespace OC
open PySem PySem.Spec PyProof.Rows L2
theorem cutL_drop {α : Type} (xs : List α) (n : Nat) : cutL xs (some (n : Int)) none = xs.drop n := by
  unfold cutL
  rw [HT.sIx_nat, HT.sIx_none]
  by_cases h : n ≤ xs.length
  · rw [Nat.min_eq_left h, List.take_of_length_le (by rw [List.length_drop]; exact Nat.le_refl _)]
  · rw [Nat.min_eq_right (by omega), List.drop_eq_nil_of_le (Nat.le_refl _), List.drop_eq_nil_of_le (by omega), List.take_nil]
theorem cutL_take {α : Type} (xs : List α) (n : Nat) : cutL xs none (some (n : Int)) = xs.take n := by
  unfold cutL
  rw [HT.sIx_nat, HT.sIx_none, List.drop_zero, Nat.sub_zero]
  by_cases h : n ≤ xs.length
  · rw [Nat.min_eq_left h]
  · rw [Nat.min_eq_right (by omega), List.take_of_length_le (Nat.le_refl _), List.take_of_length_le (by omega)]
theorem cutL_map {α β : Type} (f : α → β) (xs : List α) (i j : Option Int) : cutL (xs.map f) i j = (cutL xs i j).map f := by
  unfold cutL; rw [List.length_map, List.map_take, List.map_drop]
theorem zipD_map {α β : Type} (f : α → D) (k : β → D) (xs : List α) (ys : List β) : zipD (xs.map f) (ys.map k) = (xs.zip ys).map fun q => D.tup [f q.1, k q.2] := by
  unfold zipD; rw [List.zip_map, List.map_map]; rfl
theorem RS.old {C : Addr} {Z : Sc} {B0 H0 B H B' H' : Hp} {r : Rho} {σ : L2.St} (R : RS C Z B0 H0 B H r σ) (f : Fr Z B H B' H') {l : L} {v : V} (h : RL C Z H B' H' l v) {j : Nat} {m : L} {w : V} {a : Addr} (e1 : r[j]? = some (some m)) (e2 : σ[j]? = some (some w)) (k1 : Foot H' l v a) : ¬ Foot H' m w a := fun k2 => by
  obtain ⟨n, _⟩ := h.foot k1
  obtain ⟨w2, q1, h3⟩ := R.at_ j m e1
  rw [e2] at q1; cases q1
  obtain ⟨_, ob, q3⟩ := h3.foot (Foot.back R.s0 f h3 k2)
  rw [n] at q3; cases q3
theorem set_at {α : Type} {r : List (Option α)} {i : Nat} {l : α} {m : α} (e : (r.set i (some l))[i]? = some (some m)) : m = l := by
  by_cases h : i < r.length
  · rw [List.getElem?_set_self h] at e; cases e; rfl
  · rw [List.getElem?_eq_none (by rw [List.length_set]; omega)] at e; cases e
section
variable {M : Mo} {g : G} {Z : Sc} {e a b c : Expr} {es ts : List Expr} {r r1 r2 : Rho} {x y z d : D} {xs ds : List D} {pos : Pos} {k : Nat} {st : Stmt} {rest : List Stmt} {O : Out} {P : D → Prop}
theorem SS_par3 {i j l : Nat} {nm nm' nm2 : Str} {l1 l2 l3 : L} {px py pz pt pt2 : Pos} {kt k2 : Nat} (h : AL M g Z [a, b, c] r [l1, l2, l3]) (k : SS M g Z rest (((r.set i (some l1)).set j (some l2)).set l (some l3)) O) (hi : g.N[i]? = some nm := by rfl) (hj : g.N[j]? = some nm' := by rfl) (hl : g.N[l]? = some nm2 := by rfl) (hij : i ≠ j := by decide) (hil : i ≠ l := by decide) (hjl : j ≠ l := by decide)
    (hx : g.sc.names.lookup nm = some .local := by rfl) (hy : g.sc.names.lookup nm' = some .local := by rfl) (hz : g.sc.names.lookup nm2 = some .local := by rfl)
    (hw : ∀ env : Env, env.scope = g.sc → swappedStores [.Tuple [.Name nm px, .Name nm' py, .Name nm2 pz] kt pt] (.Tuple [a, b, c] k2 pt2) env = pure (some [nm, nm', nm2]) := by intro env h; obtain ⟨sc, _⟩ := env; subst h; rfl)
    (hs : ∀ env : Env, env.scope = g.sc → swapsWithSole [.Tuple [.Name nm px, .Name nm' py, .Name nm2 pz] kt pt] (.Tuple [a, b, c] k2 pt2) pos.line env = pure false := by intro _ _; rfl) :
    SS M g Z (.Assign [.Tuple [.Name nm px, .Name nm' py, .Name nm2 pz] kt pt] (.Tuple [a, b, c] k2 pt2) pos :: rest) r O := SS_cons fun X ok B0 H0 B H σ R Dn o => by
  refine ⟨_, ps_par3 (i := i) (j := j) (l := l) ok.calm ok.nd (by rw [ok.N]; exact hi) (by rw [ok.N]; exact hj) (by rw [ok.N]; exact hl) hij hil hjl (by rw [ok.sc]; exact hx) (by rw [ok.sc]; exact hy) (by rw [ok.sc]; exact hz) pa_w (hw _ ok.sc) (hs _ ok.sc), ?_⟩
  refine h X ok B0 H0 B H σ R _ fun vs B1 H1 f1 r1 ap => ?_
  cases r1 with
  | cons h1 t1 => cases t1 with
    | cons h2 t2 => cases t2 with
      | cons h3 t3 => cases t3 with
        | nil =>
          refine ⟨_, _, _, rfl, o.nx _ B1 H1 _ k ?_ f1.b⟩
          refine ((R.setN f1 h1).setL (h2.start fun a n => R.fr.free R.s0 n) fun j' m' w' a' ne e1 e2 k1 => ?_).setL (h3.start fun a n => R.fr.free R.s0 n) fun j' m' w' a' ne e1 e2 k1 => ?_
          · by_cases q : i = j'
            · subst q
              have := set_at e1; have := set_at e2; subst_vars
              exact ap 1 0 _ _ _ _ a' rfl rfl rfl rfl (by decide) k1
            · rw [List.getElem?_set_ne q] at e1 e2
              exact R.old f1 h2 e1 e2 k1
          · by_cases q : j = j'
            · subst q
              have := set_at e1; have := set_at e2; subst_vars
              exact ap 2 1 _ _ _ _ a' rfl rfl rfl rfl (by decide) k1
            · rw [List.getElem?_set_ne q] at e1 e2
              by_cases q : i = j'
              · subst q
                have := set_at e1; have := set_at e2; subst_vars
                exact ap 2 0 _ _ _ _ a' rfl rfl rfl rfl (by decide) k1
              · rw [List.getElem?_set_ne q] at e1 e2
                exact R.old f1 h3 e1 e2 k1

/-! ### lists of lists of one's own -/
theorem Paired.snocI {α β : Type} {F : α → β → Prop} {a : α} : ∀ {l : List α} {m : List β}, Paired F (l ++ [a]) m → ∃ m0 b, m = m0 ++ [b] ∧ Paired F l m0 ∧ F a b
  | [], _, h => by cases h with | cons x t => cases t; exact ⟨[], _, rfl, .nil, x⟩
  | x :: l, _, h => by
    cases h with
    | cons y t =>
      obtain ⟨m0, b, e, p, f⟩ := Paired.snocI t
      exact ⟨_ :: m0, b, by rw [e]; rfl, .cons y p, f⟩
theorem Paired.all {α β : Type} {F : α → β → Prop} {G : β → Prop} : ∀ {l : List α} {m : List β}, Paired F l m → (∀ a b, F a b → G b) → ∀ b ∈ m, G b
  | _, _, .nil, _, _, h => nomatch h
  | _, _, .cons x t, k, b, h => by
    rcases List.mem_cons.mp h with e | h
    · subst e; exact k _ _ x
    · exact Paired.all t k b h
theorem own2_upd {C : Addr} {H0 B H : Hp} {p : Addr} {o : HO} : ∀ {dss : List (List D)} {qs : List Addr}, Paired (fun ds q => Own1 C Z H0 B H ds q) dss qs → p ∉ qs → Paired (fun ds q => Own1 C Z H0 B (upd H p o) ds q) dss qs
  | _, _, .nil, _ => .nil
  | _, _, .cons ⟨a1, a2, ys, a3, a4⟩ t, h => .cons ⟨a1, a2, ys, by rw [upd_ne fun z => h (by rw [z]; exact List.mem_cons_self)]; exact a3, a4⟩ (own2_upd t fun z => h (List.mem_cons_of_mem _ z))
theorem EL_lst2 {p1 : Pos} : EL M g Z (.List [.List [] p1] pos) r (.own2 [[]]) := fun X ok B0 H0 B H σ R Q q => by
  refine ⟨_, pe_lst (pa_cons (pe_lst pa_nil) pa_nil (by rfl)), ⟨by show (0 : Nat) ≤ sizeLine; decide, fun q1 hq1 => ⟨by show (1 : Nat) ≤ sizeLine; decide, fun p hp => ?_⟩⟩⟩
  have hne : p ≠ q1 := fun e => by rw [e, upd_same] at hp; cases hp
  have hp0 : H p = none := by rw [upd_ne hne] at hp; exact hp
  have b1 := R.sB.n hq1
  have b0 := R.sB.n hp0
  have f1 : Fr Z B H B (upd H q1 (.lst [])) := (Fr.rfl' R.sB R.src).grow R.src hq1 b1
  have f2 : Fr Z B H B (upd (upd H q1 (.lst [])) p (.lst [.ref q1])) := f1.grow R.src hp0 b0
  refine q _ B _ f2 ⟨p, [q1], rfl, hp0, b0, upd_same, by simp, by simpa using hne, .cons ⟨hq1, b1, [], ?_, .nil⟩ .nil⟩
  rw [upd_ne (Ne.symm hne), upd_same]
theorem RS.own2At {C : Addr} {Z : Sc} {B0 H0 B H : Hp} {r : Rho} {σ : L2.St} (R : RS C Z B0 H0 B H r σ) {i : Nat} {dss : List (List D)} {ds : List D} (hi : r[i]? = some (some (.own2 (dss ++ [ds])))) :
    ∃ p qs q xs, σ[i]? = some (some (.ref p)) ∧ H0 p = none ∧ B p = none ∧ H p = some (.lst ((qs ++ [q]).map V.ref)) ∧ (qs ++ [q]).Nodup ∧ p ∉ qs ++ [q] ∧ Paired (fun ds q => Own1 C Z H0 B H ds q) dss qs ∧ H0 q = none ∧ B q = none ∧ H q = some (.lst xs) ∧ RDs C Z.s B ds xs := by
  obtain ⟨v, e, p, qs, rfl, n0, nb, hp, nd, np, pr⟩ := R.at_ i _ hi
  obtain ⟨m0, q, rfl, pr0, n1, n2, xs, n3, n4⟩ := Paired.snocI pr
  exact ⟨p, m0, q, xs, e, n0, nb, hp, nd, np, pr0, n1, n2, n3, n4⟩
/-- own[-1].append(e) -/
theorem SS_app2 (i : Nat) {nm : Str} {p p2 ap cp : Pos} {dss : List (List D)} {ds : List D} (h : E M g Z e r d) (hb : E M g Z b r (.int (-1))) (hl : ds.length < 1000) (k : SS M g Z rest (r.set i (some (.own2 (dss ++ [ds ++ [d]])))) O) (hi : r[i]? = some (some (.own2 (dss ++ [ds]))) := by rfl) (hN : g.N[i]? = some nm := by rfl) (hv : Vis g.sc nm := by first | exact Or.inl rfl | exact Or.inr (Or.inl rfl) | exact Or.inr (Or.inr rfl))
    (hd : (nm == ("__debug__" : Str)) = false := by decide) (hcd : (nm == ("__classdict__" : Str)) = false := by decide) (hpl : PlainIx b := by intro _ _; rfl)
    (hs : ∀ env : Env, env.scope = g.sc → swapsWith (.Call (.Attribute (.Subscript (.Name nm p) b p2) "append" ap) [e] [] cp) none pos.line env = pure false := by intro _ _; rfl)
    (h1 : ∀ env, attributeBase (.Subscript (.Name nm p) b p2) "append" env (eval (.Subscript (.Name nm p) b p2) env) = eval (.Subscript (.Name nm p) b p2) env := by intro _; rfl)
    (h2 : ∀ env, ((backTo cp (starEach [e] env)).all (fun x => !x.1) && (backToKw cp (keywordEach [] env)).all (fun x => x.1.isSome) && decide ([e].length + ([] : List Keyword).length + (if ([] : List Keyword).isEmpty then 0 else 1) < 30)) = true := by intro _; rfl)
    (h3 : (ap.endLine == cp.line) = true := by rfl) (h4 : ∀ env, starEach [e] env = (false, eval e env) :: starEach [] env := by intro _; rfl) : SS M g Z (.Expr (.Call (.Attribute (.Subscript (.Name nm p) b p2) "append" ap) [e] [] cp) pos :: rest) r O := SS_cons fun X ok B0 H0 B H σ R Dn o => by
  refine ⟨_, ps_expr (pe_bm F.plainAttrs_list F.slot_list_append F.type_list_append mt_append (pe_ix ix_list (pe_var (i := i) (by rw [ok.N]; exact hN) (by rw [ok.sc]; exact hv) hd hcd) pe_w hpl) (pa_cons pe_w pa_nil (h4 _)) (h1 _) (h2 _) h3 (h4 _) rfl) (hs _ ok.sc), ?_⟩
  obtain ⟨pp, qs, q, xs, e0, n0, nb, hp, nd, np, pr, q0, qb, hq, rs⟩ := R.own2At hi
  refine ⟨_, e0, ?_⟩
  refine hb X ok B0 H0 B H σ R _ fun y v B1 H1 py f1 r1 => ?_
  subst py; cases r1
  have hp1 := f1.h pp _ hp (R.s0.ne n0)
  refine ⟨pp, (qs ++ [q]).map V.ref, -1, .ref q, rfl, rfl, SqL.of hp1, ?_, ?_⟩
  · rw [List.map_append]; exact atI_last (by simp)
  refine ⟨.inl ⟨rfl, xs, SqL.of (f1.h q _ hq (R.s0.ne q0))⟩, ?_⟩
  refine h X ok B0 H0 B1 H1 σ (R.step f1) _ fun x v B2 H2 px f2 r2 => ?_
  subst px
  have R2 := (R.step f1).step f2
  obtain ⟨pp', qs', q', xs', e0', n0', nb', hp', nd', np', pr', q0', qb', hq', rs'⟩ := R2.own2At hi
  rw [e0] at e0'; cases e0'
  have hp2 := f2.h pp _ hp1 (R.s0.ne n0)
  have eq : qs' ++ [q'] = qs ++ [q] := by
    rw [hp'] at hp2
    injection hp2 with hp2; injection hp2 with hp2
    exact List.map_inj_right (fun a b e => by injection e) |>.mp hp2
  obtain ⟨rfl, eq2⟩ := List.append_inj' eq rfl
  cases eq2
  refine ⟨q, xs', v, rfl, rfl, hq', by rw [← rs'.len]; exact Nat.lt_of_lt_of_le hl (by decide), ?_⟩
  have nq : pp ≠ q := fun z => np (by rw [z]; simp)
  refine o.nx _ B2 _ _ k (R2.upd1 hi e0 (.inr ⟨_, hp', by simp⟩) qb' ⟨pp, qs' ++ [q], rfl, n0', nb', by rw [upd_ne nq]; exact hp', nd', np', Paired.snoc ?_ ⟨q0', qb', _, upd_same, rs'.snoc r2⟩⟩ fun a z => .inl ?_) (f1.b.tr f2.b)
  · have nq2 : q ∉ qs' := fun z => (List.nodup_append.mp nd').2.2 _ z _ List.mem_cons_self rfl
    exact own2_upd pr' nq2
  · rcases z with z | ⟨ys, z1, z2⟩
    · exact .inl z
    · rw [upd_ne nq, hp'] at z1; cases z1
      exact .inr ⟨_, hp', z2⟩
/-- own.append([..]) -/
theorem SS_app2N (i : Nat) {nm : Str} {p ap cp : Pos} {dss : List (List D)} {ds : List D} (h : EL M g Z e r (.own ds)) (hl : dss.length < 1000) (k : SS M g Z rest (r.set i (some (.own2 (dss ++ [ds])))) O) (hi : r[i]? = some (some (.own2 dss)) := by rfl) (hN : g.N[i]? = some nm := by rfl) (hv : Vis g.sc nm := by first | exact Or.inl rfl | exact Or.inr (Or.inl rfl) | exact Or.inr (Or.inr rfl))
    (hd : (nm == ("__debug__" : Str)) = false := by decide) (hcd : (nm == ("__classdict__" : Str)) = false := by decide)
    (hs : ∀ env : Env, env.scope = g.sc → swapsWith (.Call (.Attribute (.Name nm p) "append" ap) [e] [] cp) none pos.line env = pure false := by intro _ _; rfl)
    (h1 : ∀ env, attributeBase (.Name nm p) "append" env (eval (.Name nm p) env) = eval (.Name nm p) env := by intro _; rfl)
    (h2 : ∀ env, ((backTo cp (starEach [e] env)).all (fun x => !x.1) && (backToKw cp (keywordEach [] env)).all (fun x => x.1.isSome) && decide ([e].length + ([] : List Keyword).length + (if ([] : List Keyword).isEmpty then 0 else 1) < 30)) = true := by intro _; rfl)
    (h3 : (ap.endLine == cp.line) = true := by rfl) (h4 : ∀ env, starEach [e] env = (false, eval e env) :: starEach [] env := by intro _; rfl) : SS M g Z (.Expr (.Call (.Attribute (.Name nm p) "append" ap) [e] [] cp) pos :: rest) r O := SS_cons fun X ok B0 H0 B H σ R Dn o => by
  refine ⟨_, ps_expr (pe_bm F.plainAttrs_list F.slot_list_append F.type_list_append mt_append (pe_var (i := i) (by rw [ok.N]; exact hN) (by rw [ok.sc]; exact hv) hd hcd) (pa_cons pe_w pa_nil (h4 _)) (h1 _) (h2 _) h3 (h4 _) rfl) (hs _ ok.sc), ?_⟩
  obtain ⟨v0, e0, pp, qs, rfl, n0, nb, hp, nd, np, pr⟩ := R.at_ i _ hi
  refine ⟨_, e0, .inl ⟨rfl, _, SqL.of hp⟩, ?_⟩
  refine h X ok B0 H0 B H σ R _ fun v B1 H1 f1 r1 => ?_
  have R1 := R.step f1
  obtain ⟨v1, e1, pp', qs', rfl, n0', nb', hp', nd', np', pr'⟩ := R1.at_ i _ hi
  rw [e0] at e1; cases e1
  obtain ⟨q, rfl, hq0, hqb, xs, hq, rs⟩ := r1
  have ll : qs'.length = dss.length := (Paired.length pr').symm
  have hnew : H1 pp = some (.lst (qs'.map V.ref)) := hp'
  have hpH := f1.h pp _ hp (R.s0.ne n0)
  have eqq : qs' = qs := by
    rw [hp'] at hpH
    injection hpH with hp2; injection hp2 with hp2
    exact List.map_inj_right (fun a b e => by injection e) |>.mp hp2
  subst eqq
  have nqp : q ≠ pp := fun z => by rw [z, hp] at hq0; cases hq0
  have inH : ∀ a ∈ qs', ∃ o, H a = some o := Paired.all pr fun _ _ x => ⟨_, x.2.2.choose_spec.1⟩
  have nqq : q ∉ qs' := fun z => by obtain ⟨o, e⟩ := inH q z; rw [e] at hq0; cases hq0
  refine ⟨pp, _, .ref q, rfl, rfl, hp', by rw [List.length_map, ll]; exact Nat.lt_of_lt_of_le hl (by decide), ?_⟩
  have e5 : qs'.map V.ref ++ [.ref q] = (qs' ++ [q]).map V.ref := by rw [List.map_append]; rfl
  rw [e5]
  refine o.nx _ B1 _ _ k (R1.upd1 hi e0 (.inl rfl) nb' ⟨pp, qs' ++ [q], rfl, n0', nb', upd_same, ?_, ?_, Paired.snoc ?_ ⟨R.fr.free R.s0 hq0, hqb, xs, by rw [upd_ne nqp]; exact hq, rs⟩⟩ fun a z => ?_) f1.b
  · exact List.nodup_append.mpr ⟨nd', by simp, fun a ha b hb => by rw [List.mem_singleton.mp hb]; exact fun z => nqq (z ▸ ha)⟩
  · simp only [List.mem_append, List.mem_singleton, not_or]; exact ⟨np', Ne.symm nqp⟩
  · exact own2_upd pr' np'
  · rcases z with z | ⟨ys, z1, z2⟩
    · exact .inl (.inl z)
    · rw [upd_same] at z1; cases z1
      rw [List.map_append, List.mem_append] at z2
      rcases z2 with z2 | z2
      · exact .inl (.inr ⟨_, hp', z2⟩)
      · right
        have : a = q := by simpa using z2
        subst this
        intro j m w ne e2 e3 k2
        obtain ⟨w2, q1, h3⟩ := R.at_ j m e2
        rw [e3] at q1; cases q1
        obtain ⟨_, ob, q3⟩ := h3.foot (Foot.back R.s0 f1 h3 k2)
        rw [hq0] at q3; cases q3
theorem own2_rds {C : Addr} {H0 B B2 H : Hp} (ex : Ex B B2) : ∀ {dss : List (List D)} {qs : List Addr}, Paired (fun ds q => Own1 C Z H0 B H ds q) dss qs → (∀ q ∈ qs, B2 q = H q) → RDs C Z.s B2 (dss.map D.lst) (qs.map V.ref)
  | _, _, .nil, _ => .nil
  | _, _, .cons ⟨_, _, xs, a, b⟩ t, h => .cons (.lst (by rw [h _ List.mem_cons_self]; exact a) (b.mono ex)) (own2_rds ex t fun q hq => h q (List.mem_cons_of_mem _ hq))
theorem RL.share {C : Addr} {H0 B B2 H : Hp} {l : L} {v : V} (ex : Ex B B2) (h : RL C Z H0 B H l v) (n : ∀ a, Foot H l v a → B2 a = none) : RL C Z H0 B2 H l v := by
  cases l with
  | d x => exact RD.mono ex h
  | own ds => obtain ⟨q, rfl, n0, nb, xs, hq, rs⟩ := h; exact ⟨q, rfl, n0, n q rfl, xs, hq, rs.mono ex⟩
  | odic ds => obtain ⟨q, rfl, n0, nb, xs, hq, rs⟩ := h; exact ⟨q, rfl, n0, n q rfl, xs, hq, rs⟩
  | own2 dss =>
    obtain ⟨q, qs, rfl, n0, nb, hq, nd, nq, pr⟩ := h
    refine ⟨q, qs, rfl, n0, n q (.inl rfl), hq, nd, nq, ?_⟩
    have n2 : ∀ a ∈ qs, B2 a = none := fun a ha => n a (.inr ⟨_, hq, List.mem_map.mpr ⟨a, ha, rfl⟩⟩)
    clear hq nd nq n
    induction pr with
    | nil => exact .nil
    | cons f t ih =>
      obtain ⟨a1, a2, xs, a3, a4⟩ := f
      exact .cons ⟨a1, n2 _ List.mem_cons_self, xs, a3, a4.mono ex⟩ (ih fun a ha => n2 a (List.mem_cons_of_mem _ ha))
theorem RS.share {C : Addr} {B0 H0 B B2 H : Hp} {σ : L2.St} {l : L} {v : V} {x : D} (R : RS C Z B0 H0 B H r σ) {i : Nat} (hi : r[i]? = some (some l)) (hs : σ[i]? = some (some v)) (ex : Ex B B2) (exH : Ex B2 H) (hf : ∀ a, B2 a = B a ∨ Foot H l v a) (rd : RD C Z.s B2 x v) : RS C Z B0 H0 B2 H (r.set i (some (.d x))) σ := by
  obtain ⟨v', q0, h0⟩ := R.at_ i l hi
  rw [hs] at q0; cases q0
  have hl : i < r.length := (List.getElem?_eq_some_iff.mp hi).1
  refine ⟨R.s0, R.hz, ⟨R.fr.b.tr ex, R.fr.h, exH, fun a o e n => ?_, R.fr.src⟩, by rw [List.length_set]; exact R.len, fun j m em => ?_, fun j k m n u w a e1 e2 e3 e4 ne k1 k2 => ?_⟩
  · rcases hf a with z | z
    · rw [z]; exact R.fr.hid a o e n
    · have := (h0.foot z).1
      rw [e] at this; cases this
  · by_cases q : i = j
    · subst q
      have := set_at em; subst this
      exact ⟨v, hs, rd⟩
    · rw [List.getElem?_set_ne q] at em
      obtain ⟨u, e1, h1⟩ := R.at_ j m em
      refine ⟨u, e1, h1.share ex fun a k => ?_⟩
      rcases hf a with z | z
      · rw [z]
        cases m with
        | d x => cases u <;> exact k.elim
        | own ds => obtain ⟨p, rfl, _, b, _⟩ := h1; cases k; exact b
        | odic ds => obtain ⟨p, rfl, _, b, _⟩ := h1; cases k; exact b
        | own2 dss =>
          obtain ⟨p, qs, rfl, _, b, hp, _, _, pr⟩ := h1
          rcases k with k | ⟨xs, k1, k2⟩
          · subst k; exact b
          · rw [hp] at k1; cases k1
            obtain ⟨q2, hq2, e2⟩ := List.mem_map.mp k2
            cases e2
            exact Paired.all pr (G := fun a => B a = none) (fun _ _ x => x.2.1) _ hq2
      · exact absurd k (R.ap i j l m v u a hi em hs e1 q z)
  · have nf : ∀ (j : Nat) (l : L) (u : V) (a : Addr), (r.set i (some (.d x)))[j]? = some (some l) → Foot H l u a → i ≠ j := fun j l u a e k q => by
      subst q
      have := set_at e; subst this
      cases u <;> exact k
    have q1 := nf j m u a e1 k1
    have q2 := nf k n w a e2 k2
    rw [List.getElem?_set_ne q1] at e1
    rw [List.getElem?_set_ne q2] at e2
    exact R.ap j k m n u w a e1 e2 e3 e4 ne k1 k2
/-- from here on it is shared -/
theorem SS_give2 (i : Nat) {dss : List (List D)} (k : SS M g Z rest (r.set i (some (.d (.lst (dss.map D.lst))))) O) (hi : r[i]? = some (some (.own2 dss)) := by rfl) : SS M g Z rest r O := fun X ok B0 H0 B H σ R Dn o => by
  obtain ⟨v, e, p, qs, rfl, n0, nb, hp, nd, np, pr⟩ := R.at_ i _ hi
  have hB : ∀ a, a = p ∨ a ∈ qs → B a = none ∧ H0 a = none := fun a ha => by
    rcases ha with z | z
    · subst z; exact ⟨nb, n0⟩
    · exact Paired.all pr (G := fun a => B a = none ∧ H0 a = none) (fun _ _ x => ⟨x.2.1, x.1⟩) a z
  have hin : ∀ a, a = p ∨ a ∈ qs → ∃ o, H a = some o := fun a ha => by
    rcases ha with z | z
    · subst z; exact ⟨_, hp⟩
    · exact Paired.all pr (G := fun a => ∃ o, H a = some o) (fun _ _ x => ⟨_, x.2.2.choose_spec.1⟩) a z
  have ex : Ex B (fun a => if a = p ∨ a ∈ qs then H a else B a) := fun a u ha => by
    show (if _ then _ else _) = _
    by_cases z : a = p ∨ a ∈ qs
    · rw [(hB a z).1] at ha; cases ha
    · rw [if_neg z]; exact ha
  have exH : Ex (fun a => if a = p ∨ a ∈ qs then H a else B a) H := fun a u ha => by
    have ha : (if a = p ∨ a ∈ qs then H a else B a) = some u := ha
    by_cases z : a = p ∨ a ∈ qs
    · rw [if_pos z] at ha; exact ha
    · rw [if_neg z] at ha; exact R.sB _ _ ha
  have rd : RD M.C Z.s (fun a => if a = p ∨ a ∈ qs then H a else B a) (.lst (dss.map D.lst)) (.ref p) := by
    refine .lst (xs := qs.map V.ref) (by show (if _ then _ else _) = _; rw [if_pos (.inl rfl)]; exact hp) ?_
    have sub : ∀ a ∈ qs, (if a = p ∨ a ∈ qs then H a else B a) = H a := fun a ha => if_pos (.inr ha)
    exact own2_rds ex pr sub
  refine k X ok B0 H0 _ H σ (R.share hi e ex exH (fun a => ?_) rd) Dn (o.go ex)
  by_cases z : a = p ∨ a ∈ qs
  · right
    rcases z with z | z
    · exact .inl z
    · exact .inr ⟨_, hp, List.mem_map.mpr ⟨a, z, rfl⟩⟩
  · left; exact if_neg z
end
end OC
set_option maxHeartbeats 4000000
/-! Mirrors: gaps, corners, heights. -/
namespace OC
open PySem PySem.Spec PyProof.Rows L2
structure Gp where
  left : Int
  width : Int
  odd : Bool
  deriving DecidableEq
def kindS (b : Bool) : Str := if b then "odd" else "even"
abbrev gpD (q : Gp) : D := .tup [.int q.left, .int q.width, .str (kindS q.odd)]
def gapsF (va : Int → Int) : Int → List Int → List Gp
  | m, a :: b :: l => ⟨a, b - a, decide ((m + va a) % 2 = 1)⟩ :: gapsF va (m + va a) (b :: l)
  | _, _ => []
def vat (ps : List Per) (y : Int) : Int := vsum (crowd ps y)
def gaps (ps : List Per) : List Gp := gapsF (vat ps) 0 (stops ps)
def gapsStep (va : Int → Int) (s : Int × List Gp) (q : Int × Int) : Int × List Gp := (s.1 + va q.1, s.2 ++ [⟨q.1, q.2 - q.1, decide ((s.1 + va q.1) % 2 = 1)⟩])
theorem gaps_fold (va : Int → Int) : ∀ (xs : List Int) (s : Int × List Gp), ((xs.zip (xs.drop 1)).foldl (gapsStep va) s).2 = s.2 ++ gapsF va s.1 xs
  | [], s => by simp [gapsF]
  | [a], s => by simp [gapsF]
  | a :: b :: l, s => by
    show (((b :: l).zip ((b :: l).drop 1)).foldl (gapsStep va) (gapsStep va s (a, b))).2 = _
    rw [gaps_fold va (b :: l)]
    show (s.2 ++ [_]) ++ gapsF va (s.1 + va a) (b :: l) = s.2 ++ (_ :: gapsF va (s.1 + va a) (b :: l))
    rw [List.append_assoc]; rfl
theorem gapsF_len (va : Int → Int) : ∀ (m : Int) (xs : List Int), (gapsF va m xs).length = xs.length - 1
  | _, [] => rfl
  | _, [_] => rfl
  | m, a :: b :: l => by
    show (gapsF va (m + va a) (b :: l)).length + 1 = _
    rw [gapsF_len va _ (b :: l)]; simp
theorem gaps_len (ps : List Per) : (gaps ps).length = (stops ps).length - 1 := gapsF_len _ _ _
theorem gaps_le {ps : List Per} (gd : Good ps) : (gaps ps).length ≤ 8 := by have := gaps_len ps; have := stops_len ps; have := gd.len; omega
/-- up or down -/
def sg (q : Gp) : Int := if q.odd then q.width else -q.width
def cornersF : Int → List Gp → List (Int × Int)
  | _, [] => []
  | h, q :: l => (q.left + q.width, h + sg q) :: cornersF (h + sg q) l
def corners (ps : List Per) : List (Int × Int) := ((stops ps).take 1).map (fun y => (y, 0)) ++ cornersF 0 (gaps ps)
abbrev ciD (q : Int × Int) : D := .tup [.int q.1, .int q.2]
def cornersStep (s : Int × List (Int × Int)) (q : Gp) : Int × List (Int × Int) := (s.1 + sg q, s.2 ++ [(q.left + q.width, s.1 + sg q)])
theorem corners_fold : ∀ (l : List Gp) (s : Int × List (Int × Int)), (l.foldl cornersStep s).2 = s.2 ++ cornersF s.1 l
  | [], s => by simp [cornersF]
  | q :: l, s => by
    rw [List.foldl_cons, corners_fold l]
    show (s.2 ++ [_]) ++ cornersF (s.1 + sg q) l = s.2 ++ (_ :: cornersF (s.1 + sg q) l)
    rw [List.append_assoc]; rfl
theorem cornersF_len : ∀ (h : Int) (l : List Gp), (cornersF h l).length = l.length
  | _, [] => rfl
  | h, q :: l => by show (cornersF (h + sg q) l).length + 1 = _; rw [cornersF_len]; rfl
theorem corners_le {ps : List Per} (gd : Good ps) : (corners ps).length ≤ 9 := by
  unfold corners
  rw [List.length_append, List.length_map, cornersF_len, List.length_take]
  have := gaps_le gd; omega
def topStep (s : Option (Int × Int)) (q : Int × Int) : Option (Int × Int) := match s with
  | none => some (q.2, q.1)
  | some (h, y) => if h < q.2 then some (q.2, q.1) else some (h, y)
def greatest (ps : List Per) : Option (Int × Int) := (corners ps).foldl topStep none
theorem top_some : ∀ (l : List (Int × Int)) (s : Int × Int), ∃ t, l.foldl topStep (some s) = some t ∧ s.1 ≤ t.1 ∧ (∀ q ∈ l, q.2 ≤ t.1) ∧ (t.1 = s.1 ∨ ∃ q ∈ l, q.2 = t.1)
  | [], s => ⟨s, rfl, Int.le_refl _, fun q h => (nomatch h), .inl rfl⟩
  | q :: l, s => by
    rw [List.foldl_cons]
    show ∃ t, l.foldl topStep (if s.1 < q.2 then some (q.2, q.1) else some s) = some t ∧ _
    by_cases h : s.1 < q.2
    · rw [if_pos h]
      obtain ⟨t, e, h1, h2, h3⟩ := top_some l (q.2, q.1)
      refine ⟨t, e, by have : q.2 ≤ t.1 := h1; omega, fun p hp => ?_, ?_⟩
      · rcases List.mem_cons.mp hp with z | z
        · rw [z]; exact h1
        · exact h2 p z
      · rcases h3 with h3 | ⟨p, hp, e2⟩
        · exact .inr ⟨q, List.mem_cons_self, h3.symm⟩
        · exact .inr ⟨p, List.mem_cons_of_mem _ hp, e2⟩
    · rw [if_neg h]
      obtain ⟨t, e, h1, h2, h3⟩ := top_some l s
      refine ⟨t, e, h1, fun p hp => ?_, ?_⟩
      · rcases List.mem_cons.mp hp with z | z
        · rw [z]; omega
        · exact h2 p z
      · rcases h3 with h3 | ⟨p, hp, e2⟩
        · exact .inl h3
        · exact .inr ⟨p, List.mem_cons_of_mem _ hp, e2⟩
theorem stops_ne {ps : List Per} (gd : Good ps) : ∃ y l, stops ps = y :: l := by
  obtain ⟨p, hp⟩ := List.exists_mem_of_ne_nil ps gd.ne
  have := (stops_mem ps p.pl).mpr ⟨p, hp, rfl⟩
  cases q : stops ps with
  | nil => rw [q] at this; cases this
  | cons y l => exact ⟨y, l, rfl⟩
theorem corners_cons {ps : List Per} (gd : Good ps) : ∃ y, corners ps = (y, 0) :: cornersF 0 (gaps ps) ∧ (stops ps)[0]? = some y := by
  obtain ⟨y, l, e⟩ := stops_ne gd
  refine ⟨y, ?_, by rw [e]; rfl⟩
  unfold corners; rw [e]; rfl
/-- the greatest height, its place -/
def topH (ps : List Per) : Int × Int := (greatest ps).getD (0, 0)
theorem greatest_top {ps : List Per} (gd : Good ps) : greatest ps = some (topH ps) ∧ (∀ q ∈ corners ps, q.2 ≤ (topH ps).1) ∧ ∃ q ∈ corners ps, q.2 = (topH ps).1 := by
  obtain ⟨y, e, _⟩ := corners_cons gd
  obtain ⟨t, e1, h1, h2, h3⟩ := top_some (cornersF 0 (gaps ps)) (0, y)
  have e2 : greatest ps = some t := by unfold greatest; rw [e, List.foldl_cons]; exact e1
  have e3 : topH ps = t := by unfold topH; rw [e2]; rfl
  rw [e3, e]
  refine ⟨e2, fun q hq => ?_, ?_⟩
  · rcases List.mem_cons.mp hq with z | z
    · rw [z]; exact h1
    · exact h2 q z
  · rcases h3 with h3 | ⟨q, hq, e4⟩
    · exact ⟨(y, 0), List.mem_cons_self, h3.symm⟩
    · exact ⟨q, List.mem_cons_of_mem _ hq, e4⟩
theorem voices_count {ps : List Per} (gd : Good ps) (y : Int) : ((ps.filter fun p => decide (p.pl = y) && decide (p.vc = 1)).length : Int) = vat ps y := by
  have key : ∀ l : List Per, (∀ p ∈ l, p.vc = 0 ∨ p.vc = 1) → ((l.filter fun p => decide (p.pl = y) && decide (p.vc = 1)).length : Int) = ((l.filter fun p => decide (p.pl = y)).map (·.vc)).sum := by
    intro l
    induction l with
    | nil => intro _; rfl
    | cons p l ih =>
      intro hv
      have ih := ih fun q hq => hv q (List.mem_cons_of_mem _ hq)
      have hp := hv p List.mem_cons_self
      rw [List.filter_cons, List.filter_cons]
      by_cases e : p.pl = y
      · rcases hp with v | v
        · simp [e, v, ih]
        · simp [e, v]; rw [← ih]; omega
      · simp [e, ih]
  exact key ps gd.vc
end OC
set_option maxHeartbeats 4000000
/-! Walks: calls. -/
namespace OC
open PySem PySem.Spec PyProof.Rows L2
abbrev tellD (ps : List Per) : D := .lst (ps.map fun p => D.tup [.str p.nm, .int p.vc])
theorem Sh_tell {ps : List Per} (gd : Good ps) : Sh 2 (tellD ps) := .lst fun d hd => by
  obtain ⟨p, hp, rfl⟩ := List.mem_map.mp hd
  refine .tup fun d hd => ?_
  simp only [List.mem_cons, List.not_mem_nil, or_false] at hd
  rcases hd with rfl | rfl
  · exact .str (gd.nm p hp).str
  · exact .int _
theorem tell_like {ps qs : List Per} (h : Like ps qs) : tellD ps = tellD qs := by
  have := congrArg (List.map fun q : Str × Int => D.tup [.str q.1, .int q.2]) h
  rw [List.map_map, List.map_map] at this
  exact congrArg D.lst this
section
variable {M : Mo} (h : Hd M)
include h
theorem w_are_like : FnG M 2 "are_like" false (R2 fun _ _ => .bl true) := by
  refine h.fnG 18 5 fs_are_like bn_are_like R2.len ?_
  rintro Z ds P - ⟨ps, qs, gp, gq, lk, rfl, rfl⟩
  have l1 := gp.len
  have l2 := gq.len
  refine SS_lc 2 (L_lcm (l := [ps, qs]) (gf := D.std) [("standing", 3)] (fun d => d) tellD (IT_tup (E_tup (A2 (E_var 0) (E_var 1)))) (fun x hx => ⟨_, _, G_name 3, by decide, ?_⟩) (by simp)) ?_
  · have gx : Good x := by
      simp only [List.mem_cons, List.not_mem_nil, or_false] at hx
      rcases hx with rfl | rfl <;> assumption
    have lx := gx.len
    exact E_lcM [("name", 4), ("place", 5), ("voice", 6)] (IT_list (EP_meth0 h.cls (w_S_people h) (E_var 3) ⟨_, gx, rfl, rfl⟩)) ⟨rfl, by decide +kernel, by decide +kernel, by decide +kernel, by decide +kernel⟩ (fun p => D.tup [.str p.nm, .int p.vc]) (fun p hp => ⟨_, _, G_3 (G_name 4) (G_name 5) (G_name 6), by decide, E_tup (A2 (E_var 4) (E_var 6))⟩) (by omega)
  · refine SS_ret (E_cmp (E_ixL (d := tellD ps) (E_var 2) E_int rfl) (E_ixL (d := tellD qs) (E_var 2) E_int rfl) (eqD (q := true) (Sh_tell gp) (Sh_tell gq) ?_)) rfl
    rw [tell_like lk]; exact (Sh_tell gq).refl
theorem w_is_odd_crowd : FnG M 5 "is_odd_crowd" false (R1I fun ps y => .bl (loudAt ps y)) := by
  refine h.fnG 19 6 fs_is_odd_crowd bn_is_odd_crowd R1I.len ?_
  rintro Z ds P - ⟨ps, y, gd, rfl, rfl⟩
  have l8 := gd.len
  have lc := crowd_len ps y
  refine SS_ret (E.of (E_cmp (E_mod (E_sum h (E_lcm (l := (crowd ps y).map (·.nm)) (gf := D.str) [("name", 2)] D.int (fun n => (perOf ps n).vc) (IT_list (EP_meth h.cls (w_S_at h) (E_var 0) (A1 (E_var 1)) ⟨_, _, gd, rfl, rfl⟩)) (fun n hn => ⟨_, _, G_name 2, by decide, EP_meth h.cls (w_S_voice h) (E_var 0) (A1 (E_var 2)) ⟨_, _, gd, ?_, rfl, rfl⟩⟩) (by rw [List.length_map]; omega))) E_int) E_int (eqI _ _)) ?_) rfl
  · obtain ⟨p, hp, rfl⟩ := List.mem_map.mp hn
    exact List.mem_map.mpr ⟨p, (List.mem_filter.mp hp).1, rfl⟩
  · rw [crowd_voices gd]; rfl
theorem w_is_loud : FnG M 6 "is_loud" false (R1N fun ps n => .bl (loudAt ps (plc ps n))) := by
  refine h.fnG 20 7 fs_is_loud bn_is_loud R1N.len ?_
  rintro Z ds P - ⟨ps, n, gd, hn, rfl, rfl⟩
  exact SS_ret (EP_call (w_is_odd_crowd h) (A2 (E_var 0) (EP_meth h.cls (w_S_place h) (E_var 0) (A1 (E_var 1)) ⟨_, _, gd, hn, rfl, rfl⟩)) ⟨_, _, gd, rfl, rfl⟩) rfl
theorem w_can_call : FnG M 7 "can_call" false (R1N fun ps n => .bl (canCall ps n)) := by
  refine h.fnG 21 8 fs_can_call bn_can_call R1N.len ?_
  rintro Z ds P - ⟨ps, n, gd, hn, rfl, rfl⟩
  exact SS_ret (E_and (EP_call (w_is_loud h) (A2 (E_var 0) (E_var 1)) ⟨_, _, gd, hn, rfl, rfl⟩) fun _ => E_one (E_not (EP_meth0 h.cls (w_S_is_together h) (E_var 0) ⟨_, gd, rfl, rfl⟩))) rfl
def R_drawn : Rel := fun ds P => ∃ ps y t, Good ps ∧ ds = [.std ps, .int y, .int t] ∧ P = fun x => x = .std (drawn ps y t)
theorem w_drawn_in : FnG M 6 "drawn_in" false R_drawn := by
  refine h.fnG 22 9 fs_drawn_in bn_drawn_in (by rintro ds P ⟨ps, y, t, _, rfl, rfl⟩; rfl) ?_
  rintro Z ds P - ⟨ps, y, t, gd, rfl, rfl⟩
  have l8 := gd.len
  refine SS_setL 3 (EL_lst A_nil) ?_
  refine SS_fold (l := ps) (gf := perD) (IT_list (EP_meth0 h.cls (w_S_people h) (E_var 0) ⟨_, gd, rfl, rfl⟩)) (fun acc : List Per => [some (.d (.std ps)), some (.d (.int y)), some (.d (.int t)), some (.own (acc.map perD)), none, none, none, none]) (fun acc p => acc ++ [movP (fun p => drawI y t p.pl) p]) [] Le.rfl' ?_ ?_
  · rintro acc pre p post e1 e2
    have la : acc.length ≤ 8 := by
      have : ∀ (l : List Per) (a : List Per), (l.foldl (fun acc p => acc ++ [movP (fun p => drawI y t p.pl) p]) a).length = a.length + l.length := by
        intro l
        induction l with
        | nil => intro a; rfl
        | cons x l ih => intro a; rw [List.foldl_cons, ih]; simp; omega
      rw [e2, this]
      have := congrArg List.length e1
      simp at this ⊢; omega
    refine ⟨_, _, G_3 (G_name 4) (G_name 5) (G_name 6), ?_⟩
    refine SS_set (x := .int (drawI y t p.pl)) 7 (E.of (E_if (T_cmp (E_var 5) (E_var 1) (ltI _ _)) (fun _ => E_min2 h (E_var 1) (E_add (E_var 5) (E_var 2))) (fun _ => E_max2 h (E_var 1) (E_sub (E_var 5) (E_var 2)))) ?_) ?_
    · unfold drawI
      by_cases q : p.pl < y
      · rw [decide_eq_true q, if_pos q]; rfl
      · rw [decide_eq_false q, if_neg q]; rfl
    refine SS_append (ds := acc.map perD) 3 (E_tup (A_cons (E_var 4) (A2 (E_var 7) (E_var 6)))) (by rw [List.length_map]; omega) ?_
    refine SS_nil ?_
    rw [List.map_append]
    exact Le.keep (Le.keep (Le.keep (Le.keep (Le.drop (Le.drop (Le.drop (Le.drop Le.nil)))))))
  · have hf : ps.foldl (fun acc p => acc ++ [movP (fun p => drawI y t p.pl) p]) [] = drawn ps y t := by
      have : ∀ (l : List Per) (a : List Per), l.foldl (fun acc p => acc ++ [movP (fun p => drawI y t p.pl) p]) a = a ++ l.map (movP fun p => drawI y t p.pl) := by
        intro l
        induction l with
        | nil => intro a; simp
        | cons x l ih => intro a; rw [List.foldl_cons, ih]; simp
      rw [this]; rfl
    rw [hf]
    refine SS_give 3 ?_
    exact SS_ret (E_make h (drawn_good gd y t) (E_var 3)) rfl
def R_called : Rel := fun ds P => ∃ ps n, Good ps ∧ n ∈ ps.map (·.nm) ∧ canCall ps n = true ∧ ds = [.std ps, .str n] ∧ P = fun x => x = .std (drawn ps (plc ps n) 1)
theorem w_called : FnG M 8 "called" false R_called := by
  refine h.fnG 23 10 fs_called bn_called (by rintro ds P ⟨ps, y, _, _, _, rfl, rfl⟩; rfl) ?_
  rintro Z ds P - ⟨ps, n, gd, hn, cc, rfl, rfl⟩
  refine SS_ifF (T_not (T_val (EP_call (w_can_call h) (A2 (E_var 0) (E_var 1)) ⟨_, _, gd, hn, rfl, rfl⟩))) ?_ (by rw [cc]; rfl)
  exact SS_ret (EP_call (w_drawn_in h) (A_cons (E_var 0) (A2 (EP_meth h.cls (w_S_place h) (E_var 0) (A1 (E_var 1)) ⟨_, _, gd, hn, rfl, rfl⟩) E_int)) ⟨_, _, _, gd, rfl, rfl⟩) rfl
theorem w_callers : FnG M 8 "callers" false (R1 fun ps => strsD (callers ps)) := by
  refine h.fnG 24 11 fs_callers bn_callers R1.len ?_
  rintro Z ds P - ⟨ps, gd, rfl, rfl⟩
  have l8 := gd.len
  have ls := stops_len ps
  refine SS_lc 1 (L_lcm (l := stops ps) (gf := D.int) [("place", 2)] D.str (firstAt ps) (IT_list (EP_meth0 h.cls (w_S_places h) (E_var 0) ⟨_, gd, rfl, rfl⟩)) (fun y hy => ⟨_, _, G_name 2, by decide, E_ixL (EP_meth h.cls (w_S_at h) (E_var 0) (A1 (E_var 2)) ⟨_, _, gd, rfl, rfl⟩) E_int ?_⟩) (by omega)) ?_
  · exact atI_zero (by rw [List.getElem?_map, (firstAt_at hy).1]; rfl)
  · refine SS_ret (E.of (E_lcc (l := (stops ps).map (firstAt ps)) (gf := D.str) [("name", 3)] (canCall ps) D.str (fun n => n) (IT_list (E_var 1)) (fun n hn => ⟨_, _, G_name 3, by decide, .inr ⟨_, rfl, T_val (EP_call (w_can_call h) (A2 (E_var 0) (E_var 3)) ⟨_, _, gd, ?_, rfl, rfl⟩)⟩, fun _ => E_var 3⟩) (by rw [List.length_map]; omega)) ?_) rfl
    · obtain ⟨y, hy, rfl⟩ := List.mem_map.mp hn
      exact (firstAt_at hy).2
    · rw [List.map_id']; rfl
def R_nearest : Rel := fun ds P => ∃ ps y, Good ps ∧ together ps = false ∧ ds = [.std ps, .int y] ∧ P = fun x => x = .int (nearest ps y)
theorem w_nearest : FnG M 3 "nearest" false R_nearest := by
  refine h.fnG 25 12 fs_nearest bn_nearest (by rintro ds P ⟨ps, y, _, _, rfl, rfl⟩; rfl) ?_
  rintro Z ds P - ⟨ps, y, gd, tg, rfl, rfl⟩
  have l8 := gd.len
  have ls := stops_len ps
  have h2 : ¬ (stops ps).length < 2 := of_decide_eq_false tg
  have ne : (((stops ps).filter fun o => decide (o ≠ y)).map fun o => absI (y - o)) ≠ [] := by simpa using two_other (stops_up ps) h2 y
  exact SS_ret (E_minL h (minOf_mem ne) (fun z hz => minOf_le hz) (E_lcc (l := stops ps) (gf := D.int) [("other", 2)] (fun o => decide (o ≠ y)) D.int (fun o => absI (y - o)) (IT_list (EP_meth0 h.cls (w_S_places h) (E_var 0) ⟨_, gd, rfl, rfl⟩)) (fun o ho => ⟨_, _, G_name 2, by decide, .inr ⟨_, rfl, T_cmp (E_var 2) (E_var 1) (neI _ _)⟩, fun _ => E_abs h (E_sub (E_var 1) (E_var 2))⟩) (by omega))) rfl
/-- the one named may call t times -/
def stepsOk (ps : List Per) (n : Str) (t : Int) : Prop := ∀ s : Int, 0 ≤ s → s < t → canCall (drawn ps (plc ps n) s) n = true
def R_rounds : Rel := fun ds P => ∃ ps n t, Good ps ∧ n ∈ ps.map (·.nm) ∧ 0 ≤ t ∧ stepsOk ps n t ∧ ds = [.std ps, .str n, .int t] ∧ P = fun x => x = .tup [.int t, .std (drawn ps (plc ps n) t)]
theorem canCall_apart {ps : List Per} {n : Str} (hc : canCall ps n = true) : together ps = false := by
  unfold canCall at hc; rw [Bool.and_eq_true] at hc
  cases q : together ps with
  | false => rfl
  | true => rw [q] at hc; exact absurd hc.2 (by decide)
theorem w_rounds_of : FnG M 8 "rounds_of" false R_rounds := by
  refine h.fnG 26 13 fs_rounds_of bn_rounds_of (by rintro ds P ⟨ps, n, t, _, _, _, _, rfl, rfl⟩; rfl) ?_
  rintro Z ds P - ⟨ps, n, t, gd, hn, ht, so, rfl, rfl⟩
  refine SS_par (i := 3) (j := 4) (AL_cons E_int.l (AL_cons (E_var 0).l AL_nil)) ?_
  refine SS_while (fun m r' => ∃ s : Int, 0 ≤ s ∧ s ≤ t ∧ m = (t - s).toNat ∧ r' = [some (.d (.std ps)), some (.d (.str n)), some (.d (.int t)), some (.d (.int s)), some (.d (.std (drawn ps (plc ps n) s))), none, none]) (t - 0).toNat (r0 := [some (.d (.std ps)), some (.d (.str n)), some (.d (.int t)), some (.d (.int 0)), some (.d (.std (drawn ps (plc ps n) 0))), none, none]) (by rw [drawn_zero]; exact Le.rfl') ⟨0, Int.le_refl _, ht, rfl, rfl⟩ ?_
  rintro m r' ⟨s, s0, st, rfl, rfl⟩
  have gs := drawn_good gd (plc ps n) s
  have hns : n ∈ (drawn ps (plc ps n) s).map (·.nm) := by rw [drawn_names]; exact hn
  have hpl : plc (drawn ps (plc ps n) s) n = plc ps n := by rw [plc_drawn gd hn, drawI_self s0]
  refine ⟨_, T_and (T_val (EP_call (w_can_call h) (A2 (E_var 4) (E_var 1)) ⟨_, _, gs, hns, rfl, rfl⟩)) fun _ => T_cmp (E_var 3) (E_var 2) (neI _ _), fun hp => ?_, fun hp => ?_⟩
  · rw [Bool.and_eq_true, decide_eq_true_iff] at hp
    have tg := canCall_apart h hp.1
    have np := nearest_pos (y := plc ps n) tg
    refine SS_set (x := .int (plc ps n)) 5 (E.of (EP_meth h.cls (w_S_place h) (E_var 4) (A1 (E_var 1)) ⟨_, _, gs, hns, rfl, rfl⟩) (congrArg D.int hpl)) ?_
    refine SS_set (x := .int (min (t - s) (nearest (drawn ps (plc ps n) s) (plc ps n)))) 6 (E.of (E_if (p := false) (u := .non) (T_isN (x := .int t) (E_var 2)) (fun z => nomatch z) (fun _ => E_min2 h (E_sub (E_var 2) (E_var 3)) (EP_call (w_nearest h) (A2 (E_var 4) (E_var 5)) ⟨_, _, gs, tg, rfl, rfl⟩))) rfl) ?_
    refine SS_par (i := 3) (j := 4) (AL_cons (E_add (E_var 3) (E_var 6)).l (AL_cons (E.l (EP_call (w_drawn_in h) (A_cons (E_var 4) (A2 (E_var 5) (E_var 6))) ⟨_, _, _, gs, rfl, rfl⟩)) AL_nil)) ?_
    rw [drawn_add s0 (by omega)]
    generalize hm : min (t - s) (nearest (drawn ps (plc ps n) s) (plc ps n)) = mm
    refine SS_nil ⟨(t - (s + mm)).toNat, [some (.d (.std ps)), some (.d (.str n)), some (.d (.int t)), some (.d (.int (s + mm))), some (.d (.std (drawn ps (plc ps n) (s + mm)))), none, none], by omega, ?_, s + mm, by omega, by omega, rfl, rfl⟩
    exact Le.keep (Le.keep (Le.keep (Le.keep (Le.keep (Le.drop (Le.drop Le.nil))))))
  · have e : s = t := by
      by_cases q : s = t
      · exact q
      · rw [so s s0 (by omega), Bool.true_and, decide_eq_false_iff_not] at hp
        exact absurd q hp
    subst e
    exact SS_ret (E_tup (A2 (E_var 3) (E_var 4))) rfl
end
end OC
set_option maxHeartbeats 4000000
/-! zip of three lists; list of it. -/
namespace OC
open PySem PySem.Spec PyProof.Rows L2
/-- the zip at z, its tuple T still held by somebody -/
abbrev ZU (h : Heap) (z TI TO T : Addr) (f : Bool) : Prop := h.get? z = some { cls := .type "zip", data := .fields #[rawInt T, .bool f, .bool false, .ref TI, .ref TO] }
section
variable {prog : Program} {w : World} {A : Around} {E : Value → Shared → Prop} {s : Shared} {z TI TO i1 i2 i3 T : Addr} {fp1 fp2 fp3 : List Addr} {n1 n2 n3 i : Nat} {P1 P2 P3 : Nat → Value → Prop} {St1 St2 St3 : Nat → Heap → Prop} {f : Bool} {oT : Obj}
theorem zu_free {k : Bool → Sem Fin} {Q : Fin → Shared → Prop} (hz : ZU s.heap z TI TO T f) (hT : s.heap.get? T = some oT) (h : ∀ h', ZU h' z TI TO T true → Heap.SameBut z s.heap h' → wpAny (model prog w) A (k false) Q E { s with heap := h' }) :
    wpAny (model prog w) A (Builtin.SmallTypes.ownedTupleIsFree (.ref z) >>= k) Q E s := by
  refine wpAny_bind ?_
  unfold Builtin.SmallTypes.ownedTupleIsFree
  refine wpAny_bind (wpAny_field hz rfl (x := rawInt T) rfl ?_)
  show wpAny _ _ (loadIfAlive ((T : Int).toNat) >>= _) _ _ _
  rw [Int.toNat_natCast]
  refine wpAny_bind (PySem.W.kdx_alive hT ?_)
  simp only [Option.isNone_some, Bool.false_eq_true, if_false]
  refine wpAny_bind (wpAny_field hz rfl (x := .bool f) rfl ?_)
  cases f with
  | true =>
    rw [if_neg (show ¬ ((Value.bool true != Value.bool true) = true) from Bool.false_ne_true)]
    exact wpAny_pure (h s.heap hz (Heap.SameBut.refl _ _))
  | false =>
    rw [if_pos (show (Value.bool false != Value.bool true) = true from rfl)]
    refine wpAny_bind (wpAny_setField_rec hz (by simp) fun h₃ he₃ hs₃ => ?_)
    exact wpAny_pure (h h₃ he₃ hs₃)
theorem zu_item {Q : Value → Shared → Prop} (S : ZipSep3 z TI TO i1 i2 i3 fp1 fp2 fp3) (D1 : Draws prog w A i1 fp1 n1 P1 St1) (D2 : Draws prog w A i2 fp2 n2 P2 St2) (D3 : Draws prog w A i3 fp3 n3 P3 St3)
    (hz : ZU s.heap z TI TO T f) (hT : s.heap.get? T = some oT) (hTI : IsTupOf3 s.heap TI (.ref i1) (.ref i2) (.ref i3)) (st1 : St1 i s.heap) (st2 : St2 i s.heap) (st3 : St3 i s.heap) (hlt1 : i < n1) (hlt2 : i < n2) (hlt3 : i < n3)
    (hQ : ∀ x1 x2 x3 h' tk, P1 i x1 → P2 i x2 → P3 i x3 → ZU h' z TI TO T true → St1 (i + 1) h' → St2 (i + 1) h' → St3 (i + 1) h' → IsTupOf3 h' s.heap.objs.size x1 x2 x3 → h'.objs.size = s.heap.objs.size + 1 →
      (∀ c o, c ≠ z → c ≠ i1 → c ≠ i2 → c ≠ i3 → s.heap.get? c = some o → h'.get? c = some o) → Q (.ref s.heap.objs.size) { s with heap := h', toks := tk }) :
    wpAny (model prog w) A (Builtin.«zip.__next__» ⟨[.ref z], []⟩) (fun fin s' => ∃ v, fin = .done (.ret v) ∧ Q v s') E s := by
  obtain ⟨hp, g, d, tk0, os⟩ := s
  show wpAny _ _ (field (.ref z) 2 >>= _) _ _ _
  refine wpAny_bind (wpAny_field hz rfl (x := .bool false) rfl ?_)
  show wpAny _ _ (field (.ref z) 3 >>= _) _ _ _
  refine wpAny_bind (wpAny_field hz rfl (x := .ref TI) rfl ?_)
  refine wpAny_bind (wpAny_seqItems hTI rfl ?_)
  show wpAny _ _ (Builtin.SmallTypes.ownedTupleIsFree (.ref z) >>= _) _ _ _
  refine zu_free hz hT fun g0 hz0 hs0 => ?_
  simp only [Bool.false_eq_true, if_false]
  rw [← Array.forIn_toList]
  simp only [List.forIn_cons, List.forIn_nil]
  refine wpAny_bind (wpAny_bind (wpAny_bind (wpAny_holding ?_)))
  show wpAny _ _ (Builtin.SmallTypes.nextOf (.ref i1) >>= _) _ _ ⟨g0, g, d, tk0, os⟩
  refine wpAny_bind (D1.item i _ _ _ hlt1 (D1.over st1 hs0 S.zf1) fun x1 p1 tk1 hx1 sn1 hp1 => wpAny_pure ?_)
  replace hp1 : Heap.SameBut i1 g0 p1 := hp1
  refine wpAny_pure ?_
  refine wpAny_bind (wpAny_bind (wpAny_holding ?_))
  show wpAny _ _ (Builtin.SmallTypes.nextOf (.ref i2) >>= _) _ _ ⟨p1, g, d, tk1, os⟩
  refine wpAny_bind (D2.item i _ _ _ hlt2 (D2.over (D2.over st2 hs0 S.zf2) hp1 S.sep1_2) fun x2 p2 tk2 hx2 sn2 hp2 => wpAny_pure ?_)
  replace hp2 : Heap.SameBut i2 p1 p2 := hp2
  refine wpAny_pure ?_
  refine wpAny_bind (wpAny_bind (wpAny_holding ?_))
  show wpAny _ _ (Builtin.SmallTypes.nextOf (.ref i3) >>= _) _ _ ⟨p2, g, d, tk2, os⟩
  refine wpAny_bind (D3.item i _ _ _ hlt3 (D3.over (D3.over (D3.over st3 hs0 S.zf3) hp1 S.sep1_3) hp2 S.sep2_3) fun x3 p3 tk3 hx3 sn3 hp3 => wpAny_pure ?_)
  replace hp3 : Heap.SameBut i3 p2 p3 := hp3
  refine wpAny_pure (wpAny_pure ?_)
  refine wpAny_bind (wpAny_newTuple ?_ (by simp [sizeLine_eq]))
  have hsz : p3.objs.size = hp.objs.size := by rw [hp3.1, hp2.1, hp1.1, hs0.1]
  have kk : ∀ c o, c ≠ z → c ≠ i1 → c ≠ i2 → c ≠ i3 → hp.get? c = some o → p3.get? c = some o := fun c o cz c1 c2 c3 e => hp3.extBut _ _ c3 (hp2.extBut _ _ c2 (hp1.extBut _ _ c1 (hs0.extBut _ _ cz e)))
  have hzz : ZU p3 z TI TO T true := hp3.extBut _ _ S.zi3 (hp2.extBut _ _ S.zi2 (hp1.extBut _ _ S.zi1 hz0))
  have up : ∀ c o, p3.get? c = some o → (p3.push { cls := .type "tuple", data := .seq #[x1, x2, x3] }).get? c = some o := fun c o e => Heap.get?_push_of_some _ e
  refine wpAny_pure ⟨_, rfl, ?_⟩
  show Q (.ref p3.objs.size) ⟨p3.push { cls := .type "tuple", data := .seq #[x1, x2, x3] }, g, d, tk3, os⟩
  have hnew : (p3.push { cls := .type "tuple", data := .seq #[x1, x2, x3] }).get? hp.objs.size = some { cls := .type "tuple", data := .seq #[x1, x2, x3] } := by rw [← hsz]; exact Heap.get?_push_size _ rfl
  rw [hsz]
  exact hQ x1 x2 x3 _ tk3 hx1 hx2 hx3 (up _ _ hzz) (D1.frame _ _ _ (D1.over (D1.over sn1 hp2 S.sep2_1) hp3 S.sep3_1) fun b _ o e => up b o e) (D2.frame _ _ _ (D2.over sn2 hp3 S.sep3_2) fun b _ o e => up b o e) (D3.frame _ _ _ sn3 fun b _ o e => up b o e) hnew (by rw [Heap.size_push, hsz]) fun c o cz c1 c2 c3 e => up c o (kk c o cz c1 c2 c3 e)
theorem zu_end {Q : Fin → Shared → Prop} (S : ZipSep3 z TI TO i1 i2 i3 fp1 fp2 fp3) (D1 : Draws prog w A i1 fp1 n1 P1 St1) (D2 : Draws prog w A i2 fp2 n2 P2 St2) (D3 : Draws prog w A i3 fp3 n3 P3 St3)
    (hz : ZU s.heap z TI TO T f) (hT : s.heap.get? T = some oT) (hTI : IsTupOf3 s.heap TI (.ref i1) (.ref i2) (.ref i3)) (st1 : St1 i s.heap) (st2 : St2 i s.heap) (st3 : St3 i s.heap) (hle1 : i ≤ n1) (hle2 : i ≤ n2) (hle3 : i ≤ n3) (hend : i = n1 ∨ i = n2 ∨ i = n3)
    (hE : ∀ h' tk e, (∀ c o, c ≠ z → c ≠ i1 → c ≠ i2 → c ≠ i3 → s.heap.get? c = some o → h'.get? c = some o) → (∃ o, h'.get? e = some o ∧ o.cls = .type "StopIteration") → E (.ref e) { s with heap := h', toks := tk }) :
    wpAny (model prog w) A (Builtin.«zip.__next__» ⟨[.ref z], []⟩) Q E s := by
  obtain ⟨hp, g, d, tk0, os⟩ := s
  show wpAny _ _ (field (.ref z) 2 >>= _) _ _ _
  refine wpAny_bind (wpAny_field hz rfl (x := .bool false) rfl ?_)
  show wpAny _ _ (field (.ref z) 3 >>= _) _ _ _
  refine wpAny_bind (wpAny_field hz rfl (x := .ref TI) rfl ?_)
  refine wpAny_bind (wpAny_seqItems hTI rfl ?_)
  show wpAny _ _ (Builtin.SmallTypes.ownedTupleIsFree (.ref z) >>= _) _ _ _
  refine zu_free hz hT fun g0 hz0 hs0 => ?_
  simp only [Bool.false_eq_true, if_false]
  rw [← Array.forIn_toList]
  simp only [List.forIn_cons, List.forIn_nil]
  refine wpAny_bind (wpAny_bind (wpAny_bind (wpAny_holding ?_)))
  show wpAny _ _ (Builtin.SmallTypes.nextOf (.ref i1) >>= _) _ _ ⟨g0, g, d, tk0, os⟩
  by_cases hlt1 : i < n1
  · refine wpAny_bind (D1.item i _ _ _ hlt1 (D1.over st1 hs0 S.zf1) fun x1 p1 tk1 hx1 sn1 hp1 => wpAny_pure ?_)
    replace hp1 : Heap.SameBut i1 g0 p1 := hp1
    refine wpAny_pure ?_
    refine wpAny_bind (wpAny_bind (wpAny_holding ?_))
    show wpAny _ _ (Builtin.SmallTypes.nextOf (.ref i2) >>= _) _ _ ⟨p1, g, d, tk1, os⟩
    by_cases hlt2 : i < n2
    · refine wpAny_bind (D2.item i _ _ _ hlt2 (D2.over (D2.over st2 hs0 S.zf2) hp1 S.sep1_2) fun x2 p2 tk2 hx2 sn2 hp2 => wpAny_pure ?_)
      replace hp2 : Heap.SameBut i2 p1 p2 := hp2
      refine wpAny_pure ?_
      have hi3 : i = n3 := by omega
      refine wpAny_bind (wpAny_bind (wpAny_holding ?_))
      show wpAny _ _ (Builtin.SmallTypes.nextOf (.ref i3) >>= _) _ _ ⟨p2, g, d, tk2, os⟩
      refine wpAny_bind (D3.done ⟨p2, g, d, tk2, os⟩ _ _ (by rw [← hi3]; exact D3.over (D3.over (D3.over st3 hs0 S.zf3) hp1 S.sep1_3) hp2 S.sep2_3) fun q e hq he => ?_)
      exact hE q tk2 e (fun c o cz c1 c2 c3 x => hq _ _ c3 (hp2.extBut _ _ c2 (hp1.extBut _ _ c1 (hs0.extBut _ _ cz x)))) he
    · have hi2 : i = n2 := by omega
      refine wpAny_bind (D2.done ⟨p1, g, d, tk1, os⟩ _ _ (by rw [← hi2]; exact D2.over (D2.over st2 hs0 S.zf2) hp1 S.sep1_2) fun q e hq he => ?_)
      exact hE q tk1 e (fun c o cz c1 c2 c3 x => hq _ _ c2 (hp1.extBut _ _ c1 (hs0.extBut _ _ cz x))) he
  · have hi1 : i = n1 := by omega
    refine wpAny_bind (D1.done ⟨g0, g, d, tk0, os⟩ _ _ (by rw [← hi1]; exact D1.over st1 hs0 S.zf1) fun q e hq he => ?_)
    exact hE q tk0 e (fun c o cz c1 c2 c3 x => hq _ _ c1 (hs0.extBut _ _ cz x)) he
/-- the zip behind i turns, nothing let go -/
def ZS (h : Heap) (z TI TO : Addr) (S0 i1 i2 i3 : Addr) : Prop := (IsZip h z TI TO .none ∧ ∃ a1 a2 a3, IsTupOf3 h TO a1 a2 a3) ∨ ∃ T f oT, ZU h z TI TO T f ∧ h.get? T = some oT ∧ T ≠ z ∧ T ≠ S0 ∧ T ≠ i1 ∧ T ≠ i2 ∧ T ≠ i3
theorem zs_item {S0 : Addr} {Q : Option Value → Shared → Prop} (S : ZipSep3 z TI TO i1 i2 i3 fp1 fp2 fp3) (D1 : Draws prog w A.in1 i1 fp1 n1 P1 St1) (D2 : Draws prog w A.in1 i2 fp2 n2 P2 St2) (D3 : Draws prog w A.in1 i3 fp3 n3 P3 St3)
    (hz : ZS s.heap z TI TO S0 i1 i2 i3) (h0 : ∃ o, s.heap.get? S0 = some o) (hTI : IsTupOf3 s.heap TI (.ref i1) (.ref i2) (.ref i3)) (st1 : St1 i s.heap) (st2 : St2 i s.heap) (st3 : St3 i s.heap) (hlt1 : i < n1) (hlt2 : i < n2) (hlt3 : i < n3)
    (hQ : ∀ x1 x2 x3 h' tk, P1 i x1 → P2 i x2 → P3 i x3 → ZS h' z TI TO S0 i1 i2 i3 → St1 (i + 1) h' → St2 (i + 1) h' → St3 (i + 1) h' → IsTupOf3 h' s.heap.objs.size x1 x2 x3 → h'.objs.size = s.heap.objs.size + 1 →
      (∀ c o, c ≠ z → c ≠ TO → c ≠ i1 → c ≠ i2 → c ≠ i3 → s.heap.get? c = some o → h'.get? c = some o) → Q (some (.ref s.heap.objs.size)) { s with heap := h', toks := tk }) :
    wpAny (model prog w) A (pyNext (.ref z)) Q E s := by
  have lt : ∀ {c : Addr} {o : Obj}, s.heap.get? c = some o → s.heap.objs.size ≠ c := fun e => Nat.ne_of_gt (Heap.lt_size e)
  have l1 : s.heap.objs.size ≠ i1 := by obtain ⟨_, e⟩ := D1.live _ _ st1; exact lt e
  have l2 : s.heap.objs.size ≠ i2 := by obtain ⟨_, e⟩ := D2.live _ _ st2; exact lt e
  have l3 : s.heap.objs.size ≠ i3 := by obtain ⟨_, e⟩ := D3.live _ _ st3; exact lt e
  obtain ⟨o0, e0⟩ := h0
  rcases hz with ⟨hz, a1, a2, a3, hTO⟩ | ⟨T, f, oT, hz, hT, nz, n0, m1, m2, m3⟩
  · exact wpAny_pyNext_zipD3_item S D1 D2 D3 hz hTI hTO st1 st2 st3 hlt1 hlt2 hlt3 fun x1 x2 x3 h' tk p1 p2 p3 z' _ s1 s2 s3 t' sz kp => hQ x1 x2 x3 h' tk p1 p2 p3 (.inr ⟨s.heap.objs.size, false, _, z', t', lt hz, lt e0, l1, l2, l3⟩) s1 s2 s3 t' sz kp
  · have hTy : s.TypeIs (.ref z) "zip" := ⟨_, hz, rfl⟩
    unfold pyNext
    exact wpAny_bind (wpAny_attempt (wpAny_callSpecial?_slot (name := Str.ofString "__next__") hTy F.slot_zip_next
      (wpAny_call_entry F.slot_zip_next hTy F.entry_zip_next
        (zu_item S D1 D2 D3 hz hT hTI st1 st2 st3 hlt1 hlt2 hlt3 fun x1 x2 x3 h' tk p1 p2 p3 z' s1 s2 s3 t' sz kp => wpAny_pure (hQ x1 x2 x3 h' tk p1 p2 p3 (.inr ⟨T, true, oT, z', kp T oT nz m1 m2 m3 hT, nz, n0, m1, m2, m3⟩) s1 s2 s3 t' sz fun c o a _ b c' d e => kp c o a b c' d e)) (F.args_zip_next_1 _))))
theorem zs_end {S0 : Addr} {Q : Option Value → Shared → Prop} (S : ZipSep3 z TI TO i1 i2 i3 fp1 fp2 fp3) (D1 : Draws prog w A.in1 i1 fp1 n1 P1 St1) (D2 : Draws prog w A.in1 i2 fp2 n2 P2 St2) (D3 : Draws prog w A.in1 i3 fp3 n3 P3 St3)
    (hz : ZS s.heap z TI TO S0 i1 i2 i3) (hTI : IsTupOf3 s.heap TI (.ref i1) (.ref i2) (.ref i3)) (st1 : St1 i s.heap) (st2 : St2 i s.heap) (st3 : St3 i s.heap) (hle1 : i ≤ n1) (hle2 : i ≤ n2) (hle3 : i ≤ n3) (hend : i = n1 ∨ i = n2 ∨ i = n3)
    (hQ : ∀ h' tk, (∀ c o, c ≠ z → c ≠ TO → c ≠ i1 → c ≠ i2 → c ≠ i3 → s.heap.get? c = some o → h'.get? c = some o) → Q none { s with heap := h', toks := tk }) :
    wpAny (model prog w) A (pyNext (.ref z)) Q E s := by
  rcases hz with ⟨hz, a1, a2, a3, hTO⟩ | ⟨T, f, oT, hz, hT, nz, n0, m1, m2, m3⟩
  · exact wpAny_pyNext_zipD3_end S D1 D2 D3 hz hTI hTO st1 st2 st3 hle1 hle2 hle3 hend hQ
  · have hTy : s.TypeIs (.ref z) "zip" := ⟨_, hz, rfl⟩
    unfold pyNext
    refine wpAny_bind (wpAny_attempt (wpAny_callSpecial?_slot (name := Str.ofString "__next__") hTy F.slot_zip_next
      (wpAny_call_entry F.slot_zip_next hTy F.entry_zip_next (zu_end S D1 D2 D3 hz hT hTI st1 st2 st3 hle1 hle2 hle3 hend fun h' tk e hk he => ?_) (F.args_zip_next_1 _))))
    obtain ⟨o, ho, hc⟩ := he
    refine wpAny_bind (wpAny_isInstance (T := "StopIteration") (b := true) ⟨o, ho, hc⟩ isSubtype_stop ?_)
    exact wpAny_pure (hQ h' tk fun c o a _ b c' d e => hk c o a b c' d e)
/-- the tuples that were given out -/
structure ZG (P1 P2 P3 : Nat → Value → Prop) (lo : Addr) (h : Heap) (as : List Addr) : Prop where
  rise : as.Pairwise (· < ·)
  above : ∀ a ∈ as, lo < a
  at_ : ∀ (j : Nat) (a : Addr), as[j]? = some a → ∃ x1 x2 x3, P1 j x1 ∧ P2 j x2 ∧ P3 j x3 ∧ IsTupOf3 h a x1 x2 x3
theorem ZG.there {lo : Addr} {h : Heap} {as : List Addr} (g : ZG P1 P2 P3 lo h as) {a : Addr} (ha : a ∈ as) : a < h.objs.size := by
  obtain ⟨j, hj⟩ := List.mem_iff_getElem?.mp ha
  obtain ⟨_, _, _, _, _, _, e⟩ := g.at_ j a hj
  exact Heap.lt_size e
theorem nat_big (a z S TO i1 i2 i3 : Nat) (h : max z S < a) (h1 : TO < z) (h2 : i1 < z) (h3 : i2 < z) (h4 : i3 < z) : a ≠ S ∧ a ≠ z ∧ a ≠ TO ∧ a ≠ i1 ∧ a ≠ i2 ∧ a ≠ i3 := by omega
theorem zs_loop {R : Result → Shared → Prop} {S0 : Addr} {n : Nat} (S : ZipSep3 z TI TO i1 i2 i3 fp1 fp2 fp3) (D1 : Draws prog w A.in1.in1 i1 fp1 n1 P1 St1) (D2 : Draws prog w A.in1.in1 i2 fp2 n2 P2 St2) (D3 : Draws prog w A.in1.in1 i3 fp3 n3 P3 St3)
    (hn : n = min (min n1 n2) n3) (hs1 : S0 ∉ fp1) (hs2 : S0 ∉ fp2) (hs3 : S0 ∉ fp3) (hz0 : S0 ≠ z) (hT0 : S0 ≠ TO) (hI0 : TI ≠ S0) (hzl : n ≤ 1000) (res : Value) {h₁ : Heap}
    (m1 : TO < z) (m2 : i1 < z) (m3 : i2 < z) (m4 : i3 < z) (mS : S0 < z ∨ z < S0)
    (hR : ∀ h' tk acc c as, (∀ b o, b ≠ S0 → b ≠ z → b ≠ TO → b ≠ i1 → b ≠ i2 → b ≠ i3 → h₁.get? b = some o → h'.get? b = some o) → h'.get? S0 = some { cls := .type "list", dict := none, data := .seq acc c, slots := #[] } → as.length = n → ZG P1 P2 P3 (max z S0) h' as →
      acc.toList = as.map Value.ref → R (.ok (.ret res)) { s with heap := h', toks := tk }) :
    ∀ (k i : Nat) (h : Heap) (tk c : Nat) (acc : Array Value) (as : List Addr), n - i = k → i ≤ n → ZS h z TI TO S0 i1 i2 i3 → IsTupOf3 h TI (.ref i1) (.ref i2) (.ref i3) → St1 i h → St2 i h → St3 i h →
      (∀ b o, b ≠ S0 → b ≠ z → b ≠ TO → b ≠ i1 → b ≠ i2 → b ≠ i3 → h₁.get? b = some o → h.get? b = some o) →
      h.get? S0 = some { cls := .type "list", dict := none, data := .seq acc c, slots := #[] } → acc.toList = as.map Value.ref → as.length = i → ZG P1 P2 P3 (max z S0) h as → max z S0 < h.objs.size →
      codeAny (model prog w) A (.builtin "list.extend.loop" ⟨[.ref S0, .ref z, res], []⟩) R { s with heap := h, toks := tk } := by
  intro k
  have ni1 : S0 ≠ i1 := fun e => hs1 (e ▸ S.mem1)
  have ni2 : S0 ≠ i2 := fun e => hs2 (e ▸ S.mem2)
  have ni3 : S0 ≠ i3 := fun e => hs3 (e ▸ S.mem3)
  have big : ∀ a : Addr, max z S0 < a → a ≠ S0 ∧ a ≠ z ∧ a ≠ TO ∧ a ≠ i1 ∧ a ≠ i2 ∧ a ≠ i3 := fun a ha => nat_big a z S0 TO i1 i2 i3 ha m1 m2 m3 m4
  induction k with
  | zero =>
    intro i h tk c acc as hk hi hst hTI st1 st2 st3 hkeep hS hacc hal hG hIs
    refine codeAny_builtin PySem.F.entry_extend_loop ?_
    rw [Around.under_plainId PySem.F.plain_extend_loop _]
    show wpAny _ A.in1 (pyNext (.ref z) >>= _) _ _ _
    refine wpAny_bind (zs_end (s := { s with heap := h, toks := tk }) (A := A.in1) S D1 D2 D3 hst hTI st1 st2 st3 (by omega) (by omega) (by omega) (by omega) fun h' tk' he => ?_)
    refine wpAny_pure (hR h' tk' acc c as (fun b o b0 b1 b2 b3 b4 b5 e => he b o b1 b2 b3 b4 b5 (hkeep b o b0 b1 b2 b3 b4 b5 e)) (he S0 _ hz0 hT0 ni1 ni2 ni3 hS) (by omega) ⟨hG.rise, hG.above, fun j a hj => ?_⟩ hacc)
    obtain ⟨x1, x2, x3, p1, p2, p3, e3⟩ := hG.at_ j a hj
    obtain ⟨_, b1, b2, b3, b4, b5⟩ := big a (hG.above a (List.mem_of_getElem? hj))
    exact ⟨x1, x2, x3, p1, p2, p3, he a _ b1 b2 b3 b4 b5 e3⟩
  | succ k ih =>
    intro i h tk c acc as hk hi hst hTI st1 st2 st3 hkeep hS hacc hal hG hIs
    have hsz : acc.size = i := by rw [← Array.length_toList, hacc, List.length_map, hal]
    refine codeAny_builtin PySem.F.entry_extend_loop ?_
    rw [Around.under_plainId PySem.F.plain_extend_loop _]
    show wpAny _ A.in1 (pyNext (.ref z) >>= _) _ _ _
    refine wpAny_bind (zs_item (s := { s with heap := h, toks := tk }) (A := A.in1) S D1 D2 D3 hst ⟨_, hS⟩ hTI st1 st2 st3 (by omega) (by omega) (by omega) fun x1 x2 x3 h' tk' p1 p2 p3 hst' t1 t2 t3 ht hz hkp => ?_)
    dsimp only at ht hz hkp ⊢
    have hS' := hkp S0 _ hz0 hT0 ni1 ni2 ni3 hS
    have up : ∀ b o, b ≠ S0 → h'.get? b = some o → (h'.update S0 (Obj.mapSeq (·.push (Value.ref h.objs.size)))).get? b = some o := fun b o hb e => (Heap.get?_update_other _ _ (Ne.symm hb)).trans e
    have hSl : S0 < h.objs.size := Heap.lt_size hS
    have hTI' := hkp TI _ S.TIz S.TITO S.TIi1 S.TIi2 S.TIi3 hTI
    show wpAny _ A.in1 (updateSeq S0 (·.push (Value.ref h.objs.size)) >>= _) _ _ _
    refine wpAny_bind ?_
    refine wpAny_updateSeq hS' rfl (wpAny_pure ⟨plainId_quiet PySem.F.plain_extend_loop _, ih (i + 1) _ tk' _ (acc.push (Value.ref h.objs.size)) (as ++ [h.objs.size]) (by omega) (by omega) ?_ (up _ _ hI0 hTI')
      (D1.frame _ _ _ t1 fun b hb o e => up b o (fun z => hs1 (z ▸ hb)) e) (D2.frame _ _ _ t2 fun b hb o e => up b o (fun z => hs2 (z ▸ hb)) e) (D3.frame _ _ _ t3 fun b hb o e => up b o (fun z => hs3 (z ▸ hb)) e)
      (fun b o b0 b1 b2 b3 b4 b5 e => up b o b0 (hkp b o b1 b2 b3 b4 b5 (hkeep b o b0 b1 b2 b3 b4 b5 e))) (Heap.get?_update_self _ hS' rfl) (by rw [Array.toList_push, hacc, List.map_append]; rfl) (by rw [List.length_append, hal]; rfl) ⟨?_, ?_, ?_⟩ ?_⟩) (by rw [hsz, sizeLine_eq]; omega) (by show (acc.push (Value.ref h.objs.size)).size ≤ sizeLine + 1; rw [Array.size_push, hsz, sizeLine_eq]; omega)
    · rcases hst' with ⟨q1, a1, a2, a3, q2⟩ | ⟨T, f, oT, q1, q2, q3, q4, q5⟩
      · exact .inl ⟨up _ _ (Ne.symm hz0) q1, a1, a2, a3, up _ _ (Ne.symm hT0) q2⟩
      · exact .inr ⟨T, f, oT, up _ _ (Ne.symm hz0) q1, up _ _ q4 q2, q3, q4, q5⟩
    · refine List.pairwise_append.mpr ⟨hG.rise, List.pairwise_singleton _ _, fun a ha b hb => ?_⟩
      rw [List.mem_singleton.mp hb]
      exact hG.there ha
    · intro a ha
      rcases List.mem_append.mp ha with ha | ha
      · exact hG.above a ha
      · rw [List.mem_singleton.mp ha]; exact hIs
    · intro j b hj
      rcases Nat.lt_trichotomy j as.length with h1 | h1 | h1
      · rw [List.getElem?_append_left h1] at hj
        obtain ⟨y1, y2, y3, r1, r2, r3, e3⟩ := hG.at_ j b hj
        obtain ⟨b0, b1, b2, b3, b4, b5⟩ := big b (hG.above b (List.mem_of_getElem? hj))
        exact ⟨y1, y2, y3, r1, r2, r3, up b _ b0 (hkp b _ b1 b2 b3 b4 b5 e3)⟩
      · subst h1
        have hb : h.objs.size = b := by simpa using hj
        subst hb
        exact ⟨x1, x2, x3, by rw [hal]; exact p1, by rw [hal]; exact p2, by rw [hal]; exact p3, up _ _ (Nat.ne_of_gt hSl) ht⟩
      · have hnone : (as ++ [h.objs.size])[j]? = none := List.getElem?_eq_none (by rw [List.length_append, List.length_singleton]; omega)
        rw [hnone] at hj; cases hj
    · have e : (h'.update S0 (Obj.mapSeq (·.push (Value.ref h.objs.size)))).get? h.objs.size = _ := up _ _ (Nat.ne_of_gt hSl) ht
      exact Nat.lt_trans hIs (Heap.lt_size e)
theorem zip_len : typeLookup (.type "zip") "__len__" = pure none := by rw [typeLookup_type, builtinLookup_eq_fast]; kernel_rfl
theorem zip_hint0 : typeLookup (.type "zip") "__length_hint__" = pure none := by rw [typeLookup_type, builtinLookup_eq_fast]; kernel_rfl
theorem nat_off3 {N l k : Nat} (hk : k < 6) (hl : l < N) : N + 6 ∉ (N + k) :: [l] := by simp; omega
theorem nat_max (z : Nat) : max z (z + 1) < z + 2 := by omega
theorem zs_init {R : Result → Shared → Prop} {S0 : Addr} {n : Nat} (S : ZipSep3 z TI TO i1 i2 i3 fp1 fp2 fp3) (D1 : Draws prog w A.in1.in1 i1 fp1 n1 P1 St1) (D2 : Draws prog w A.in1.in1 i2 fp2 n2 P2 St2) (D3 : Draws prog w A.in1.in1 i3 fp3 n3 P3 St3)
    (hn : n = min (min n1 n2) n3) (hs1 : S0 ∉ fp1) (hs2 : S0 ∉ fp2) (hs3 : S0 ∉ fp3) (hz0 : S0 ≠ z) (hT0 : S0 ≠ TO) (hI0 : TI ≠ S0) (hzl : n ≤ 1000)
    (m1 : TO < z) (m2 : i1 < z) (m3 : i2 < z) (m4 : i3 < z) (hmx : max z S0 < s.heap.objs.size) (hstz : IsZip s.heap z TI TO .none) (hTO : ∃ a1 a2 a3, IsTupOf3 s.heap TO a1 a2 a3) (hTI : IsTupOf3 s.heap TI (.ref i1) (.ref i2) (.ref i3)) (st1 : St1 0 s.heap) (st2 : St2 0 s.heap) (st3 : St3 0 s.heap)
    (hS : s.heap.get? S0 = some { cls := .type "list", data := .seq #[] })
    (hR : ∀ h' tk acc c as, (∀ b o, b ≠ S0 → b ≠ z → b ≠ TO → b ≠ i1 → b ≠ i2 → b ≠ i3 → s.heap.get? b = some o → h'.get? b = some o) → h'.get? S0 = some { cls := .type "list", dict := none, data := .seq acc c, slots := #[] } → as.length = n → ZG P1 P2 P3 (max z S0) h' as →
      acc.toList = as.map Value.ref → R (.ok (.ret .none)) { s with heap := h', toks := tk }) :
    wpAny (model prog w) A.in1 (Builtin.«list.__init__» ⟨[.ref S0, .ref z], []⟩)
      (fun fin s' => match fin with | .done f => R (.ok f) s' | .again c' => c'.quiet = true ∧ codeAny (model prog w) A c' R s') (fun e s' => R (.error e) s') s := by
  have hst : ZS s.heap z TI TO S0 i1 i2 i3 := .inl ⟨hstz, hTO⟩
  have zty : ∀ h' : Heap, ZS h' z TI TO S0 i1 i2 i3 → Shared.TypeIs { s with heap := h' } (.ref z) "zip" := fun h' q => by
    rcases q with ⟨q1, _⟩ | ⟨T, f, oT, q1, _⟩
    · exact ⟨_, q1, rfl⟩
    · exact ⟨_, q1, rfl⟩
  have mv : ∀ h' : Heap, (∀ b o, b ≠ S0 → s.heap.get? b = some o → h'.get? b = some o) → ZS h' z TI TO S0 i1 i2 i3 ∧ IsTupOf3 h' TI (.ref i1) (.ref i2) (.ref i3) ∧ St1 0 h' ∧ St2 0 h' ∧ St3 0 h' := fun h' k => by
    refine ⟨?_, k _ _ hI0 hTI, D1.frame _ _ _ st1 fun b hb o e => k b o (fun z => hs1 (z ▸ hb)) e, D2.frame _ _ _ st2 fun b hb o e => k b o (fun z => hs2 (z ▸ hb)) e, D3.frame _ _ _ st3 fun b hb o e => k b o (fun z => hs3 (z ▸ hb)) e⟩
    rcases hst with ⟨q1, a1, a2, a3, q2⟩ | ⟨T, f, oT, q1, q2, q3, q4, q5⟩
    · exact .inl ⟨k _ _ (Ne.symm hz0) q1, a1, a2, a3, k _ _ (Ne.symm hT0) q2⟩
    · exact .inr ⟨T, f, oT, k _ _ (Ne.symm hz0) q1, k _ _ q4 q2, q3, q4, q5⟩
  show wpAny _ _ (do let old ← Builtin.List.listItems (.ref S0); Builtin.List.listUpdate (.ref S0) (fun _ => #[]); letGo old.toList.reverse; Builtin.List.listExtendWith (.ref S0) (.ref z) .none) _ _ s
  refine wpAny_bind ?_
  unfold Builtin.List.listItems
  refine wpAny_bind (wpAny_seqItems hS rfl (wpAny_pure ?_))
  show wpAny _ _ (updateSeq S0 (fun _ => #[]) >>= fun _ => letGo (#[] : Array Value).toList.reverse >>= fun _ => Builtin.List.listExtendWith (.ref S0) (.ref z) .none) _ _ s
  refine wpAny_bind (wpAny_updateSeq hS rfl ?_)
  have hS₂ := Heap.get?_update_self (Obj.mapSeq (fun _ => (#[] : Array Value))) hS rfl
  have oth : ∀ b o, b ≠ S0 → s.heap.get? b = some o → (s.heap.update S0 (Obj.mapSeq (fun _ => (#[] : Array Value)))).get? b = some o := fun b o hb e => (Heap.get?_update_other _ _ (Ne.symm hb)).trans e
  have sz2 : (s.heap.update S0 (Obj.mapSeq (fun _ => (#[] : Array Value)))).objs.size = s.heap.objs.size := Heap.size_update ..
  refine wpAny_bind (wpAny_letGo ?_)
  obtain ⟨z2, t2, _, _, _⟩ := mv _ oth
  have fin : ∀ (h' : Heap) (c : Nat) (tk : Nat), (∀ b o, b ≠ S0 → s.heap.get? b = some o → h'.get? b = some o) → h'.get? S0 = some { cls := .type "list", dict := none, data := .seq #[] c, slots := #[] } → max z S0 < h'.objs.size →
      codeAny (model prog w) A (.builtin "list.extend.loop" ⟨[.ref S0, .ref z, .none], []⟩) R { s with heap := h', toks := tk } := fun h' c tk k hs hm => by
    obtain ⟨q1, q2, q3, q4, q5⟩ := mv h' k
    exact zs_loop (s := s) (h₁ := s.heap) S D1 D2 D3 hn hs1 hs2 hs3 hz0 hT0 hI0 hzl .none m1 m2 m3 m4 (Nat.lt_or_gt_of_ne hz0) hR n 0 h' tk c #[] [] (Nat.sub_zero _) (Nat.zero_le _) q1 q2 q3 q4 q5 (fun b o b0 _ _ _ _ _ e => k b o b0 e) hs rfl rfl ⟨List.Pairwise.nil, (fun _ ha => nomatch ha), fun j a hj => by simp at hj⟩ hm
  unfold Builtin.List.listExtendWith
  refine wpAny_bind (wpAny_typeOf (T := "zip") (zty _ z2) ?_)
  have h1 : Builtin.List.listSameRef (.ref S0) (.ref z) = false := by simp [Builtin.List.listSameRef, hz0]
  have h2 : (Value.type "zip" == Value.type "list") = false := by decide
  have h3 : (Value.type "zip" == Value.type "tuple") = false := by decide
  simp only [h1, h2, h3, Bool.or_false, Bool.false_eq_true, if_false]
  have itz : ∀ {Q : Value → Shared → Prop} {E : Value → Shared → Prop} {s' : Shared}, s'.heap = s.heap.update S0 (Obj.mapSeq (fun _ => (#[] : Array Value))) → Q (.ref z) s' → wpAny (model prog w) A.in1 (pyIter (.ref z)) Q E s' := fun {Q E s'} e hq => by
    exact wpAny_pyIter_zip (show IsZip s'.heap z TI TO .none from by rw [e]; exact oth _ _ (Ne.symm hz0) hstz) hq
  refine wpAny_bind (itz rfl ?_)
  refine wpAny_bind (wpAny_holding ?_)
  unfold Builtin.List.listLengthHint
  refine wpAny_bind (wpAny_specialOf (zty _ z2) zip_len ?_)
  show wpAny _ A.in1 (specialOf (Value.ref z) (Str.ofString "__length_hint__") >>= _) _ _ _
  refine wpAny_bind (wpAny_specialOf (zty _ z2) zip_hint0 ?_)
  refine wpAny_pure ?_
  show wpAny _ A.in1 (rule "list.extend.makes-room" >>= fun _ => Builtin.List.listTouch (.ref S0) >>= fun _ => again (.builtin "list.extend.loop" ⟨[.ref S0, .ref z, .none], []⟩)) _ _ _
  refine wpAny_bind (wpAny_rule ?_)
  refine wpAny_bind ?_
  show wpAny _ _ (updateSeq S0 (·.push .none) >>= fun _ => updateSeq S0 (·.pop)) _ _ _
  refine wpAny_bind (wpAny_updateSeq hS₂ rfl ?_)
  have hS₃ := Heap.get?_update_self (Obj.mapSeq (·.push Value.none)) hS₂ rfl
  refine wpAny_updateSeq (hz := by seq_fits) hS₃ rfl ?_
  have hS₄ := Heap.get?_update_self (Obj.mapSeq (·.pop)) hS₃ rfl
  refine wpAny_pure ⟨plainId_quiet PySem.F.plain_extend_loop _, fin _ _ _ (fun b o hb e => ?_) hS₄ ?_⟩
  · exact (Heap.get?_update_other _ _ (Ne.symm hb)).trans ((Heap.get?_update_other _ _ (Ne.symm hb)).trans (oth b o hb e))
  · rw [Heap.size_update, Heap.size_update, sz2]; exact hmx
end
section
variable {X : Cx} {a b c : Expr} {ta : TA} {p p2 pos pos2 : Pos}
/-- list(zip(a, b, c)), three lists -/
def tLZ (K : PySem.W.Frag) (ta : TA) : TE := fun σ H Q => ta σ H fun vs H1 => ∃ l1 l2 l3 xs ys zs, vs = [.ref l1, .ref l2, .ref l3] ∧ SqL K H1 l1 xs ∧ SqL K H1 l2 ys ∧ SqL K H1 l3 zs ∧ xs.length ≤ 1000 ∧
  ∀ (H' : Hp) (S : Addr) (as : List Addr), (∀ b o, H1 b = some o → H' b = some o) → H1 S = none → (∀ t ∈ as, H1 t = none) → S ∉ as → as.Nodup → H' S = some (.lst (as.map V.ref)) → as.length = min (min xs.length ys.length) zs.length →
    (∀ b, b ≠ S → b ∉ as → H' b = H1 b) → (∀ (j : Nat) (t : Addr), as[j]? = some t → ∃ x y z, xs[j]? = some x ∧ ys[j]? = some y ∧ zs[j]? = some z ∧ H' t = some (.tup [x, y, z])) → Q (.ref S) H'
theorem pe_listZip3 (hc : X.calm = true) (ha : PA X [a, b, c] ta) (hg : Gl X "list") (hm : X.mg "list" = none) (hg2 : Gl X "zip") (hm2 : X.mg "zip" = none)
    (hs : starEach [a, b, c] X.env = (false, eval a X.env) :: starEach [b, c] X.env) (hpl : (backTo pos2 (starEach [b, c] X.env)).any (·.1) = false) :
    PE X (.Call (.Name "list" p) [.Call (.Name "zip" p2) [a, b, c] [] pos2] [] pos) (tLZ X.K ta) := by
  have one : starEach [.Call (.Name "zip" p2) [a, b, c] [] pos2] X.env = (false, eval (.Call (.Name "zip" p2) [a, b, c] [] pos2) X.env) :: starEach [] X.env := rfl
  refine ⟨fun pins s σ H Q I hq => wpAny_Call_Name_kw (ld_blt I hg hm (u := .type "list") (by decide +kernel) (PyProof.Rows.callWith_type1 ?_ one rfl))⟩
  rw [one]
  show wpAny _ _ (spliced ((false, eval (.Call (.Name "zip" p2) [a, b, c] [] pos2) X.env) :: backTo pos (starEach [] X.env))) _ _ s
  refine Calls.spliced_cons (wpAny_Call_Name_kw (ld_blt I hg2 hm2 PyProof.Rows.boot_zip (PyProof.Rows.callWith_type1 (thn (ha.run pos2 pins s σ H _ I hq) fun us s1 ⟨vs, H1, J, r1, q1⟩ => ?_) hs hpl)))
  obtain ⟨l1, l2, l3, xs, ys, zs, ex, h1, h2, h3, hz, q⟩ := q1
  subst ex
  obtain ⟨u1, u2, u3, rfl, rr1, rr2, rr3⟩ : ∃ u1 u2 u3, us = [u1, u2, u3] ∧ RelV (.ref l1) u1 ∧ RelV (.ref l2) u2 ∧ RelV (.ref l3) u3 := by
    cases r1 with
    | cons p q => cases q with
      | cons p' q' => cases q' with
        | cons p'' q'' => cases q''; exact ⟨_, _, _, rfl, p, p', p''⟩
  cases rr1; cases rr2; cases rr3
  obtain ⟨w1, v1, p1, _⟩ := J.list h1
  obtain ⟨w2, v2, p2', _⟩ := J.list h2
  obtain ⟨w3, v3, p3, _⟩ := J.list h3
  refine zip_begins3 (begins_list l1 w1.toArray) (begins_list l2 w2.toArray) (begins_list l3 w3.toArray) p1.isList p2'.isList p3.isList fun h' hz' hTI hTO g1 g2 g3 hsz hk => ?_
  refine Calls.spliced_nil ?_
  have lt1 : l1 < s1.heap.objs.size := p1.lt
  have lt2 : l2 < s1.heap.objs.size := p2'.lt
  have lt3 : l3 < s1.heap.objs.size := p3.lt
  have len1 := v1.length
  have len2 := v2.length
  have len3 := v3.length
  generalize hN : s1.heap.objs.size = N at *
  have sep : ZipSep3 (N + 5) (N + 3) (N + 4) N (N + 1) (N + 2) (N :: [l1]) ((N + 1) :: [l2]) ((N + 2) :: [l3]) := zip_sep3 (fun b hb => by rw [List.mem_singleton.mp hb]; exact lt1) (fun b hb => by rw [List.mem_singleton.mp hb]; exact lt2) (fun b hb => by rw [List.mem_singleton.mp hb]; exact lt3)
  have nn : ∀ m : Nat, m < N + 6 → (N + 6 : Nat) ≠ m := fun m hm e => by omega
  have push : ∀ b o, h'.get? b = some o → (h'.push { cls := .type "list", data := .seq #[] }).get? b = some o := fun b o e => Heap.get?_push_of_some _ e
  have ltN : ∀ b o, s1.heap.get? b = some o → b < N := fun b o e => hN ▸ Heap.lt_size e
  refine callType_codes (Q₁ := fun obj s₁ => obj = .ref h'.objs.size ∧ s₁ = { s1 with heap := h'.push { cls := .type "list", data := .seq #[] } }) PySem.F.called_list (PySem.F.typeCall_list_1 _) PySem.F.entry_list_init
    (code_list_new _ ⟨rfl, rfl⟩) fun obj s₁ h₁ => ?_
  obtain ⟨rfl, rfl⟩ := h₁
  have hS : (h'.push { cls := .type "list", data := .seq #[] }).get? h'.objs.size = some { cls := .type "list", data := .seq #[] } := Heap.get?_push_size _ rfl
  rw [hsz] at hS ⊢
  have hh : X.A.in1.in1.in1.handled = none := J.ok.hd hc
  refine ⟨⟨_, hS, rfl⟩, PySem.F.args_list_init_2 _ _, zs_init (A := X.A.in1) (n := min (min w1.toArray.size w2.toArray.size) w3.toArray.size) sep (Draws.list hh N l1 (Nat.ne_of_lt lt1) w1.toArray) (Draws.list hh (N + 1) l2 (Nat.ne_of_lt (Nat.lt_succ_of_lt lt2)) w2.toArray) (Draws.list hh (N + 2) l3 (Nat.ne_of_lt (Nat.lt_succ_of_lt (Nat.lt_succ_of_lt lt3))) w3.toArray)
    rfl ?_ ?_ ?_ (nn _ (by omega)) (nn _ (by omega)) (Ne.symm (nn _ (by omega))) ?_ ?_ ?_ ?_ ?_ ?_ (push _ _ hz') ⟨_, _, _, push _ _ hTO⟩ (push _ _ hTI) ⟨⟨_, push _ _ g1, rfl, rfl⟩, ?_⟩ ⟨⟨_, push _ _ g2, rfl, rfl⟩, ?_⟩ ⟨⟨_, push _ _ g3, rfl, rfl⟩, ?_⟩ hS fun h2 tk acc cc as hkeep hS2 hlen hG hacc => ?_⟩
  · exact nat_off3 (k := 0) (by omega) lt1
  · exact nat_off3 (k := 1) (by omega) lt2
  · exact nat_off3 (k := 2) (by omega) lt3
  · rw [List.size_toArray, ← len1]
    exact Nat.le_trans (Nat.min_le_left _ _) (Nat.le_trans (Nat.min_le_left _ _) hz)
  · exact Nat.lt_succ_self (N + 4)
  · show (N : Nat) < N + 5; omega
  · show (N + 1 : Nat) < N + 5; omega
  · show (N + 2 : Nat) < N + 5; omega
  · show max (N + 5 : Nat) (N + 6) < (h'.push _).objs.size; rw [Heap.size_push, hsz]; omega
  · exact p1.isList.at fun o e => push _ _ (hk _ _ e)
  · exact p2'.isList.at fun o e => push _ _ (hk _ _ e)
  · exact p3.isList.at fun o e => push _ _ (hk _ _ e)
  · refine ⟨rfl, ?_⟩
    have hkp : ∀ b o, s1.heap.get? b = some o → h2.get? b = some o := fun b o e => by
      have hb : (b : Nat) < N := ltN b o e
      have ne : ∀ m : Nat, N ≤ m → b ≠ m := fun m hm z => absurd hb (Nat.not_lt.mpr (by rw [z]; exact hm))
      exact hkeep b o (ne _ (by omega)) (ne _ (by omega)) (ne _ (by omega)) (ne _ (by omega)) (ne _ (by omega)) (ne _ (by omega)) (push _ _ (hk _ _ e))
    have abv : ∀ t ∈ as, (N : Nat) + 6 < t := fun t ht => by
      have h1 : max (N + 5 : Nat) (N + 6) < t := hG.above t ht
      omega
    have fresh : ∀ m : Addr, (N : Nat) ≤ m → H1 m = none := fun m hm => J.hok.fresh (by rw [hN]; exact hm)
    have nS : (N + 6 : Addr) ∉ as := fun z => Nat.lt_irrefl _ (abv _ z)
    have nd : as.Nodup := List.Pairwise.imp (fun {a b} (h : a < b) => Nat.ne_of_lt h) hG.rise
    have as1 : ∀ (j : Nat) (t : Addr), as[j]? = some t → ∃ x y zz, xs[j]? = some x ∧ ys[j]? = some y ∧ zs[j]? = some zz ∧ ∃ u1 u2 u3, RelV x u1 ∧ RelV y u2 ∧ RelV zz u3 ∧ IsTupOf3 h2 t u1 u2 u3 := fun j t hj => by
      obtain ⟨u1, u2, u3, e1, e2, e3, et⟩ := hG.at_ j t hj
      have get : ∀ {l : List V} {m : List Value} {u : Value}, Vals l m → m.toArray[j]? = some u → ∃ x, l[j]? = some x ∧ RelV x u := fun {l m u} v e => by
        have hm : m[j]? = some u := by simpa using e
        have hl : j < l.length := by rw [v.length]; exact (List.getElem?_eq_some_iff.mp hm).1
        obtain ⟨u', hu, ru⟩ := v.get (List.getElem?_eq_getElem hl)
        rw [hm] at hu; cases hu
        exact ⟨_, List.getElem?_eq_getElem hl, ru⟩
      obtain ⟨x, hx, rx⟩ := get v1 e1
      obtain ⟨y, hy, ry⟩ := get v2 e2
      obtain ⟨zz, hzz, rz⟩ := get v3 e3
      exact ⟨x, y, zz, hx, hy, hzz, u1, u2, u3, rx, ry, rz, et⟩
    have hidx : ∀ t ∈ as, as[as.idxOf t]? = some t := fun t ht => by
      rw [List.getElem?_eq_getElem (List.idxOf_lt_length_iff.mpr ht), List.getElem_idxOf]
    let Hn : Hp := fun b => if b = N + 6 then some (.lst (as.map V.ref)) else if b ∈ as then some (.tup [(xs[as.idxOf b]?).getD .non, (ys[as.idxOf b]?).getD .non, (zs[as.idxOf b]?).getD .non]) else H1 b
    have HnS : Hn (N + 6) = some (.lst (as.map V.ref)) := if_pos rfl
    have HnT : ∀ (j : Nat) (t : Addr), as[j]? = some t → ∃ x y zz, xs[j]? = some x ∧ ys[j]? = some y ∧ zs[j]? = some zz ∧ Hn t = some (.tup [x, y, zz]) := fun j t hj => by
      have ht : t ∈ as := List.mem_of_getElem? hj
      have ej : as.idxOf t = j := by
        have hl := (List.getElem?_eq_some_iff.mp hj)
        obtain ⟨hl, e⟩ := hl
        rw [← e]; exact nd.idxOf_getElem j hl
      obtain ⟨x, y, zz, e1, e2, e3, _⟩ := as1 j t hj
      refine ⟨x, y, zz, e1, e2, e3, ?_⟩
      have ne : t ≠ N + 6 := fun z => nS (z ▸ ht)
      show (if t = N + 6 then _ else if t ∈ as then _ else _) = _
      rw [if_neg ne, if_pos ht, ej, e1, e2, e3]; rfl
    have HnO : ∀ b, b ≠ N + 6 → b ∉ as → Hn b = H1 b := fun b h1 h2 => by
      show (if b = N + 6 then _ else if b ∈ as then _ else _) = _
      rw [if_neg h1, if_neg h2]
    have old : ∀ b u, H1 b = some u → b ≠ N + 6 ∧ b ∉ as := fun b u e => ⟨fun z => (by rw [z, fresh _ (Nat.le_add_right N 6)] at e; cases e), fun z => (by rw [fresh b (Nat.le_of_lt (Nat.lt_of_le_of_lt (Nat.le_add_right N 6) (abv b z)))] at e; cases e)⟩
    have kp : ∀ b u, H1 b = some u → Hn b = some u := fun b u e => by rw [HnO b (old b u e).1 (old b u e).2]; exact e
    have low : ∀ b o, s1.heap.get? b = some o → b ≠ N + 6 ∧ b ∉ as := fun b o e => by
      have hb : (b : Nat) < N := ltN b o e
      exact ⟨fun z => absurd hb (Nat.not_lt.mpr (by rw [z]; exact Nat.le_add_right N 6)), fun z => absurd hb (Nat.not_lt.mpr (Nat.le_of_lt (Nat.lt_of_le_of_lt (Nat.le_add_right N 6) (abv b z))))⟩
    refine ⟨.ref (N + 6), Hn, ?_, rfl, q Hn (N + 6) as kp (fresh _ (by show (N : Nat) ≤ N + 6; omega)) (fun t ht => fresh t (Nat.le_of_lt (Nat.lt_of_le_of_lt (Nat.le_add_right N 6) (abv t ht)))) nS nd HnS (by rw [hlen, List.size_toArray, List.size_toArray, List.size_toArray, len1, len2, len3]) HnO HnT⟩
    refine J.call' (ch := []) rfl ⟨fun b o e _ _ _ => hkp b o e, fun b o e _ _ _ => ⟨o.slots, hkp b o e⟩, fun b o e n _ => (by rw [HnO b (low b o e).1 (low b o e).2]; exact n), fun b o e _ => ⟨o, hkp b o e⟩, fun b l e => kp b _ e, fun b o u e => kp b _ e, fun b l e => ⟨#[], by rw [kp b _ e]; simp⟩⟩ (fun b u e => ?_) J.bare fun b z => by simp at z
    by_cases hb : b = N + 6
    · rw [hb, HnS] at e
      cases e
      rw [hb]
      have ll : (as.map V.ref).length ≤ 1000 := by
        rw [List.length_map, hlen, List.size_toArray, ← len1]
        exact Nat.le_trans (Nat.min_le_left _ _) (Nat.le_trans (Nat.min_le_left _ _) hz)
      refine ⟨Nat.le_trans ll (by rw [sizeLine_eq]; decide), acc.toList, cc, by rw [hacc]; exact vals_refs as, ?_⟩
      rw [Array.toArray_toList]; exact hS2
    · by_cases hb2 : b ∈ as
      · obtain ⟨x, y, zz, e1, e2, e3, u1, u2, u3, r1', r2', r3', et⟩ := as1 _ b (hidx b hb2)
        obtain ⟨x', y', zz', f1, f2, f3, f4⟩ := HnT _ b (hidx b hb2)
        rw [e1] at f1; cases f1
        rw [e2] at f2; cases f2
        rw [e3] at f3; cases f3
        rw [f4] at e; cases e
        exact ⟨by show (3 : Nat) ≤ sizeLine; decide, [u1, u2, u3], .cons r1' (.cons r2' (.cons r3' .nil)), ⟨_, et, rfl, _, rfl⟩⟩
      · rw [HnO b hb hb2] at e
        exact (J.hok b u e).stay (fun d v _ y => hkp d v y) (fun d y => kp d _ y) fun d l y => kp d _ y
end
end OC
set_option maxHeartbeats 4000000
/-! for over zip of three lists, of a list and a tuple. -/
namespace OC
open PySem PySem.Spec PyProof.Rows L2
def It3 (K : PySem.W.Frag) (a b c : Addr) : It :=
  ⟨fun i H => ∃ (xs ys zs : List V) (x y z : V), SqL K H a xs ∧ SqL K H b ys ∧ SqL K H c zs ∧ xs[i]? = some x ∧ ys[i]? = some y ∧ zs[i]? = some z,
    fun i H v H' => ∃ T x y z, v = .ref T ∧ H T = none ∧ H' = upd H T (.tup [x, y, z]) ∧ (∀ xs, SqL K H a xs → xs[i]? = some x) ∧ (∀ ys, SqL K H b ys → ys[i]? = some y) ∧ ∀ zs, SqL K H c zs → zs[i]? = some z,
    fun i H => ∃ xs ys zs : List V, SqL K H a xs ∧ SqL K H b ys ∧ SqL K H c zs ∧ i ≤ xs.length ∧ i ≤ ys.length ∧ i ≤ zs.length ∧ (i = xs.length ∨ i = ys.length ∨ i = zs.length)⟩
theorem turn3 {P : Program} {w : World} {K : PySem.W.Frag} {elts : List Expr} {kk : Nat} {tpos : Pos} {a b c z TI TO i1 i2 i3 : Addr} (S : ZipSep3 z TI TO i1 i2 i3 [i1, a] [i2, b] [i3, c]) (na : a ≠ i1) (nb : b ≠ i2) (nc : c ≠ i3) :
    Turn P w K (.Tuple elts kk tpos) (It3 K a b c) [z, TI, TO, i1, i2, i3] z (fun i h => IsZip h z TI TO .none ∧ IsTupOf3 h TI (.ref i1) (.ref i2) (.ref i3) ∧ (∃ x y u, IsTupOf3 h TO x y u) ∧ h.IsListIter i1 a i ∧ h.IsListIter i2 b i ∧ h.IsListIter i3 c i) where
  mem := by simp
  obj := fun i h st e he => by
    obtain ⟨hz, hTI, ⟨x, y, u, hTO⟩, ⟨o1, e1, _, d1⟩, ⟨o2, e2, _, d2⟩, ⟨o3, e3, _, d3⟩⟩ := st
    simp only [List.mem_cons, List.not_mem_nil, or_false] at he
    rcases he with q | q | q | q | q | q
    · rw [q]; exact ⟨_, hz, fun v q => nomatch q⟩
    · rw [q]; exact ⟨_, hTI, fun v q => nomatch q⟩
    · rw [q]; exact ⟨_, hTO, fun v q => nomatch q⟩
    · rw [q]; exact ⟨o1, e1, fun v q => (by rw [d1] at q; cases q)⟩
    · rw [q]; exact ⟨o2, e2, fun v q => (by rw [d2] at q; cases q)⟩
    · rw [q]; exact ⟨o3, e3, fun v q => (by rw [d3] at q; cases q)⟩
  keep := fun i h h' ⟨hz, hTI, ⟨x, y, u, hTO⟩, h1, h2, h3⟩ k => ⟨k z (by simp) _ hz, k TI (by simp) _ hTI, ⟨x, y, u, k TO (by simp) _ hTO⟩, h1.at fun o q => k i1 (by simp) o q, h2.at fun o q => k i2 (by simp) o q, h3.at fun o q => k i3 (by simp) o q⟩
  item := by
    intro X hP hw hK hc i pins s σ H E I hf st hg
    subst hP hw hK
    obtain ⟨hz, hTI, ⟨x0, y0, u0, hTO⟩, h1, h2, h3⟩ := st
    obtain ⟨xs, ys, zs, x, y, u, hqx, hqy, hqz, hx, hy, hu⟩ := hg
    obtain ⟨m1, r1, p1, _⟩ := I.list hqx
    obtain ⟨m2, r2, p2, _⟩ := I.list hqy
    obtain ⟨m3, r3, p3, _⟩ := I.list hqz
    obtain ⟨v1, e1, q1⟩ := r1.get hx
    obtain ⟨v2, e2, q2⟩ := r2.get hy
    obtain ⟨v3, e3, q3⟩ := r3.get hu
    have lt : ∀ {l : List Value} {v : Value}, l[i]? = some v → i < l.toArray.size := fun e => by rw [List.size_toArray]; exact (List.getElem?_eq_some_iff.mp e).1
    have hh : X.A.in1.handled = none := I.ok.hd hc
    have hzl : z < s.heap.objs.size := Heap.lt_size hz
    refine wpAny_pyNext_zipD3_item S (Draws.list hh i1 a na m1.toArray) (Draws.list hh i2 b nb m2.toArray) (Draws.list hh i3 c nc m3.toArray) hz hTI hTO ⟨h1, p1.isList⟩ ⟨h2, p2.isList⟩ ⟨h3, p3.isList⟩ (lt e1) (lt e2) (lt e3) fun y1 y2 y3 h' tk g1 g2 g3 z' TO' t1 t2 t3 hT hsz hk => ?_
    have g1 : m1.toArray[i]? = some y1 := g1
    have g2 : m2.toArray[i]? = some y2 := g2
    have g3 : m3.toArray[i]? = some y3 := g3
    have f1 : y1 = v1 := by have : m1[i]? = some y1 := by simpa using g1
                            rw [e1] at this; cases this; rfl
    have f2 : y2 = v2 := by have : m2[i]? = some y2 := by simpa using g2
                            rw [e2] at this; cases this; rfl
    have f3 : y3 = v3 := by have : m3[i]? = some y3 := by simpa using g3
                            rw [e3] at this; cases this; rfl
    subst f1 f2 f3
    refine ⟨_, rfl, wpAny_letOwnedTupleGo_zip (s := { s with heap := h', toks := tk }) z' fun h'' z'' sb => ?_⟩
    have hT2 : h''.get? s.heap.objs.size = some { cls := .type "tuple", data := .seq #[y1, y2, y3] } := (sb.2 _ (Nat.ne_of_gt hzl)).trans hT
    have new : ObjOk X.prog X.w (upd H s.heap.objs.size (.tup [x, y, u])) h'' s.heap.objs.size (.tup [x, y, u]) :=
      ⟨by show (3 : Nat) ≤ sizeLine; decide, [y1, y2, y3], .cons q1 (.cons q2 (.cons q3 .nil)), ⟨_, hT2, rfl, _, rfl⟩⟩
    have I1 : Inv X pins σ (upd H s.heap.objs.size (.tup [x, y, u])) { s with heap := h'', toks := tk } :=
      I.turnedNew (t' := tk) (ch := [z, TI, TO, i1, i2, i3]) (fun e o hb q => (sb.2 e (fun q' => hb (by simp [q']))).trans (hk e o (fun q' => hb (by simp [q'])) (fun q' => hb (by simp [q'])) (fun q' => hb (by simp [q'])) (fun q' => hb (by simp [q'])) (fun q' => hb (by simp [q'])) q)) hf (Nat.le_refl _) new
    refine ⟨.ref s.heap.objs.size, _, I1, rfl, ⟨_, x, y, u, rfl, I.hok.fresh (Nat.le_refl _), rfl, fun l hl => by rw [I.list_inj hl hqx]; exact hx, fun l hl => by rw [I.list_inj hl hqy]; exact hy, fun l hl => by rw [I.list_inj hl hqz]; exact hu⟩, ⟨z'', (sb.2 _ S.TIz).trans (hk _ _ S.TIz S.TITO S.TIi1 S.TIi2 S.TIi3 hTI), ⟨y1, y2, y3, (sb.2 _ S.TOz).trans TO'⟩, t1.1.at fun o q => (sb.2 _ (Ne.symm S.zi1)).trans q, t2.1.at fun o q => (sb.2 _ (Ne.symm S.zi2)).trans q, t3.1.at fun o q => (sb.2 _ (Ne.symm S.zi3)).trans q⟩, fun e he => ?_⟩
    have hlt : e < s.heap.objs.size := by
      simp only [List.mem_cons, List.not_mem_nil, or_false] at he
      rcases he with q | q | q | q | q | q
      · rw [q]; exact hzl
      · rw [q]; exact Heap.lt_size hTI
      · rw [q]; exact Heap.lt_size hTO
      · rw [q]; obtain ⟨_, w1, _⟩ := h1; exact Heap.lt_size w1
      · rw [q]; obtain ⟨_, w1, _⟩ := h2; exact Heap.lt_size w1
      · rw [q]; obtain ⟨_, w1, _⟩ := h3; exact Heap.lt_size w1
    rw [upd_ne (Nat.ne_of_lt hlt)]
    exact (hf e he).1
  done := by
    intro X hP hw hK hc i pins s σ H E I hf st hg
    subst hP hw hK
    obtain ⟨hz, hTI, ⟨x0, y0, u0, hTO⟩, h1, h2, h3⟩ := st
    obtain ⟨xs, ys, zs, hqx, hqy, hqz, k1, k2, k3, hend⟩ := hg
    obtain ⟨m1, r1, p1, _⟩ := I.list hqx
    obtain ⟨m2, r2, p2, _⟩ := I.list hqy
    obtain ⟨m3, r3, p3, _⟩ := I.list hqz
    have l1 := r1.length
    have l2 := r2.length
    have l3 := r3.length
    have hh : X.A.in1.handled = none := I.ok.hd hc
    exact wpAny_pyNext_zipD3_end S (Draws.list hh i1 a na m1.toArray) (Draws.list hh i2 b nb m2.toArray) (Draws.list hh i3 c nc m3.toArray) hz hTI hTO ⟨h1, p1.isList⟩ ⟨h2, p2.isList⟩ ⟨h3, p3.isList⟩ (by rw [List.size_toArray]; omega) (by rw [List.size_toArray]; omega) (by rw [List.size_toArray]; omega) (by rw [List.size_toArray, List.size_toArray, List.size_toArray]; omega)
      fun h' tk hk => ⟨rfl, I.turnedL (t' := tk) (ch := [z, TI, TO, i1, i2, i3]) (fun e o hb q => hk e o (fun q' => hb (by simp [q'])) (fun q' => hb (by simp [q'])) (fun q' => hb (by simp [q'])) (fun q' => hb (by simp [q'])) (fun q' => hb (by simp [q'])) q) hf⟩
  self := fun A i s Q E st h => wpAny_pyIter_zip st.1 h
def iZip3 (K : PySem.W.Frag) (ta : TA) : TI := fun σ H R => ta σ H fun vs H1 => ∃ a b c xs ys zs, vs = [.ref a, .ref b, .ref c] ∧ SqL K H1 a xs ∧ SqL K H1 b ys ∧ SqL K H1 c zs ∧ R (It3 K a b c) H1
theorem pi_zip3 {X : Cx} {e e2 e3 : Expr} {ta : TA} {p pos tpos : Pos} {elts : List Expr} {kk : Nat} (hg : Gl X "zip") (hm : X.mg "zip" = none) (ha : PA X [e, e2, e3] ta)
    (hs : starEach [e, e2, e3] X.env = (false, eval e X.env) :: starEach [e2, e3] X.env) (hpl : (backTo pos (starEach [e2, e3] X.env)).any (·.1) = false) :
    PI X (.Tuple elts kk tpos) (.Call (.Name "zip" p) [e, e2, e3] [] pos) (iZip3 X.K ta) := by
  refine ⟨fun pins s σ H R I h => ?_⟩
  refine Call_ (ld_blt I hg hm PyProof.Rows.boot_zip (PyProof.Rows.callWith_type1 (thn (ha.run pos pins s σ H _ I h) fun us s1 ⟨vs, H1, I1, r1, q1⟩ => ?_) hs hpl))
  obtain ⟨a, b, c, xs, ys, zs, ex, hqx, hqy, hqz, q⟩ := q1
  subst ex
  obtain ⟨u1, u2, u3, rfl, rr1, rr2, rr3⟩ : ∃ u1 u2 u3, us = [u1, u2, u3] ∧ RelV (.ref a) u1 ∧ RelV (.ref b) u2 ∧ RelV (.ref c) u3 := by
    cases r1 with
    | cons p q => cases q with
      | cons p' q' => cases q' with
        | cons p'' q'' => cases q''; exact ⟨_, _, _, rfl, p, p', p''⟩
  cases rr1; cases rr2; cases rr3
  obtain ⟨m1, v1, p1, _⟩ := I1.list hqx
  obtain ⟨m2, v2, p2, _⟩ := I1.list hqy
  obtain ⟨m3, v3, p3, _⟩ := I1.list hqz
  refine zip_begins3 (begins_list a m1.toArray) (begins_list b m2.toArray) (begins_list c m3.toArray) p1.isList p2.isList p3.isList fun h' hz hTI hTO g1 g2 g3 hsz hk => wpAny_pyIter_zip hz ?_
  have la : a < s1.heap.objs.size := p1.lt
  have lb : b < s1.heap.objs.size := p2.lt
  have lc : c < s1.heap.objs.size := p3.lt
  have I2 : Inv X pins σ H1 { s1 with heap := h' } := I1.kept (t' := s1.toks) hk
  refine ⟨s1.heap.objs.size + 5, [s1.heap.objs.size + 5, s1.heap.objs.size + 3, s1.heap.objs.size + 4, s1.heap.objs.size, s1.heap.objs.size + 1, s1.heap.objs.size + 2], _, _, H1, rfl, I2, turn3 (zip_sep3 (fun d hd => by rw [List.mem_singleton.mp hd]; exact la) (fun d hd => by rw [List.mem_singleton.mp hd]; exact lb) (fun d hd => by rw [List.mem_singleton.mp hd]; exact lc)) (Nat.ne_of_lt la) (Nat.ne_of_lt (Nat.lt_succ_of_lt lb)) (Nat.ne_of_lt (Nat.lt_succ_of_lt (Nat.lt_succ_of_lt lc))), ⟨hz, hTI, ⟨_, _, _, hTO⟩, ⟨_, g1, rfl, rfl⟩, ⟨_, g2, rfl, rfl⟩, ⟨_, g3, rfl, rfl⟩⟩, fun d hd => ?_, q⟩
  have hle : s1.heap.objs.size ≤ d := by
    simp only [List.mem_cons, List.not_mem_nil, or_false] at hd
    rcases hd with z | z | z | z | z | z
    · rw [z]; exact Nat.le_add_right _ _
    · rw [z]; exact Nat.le_add_right _ _
    · rw [z]; exact Nat.le_add_right _ _
    · rw [z]; exact Nat.le_refl _
    · rw [z]; exact Nat.le_add_right _ _
    · rw [z]; exact Nat.le_add_right _ _
  exact I1.fpOk hle (I1.hok.fresh hle)
def ItLT (K : PySem.W.Frag) (a b : Addr) : It :=
  ⟨fun i H => ∃ (xs ys : List V) (x y : V), SqL K H a xs ∧ SqT K H b ys ∧ xs[i]? = some x ∧ ys[i]? = some y,
    fun i H v H' => ∃ T x y, v = .ref T ∧ H T = none ∧ H' = upd H T (.tup [x, y]) ∧ (∀ xs, SqL K H a xs → xs[i]? = some x) ∧ ∀ ys, SqT K H b ys → ys[i]? = some y,
    fun i H => ∃ xs ys : List V, SqL K H a xs ∧ SqT K H b ys ∧ i ≤ xs.length ∧ i ≤ ys.length ∧ (i = xs.length ∨ i = ys.length)⟩
theorem turnLT {P : Program} {w : World} {K : PySem.W.Frag} {elts : List Expr} {kk : Nat} {tpos : Pos} {a b z TI TO i1 i2 : Addr} (S : ZipSep2 z TI TO i1 i2 [i1, a] [i2, b]) (na : a ≠ i1) (nb : b ≠ i2) :
    Turn P w K (.Tuple elts kk tpos) (ItLT K a b) [z, TI, TO, i1, i2] z (fun i h => IsZip h z TI TO .none ∧ IsTupOf2 h TI (.ref i1) (.ref i2) ∧ (∃ x y, IsTupOf2 h TO x y) ∧ h.IsListIter i1 a i ∧ h.IsTupleIter i2 b i) where
  mem := by simp
  obj := fun i h st e he => by
    obtain ⟨hz, hTI, ⟨x, y, hTO⟩, ⟨o1, e1, _, d1⟩, ⟨o2, e2, _, d2⟩⟩ := st
    simp only [List.mem_cons, List.not_mem_nil, or_false] at he
    rcases he with q | q | q | q | q
    · rw [q]; exact ⟨_, hz, fun v q => nomatch q⟩
    · rw [q]; exact ⟨_, hTI, fun v q => nomatch q⟩
    · rw [q]; exact ⟨_, hTO, fun v q => nomatch q⟩
    · rw [q]; exact ⟨o1, e1, fun v q => (by rw [d1] at q; cases q)⟩
    · rw [q]; exact ⟨o2, e2, fun v q => (by rw [d2] at q; cases q)⟩
  keep := fun i h h' ⟨hz, hTI, ⟨x, y, hTO⟩, h1, h2⟩ k => ⟨k z (by simp) _ hz, k TI (by simp) _ hTI, ⟨x, y, k TO (by simp) _ hTO⟩, h1.at fun o q => k i1 (by simp) o q, h2.at fun o q => k i2 (by simp) o q⟩
  item := by
    intro X hP hw hK hc i pins s σ H E I hf st hg
    subst hP hw hK
    obtain ⟨hz, hTI, ⟨x0, y0, hTO⟩, h1, h2⟩ := st
    obtain ⟨xs, ys, x, y, hqx, hqy, hx, hy⟩ := hg
    obtain ⟨m1, r1, p1, _⟩ := I.list hqx
    obtain ⟨m2, r2, p2, _⟩ := I.tuple hqy
    obtain ⟨v1, e1, q1⟩ := r1.get hx
    obtain ⟨v2, e2, q2⟩ := r2.get hy
    have lt : ∀ {l : List Value} {v : Value}, l[i]? = some v → i < l.toArray.size := fun e => by rw [List.size_toArray]; exact (List.getElem?_eq_some_iff.mp e).1
    have hh : X.A.in1.handled = none := I.ok.hd hc
    have hzl : z < s.heap.objs.size := Heap.lt_size hz
    refine wpAny_pyNext_zipD2_item S (Draws.list hh i1 a na m1.toArray) (Draws.tuple hh i2 b nb m2.toArray) hz hTI hTO ⟨h1, p1.isList⟩ ⟨h2, p2⟩ (lt e1) (lt e2) fun y1 y2 h' tk g1 g2 z' TO' t1 t2 hT hsz hk => ?_
    have g1 : m1.toArray[i]? = some y1 := g1
    have g2 : m2.toArray[i]? = some y2 := g2
    have f1 : y1 = v1 := by have : m1[i]? = some y1 := by simpa using g1
                            rw [e1] at this; cases this; rfl
    have f2 : y2 = v2 := by have : m2[i]? = some y2 := by simpa using g2
                            rw [e2] at this; cases this; rfl
    subst f1 f2
    refine ⟨_, rfl, wpAny_letOwnedTupleGo_zip (s := { s with heap := h', toks := tk }) z' fun h'' z'' sb => ?_⟩
    have hT2 : h''.get? s.heap.objs.size = some { cls := .type "tuple", data := .seq #[y1, y2] } := (sb.2 _ (Nat.ne_of_gt hzl)).trans hT
    have new : ObjOk X.prog X.w (upd H s.heap.objs.size (.tup [x, y])) h'' s.heap.objs.size (.tup [x, y]) :=
      ⟨by show (2 : Nat) ≤ sizeLine; decide, [y1, y2], .cons q1 (.cons q2 .nil), ⟨_, hT2, rfl, _, rfl⟩⟩
    have I1 : Inv X pins σ (upd H s.heap.objs.size (.tup [x, y])) { s with heap := h'', toks := tk } :=
      I.turnedNew (t' := tk) (ch := [z, TI, TO, i1, i2]) (fun e o hb q => (sb.2 e (fun q' => hb (by simp [q']))).trans (hk e o (fun q' => hb (by simp [q'])) (fun q' => hb (by simp [q'])) (fun q' => hb (by simp [q'])) (fun q' => hb (by simp [q'])) q)) hf (Nat.le_refl _) new
    refine ⟨.ref s.heap.objs.size, _, I1, rfl, ⟨_, x, y, rfl, I.hok.fresh (Nat.le_refl _), rfl, fun l hl => by rw [I.list_inj hl hqx]; exact hx, fun l hl => by rw [I.tuple_inj hl hqy]; exact hy⟩, ⟨z'', (sb.2 _ S.TIz).trans (hk _ _ S.TIz S.TITO S.TIi1 S.TIi2 hTI), ⟨y1, y2, (sb.2 _ S.TOz).trans TO'⟩, t1.1.at fun o q => (sb.2 _ (fun e => S.zf1 (by rw [← e]; exact S.mem1))).trans q, t2.1.at fun o q => (sb.2 _ (fun e => S.zf2 (by rw [← e]; exact S.mem2))).trans q⟩, fun e he => ?_⟩
    have hlt : e < s.heap.objs.size := by
      simp only [List.mem_cons, List.not_mem_nil, or_false] at he
      rcases he with q | q | q | q | q
      · rw [q]; exact hzl
      · rw [q]; exact Heap.lt_size hTI
      · rw [q]; exact Heap.lt_size hTO
      · rw [q]; obtain ⟨_, w1, _⟩ := h1; exact Heap.lt_size w1
      · rw [q]; obtain ⟨_, w1, _⟩ := h2; exact Heap.lt_size w1
    rw [upd_ne (Nat.ne_of_lt hlt)]
    exact (hf e he).1
  done := by
    intro X hP hw hK hc i pins s σ H E I hf st hg
    subst hP hw hK
    obtain ⟨hz, hTI, ⟨x0, y0, hTO⟩, h1, h2⟩ := st
    obtain ⟨xs, ys, hqx, hqy, k1, k2, hend⟩ := hg
    obtain ⟨m1, r1, p1, _⟩ := I.list hqx
    obtain ⟨m2, r2, p2, _⟩ := I.tuple hqy
    have l1 := r1.length
    have l2 := r2.length
    have hh : X.A.in1.handled = none := I.ok.hd hc
    exact wpAny_pyNext_zipD2_end S (Draws.list hh i1 a na m1.toArray) (Draws.tuple hh i2 b nb m2.toArray) hz hTI hTO ⟨h1, p1.isList⟩ ⟨h2, p2⟩ (by rw [List.size_toArray]; omega) (by rw [List.size_toArray]; omega) (by rw [List.size_toArray, List.size_toArray]; omega)
      fun h' tk hk => ⟨rfl, I.turnedL (t' := tk) (ch := [z, TI, TO, i1, i2]) (fun e o hb q => hk e o (fun q' => hb (by simp [q'])) (fun q' => hb (by simp [q'])) (fun q' => hb (by simp [q'])) (fun q' => hb (by simp [q'])) q) hf⟩
  self := fun A i s Q E st h => wpAny_pyIter_zip st.1 h
def iZipLT (K : PySem.W.Frag) (ta : TA) : TI := fun σ H R => ta σ H fun vs H1 => ∃ a b xs ys, vs = [.ref a, .ref b] ∧ SqL K H1 a xs ∧ SqT K H1 b ys ∧ R (ItLT K a b) H1
theorem pi_zipLT {X : Cx} {e e2 : Expr} {ta : TA} {p pos tpos : Pos} {elts : List Expr} {kk : Nat} (hg : Gl X "zip") (hm : X.mg "zip" = none) (ha : PA X [e, e2] ta)
    (hs : starEach [e, e2] X.env = (false, eval e X.env) :: starEach [e2] X.env) (hpl : (backTo pos (starEach [e2] X.env)).any (·.1) = false) :
    PI X (.Tuple elts kk tpos) (.Call (.Name "zip" p) [e, e2] [] pos) (iZipLT X.K ta) := by
  refine ⟨fun pins s σ H R I h => ?_⟩
  refine Call_ (ld_blt I hg hm PyProof.Rows.boot_zip (PyProof.Rows.callWith_type1 (thn (ha.run pos pins s σ H _ I h) fun us s1 ⟨vs, H1, I1, r1, q1⟩ => ?_) hs hpl))
  obtain ⟨a, b, xs, ys, ex, hqx, hqy, q⟩ := q1
  subst ex
  obtain ⟨u1, u2, rfl, rr1, rr2⟩ : ∃ u1 u2, us = [u1, u2] ∧ RelV (.ref a) u1 ∧ RelV (.ref b) u2 := by
    cases r1 with
    | cons p q => cases q with
      | cons p' q' => cases q'; exact ⟨_, _, rfl, p, p'⟩
  cases rr1; cases rr2
  obtain ⟨m1, v1, p1, _⟩ := I1.list hqx
  obtain ⟨m2, v2, p2, _⟩ := I1.tuple hqy
  refine zip_begins2 (begins_list a m1.toArray) (begins_tuple b m2.toArray) p1.isList p2 fun h' hz hTI hTO g1 g2 hsz hk => wpAny_pyIter_zip hz ?_
  have la : a < s1.heap.objs.size := p1.lt
  have lb : b < s1.heap.objs.size := by obtain ⟨o, ho, _⟩ := p2; exact Heap.lt_size ho
  have I2 : Inv X pins σ H1 { s1 with heap := h' } := I1.kept (t' := s1.toks) hk
  refine ⟨s1.heap.objs.size + 4, [s1.heap.objs.size + 4, s1.heap.objs.size + 2, s1.heap.objs.size + 3, s1.heap.objs.size, s1.heap.objs.size + 1], _, _, H1, rfl, I2, turnLT (zip_sep2 (fun d hd => by rw [List.mem_singleton.mp hd]; exact la) (fun d hd => by rw [List.mem_singleton.mp hd]; exact lb)) (Nat.ne_of_lt la) (Nat.ne_of_lt (Nat.lt_succ_of_lt lb)), ⟨hz, hTI, ⟨_, _, hTO⟩, ⟨_, g1, rfl, rfl⟩, ⟨_, g2, rfl, rfl⟩⟩, fun d hd => ?_, q⟩
  have hle : s1.heap.objs.size ≤ d := by
    simp only [List.mem_cons, List.not_mem_nil, or_false] at hd
    rcases hd with z | z | z | z | z
    · rw [z]; exact Nat.le_add_right _ _
    · rw [z]; exact Nat.le_add_right _ _
    · rw [z]; exact Nat.le_add_right _ _
    · rw [z]; exact Nat.le_refl _
    · rw [z]; exact Nat.le_add_right _ _
  exact I1.fpOk hle (I1.hok.fresh hle)
end OC
set_option maxHeartbeats 4000000
/-! zips as data. -/
namespace OC
open PySem PySem.Spec PyProof.Rows L2
def zip3D (ds es fs : List D) : List D := (ds.zip (es.zip fs)).map fun p => D.tup [p.1, p.2.1, p.2.2]
theorem zip3_get {ds es fs : List D} {i : Nat} {d : D} (h : (zip3D ds es fs)[i]? = some d) : ∃ x y z, ds[i]? = some x ∧ es[i]? = some y ∧ fs[i]? = some z ∧ d = .tup [x, y, z] := by
  unfold zip3D at h
  rw [List.getElem?_map] at h
  cases e : (ds.zip (es.zip fs))[i]? with
  | none => rw [e] at h; cases h
  | some p =>
    rw [e] at h
    cases h
    obtain ⟨x, y, z⟩ := p
    obtain ⟨h1, h2⟩ := List.getElem?_zip_eq_some.mp e
    obtain ⟨h2, h3⟩ := List.getElem?_zip_eq_some.mp h2
    exact ⟨x, y, z, h1, h2, h3, rfl⟩
theorem zip3_len (ds es fs : List D) : (zip3D ds es fs).length = min ds.length (min es.length fs.length) := by
  unfold zip3D; rw [List.length_map, List.length_zip, List.length_zip]
theorem zip3D_map {α β γ : Type} (f : α → D) (k : β → D) (l : γ → D) (xs : List α) (ys : List β) (zs : List γ) : zip3D (xs.map f) (ys.map k) (zs.map l) = (xs.zip (ys.zip zs)).map fun q => D.tup [f q.1, k q.2.1, l q.2.2] := by
  unfold zip3D; rw [List.zip_map, List.zip_map, List.map_map]; rfl
section
variable {M : Mo} {g : G} {Z : Sc} {e a b c : Expr} {r : Rho} {ds es fs : List D} {pos : Pos}
theorem IT_zip3 {elts : List Expr} {kk : Nat} {tpos p : Pos} (he : A M g Z [a, b, c] r [.lst ds, .lst es, .lst fs]) (hm : M.mg "zip" = none) (hg : GlS g "zip" := by rfl) (hs : ∀ env, starEach [a, b, c] env = (false, eval a env) :: starEach [b, c] env := by intro _; rfl) (hpl : ∀ env, (backTo pos (starEach [b, c] env)).any (·.1) = false := by intro _; rfl) :
    IT M g Z (.Tuple elts kk tpos) (.Call (.Name "zip" p) [a, b, c] [] pos) r (zip3D ds es fs) := fun X ok B0 H0 B H σ R Q q => by
  refine ⟨_, pi_zip3 (ok.gl hg) (by rw [ok.mg]; exact hm) pa_w (hs _) (hpl _), ?_⟩
  refine he X ok B0 H0 B H σ R _ fun xs vs B1 H1 px f1 r1 => ?_
  subst px
  cases r1 with
  | cons ra rr => cases rr with
    | cons rb rr => cases rr with
      | cons rc rr => cases rr with
        | nil =>
          cases ra with
          | lst h1 k1 => cases rb with
            | lst h2 k2 => cases rc with
              | lst h3 k3 =>
                refine ⟨_, _, _, _, _, _, rfl, SqL.of (f1.s _ _ h1), SqL.of (f1.s _ _ h2), SqL.of (f1.s _ _ h3), q (zip3D ds es fs) _ B1 H1 rfl f1 fun B' H' fb es' fr i => ⟨fun d hd => ?_, fun hl => ?_⟩⟩
                · obtain ⟨x, y, z, e1, e2, e3, rfl⟩ := zip3_get hd
                  obtain ⟨v1, g1, r1⟩ := k1.atD e1
                  obtain ⟨v2, g2, r2⟩ := k2.atD e2
                  obtain ⟨v3, g3, r3⟩ := k3.atD e3
                  have hq := es' _ _ (fb _ _ h1)
                  have hq2 := es' _ _ (fb _ _ h2)
                  have hq3 := es' _ _ (fb _ _ h3)
                  refine ⟨⟨_, _, _, v1, v2, v3, SqL.of hq, SqL.of hq2, SqL.of hq3, g1, g2, g3⟩, fun w H'' yy => ?_⟩
                  obtain ⟨T, x1, y1, z1, rfl, nT, rfl, w1, w2, w3⟩ := yy
                  have e5 := w1 _ (SqL.of hq); rw [g1] at e5; cases e5
                  have e6 := w2 _ (SqL.of hq2); rw [g2] at e6; cases e6
                  have e7 := w3 _ (SqL.of hq3); rw [g3] at e7; cases e7
                  have nx := Ex.new (o := HO.tup [v1, v2, v3]) (es'.n nT)
                  exact ⟨upd B' T (.tup [v1, v2, v3]), (Fr.rfl' es' fr).add fr nT, .tup upd_same (.cons ((r1.mono fb).mono nx) (.cons ((r2.mono fb).mono nx) (.cons ((r3.mono fb).mono nx) .nil)))⟩
                · rw [zip3_len] at hl
                  have l1 := k1.len
                  have l2 := k2.len
                  have l3 := k3.len
                  exact ⟨_, _, _, SqL.of (es' _ _ (fb _ _ h1)), SqL.of (es' _ _ (fb _ _ h2)), SqL.of (es' _ _ (fb _ _ h3)), by omega, by omega, by omega, by omega⟩
theorem IT_zipLT {elts : List Expr} {kk : Nat} {tpos p : Pos} (he : A M g Z [a, b] r [.lst ds, .tup es]) (hm : M.mg "zip" = none) (hg : GlS g "zip" := by rfl) (hs : ∀ env, starEach [a, b] env = (false, eval a env) :: starEach [b] env := by intro _; rfl) (hpl : ∀ env, (backTo pos (starEach [b] env)).any (·.1) = false := by intro _; rfl) :
    IT M g Z (.Tuple elts kk tpos) (.Call (.Name "zip" p) [a, b] [] pos) r (zipD ds es) := fun X ok B0 H0 B H σ R Q q => by
  refine ⟨_, pi_zipLT (ok.gl hg) (by rw [ok.mg]; exact hm) pa_w (hs _) (hpl _), ?_⟩
  refine he X ok B0 H0 B H σ R _ fun xs vs B1 H1 px f1 r1 => ?_
  subst px
  cases r1 with
  | cons ra rr => cases rr with
    | cons rb rr => cases rr with
      | nil =>
        cases ra with
        | lst h1 k1 => cases rb with
          | tup h2 k2 =>
            refine ⟨_, _, _, _, rfl, SqL.of (f1.s _ _ h1), SqT.of (f1.s _ _ h2), q (zipD ds es) _ B1 H1 rfl f1 fun B' H' fb es' fr i => ⟨fun d hd => ?_, fun hl => ?_⟩⟩
            · unfold zipD at hd
              rw [List.getElem?_map] at hd
              cases e0 : (ds.zip es)[i]? with
              | none => rw [e0] at hd; cases hd
              | some d0 =>
                rw [e0] at hd
                cases hd
                have e0 : (ds.zip es)[i]? = some (d0.1, d0.2) := e0
                obtain ⟨ea, eb⟩ := List.getElem?_zip_eq_some.mp e0
                obtain ⟨v, g1, r1⟩ := k1.atD ea
                obtain ⟨w, g2, r2⟩ := k2.atD eb
                have hq := es' _ _ (fb _ _ h1)
                have hq2 := es' _ _ (fb _ _ h2)
                refine ⟨⟨_, _, v, w, SqL.of hq, SqT.of hq2, g1, g2⟩, fun x H'' y => ?_⟩
                obtain ⟨T, x1, y1, rfl, nT, rfl, hw1, hw2⟩ := y
                have e5 := hw1 _ (SqL.of hq); rw [g1] at e5; cases e5
                have e6 := hw2 _ (SqT.of hq2); rw [g2] at e6; cases e6
                have nx := Ex.new (o := HO.tup [v, w]) (es'.n nT)
                exact ⟨upd B' T (.tup [v, w]), (Fr.rfl' es' fr).add fr nT, .tup upd_same (.cons ((r1.mono fb).mono nx) (.cons ((r2.mono fb).mono nx) .nil))⟩
            · unfold zipD at hl
              rw [List.length_map, List.length_zip] at hl
              have l1 := k1.len
              have l2 := k2.len
              exact ⟨_, _, SqL.of (es' _ _ (fb _ _ h1)), SqT.of (es' _ _ (fb _ _ h2)), by omega, by omega, by omega⟩
theorem E_listZip3 {p p2 pos2 : Pos} (he : A M g Z [a, b, c] r [.lst ds, .lst es, .lst fs]) (hl : ds.length ≤ 1000) (hm : M.mg "list" = none) (hm2 : M.mg "zip" = none) (hg : GlS g "list" := by rfl) (hg2 : GlS g "zip" := by rfl) (hs : ∀ env, starEach [a, b, c] env = (false, eval a env) :: starEach [b, c] env := by intro _; rfl) (hpl : ∀ env, (backTo pos2 (starEach [b, c] env)).any (·.1) = false := by intro _; rfl) :
    E M g Z (.Call (.Name "list" p) [.Call (.Name "zip" p2) [a, b, c] [] pos2] [] pos) r (.lst (zip3D ds es fs)) := fun X ok B0 H0 B H σ R Q q => by
  refine ⟨_, pe_listZip3 ok.calm pa_w (ok.gl hg) (by rw [ok.mg]; exact hm) (ok.gl hg2) (by rw [ok.mg]; exact hm2) (hs _) (hpl _), ?_⟩
  refine he X ok B0 H0 B H σ R _ fun xs vs B1 H1 px f1 r1 => ?_
  subst px
  cases r1 with
  | cons ra rr => cases rr with
    | cons rb rr => cases rr with
      | cons rc rr => cases rr with
        | nil =>
          cases ra with
          | lst h1 k1 => cases rb with
            | lst h2 k2 => cases rc with
              | lst h3 k3 =>
                have l1 := k1.len
                have l2 := k2.len
                have l3 := k3.len
                refine ⟨_, _, _, _, _, _, rfl, SqL.of (f1.s _ _ h1), SqL.of (f1.s _ _ h2), SqL.of (f1.s _ _ h3), by omega, fun H' S as kp nS nas hS nd eS hlen off hat => ?_⟩
                -- what is new
                have bS := f1.s.n nS
                let B' : Hp := fun x => if x = S ∨ x ∈ as then H' x else B1 x
                have hB1 : ∀ x o, B1 x = some o → ¬ (x = S ∨ x ∈ as) := fun x o e z => by
                  rcases z with z | z
                  · rw [z, bS] at e; cases e
                  · have := f1.s _ _ e
                    rw [nas x z] at this; cases this
                have ex : Ex B1 B' := fun x o e => by
                  show (if _ then _ else _) = _
                  rw [if_neg (hB1 x o e)]; exact e
                have exH : Ex B' H' := fun x o e => by
                  have e : (if x = S ∨ x ∈ as then H' x else B1 x) = some o := e
                  by_cases z : x = S ∨ x ∈ as
                  · rw [if_pos z] at e; exact e
                  · rw [if_neg z] at e; exact kp _ _ (f1.s _ _ e)
                have inB : ∀ x, (x = S ∨ x ∈ as) → B' x = H' x := fun x z => if_pos z
                refine q _ _ B' H' rfl ⟨f1.b.tr ex, fun x o e z => kp _ _ (f1.h x o e z), exH, fun x o e n => ?_, fun z => ?_⟩ (.lst ((inB S (.inl rfl)).trans eS) ?_)
                · have n1 := f1.hid x o e n
                  show (if _ then _ else _) = _
                  by_cases z : x = S ∨ x ∈ as
                  · exfalso
                    by_cases on : Z.on = true ∧ (x = Z.s ∨ x = Z.c)
                    · obtain ⟨_, cs, ll, mm, tt, _, _, _, _, g1, g2⟩ := f1.src on.1
                      rcases on.2 with w | w
                      · subst w
                        rcases z with z | z
                        · rw [z] at g1; rw [nS] at g1; cases g1
                        · rw [nas _ z] at g1; cases g1
                      · subst w
                        rcases z with z | z
                        · rw [z] at g2; rw [nS] at g2; cases g2
                        · rw [nas _ z] at g2; cases g2
                    · have g1 := f1.h x o e fun y => ⟨fun w => on ⟨y, .inl w⟩, fun w => on ⟨y, .inr w⟩⟩
                      rcases z with z | z
                      · rw [z, nS] at g1; cases g1
                      · rw [nas _ z] at g1; cases g1
                  · rw [if_neg z]; exact n1
                · obtain ⟨ne, cs, ll, mm, tt, a1, a2, a3, a4, g1, g2⟩ := f1.src z
                  exact ⟨ne, cs, ll, mm, tt, a1, a2, a3, a4, kp _ _ g1, kp _ _ g2⟩
                · -- the tuples
                  have hzl : (zip3D ds es fs).length = as.length := by rw [zip3_len, hlen]; omega
                  have key : ∀ (l : List D) (m : List Addr), l.length = m.length → (∀ (j : Nat) (d : D) (t : Addr), l[j]? = some d → m[j]? = some t → RD M.C Z.s B' d (.ref t)) → RDs M.C Z.s B' l (m.map V.ref) := by
                    intro l
                    induction l with
                    | nil => intro m hm _; cases m with
                      | nil => exact .nil
                      | cons x m => simp at hm
                    | cons d l ih => intro m hm hh; cases m with
                      | nil => simp at hm
                      | cons t m => exact .cons (hh 0 d t rfl rfl) (ih m (by simpa using hm) fun j d t e1 e2 => hh (j + 1) d t (by simpa using e1) (by simpa using e2))
                  refine key _ _ hzl fun j d t e1 e2 => ?_
                  obtain ⟨x, y, z, g1, g2, g3, rfl⟩ := zip3_get e1
                  obtain ⟨v1, v2, v3, w1, w2, w3, ht⟩ := hat j t e2
                  obtain ⟨v1', g1', r1⟩ := k1.atD g1
                  obtain ⟨v2', g2', r2⟩ := k2.atD g2
                  obtain ⟨v3', g3', r3⟩ := k3.atD g3
                  rw [w1] at g1'; cases g1'
                  rw [w2] at g2'; cases g2'
                  rw [w3] at g3'; cases g3'
                  exact .tup ((inB t (.inr (List.mem_of_getElem? e2))).trans ht) (.cons (r1.mono ex) (.cons (r2.mono ex) (.cons (r3.mono ex) .nil)))
end
end OC
set_option maxHeartbeats 4000000
/-! Least and greatest of pairs, of a tuple, with a default; sorted ints; stars; times; count; dict displays; try. -/
namespace OC
open PySem PySem.Spec PyProof.Rows L2
/-! ### pairs -/
abbrev pP (q : Int × Int) : PyData := .tuple [.int q.1, .int q.2]
def lexLt (p q : Int × Int) : Prop := p.1 < q.1 ∨ (p.1 = q.1 ∧ p.2 < q.2)
def lexLe (p q : Int × Int) : Prop := p.1 < q.1 ∨ (p.1 = q.1 ∧ p.2 ≤ q.2)
theorem lexLe_anti {p q : Int × Int} (h : lexLe p q) (k : lexLe q p) : p = q := by
  obtain ⟨a, b⟩ := p; obtain ⟨c, d⟩ := q
  unfold lexLe at h k; dsimp at h k
  have h1 : a = c := by omega
  have h2 : b = d := by omega
  rw [h1, h2]
theorem maxP_fold : ∀ (l : List (Int × Int)) (x : Int × Int), ∃ m, PySem.W.maxD (pP x) (l.map pP) = pP m ∧ (m = x ∨ m ∈ l) ∧ lexLe x m ∧ ∀ y ∈ l, lexLe y m
  | [], x => ⟨x, rfl, .inl rfl, .inr ⟨rfl, Int.le_refl _⟩, fun y h => nomatch h⟩
  | a :: l, x => by
    have e : PySem.W.maxD (pP x) ((a :: l).map pP) = PySem.W.maxD (pP (if x.1 < a.1 ∨ (x.1 = a.1 ∧ x.2 < a.2) then a else x)) (l.map pP) := by
      unfold PySem.W.maxD
      rw [List.map_cons, List.foldl_cons, PySem.W.dataLt_ii]
      by_cases h : x.1 < a.1 ∨ (x.1 = a.1 ∧ x.2 < a.2)
      · rw [decide_eq_true h, if_pos h, if_pos rfl]
      · rw [decide_eq_false h, if_neg h, if_neg (by decide)]
    rw [e]
    obtain ⟨m, e1, e2, e3, e4⟩ := maxP_fold l (if x.1 < a.1 ∨ (x.1 = a.1 ∧ x.2 < a.2) then a else x)
    refine ⟨m, e1, ?_, ?_, fun y hy => ?_⟩
    · rcases e2 with e2 | e2
      · split at e2
        · exact .inr (by rw [e2]; exact List.mem_cons_self)
        · exact .inl e2
      · exact .inr (List.mem_cons_of_mem _ e2)
    · split at e3
      · unfold lexLe at e3 ⊢; omega
      · exact e3
    · rcases List.mem_cons.mp hy with r | hy
      · subst r
        split at e3
        · exact e3
        · unfold lexLe at e3 ⊢; omega
      · exact e4 y hy
theorem minP_fold : ∀ (l : List (Int × Int)) (x : Int × Int), ∃ m, PySem.W.minD (pP x) (l.map pP) = pP m ∧ (m = x ∨ m ∈ l) ∧ lexLe m x ∧ ∀ y ∈ l, lexLe m y
  | [], x => ⟨x, rfl, .inl rfl, .inr ⟨rfl, Int.le_refl _⟩, fun y h => nomatch h⟩
  | a :: l, x => by
    have e : PySem.W.minD (pP x) ((a :: l).map pP) = PySem.W.minD (pP (if a.1 < x.1 ∨ (a.1 = x.1 ∧ a.2 < x.2) then a else x)) (l.map pP) := by
      unfold PySem.W.minD
      rw [List.map_cons, List.foldl_cons, PySem.W.dataLt_ii]
      by_cases h : a.1 < x.1 ∨ (a.1 = x.1 ∧ a.2 < x.2)
      · rw [decide_eq_true h, if_pos h, if_pos rfl]
      · rw [decide_eq_false h, if_neg h, if_neg (by decide)]
    rw [e]
    obtain ⟨m, e1, e2, e3, e4⟩ := minP_fold l (if a.1 < x.1 ∨ (a.1 = x.1 ∧ a.2 < x.2) then a else x)
    refine ⟨m, e1, ?_, ?_, fun y hy => ?_⟩
    · rcases e2 with e2 | e2
      · split at e2
        · exact .inr (by rw [e2]; exact List.mem_cons_self)
        · exact .inl e2
      · exact .inr (List.mem_cons_of_mem _ e2)
    · split at e3
      · unfold lexLe at e3 ⊢; omega
      · exact e3
    · rcases List.mem_cons.mp hy with r | hy
      · subst r
        split at e3
        · exact e3
        · unfold lexLe at e3 ⊢; omega
      · exact e4 y hy
theorem alike_pairs (qs : List (Int × Int)) : PySem.W.AlikeAll (qs.map pP) := by
  refine ⟨fun x hx y hy => ?_, fun x hx => ?_⟩
  · obtain ⟨p, _, rfl⟩ := List.mem_map.mp hx
    obtain ⟨q, _, rfl⟩ := List.mem_map.mp hy
    simp [PySem.W.alike, PySem.W.alikeAll]
  · obtain ⟨p, _, rfl⟩ := List.mem_map.mp hx
    exact fun z => nomatch z
theorem depth_pairs : ∀ qs : List (Int × Int), PyData.depthAll (qs.map pP) ≤ 2
  | [] => by simp [PyData.depthAll]
  | q :: qs => by
    have := depth_pairs qs
    simp only [List.map_cons, PyData.depthAll, PyData.depth, pP]
    omega
theorem reads_pair {h : Heap} {v : Value} {p q : Int × Int} {as bs : List Addr} (r : PySem.Reads h v (pP p) as) (r' : PySem.Reads h v (pP q) bs) : p = q := by
  have e := PySem.W.alike_unique (pP p) (pP q) v as bs (by simp [PySem.W.alike, PySem.W.alikeAll]) r r'
  obtain ⟨a, b⟩ := p; obtain ⟨c, d⟩ := q
  simp only [pP, PyData.tuple.injEq, List.cons.injEq, PyData.int.injEq, and_true] at e
  rw [e.1, e.2]
section
variable {X : Cx}
def rExtP (K : PySem.W.Frag) (le : Int × Int → Int × Int → Prop) : List V → Hp → VK → Prop := fun xs H Q => ∃ (a : Addr) (ws : List V) (qs : List (Int × Int)), xs = [.ref a] ∧ SqL K H a ws ∧ DpAll K H ws (qs.map pP) ∧ qs ≠ [] ∧ ∀ (i : Nat) (q : Int × Int) (w : V), qs[i]? = some q → ws[i]? = some w → (∀ y ∈ qs, le y q) → Q w H
theorem dpAll_at {K : PySem.W.Frag} {H : Hp} : ∀ {ws : List V} {ds : List PyData} {i : Nat} {w : V}, DpAll K H ws ds → ws[i]? = some w → ∃ d, ds[i]? = some d ∧ Dp K H w d
  | _, _, _, _, .nil, e => by simp at e
  | _, _, 0, _, .cons a _, e => by simp at e; subst e; exact ⟨_, rfl, a⟩
  | _, _, i + 1, w, .cons _ b, e => by
    obtain ⟨d, h1, h2⟩ := dpAll_at (i := i) (w := w) b (by simpa using e)
    exact ⟨d, by simpa using h1, h2⟩
theorem cr_maxP (hc : X.calm = true) (hu : X.A.units + 64 < cLine) : CallR X (.builtin "max") (rExtP X.K lexLe) := by
  rintro pins s σ H xs us Q I r ⟨a, ws, qs, rfl, hs, hd, hne, q⟩
  obtain ⟨its, rv, pl, hz⟩ := I.list hs
  rw [Vals.ref1 r]
  cases qs with
  | nil => exact absurd rfl hne
  | cons x l =>
    obtain ⟨as, hr⟩ := Dp.readsAll I _ _ _ hd rv
    obtain ⟨m, e1, e2, e3, e4⟩ := maxP_fold l x
    refine PySem.W.max_list_data (vs := its.toArray) (I.ok.hd hc) pl.isList (x := pP x) (xs := l.map pP) (by simpa using hr) (alike_pairs (x :: l)) (by have := depth_pairs (x :: l); show X.A.units + 1 + PyData.depthAll ((x :: l).map pP) < cLine; omega) fun i v h' tk bs hv rd hk => ?_
    rw [e1] at rd
    have hv' : its[i]? = some v := by simpa using hv
    have hi : i < ws.length := by rw [rv.length]; exact (List.getElem?_eq_some_iff.mp hv').1
    obtain ⟨v2, hv2, ru⟩ := rv.get (List.getElem?_eq_getElem hi)
    rw [hv'] at hv2; cases hv2
    obtain ⟨d, f1, f2⟩ := dpAll_at hd (List.getElem?_eq_getElem hi)
    rw [List.getElem?_map] at f1
    cases g1 : (x :: l)[i]? with
    | none => rw [g1] at f1; cases f1
    | some q0 =>
      rw [g1] at f1; cases f1
      obtain ⟨as2, rd2⟩ := Dp.reads I _ _ _ f2 ru
      have eq : q0 = m := reads_pair (PySem.W.reads_keeps hk rd2) rd
      refine ⟨ws[i], H, I.kept hk, ru, q i q0 _ g1 (List.getElem?_eq_getElem hi) fun y hy => ?_⟩
      rw [eq]
      rcases List.mem_cons.mp hy with z | z
      · rw [z]; exact e3
      · exact e4 y z
theorem cr_minP (hc : X.calm = true) (hu : X.A.units + 64 < cLine) : CallR X (.builtin "min") (rExtP X.K fun y q => lexLe q y) := by
  rintro pins s σ H xs us Q I r ⟨a, ws, qs, rfl, hs, hd, hne, q⟩
  obtain ⟨its, rv, pl, hz⟩ := I.list hs
  rw [Vals.ref1 r]
  cases qs with
  | nil => exact absurd rfl hne
  | cons x l =>
    obtain ⟨as, hr⟩ := Dp.readsAll I _ _ _ hd rv
    obtain ⟨m, e1, e2, e3, e4⟩ := minP_fold l x
    refine PySem.W.min_list_data (vs := its.toArray) (I.ok.hd hc) pl.isList (x := pP x) (xs := l.map pP) (by simpa using hr) (alike_pairs (x :: l)) (by have := depth_pairs (x :: l); show X.A.units + 1 + PyData.depthAll ((x :: l).map pP) < cLine; omega) fun i v h' tk bs hv rd hk => ?_
    rw [e1] at rd
    have hv' : its[i]? = some v := by simpa using hv
    have hi : i < ws.length := by rw [rv.length]; exact (List.getElem?_eq_some_iff.mp hv').1
    obtain ⟨v2, hv2, ru⟩ := rv.get (List.getElem?_eq_getElem hi)
    rw [hv'] at hv2; cases hv2
    obtain ⟨d, f1, f2⟩ := dpAll_at hd (List.getElem?_eq_getElem hi)
    rw [List.getElem?_map] at f1
    cases g1 : (x :: l)[i]? with
    | none => rw [g1] at f1; cases f1
    | some q0 =>
      rw [g1] at f1; cases f1
      obtain ⟨as2, rd2⟩ := Dp.reads I _ _ _ f2 ru
      have eq : q0 = m := reads_pair (PySem.W.reads_keeps hk rd2) rd
      refine ⟨ws[i], H, I.kept hk, ru, q i q0 _ g1 (List.getElem?_eq_getElem hi) fun y hy => ?_⟩
      rw [eq]
      rcases List.mem_cons.mp hy with z | z
      · rw [z]; exact e3
      · exact e4 y z
/-- min of a tuple of ints -/
def rMinT (K : PySem.W.Frag) : List V → Hp → VK → Prop := fun xs H Q => ∃ (a : Addr) (ns : List Int) (m : Int), xs = [.ref a] ∧ SqT K H a (ns.map V.int) ∧ m ∈ ns ∧ (∀ y ∈ ns, m ≤ y) ∧ Q (.int m) H
theorem alike_ints' (ns : List Int) : PySem.W.AlikeAll (ns.map PyData.int) := ⟨fun x hx y hy => by
  obtain ⟨p, _, rfl⟩ := List.mem_map.mp hx
  obtain ⟨q, _, rfl⟩ := List.mem_map.mp hy
  rfl, fun x hx => by obtain ⟨p, _, rfl⟩ := List.mem_map.mp hx; exact fun z => nomatch z⟩
theorem depth_ints : ∀ ns : List Int, PyData.depthAll (ns.map PyData.int) ≤ 1
  | [] => by simp [PyData.depthAll]
  | n :: ns => by have := depth_ints ns; simp only [List.map_cons, PyData.depthAll, PyData.depth]; omega
theorem dp_ints {K : PySem.W.Frag} {H : Hp} : ∀ ns : List Int, DpAll K H (ns.map V.int) (ns.map PyData.int)
  | [] => .nil
  | n :: ns => .cons (.int n) (dp_ints ns)
theorem cr_minT (hc : X.calm = true) (hu : X.A.units + 64 < cLine) : CallR X (.builtin "min") (rMinT X.K) := by
  rintro pins s σ H xs us Q I r ⟨a, ns, m, rfl, hs, hm, hy, q⟩
  obtain ⟨its, rv, pl, hz⟩ := I.tuple hs
  rw [Vals.ref1 r]
  cases ns with
  | nil => cases hm
  | cons x l =>
    obtain ⟨as, hr⟩ := Dp.readsAll I _ _ _ (dp_ints (x :: l)) rv
    refine PySem.W.min_tuple_data (vs := its.toArray) (I.ok.hd hc) pl (x := .int x) (xs := l.map .int) (by simpa using hr) (alike_ints' (x :: l)) (by have := depth_ints (x :: l); show X.A.units + 1 + PyData.depthAll ((x :: l).map PyData.int) < cLine; omega) fun i v h' tk bs hv rd hk => ?_
    rw [PySem.W.minD_ints] at rd
    have e : l.foldl min x = m := by
      obtain ⟨h1, h2, h3⟩ := foldl_min l x
      have h4 : l.foldl min x ∈ x :: l := by
        rcases h1 with h1 | h1
        · rw [h1]; exact List.mem_cons_self
        · exact List.mem_cons_of_mem _ h1
      have h5 := hy _ h4
      rcases List.mem_cons.mp hm with z | z
      · omega
      · have := h3 m z; omega
    rw [e] at rd
    cases rd
    exact ⟨.int m, H, I.kept hk, ⟨_, rfl⟩, q⟩
/-- min(list of ints, default=..) where there is one -/
def rMinD (K : PySem.W.Frag) : List V → List V → Hp → VK → Prop := fun xs zs H Q => ∃ (a : Addr) (ns : List Int) (m : Int) (z : V), xs = [.ref a] ∧ zs = [z] ∧ SqL K H a (ns.map V.int) ∧ m ∈ ns ∧ (∀ y ∈ ns, m ≤ y) ∧ Q (.int m) H
theorem cr_minD (hc : X.calm = true) (hu : X.A.units + 64 < cLine) : CallRK X (.builtin "min") ["default"] (rMinD X.K) := by
  rintro pins s σ H xs zs us ws Q I r1 r2 ⟨a, ns, m, z, rfl, rfl, hs, hm, hy, q⟩
  obtain ⟨its, rv, pl, hz⟩ := I.list hs
  rw [Vals.ref1 r1]
  obtain ⟨w, rfl, rw'⟩ := vals1 r2
  cases ns with
  | nil => cases hm
  | cons x l =>
    obtain ⟨as, hr⟩ := Dp.readsAll I _ _ _ (dp_ints (x :: l)) rv
    refine PySem.W.min_list_default (vs := its.toArray) (I.ok.hd hc) pl.isList (xs := (x :: l).map .int) (by simpa using hr) (alike_ints' (x :: l)) (by have := depth_ints (x :: l); omega) (fun z => nomatch z) fun y ys i v h' tk bs e0 hv rd hk => ?_
    rw [List.map_cons] at e0
    cases e0
    rw [PySem.W.minD_ints] at rd
    have e : l.foldl min x = m := by
      obtain ⟨h1, h2, h3⟩ := foldl_min l x
      have h4 : l.foldl min x ∈ x :: l := by
        rcases h1 with h1 | h1
        · rw [h1]; exact List.mem_cons_self
        · exact List.mem_cons_of_mem _ h1
      have h5 := hy _ h4
      rcases List.mem_cons.mp hm with z | z
      · omega
      · have := h3 m z; omega
    rw [e] at rd
    cases rd
    exact ⟨.int m, H, I.kept hk, ⟨_, rfl⟩, q⟩
end
end OC
set_option maxHeartbeats 4000000
/-! The specials as data. -/
namespace OC
open PySem PySem.Spec PyProof.Rows L2
section
variable {M : Mo} {g : G} {Z : Sc} {e a b c : Expr} {es : List Expr} {r : Rho} {x y z d : D} {ds xs ys : List D} {pos : Pos} {k : Nat}
theorem pairs_dp {K : PySem.W.Frag} {C S : Addr} {H : Hp} : ∀ {qs : List (Int × Int)} {vs : List V}, RDs C S H (qs.map ciD) vs → DpAll K H vs (qs.map pP)
  | [], _, .nil => .nil
  | q :: qs, _, .cons (.tup h1 h2) t => .cons (.tup (SqT.of h1) (by
      cases h2 with
      | cons a1 h2 => cases h2 with
        | cons a2 h2 => cases h2; cases a1; cases a2; exact .cons (.int _) (.cons (.int _) .nil))) (pairs_dp t)
theorem RDs.atBoth {C S : Addr} {H : Hp} {ds : List D} {vs : List V} {i : Nat} {d : D} {v : V} (h : RDs C S H ds vs) (e1 : ds[i]? = some d) (e2 : vs[i]? = some v) : RD C S H d v := by
  obtain ⟨w, e3, r⟩ := h.atD e1
  rw [e2] at e3; cases e3; exact r
theorem RDs.monoP {K : PySem.W.Frag} {H H' : Hp} (e : Ex H H') {ws : List V} {qs : List (Int × Int)} {C S : Addr} (h : RDs C S H (qs.map ciD) ws) : DpAll K H' ws (qs.map pP) := pairs_dp (h.mono e)
theorem clMaxP {qs : List (Int × Int)} {m : Int × Int} (hm : m ∈ qs) (hy : ∀ y ∈ qs, lexLe y m) : ClD M g Z (.builtin "max") [.lst (qs.map ciD)] (ciD m) := fun X ok B H vs s sr rs Q q => by
  cases rs with
  | cons ra rr => cases rr with
    | nil => cases ra with
      | lst h1 k1 =>
        refine ⟨_, cr_maxP ok.calm ok.room.units, _, _, qs, rfl, SqL.of (s _ _ h1), k1.monoP s, fun z => (by rw [z] at hm; cases hm), fun i q0 w e1 e2 hq => ?_⟩
        have e3 : q0 = m := lexLe_anti (hy q0 (List.mem_of_getElem? e1)) (hq m hm)
        subst e3
        exact q _ B H (Fr.rfl' s sr) (k1.atBoth (by rw [List.getElem?_map, e1]; rfl) e2)
theorem clMinP {qs : List (Int × Int)} {m : Int × Int} (hm : m ∈ qs) (hy : ∀ y ∈ qs, lexLe m y) : ClD M g Z (.builtin "min") [.lst (qs.map ciD)] (ciD m) := fun X ok B H vs s sr rs Q q => by
  cases rs with
  | cons ra rr => cases rr with
    | nil => cases ra with
      | lst h1 k1 =>
        refine ⟨_, cr_minP ok.calm ok.room.units, _, _, qs, rfl, SqL.of (s _ _ h1), k1.monoP s, fun z => (by rw [z] at hm; cases hm), fun i q0 w e1 e2 hq => ?_⟩
        have e3 : q0 = m := lexLe_anti (hq m hm) (hy q0 (List.mem_of_getElem? e1))
        subst e3
        exact q _ B H (Fr.rfl' s sr) (k1.atBoth (by rw [List.getElem?_map, e1]; rfl) e2)
theorem clMinT {ns : List Int} {m : Int} (hm : m ∈ ns) (hy : ∀ y ∈ ns, m ≤ y) : ClD M g Z (.builtin "min") [.tup (ns.map D.int)] (.int m) := fun X ok B H vs s sr rs Q q => by
  cases rs with
  | cons ra rr => cases rr with
    | nil => cases ra with
      | tup h1 k1 =>
        rw [k1.ints] at h1
        exact ⟨_, cr_minT ok.calm ok.room.units, _, ns, m, rfl, SqT.of (s _ _ h1), hm, hy, q _ B H (Fr.rfl' s sr) (.int _)⟩
theorem clSorted {ns ms : List Int} (hl : ns.length < 64) (hu : ∀ ls : List Int, ls.Perm ns → ls.Pairwise (· ≤ ·) → ls = ms) : ClD M g Z (.builtin "sorted") [.lst (ns.map D.int)] (.lst (ms.map D.int)) := fun X ok B H vs s sr rs Q q => by
  cases rs with
  | cons ra rr => cases rr with
    | nil => cases ra with
      | lst h1 k1 =>
        rw [k1.ints] at h1
        refine ⟨_, cr_sorted, _, ns, rfl, SqL.of (s _ _ h1), hl, fun ls p hp ho hn => ?_⟩
        have e := hu ls hp ho
        subst e
        exact q _ _ _ ((Fr.rfl' s sr).add sr hn) (.lst upd_same (RDs.ofInts _))
theorem clRepr (i : Int) (h : i.natAbs.log2 < 1920) : ClD M g Z (.builtin "repr") [.int i] (.str (toString i)) := fun X ok B H vs s sr rs Q q => by
  cases rs with
  | cons ra rr => cases rr with
    | nil => cases ra; exact ⟨_, SkE.call_repr_int, i, rfl, h, q _ B H (Fr.rfl' s sr) (.str _)⟩
/-- min(e, default=0) of a list that is not empty -/
theorem E_minDef {ns : List Int} {m : Int} {p p2 p3 : Pos} {j : Nat} {i0 : Int} (ha : E M g Z a r (.lst (ns.map D.int))) (hm : m ∈ ns) (hy : ∀ y ∈ ns, m ≤ y) (hmg : M.mg "min" = none) (hg : GlS g "min" := by rfl) (hst : ∀ env, starEach [a] env = (false, eval a env) :: starEach [] env := by intro _; rfl)
    (he : ∀ env, backTo pos (starEach [a] env) = (false, eval a env) :: backTo pos (starEach [] env) := by intro _; rfl) (hpl : ∀ env, (backTo pos (starEach [a] env)).any (·.1) = false := by intro _; rfl) :
    E M g Z (.Call (.Name "min" p) [a] [⟨some "default", .Constant (.int i0) j p2, p3⟩] pos) r (.int m) := fun X ok B0 H0 B H σ R Q q => by
  refine ⟨_, pe_callBK (cr_minD ok.calm ok.room.units) (ok.gl hg) (by rw [ok.mg]; exact hmg) (by decide +kernel) (pa_cons pe_w pa_nil (hst _)) (pk_cons pe_int pk_nil) (by decide) (by decide) (he _) (hpl _) (by rfl) (by rfl) (by rfl), ?_⟩
  refine ha X ok B0 H0 B H σ R _ fun x v B1 H1 px f1 r1 => ?_
  subst px
  cases r1 with
  | lst h1 k1 =>
    rw [k1.ints] at h1
    exact ⟨_, ns, m, _, rfl, rfl, SqL.of (f1.s _ _ h1), hm, hy, q _ _ B1 H1 rfl f1 (.int _)⟩
/-- the starred in a display -/
theorem A_star {p : Pos} (h : E M g Z e r (.lst xs) ∨ E M g Z e r (.tup xs)) (h' : A M g Z es r ys) (hs : ∀ env, starEach (.Starred e p :: es) env = (true, eval e env) :: starEach es env := by intro _; rfl) : A M g Z (.Starred e p :: es) r (xs ++ ys) := fun X ok B0 H0 B H σ R Q q => by
  refine ⟨_, StX.pa_star pe_w pa_w (hs _), ?_⟩
  rcases h with h | h
  · refine h X ok B0 H0 B H σ R _ fun x v B1 H1 px f1 r1 => ?_
    subst px
    cases r1 with
    | lst h1 k1 =>
      refine ⟨_, _, rfl, .inr (SqL.of (f1.s _ _ h1)), ?_⟩
      refine h' X ok B0 H0 B1 H1 σ (R.step f1) _ fun ws vs B2 H2 pxs f2 r2 => ?_
      subst pxs
      exact q _ _ B2 H2 rfl (f1.tr f2 R.src) ((k1.mono f2.b).app r2)
  · refine h X ok B0 H0 B H σ R _ fun x v B1 H1 px f1 r1 => ?_
    subst px
    cases r1 with
    | tup h1 k1 =>
      refine ⟨_, _, rfl, .inl (SqT.of (f1.s _ _ h1)), ?_⟩
      refine h' X ok B0 H0 B1 H1 σ (R.step f1) _ fun ws vs B2 H2 pxs f2 r2 => ?_
      subst pxs
      exact q _ _ B2 H2 rfl (f1.tr f2 R.src) ((k1.mono f2.b).app r2)
theorem RDs.flat {C S : Addr} {H : Hp} {ds : List D} {vs : List V} (h : RDs C S H ds vs) : ∀ n : Nat, RDs C S H (List.replicate n ds).flatten (List.replicate n vs).flatten
  | 0 => .nil
  | n + 1 => by rw [List.replicate_succ, List.replicate_succ, List.flatten_cons, List.flatten_cons]; exact h.app (RDs.flat h n)
theorem mulL (n : Nat) (h : xs.length * n ≤ sizeLine) (hn : n < 1000) : OpD M g Z (binaryOp .Mult) (.lst xs) (.int n) (.lst (List.replicate n xs).flatten) := fun X ok B H v u s sr r1 r2 Q q => by
  cases r1 with
  | lst h1 k1 =>
    cases r2
    refine ⟨_, op_rep, _, n, _, rfl, rfl, s _ _ h1, by omega, by omega, by rw [← k1.len, Int.toNat_natCast]; exact h, fun p hp => ?_⟩
    rw [Int.toNat_natCast]
    exact q _ _ _ ((Fr.rfl' s sr).add sr hp) (.lst upd_same ((k1.flat n).mono (Ex.new (s.n hp))))
theorem mulT (n : Nat) (h : xs ≠ []) (hl : xs.length ≤ 1000) (h2 : 2 ≤ n) (hn : n ≤ 1000) : OpD M g Z (binaryOp .Mult) (.tup xs) (.int n) (.tup (List.replicate n xs).flatten) := fun X ok B H v u s sr r1 r2 Q q => by
  cases r1 with
  | tup h1 k1 =>
    cases r2
    have l1 := k1.len
    refine ⟨_, op_repT, _, n, _, rfl, rfl, SqT.of (s _ _ h1), fun z => h (List.length_eq_zero_iff.mp (by rw [l1, z]; rfl)), by omega, by omega, by omega, fun p hp => ?_⟩
    rw [Int.toNat_natCast]
    exact q _ _ _ ((Fr.rfl' s sr).add sr hp) (.tup upd_same ((k1.flat n).mono (Ex.new (s.n hp))))
/-- e.count(k) -/
theorem E_count {ns : List Int} {n : Int} {ap : Pos} (ha : E M g Z a r (.lst (ns.map D.int))) (hb : E M g Z b r (.int n))
    (h1 : ∀ env, attributeBase a "count" env (eval a env) = eval a env := by intro _; rfl)
    (h2 : ∀ env, ((backTo pos (starEach [b] env)).all (fun x => !x.1) && (backToKw pos (keywordEach [] env)).all (fun x => x.1.isSome) && decide ([b].length + ([] : List Keyword).length + (if ([] : List Keyword).isEmpty then 0 else 1) < 30)) = true := by intro _; rfl)
    (h3 : (ap.endLine == pos.line) = true := by rfl) (h4 : ∀ env, starEach [b] env = (false, eval b env) :: starEach [] env := by intro _; rfl) : E M g Z (.Call (.Attribute a "count" ap) [b] [] pos) r (.int (ns.count n : Nat)) := fun X ok B0 H0 B H σ R Q q => by
  refine ⟨_, pe_bm F.plainAttrs_list F.slot_list_count F.type_list_count mt_lcount pe_w (pa_cons pe_w pa_nil (h4 _)) (h1 _) (h2 _) h3 (h4 _) rfl, ?_⟩
  refine ha X ok B0 H0 B H σ R _ fun x v B1 H1 px f1 r1 => ?_
  subst px
  cases r1 with
  | lst h5 k5 =>
    rw [k5.ints] at h5
    refine ⟨.inl ⟨rfl, _, SqL.of (f1.s _ _ h5)⟩, ?_⟩
    refine hb X ok B0 H0 B1 H1 σ (R.step f1) _ fun y u B2 H2 py f2 r2 => ?_
    subst py; cases r2
    exact ⟨_, ns, n, rfl, rfl, SqL.of (f2.s _ _ (f2.b _ _ h5)), q _ _ B2 H2 rfl (f1.tr f2 R.src) (.int _)⟩
/-- {k: v, k: v, k: v}[e], ints -/
theorem E_pick3 {k1 k2 k3 v1 v2 v3 n m : Int} {j1 j2 j3 j4 j5 j6 : Nat} {p1 p2 p3 p4 p5 p6 p7 : Pos} (hb : E M g Z b r (.int n)) (h12 : k1 ≠ k2) (h13 : k1 ≠ k3) (h23 : k2 ≠ k3) (hn : (n = k1 ∧ m = v1) ∨ (n = k2 ∧ m = v2) ∨ (n = k3 ∧ m = v3)) (hs : NoSl b := by intro _ _; rfl) :
    E M g Z (.Subscript (.Dict [some (.Constant (.int k1) j1 p1), some (.Constant (.int k2) j2 p2), some (.Constant (.int k3) j3 p3)] [.Constant (.int v1) j4 p4, .Constant (.int v2) j5 p5, .Constant (.int v3) j6 p6] p7) b pos) r (.int m) := fun X ok B0 H0 B H σ R Q q => by
  refine ⟨_, pe_dget (hu_of ok.room) (pe_disp (pps_cons pe_int pe_int (pps_cons pe_int pe_int (pps_cons pe_int pe_int pps_nil))) rfl rfl (by simp) (Nat.le_of_ble_eq_true rfl)) pe_w hs, ?_⟩
  intro p hp
  refine ⟨upd_same, [(.inl k1, .int v1), (.inl k2, .int v2), (.inl k3, .int v3)], rfl, Nat.le_of_ble_eq_true rfl, ?_⟩
  have nb := R.sB.n hp
  have e1 : upd (upd H p (.dK [])) p (.dK (mergeK [] [(.inl k1, .int v1), (.inl k2, .int v2), (.inl k3, .int v3)])) = upd H p (.dK [(.inl k1, .int v1), (.inl k2, .int v2), (.inl k3, .int v3)]) := by
    have e2 : mergeK [] [((.inl k1 : Key), V.int v1), (.inl k2, .int v2), (.inl k3, .int v3)] = [(.inl k1, .int v1), (.inl k2, .int v2), (.inl k3, .int v3)] := by
      simp [mergeK, putK, h12, h13, h23]
    rw [e2]
    funext x
    by_cases hx : x = p
    · subst hx; rw [upd_same, upd_same]
    · rw [upd_ne hx, upd_ne hx, upd_ne hx]
  rw [e1]
  have f0 : Fr Z B H B (upd H p (.dK [(.inl k1, .int v1), (.inl k2, .int v2), (.inl k3, .int v3)])) := (Fr.rfl' R.sB R.src).grow R.src hp nb
  refine hb X ok B0 H0 B _ σ (R.step f0) _ fun y u B2 H2 py f2 r2 => ?_
  subst py; cases r2
  have hp2 : H2 p = some (.dK [(.inl k1, .int v1), (.inl k2, .int v2), (.inl k3, .int v3)]) := f2.h p _ upd_same (R.src.ne hp)
  have hval : valV [((.inl k1 : Key), V.int v1), (.inl k2, .int v2), (.inl k3, .int v3)] (.inl n) = some (.int m) := by
    rcases hn with ⟨rfl, rfl⟩ | ⟨rfl, rfl⟩ | ⟨rfl, rfl⟩
    · exact valV_pos rfl
    · rw [valV_neg (fun z => h12 (by injection z))]; exact valV_pos rfl
    · rw [valV_neg (fun z => h13 (by injection z)), valV_neg (fun z => h23 (by injection z))]; exact valV_pos rfl
  exact ⟨p, .int m, rfl, by rw [← hval]; exact DGet.k (k := Sum.inl n) hp2, q _ _ B2 H2 rfl (f0.tr f2 R.src) (.int _)⟩
/-- try: what raises nothing -/
theorem SS_try {body rest : List Stmt} {h0 : ExceptHandler} {hs : List ExceptHandler} {O : Out} (h : SS M g Z body r (O.to fun r' => SS M g Z rest r' O)) : SS M g Z (.Try body (h0 :: hs) [] [] pos :: rest) r O := SS_cons fun X ok B0 H0 B H σ R Dn o => by
  obtain ⟨t, p1, p2⟩ := h X ok B0 H0 B H σ R Dn o
  exact ⟨t, ps_try_never (u := tNext) (fun e s z => by rw [ok.xe] at z; exact z) p1 pss_nil, p2⟩
/-- x in (ys, zs), deep data -/
theorem op_inTup {X : Cx} (hu : X.A.units + 65 < cLine) : OpR X (compareOp .In) (fun x y H Q => ∃ d ds, Dp X.K H x d ∧ Dp X.K H y (.tuple ds) ∧ SeqAt.shaped d = true ∧ SeqAt.shaped (.tuple ds) = true ∧ Q (.bl (ds.any fun z => PyData.eqv z d)) H) := by
  rintro pins s σ H x y v u Q I rx ry ⟨d, ds, hd, he, sd, se, q⟩
  obtain ⟨as, r1⟩ := Dp.reads I d x v hd rx
  obtain ⟨bs, r2⟩ := Dp.reads I (.tuple ds) y u he ry
  exact SeqAt.in_tuple_reads r2 r1 (SeqAt.canLay_of_shaped se) (SeqAt.canLay_of_shaped sd) (room_in_shaped sd hu) ⟨.bl _, H, I, rfl, q⟩
theorem inTD {n m : Nat} {q : Bool} (hx : Sh n x) (hy : Sh m (.tup ds)) (h : (ds.any fun z => PyData.eqv (dP z) (dP x)) = q) (hn : n ≤ 64 := by decide) (hm : m ≤ 64 := by decide) : OpD M g Z (compareOp .In) x (.tup ds) (.bl q) := fun X ok B H v u s sr r1 r2 Q k => by
  refine ⟨_, op_inTup (by have := ok.room.un; omega), dP x, dPs ds, (r1.mono s).dp hx, (r2.mono s).dp hy, hx.shaped hn, hy.shaped hm, ?_⟩
  have e : ((dPs ds).any fun z => PyData.eqv z (dP x)) = q := by rw [dPs_map, List.any_map]; exact h
  rw [e]
  exact k _ B H (Fr.rfl' s sr) (.bl q)
end
end OC
set_option maxHeartbeats 4000000
/-! Walks: gaps, heights. -/
namespace OC
open PySem PySem.Spec PyProof.Rows L2
theorem kind_if (b : Bool) : (if b then D.str "odd" else D.str "even") = D.str (kindS b) := by cases b <;> rfl
theorem kind_odd (b : Bool) : decide (kindS b = ("odd" : Str)) = b := by cases b <;> decide +kernel
theorem kind_even (b : Bool) : decide (kindS b = ("even" : Str)) = !b := by cases b <;> decide +kernel
theorem fold_len {α β S : Type} {f : S → α → S} {len : S → List β} (hf : ∀ s a, (len (f s a)).length ≤ (len s).length + 1) : ∀ (l : List α) (s : S), (len (l.foldl f s)).length ≤ (len s).length + l.length
  | [], s => Nat.le_refl _
  | a :: l, s => by
    have h1 := fold_len hf l (f s a)
    have h2 := hf s a
    rw [List.foldl_cons, List.length_cons]; omega
section
variable {M : Mo} (h : Hd M)
include h
theorem w_voices_at : FnG M 2 "voices_at" false (R1I fun ps y => .int (vat ps y)) := by
  refine h.fnG 27 14 fs_voices_at bn_voices_at R1I.len ?_
  rintro Z ds P - ⟨ps, y, gd, rfl, rfl⟩
  have l8 := gd.len
  refine SS_ret (E.of (E_lenL h (E_lcc (l := ps) (gf := perD) [("name", 2), ("spot", 3), ("voice", 4)] (fun p => decide (p.pl = y) && decide (p.vc = 1)) D.str (·.nm) (IT_list (EP_meth0 h.cls (w_S_people h) (E_var 0) ⟨_, gd, rfl, rfl⟩)) (fun p hp => ⟨_, _, G_3 (G_name 2) (G_name 3) (G_name 4), by decide, .inr ⟨_, rfl, T_and (T_cmp (E_var 3) (E_var 1) (eqI _ _)) fun _ => T_cmp (E_var 4) E_int (eqI _ _)⟩, fun _ => E_var 2⟩) (by omega))) ?_) rfl
  rw [List.length_map, List.length_map, voices_count gd]
def gapsD (ps : List Per) : D := .lst ((gaps ps).map gpD)
theorem w_gaps : FnG M 3 "gaps" false (R1 gapsD) := by
  refine h.fnG 28 15 fs_gaps bn_gaps R1.len ?_
  rintro Z ds P - ⟨ps, gd, rfl, rfl⟩
  have l8 := gd.len
  have ls := stops_len ps
  refine SS_par3 (i := 1) (j := 2) (l := 3) (AL_cons (EL_lst A_nil) (AL_cons E_int.l (AL_cons (E.l (EP_meth0 h.cls (w_S_places h) (E_var 0) ⟨_, gd, rfl, rfl⟩)) AL_nil))) ?_
  refine SS_fold (l := (stops ps).zip ((stops ps).drop 1)) (gf := ciD) (IT.of (IT_zip (A2 (E_var 3) (E_slL (ds := (stops ps).map D.int) (i := some ((1 : Nat) : Int)) (j := none) (E_var 3) (.inr ⟨_, _, rfl, rfl, E_int⟩) (.inl ⟨rfl, rfl⟩))) (h.free 121)) (by rw [cutL_drop, ← List.map_drop, zipD_map])) (fun s : Int × List Gp => [some (.d (.std ps)), some (.own (s.2.map gpD)), some (.d (.int s.1)), some (.d (stopsD ps)), none, none]) (gapsStep (vat ps)) (0, []) Le.rfl' ?_ ?_
  · rintro s pre q post e1 e2
    have hl : s.2.length ≤ 8 := by
      have h1 := fold_len (len := fun s : Int × List Gp => s.2) (f := gapsStep (vat ps)) (fun s a => by simp [gapsStep]) pre (0, [])
      have h2 := congrArg List.length e1
      rw [List.length_zip, List.length_append, List.length_cons] at h2
      rw [e2]; simp at h1 h2 ⊢; omega
    refine ⟨_, _, G_2 (G_name 4) (G_name 5), ?_⟩
    refine SS_aug (f := fun i j => i + j) 2 rfl (EP_call (w_voices_at h) (A2 (E_var 0) (E_var 4)) ⟨_, _, gd, rfl, rfl⟩) (fun _ => ip_add) ?_
    refine SS_append (ds := s.2.map gpD) 1 (E.of (E_tup (A_cons (E_var 4) (A2 (E_sub (E_var 5) (E_var 4)) (E_if (T_cmp (E_mod (E_var 2) E_int) E_int (eqI _ _)) (fun _ => E_str) (fun _ => E_str))))) (by rw [kind_if])) (by rw [List.length_map]; omega) ?_
    refine SS_nil ?_
    show Le [some (.d (.std ps)), some (.own ((s.2 ++ [_]).map gpD)), _, _, none, none] _
    rw [List.map_append]
    exact Le.keep (Le.keep (Le.keep (Le.keep (Le.drop (Le.drop Le.nil)))))
  · refine SS_give 1 ?_
    refine SS_ret (E_var 1) ?_
    rw [gaps_fold]; rfl
def oddW (ps : List Per) : Int := (((gaps ps).filter fun q => q.odd).map (·.width)).sum
def evenW (ps : List Per) : Int := (((gaps ps).filter fun q => !q.odd).map (·.width)).sum
theorem w_odd_sum : FnG M 4 "odd_sum" false (R1 fun ps => .int (oddW ps)) := by
  refine h.fnG 29 16 fs_odd_sum bn_odd_sum R1.len ?_
  rintro Z ds P - ⟨ps, gd, rfl, rfl⟩
  have l8 := gaps_le gd
  exact SS_ret (E_sum h (E_lcc (l := gaps ps) (gf := gpD) [("left", 1), ("width", 2), ("kind", 3)] (fun q => q.odd) D.int (·.width) (IT_list (EP_call (w_gaps h) (A1 (E_var 0)) ⟨_, gd, rfl, rfl⟩)) (fun q hq => ⟨_, _, G_3 (G_name 1) (G_name 2) (G_name 3), by decide, .inr ⟨_, rfl, T.of (T_cmp (E_var 3) E_str (eqS _ _)) (kind_odd _)⟩, fun _ => E_var 2⟩) (by omega))) rfl
theorem w_even_sum : FnG M 4 "even_sum" false (R1 fun ps => .int (evenW ps)) := by
  refine h.fnG 30 17 fs_even_sum bn_even_sum R1.len ?_
  rintro Z ds P - ⟨ps, gd, rfl, rfl⟩
  have l8 := gaps_le gd
  exact SS_ret (E_sum h (E_lcc (l := gaps ps) (gf := gpD) [("left", 1), ("width", 2), ("kind", 3)] (fun q => !q.odd) D.int (·.width) (IT_list (EP_call (w_gaps h) (A1 (E_var 0)) ⟨_, gd, rfl, rfl⟩)) (fun q hq => ⟨_, _, G_3 (G_name 1) (G_name 2) (G_name 3), by decide, .inr ⟨_, rfl, T.of (T_cmp (E_var 3) E_str (eqS _ _)) (kind_even _)⟩, fun _ => E_var 2⟩) (by omega))) rfl
def cornersD (ps : List Per) : D := .lst ((corners ps).map ciD)
theorem w_corners : FnG M 4 "corners" false (R1 cornersD) := by
  refine h.fnG 31 18 fs_corners bn_corners R1.len ?_
  rintro Z ds P - ⟨ps, gd, rfl, rfl⟩
  have l8 := gd.len
  have ls := stops_len ps
  have lg := gaps_le gd
  have lt : ((stops ps).take 1).length ≤ 1 := by rw [List.length_take]; omega
  refine SS_par (i := 1) (j := 2) (AL_cons E_int.l (AL_cons (EL_lc (L_lcm (l := (stops ps).take 1) (gf := D.int) [("place", 6)] ciD (fun y => (y, 0)) (IT_list (E.of (E_slL (ds := (stops ps).map D.int) (i := none) (j := some ((1 : Nat) : Int)) (EP_meth0 h.cls (w_S_places h) (E_var 0) ⟨_, gd, rfl, rfl⟩) (.inl ⟨rfl, rfl⟩) (.inr ⟨_, _, rfl, rfl, E_int⟩)) (by rw [cutL_take, ← List.map_take]))) (fun y hy => ⟨_, _, G_name 6, by decide, E_tup (A2 (E_var 6) E_int)⟩) (by omega))) AL_nil)) ?_
  refine SS_fold (l := gaps ps) (gf := gpD) (IT_list (EP_call (w_gaps h) (A1 (E_var 0)) ⟨_, gd, rfl, rfl⟩)) (fun s : Int × List (Int × Int) => [some (.d (.std ps)), some (.d (.int s.1)), some (.own (s.2.map ciD)), none, none, none, none]) cornersStep (0, ((stops ps).take 1).map fun y => (y, 0)) Le.rfl' ?_ ?_
  · rintro s pre q post e1 e2
    have hl : s.2.length ≤ 9 := by
      have h1 := fold_len (len := fun s : Int × List (Int × Int) => s.2) (f := cornersStep) (fun s a => by simp [cornersStep]) pre (0, ((stops ps).take 1).map fun y => (y, 0))
      have h2 := congrArg List.length e1
      rw [List.length_append, List.length_cons] at h2
      rw [e2]; simp only [List.length_map] at h1 h2 ⊢; omega
    refine ⟨_, _, G_3 (G_name 3) (G_name 4) (G_name 5), ?_⟩
    refine SS_aug (f := fun i j => i + j) (q := sg q) 1 rfl (E.of (E_if (T.of (T_cmp (E_var 5) E_str (eqS _ _)) (kind_odd _)) (fun _ => E_var 4) (fun _ => E_neg (E_var 4))) (by unfold sg; cases q.odd <;> rfl)) (fun _ => ip_add) ?_
    refine SS_append (ds := s.2.map ciD) 2 (E_tup (A2 (E_add (E_var 3) (E_var 4)) (E_var 1))) (by rw [List.length_map]; omega) ?_
    refine SS_nil ?_
    show Le [some (.d (.std ps)), _, some (.own ((s.2 ++ [_]).map ciD)), none, none, none, none] _
    rw [List.map_append]
    exact Le.keep (Le.keep (Le.keep (Le.drop (Le.drop (Le.drop (Le.drop Le.nil))))))
  · refine SS_give 2 ?_
    refine SS_ret (E_var 2) ?_
    rw [corners_fold]; rfl
def optP : Option (Int × Int) → D
  | none => .non
  | some q => ciD q
theorem w_greatest_height : FnG M 5 "greatest_height" false (R1 fun ps => ciD (topH ps)) := by
  refine h.fnG 32 19 fs_greatest_height bn_greatest_height R1.len ?_
  rintro Z ds P - ⟨ps, gd, rfl, rfl⟩
  have l8 := gd.len
  refine SS_set 1 E_non ?_
  refine SS_fold (l := corners ps) (gf := ciD) (IT_list (EP_call (w_corners h) (A1 (E_var 0)) ⟨_, gd, rfl, rfl⟩)) (fun s : Option (Int × Int) => [some (.d (.std ps)), some (.d (optP s)), none, none]) topStep none Le.rfl' ?_ ?_
  · rintro s pre q post e1 e2
    refine ⟨_, _, G_2 (G_name 2) (G_name 3), ?_⟩
    cases s with
    | none =>
      refine SS_ifT (T_or (c' := false) (T_isN (x := .non) (E_var 1)) fun z => nomatch z) ?_
      exact SS_set 1 (E_tup (A2 (E_var 3) (E_var 2))) (SS_nil (SS_nil (Le.keep (Le.keep (Le.drop (Le.drop Le.nil))))))
    | some t =>
      refine SS_if (T_or (c' := decide (t.1 < q.2)) (T_isN (x := ciD t) (E_var 1)) fun _ => T_cmp (E_var 3) (E_ixT (d := .int t.1) (E_var 1) E_int) (gtI _ _)) (fun hp => ?_) (fun hp => ?_)
      · have hp : t.1 < q.2 := of_decide_eq_true (by simpa [D.isN] using hp)
        refine SS_set 1 (E_tup (A2 (E_var 3) (E_var 2))) (SS_nil (SS_nil ?_))
        show Le [some (.d (.std ps)), some (.d (optP (if t.1 < q.2 then some (q.2, q.1) else some t))), none, none] _
        rw [if_pos hp]
        exact Le.keep (Le.keep (Le.drop (Le.drop Le.nil)))
      · have hp : ¬ t.1 < q.2 := of_decide_eq_false (by simpa [D.isN] using hp)
        refine SS_nil (SS_nil ?_)
        show Le [some (.d (.std ps)), some (.d (optP (if t.1 < q.2 then some (q.2, q.1) else some t))), none, none] _
        rw [if_neg hp]
        exact Le.keep (Le.keep (Le.drop (Le.drop Le.nil)))
  · refine SS_ret (E_var 1) ?_
    show optP (greatest ps) = _
    rw [(greatest_top gd).1]; rfl
end
end OC
set_option maxHeartbeats 4000000
/-! Walks: parting, faults. -/
namespace OC
open PySem PySem.Spec PyProof.Rows L2
section
variable {M : Mo} {g : G} {Z : Sc} {tg it : Expr} {r : Rho} {O : Out} {body rest : List Stmt} {pos : Pos}
/-- a loop that returns at the first found -/
theorem SS_first {α β : Type} {l : List α} {gf : α → D} (hi : IT M g Z tg it r (l.map gf)) (r0 : Rho) (h0 : Le r0 r) (ff : α → Option β)
    (hb : ∀ x ∈ l, (∀ b, ff x = some b → l.findSome? ff = some b) → ∃ r1 is, GT M g Z tg (gf x) r0 r1 is ∧ SS M g Z body r1 ⟨fun r2 => ff x = none ∧ Le r0 r2, O.rt, fun _ => False, fun r2 => ff x = none ∧ Le r0 r2⟩)
    (hd : l.findSome? ff = none → SS M g Z rest r0 O) (hs : ∀ env x, foldedSetIterable it env x = pure x := by intro _ _; rfl) : SS M g Z (.For tg it body [] pos :: rest) r O := by
  refine SS_forI hi (fun i r' => r' = r0 ∧ (l.take i).findSome? ff = none) ⟨_, h0, rfl, rfl⟩ ?_ ?_ hs
  · rintro ds e i d hd1 r' ⟨er, hn⟩
    subst e er
    rw [List.getElem?_map] at hd1
    cases e0 : l[i]? with
    | none => rw [e0] at hd1; cases hd1
    | some x =>
      rw [e0] at hd1
      simp only [Option.map_some, Option.some.injEq] at hd1
      subst hd1
      have hlt : i < l.length := (List.getElem?_eq_some_iff.mp e0).1
      have e1 : l = l.take i ++ x :: l.drop (i + 1) := by
        have e2 := (List.getElem?_eq_some_iff.mp e0).2
        rw [← e2, ← List.drop_eq_getElem_cons hlt, List.take_append_drop]
      have e3 : ff x = none → (l.take (i + 1)).findSome? ff = none := fun q => by
        rw [List.take_succ, e0, List.findSome?_append, hn]; simp [q]
      have hx : x ∈ l := by rw [e1]; simp
      obtain ⟨r1, is, gt, ss⟩ := hb x hx fun b hb => by
        rw [e1, List.findSome?_append, hn]; simp [hb]
      refine ⟨r1, is, gt, fun X ok B0 H0 B H σ R Dn o => ss X ok B0 H0 B H σ R Dn ⟨fun r2 B2 H2 σ2 n => o.nx r2 B2 H2 σ2 ⟨_, n.2, rfl, e3 n.1⟩, o.rt, fun r2 B2 H2 σ2 n => n.elim, fun r2 B2 H2 σ2 n => o.ct r2 B2 H2 σ2 ⟨_, n.2, rfl, e3 n.1⟩⟩⟩
  · rintro ds e r' ⟨er, hn⟩
    subst e er
    rw [List.length_map, List.take_length] at hn
    exact hd hn
end
def obad (ps qs : List Per) (n f : Str) : Bool := decide (0 ≤ plc ps f - plc ps n) && !(decide (0 ≤ plc qs f - plc qs n) && decide (plc qs f - plc qs n ≤ plc ps f - plc ps n))
def obIn (ps qs : List Per) (n f : Str) : Option (Str × Str) := if obad ps qs n f then some (n, f) else none
def obAt (ps qs : List Per) (n : Str) : Option (Str × Str) := (ps.map (·.nm)).findSome? (obIn ps qs n)
def orderBreak (ps qs : List Per) : Option (Str × Str) := (ps.map (·.nm)).findSome? (obAt ps qs)
def obD : Option (Str × Str) → D
  | none => .non
  | some q => .tup [.str q.1, .str q.2]
theorem names_map (ps : List Per) : (ps.map fun p => D.str p.nm) = (ps.map (·.nm)).map D.str := by rw [List.map_map]; rfl
section
variable {M : Mo} (h : Hd M)
include h
theorem w_order_break : FnG M 5 "order_break" false (R2 fun ps qs => obD (orderBreak ps qs)) := by
  refine h.fnG 33 20 fs_order_break bn_order_break R2.len ?_
  rintro Z ds P - ⟨ps, qs, gp, gq, lk, rfl, rfl⟩
  have hN : ∀ {n}, n ∈ ps.map (·.nm) → n ∈ qs.map (·.nm) := fun {n} hn => by rw [← lk.names]; exact hn
  refine SS_first (l := ps.map (·.nm)) (gf := D.str) (IT.of (IT_list (EP_meth0 h.cls (w_S_names h) (E_var 0) ⟨_, gp, rfl, rfl⟩)) (names_map ps)) [some (.d (.std ps)), some (.d (.std qs)), none, none, none] Le.rfl' (obAt ps qs) ?_ ?_
  · intro n hn out
    refine ⟨_, _, G_name 2, ?_⟩
    refine SS_first (l := ps.map (·.nm)) (gf := D.str) (IT.of (IT_list (EP_meth0 h.cls (w_S_names h) (E_var 0) ⟨_, gp, rfl, rfl⟩)) (names_map ps)) [some (.d (.std ps)), some (.d (.std qs)), some (.d (.str n)), none, none] Le.rfl' (obIn ps qs n) ?_ ?_
    · intro f hf inn
      refine ⟨_, _, G_name 3, ?_⟩
      refine SS_set 4 (E_sub (EP_meth h.cls (w_S_place h) (E_var 0) (A1 (E_var 3)) ⟨_, _, gp, hf, rfl, rfl⟩) (EP_meth h.cls (w_S_place h) (E_var 0) (A1 (E_var 2)) ⟨_, _, gp, hn, rfl, rfl⟩)) ?_
      refine SS_if (T.of (c := obad ps qs n f) (T_and (T_cmp (E_var 4) E_int (geI _ _)) fun _ => T_not (T_chain E_int (E_sub (EP_meth h.cls (w_S_place h) (E_var 1) (A1 (E_var 3)) ⟨_, _, gq, hN hf, rfl, rfl⟩) (EP_meth h.cls (w_S_place h) (E_var 1) (A1 (E_var 2)) ⟨_, _, gq, hN hn, rfl, rfl⟩)) (fun _ => E_var 4) (leI _ _) fun _ => leI _ _)) rfl) (fun hp => ?_) fun hp => ?_
      · refine SS_ret (E_tup (A2 (E_var 2) (E_var 3))) ?_
        have e1 : orderBreak ps qs = some (n, f) := out _ (inn _ (if_pos hp))
        show _ = obD (orderBreak ps qs)
        rw [e1]; rfl
      · refine SS_nil (SS_nil ⟨by unfold obIn; rw [hp]; rfl, ?_⟩)
        exact Le.keep (Le.keep (Le.keep (Le.drop (Le.drop Le.nil))))
    · intro hno
      exact SS_nil ⟨hno, Le.keep (Le.keep (Le.drop (Le.drop (Le.drop Le.nil))))⟩
  · intro hno
    refine SS_ret E_non ?_
    show _ = obD (orderBreak ps qs)
    rw [show orderBreak ps qs = none from hno]; rfl
def firstPl (ps : List Per) : Int := minOf (stops ps)
theorem w_first_place : FnG M 3 "first_place" false (R1 fun ps => .int (firstPl ps)) := by
  refine h.fnG 34 21 fs_first_place bn_first_place R1.len ?_
  rintro Z ds P - ⟨ps, gd, rfl, rfl⟩
  have ne : stops ps ≠ [] := by obtain ⟨y, l, e⟩ := stops_ne gd; rw [e]; simp
  exact SS_ret (E_minDef (ns := stops ps) (EP_meth0 h.cls (w_S_places h) (E_var 0) ⟨_, gd, rfl, rfl⟩) (minOf_mem ne) (fun y hy => minOf_le hy) (h.free 113)) rfl
def keptP (ps qs : List Per) : List Int := (stops ps).map fun y => plc qs (firstAt ps y)
def pairW (l : List Int) : List Int := (l.zip (l.drop 1)).map fun q => q.2 - q.1
def keptW (ps qs : List Per) : List Int := pairW (keptP ps qs)
omit h in
theorem keptW_len (ps qs : List Per) : (keptW ps qs).length = (stops ps).length - 1 := by
  unfold keptW pairW keptP
  rw [List.length_map, List.length_zip, List.length_drop, List.length_map]; omega
theorem w_kept_widths : FnG M 5 "kept_widths" false (R2 fun ps qs => intsD (keptW ps qs)) := by
  refine h.fnG 35 22 fs_kept_widths bn_kept_widths R2.len ?_
  rintro Z ds P - ⟨ps, qs, gp, gq, lk, rfl, rfl⟩
  have hN : ∀ {n}, n ∈ ps.map (·.nm) → n ∈ qs.map (·.nm) := fun {n} hn => by rw [← lk.names]; exact hn
  have l8 := gp.len
  have ls := stops_len ps
  refine SS_lc 2 (L_lcm (l := stops ps) (gf := D.int) [("place", 3)] D.int (fun y => plc qs (firstAt ps y)) (IT_list (EP_meth0 h.cls (w_S_places h) (E_var 0) ⟨_, gp, rfl, rfl⟩)) (fun y hy => ⟨_, _, G_name 3, by decide, EP_meth h.cls (w_S_place h) (E_var 1) (A1 (E_ixL (d := .str (firstAt ps y)) (EP_meth h.cls (w_S_at h) (E_var 0) (A1 (E_var 3)) ⟨_, _, gp, rfl, rfl⟩) E_int ?_)) ⟨_, _, gq, hN (firstAt_at hy).2, rfl, rfl⟩⟩) (by omega)) ?_
  · exact atI_zero (by rw [List.getElem?_map, (firstAt_at hy).1]; rfl)
  · refine SS_ret (E_lcm (l := (keptP ps qs).zip ((keptP ps qs).drop 1)) (gf := ciD) [("left", 4), ("right", 5)] D.int (fun q => q.2 - q.1) (IT.of (IT_zip (A2 (E_var 2) (E_slL (ds := (keptP ps qs).map D.int) (i := some ((1 : Nat) : Int)) (j := none) (E_var 2) (.inr ⟨_, _, rfl, rfl, E_int⟩) (.inl ⟨rfl, rfl⟩))) (h.free 121)) (by rw [cutL_drop, ← List.map_drop]; exact zipD_map _ _ _ _)) (fun q hq => ⟨_, _, G_2 (G_name 4) (G_name 5), by decide, E_sub (E_var 5) (E_var 4)⟩) ?_) rfl
    rw [List.length_zip]
    unfold keptP
    rw [List.length_map]; omega
theorem w_need_like : FnG M 3 "need_like" false (R2 fun _ _ => .non) := by
  refine h.fnG 36 23 fs_need_like bn_need_like R2.len ?_
  rintro Z ds P - ⟨ps, qs, gp, gq, lk, rfl, rfl⟩
  refine SS_ifF (T_not (T_val (EP_call (w_are_like h) (A2 (E_var 0) (E_var 1)) ⟨_, _, gp, gq, lk, rfl, rfl⟩))) ?_
  exact SS_nil rfl
def lostStep (s : Int × Int) (q : Gp × Int) : Int × Int := if q.1.odd then (s.1 + (q.1.width - q.2), s.2) else (s.1, s.2 + (q.1.width - q.2))
def lost (ps qs : List Per) : Int × Int := ((gaps ps).zip (keptW ps qs)).foldl lostStep (0, 0)
theorem w_lost_sums : FnG M 6 "lost_sums" false (R2 fun ps qs => ciD (lost ps qs)) := by
  refine h.fnG 37 24 fs_lost_sums bn_lost_sums R2.len ?_
  rintro Z ds P - ⟨ps, qs, gp, gq, lk, rfl, rfl⟩
  refine SS_asg (hw := by intro env hh; obtain ⟨sc, _⟩ := env; subst hh; rfl) (E_tup (A2 E_int E_int)) (G_2 (G_name 2) (G_name 3)) ?_
  refine SS_fold (l := (gaps ps).zip (keptW ps qs)) (gf := fun q => D.tup [gpD q.1, .int q.2]) (IT.of (IT_zip (A2 (EP_call (w_gaps h) (A1 (E_var 0)) ⟨_, gp, rfl, rfl⟩) (EP_call (w_kept_widths h) (A2 (E_var 0) (E_var 1)) ⟨_, _, gp, gq, lk, rfl, rfl⟩)) (h.free 121)) (zipD_map _ _ _ _)) (fun s : Int × Int => [some (.d (.std ps)), some (.d (.std qs)), some (.d (.int s.1)), some (.d (.int s.2)), none, none, none, none]) lostStep (0, 0) Le.rfl' ?_ ?_
  · rintro s pre q post e1 e2
    refine ⟨_, _, G_2 (G_3 (G_name 4) (G_name 5) (G_name 6)) (G_name 7), ?_⟩
    refine SS_if (T.of (T_cmp (E_var 6) E_str (eqS _ _)) (kind_odd _)) (fun hp => ?_) fun hp => ?_
    · refine SS_aug (f := fun i j => i + j) 2 rfl (E_sub (E_var 5) (E_var 7)) (fun _ => ip_add) ?_
      refine SS_nil (SS_nil ?_)
      have e : lostStep s q = (s.1 + (q.1.width - q.2), s.2) := by unfold lostStep; rw [if_pos hp]
      rw [e]
      exact Le.keep (Le.keep (Le.keep (Le.keep (Le.drop (Le.drop (Le.drop (Le.drop Le.nil)))))))
    · refine SS_aug (f := fun i j => i + j) 3 rfl (E_sub (E_var 5) (E_var 7)) (fun _ => ip_add) ?_
      refine SS_nil (SS_nil ?_)
      have e : lostStep s q = (s.1, s.2 + (q.1.width - q.2)) := by unfold lostStep; rw [if_neg (by simp [hp])]
      rw [e]
      exact Le.keep (Le.keep (Le.keep (Le.keep (Le.drop (Le.drop (Le.drop (Le.drop Le.nil)))))))
  · exact SS_ret (E_tup (A2 (E_var 2) (E_var 3))) rfl
def movedBy (ps qs : List Per) : Int := firstPl qs - firstPl ps
theorem w_moved_by : FnG M 4 "moved_by" false (R2 fun ps qs => .int (movedBy ps qs)) := by
  refine h.fnG 38 25 fs_moved_by bn_moved_by R2.len ?_
  rintro Z ds P - ⟨ps, qs, gp, gq, lk, rfl, rfl⟩
  exact SS_ret (E_sub (EP_call (w_first_place h) (A1 (E_var 1)) ⟨_, gq, rfl, rfl⟩) (EP_call (w_first_place h) (A1 (E_var 0)) ⟨_, gp, rfl, rfl⟩)) rfl
inductive Fault where
  | order (a b : Str) | sum
def faultD : Option Fault → D
  | none => .non
  | some (.order a b) => .tup [.str "order", .str a, .str b]
  | some .sum => .tup [.str "sum"]
def fault (ps qs : List Per) : Option Fault := match orderBreak ps qs with
  | some q => some (.order q.1 q.2)
  | none => if decide (vsum ps % 2 = 1) && decide (movedBy ps qs ≠ (lost ps qs).2) then some .sum else none
theorem w_first_fault : FnG M 7 "first_fault" false (R2 fun ps qs => faultD (fault ps qs)) := by
  refine h.fnG 39 26 fs_first_fault bn_first_fault R2.len ?_
  rintro Z ds P - ⟨ps, qs, gp, gq, lk, rfl, rfl⟩
  refine SS_set (x := obD (orderBreak ps qs)) 2 (EP_call (w_order_break h) (A2 (E_var 0) (E_var 1)) ⟨_, _, gp, gq, lk, rfl, rfl⟩) ?_
  cases e : orderBreak ps qs with
  | some q =>
    refine SS_ifT (T_notN (E_var 2)) ?_
    refine SS_ret (E_tup (A_cons E_str (A_star (.inr (E_var 2)) A_nil))) ?_
    show _ = faultD (fault ps qs)
    unfold fault; rw [e]; rfl
  | none =>
    refine SS_ifF (T_notN (E_var 2)) ?_
    refine SS_if (T_and (T_cmp (E_mod (EP_meth0 h.cls (w_S_voices h) (E_var 0) ⟨_, gp, rfl, rfl⟩) E_int) E_int (eqI _ _)) fun _ => T_cmp (EP_call (w_moved_by h) (A2 (E_var 0) (E_var 1)) ⟨_, _, gp, gq, lk, rfl, rfl⟩) (E_ixT (d := .int (lost ps qs).2) (EP_call (w_lost_sums h) (A2 (E_var 0) (E_var 1)) ⟨_, _, gp, gq, lk, rfl, rfl⟩) E_int) (neI _ _)) (fun hp => ?_) fun hp => ?_
    · refine SS_ret (E_tup (A1 E_str)) ?_
      show _ = faultD (fault ps qs)
      unfold fault; rw [e]; simp only; rw [if_pos hp]; rfl
    · refine SS_nil (SS_ret E_non ?_)
      show _ = faultD (fault ps qs)
      unfold fault; rw [e]; simp only; rw [if_neg (by rw [hp]; decide)]; rfl
end
end OC
set_option maxHeartbeats 4000000
/-! Walks: leading. -/
namespace OC
open PySem PySem.Spec PyProof.Rows L2
inductive Lab where
  | s (z : Str) | n (i : Int)
structure Bd where
  lab : Lab
  lo : Option Int
  hi : Option Int
def labD : Lab → D
  | .s z => .str z
  | .n i => .int i
def optI : Option Int → D
  | none => .non
  | some i => .int i
theorem optI_isN (o : Option Int) : (optI o).isN = o.isNone := by cases o <;> rfl
abbrev bdD (b : Bd) : D := .tup [labD b.lab, optI b.lo, optI b.hi]
abbrev gbRow := (Gp × ((Int × Int) × Int)) × Nat
def gbStep (s : Int × List Bd) (q : gbRow) : Int × List Bd :=
  if decide (0 < q.1.2.2) && q.1.1.odd then (s.1 + q.1.2.2, s.2 ++ [⟨.n q.2, some (q.1.2.1.2 - s.1), some (q.1.2.1.2 - s.1 + (q.1.1.width - q.1.2.2))⟩])
  else if decide (0 < q.1.2.2) then (s.1 - q.1.2.2, s.2 ++ [⟨.n q.2, some (q.1.2.1.2 - s.1 - (q.1.1.width - q.1.2.2)), some (q.1.2.1.2 - s.1)⟩])
  else s
def gbRows (ps qs : List Per) : List gbRow := ((gaps ps).zip ((corners ps).zip (keptW ps qs))).zipIdx
def gapBounds (ps qs : List Per) : List Bd := ((gbRows ps qs).foldl gbStep (0, [])).2
def topB (ps qs : List Per) : List Bd := if (gapBounds ps qs).isEmpty then [⟨.s "top", none, some (topH ps).1⟩] else []
def toldB (ps qs : List Per) : List Bd :=
  if decide (vsum ps % 2 = 0) then [⟨.s "first", some 0, none⟩, ⟨.s "last", none, some ((lost ps qs).1 - (lost ps qs).2)⟩, ⟨.s "moved", some ((lost ps qs).1 - movedBy ps qs), some ((lost ps qs).1 - movedBy ps qs)⟩] ++ gapBounds ps qs
  else [⟨.s "first", some 0, none⟩, ⟨.s "last", some ((lost ps qs).1 - (lost ps qs).2), none⟩] ++ (gapBounds ps qs ++ topB ps qs)
abbrev bdsD (l : List Bd) : D := .lst (l.map bdD)
theorem gbRows_len {ps : List Per} (gd : Good ps) (qs : List Per) : (gbRows ps qs).length ≤ 8 := by
  unfold gbRows
  rw [List.length_zipIdx, List.length_zip]
  have := gaps_le gd; omega
theorem gb_fold_len (l : List gbRow) (s : Int × List Bd) : ((l.foldl gbStep s).2).length ≤ s.2.length + l.length := by
  refine fold_len (len := fun s : Int × List Bd => s.2) (f := gbStep) (fun s a => ?_) l s
  unfold gbStep
  split
  · simp
  · split
    · simp
    · omega
theorem gapBounds_len {ps : List Per} (gd : Good ps) (qs : List Per) : (gapBounds ps qs).length ≤ 8 := by
  have h1 := gb_fold_len (gbRows ps qs) (0, [])
  have h2 := gbRows_len gd qs
  unfold gapBounds; simp at h1; omega
theorem topB_len (ps qs : List Per) : (topB ps qs).length ≤ 1 := by unfold topB; split <;> simp
theorem toldB_len {ps : List Per} (gd : Good ps) (qs : List Per) : (toldB ps qs).length ≤ 11 := by
  have h1 := gapBounds_len gd qs
  have h2 := topB_len ps qs
  unfold toldB
  split <;> simp <;> omega
section
variable {M : Mo} (h : Hd M)
include h
theorem w_gap_bounds : FnG M 6 "gap_bounds" false (R2 fun ps qs => bdsD (gapBounds ps qs)) := by
  refine h.fnG 40 27 fs_gap_bounds bn_gap_bounds R2.len ?_
  rintro Z ds P - ⟨ps, qs, gp, gq, lk, rfl, rfl⟩
  have l8 := gp.len
  have lg := gaps_le gp
  refine SS_par (i := 2) (j := 3) (AL_cons (EL_lst A_nil) (AL_cons E_int.l AL_nil)) ?_
  refine SS_set (x := .lst (((gaps ps).zip ((corners ps).zip (keptW ps qs))).map fun q => D.tup [gpD q.1, ciD q.2.1, .int q.2.2])) 4 (E.of (E_listZip3 (A_cons (EP_call (w_gaps h) (A1 (E_var 0)) ⟨_, gp, rfl, rfl⟩) (A2 (EP_call (w_corners h) (A1 (E_var 0)) ⟨_, gp, rfl, rfl⟩) (EP_call (w_kept_widths h) (A2 (E_var 0) (E_var 1)) ⟨_, _, gp, gq, lk, rfl, rfl⟩))) (by rw [List.length_map]; omega) (h.free 111) (h.free 121)) (congrArg D.lst (zip3D_map _ _ _ _ _ _))) ?_
  refine SS_fold (l := gbRows ps qs) (gf := fun q => D.tup [.int (q.2 : Int), D.tup [gpD q.1.1, ciD q.1.2.1, .int q.1.2.2]]) (IT.of (IT_enum (E_var 4) (h.free 107)) (enumD_map _ _)) (fun s : Int × List Bd => [some (.d (.std ps)), some (.d (.std qs)), some (.own (s.2.map bdD)), some (.d (.int s.1)), none, none, none, none, none, none, none, none, none, none]) gbStep (0, []) ?_ ?_ ?_
  · exact Le.keep (Le.keep (Le.keep (Le.keep (Le.drop (Le.drop (Le.drop (Le.drop (Le.drop (Le.drop (Le.drop (Le.drop (Le.drop (Le.drop Le.nil)))))))))))))
  · rintro s pre q post e1 e2
    have hl : s.2.length ≤ 8 := by
      have h1 := gb_fold_len pre (0, [])
      have h2 := congrArg List.length e1
      have h3 := gbRows_len gp qs
      rw [List.length_append, List.length_cons] at h2
      rw [e2]; simp at h1 h2 ⊢; omega
    refine ⟨_, _, G_2 (G_name 5) (G_3 (G_3 (G_name 6) (G_name 7) (G_name 8)) (G_2 (G_name 9) (G_name 10)) (G_name 11)), ?_⟩
    refine SS_par (i := 12) (j := 13) (AL_cons (E_sub (E_var 10) (E_var 3)).l (AL_cons (E_sub (E_var 7) (E_var 11)).l AL_nil)) ?_
    refine SS_if (T_and (T_cmp (E_var 11) E_int (gtI _ _)) fun _ => T.of (T_cmp (E_var 8) E_str (eqS _ _)) (kind_odd _)) (fun hp => ?_) fun hp => ?_
    · have e : gbStep s q = (s.1 + q.1.2.2, s.2 ++ [⟨.n q.2, some (q.1.2.1.2 - s.1), some (q.1.2.1.2 - s.1 + (q.1.1.width - q.1.2.2))⟩]) := by unfold gbStep; rw [if_pos hp]
      refine SS_append (ds := s.2.map bdD) 2 (E_tup (A_cons (E_var 5) (A2 (E_var 12) (E_add (E_var 12) (E_var 13))))) (by rw [List.length_map]; omega) ?_
      refine SS_aug (f := fun i j => i + j) 3 rfl (E_var 11) (fun _ => ip_add) ?_
      refine SS_nil (SS_nil ?_)
      show Le [some (.d (.std ps)), some (.d (.std qs)), some (.own ((gbStep s q).2.map bdD)), some (.d (.int (gbStep s q).1)), none, none, none, none, none, none, none, none, none, none] _
      rw [e, List.map_append]
      exact Le.keep (Le.keep (Le.keep (Le.keep (Le.drop (Le.drop (Le.drop (Le.drop (Le.drop (Le.drop (Le.drop (Le.drop (Le.drop (Le.drop Le.nil)))))))))))))
    · refine SS_if (T_cmp (E_var 11) E_int (gtI _ _)) (fun hq => ?_) fun hq => ?_
      · have e : gbStep s q = (s.1 - q.1.2.2, s.2 ++ [⟨.n q.2, some (q.1.2.1.2 - s.1 - (q.1.1.width - q.1.2.2)), some (q.1.2.1.2 - s.1)⟩]) := by unfold gbStep; rw [if_neg (by rw [hp]; decide), if_pos hq]
        refine SS_append (ds := s.2.map bdD) 2 (E_tup (A_cons (E_var 5) (A2 (E_sub (E_var 12) (E_var 13)) (E_var 12)))) (by rw [List.length_map]; omega) ?_
        refine SS_aug (f := fun i j => i - j) 3 rfl (E_var 11) (fun _ => ip_sub) ?_
        refine SS_nil (SS_nil (SS_nil ?_))
        show Le [some (.d (.std ps)), some (.d (.std qs)), some (.own ((gbStep s q).2.map bdD)), some (.d (.int (gbStep s q).1)), none, none, none, none, none, none, none, none, none, none] _
        rw [e, List.map_append]
        exact Le.keep (Le.keep (Le.keep (Le.keep (Le.drop (Le.drop (Le.drop (Le.drop (Le.drop (Le.drop (Le.drop (Le.drop (Le.drop (Le.drop Le.nil)))))))))))))
      · have e : gbStep s q = s := by unfold gbStep; rw [if_neg (by rw [hp]; decide), if_neg (by rw [hq]; decide)]
        refine SS_nil (SS_nil (SS_nil ?_))
        show Le [some (.d (.std ps)), some (.d (.std qs)), some (.own ((gbStep s q).2.map bdD)), some (.d (.int (gbStep s q).1)), none, none, none, none, none, none, none, none, none, none] _
        rw [e]
        exact Le.keep (Le.keep (Le.keep (Le.keep (Le.drop (Le.drop (Le.drop (Le.drop (Le.drop (Le.drop (Le.drop (Le.drop (Le.drop (Le.drop Le.nil)))))))))))))
  · refine SS_give 2 ?_
    exact SS_ret (E_var 2) rfl
omit h in
theorem Sh_lab {l : Lab} {n : Nat} (hl : ∀ z, l = .s z → PyData.strOk z = true) : Sh n (labD l) := by
  cases l with
  | s z => exact .str (hl z rfl)
  | n i => exact .int i
omit h in
theorem Sh_opt {n : Nat} (o : Option Int) : Sh n (optI o) := by cases o with
  | none => exact .non
  | some i => exact .int i
omit h in
theorem Sh_bd {b : Bd} {n : Nat} (hl : ∀ z, b.lab = .s z → PyData.strOk z = true) : Sh (n + 1) (bdD b) := .tup fun d hd => by
  simp only [List.mem_cons, List.not_mem_nil, or_false] at hd
  rcases hd with rfl | rfl | rfl
  · exact Sh_lab hl
  · exact Sh_opt _
  · exact Sh_opt _
omit h in
theorem gb_labs : ∀ (l : List gbRow) (s : Int × List Bd), (∀ b ∈ s.2, ∃ i, b.lab = .n i) → ∀ b ∈ (l.foldl gbStep s).2, ∃ i, b.lab = .n i
  | [], s, hs => hs
  | q :: l, s, hs => by
    refine gb_labs l (gbStep s q) fun b hb => ?_
    unfold gbStep at hb
    split at hb
    · rcases List.mem_append.mp hb with k | k
      · exact hs b k
      · rw [List.mem_singleton] at k; subst k; exact ⟨_, rfl⟩
    · split at hb
      · rcases List.mem_append.mp hb with k | k
        · exact hs b k
        · rw [List.mem_singleton] at k; subst k; exact ⟨_, rfl⟩
      · exact hs b hb
omit h in
theorem gapBounds_lab {ps qs : List Per} {b : Bd} (hb : b ∈ gapBounds ps qs) : ∃ i, b.lab = .n i := gb_labs _ _ (fun _ k => by simp at k) b hb
omit h in
theorem Sh_gb (ps qs : List Per) : Sh 2 (bdsD (gapBounds ps qs)) := .lst fun d hd => by
  obtain ⟨b, hb, rfl⟩ := List.mem_map.mp hd
  refine Sh_bd fun z hz => ?_
  obtain ⟨i, e⟩ := gapBounds_lab hb
  rw [e] at hz; cases hz
omit h in
theorem eqv_nil (ds : List D) : PyData.eqv (dP (.lst ds)) (dP (.lst [])) = ds.isEmpty := by
  cases ds with
  | nil => rfl
  | cons d ds => rfl
end
end OC
set_option maxHeartbeats 4000000
/-! Walks: leading, the answers. -/
namespace OC
open PySem PySem.Spec PyProof.Rows L2
/-- the greatest of pairs, by parts -/
def maxP : List (Int × Int) → Int × Int
  | [] => (0, 0)
  | a :: l => l.foldl (fun m x => if m.1 < x.1 ∨ (m.1 = x.1 ∧ m.2 < x.2) then x else m) a
def minP : List (Int × Int) → Int × Int
  | [] => (0, 0)
  | a :: l => l.foldl (fun m x => if x.1 < m.1 ∨ (x.1 = m.1 ∧ x.2 < m.2) then x else m) a
theorem maxP_go : ∀ (l : List (Int × Int)) (a : Int × Int), (l.foldl (fun m x => if m.1 < x.1 ∨ (m.1 = x.1 ∧ m.2 < x.2) then x else m) a = a ∨ l.foldl (fun m x => if m.1 < x.1 ∨ (m.1 = x.1 ∧ m.2 < x.2) then x else m) a ∈ l) ∧ lexLe a (l.foldl (fun m x => if m.1 < x.1 ∨ (m.1 = x.1 ∧ m.2 < x.2) then x else m) a) ∧ ∀ y ∈ l, lexLe y (l.foldl (fun m x => if m.1 < x.1 ∨ (m.1 = x.1 ∧ m.2 < x.2) then x else m) a)
  | [], a => ⟨.inl rfl, .inr ⟨rfl, Int.le_refl _⟩, fun _ h => by simp at h⟩
  | x :: l, a => by
    obtain ⟨h1, h2, h3⟩ := maxP_go l (if a.1 < x.1 ∨ (a.1 = x.1 ∧ a.2 < x.2) then x else a)
    rw [List.foldl_cons]
    generalize l.foldl (fun m x => if m.1 < x.1 ∨ (m.1 = x.1 ∧ m.2 < x.2) then x else m) (if a.1 < x.1 ∨ (a.1 = x.1 ∧ a.2 < x.2) then x else a) = t at h1 h2 h3 ⊢
    have ha : lexLe a (if a.1 < x.1 ∨ (a.1 = x.1 ∧ a.2 < x.2) then x else a) ∧ lexLe x (if a.1 < x.1 ∨ (a.1 = x.1 ∧ a.2 < x.2) then x else a) ∧ ((if a.1 < x.1 ∨ (a.1 = x.1 ∧ a.2 < x.2) then x else a) = a ∨ (if a.1 < x.1 ∨ (a.1 = x.1 ∧ a.2 < x.2) then x else a) = x) := by
      unfold lexLe
      split
      · exact ⟨by omega, by omega, .inr rfl⟩
      · exact ⟨by omega, by omega, .inl rfl⟩
    obtain ⟨k1, k2, k3⟩ := ha
    generalize (if a.1 < x.1 ∨ (a.1 = x.1 ∧ a.2 < x.2) then x else a) = b at h1 h2 h3 k1 k2 k3
    have tr : ∀ {p q r : Int × Int}, lexLe p q → lexLe q r → lexLe p r := fun {p q r} u v => by unfold lexLe at *; omega
    refine ⟨?_, tr k1 h2, fun y hy => ?_⟩
    · rcases h1 with e | e
      · rcases k3 with f | f
        · exact .inl (e.trans f)
        · exact .inr (by rw [e, f]; exact List.mem_cons_self)
      · exact .inr (List.mem_cons_of_mem _ e)
    · rcases List.mem_cons.mp hy with e | e
      · subst e; exact tr k2 h2
      · exact h3 y e
theorem minP_go : ∀ (l : List (Int × Int)) (a : Int × Int), (l.foldl (fun m x => if x.1 < m.1 ∨ (x.1 = m.1 ∧ x.2 < m.2) then x else m) a = a ∨ l.foldl (fun m x => if x.1 < m.1 ∨ (x.1 = m.1 ∧ x.2 < m.2) then x else m) a ∈ l) ∧ lexLe (l.foldl (fun m x => if x.1 < m.1 ∨ (x.1 = m.1 ∧ x.2 < m.2) then x else m) a) a ∧ ∀ y ∈ l, lexLe (l.foldl (fun m x => if x.1 < m.1 ∨ (x.1 = m.1 ∧ x.2 < m.2) then x else m) a) y
  | [], a => ⟨.inl rfl, .inr ⟨rfl, Int.le_refl _⟩, fun _ h => by simp at h⟩
  | x :: l, a => by
    obtain ⟨h1, h2, h3⟩ := minP_go l (if x.1 < a.1 ∨ (x.1 = a.1 ∧ x.2 < a.2) then x else a)
    rw [List.foldl_cons]
    generalize l.foldl (fun m x => if x.1 < m.1 ∨ (x.1 = m.1 ∧ x.2 < m.2) then x else m) (if x.1 < a.1 ∨ (x.1 = a.1 ∧ x.2 < a.2) then x else a) = t at h1 h2 h3 ⊢
    have ha : lexLe (if x.1 < a.1 ∨ (x.1 = a.1 ∧ x.2 < a.2) then x else a) a ∧ lexLe (if x.1 < a.1 ∨ (x.1 = a.1 ∧ x.2 < a.2) then x else a) x ∧ ((if x.1 < a.1 ∨ (x.1 = a.1 ∧ x.2 < a.2) then x else a) = a ∨ (if x.1 < a.1 ∨ (x.1 = a.1 ∧ x.2 < a.2) then x else a) = x) := by
      unfold lexLe
      split
      · exact ⟨by omega, by omega, .inr rfl⟩
      · exact ⟨by omega, by omega, .inl rfl⟩
    obtain ⟨k1, k2, k3⟩ := ha
    generalize (if x.1 < a.1 ∨ (x.1 = a.1 ∧ x.2 < a.2) then x else a) = b at h1 h2 h3 k1 k2 k3
    have tr : ∀ {p q r : Int × Int}, lexLe p q → lexLe q r → lexLe p r := fun {p q r} u v => by unfold lexLe at *; omega
    refine ⟨?_, tr h2 k1, fun y hy => ?_⟩
    · rcases h1 with e | e
      · rcases k3 with f | f
        · exact .inl (e.trans f)
        · exact .inr (by rw [e, f]; exact List.mem_cons_self)
      · exact .inr (List.mem_cons_of_mem _ e)
    · rcases List.mem_cons.mp hy with e | e
      · subst e; exact tr h2 k2
      · exact h3 y e
theorem maxP_mem {l : List (Int × Int)} (h : l ≠ []) : maxP l ∈ l := by
  cases l with
  | nil => exact absurd rfl h
  | cons a l => rcases (maxP_go l a).1 with e | e
                · exact List.mem_cons.mpr (.inl e)
                · exact List.mem_cons_of_mem _ e
theorem le_maxP {l : List (Int × Int)} {y : Int × Int} (h : y ∈ l) : lexLe y (maxP l) := by
  cases l with
  | nil => simp at h
  | cons a l => rcases List.mem_cons.mp h with e | e
                · subst e; exact (maxP_go l y).2.1
                · exact (maxP_go l a).2.2 y e
theorem minP_mem {l : List (Int × Int)} (h : l ≠ []) : minP l ∈ l := by
  cases l with
  | nil => exact absurd rfl h
  | cons a l => rcases (minP_go l a).1 with e | e
                · exact List.mem_cons.mpr (.inl e)
                · exact List.mem_cons_of_mem _ e
theorem minP_le {l : List (Int × Int)} {y : Int × Int} (h : y ∈ l) : lexLe (minP l) y := by
  cases l with
  | nil => simp at h
  | cons a l => rcases List.mem_cons.mp h with e | e
                · subst e; exact (minP_go l y).2.1
                · exact (minP_go l a).2.2 y e
def lowsB (l : List Bd) : List (Int × Int) := (l.zipIdx.filter fun q => q.1.lo.isSome).map fun q => (q.1.lo.getD 0, -(q.2 : Int))
def highsB (l : List Bd) : List (Int × Int) := (l.zipIdx.filter fun q => q.1.hi.isSome).map fun q => (q.1.hi.getD 0, (q.2 : Int))
theorem lowsB_at {l : List Bd} {x : Int × Int} (h : x ∈ lowsB l) : ∃ (n : Nat) (b : Bd), l[n]? = some b ∧ x.2 = -(n : Int) ∧ b.lo = some x.1 := by
  obtain ⟨q, hq, rfl⟩ := List.mem_map.mp h
  obtain ⟨h1, h2⟩ := List.mem_filter.mp hq
  obtain ⟨b, n⟩ := q
  refine ⟨n, b, ?_, rfl, ?_⟩
  · exact List.mk_mem_zipIdx_iff_getElem?.mp h1
  · simp only at h2 ⊢
    cases e : b.lo with
    | none => rw [e] at h2; exact absurd h2 (by decide)
    | some i => rfl
theorem highsB_at {l : List Bd} {x : Int × Int} (h : x ∈ highsB l) : ∃ (n : Nat) (b : Bd), l[n]? = some b ∧ x.2 = (n : Int) ∧ b.hi = some x.1 := by
  obtain ⟨q, hq, rfl⟩ := List.mem_map.mp h
  obtain ⟨h1, h2⟩ := List.mem_filter.mp hq
  obtain ⟨b, n⟩ := q
  refine ⟨n, b, ?_, rfl, ?_⟩
  · exact List.mk_mem_zipIdx_iff_getElem?.mp h1
  · simp only at h2 ⊢
    cases e : b.hi with
    | none => rw [e] at h2; exact absurd h2 (by decide)
    | some i => rfl
theorem lowsB_ne {l : List Bd} {b : Bd} {i : Int} (hb : b ∈ l) (e : b.lo = some i) : lowsB l ≠ [] := by
  obtain ⟨n, hn, en⟩ := List.mem_iff_getElem.mp hb
  intro k
  have : (i, -(n : Int)) ∈ lowsB l := List.mem_map.mpr ⟨(b, n), List.mem_filter.mpr ⟨List.mk_mem_zipIdx_iff_getElem?.mpr (by simp [hn, en]), by simp [e]⟩, by simp [e]⟩
  rw [k] at this; simp at this
theorem highsB_ne {l : List Bd} {b : Bd} {i : Int} (hb : b ∈ l) (e : b.hi = some i) : highsB l ≠ [] := by
  obtain ⟨n, hn, en⟩ := List.mem_iff_getElem.mp hb
  intro k
  have : (i, (n : Int)) ∈ highsB l := List.mem_map.mpr ⟨(b, n), List.mem_filter.mpr ⟨List.mk_mem_zipIdx_iff_getElem?.mpr (by simp [hn, en]), by simp [e]⟩, by simp [e]⟩
  rw [k] at this; simp at this
theorem gb_some : ∀ (l : List gbRow) (s : Int × List Bd), (∀ b ∈ s.2, b.lo.isSome ∧ b.hi.isSome) → ∀ b ∈ (l.foldl gbStep s).2, b.lo.isSome ∧ b.hi.isSome
  | [], s, hs => hs
  | q :: l, s, hs => by
    refine gb_some l (gbStep s q) fun b hb => ?_
    unfold gbStep at hb
    split at hb
    · rcases List.mem_append.mp hb with k | k
      · exact hs b k
      · rw [List.mem_singleton] at k; subst k; exact ⟨rfl, rfl⟩
    · split at hb
      · rcases List.mem_append.mp hb with k | k
        · exact hs b k
        · rw [List.mem_singleton] at k; subst k; exact ⟨rfl, rfl⟩
      · exact hs b hb
theorem gapBounds_some {ps qs : List Per} {b : Bd} (hb : b ∈ gapBounds ps qs) : b.lo.isSome ∧ b.hi.isSome := gb_some _ _ (fun _ k => by simp at k) b hb
theorem told_lows (ps qs : List Per) : lowsB (toldB ps qs) ≠ [] := by
  refine lowsB_ne (b := ⟨.s "first", some 0, none⟩) (i := 0) ?_ rfl
  unfold toldB; split <;> simp
theorem told_highs (ps qs : List Per) : highsB (toldB ps qs) ≠ [] := by
  by_cases e : vsum ps % 2 = 0
  · refine highsB_ne (b := ⟨.s "last", none, some ((lost ps qs).1 - (lost ps qs).2)⟩) ?_ rfl
    unfold toldB; rw [if_pos (by simpa using e)]; simp
  · cases k : gapBounds ps qs with
    | nil =>
      refine highsB_ne (b := ⟨.s "top", none, some (topH ps).1⟩) ?_ rfl
      unfold toldB topB; rw [if_neg (by simpa using e), k]; simp
    | cons b l =>
      have hb : b ∈ gapBounds ps qs := by rw [k]; exact List.mem_cons_self
      obtain ⟨i, hi⟩ := Option.isSome_iff_exists.mp (gapBounds_some hb).2
      refine highsB_ne (b := b) ?_ hi
      unfold toldB; rw [if_neg (by simpa using e)]
      exact List.mem_append_right _ (List.mem_append_left _ hb)
def labAt (l : List Bd) (n : Int) : Lab := ((l[n.toNat]?).map (·.lab)).getD (.n 0)
inductive Paper where
  | fault (f : Fault) | clash (a b : Lab) | leads (n : Int)
def paperD : Paper → D
  | .fault f => faultD (some f)
  | .clash a b => .tup [.str "clash", labD a, labD b]
  | .leads n => .tup [.str "leads", .int n]
def leastP (ps qs : List Per) : Int × Int := maxP (lowsB (toldB ps qs))
def mostP (ps qs : List Per) : Int × Int := minP (highsB (toldB ps qs))
def paper (ps qs : List Per) : Paper := match fault ps qs with
  | some f => .fault f
  | none => if decide ((mostP ps qs).1 < (leastP ps qs).1) then .clash (labAt (toldB ps qs) (-(leastP ps qs).2)) (labAt (toldB ps qs) (mostP ps qs).2) else .leads (leastP ps qs).1
def Paper.isL : Paper → Bool
  | .leads _ => true
  | _ => false
def R_all : Rel := fun ds P => ∃ ps qs, Good ps ∧ Good qs ∧ Like ps qs ∧ fault ps qs = none ∧ ds = [.std ps, .std qs] ∧ P = fun x => x = bdsD (toldB ps qs)
def highs (ps qs : List Per) : List Int := ((toldB ps qs).filter fun b => b.hi.isSome).map fun b => b.hi.getD 0
theorem highs_mem {ps qs : List Per} {b : Bd} {i : Int} (hb : b ∈ toldB ps qs) (e : b.hi = some i) : i ∈ highs ps qs := List.mem_map.mpr ⟨b, List.mem_filter.mpr ⟨hb, by rw [e]; rfl⟩, by rw [e]; rfl⟩
theorem minOf_unique {l : List Int} {m : Int} (h1 : m ∈ l) (h2 : ∀ y ∈ l, m ≤ y) : minOf l = m := by
  have h3 := minOf_mem (l := l) (fun e => by rw [e] at h1; simp at h1)
  have h4 := h2 _ h3
  have h5 := minOf_le h1
  omega
theorem highs_most (ps qs : List Per) : (mostP ps qs).1 ∈ highs ps qs ∧ minOf (highs ps qs) = (mostP ps qs).1 := by
  have h1 := minP_mem (told_highs ps qs)
  obtain ⟨n, b, e1, e2, e3⟩ := highsB_at h1
  have h2 : (mostP ps qs).1 ∈ highs ps qs := highs_mem (List.mem_of_getElem? e1) e3
  refine ⟨h2, minOf_unique h2 fun y hy => ?_⟩
  obtain ⟨b', hb', rfl⟩ := List.mem_map.mp hy
  obtain ⟨k1, k2⟩ := List.mem_filter.mp hb'
  obtain ⟨i, hi⟩ := Option.isSome_iff_exists.mp k2
  obtain ⟨n', hn', en'⟩ := List.mem_iff_getElem.mp k1
  have : (i, (n' : Int)) ∈ highsB (toldB ps qs) := List.mem_map.mpr ⟨(b', n'), List.mem_filter.mpr ⟨List.mk_mem_zipIdx_iff_getElem?.mpr (by simp [hn', en']), by simp [hi]⟩, by simp [hi]⟩
  have h3 := minP_le this
  unfold mostP
  rw [hi]
  unfold lexLe at h3
  show _ ≤ i
  omega
def R_paperL (f : List Per → List Per → D) : Rel := fun ds P => ∃ ps qs, Good ps ∧ Good qs ∧ Like ps qs ∧ (paper ps qs).isL = true ∧ ds = [.std ps, .std qs] ∧ P = fun x => x = f ps qs
theorem R_paperL.len {f : List Per → List Per → D} : ∀ ds P, R_paperL f ds P → ds.length = 2 := by rintro ds P ⟨ps, qs, _, _, _, _, rfl, rfl⟩; rfl
theorem paper_leads {ps qs : List Per} (h : (paper ps qs).isL = true) : fault ps qs = none ∧ paper ps qs = .leads (leastP ps qs).1 ∧ (leastP ps qs).1 ≤ (mostP ps qs).1 := by
  unfold paper at h ⊢
  cases e : fault ps qs with
  | some f => rw [e] at h; exact absurd h (by simp [Paper.isL])
  | none =>
    rw [e] at h
    simp only at h ⊢
    by_cases q : (mostP ps qs).1 < (leastP ps qs).1
    · rw [if_pos (by simpa using q)] at h; exact absurd h (by simp [Paper.isL])
    · rw [if_neg (by simpa using q)]; exact ⟨trivial, rfl, by omega⟩
def firstC (ps qs : List Per) : Int × Int := ((leastP ps qs).1, (mostP ps qs).1)
def leadB (ps qs : List Per) : Int × Int := if decide (vsum ps % 2 = 0) then ((lost ps qs).1, (lost ps qs).1) else ((lost ps qs).2 + (leastP ps qs).1, (lost ps qs).2 + (mostP ps qs).1)
end OC
set_option maxHeartbeats 4000000
/-! Walks: leading, the answers. -/
namespace OC
open PySem PySem.Spec PyProof.Rows L2
theorem opt_min (o : Option Int) : optI o = .int (o.getD 0) ∨ o = none := by cases o with
  | none => exact .inr rfl
  | some i => exact .inl rfl
def keepsB (l : List Bd) (n : Int) : Bool := l.all fun b => (b.lo.isNone || decide (b.lo.getD 0 ≤ n)) && (b.hi.isNone || decide (n ≤ b.hi.getD 0))
section
variable {M : Mo} (h : Hd M)
include h
theorem w_told_bounds : FnG M 7 "told_bounds" false (R2 fun ps qs => bdsD (toldB ps qs)) := by
  refine h.fnG 41 28 fs_told_bounds bn_told_bounds R2.len ?_
  rintro Z ds P - ⟨ps, qs, gp, gq, lk, rfl, rfl⟩
  have lg := gapBounds_len gp qs
  have lt := topB_len ps qs
  refine SS_asg (E.of (EP_call (w_lost_sums h) (A2 (E_var 0) (E_var 1)) ⟨_, _, gp, gq, lk, rfl, rfl⟩) rfl) (G_2 (x := .int (lost ps qs).1) (y := .int (lost ps qs).2) (G_name 2) (G_name 3)) ?_
  refine SS_set (x := bdsD (gapBounds ps qs)) 4 (EP_call (w_gap_bounds h) (A2 (E_var 0) (E_var 1)) ⟨_, _, gp, gq, lk, rfl, rfl⟩) ?_
  refine SS_if (T_cmp (E_mod (EP_meth0 h.cls (w_S_voices h) (E_var 0) ⟨_, gp, rfl, rfl⟩) E_int) E_int (eqI _ _)) (fun hp => ?_) fun hp => ?_
  · refine SS_set 5 (E_sub (E_var 2) (EP_call (w_moved_by h) (A2 (E_var 0) (E_var 1)) ⟨_, _, gp, gq, lk, rfl, rfl⟩)) ?_
    refine SS_ret (E_lst (A_cons (E_tup (A_cons E_str (A2 E_int E_non))) (A_cons (E_tup (A_cons E_str (A2 E_non (E_sub (E_var 2) (E_var 3))))) (A_cons (E_tup (A_cons E_str (A2 (E_var 5) (E_var 5)))) (A_star (.inl (E_var 4)) A_nil)))) ?_) ?_
    · simp; omega
    · show _ = bdsD (toldB ps qs)
      unfold toldB; rw [if_pos hp, List.append_nil]; unfold bdsD; rw [List.map_append]; rfl
  · refine SS_nil ?_
    refine SS_setL 6 (l := .d (bdsD (topB ps qs))) (E.l ?_) ?_
    · refine E.of (E_if (T_cmp (E_var 4) (E_lst A_nil) (neD (Sh_gb ps qs) (.lst (n := 0) fun _ k => by simp at k) (eqv_nil _))) (u := .lst []) (v := bdsD [⟨.s "top", none, some (topH ps).1⟩]) (fun _ => E_lst A_nil) (fun _ => E_lst (A1 (E_tup (A_cons E_str (A2 E_non (E_ixT (d := .int (topH ps).1) (EP_call (w_greatest_height h) (A1 (E_var 0)) ⟨_, gp, rfl, rfl⟩) E_int))))))) ?_
      unfold topB
      cases gapBounds ps qs <;> rfl
    · refine SS_ret (E_lst (A_cons (E_tup (A_cons E_str (A2 E_int E_non))) (A_cons (E_tup (A_cons E_str (A2 (E_sub (E_var 2) (E_var 3)) E_non))) (A_star (.inl (E_var 4)) (A_star (.inl (E_var 6)) A_nil)))) ?_) ?_
      · simp; omega
      · show _ = bdsD (toldB ps qs)
        unfold toldB; rw [if_neg (by rw [hp]; decide), List.append_nil]; unfold bdsD; rw [List.map_append, List.map_append]; rfl
theorem w_all_bounds : FnG M 8 "all_bounds" false R_all := by
  refine h.fnG 42 29 fs_all_bounds bn_all_bounds (by rintro ds P ⟨ps, qs, _, _, _, _, rfl, rfl⟩; rfl) ?_
  rintro Z ds P - ⟨ps, qs, gp, gq, lk, nf, rfl, rfl⟩
  refine SS_exprP (EP_call (w_need_like h) (A2 (E_var 0) (E_var 1)) ⟨_, _, gp, gq, lk, rfl, rfl⟩) ?_
  refine SS_set (x := .non) 2 (E.of (EP_call (w_first_fault h) (A2 (E_var 0) (E_var 1)) ⟨_, _, gp, gq, lk, rfl, rfl⟩) (by show faultD (fault ps qs) = _; rw [nf]; rfl)) ?_
  refine SS_ifF (T_notN (E_var 2)) ?_
  exact SS_ret (EP_call (w_told_bounds h) (A2 (E_var 0) (E_var 1)) ⟨_, _, gp, gq, lk, rfl, rfl⟩) rfl
omit h in
theorem labAt_at {l : List Bd} {n : Nat} {b : Bd} (e : l[n]? = some b) : labAt l n = b.lab := by unfold labAt; rw [Int.toNat_natCast, e]; rfl
theorem w_lead_paper : FnG M 8 "lead_paper" false (R2 fun ps qs => paperD (paper ps qs)) := by
  refine h.fnG 43 30 fs_lead_paper bn_lead_paper R2.len ?_
  rintro Z ds P - ⟨ps, qs, gp, gq, lk, rfl, rfl⟩
  have lt := toldB_len gp qs
  refine SS_exprP (EP_call (w_need_like h) (A2 (E_var 0) (E_var 1)) ⟨_, _, gp, gq, lk, rfl, rfl⟩) ?_
  refine SS_set (x := faultD (fault ps qs)) 2 (EP_call (w_first_fault h) (A2 (E_var 0) (E_var 1)) ⟨_, _, gp, gq, lk, rfl, rfl⟩) ?_
  cases e : fault ps qs with
  | some f =>
    refine SS_ifT (T_notN (E_var 2)) ?_ (by cases f <;> rfl)
    refine SS_ret (E_var 2) ?_
    show _ = paperD (paper ps qs)
    unfold paper; rw [e]; rfl
  | none =>
    refine SS_ifF (T_notN (E_var 2)) ?_
    refine SS_set (x := bdsD (toldB ps qs)) 3 (EP_call (w_told_bounds h) (A2 (E_var 0) (E_var 1)) ⟨_, _, gp, gq, lk, rfl, rfl⟩) ?_
    have hl := lowsB_at (maxP_mem (told_lows ps qs))
    have hh := highsB_at (minP_mem (told_highs ps qs))
    refine SS_set (x := ciD (leastP ps qs)) 4 (E_callB (A1 (E_lcc (l := (toldB ps qs).zipIdx) (gf := fun q => D.tup [.int (q.2 : Int), bdD q.1]) [("number", 6), ("label", 7), ("low", 8), ("high", 9)] (fun q => q.1.lo.isSome) ciD (fun q => (q.1.lo.getD 0, -(q.2 : Int))) (IT.of (IT_enum (E_var 3) (h.free 107)) (enumD_map _ _)) (fun q hq => ⟨_, _, G_2 (G_name 6) (G_3 (G_name 7) (G_name 8) (G_name 9)), by decide, .inr ⟨_, rfl, T.of (T_notN (E_var 8)) (by rw [optI_isN]; cases q.1.lo <;> rfl)⟩, fun hs => ?_⟩) (by rw [List.length_zipIdx]; omega))) (clMaxP (maxP_mem (told_lows ps qs)) fun y hy => le_maxP hy) (h.free 112)) ?_
    · rcases opt_min q.1.lo with k | k
      · rw [k]; exact E_tup (A2 (E_var 8) (E_neg (E_var 6)))
      · rw [k] at hs; exact absurd hs (by decide)
    refine SS_set (x := ciD (mostP ps qs)) 5 (E_callB (A1 (E_lcc (l := (toldB ps qs).zipIdx) (gf := fun q => D.tup [.int (q.2 : Int), bdD q.1]) [("number", 6), ("label", 7), ("low", 8), ("high", 9)] (fun q => q.1.hi.isSome) ciD (fun q => (q.1.hi.getD 0, (q.2 : Int))) (IT.of (IT_enum (E_var 3) (h.free 107)) (enumD_map _ _)) (fun q hq => ⟨_, _, G_2 (G_name 6) (G_3 (G_name 7) (G_name 8) (G_name 9)), by decide, .inr ⟨_, rfl, T.of (T_notN (E_var 9)) (by rw [optI_isN]; cases q.1.hi <;> rfl)⟩, fun hs => ?_⟩) (by rw [List.length_zipIdx]; omega))) (clMinP (minP_mem (told_highs ps qs)) fun y hy => minP_le hy) (h.free 113)) ?_
    · rcases opt_min q.1.hi with k | k
      · rw [k]; exact E_tup (A2 (E_var 9) (E_var 6))
      · rw [k] at hs; exact absurd hs (by decide)
    refine SS_if (T_cmp (E_ixT (d := .int (leastP ps qs).1) (E_var 4) E_int) (E_ixT (d := .int (mostP ps qs).1) (E_var 5) E_int) (gtI _ _)) (fun hp => ?_) fun hp => ?_
    · obtain ⟨n, b, n1, n2, n3⟩ := hl
      obtain ⟨m, c, m1, m2, m3⟩ := hh
      have n2 : (leastP ps qs).2 = -(n : Int) := n2
      have m2 : (mostP ps qs).2 = (m : Int) := m2
      have kn : -(leastP ps qs).2 = (n : Int) := by omega
      refine SS_ret (E_tup (A_cons E_str (A2 (E_ixT (d := labD b.lab) (E_ixL (i := (n : Int)) (d := bdD b) (E_var 3) (E.of (E_neg (E_ixT (d := .int (leastP ps qs).2) (E_var 4) E_int)) (congrArg D.int kn)) ?_) E_int) (E_ixT (d := labD c.lab) (E_ixL (i := (m : Int)) (d := bdD c) (E_var 3) (E.of (E_ixT (d := .int (mostP ps qs).2) (E_var 5) E_int) (congrArg D.int m2)) ?_) E_int)))) ?_
      · exact atI_nat (by rw [List.getElem?_map, n1]; rfl)
      · exact atI_nat (by rw [List.getElem?_map, m1]; rfl)
      · show _ = paperD (paper ps qs)
        unfold paper; rw [e]; simp only
        rw [if_pos hp, kn, m2, labAt_at n1, labAt_at m1]; rfl
    · refine SS_nil (SS_ret (E_tup (A2 E_str (E_ixT (d := .int (leastP ps qs).1) (E_var 4) E_int))) ?_)
      show _ = paperD (paper ps qs)
      unfold paper; rw [e]; simp only
      rw [if_neg (by rw [hp]; decide)]; rfl
def kindP : Paper → Str
  | .fault (.order _ _) => "order"
  | .fault .sum => "sum"
  | .clash _ _ => "clash"
  | .leads _ => "leads"
omit h in
theorem kindP_at (p : Paper) : ∃ ds, paperD p = .tup ds ∧ atI ds 0 = some (.str (kindP p)) := by
  rcases p with f | _ | _
  · cases f <;> exact ⟨_, rfl, rfl⟩
  · exact ⟨_, rfl, rfl⟩
  · exact ⟨_, rfl, rfl⟩
omit h in
theorem kindP_leads (p : Paper) : decide (kindP p = ("leads" : Str)) = p.isL := by
  rcases p with f | _ | _
  · cases f with
    | order a b => show decide (("order" : Str) = "leads") = false; decide +kernel
    | sum => show decide (("sum" : Str) = "leads") = false; decide +kernel
  · show decide (("clash" : Str) = "leads") = false; decide +kernel
  · show decide (("leads" : Str) = "leads") = true; decide +kernel
theorem w_leads : FnG M 9 "leads" false (R2 fun ps qs => .bl (paper ps qs).isL) := by
  refine h.fnG 44 31 fs_leads bn_leads R2.len ?_
  rintro Z ds P - ⟨ps, qs, gp, gq, lk, rfl, rfl⟩
  obtain ⟨ds, e1, e2⟩ := kindP_at (paper ps qs)
  exact SS_ret (E.of (E_cmp (E_ixT (d := .str (kindP (paper ps qs))) (E.of (EP_call (w_lead_paper h) (A2 (E_var 0) (E_var 1)) ⟨_, _, gp, gq, lk, rfl, rfl⟩) e1) E_int e2) E_str (eqS _ _)) (congrArg D.bl (kindP_leads _))) rfl
theorem w_first_calls : FnG M 9 "first_calls" false (R_paperL fun ps qs => ciD (firstC ps qs)) := by
  refine h.fnG 45 32 fs_first_calls bn_first_calls R_paperL.len ?_
  rintro Z ds P - ⟨ps, qs, gp, gq, lk, il, rfl, rfl⟩
  have lt := toldB_len gp qs
  obtain ⟨nf, e, le⟩ := paper_leads il
  obtain ⟨k1, k2⟩ := highs_most ps qs
  refine SS_set (x := paperD (.leads (leastP ps qs).1)) 2 (E.of (EP_call (w_lead_paper h) (A2 (E_var 0) (E_var 1)) ⟨_, _, gp, gq, lk, rfl, rfl⟩) (congrArg paperD e)) ?_
  refine SS_ifF (T_cmp (E_ixT (d := .str "leads") (E_var 2) E_int) E_str (neS _ _)) ?_ (by decide)
  refine SS_ret (E_tup (A2 (E_ixT (d := .int (leastP ps qs).1) (E_var 2) E_int) (E_minL h k1 (fun y hy => by rw [← k2]; exact minOf_le hy) (E_lcc (l := toldB ps qs) (gf := bdD) [("label", 3), ("low", 4), ("high", 5)] (fun b => b.hi.isSome) D.int (fun b => b.hi.getD 0) (IT_list (EP_call (w_told_bounds h) (A2 (E_var 0) (E_var 1)) ⟨_, _, gp, gq, lk, rfl, rfl⟩)) (fun q hq => ⟨_, _, G_3 (G_name 3) (G_name 4) (G_name 5), by decide, .inr ⟨_, rfl, T.of (T_notN (E_var 5)) (by rw [optI_isN]; cases q.hi <;> rfl)⟩, fun hs => ?_⟩) (by omega))))) rfl
  rcases opt_min q.hi with k | k
  · rw [k]; exact E_var 5
  · rw [k] at hs; exact absurd hs (by decide)
theorem w_lead_bounds : FnG M 10 "lead_bounds" false (R_paperL fun ps qs => ciD (leadB ps qs)) := by
  refine h.fnG 46 33 fs_lead_bounds bn_lead_bounds R_paperL.len ?_
  rintro Z ds P - ⟨ps, qs, gp, gq, lk, il, rfl, rfl⟩
  refine SS_asg (E.of (EP_call (w_first_calls h) (A2 (E_var 0) (E_var 1)) ⟨_, _, gp, gq, lk, il, rfl, rfl⟩) rfl) (G_2 (x := .int (leastP ps qs).1) (y := .int (mostP ps qs).1) (G_name 2) (G_name 3)) ?_
  refine SS_asg (E.of (EP_call (w_lost_sums h) (A2 (E_var 0) (E_var 1)) ⟨_, _, gp, gq, lk, rfl, rfl⟩) rfl) (G_2 (x := .int (lost ps qs).1) (y := .int (lost ps qs).2) (G_name 4) (G_name 5)) ?_
  refine SS_ret (E_if (T_cmp (E_mod (EP_meth0 h.cls (w_S_voices h) (E_var 0) ⟨_, gp, rfl, rfl⟩) E_int) E_int (eqI _ _)) (fun _ => E_tup (A2 (E_var 4) (E_var 4))) fun _ => E_tup (A2 (E_add (E_var 5) (E_var 2)) (E_add (E_var 5) (E_var 3)))) ?_
  show _ = ciD (leadB ps qs)
  unfold leadB
  cases decide (vsum ps % 2 = 0) <;> rfl
def R_keeps : Rel := fun ds P => ∃ (l : List Bd) (n : Int), l.length ≤ 20 ∧ ds = [bdsD l, .int n] ∧ P = fun x => x = .bl (keepsB l n)
theorem w_keeps_all : FnG M 1 "keeps_all" false R_keeps := by
  refine h.fnG 50 37 fs_keeps_all bn_keeps_all (by rintro ds P ⟨l, n, _, rfl, rfl⟩; rfl) ?_
  rintro Z ds P - ⟨l, n, hl, rfl, rfl⟩
  refine SS_ret (E.of (E_all h (E_lcm (l := l) (gf := bdD) [("label", 2), ("low", 3), ("high", 4)] D.bl (fun b => (b.lo.isNone || decide (b.lo.getD 0 ≤ n)) && (b.hi.isNone || decide (n ≤ b.hi.getD 0))) (IT_list (E_var 0)) (fun q hq => ⟨_, _, G_3 (G_name 2) (G_name 3) (G_name 4), by decide, ?_⟩) (by omega))) ?_) rfl
  · refine E_and (E_or (c' := decide (q.lo.getD 0 ≤ n)) (E.of (E_isN (E_var 3)) (congrArg D.bl (optI_isN _))) fun hs => E_one ?_) fun _ => E_one (E_or (c' := decide (n ≤ q.hi.getD 0)) (E.of (E_isN (E_var 4)) (congrArg D.bl (optI_isN _))) fun hs => E_one ?_)
    · rcases opt_min q.lo with k | k
      · rw [k]; exact E_cmp (E_var 1) (E_var 3) (geI _ _)
      · rw [k] at hs; exact absurd hs (by decide)
    · rcases opt_min q.hi with k | k
      · rw [k]; exact E_cmp (E_var 1) (E_var 4) (leI _ _)
      · rw [k] at hs; exact absurd hs (by decide)
  · unfold keepsB; rw [List.all_map]; rfl
def R_judgeL : Rel := fun ds P => ∃ ps qs n, Good ps ∧ Good qs ∧ Like ps qs ∧ fault ps qs = none ∧ ds = [.std ps, .std qs, .tup [.str "leads", .int n]] ∧ P = fun x => x = .bl (keepsB (toldB ps qs) n)
theorem w_judge_lead : FnG M 8 "judge_lead" false R_judgeL := by
  refine h.fnG 51 38 fs_judge_lead bn_judge_lead (by rintro ds P ⟨ps, qs, n, _, _, _, _, rfl, rfl⟩; rfl) ?_
  rintro Z ds P - ⟨ps, qs, n, gp, gq, lk, nf, rfl, rfl⟩
  have lt := toldB_len gp qs
  refine SS_exprP (EP_call (w_need_like h) (A2 (E_var 0) (E_var 1)) ⟨_, _, gp, gq, lk, rfl, rfl⟩) ?_
  have hv : Sh 1 (.tup [.str "leads", .int n]) := .tup fun d hd => by
    simp only [List.mem_cons, List.not_mem_nil, or_false] at hd
    rcases hd with rfl | rfl
    · exact .str (by decide +kernel)
    · exact .int _
  refine SS_ifF (W_or (T_not (T_val (E_isi h "tuple" true 120 (E_var 2)))) fun _ => W_or (c' := false) (T_cmp (E_var 2) (E_tup A_nil) (eqD (q := false) hv (.tup (n := 0) fun _ k => by simp at k) rfl)) fun _ => W_or1 (T_not (T_val (E_isi h "str" true 117 (E_ixT (d := .str "leads") (E_var 2) E_int))))).t ?_
  refine SS_ifF (T_cmp (E_ixT (d := .str "leads") (E_var 2) E_int) E_str (eqS _ _)) ?_ (by decide +kernel)
  refine SS_set (x := .non) 3 (E.of (EP_call (w_first_fault h) (A2 (E_var 0) (E_var 1)) ⟨_, _, gp, gq, lk, rfl, rfl⟩) (by show faultD (fault ps qs) = _; rw [nf]; rfl)) ?_
  refine SS_ifF (T_notN (E_var 3)) ?_
  refine SS_ifT (T_cmp (E_ixT (d := .str "leads") (E_var 2) E_int) E_str (eqS _ _)) ?_ (by decide +kernel)
  refine SS_ret (E.of (E_and (c := true) (E.of (E_cmp (E_lenT h (E_var 2)) E_int (eqI _ _)) rfl) fun _ => E_and (c := true) (EP_call (w_is_integer h) (A1 (E_ixT (d := .int n) (E_var 2) E_int)) ⟨_, rfl, rfl⟩) fun _ => E_one (EP_call (w_keeps_all h) (A2 (EP_call (w_told_bounds h) (A2 (E_var 0) (E_var 1)) ⟨_, _, gp, gq, lk, rfl, rfl⟩) (E_ixT (d := .int n) (E_var 2) E_int)) ⟨_, _, by omega, rfl, rfl⟩)) ?_) rfl
  rfl
end
end OC
set_option maxHeartbeats 4000000
/-! Walks: scripts walked; fallen pieces. -/
namespace OC
open PySem PySem.Spec PyProof.Rows L2
theorem EX.imp {M : Mo} {g : G} {Z : Sc} {e : Expr} {r : Rho} {P P' : D → Rho → Prop} (h : EX M g Z e r P) (k : ∀ x r', P x r' → P' x r') : EX M g Z e r P' := fun X ok B0 H0 B H σ R Q q => h X ok B0 H0 B H σ R Q fun x r' v B' H' p => q x r' v B' H' (k x r' p)
abbrev Row := Str × Int
abbrev rowD (q : Row) : D := .tup [.str q.1, .int q.2]
abbrev scD (l : List Row) : D := .lst (l.map rowD)
def goRow (ps : List Per) (q : Row) : List Per := drawn ps (plc ps q.1) q.2
def after (ps : List Per) (sc : List Row) : List Per := sc.foldl goRow ps
def rowOk (ps : List Per) (q : Row) : Prop := q.1 ∈ ps.map (·.nm) ∧ 1 ≤ q.2 ∧ stepsOk ps q.1 q.2
def ScOk : List Per → List Row → Prop
  | _, [] => True
  | ps, q :: l => rowOk ps q ∧ ScOk (goRow ps q) l
theorem ScOk_app : ∀ (l m : List Row) (ps : List Per), ScOk ps (l ++ m) ↔ ScOk ps l ∧ ScOk (after ps l) m
  | [], m, ps => by simp [ScOk, after]
  | q :: l, m, ps => by
    show (rowOk ps q ∧ ScOk (goRow ps q) (l ++ m)) ↔ (rowOk ps q ∧ ScOk (goRow ps q) l) ∧ ScOk (after (goRow ps q) l) m
    rw [ScOk_app l m, and_assoc]
theorem after_good : ∀ (l : List Row) {ps : List Per}, Good ps → Good (after ps l)
  | [], ps, g => g
  | q :: l, ps, g => after_good l (drawn_good g _ _)
theorem after_names : ∀ (l : List Row) (ps : List Per), (after ps l).map (·.nm) = ps.map (·.nm)
  | [], ps => rfl
  | q :: l, ps => (after_names l (goRow ps q)).trans (drawn_names _ _ _)
theorem drawn_like (ps : List Per) (y t : Int) : Like ps (drawn ps y t) := mov_like _ _
theorem Like.tr {ps qs rs : List Per} (h : Like ps qs) (k : Like qs rs) : Like ps rs := Eq.trans h k
theorem Like.sy {ps qs : List Per} (h : Like ps qs) : Like qs ps := Eq.symm h
theorem after_like : ∀ (l : List Row) (ps : List Per), Like ps (after ps l)
  | [], ps => rfl
  | q :: l, ps => (drawn_like ps _ _).tr (after_like l (goRow ps q))
def alStep (s : List (List Per) × List Per) (q : Row × Nat) : List (List Per) × List Per := (s.1 ++ [s.2], goRow s.2 q.1)
def alS (ps : List Per) (sc : List Row) : List (List Per) × List Per := sc.zipIdx.foldl alStep ([], ps)
theorem al_fold : ∀ (l : List (Row × Nat)) (s : List (List Per) × List Per), (l.foldl alStep s).2 = after s.2 (l.map (·.1)) ∧ (l.foldl alStep s).1.length = s.1.length + l.length
  | [], s => ⟨rfl, rfl⟩
  | q :: l, s => by
    obtain ⟨h1, h2⟩ := al_fold l (alStep s q)
    rw [List.foldl_cons, h1, h2]
    refine ⟨rfl, ?_⟩
    show (s.1 ++ [s.2]).length + l.length = _
    simp; omega
theorem zipIdx_fst {α : Type} (l : List α) : (l.zipIdx).map (·.1) = l := by simp
theorem alS_after (ps : List Per) (sc : List Row) : (alS ps sc).2 = after ps sc := by
  unfold alS; rw [(al_fold _ _).1, zipIdx_fst]
def R_isrow : Rel := fun ds P => ∃ ps q, Good ps ∧ q.1 ∈ ps.map (·.nm) ∧ 1 ≤ q.2 ∧ ds = [.std ps, rowD q] ∧ P = fun x => x = .bl true
def R_sc (f : List Per → List Row → D) : Rel := fun ds P => ∃ ps sc, Good ps ∧ ScOk ps sc ∧ sc.length ≤ 500 ∧ ds = [.std ps, scD sc] ∧ P = fun x => x = f ps sc
theorem R_sc.len {f : List Per → List Row → D} : ∀ ds P, R_sc f ds P → ds.length = 2 := by rintro ds P ⟨ps, qs, _, _, _, rfl, rfl⟩; rfl
def callsOf (sc : List Row) : Int := (sc.map (·.2)).sum
def R_calls : Rel := fun ds P => ∃ sc : List Row, sc.length ≤ 500 ∧ ds = [scD sc] ∧ P = fun x => x = .int (callsOf sc)
def R_other : Rel := fun ds P => ∃ b, ds = [.str (kindS b)] ∧ P = fun x => x = .str (kindS (!b))
structure Pc where
  odd : Bool
  width : Int
  nm : Str
abbrev pcD (p : Pc) : D := .tup [.str (kindS p.odd), .int p.width, .str p.nm]
abbrev wtD (q : Bool × Int) : D := .tup [.str (kindS q.1), .int q.2]
def fallPc (k : Bool) (nm : Str) : Int → List (Bool × Int) → List Row × List (Bool × Int)
  | left, [] => ([], if 0 < left then [(k, left)] else [])
  | left, (k', w) :: st =>
    if 0 < left ∧ k' ≠ k then
      if left < w then ([(nm, left)], (k', w - left) :: st)
      else ((nm, w) :: (fallPc k nm (left - w) st).1, (fallPc k nm (left - w) st).2)
    else ([], if 0 < left then (k, left) :: (k', w) :: st else (k', w) :: st)
def fallStep (s : List Row × List (Bool × Int)) (p : Pc) : List Row × List (Bool × Int) := (s.1 ++ (fallPc p.odd p.nm p.width s.2).1, (fallPc p.odd p.nm p.width s.2).2)
def fallen (l : List Pc) : List Row := (l.foldl fallStep ([], [])).1
theorem fallPc_len (k : Bool) (nm : Str) : ∀ (st : List (Bool × Int)) (left : Int), (fallPc k nm left st).1.length + (fallPc k nm left st).2.length ≤ st.length + (if 0 < left then 1 else 0)
  | [], left => by unfold fallPc; split <;> simp
  | (k', w) :: st, left => by
    unfold fallPc
    split
    · next h =>
      rw [if_pos h.1]
      split
      · simp; omega
      · have := fallPc_len k nm st (left - w)
        simp only [List.length_cons]
        split at this <;> omega
    · split <;> simp
theorem fall_len : ∀ (l : List Pc) (s : List Row × List (Bool × Int)), (l.foldl fallStep s).1.length + (l.foldl fallStep s).2.length ≤ s.1.length + s.2.length + l.length
  | [], s => Nat.le_refl _
  | p :: l, s => by
    have h1 := fall_len l (fallStep s p)
    have h2 := fallPc_len p.odd p.nm s.2 p.width
    rw [List.foldl_cons, List.length_cons]
    have h3 : (fallStep s p).1.length = s.1.length + (fallPc p.odd p.nm p.width s.2).1.length := by unfold fallStep; simp
    have h4 : (fallStep s p).2.length = (fallPc p.odd p.nm p.width s.2).2.length := rfl
    split at h2 <;> omega
theorem fallen_len (l : List Pc) : (fallen l).length ≤ l.length := by
  have := fall_len l ([], [])
  unfold fallen; simp at this; omega
def R_fallen : Rel := fun ds P => ∃ l : List Pc, l.length ≤ 100 ∧ ds = [.lst (l.map pcD)] ∧ P = fun x => x = scD (fallen l)
theorem kindS_ne (a b : Bool) : decide (kindS a ≠ kindS b) = decide (a ≠ b) := by cases a <;> cases b <;> decide +kernel
theorem kindS_ok (b : Bool) : PyData.strOk (kindS b) = true := by cases b <;> decide +kernel
theorem Sh_wt (l : List (Bool × Int)) : Sh 2 (.lst (l.map wtD)) := .lst fun d hd => by
  obtain ⟨q, _, rfl⟩ := List.mem_map.mp hd
  refine .tup fun d hd => ?_
  simp only [List.mem_cons, List.not_mem_nil, or_false] at hd
  rcases hd with rfl | rfl
  · exact .str (kindS_ok _)
  · exact .int _
end OC
set_option maxHeartbeats 4000000
/-! Walks: scripts walked; fallen pieces. -/
namespace OC
open PySem PySem.Spec PyProof.Rows L2
section
variable {M : Mo} (h : Hd M)
include h
theorem w_is_row_scripts : FnG M 3 "is_row_scripts" false R_isrow := by
  refine h.fnG 52 39 fs_is_row_scripts bn_is_row_scripts (by rintro ds P ⟨ps, q, _, _, _, rfl, rfl⟩; rfl) ?_
  rintro Z ds P - ⟨ps, q, gd, hn, ht, rfl, rfl⟩
  refine SS_ifF (T_or (c' := false) (T_not (T_val (E_isi h "tuple" true 120 (E_var 1)))) fun _ => T_cmp (E_lenT h (E_var 1)) E_int (neI _ _)) ?_
  refine SS_ret (E.of (E_and (c := true) (EP_meth h.cls (w_S_has_name h) (E_var 0) (A1 (E_ixT (d := .str q.1) (E_var 1) E_int)) ⟨_, _, gd, hn, rfl, rfl⟩) fun _ => E_and (c := true) (EP_call (w_is_integer h) (A1 (E_ixT (d := .int q.2) (E_var 1) E_int)) ⟨_, rfl, rfl⟩) fun _ => E_one (E_cmp (E_ixT (d := .int q.2) (E_var 1) E_int) E_int (geI _ _))) ?_) rfl
  rw [decide_eq_true ht]; rfl
theorem w_standings_along : FnG M 9 "standings_along" false (R_sc fun ps sc => .lst (((alS ps sc).1 ++ [(alS ps sc).2]).map D.std)) := by
  refine h.fnG 53 40 fs_standings_along bn_standings_along R_sc.len ?_
  rintro Z ds P - ⟨ps, sc, gd, ok, hl, rfl, rfl⟩
  refine SS_setL 2 (EL_lst (A1 (E_var 0))) ?_
  refine SS_fold (l := sc.zipIdx) (gf := fun q => D.tup [.int (q.2 : Int), rowD q.1]) (IT.of (IT_enum (E_var 1) (h.free 107)) (enumD_map _ _)) (fun s : List (List Per) × List Per => [some (.d (.std ps)), some (.d (scD sc)), some (.own ((s.1 ++ [s.2]).map D.std)), none, none, none, none]) alStep ([], ps) Le.rfl' ?_ ?_
  · rintro s pre x post e1 e2
    obtain ⟨k1, k2⟩ := al_fold pre ([], ps)
    rw [← e2] at k1 k2
    have e3 : sc = pre.map (·.1) ++ x.1 :: post.map (·.1) := by
      have : sc = (sc.zipIdx).map (·.1) := (zipIdx_fst sc).symm
      rw [this, e1, List.map_append, List.map_cons]
    have ok2 := ok
    rw [e3, ScOk_app] at ok2
    have gs : Good s.2 := by rw [k1]; exact after_good _ gd
    obtain ⟨hn, ht, st⟩ : rowOk s.2 x.1 := by rw [k1]; exact ok2.2.1
    have hn0 : x.1.1 ∈ ps.map (·.nm) := by rw [k1, after_names] at hn; exact hn
    have ll : s.1.length < 500 := by
      have := congrArg List.length e3
      simp at this k2; omega
    refine ⟨_, _, G_2 (G_name 3) (G_name 4), ?_⟩
    refine SS_ifF (T_not (T_val (EP_call (w_is_row_scripts h) (A2 (E_var 0) (E_var 4)) ⟨_, _, gd, hn0, ht, rfl, rfl⟩))) ?_
    refine SS_asg (x := .tup [.int x.1.2, .std (goRow s.2 x.1)]) (EP_call (w_rounds_of h) (A_cons (E_ownIx 2 (d := .std s.2) (E_neg E_int) ?_) (A2 (E_ixT (d := .str x.1.1) (E_var 4) E_int) (E_ixT (d := .int x.1.2) (E_var 4) E_int))) ⟨_, _, _, gs, hn, by omega, st, rfl, rfl⟩) (G_2 (G_name 5) (G_name 6)) ?_
    · exact atI_last (by rw [List.map_append, List.map_singleton]; simp)
    refine SS_ifF (T_cmp (E_var 5) (E_ixT (d := .int x.1.2) (E_var 4) E_int) (neI _ _)) ?_ (by simp)
    refine SS_append (ds := (s.1 ++ [s.2]).map D.std) 2 (E_var 6) (by simp; omega) ?_
    refine SS_nil ?_
    show Le [_, _, some (.own (((s.1 ++ [s.2]) ++ [goRow s.2 x.1]).map D.std)), none, none, none, none] _
    rw [List.map_append (l₁ := s.1 ++ [s.2])]
    exact Le.keep (Le.keep (Le.keep (Le.drop (Le.drop (Le.drop (Le.drop Le.nil))))))
  · refine SS_give 2 ?_
    exact SS_ret (E_var 2) rfl
theorem w_walked : FnG M 10 "walked" false (R_sc fun ps sc => .std (after ps sc)) := by
  refine h.fnG 54 41 fs_walked bn_walked R_sc.len ?_
  rintro Z ds P - ⟨ps, sc, gd, ok, hl, rfl, rfl⟩
  refine SS_ret (E_ixL (d := .std (after ps sc)) (EP_call (w_standings_along h) (A2 (E_var 0) (E_var 1)) ⟨_, _, gd, ok, hl, rfl, rfl⟩) (E_neg E_int) ?_) rfl
  rw [← alS_after]
  exact atI_last (by rw [List.map_append, List.map_singleton]; simp)
theorem w_first_bad : FnG M 10 "first_bad" false (R_sc fun ps sc => .non) := by
  refine h.fnG 55 42 fs_first_bad bn_first_bad R_sc.len ?_
  rintro Z ds P - ⟨ps, sc, gd, ok, hl, rfl, rfl⟩
  refine SS_ifF (T_not (T_val (E_callB (A2 (E_var 1) (E_tup (A2 (E_bty (n := "list") (h.free 111)) (E_bty (n := "tuple") (h.free 120))))) (clIsi2 (n := "list") (q := true) (q' := false) rfl rfl rfl) (h.free 109)))) ?_
  refine SS_try ?_
  refine SS_exprP (EP_call (w_standings_along h) (A2 (E_var 0) (E_var 1)) ⟨_, _, gd, ok, hl, rfl, rfl⟩) ?_
  exact SS_nil (SS_ret E_non rfl)
theorem w_calls_of : FnG M 1 "calls_of" false R_calls := by
  refine h.fnG 56 43 fs_calls_of bn_calls_of (by rintro ds P ⟨sc, _, rfl, rfl⟩; rfl) ?_
  rintro Z ds P - ⟨sc, hl, rfl, rfl⟩
  exact SS_ret (E_sum h (E_lcm (l := sc) (gf := rowD) [("name", 1), ("times", 2)] D.int (fun q => q.2) (IT_list (E_var 0)) (fun q hq => ⟨_, _, G_2 (G_name 1) (G_name 2), by decide, E_var 2⟩) (by omega))) rfl
theorem w_kind_of_other : FnG M 1 "kind_of_other" false R_other := by
  refine h.fnG 58 45 fs_kind_of_other bn_kind_of_other (by rintro ds P ⟨b, rfl, rfl⟩; rfl) ?_
  rintro Z ds P - ⟨b, rfl, rfl⟩
  refine SS_ret (E.of (E_if (T.of (T_cmp (E_var 0) E_str (eqS _ _)) (kind_odd b)) (fun _ => E_str) fun _ => E_str) ?_) rfl
  cases b <;> rfl
theorem w_fallen_leadscripts : FnG M 2 "fallen_leadscripts" false R_fallen := by
  refine h.fnG 57 44 fs_fallen_leadscripts bn_fallen_leadscripts (by rintro ds P ⟨l, _, rfl, rfl⟩; rfl) ?_
  rintro Z ds P - ⟨l, hl, rfl, rfl⟩
  refine SS_par (i := 1) (j := 2) (AL_cons (EL_lst A_nil) (AL_cons (EL_lst A_nil) AL_nil)) ?_
  refine SS_fold (l := l) (gf := pcD) (IT_list (E_var 0)) (fun s : List Row × List (Bool × Int) => [some (.d (.lst (l.map pcD))), some (.own (s.1.map rowD)), some (.own (s.2.reverse.map wtD)), none, none, none, none, none, none]) fallStep ([], []) Le.rfl' ?_ ?_
  · rintro s pre x post e1 e2
    have hs : s.1.length + s.2.length ≤ 99 := by
      have h1 := fall_len pre ([], [])
      rw [← e2] at h1
      have := congrArg List.length e1
      simp at this h1; omega
    refine ⟨_, _, G_3 (G_name 3) (G_name 4) (G_name 5), ?_⟩
    refine SS_set 6 (E_var 4) ?_
    refine SS_while (fun m r' => ∃ (rows : List Row) (left : Int) (stk : List (Bool × Int)), m = stk.length + (if 0 < left then 1 else 0) ∧ rows.length + m ≤ 100 ∧ s.1 ++ (fallPc x.odd x.nm x.width s.2).1 = rows ++ (fallPc x.odd x.nm left stk).1 ∧ (fallPc x.odd x.nm x.width s.2).2 = (fallPc x.odd x.nm left stk).2 ∧
        r' = [some (.d (.lst (l.map pcD))), some (.own (rows.map rowD)), some (.own (stk.reverse.map wtD)), some (.d (.str (kindS x.odd))), some (.d (.int x.width)), some (.d (.str x.nm)), some (.d (.int left)), none, none]) (s.2.length + (if 0 < x.width then 1 else 0)) Le.rfl' ⟨s.1, x.width, s.2, rfl, by split <;> omega, rfl, rfl, rfl⟩ ?_
    rintro m r' ⟨rows, left, stk, em, hm, ea, eb, rfl⟩
    cases stk with
    | nil =>
      refine ⟨_, (W_and (T_cmp (E_var 6) E_int (gtI _ _)) fun _ => W_and (c := false) (c' := false) (T.of (TP_view 2 (T_cmp (E_var 2) (E_lst A_nil) (neD (Sh_wt _) (.lst (n := 0) fun _ k => by simp at k) (eqv_nil _)))) rfl) fun z => nomatch z).t, fun hp => by simp at hp, fun _ => ?_⟩
      have e5 : fallStep s x = (rows, if 0 < left then [(x.odd, left)] else []) := by
        unfold fallStep; rw [ea, eb]; unfold fallPc; simp
      refine SS_if (T_cmp (E_var 6) E_int (gtI _ _)) (fun hq => ?_) fun hq => ?_
      · refine SS_append (ds := []) 2 (E_tup (A2 (E_var 3) (E_var 6))) (by simp) ?_
        refine SS_nil (SS_nil ?_)
        rw [e5, if_pos (of_decide_eq_true hq)]
        exact Le.keep (Le.keep (Le.keep (Le.drop (Le.drop (Le.drop (Le.drop (Le.drop (Le.drop Le.nil))))))))
      · refine SS_nil (SS_nil ?_)
        rw [e5, if_neg (of_decide_eq_false hq)]
        exact Le.keep (Le.keep (Le.keep (Le.drop (Le.drop (Le.drop (Le.drop (Le.drop (Le.drop Le.nil))))))))
    | cons t st =>
      obtain ⟨k', w⟩ := t
      have er : ((k', w) :: st).reverse.map wtD = st.reverse.map wtD ++ [wtD (k', w)] := by rw [List.reverse_cons, List.map_append]; rfl
      rw [er]
      have el : atI (st.reverse.map wtD ++ [wtD (k', w)]) (-1) = some (wtD (k', w)) := atI_last (by simp)
      have hne : (st.reverse.map wtD ++ [wtD (k', w)]).isEmpty = false := by simp
      have hsh : Sh 2 (.lst (st.reverse.map wtD ++ [wtD (k', w)])) := by rw [← er]; exact Sh_wt _
      refine ⟨_, (W_and (T_cmp (E_var 6) E_int (gtI _ _)) fun _ => W_and (c := true) (T.of (TP_view 2 (T_cmp (E_var 2) (E_lst A_nil) (neD hsh (.lst (n := 0) fun _ k => by simp at k) (eqv_nil _)))) (by rw [hne]; rfl)) fun _ => W_and1 (T.of (T_cmp (E_ixT (d := .str (kindS k')) (E_ownIx 2 (E_neg E_int) el) E_int) (E_var 3) (neS _ _)) (kindS_ne _ _))).t, fun hp => ?_, fun hp => ?_⟩
      · have hp2 : 0 < left ∧ k' ≠ x.odd := by simpa using hp
        refine SS_set (x := .int (min left w)) 7 (E_min2 h (E_var 6) (E_ixT (d := .int w) (E_ownIx 2 (E_neg E_int) el) E_int)) ?_
        refine SS_append (ds := rows.map rowD) 1 (E_tup (A2 (E_var 5) (E_var 7))) (by rw [List.length_map]; omega) ?_
        refine SS_aug (f := fun i j => i - j) 6 rfl (E_var 7) (fun _ => ip_sub) ?_
        refine SS_setX (P := fun y r2 => y = .int (w - min left w) ∧ r2 = _) 8 (EX_subV (EX_ix (EX.imp (EX_pop 2) fun y r2 e => ⟨_, e.1, .int w, rfl, w, rfl, by rw [e.2]; exact E_var 7, rfl, e.2⟩))) ?_
        rintro y r2 ⟨rfl, rfl⟩
        have ek : (!x.odd) = k' := by cases hk : k' <;> cases ho : x.odd <;> simp_all
        by_cases hlt : left < w
        · have e6 : min left w = left := by omega
          rw [e6]
          refine SS_ifT (T_cmp (E_var 8) E_int (gtI _ _)) ?_ (by rw [decide_eq_true]; omega)
          refine SS_append (ds := st.reverse.map wtD) 2 (E_tup (A2 (E.of (EP_call (w_kind_of_other h) (A1 (E_var 3)) ⟨_, rfl, rfl⟩) (by rw [ek])) (E_var 8))) (by simp at em ⊢; split at em <;> omega) ?_
          refine SS_nil (SS_nil ⟨st.length + 1 + 0, _, ?_, ?_, rows ++ [(x.nm, left)], 0, (k', w - left) :: st, ?_, ?_, ?_, ?_, rfl⟩)
          · rw [em, if_pos hp2.1]; simp
          · show Le [_, some (.own ((rows ++ [(x.nm, left)]).map rowD)), some (.own (((k', w - left) :: st).reverse.map wtD)), _, _, _, some (.d (.int 0)), none, none] _
            rw [List.map_append, List.reverse_cons, List.map_append]
            have e0 : left - left = 0 := by omega
            rw [e0]
            exact Le.keep (Le.keep (Le.keep (Le.keep (Le.keep (Le.keep (Le.keep (Le.drop (Le.drop Le.nil))))))))
          · simp
          · rw [em, if_pos hp2.1] at hm; simp at hm ⊢; omega
          · rw [ea]; unfold fallPc; rw [if_pos hp2, if_pos hlt]; simp
          · rw [eb]; unfold fallPc; rw [if_pos hp2, if_pos hlt]; simp
        · have e6 : min left w = w := by omega
          rw [e6]
          refine SS_ifF (T_cmp (E_var 8) E_int (gtI _ _)) ?_ (by rw [decide_eq_false]; omega)
          refine SS_nil ⟨st.length + (if 0 < left - w then 1 else 0), _, ?_, ?_, rows ++ [(x.nm, w)], left - w, st, rfl, ?_, ?_, ?_, rfl⟩
          · rw [em, if_pos hp2.1]; simp; split <;> omega
          · show Le [_, some (.own ((rows ++ [(x.nm, w)]).map rowD)), some (.own (st.reverse.map wtD)), _, _, _, some (.d (.int (left - w))), none, none] _
            rw [List.map_append]
            exact Le.keep (Le.keep (Le.keep (Le.keep (Le.keep (Le.keep (Le.keep (Le.drop (Le.drop Le.nil))))))))
          · rw [em, if_pos hp2.1] at hm; simp at hm ⊢; split <;> omega
          · rw [ea]; conv => lhs; unfold fallPc
            rw [if_pos hp2, if_neg hlt]; simp
          · rw [eb]; conv => lhs; unfold fallPc
            rw [if_pos hp2, if_neg hlt]
      · have hp2 : ¬ (0 < left ∧ k' ≠ x.odd) := by simpa using hp
        have e5 : fallStep s x = (rows, if 0 < left then (x.odd, left) :: (k', w) :: st else (k', w) :: st) := by
          unfold fallStep; rw [ea, eb]; unfold fallPc; rw [if_neg hp2]; simp
        refine SS_if (T_cmp (E_var 6) E_int (gtI _ _)) (fun hq => ?_) fun hq => ?_
        · refine SS_append (ds := st.reverse.map wtD ++ [wtD (k', w)]) 2 (E_tup (A2 (E_var 3) (E_var 6))) (by rw [if_pos (of_decide_eq_true hq)] at em; simp at em ⊢; omega) ?_
          refine SS_nil (SS_nil ?_)
          rw [e5, if_pos (of_decide_eq_true hq)]
          show Le [_, _, some (.own (((x.odd, left) :: (k', w) :: st).reverse.map wtD)), none, none, none, none, none, none] _
          rw [List.reverse_cons, List.map_append, er]
          exact Le.keep (Le.keep (Le.keep (Le.drop (Le.drop (Le.drop (Le.drop (Le.drop (Le.drop Le.nil))))))))
        · refine SS_nil (SS_nil ?_)
          rw [e5, if_neg (of_decide_eq_false hq)]
          show Le [_, _, some (.own (((k', w) :: st).reverse.map wtD)), none, none, none, none, none, none] _
          rw [er]
          exact Le.keep (Le.keep (Le.keep (Le.drop (Le.drop (Le.drop (Le.drop (Le.drop (Le.drop Le.nil))))))))
  · refine SS_give 1 ?_
    exact SS_ret (E_var 1) rfl
end
end OC
set_option maxHeartbeats 4000000
/-! Walks: pieces kept, pieces cut, scripts made. -/
namespace OC
open PySem PySem.Spec PyProof.Rows L2
theorem gapsF_left (va : Int → Int) : ∀ (xs : List Int) (m : Int) (q : Gp), q ∈ gapsF va m xs → q.left ∈ xs
  | [], m, q, h => by simp [gapsF] at h
  | [a], m, q, h => by simp [gapsF] at h
  | a :: b :: l, m, q, h => by
    unfold gapsF at h
    rcases List.mem_cons.mp h with e | e
    · subst e; exact List.mem_cons_self
    · exact List.mem_cons_of_mem _ (gapsF_left va (b :: l) _ q e)
theorem gaps_left {ps : List Per} {q : Gp} (h : q ∈ gaps ps) : q.left ∈ stops ps := gapsF_left _ _ _ q h
abbrev pcsD (l : List Pc) : D := .lst (l.map pcD)
abbrev PSt := List (List Pc) × List Pc
abbrev pEnv (s : PSt) : L := .own2 (s.1.map (List.map pcD) ++ [s.2.map pcD])
def PSt.all (s : PSt) : List (List Pc) := s.1 ++ [s.2]
def PSt.sz (s : PSt) : Nat := s.1.flatten.length + s.2.length
abbrev kRow := Gp × ((Int × Int) × Int)
def kEarly (first before : Int) (q : kRow) : Int := if q.1.odd then first + before - q.2.1.2 else q.2.1.2 - first - before
def keptStep (ps : List Per) (first : Int) (s : Int × PSt) (q : kRow) : Int × PSt :=
  if decide (q.2.2 = 0) then (s.1, s.2.1, s.2.2 ++ [⟨q.1.odd, q.1.width, firstAt ps q.1.left⟩])
  else (s.1 + (if q.1.odd then q.2.2 else -q.2.2), s.2.1 ++ [s.2.2 ++ [⟨q.1.odd, kEarly first s.1 q, firstAt ps q.1.left⟩]], [⟨q.1.odd, q.1.width - q.2.2 - kEarly first s.1 q, firstAt ps q.1.left⟩])
def kRows (ps qs : List Per) : List kRow := (gaps ps).zip ((corners ps).zip (keptW ps qs))
def keptPcs (ps qs : List Per) (first : Int) : PSt := ((kRows ps qs).foldl (keptStep ps first) (0, [], [])).2
def cEarly (first : Int) (q : Gp × (Int × Int)) : Int := if q.1.odd then first - q.2.2 else q.2.2 - first
def cutStep (ps : List Per) (first : Int) (s : Bool × PSt) (q : Gp × (Int × Int)) : Bool × PSt :=
  if !s.1 && (decide (0 ≤ cEarly first q) && decide (cEarly first q ≤ q.1.width)) then (true, s.2.1 ++ [s.2.2 ++ [⟨q.1.odd, cEarly first q, firstAt ps q.1.left⟩]], [⟨q.1.odd, q.1.width - cEarly first q, firstAt ps q.1.left⟩])
  else (s.1, s.2.1, s.2.2 ++ [⟨q.1.odd, q.1.width, firstAt ps q.1.left⟩])
def cRows (ps : List Per) : List (Gp × (Int × Int)) := (gaps ps).zip (corners ps)
def cutInit (first : Int) : Bool × PSt := if decide (first = 0) then (true, [[]], []) else (false, [], [])
def cutPcs (ps : List Per) (first : Int) : PSt := ((cRows ps).foldl (cutStep ps first) (cutInit first)).2
theorem sz_fold {α β : Type} {f : β × PSt → α → β × PSt} (hf : ∀ s a, (f s a).2.sz ≤ s.2.sz + 2 ∧ (f s a).2.1.length ≤ s.2.1.length + 1) : ∀ (l : List α) (s : β × PSt), (l.foldl f s).2.sz ≤ s.2.sz + 2 * l.length ∧ (l.foldl f s).2.1.length ≤ s.2.1.length + l.length
  | [], s => ⟨Nat.le_refl _, Nat.le_refl _⟩
  | a :: l, s => by
    have h1 := sz_fold hf l (f s a)
    have h2 := hf s a
    rw [List.foldl_cons, List.length_cons]; omega
theorem kept_sz (ps : List Per) (first : Int) (s : Int × PSt) (q : kRow) : (keptStep ps first s q).2.sz ≤ s.2.sz + 2 ∧ (keptStep ps first s q).2.1.length ≤ s.2.1.length + 1 := by
  unfold keptStep PSt.sz
  split <;> simp <;> omega
theorem cut_sz (ps : List Per) (first : Int) (s : Bool × PSt) (q : Gp × (Int × Int)) : (cutStep ps first s q).2.sz ≤ s.2.sz + 2 ∧ (cutStep ps first s q).2.1.length ≤ s.2.1.length + 1 := by
  unfold cutStep PSt.sz
  split <;> simp <;> omega
theorem kRows_len {ps : List Per} (gd : Good ps) (qs : List Per) : (kRows ps qs).length ≤ 8 := by
  unfold kRows; rw [List.length_zip]; have := gaps_le gd; omega
theorem cRows_len {ps : List Per} (gd : Good ps) : (cRows ps).length ≤ 8 := by
  unfold cRows; rw [List.length_zip]; have := gaps_le gd; omega
theorem PSt.sz_all (s : PSt) : s.all.flatten.length = s.sz := by unfold PSt.all PSt.sz; simp
theorem PSt.env_all (s : PSt) : (s.1.map (List.map pcD) ++ [s.2.map pcD]).map D.lst = s.all.map pcsD := by
  unfold PSt.all; simp
theorem cutInit_sz (first : Int) : (cutInit first).2.sz = 0 ∧ (cutInit first).2.1.length ≤ 1 := by
  unfold cutInit PSt.sz; split <;> simp
def R_kept : Rel := fun ds P => ∃ ps qs first, Good ps ∧ Good qs ∧ Like ps qs ∧ ds = [.std ps, .std qs, .int first] ∧ P = fun x => x = .lst ((keptPcs ps qs first).all.map pcsD)
def R_cut : Rel := fun ds P => ∃ ps first, Good ps ∧ ds = [.std ps, .int first] ∧ P = fun x => x = .lst ((cutPcs ps first).all.map pcsD)
section
variable {M : Mo} (h : Hd M)
include h
theorem w_kept_pieces : FnG M 6 "kept_pieces" false R_kept := by
  refine h.fnG 59 46 fs_kept_pieces bn_kept_pieces (by rintro ds P ⟨ps, qs, f, _, _, _, rfl, rfl⟩; rfl) ?_
  rintro Z ds P - ⟨ps, qs, first, gp, gq, lk, rfl, rfl⟩
  refine SS_par (i := 3) (j := 4) (AL_cons EL_lst2 (AL_cons E_int.l AL_nil)) ?_
  refine SS_fold (l := kRows ps qs) (gf := fun q => D.tup [gpD q.1, ciD q.2.1, .int q.2.2]) (IT.of (IT_zip3 (A_cons (EP_call (w_gaps h) (A1 (E_var 0)) ⟨_, gp, rfl, rfl⟩) (A2 (EP_call (w_corners h) (A1 (E_var 0)) ⟨_, gp, rfl, rfl⟩) (EP_call (w_kept_widths h) (A2 (E_var 0) (E_var 1)) ⟨_, _, gp, gq, lk, rfl, rfl⟩))) (h.free 121)) (zip3D_map _ _ _ _ _ _)) (fun s : Int × PSt => [some (.d (.std ps)), some (.d (.std qs)), some (.d (.int first)), some (pEnv s.2), some (.d (.int s.1)), none, none, none, none, none, none, none, none]) (keptStep ps first) (0, [], []) Le.rfl' ?_ ?_
  · rintro s pre q post e1 e2
    have hsz : s.2.sz ≤ 16 ∧ s.2.1.length ≤ 8 := by
      have h1 := sz_fold (kept_sz ps first) pre (0, [], [])
      have h2 := congrArg List.length e1
      have h3 := kRows_len gp qs
      rw [List.length_append, List.length_cons] at h2
      have h4 : PSt.sz ([], []) = 0 := rfl
      rw [← e2] at h1; simp only [h4, List.length_nil] at h1; omega
    have hc : s.2.2.length ≤ 16 := by unfold PSt.sz at hsz; omega
    have hst : q.1.left ∈ stops ps := by
      have : q ∈ kRows ps qs := by rw [e1]; simp
      exact gaps_left (List.of_mem_zip this).1
    refine ⟨_, _, G_3 (G_3 (G_name 5) (G_name 6) (G_name 7)) (G_2 (G_name 8) (G_name 9)) (G_name 10), ?_⟩
    refine SS_set (x := .str (firstAt ps q.1.left)) 11 (E_ixL (EP_meth h.cls (w_S_at h) (E_var 0) (A1 (E_var 5)) ⟨_, _, gp, rfl, rfl⟩) E_int (atI_zero (by rw [List.getElem?_map, (firstAt_at hst).1]; rfl))) ?_
    refine SS_if (T_cmp (E_var 10) E_int (eqI _ _)) (fun hp => ?_) fun hp => ?_
    · have e : keptStep ps first s q = (s.1, s.2.1, s.2.2 ++ [⟨q.1.odd, q.1.width, firstAt ps q.1.left⟩]) := by unfold keptStep; rw [if_pos hp]
      refine SS_app2 3 (dss := s.2.1.map (List.map pcD)) (ds := s.2.2.map pcD) (E_tup (A_cons (E_var 7) (A2 (E_var 6) (E_var 11)))) (E_neg E_int) (by rw [List.length_map]; omega) ?_
      refine SS_nil (SS_nil ?_)
      rw [e]
      show Le [_, _, _, some (.own2 (_ ++ [(s.2.2 ++ [_]).map pcD])), _, none, none, none, none, none, none, none, none] _
      rw [List.map_append]
      exact Le.keep (Le.keep (Le.keep (Le.keep (Le.keep (Le.drop (Le.drop (Le.drop (Le.drop (Le.drop (Le.drop (Le.drop (Le.drop Le.nil))))))))))))
    · have e : keptStep ps first s q = (s.1 + (if q.1.odd then q.2.2 else -q.2.2), s.2.1 ++ [s.2.2 ++ [⟨q.1.odd, kEarly first s.1 q, firstAt ps q.1.left⟩]], [⟨q.1.odd, q.1.width - q.2.2 - kEarly first s.1 q, firstAt ps q.1.left⟩]) := by unfold keptStep; rw [if_neg (by rw [hp]; decide)]
      refine SS_set (x := .int (kEarly first s.1 q)) 12 (E.of (E_if (T.of (T_cmp (E_var 7) E_str (eqS _ _)) (kind_odd _)) (fun _ => E_sub (E_add (E_var 2) (E_var 4)) (E_var 9)) fun _ => E_sub (E_sub (E_var 9) (E_var 2)) (E_var 4)) (by unfold kEarly; cases q.1.odd <;> rfl)) ?_
      refine SS_app2 3 (dss := s.2.1.map (List.map pcD)) (ds := s.2.2.map pcD) (E_tup (A_cons (E_var 7) (A2 (E_var 12) (E_var 11)))) (E_neg E_int) (by rw [List.length_map]; omega) ?_
      refine SS_app2N 3 (EL_lst (A1 (E_tup (A_cons (E_var 7) (A2 (E_sub (E_sub (E_var 6) (E_var 10)) (E_var 12)) (E_var 11)))))) ?_ ?_
      · simp only [List.length_append, List.length_map, List.length_singleton]; omega
      refine SS_aug (f := fun i j => i + j) (q := if q.1.odd then q.2.2 else -q.2.2) 4 rfl (E.of (E_if (T.of (T_cmp (E_var 7) E_str (eqS _ _)) (kind_odd _)) (fun _ => E_var 10) (fun _ => E_neg (E_var 10))) (by cases q.1.odd <;> rfl)) (fun _ => ip_add) ?_
      refine SS_nil (SS_nil ?_)
      rw [e]
      show Le [_, _, _, some (.own2 ((s.2.1 ++ [s.2.2 ++ [_]]).map (List.map pcD) ++ [_])), _, none, none, none, none, none, none, none, none] _
      rw [List.map_append, List.map_singleton, List.map_append]
      exact Le.keep (Le.keep (Le.keep (Le.keep (Le.keep (Le.drop (Le.drop (Le.drop (Le.drop (Le.drop (Le.drop (Le.drop (Le.drop Le.nil))))))))))))
  · refine SS_give2 3 ?_
    refine SS_ret (E_var 3) ?_
    show _ = D.lst _
    rw [← PSt.env_all]; rfl
theorem w_cut_pieces : FnG M 5 "cut_pieces" false R_cut := by
  refine h.fnG 60 47 fs_cut_pieces bn_cut_pieces (by rintro ds P ⟨ps, f, _, rfl, rfl⟩; rfl) ?_
  rintro Z ds P - ⟨ps, first, gp, rfl, rfl⟩
  have key : SS M ⟨N_cut_pieces, d_cut_pieces.scope, fun _ => true, 4⟩ Z (d_cut_pieces.body.drop 2) [some (.d (.std ps)), some (.d (.int first)), some (pEnv (cutInit first).2), some (.d (.bl (cutInit first).1)), none, none, none, none, none, none, none] ⟨fun _ => D.non = .lst ((cutPcs ps first).all.map pcsD), fun x => x = .lst ((cutPcs ps first).all.map pcsD), fun _ => False, fun _ => False⟩ := by
    refine SS_fold (l := cRows ps) (gf := fun q => D.tup [gpD q.1, ciD q.2]) (IT.of (IT_zip (A2 (EP_call (w_gaps h) (A1 (E_var 0)) ⟨_, gp, rfl, rfl⟩) (EP_call (w_corners h) (A1 (E_var 0)) ⟨_, gp, rfl, rfl⟩)) (h.free 121)) (zipD_map _ _ _ _)) (fun s : Bool × PSt => [some (.d (.std ps)), some (.d (.int first)), some (pEnv s.2), some (.d (.bl s.1)), none, none, none, none, none, none, none]) (cutStep ps first) (cutInit first) Le.rfl' ?_ ?_
    · rintro s pre q post e1 e2
      have hsz : s.2.sz ≤ 16 ∧ s.2.1.length ≤ 9 := by
        have h1 := sz_fold (cut_sz ps first) pre (cutInit first)
        have h2 := congrArg List.length e1
        have h3 := cRows_len gp
        have h4 := cutInit_sz first
        rw [List.length_append, List.length_cons] at h2
        rw [← e2] at h1; omega
      have hc : s.2.2.length ≤ 16 := by unfold PSt.sz at hsz; omega
      have hst : q.1.left ∈ stops ps := by
        have : q ∈ cRows ps := by rw [e1]; simp
        exact gaps_left (List.of_mem_zip this).1
      refine ⟨_, _, G_2 (G_3 (G_name 4) (G_name 5) (G_name 6)) (G_2 (G_name 7) (G_name 8)), ?_⟩
      refine SS_par (i := 9) (j := 10) (AL_cons (l := .d (.str (firstAt ps q.1.left))) (E.l (E_ixL (EP_meth h.cls (w_S_at h) (E_var 0) (A1 (E_var 4)) ⟨_, _, gp, rfl, rfl⟩) E_int (atI_zero (by rw [List.getElem?_map, (firstAt_at hst).1]; rfl)))) (AL_cons (l := .d (.int (cEarly first q))) (E.l (E.of (E_if (T.of (T_cmp (E_var 6) E_str (eqS _ _)) (kind_odd _)) (fun _ => E_sub (E_var 1) (E_var 8)) fun _ => E_sub (E_var 8) (E_var 1)) (by unfold cEarly; cases q.1.odd <;> rfl))) AL_nil)) ?_
      refine SS_if (T_and (T_not (T_val (E_var 3))) fun _ => T_chain E_int (E_var 10) (fun _ => E_var 5) (leI _ _) fun _ => leI _ _) (fun hp => ?_) fun hp => ?_
      · have e : cutStep ps first s q = (true, s.2.1 ++ [s.2.2 ++ [⟨q.1.odd, cEarly first q, firstAt ps q.1.left⟩]], [⟨q.1.odd, q.1.width - cEarly first q, firstAt ps q.1.left⟩]) := by unfold cutStep; rw [if_pos hp]
        refine SS_set 3 E_bl ?_
        refine SS_app2 2 (dss := s.2.1.map (List.map pcD)) (ds := s.2.2.map pcD) (E_tup (A_cons (E_var 6) (A2 (E_var 10) (E_var 9)))) (E_neg E_int) (by rw [List.length_map]; omega) ?_
        refine SS_app2N 2 (EL_lst (A1 (E_tup (A_cons (E_var 6) (A2 (E_sub (E_var 5) (E_var 10)) (E_var 9)))))) ?_ ?_
        · simp only [List.length_append, List.length_map, List.length_singleton]; omega
        refine SS_nil (SS_nil ?_)
        rw [e]
        show Le [_, _, some (.own2 ((s.2.1 ++ [s.2.2 ++ [_]]).map (List.map pcD) ++ [_])), _, none, none, none, none, none, none, none] _
        rw [List.map_append, List.map_singleton, List.map_append]
        exact Le.keep (Le.keep (Le.keep (Le.keep (Le.drop (Le.drop (Le.drop (Le.drop (Le.drop (Le.drop (Le.drop Le.nil))))))))))
      · have e : cutStep ps first s q = (s.1, s.2.1, s.2.2 ++ [⟨q.1.odd, q.1.width, firstAt ps q.1.left⟩]) := by unfold cutStep; rw [if_neg (by rw [hp]; decide)]
        refine SS_app2 2 (dss := s.2.1.map (List.map pcD)) (ds := s.2.2.map pcD) (E_tup (A_cons (E_var 6) (A2 (E_var 5) (E_var 9)))) (E_neg E_int) (by rw [List.length_map]; omega) ?_
        refine SS_nil (SS_nil ?_)
        rw [e]
        show Le [_, _, some (.own2 (_ ++ [(s.2.2 ++ [_]).map pcD])), _, none, none, none, none, none, none, none] _
        rw [List.map_append]
        exact Le.keep (Le.keep (Le.keep (Le.keep (Le.drop (Le.drop (Le.drop (Le.drop (Le.drop (Le.drop (Le.drop Le.nil))))))))))
    · refine SS_give2 2 ?_
      refine SS_ret (E_var 2) ?_
      show _ = D.lst _
      rw [← PSt.env_all]; rfl
  refine SS_par (i := 2) (j := 3) (AL_cons EL_lst2 (AL_cons (E_cmp (E_var 1) E_int (eqI _ _)).l AL_nil)) ?_
  refine SS_if (T_val (E_var 3)) (fun hp => ?_) fun hp => ?_
  · refine SS_app2N 2 (EL_lst A_nil) ?_ ?_
    · show (1 : Nat) < 1000; decide
    refine SS_nil (SS.weak key ?_)
    unfold cutInit; rw [if_pos hp, hp]
    exact Le.rfl'
  · refine SS_nil (SS.weak key ?_)
    unfold cutInit; rw [if_neg (by rw [hp]; decide), hp]
    exact Le.rfl'
end
end OC
set_option maxHeartbeats 4000000
/-! Walks: scripts made. -/
namespace OC
open PySem PySem.Spec PyProof.Rows L2
def IsFst (ps : List Per) (a : Str) : Prop := a ∈ ps.map (·.nm) ∧ ∀ n ∈ ps.map (·.nm), plc ps a ≤ plc ps n
def IsLst (ps : List Per) (a : Str) : Prop := a ∈ ps.map (·.nm) ∧ ∀ n ∈ ps.map (·.nm), plc ps n ≤ plc ps a
theorem line_ends {ps : List Per} {ns : List Str} (gd : Good ps) (hl : LineOf ps ns) : ∃ a b, ns[0]? = some a ∧ ns.getLast? = some b ∧ IsFst ps a ∧ IsLst ps b := by
  obtain ⟨pm, pw⟩ := hl
  cases ns with
  | nil =>
    have := pm.length_eq
    have := gd.ne
    cases ps with
    | nil => exact absurd rfl this
    | cons p l => simp at *
  | cons a l =>
    obtain ⟨b, hb⟩ : ∃ b, (a :: l).getLast? = some b := by
      cases e : (a :: l).getLast? with
      | none => simp at e
      | some b => exact ⟨b, rfl⟩
    have hbm : b ∈ a :: l := List.mem_of_getLast? hb
    refine ⟨a, b, rfl, hb, ⟨pm.subset List.mem_cons_self, fun n hn => ?_⟩, ⟨pm.subset hbm, fun n hn => ?_⟩⟩
    · have hm : n ∈ a :: l := pm.symm.subset hn
      rcases List.mem_cons.mp hm with e | e
      · subst e; exact Int.le_refl _
      · exact (List.pairwise_cons.mp pw).1 n e
    · have hm : n ∈ a :: l := pm.symm.subset hn
      obtain ⟨init, e⟩ : ∃ init, a :: l = init ++ [b] := by
        have := List.getLast?_eq_some_iff.mp hb
        obtain ⟨ys, e⟩ := this
        exact ⟨ys, e⟩
      rw [e] at hm pw
      rcases List.mem_append.mp hm with k | k
      · exact (List.pairwise_append.mp pw).2.2 n k b List.mem_cons_self
      · rw [List.mem_singleton] at k; subst k; exact Int.le_refl _
def endsOf (a b : Str) (first last : Int) : List Row := [((a, first) : Row), (b, last)].filter fun q => decide (0 < q.2)
def bigKept (ps qs : List Per) : List Int := (keptW ps qs).filter fun w => decide (0 < w)
def pieces (ps qs : List Per) (first : Int) : List (List Pc) := if (bigKept ps qs).isEmpty then (cutPcs ps first).all else (keptPcs ps qs first).all
def coreRows (ps qs : List Per) (first : Int) : List Row := (pieces ps qs first).foldl (fun r l => r ++ fallen l) []
theorem core_len : ∀ (l : List (List Pc)) (r : List Row), (l.foldl (fun r l => r ++ fallen l) r).length ≤ r.length + l.flatten.length
  | [], r => Nat.le_refl _
  | p :: l, r => by
    have h1 := core_len l (r ++ fallen p)
    have h2 := fallen_len p
    rw [List.foldl_cons, List.flatten_cons, List.length_append]
    rw [List.length_append] at h1
    omega
theorem pieces_sz {ps : List Per} (gd : Good ps) (qs : List Per) (first : Int) : (pieces ps qs first).flatten.length ≤ 16 ∧ (pieces ps qs first).length ≤ 10 := by
  unfold pieces
  split
  · have h1 := sz_fold (cut_sz ps first) (cRows ps) (cutInit first)
    have h3 := cRows_len gd
    have h4 := cutInit_sz first
    rw [PSt.sz_all]
    refine ⟨by unfold cutPcs; omega, ?_⟩
    unfold PSt.all cutPcs; rw [List.length_append, List.length_singleton]; omega
  · have h1 := sz_fold (kept_sz ps first) (kRows ps qs) (0, [], [])
    have h3 := kRows_len gd qs
    have h4 : PSt.sz ([], []) = 0 := rfl
    simp only [h4, List.length_nil] at h1
    rw [PSt.sz_all]
    refine ⟨by unfold keptPcs; omega, ?_⟩
    unfold PSt.all keptPcs; rw [List.length_append, List.length_singleton]; omega
theorem coreRows_len {ps : List Per} (gd : Good ps) (qs : List Per) (first : Int) : (coreRows ps qs first).length ≤ 16 := by
  have h1 := core_len (pieces ps qs first) []
  have h2 := (pieces_sz gd qs first).1
  unfold coreRows; simp only [List.length_nil] at h1; omega
def ScriptOf (ps qs : List Per) (first last : Int) (sc : List Row) : Prop := ∃ a b, IsFst ps a ∧ IsLst ps b ∧ sc = coreRows ps qs first ++ endsOf a b first last
theorem ScriptOf.len {ps qs : List Per} {first last : Int} {sc : List Row} (gd : Good ps) (hs : ScriptOf ps qs first last sc) : sc.length ≤ 18 := by
  obtain ⟨a, b, _, _, rfl⟩ := hs
  have h1 := coreRows_len gd qs first
  have h2 : (endsOf a b first last).length ≤ 2 := List.length_filter_le _ _
  rw [List.length_append]; omega
def R_by : Rel := fun ds P => ∃ ps qs first last, Good ps ∧ Good qs ∧ Like ps qs ∧ ds = [.std ps, .std qs, .int first, .int last] ∧ P = fun d => ∃ sc, ScriptOf ps qs first last sc ∧ d = scD sc
def sFirst (ps qs : List Per) (calls : Int) : Int := if decide (vsum ps % 2 = 1) then calls - (lost ps qs).2 else (lost ps qs).1 - movedBy ps qs
def sLast (ps qs : List Per) (calls : Int) : Int := if decide (vsum ps % 2 = 1) then calls - (lost ps qs).1 else (lost ps qs).1 - (lost ps qs).2 - ((lost ps qs).1 - movedBy ps qs)
def R_lead : Rel := fun ds P => ∃ ps qs calls, Good ps ∧ Good qs ∧ Like ps qs ∧ (paper ps qs).isL = true ∧ (leadB ps qs).1 ≤ calls ∧ calls ≤ (leadB ps qs).2 ∧ ds = [.std ps, .std qs, .int calls] ∧ P = fun d => ∃ sc, ScriptOf ps qs (sFirst ps qs calls) (sLast ps qs calls) sc ∧ d = scD sc
theorem Sh_ints (l : List Int) : Sh 1 (intsD l) := .lst fun d hd => by
  obtain ⟨i, _, rfl⟩ := List.mem_map.mp hd
  exact .int i
theorem names_ok {ps : List Per} (gd : Good ps) {n : Str} (hn : n ∈ ps.map (·.nm)) : PyData.strOk n = true := by
  obtain ⟨p, hp, rfl⟩ := List.mem_map.mp hn
  exact (gd.nm p hp).str
theorem Sh_strs {l : List Str} (hl : ∀ n ∈ l, PyData.strOk n = true) : Sh 1 (strsD l) := .lst fun d hd => by
  obtain ⟨i, hi, rfl⟩ := List.mem_map.mp hd
  exact .str (hl i hi)
def R_judgeS : Rel := fun ds P => ∃ ps qs sc, Good ps ∧ Good qs ∧ Like ps qs ∧ ScOk ps sc ∧ sc.length ≤ 500 ∧ (∀ n ∈ ps.map (·.nm), plc (after ps sc) n = plc qs n) ∧ ds = [.std ps, .std qs, scD sc] ∧ P = fun d => d = .non
section
variable {M : Mo} (h : Hd M)
include h
theorem w_script_by : FnG M 8 "script_by" false R_by := by
  refine h.fnG 61 48 fs_script_by bn_script_by (by rintro ds P ⟨ps, qs, f, l, _, _, _, rfl, rfl⟩; rfl) ?_
  rintro Z ds P - ⟨ps, qs, first, last, gp, gq, lk, rfl, rfl⟩
  have l8 := gp.len
  have ls := stops_len ps
  have lw := keptW_len ps qs
  refine SS_lc 4 (L_lcc (l := keptW ps qs) (gf := D.int) [("width", 9)] (fun w => decide (0 < w)) D.int (fun w => w) (IT_list (EP_call (w_kept_widths h) (A2 (E_var 0) (E_var 1)) ⟨_, _, gp, gq, lk, rfl, rfl⟩)) (fun w hw => ⟨_, _, G_name 9, by decide, .inr ⟨_, rfl, T_cmp (E_var 9) E_int (gtI _ _)⟩, fun _ => E_var 9⟩) (by omega)) ?_
  rw [List.map_id']
  refine SS_set (x := .lst ((pieces ps qs first).map pcsD)) 5 (E.of (E_if (T_cmp (E_var 4) (E_lst A_nil) (neD (Sh_ints (bigKept ps qs)) (.lst (n := 0) fun _ k => by simp at k) (eqv_nil _))) (fun _ => EP_call (w_kept_pieces h) (A_cons (E_var 0) (A2 (E_var 1) (E_var 2))) ⟨_, _, _, gp, gq, lk, rfl, rfl⟩) fun _ => EP_call (w_cut_pieces h) (A2 (E_var 0) (E_var 2)) ⟨_, _, gp, rfl, rfl⟩) ?_) ?_
  · have : ((bigKept ps qs).map D.int).isEmpty = (bigKept ps qs).isEmpty := by cases bigKept ps qs <;> rfl
    rw [this]; unfold pieces
    cases (bigKept ps qs).isEmpty <;> rfl
  refine SS_setL 6 (EL_lst A_nil) ?_
  obtain ⟨z1, z2⟩ := pieces_sz gp qs first
  refine SS_fold (l := pieces ps qs first) (gf := pcsD) (IT_list (E_var 5)) (fun s : List Row => [some (.d (.std ps)), some (.d (.std qs)), some (.d (.int first)), some (.d (.int last)), none, none, some (.own (s.map rowD)), none, none, none, none]) (fun r l => r ++ fallen l) [] ?_ ?_ ?_
  · exact Le.keep (Le.keep (Le.keep (Le.keep (Le.drop (Le.drop (Le.keep (Le.drop (Le.drop (Le.drop (Le.drop Le.nil))))))))))
  · rintro s pre q post e1 e2
    have hs : s.length ≤ 16 ∧ q.length ≤ 16 := by
      have h1 := core_len pre []
      rw [← e2] at h1
      have h2 := congrArg (fun l => l.flatten.length) e1
      simp only [List.flatten_append, List.flatten_cons, List.length_append, List.length_nil] at h1 h2
      omega
    refine ⟨_, _, G_name 7, ?_⟩
    refine SS_extend 6 (EP_call (w_fallen_leadscripts h) (A1 (E_var 7)) ⟨_, by omega, rfl, rfl⟩) ?_ ?_
    · have := fallen_len q
      rw [List.length_map, List.length_map]; omega
    refine SS_nil ?_
    rw [List.map_append]
    exact Le.keep (Le.keep (Le.keep (Le.keep (Le.drop (Le.drop (Le.keep (Le.drop (Le.drop (Le.drop (Le.drop Le.nil))))))))))
  · have lc := coreRows_len gp qs first
    refine SS_setP 8 (EP_meth0 h.cls (w_S_line h) (E_var 0) ⟨_, gp, rfl, rfl⟩) ?_
    rintro x ⟨ns, hline, rfl⟩
    obtain ⟨a, b, ea, eb, fa, fb⟩ := line_ends gp hline
    have hne : (ns.map D.str).isEmpty = false := by cases ns with
      | nil => simp at ea
      | cons c l => rfl
    refine SS_give 6 ?_
    refine SS_ret (E.of (E_if (p := true) (v := .lst []) (T.of (T_cmp (E_var 8) (E_lst A_nil) (neD (Sh_strs fun n hn => names_ok gp (hline.1.subset hn)) (.lst (n := 0) fun _ k => by simp at k) (eqv_nil _))) (by rw [hne]; rfl)) (fun _ => E_cat (E_var 6) (E_lcc (l := [((a, first) : Row), (b, last)]) (gf := rowD) [("row", 10)] (fun q => decide (0 < q.2)) rowD (fun q => q) (IT_list (E_lst (A2 (E_tup (A2 (E_ixL (d := .str a) (E_var 8) E_int (atI_zero (by rw [List.getElem?_map, ea]; rfl))) (E_var 2))) (E_tup (A2 (E_ixL (d := .str b) (E_var 8) (E_neg E_int) (atI_last (by rw [List.getLast?_map, eb]; rfl))) (E_var 3)))))) (fun q hq => ⟨_, _, G_name 10, by decide, .inr ⟨_, rfl, T_cmp (E_ixT (d := .int q.2) (E_var 10) E_int) E_int (gtI _ _)⟩, fun _ => E_var 10⟩) (by simp)) ?_) (fun z => nomatch z)) rfl) ?_
    · rw [List.length_map, List.length_map, List.map_id']
      exact Nat.le_trans (Nat.add_le_add (show _ ≤ 16 from lc) (show _ ≤ 2 from List.length_filter_le _ _)) (by decide)
    · refine ⟨_, ⟨a, b, fa, fb, rfl⟩, ?_⟩
      rw [if_pos rfl, List.map_id', ← List.map_append]; rfl
theorem w_lead_script : FnG M 11 "lead_script" false R_lead := by
  refine h.fnG 62 49 fs_lead_script bn_lead_script (by rintro ds P ⟨ps, qs, f, _, _, _, _, _, _, rfl, rfl⟩; rfl) ?_
  rintro Z ds P - ⟨ps, qs, calls, gp, gq, lk, il, h1, h2, rfl, rfl⟩
  refine SS_asg (E.of (EP_call (w_lead_bounds h) (A2 (E_var 0) (E_var 1)) ⟨_, _, gp, gq, lk, il, rfl, rfl⟩) rfl) (G_2 (x := .int (leadB ps qs).1) (y := .int (leadB ps qs).2) (G_name 3) (G_name 4)) ?_
  refine SS_ifF (T_or (c' := false) (T_not (T_val (EP_call (w_is_integer h) (A1 (E_var 2)) ⟨_, rfl, rfl⟩))) fun _ => T.of (T_not (T_chain (E_var 3) (E_var 2) (fun _ => E_var 4) (leI _ _) fun _ => leI _ _)) (by rw [decide_eq_true h1, decide_eq_true h2]; rfl)) ?_
  refine SS_asg (E.of (EP_call (w_lost_sums h) (A2 (E_var 0) (E_var 1)) ⟨_, _, gp, gq, lk, rfl, rfl⟩) rfl) (G_2 (x := .int (lost ps qs).1) (y := .int (lost ps qs).2) (G_name 5) (G_name 6)) ?_
  refine SS_if (T_cmp (E_mod (EP_meth0 h.cls (w_S_voices h) (E_var 0) ⟨_, gp, rfl, rfl⟩) E_int) E_int (eqI _ _)) (fun hp => ?_) fun hp => ?_
  · refine SS_retP (EP_call (w_script_by h) (A_cons (E_var 0) (A_cons (E_var 1) (A2 (E_sub (E_var 2) (E_var 6)) (E_sub (E_var 2) (E_var 5))))) ⟨_, _, _, _, gp, gq, lk, rfl, rfl⟩) fun x hx => ?_
    show ∃ sc, ScriptOf ps qs (sFirst ps qs calls) (sLast ps qs calls) sc ∧ _
    unfold sFirst sLast; rw [if_pos hp, if_pos hp]; exact hx
  · refine SS_nil ?_
    refine SS_set 7 (E_sub (E_var 5) (EP_call (w_moved_by h) (A2 (E_var 0) (E_var 1)) ⟨_, _, gp, gq, lk, rfl, rfl⟩)) ?_
    refine SS_retP (EP_call (w_script_by h) (A_cons (E_var 0) (A_cons (E_var 1) (A2 (E_var 7) (E_sub (E_sub (E_var 5) (E_var 6)) (E_var 7))))) ⟨_, _, _, _, gp, gq, lk, rfl, rfl⟩) fun x hx => ?_
    show ∃ sc, ScriptOf ps qs (sFirst ps qs calls) (sLast ps qs calls) sc ∧ _
    have hn : ¬ decide (vsum ps % 2 = 1) = true := by rw [hp]; decide
    unfold sFirst sLast; rw [if_neg hn, if_neg hn]; exact hx
theorem w_judge_script : FnG M 11 "judge_script" false R_judgeS := by
  refine h.fnG 63 50 fs_judge_script bn_judge_script (by rintro ds P ⟨ps, qs, sc, _, _, _, _, _, _, rfl, rfl⟩; rfl) ?_
  rintro Z ds P - ⟨ps, qs, sc, gp, gq, lk, ok, hl, he, rfl, rfl⟩
  refine SS_exprP (EP_call (w_need_like h) (A2 (E_var 0) (E_var 1)) ⟨_, _, gp, gq, lk, rfl, rfl⟩) ?_
  refine SS_ifF (T_not (T_val (E_callB (A2 (E_var 2) (E_tup (A2 (E_bty (n := "list") (h.free 111)) (E_bty (n := "tuple") (h.free 120))))) (clIsi2 (n := "list") (q := true) (q' := false) rfl rfl rfl) (h.free 109)))) ?_
  refine SS_set (x := .non) 3 (EP_call (w_first_bad h) (A2 (E_var 0) (E_var 2)) ⟨_, _, gp, ok, hl, rfl, rfl⟩) ?_
  refine SS_ifF (T_notN (E_var 3)) ?_
  refine SS_set (x := .std (after ps sc)) 4 (EP_call (w_walked h) (A2 (E_var 0) (E_var 2)) ⟨_, _, gp, ok, hl, rfl, rfl⟩) ?_
  refine SS_first (β := Unit) (l := ps.map (·.nm)) (gf := D.str) (IT.of (IT_list (EP_meth0 h.cls (w_S_names h) (E_var 0) ⟨_, gp, rfl, rfl⟩)) (names_map ps)) [some (.d (.std ps)), some (.d (.std qs)), none, none, some (.d (.std (after ps sc))), none] (Le.keep (Le.keep (Le.drop (Le.drop (Le.keep (Le.drop Le.nil)))))) (fun _ => none) ?_ ?_
  · intro n hn _
    refine ⟨_, _, G_name 5, ?_⟩
    refine SS_ifF (T_cmp (EP_meth h.cls (w_S_place h) (E_var 4) (A1 (E_var 5)) ⟨_, _, after_good sc gp, by rw [after_names]; exact hn, rfl, rfl⟩) (EP_meth h.cls (w_S_place h) (E_var 1) (A1 (E_var 5)) ⟨_, _, gq, by rw [← lk.names]; exact hn, rfl, rfl⟩) (neI _ _)) ?_ (by simp [he n hn])
    exact SS_nil ⟨rfl, Le.keep (Le.keep (Le.drop (Le.drop (Le.keep (Le.drop Le.nil)))))⟩
  · intro _
    exact SS_ret E_non rfl
end
end OC
set_option maxHeartbeats 4000000
/-! Walks: kinds of rows; choosing. -/
namespace OC
open PySem PySem.Spec PyProof.Rows L2
def kindAt (ps : List Per) (n : Str) : Int := if plc ps n = (stops ps).headD 0 then 0 else if plc ps n = (stops ps).getLastD 0 then 2 else 1
def kindsF : Nat → List Per → Str → Int → List (Int × Int)
  | 0, _, _, _ => []
  | f + 1, ps, n, t => if 0 < t then (kindAt ps n, min t (nearest ps (plc ps n))) :: kindsF f (drawn ps (plc ps n) (min t (nearest ps (plc ps n)))) n (t - min t (nearest ps (plc ps n))) else []
def rowKinds (ps : List Per) (q : Row) : List (Int × Int) := kindsF q.2.toNat ps q.1 q.2
theorem kindsF_len : ∀ (f : Nat) (ps : List Per) (n : Str) (t : Int), (kindsF f ps n t).length ≤ f
  | 0, _, _, _ => Nat.le_refl _
  | f + 1, ps, n, t => by
    unfold kindsF
    split
    · have := kindsF_len f (drawn ps (plc ps n) (min t (nearest ps (plc ps n)))) n (t - min t (nearest ps (plc ps n)))
      rw [List.length_cons]; omega
    · exact Nat.zero_le _
def kindsOf : List Per → List Row → List (List (Int × Int))
  | _, [] => []
  | ps, q :: l => rowKinds ps q :: kindsOf (goRow ps q) l
abbrev cisD (l : List (Int × Int)) : D := .lst (l.map ciD)
def skStep (s : List (List (Int × Int)) × List Per) (q : Row × Nat) : List (List (Int × Int)) × List Per := (s.1 ++ [rowKinds s.2 q.1], goRow s.2 q.1)
theorem sk_fold : ∀ (l : List (Row × Nat)) (s : List (List (Int × Int)) × List Per), (l.foldl skStep s).1 = s.1 ++ kindsOf s.2 (l.map (·.1)) ∧ (l.foldl skStep s).2 = after s.2 (l.map (·.1)) ∧ (l.foldl skStep s).1.length = s.1.length + l.length
  | [], s => ⟨by simp [kindsOf], rfl, rfl⟩
  | q :: l, s => by
    obtain ⟨h1, h2, h3⟩ := sk_fold l (skStep s q)
    rw [List.foldl_cons]
    refine ⟨?_, h2, ?_⟩
    · rw [h1]; unfold skStep; simp [kindsOf]
    · rw [h3]; unfold skStep; simp; omega
def R_rowk : Rel := fun ds P => ∃ ps q, Good ps ∧ rowOk ps q ∧ q.2 ≤ 500 ∧ ds = [.std ps, rowD q] ∧ P = fun x => x = .tup [cisD (rowKinds ps q), .std (goRow ps q)]
def short (sc : List Row) : Prop := sc.length ≤ 500 ∧ ∀ q ∈ sc, q.2 ≤ 500
def R_sk (f : List Per → List Row → D) : Rel := fun ds P => ∃ ps sc, Good ps ∧ ScOk ps sc ∧ short sc ∧ ds = [.std ps, scD sc] ∧ P = fun x => x = f ps sc
theorem R_sk.len {f : List Per → List Row → D} : ∀ ds P, R_sk f ds P → ds.length = 2 := by rintro ds P ⟨ps, qs, _, _, _, rfl, rfl⟩; rfl
theorem stops_ends {ps : List Per} (gd : Good ps) : (stops ps)[0]? = some ((stops ps).headD 0) ∧ (stops ps).getLast? = some ((stops ps).getLastD 0) := by
  obtain ⟨y, l, e⟩ := stops_ne gd
  rw [e]
  refine ⟨rfl, ?_⟩
  cases k : (y :: l).getLast? with
  | none => simp at k
  | some z => rw [List.getLastD_eq_getLast?, k]; rfl
def R_tidyS : Rel := fun ds P => ∃ ps sc, Good ps ∧ ScOk ps sc ∧ sc.length ≤ 500 ∧ (paper ps (after ps sc)).isL = true ∧ (leadB ps (after ps sc)).1 ≤ callsOf sc ∧ callsOf sc ≤ (leadB ps (after ps sc)).2 ∧ ds = [.std ps, scD sc] ∧ P = fun d => ∃ sc', ScriptOf ps (after ps sc) (sFirst ps (after ps sc) (callsOf sc)) (sLast ps (after ps sc) (callsOf sc)) sc' ∧ d = scD sc'
section
variable {M : Mo} (h : Hd M)
include h
theorem w_row_kinds : FnG M 9 "row_kinds" false R_rowk := by
  refine h.fnG 64 51 fs_row_kinds bn_row_kinds (by rintro ds P ⟨ps, q, _, _, _, rfl, rfl⟩; rfl) ?_
  rintro Z ds P - ⟨ps, q, gd, ⟨hn, ht, so⟩, h5, rfl, rfl⟩
  refine SS_ifF (T_not (T_val (EP_call (w_is_row_scripts h) (A2 (E_var 0) (E_var 1)) ⟨_, _, gd, hn, ht, rfl, rfl⟩))) ?_
  refine SS_par3 (i := 2) (j := 3) (l := 4) (AL_cons (E_var 0).l (AL_cons (E_ixT (d := .int q.2) (E_var 1) E_int).l (AL_cons (EL_lst A_nil) AL_nil))) ?_
  refine SS_while (fun m r' => ∃ (s : Int) (pre : List (Int × Int)) (f : Nat), 0 ≤ s ∧ s ≤ q.2 ∧ m = (q.2 - s).toNat ∧ (q.2 - s).toNat ≤ f ∧ (pre.length : Int) ≤ s ∧ pre ++ kindsF f (drawn ps (plc ps q.1) s) q.1 (q.2 - s) = rowKinds ps q ∧
    r' = [some (.d (.std ps)), some (.d (rowD q)), some (.d (.std (drawn ps (plc ps q.1) s))), some (.d (.int (q.2 - s))), some (.own (pre.map ciD)), none, none, none, none]) (q.2 - 0).toNat (r0 := [some (.d (.std ps)), some (.d (rowD q)), some (.d (.std (drawn ps (plc ps q.1) 0))), some (.d (.int (q.2 - 0))), some (.own ([].map ciD)), none, none, none, none]) (by rw [drawn_zero, Int.sub_zero]; exact Le.rfl') ⟨0, [], q.2.toNat, Int.le_refl _, by omega, rfl, by omega, by simp, by rw [drawn_zero, Int.sub_zero]; rfl, rfl⟩ ?_
  rintro m r' ⟨s, pre, f, s0, st, rfl, hf, hpl, hk, rfl⟩
  have gs := drawn_good gd (plc ps q.1) s
  have hns : q.1 ∈ (drawn ps (plc ps q.1) s).map (·.nm) := by rw [drawn_names]; exact hn
  have hplc : plc (drawn ps (plc ps q.1) s) q.1 = plc ps q.1 := by rw [plc_drawn gd hn, drawI_self s0]
  refine ⟨_, T_cmp (E_var 3) E_int (gtI _ _), fun hp => ?_, fun hp => ?_⟩
  · have hlt : 0 < q.2 - s := of_decide_eq_true hp
    have cc := so s s0 (by omega)
    have tg := canCall_apart h cc
    have np := nearest_pos (y := plc ps q.1) tg
    obtain ⟨f', rfl⟩ : ∃ f', f = f' + 1 := ⟨f - 1, by omega⟩
    obtain ⟨e0, e1⟩ := stops_ends gs
    refine SS_ifF (T_not (T_val (EP_call (w_can_call h) (A2 (E_var 2) (E_ixT (d := .str q.1) (E_var 1) E_int)) ⟨_, _, gs, hns, rfl, rfl⟩))) ?_ (by rw [cc]; rfl)
    refine SS_par (i := 5) (j := 6) (AL_cons (l := .d (.int (plc ps q.1))) (E.l (E.of (EP_meth h.cls (w_S_place h) (E_var 2) (A1 (E_ixT (d := .str q.1) (E_var 1) E_int)) ⟨_, _, gs, hns, rfl, rfl⟩) (congrArg D.int hplc))) (AL_cons (E.l (EP_meth0 h.cls (w_S_places h) (E_var 2) ⟨_, gs, rfl, rfl⟩)) AL_nil)) ?_
    refine SS_set (x := .int (kindAt (drawn ps (plc ps q.1) s) q.1)) 7 (E.of (E_if (T_cmp (E_var 5) (E_ixL (d := .int ((stops (drawn ps (plc ps q.1) s)).headD 0)) (ds := (stops (drawn ps (plc ps q.1) s)).map D.int) (E_var 6) E_int (atI_zero (by rw [List.getElem?_map, e0]; rfl))) (eqI _ _)) (fun _ => E_int) (fun _ => E_if (T_cmp (E_var 5) (E_ixL (d := .int ((stops (drawn ps (plc ps q.1) s)).getLastD 0)) (ds := (stops (drawn ps (plc ps q.1) s)).map D.int) (E_var 6) (E_neg E_int) (atI_last (by rw [List.getLast?_map, e1]; rfl))) (eqI _ _)) (fun _ => E_int) (fun _ => E_int))) ?_) ?_
    · unfold kindAt; rw [hplc]
      by_cases k1 : plc ps q.1 = (stops (drawn ps (plc ps q.1) s)).headD 0
      · rw [decide_eq_true k1, if_pos rfl, if_pos k1]
      · rw [decide_eq_false k1, if_neg (by decide), if_neg k1]
        by_cases k2 : plc ps q.1 = (stops (drawn ps (plc ps q.1) s)).getLastD 0
        · rw [decide_eq_true k2, if_pos rfl, if_pos k2]
        · rw [decide_eq_false k2, if_neg (by decide), if_neg k2]
    refine SS_set (x := .int (min (q.2 - s) (nearest (drawn ps (plc ps q.1) s) (plc ps q.1)))) 8 (E_min2 h (E_var 3) (EP_call (w_nearest h) (A2 (E_var 2) (E_var 5)) ⟨_, _, gs, tg, rfl, rfl⟩)) ?_
    unfold kindsF at hk
    rw [if_pos hlt, hplc] at hk
    generalize hm : min (q.2 - s) (nearest (drawn ps (plc ps q.1) s) (plc ps q.1)) = mm at hk ⊢
    refine SS_append (ds := pre.map ciD) 4 (E_tup (A2 (E_var 7) (E_var 8))) (by rw [List.length_map]; omega) ?_
    refine SS_par (i := 2) (j := 3) (AL_cons (E.l (EP_call (w_drawn_in h) (A_cons (E_var 2) (A2 (E_var 5) (E_var 8))) ⟨_, _, _, gs, rfl, rfl⟩)) (AL_cons (E_sub (E_var 3) (E_var 8)).l AL_nil)) ?_
    rw [drawn_add s0 (by omega)] at hk ⊢
    have es : q.2 - s - mm = q.2 - (s + mm) := by omega
    rw [es] at hk ⊢
    refine SS_nil ⟨(q.2 - (s + mm)).toNat, [some (.d (.std ps)), some (.d (rowD q)), some (.d (.std (drawn ps (plc ps q.1) (s + mm)))), some (.d (.int (q.2 - (s + mm)))), some (.own ((pre ++ [(kindAt (drawn ps (plc ps q.1) s) q.1, mm)]).map ciD)), none, none, none, none], by omega, ?_, s + mm, pre ++ [(kindAt (drawn ps (plc ps q.1) s) q.1, mm)], f', by omega, by omega, rfl, by omega, by simp; omega, by rw [← hk]; simp, rfl⟩
    rw [List.map_append]
    exact Le.keep (Le.keep (Le.keep (Le.keep (Le.keep (Le.drop (Le.drop (Le.drop (Le.drop Le.nil))))))))
  · have hn0 : ¬ 0 < q.2 - s := of_decide_eq_false hp
    have e : s = q.2 := by omega
    have hk2 : pre = rowKinds ps q := by
      rw [← hk]
      cases f with
      | zero => simp [kindsF]
      | succ f => unfold kindsF; rw [if_neg hn0, List.append_nil]
    refine SS_give 4 ?_
    refine SS_ret (E_tup (A2 (E_var 4) (E_var 2))) ?_
    show _ = D.tup [cisD (rowKinds ps q), .std (goRow ps q)]
    rw [← hk2, e]; rfl
theorem w_script_kinds : FnG M 10 "script_kinds" false (R_sk fun ps sc => .lst ((kindsOf ps sc).map cisD)) := by
  refine h.fnG 65 52 fs_script_kinds bn_script_kinds R_sk.len ?_
  rintro Z ds P - ⟨ps, sc, gd, ok, ⟨hl, h5⟩, rfl, rfl⟩
  refine SS_par (i := 2) (j := 3) (AL_cons (EL_lst A_nil) (AL_cons (E_var 0).l AL_nil)) ?_
  refine SS_fold (l := sc.zipIdx) (gf := fun q => D.tup [.int (q.2 : Int), rowD q.1]) (IT.of (IT_enum (E_var 1) (h.free 107)) (enumD_map _ _)) (fun s : List (List (Int × Int)) × List Per => [some (.d (.std ps)), some (.d (scD sc)), some (.own (s.1.map cisD)), some (.d (.std s.2)), none, none, none]) skStep ([], ps) Le.rfl' ?_ ?_
  · rintro s pre x post e1 e2
    obtain ⟨_, k1, k2⟩ := sk_fold pre ([], ps)
    rw [← e2] at k1 k2
    have e3 : sc = pre.map (·.1) ++ x.1 :: post.map (·.1) := by
      have : sc = (sc.zipIdx).map (·.1) := (zipIdx_fst sc).symm
      rw [this, e1, List.map_append, List.map_cons]
    have ok2 := ok
    rw [e3, ScOk_app] at ok2
    have gs : Good s.2 := by rw [k1]; exact after_good _ gd
    have ro : rowOk s.2 x.1 := by rw [k1]; exact ok2.2.1
    have x5 : x.1.2 ≤ 500 := h5 _ (by rw [e3]; simp)
    have ll : s.1.length < 500 := by
      have := congrArg List.length e3
      simp at this k2; omega
    refine ⟨_, _, G_2 (G_name 4) (G_name 5), ?_⟩
    refine SS_set (x := .tup [cisD (rowKinds s.2 x.1), .std (goRow s.2 x.1)]) 6 (EP_call (w_row_kinds h) (A2 (E_var 3) (E_var 5)) ⟨_, _, gs, ro, x5, rfl, rfl⟩) ?_
    refine SS_ifF (T_isN (E_var 6)) ?_
    refine SS_append (ds := s.1.map cisD) 2 (E_ixT (d := cisD (rowKinds s.2 x.1)) (E_var 6) E_int) (by rw [List.length_map]; omega) ?_
    refine SS_set 3 (E_ixT (d := .std (goRow s.2 x.1)) (E_var 6) E_int) ?_
    refine SS_nil ?_
    show Le [_, _, some (.own ((s.1 ++ [rowKinds s.2 x.1]).map cisD)), some (.d (.std (goRow s.2 x.1))), none, none, none] _
    rw [List.map_append]
    exact Le.keep (Le.keep (Le.keep (Le.keep (Le.drop (Le.drop (Le.drop Le.nil))))))
  · refine SS_give 2 ?_
    refine SS_ret (E_var 2) ?_
    obtain ⟨k0, _, _⟩ := sk_fold sc.zipIdx ([], ps)
    show D.lst ((sc.zipIdx.foldl skStep ([], ps)).1.map cisD) = _
    rw [k0, zipIdx_fst]; rfl
theorem w_tidy_script : FnG M 12 "tidy_script" false R_tidyS := by
  refine h.fnG 67 54 fs_tidy_script bn_tidy_script (by rintro ds P ⟨ps, sc, _, _, _, _, _, _, rfl, rfl⟩; rfl) ?_
  rintro Z ds P - ⟨ps, sc, gd, ok, hl, il, h1, h2, rfl, rfl⟩
  refine SS_retP (EP_call (w_lead_script h) (A_cons (E_var 0) (A2 (EP_call (w_walked h) (A2 (E_var 0) (E_var 1)) ⟨_, _, gd, ok, hl, rfl, rfl⟩) (EP_call (w_calls_of h) (A1 (E_var 1)) ⟨_, hl, rfl, rfl⟩))) ⟨_, _, _, gd, after_good sc gd, after_like sc ps, il, h1, h2, rfl, rfl⟩) fun x hx => hx
end
end OC
set_option maxHeartbeats 4000000
/-! Walks: choosing. -/
namespace OC
open PySem PySem.Spec PyProof.Rows L2
def calledBy (ps : List Per) (n : Str) : List Per := drawn ps (plc ps n) 1
def leadsBy (ps qs : List Per) (n : Str) : Bool := (paper (calledBy ps n) qs).isL
def onOf (ps qs : List Per) : List Str := (callers ps).filter (leadsBy ps qs)
def barOf (ps qs : List Per) : List Str := (callers ps).filter fun n => !leadsBy ps qs n
def lostBy (ps qs : List Per) (n : Str) : Int × Int := ((leadB (calledBy ps n) qs).1 - ((leadB ps qs).1 - 1), (leadB ps qs).2 - 1 - (leadB (calledBy ps n) qs).2)
theorem callers_len {ps : List Per} (gd : Good ps) : (callers ps).length ≤ 8 := by
  have h1 : (callers ps).length ≤ ((stops ps).map (firstAt ps)).length := List.length_filter_le _ _
  have := stops_len ps
  have := gd.len
  rw [List.length_map] at h1; omega
theorem callers_at {ps : List Per} {n : Str} (hn : n ∈ callers ps) : n ∈ ps.map (·.nm) ∧ canCall ps n = true := by
  obtain ⟨h1, h2⟩ := List.mem_filter.mp hn
  obtain ⟨y, hy, rfl⟩ := List.mem_map.mp h1
  exact ⟨(firstAt_at hy).2, h2⟩
def R_lostBy : Rel := fun ds P => ∃ ps qs n, Good ps ∧ Good qs ∧ Like ps qs ∧ (paper ps qs).isL = true ∧ n ∈ onOf ps qs ∧ ds = [.std ps, .std qs, .str n] ∧ P = fun x => x = ciD (lostBy ps qs n)
section
variable {M : Mo} (h : Hd M)
include h
theorem w_callers_on : FnG M 11 "callers_on" false (R_paperL fun ps qs => strsD (onOf ps qs)) := by
  refine h.fnG 68 55 fs_callers_on bn_callers_on R_paperL.len ?_
  rintro Z ds P - ⟨ps, qs, gp, gq, lk, il, rfl, rfl⟩
  have lc := callers_len gp
  refine SS_exprP (EP_call (w_lead_bounds h) (A2 (E_var 0) (E_var 1)) ⟨_, _, gp, gq, lk, il, rfl, rfl⟩) ?_
  refine SS_ret (E.of (E_lcc (l := callers ps) (gf := D.str) [("name", 2)] (leadsBy ps qs) D.str (fun n => n) (IT_list (EP_call (w_callers h) (A1 (E_var 0)) ⟨_, gp, rfl, rfl⟩)) (fun n hn => ⟨_, _, G_name 2, by decide, .inr ⟨_, rfl, T_val (EP_call (w_leads h) (A2 (EP_call (w_called h) (A2 (E_var 0) (E_var 2)) ⟨_, _, gp, (callers_at hn).1, (callers_at hn).2, rfl, rfl⟩) (E_var 1)) ⟨_, _, drawn_good gp _ _, gq, (drawn_like ps _ _).sy.tr lk, rfl, rfl⟩)⟩, fun _ => E_var 2⟩) (by omega)) ?_) rfl
  rw [List.map_id']; rfl
theorem w_callers_barring : FnG M 11 "callers_barring" false (R_paperL fun ps qs => strsD (barOf ps qs)) := by
  refine h.fnG 69 56 fs_callers_barring bn_callers_barring R_paperL.len ?_
  rintro Z ds P - ⟨ps, qs, gp, gq, lk, il, rfl, rfl⟩
  have lc := callers_len gp
  refine SS_exprP (EP_call (w_lead_bounds h) (A2 (E_var 0) (E_var 1)) ⟨_, _, gp, gq, lk, il, rfl, rfl⟩) ?_
  refine SS_ret (E.of (E_lcc (l := callers ps) (gf := D.str) [("name", 2)] (fun n => !leadsBy ps qs n) D.str (fun n => n) (IT_list (EP_call (w_callers h) (A1 (E_var 0)) ⟨_, gp, rfl, rfl⟩)) (fun n hn => ⟨_, _, G_name 2, by decide, .inr ⟨_, rfl, T_not (T_val (EP_call (w_leads h) (A2 (EP_call (w_called h) (A2 (E_var 0) (E_var 2)) ⟨_, _, gp, (callers_at hn).1, (callers_at hn).2, rfl, rfl⟩) (E_var 1)) ⟨_, _, drawn_good gp _ _, gq, (drawn_like ps _ _).sy.tr lk, rfl, rfl⟩))⟩, fun _ => E_var 2⟩) (by omega)) ?_) rfl
  rw [List.map_id']; rfl
theorem w_lost_by : FnG M 11 "lost_by" false R_lostBy := by
  refine h.fnG 70 57 fs_lost_by bn_lost_by (by rintro ds P ⟨ps, qs, n, _, _, _, _, _, rfl, rfl⟩; rfl) ?_
  rintro Z ds P - ⟨ps, qs, n, gp, gq, lk, il, hn, rfl, rfl⟩
  obtain ⟨h1, h2⟩ := List.mem_filter.mp hn
  obtain ⟨h3, h4⟩ := callers_at h1
  refine SS_asg (E.of (EP_call (w_lead_bounds h) (A2 (E_var 0) (E_var 1)) ⟨_, _, gp, gq, lk, il, rfl, rfl⟩) rfl) (G_2 (x := .int (leadB ps qs).1) (y := .int (leadB ps qs).2) (G_name 3) (G_name 4)) ?_
  refine SS_asg (E.of (EP_call (w_lead_bounds h) (A2 (EP_call (w_called h) (A2 (E_var 0) (E_var 2)) ⟨_, _, gp, h3, h4, rfl, rfl⟩) (E_var 1)) ⟨_, _, drawn_good gp _ _, gq, (drawn_like ps _ _).sy.tr lk, h2, rfl, rfl⟩) rfl) (G_2 (x := .int (leadB (calledBy ps n) qs).1) (y := .int (leadB (calledBy ps n) qs).2) (G_name 5) (G_name 6)) ?_
  exact SS_ret (E_tup (A2 (E_sub (E_var 5) (E_sub (E_var 3) E_int)) (E_sub (E_sub (E_var 4) E_int) (E_var 6)))) rfl
omit h in
theorem on_len {ps : List Per} (gd : Good ps) (qs : List Per) : (onOf ps qs).length ≤ 8 := Nat.le_trans (List.length_filter_le _ _) (callers_len gd)
theorem w_fewest_callers : FnG M 12 "fewest_callers" false (R_paperL fun ps qs => strsD ((onOf ps qs).filter fun n => decide ((lostBy ps qs n).1 = 0))) := by
  refine h.fnG 71 58 fs_fewest_callers bn_fewest_callers R_paperL.len ?_
  rintro Z ds P - ⟨ps, qs, gp, gq, lk, il, rfl, rfl⟩
  have lc := on_len gp qs
  refine SS_ret (E.of (E_lcc (l := onOf ps qs) (gf := D.str) [("name", 2)] (fun n => decide ((lostBy ps qs n).1 = 0)) D.str (fun n => n) (IT_list (EP_call (w_callers_on h) (A2 (E_var 0) (E_var 1)) ⟨_, _, gp, gq, lk, il, rfl, rfl⟩)) (fun n hn => ⟨_, _, G_name 2, by decide, .inr ⟨_, rfl, T_cmp (E_ixT (d := .int (lostBy ps qs n).1) (EP_call (w_lost_by h) (A_cons (E_var 0) (A2 (E_var 1) (E_var 2))) ⟨_, _, _, gp, gq, lk, il, hn, rfl, rfl⟩) E_int) E_int (eqI _ _)⟩, fun _ => E_var 2⟩) (by omega)) ?_) rfl
  rw [List.map_id']
theorem w_most_callers : FnG M 12 "most_callers" false (R_paperL fun ps qs => strsD ((onOf ps qs).filter fun n => decide ((lostBy ps qs n).2 = 0))) := by
  refine h.fnG 72 59 fs_most_callers bn_most_callers R_paperL.len ?_
  rintro Z ds P - ⟨ps, qs, gp, gq, lk, il, rfl, rfl⟩
  have lc := on_len gp qs
  refine SS_ret (E.of (E_lcc (l := onOf ps qs) (gf := D.str) [("name", 2)] (fun n => decide ((lostBy ps qs n).2 = 0)) D.str (fun n => n) (IT_list (EP_call (w_callers_on h) (A2 (E_var 0) (E_var 1)) ⟨_, _, gp, gq, lk, il, rfl, rfl⟩)) (fun n hn => ⟨_, _, G_name 2, by decide, .inr ⟨_, rfl, T_cmp (E_ixT (d := .int (lostBy ps qs n).2) (EP_call (w_lost_by h) (A_cons (E_var 0) (A2 (E_var 1) (E_var 2))) ⟨_, _, _, gp, gq, lk, il, hn, rfl, rfl⟩) E_int) E_int (eqI _ _)⟩, fun _ => E_var 2⟩) (by omega)) ?_) rfl
  rw [List.map_id']
end
end OC
set_option maxHeartbeats 4000000
/-! Walks: meeting. -/
namespace OC
open PySem PySem.Spec PyProof.Rows L2
def callN (ps : List Per) : Int × Int := (max (oddW ps) (evenW ps), evenW ps + (topH ps).1)
def R_odd (f : List Per → D) : Rel := fun ds P => ∃ ps, Good ps ∧ vsum ps % 2 = 1 ∧ ds = [.std ps] ∧ P = fun x => x = f ps
theorem R_odd.len {f : List Per → D} : ∀ ds P, R_odd f ds P → ds.length = 1 := by rintro ds P ⟨ps, _, _, rfl, rfl⟩; rfl
def R_num (f : List Per → Int → D) : Rel := fun ds P => ∃ ps n, Good ps ∧ vsum ps % 2 = 1 ∧ (callN ps).1 ≤ n ∧ n ≤ (callN ps).2 ∧ ds = [.std ps, .int n] ∧ P = fun x => x = f ps n
theorem R_num.len {f : List Per → Int → D} : ∀ ds P, R_num f ds P → ds.length = 2 := by rintro ds P ⟨ps, n, _, _, _, _, rfl, rfl⟩; rfl
def stretchesOf (ps : List Per) : List Pc := (gaps ps).map fun q => ⟨q.odd, q.width, firstAt ps q.left⟩
def sgP (p : Pc) : Int := if p.odd then p.width else -p.width
def partHit (height here : Int) (p : Pc) : Bool := decide (min here (here + sgP p) ≤ height) && decide (height ≤ max here (here + sgP p))
def partF (height : Int) : Int → List Pc → List Pc → List Pc × List Pc
  | _, left, [] => (left, [])
  | here, left, p :: rest => if here = height then (left, p :: rest) else if partHit height here p then (left ++ [⟨p.odd, absI (height - here), p.nm⟩], ⟨p.odd, p.width - absI (height - here), p.nm⟩ :: rest) else partF height (here + sgP p) (left ++ [p]) rest
def partOk (height : Int) : Int → List Pc → Prop
  | here, [] => here = height
  | here, p :: rest => here = height ∨ partHit height here p = true ∨ partOk height (here + sgP p) rest
def R_parted : Rel := fun ds P => ∃ (l : List Pc) (height : Int), l.length ≤ 100 ∧ partOk height 0 l ∧ ds = [pcsD l, .int height] ∧ P = fun x => x = .tup [pcsD (partF height 0 [] l).1, pcsD (partF height 0 [] l).2]
theorem cut_one (x : D) (w : Int) : cutL [x] none (some w) = if 0 < w then [x] else [] := by
  show ([x].drop 0).take (HT.sIx 1 1 (some w) - 0) = _
  show [x].take ((if w < 0 then (w + ((1 : Nat) : Int)).toNat else min w.toNat 1) - 0) = _
  by_cases h : 0 < w
  · rw [if_pos h, if_neg (by omega)]
    have : min w.toNat 1 - 0 = 1 := by omega
    rw [this]; rfl
  · rw [if_neg h]
    have : (if w < 0 then (w + ((1 : Nat) : Int)).toNat else min w.toNat 1) - 0 = 0 := by split <;> omega
    rw [this]; rfl
theorem cut_last (xs : List D) (x : D) : cutL (xs ++ [x]) none (some (-1)) = xs := by
  show ((xs ++ [x]).drop 0).take (HT.sIx (xs ++ [x]).length (xs ++ [x]).length (some (-1)) - 0) = _
  have : HT.sIx (xs ++ [x]).length (xs ++ [x]).length (some (-1)) - 0 = xs.length := by
    show (if (-1 : Int) < 0 then ((-1 : Int) + ((xs ++ [x]).length : Int)).toNat else min (-1 : Int).toNat (xs ++ [x]).length) - 0 = _
    rw [if_pos (by decide), List.length_append, List.length_singleton]; omega
  rw [this]; simp
section
variable {M : Mo} (h : Hd M)
include h
theorem w_need_odd : FnG M 3 "need_odd" false (R_odd fun _ => .non) := by
  refine h.fnG 73 60 fs_need_odd bn_need_odd R_odd.len ?_
  rintro Z ds P - ⟨ps, gd, ho, rfl, rfl⟩
  refine SS_ifF (T_cmp (E_mod (EP_meth0 h.cls (w_S_voices h) (E_var 0) ⟨_, gd, rfl, rfl⟩) E_int) E_int (eqI _ _)) ?_ (by rw [ho]; rfl)
  exact SS_nil rfl
theorem w_call_numbers : FnG M 6 "call_numbers" false (R_odd fun ps => ciD (callN ps)) := by
  refine h.fnG 74 61 fs_call_numbers bn_call_numbers R_odd.len ?_
  rintro Z ds P - ⟨ps, gd, ho, rfl, rfl⟩
  refine SS_exprP (EP_call (w_need_odd h) (A1 (E_var 0)) ⟨_, gd, ho, rfl, rfl⟩) ?_
  refine SS_set (x := .int (evenW ps)) 1 (EP_call (w_even_sum h) (A1 (E_var 0)) ⟨_, gd, rfl, rfl⟩) ?_
  exact SS_ret (E_tup (A2 (E_max2 h (EP_call (w_odd_sum h) (A1 (E_var 0)) ⟨_, gd, rfl, rfl⟩) (E_var 1)) (E_add (E_var 1) (E_ixT (d := .int (topH ps).1) (EP_call (w_greatest_height h) (A1 (E_var 0)) ⟨_, gd, rfl, rfl⟩) E_int)))) rfl
theorem w_need_number : FnG M 7 "need_number" false (R_num fun _ _ => .non) := by
  refine h.fnG 75 62 fs_need_number bn_need_number R_num.len ?_
  rintro Z ds P - ⟨ps, n, gd, ho, h1, h2, rfl, rfl⟩
  refine SS_asg (E.of (EP_call (w_call_numbers h) (A1 (E_var 0)) ⟨_, gd, ho, rfl, rfl⟩) rfl) (G_2 (x := .int (callN ps).1) (y := .int (callN ps).2) (G_name 2) (G_name 3)) ?_
  refine SS_ifF (T_or (c' := false) (T_not (T_val (EP_call (w_is_integer h) (A1 (E_var 1)) ⟨_, rfl, rfl⟩))) fun _ => T.of (T_not (T_chain (E_var 2) (E_var 1) (fun _ => E_var 3) (leI _ _) fun _ => leI _ _)) (by rw [decide_eq_true h1, decide_eq_true h2]; rfl)) ?_
  exact SS_nil rfl
theorem w_share_of : FnG M 8 "share_of" false (R_num fun ps n => .tup [.int (n - evenW ps), .int (oddW ps + evenW ps - n), .int (n - oddW ps)]) := by
  refine h.fnG 76 63 fs_share_of bn_share_of R_num.len ?_
  rintro Z ds P - ⟨ps, n, gd, ho, h1, h2, rfl, rfl⟩
  refine SS_exprP (EP_call (w_need_number h) (A2 (E_var 0) (E_var 1)) ⟨_, _, gd, ho, h1, h2, rfl, rfl⟩) ?_
  refine SS_par (i := 2) (j := 3) (AL_cons (l := .d (.int (oddW ps))) (E.l (EP_call (w_odd_sum h) (A1 (E_var 0)) ⟨_, gd, rfl, rfl⟩)) (AL_cons (l := .d (.int (evenW ps))) (E.l (EP_call (w_even_sum h) (A1 (E_var 0)) ⟨_, gd, rfl, rfl⟩)) AL_nil)) ?_
  exact SS_ret (E_tup (A_cons (E_sub (E_var 1) (E_var 3)) (A2 (E_sub (E_add (E_var 2) (E_var 3)) (E_var 1)) (E_sub (E_var 1) (E_var 2))))) rfl
theorem w_stretches : FnG M 4 "stretches" false (R1 fun ps => pcsD (stretchesOf ps)) := by
  refine h.fnG 77 64 fs_stretches bn_stretches R1.len ?_
  rintro Z ds P - ⟨ps, gd, rfl, rfl⟩
  have lg := gaps_le gd
  refine SS_ret (E_lcm (l := gaps ps) (gf := gpD) [("left", 1), ("width", 2), ("kind", 3)] pcD (fun q => ⟨q.odd, q.width, firstAt ps q.left⟩) (IT_list (EP_call (w_gaps h) (A1 (E_var 0)) ⟨_, gd, rfl, rfl⟩)) (fun q hq => ⟨_, _, G_3 (G_name 1) (G_name 2) (G_name 3), by decide, E_tup (A_cons (E_var 3) (A2 (E_var 2) (E_ixL (d := .str (firstAt ps q.left)) (EP_meth h.cls (w_S_at h) (E_var 0) (A1 (E_var 1)) ⟨_, _, gd, rfl, rfl⟩) E_int ?_)))⟩) (by omega)) rfl
  exact atI_zero (by rw [List.getElem?_map, (firstAt_at (gaps_left hq)).1]; rfl)
theorem w_parted : FnG M 1 "parted" false R_parted := by
  refine h.fnG 78 65 fs_parted bn_parted (by rintro ds P ⟨l, n, _, _, rfl, rfl⟩; rfl) ?_
  rintro Z ds P - ⟨l, height, hl, ok, rfl, rfl⟩
  refine SS_par3 (i := 2) (j := 3) (l := 4) (AL_cons (E_lst A_nil).l (AL_cons (E_listL h (E_var 0)).l (AL_cons E_int.l AL_nil))) ?_
  refine SS_while (fun m r' => ∃ (left rest : List Pc) (here : Int), m = rest.length ∧ left.length + rest.length ≤ 100 ∧ partOk height here rest ∧ partF height here left rest = partF height 0 [] l ∧
    r' = [some (.d (pcsD l)), some (.d (.int height)), some (.d (pcsD left)), some (.d (pcsD rest)), some (.d (.int here)), none, none, none, none, none]) l.length Le.rfl' ⟨[], l, 0, rfl, by simpa using hl, ok, rfl, rfl⟩ ?_
  rintro m r' ⟨left, rest, here, rfl, hm, ok', hf, rfl⟩
  have big : (10000 : Nat) ≤ sizeLine := by decide
  refine ⟨_, T_cmp (E_var 4) (E_var 1) (neI _ _), fun hp => ?_, fun hp => ?_⟩
  · have hne : here ≠ height := of_decide_eq_true hp
    cases rest with
    | nil => exact absurd ok' hne
    | cons p rest =>
      have e1 : cutL (List.map pcD (p :: rest)) (some ((1 : Nat) : Int)) none = rest.map pcD := by rw [cutL_drop]; rfl
      have e2 : cutL (List.map pcD (p :: rest)) none (some ((1 : Nat) : Int)) = [pcD p] := by rw [cutL_take]; rfl
      refine SS_asg (E_ixL (d := pcD p) (E_var 3) E_int (atI_zero rfl)) (G_3 (G_name 5) (G_name 6) (G_name 7)) ?_
      refine SS_set (x := .int (here + sgP p)) 8 (E.of (E_add (E_var 4) (E.of (E_if (T.of (T_cmp (E_var 5) E_str (eqS _ _)) (kind_odd _)) (fun _ => E_var 6) (fun _ => E_neg (E_var 6))) (y := .int (sgP p)) (by unfold sgP; cases p.odd <;> rfl))) rfl) ?_
      refine SS_if (T_chain (E_min2 h (E_var 4) (E_var 8)) (E_var 1) (fun _ => E_max2 h (E_var 4) (E_var 8)) (leI _ _) fun _ => leI _ _) (fun hq => ?_) fun hq => ?_
      · have hq' : partHit height here p = true := hq
        refine SS_set (x := .int (absI (height - here))) 9 (E_abs h (E_sub (E_var 1) (E_var 4))) ?_
        refine SS_ret (E_tup (A2 (E_cat (E_var 2) (E_lst (A1 (E_tup (A_cons (E_var 5) (A2 (E_var 9) (E_var 7)))))) ?_) (E_cat (E_lst (A1 (E_tup (A_cons (E_var 5) (A2 (E_sub (E_var 6) (E_var 9)) (E_var 7)))))) (E_slL (i := some ((1 : Nat) : Int)) (j := none) (E_var 3) (.inr ⟨_, _, rfl, rfl, E_int⟩) (.inl ⟨rfl, rfl⟩)) ?_))) ?_
        · simp only [List.length_map, List.length_singleton]; simp at hm; omega
        · rw [e1]; simp only [List.length_map, List.length_singleton]; simp at hm; omega
        · rw [e1]
          show _ = D.tup [pcsD (partF height 0 [] l).1, pcsD (partF height 0 [] l).2]
          rw [← hf]; unfold partF; rw [if_neg hne, if_pos hq']
          show _ = D.tup [.lst (List.map pcD (left ++ [_])), _]
          rw [List.map_append]; rfl
      · have hq' : ¬ partHit height here p = true := fun z => nomatch (z.symm.trans hq)
        refine SS_nil (SS_par3 (i := 2) (j := 3) (l := 4) (AL_cons (l := .d (pcsD (left ++ [p]))) (E.l (E.of (E_cat (E_var 2) (E_slL (i := none) (j := some ((1 : Nat) : Int)) (E_var 3) (.inl ⟨rfl, rfl⟩) (.inr ⟨_, _, rfl, rfl, E_int⟩)) ?_) ?_)) (AL_cons (l := .d (pcsD rest)) (E.l (E.of (E_slL (i := some ((1 : Nat) : Int)) (j := none) (E_var 3) (.inr ⟨_, _, rfl, rfl, E_int⟩) (.inl ⟨rfl, rfl⟩)) (congrArg D.lst e1))) (AL_cons (E_var 8).l AL_nil))) ?_)
        · rw [e2]; simp only [List.length_map, List.length_singleton]; simp at hm; omega
        · rw [e2, ← List.map_singleton, ← List.map_append]
        · refine SS_nil ⟨rest.length, _, by simp, ?_, left ++ [p], rest, here + sgP p, rfl, by simp at hm ⊢; omega, ?_, ?_, rfl⟩
          · exact Le.keep (Le.keep (Le.keep (Le.keep (Le.keep (Le.drop (Le.drop (Le.drop (Le.drop (Le.drop Le.nil)))))))))
          · rcases ok' with k | k | k
            · exact absurd k hne
            · exact absurd k hq'
            · exact k
          · rw [← hf]; conv => rhs; unfold partF
            rw [if_neg hne, if_neg hq']
  · have he : here = height := Decidable.not_not.mp (of_decide_eq_false hp)
    refine SS_ret (E_tup (A2 (E_var 2) (E_var 3))) ?_
    show _ = D.tup [pcsD (partF height 0 [] l).1, pcsD (partF height 0 [] l).2]
    rw [← hf]
    cases rest with
    | nil => rfl
    | cons p rest => unfold partF; rw [if_pos he]
end
end OC
set_option maxHeartbeats 4000000
/-! Walks: meeting scripts; prices. -/
namespace OC
open PySem PySem.Spec PyProof.Rows L2
def meetCore (ps : List Per) (n : Int) : List Row := fallen (partF (n - evenW ps) 0 [] (stretchesOf ps)).1 ++ fallen (partF (n - evenW ps) 0 [] (stretchesOf ps)).2
def MeetOf (ps : List Per) (n : Int) (sc : List Row) : Prop := ∃ a b, IsFst ps a ∧ IsLst ps b ∧ sc = meetCore ps n ++ endsOf a b (n - evenW ps) (n - oddW ps)
theorem stretches_len {ps : List Per} (gd : Good ps) : (stretchesOf ps).length ≤ 8 := by unfold stretchesOf; rw [List.length_map]; exact gaps_le gd
theorem partF_len (height : Int) : ∀ (rest left : List Pc) (here : Int), (partF height here left rest).1.length + (partF height here left rest).2.length ≤ left.length + rest.length + 1
  | [], left, here => by simp [partF]
  | p :: rest, left, here => by
    unfold partF
    split
    · simp
    · split
      · simp; omega
      · have := partF_len height rest (left ++ [p]) (here + sgP p)
        simp at this ⊢; omega
theorem meetCore_len {ps : List Per} (gd : Good ps) (n : Int) : (meetCore ps n).length ≤ 9 := by
  have h1 := partF_len (n - evenW ps) (stretchesOf ps) [] 0
  have h2 := stretches_len gd
  have h3 := fallen_len (partF (n - evenW ps) 0 [] (stretchesOf ps)).1
  have h4 := fallen_len (partF (n - evenW ps) 0 [] (stretchesOf ps)).2
  unfold meetCore; rw [List.length_append]; simp at h1; omega
theorem MeetOf.len {ps : List Per} {n : Int} {sc : List Row} (gd : Good ps) (hs : MeetOf ps n sc) : sc.length ≤ 11 := by
  obtain ⟨a, b, _, _, rfl⟩ := hs
  have h1 := meetCore_len gd n
  have h2 : (endsOf a b (n - evenW ps) (n - oddW ps)).length ≤ 2 := List.length_filter_le _ _
  rw [List.length_append]; omega
def R_meet : Rel := fun ds P => ∃ ps n, Good ps ∧ vsum ps % 2 = 1 ∧ (callN ps).1 ≤ n ∧ n ≤ (callN ps).2 ∧ partOk (n - evenW ps) 0 (stretchesOf ps) ∧ ds = [.std ps, .int n] ∧ P = fun d => ∃ sc, MeetOf ps n sc ∧ d = scD sc
def R_judgeM : Rel := fun ds P => ∃ ps sc, Good ps ∧ ScOk ps sc ∧ sc.length ≤ 500 ∧ together (after ps sc) = true ∧ ds = [.std ps, scD sc] ∧ P = fun d => d = .non
section
variable {M : Mo} (h : Hd M)
include h
theorem w_fallen_meetscripts : FnG M 1 "fallen_meetscripts" false R_fallen := by
  refine h.fnG 79 66 fs_fallen_meetscripts bn_fallen_meetscripts (by rintro ds P ⟨l, _, rfl, rfl⟩; rfl) ?_
  rintro Z ds P - ⟨l, hl, rfl, rfl⟩
  have big : (10000 : Nat) ≤ sizeLine := by decide
  refine SS_par (i := 1) (j := 2) (AL_cons (EL_lst A_nil) (AL_cons (E_lst A_nil).l AL_nil)) ?_
  refine SS_fold (l := l) (gf := pcD) (IT_list (E_var 0)) (fun s : List Row × List (Bool × Int) => [some (.d (.lst (l.map pcD))), some (.own (s.1.map rowD)), some (.d (.lst (s.2.reverse.map wtD))), none, none, none, none, none]) fallStep ([], []) Le.rfl' ?_ ?_
  · rintro s pre x post e1 e2
    have hs : s.1.length + s.2.length ≤ 99 := by
      have h1 := fall_len pre ([], [])
      rw [← e2] at h1
      have := congrArg List.length e1
      simp at this h1; omega
    refine ⟨_, _, G_3 (G_name 3) (G_name 4) (G_name 5), ?_⟩
    refine SS_while (fun m r' => ∃ (rows : List Row) (left : Int) (stk : List (Bool × Int)), m = stk.length + (if 0 < left then 1 else 0) ∧ rows.length + m ≤ 100 ∧ s.1 ++ (fallPc x.odd x.nm x.width s.2).1 = rows ++ (fallPc x.odd x.nm left stk).1 ∧ (fallPc x.odd x.nm x.width s.2).2 = (fallPc x.odd x.nm left stk).2 ∧
        r' = [some (.d (.lst (l.map pcD))), some (.own (rows.map rowD)), some (.d (.lst (stk.reverse.map wtD))), some (.d (.str (kindS x.odd))), some (.d (.int left)), some (.d (.str x.nm)), none, none]) (s.2.length + (if 0 < x.width then 1 else 0)) Le.rfl' ⟨s.1, x.width, s.2, rfl, by split <;> omega, rfl, rfl, rfl⟩ ?_
    rintro m r' ⟨rows, left, stk, em, hm, ea, eb, rfl⟩
    have fin : ∀ {g' : Rho}, fallStep s x = (rows, if 0 < left then (x.odd, left) :: stk else stk) → (stk.reverse.map wtD ++ (if 0 < left then [wtD (x.odd, left)] else [])) = (fallStep s x).2.reverse.map wtD := fun e5 => by
      rw [e5]; simp only
      split
      · rw [List.reverse_cons, List.map_append]; rfl
      · rw [List.append_nil]
    cases stk with
    | nil =>
      refine ⟨_, (W_and (T_cmp (E_var 4) E_int (gtI _ _)) fun _ => W_and (c := false) (c' := false) (T.of (T_cmp (E_var 2) (E_lst A_nil) (neD (Sh_wt _) (.lst (n := 0) fun _ k => by simp at k) (eqv_nil _))) rfl) fun z => nomatch z).t, fun hp => by simp at hp, fun _ => ?_⟩
      have e5 : fallStep s x = (rows, if 0 < left then [(x.odd, left)] else []) := by
        unfold fallStep; rw [ea, eb]; unfold fallPc; simp
      refine SS_set 2 (E.of (E_cat (E_var 2) (E_slL (i := none) (j := some left) (E_lst (A1 (E_tup (A2 (E_var 3) (E_var 4))))) (.inl ⟨rfl, rfl⟩) (.inr ⟨_, _, rfl, rfl, E_var 4⟩)) ?_) (congrArg D.lst ((congrArg _ (cut_one _ _)).trans (fin (g' := []) e5)))) ?_
      · rw [cut_one]; split <;> simp <;> omega
      refine SS_nil ?_
      have e6 : (fallStep s x).1 = rows := by rw [e5]
      show Le [_, some (.own ((fallStep s x).1.map rowD)), some (.d (.lst ((fallStep s x).2.reverse.map wtD))), none, none, none, none, none] _
      rw [e6]
      exact Le.keep (Le.keep (Le.keep (Le.drop (Le.drop (Le.drop (Le.drop (Le.drop Le.nil)))))))
    | cons t st =>
      obtain ⟨k', w⟩ := t
      have er : ((k', w) :: st).reverse.map wtD = st.reverse.map wtD ++ [wtD (k', w)] := by rw [List.reverse_cons, List.map_append]; rfl
      have fin2 := @fin
      rw [er] at fin2 ⊢
      have el : atI (st.reverse.map wtD ++ [wtD (k', w)]) (-1) = some (wtD (k', w)) := atI_last (by simp)
      have hne : (st.reverse.map wtD ++ [wtD (k', w)]).isEmpty = false := by simp
      have hsh : Sh 2 (.lst (st.reverse.map wtD ++ [wtD (k', w)])) := by rw [← er]; exact Sh_wt _
      have hst : st.length ≤ 100 := by simp at em; omega
      refine ⟨_, (W_and (T_cmp (E_var 4) E_int (gtI _ _)) fun _ => W_and (c := true) (T.of (T_cmp (E_var 2) (E_lst A_nil) (neD hsh (.lst (n := 0) fun _ k => by simp at k) (eqv_nil _))) (by rw [hne]; rfl)) fun _ => W_and1 (T.of (T_cmp (E_ixT (d := .str (kindS k')) (E_ixL (d := wtD (k', w)) (E_var 2) (E_neg E_int) el) E_int) (E_var 3) (neS _ _)) (kindS_ne _ _))).t, fun hp => ?_, fun hp => ?_⟩
      · have hp2 : 0 < left ∧ k' ≠ x.odd := by simpa using hp
        refine SS_set (x := .int (min left w)) 6 (E_min2 h (E_var 4) (E_ixT (d := .int w) (E_ixL (d := wtD (k', w)) (E_var 2) (E_neg E_int) el) E_int)) ?_
        refine SS_append (ds := rows.map rowD) 1 (E_tup (A2 (E_var 5) (E_var 6))) (by rw [List.length_map]; omega) ?_
        refine SS_par (i := 4) (j := 7) (AL_cons (E_sub (E_var 4) (E_var 6)).l (AL_cons (E_sub (E_ixT (d := .int w) (E_ixL (d := wtD (k', w)) (E_var 2) (E_neg E_int) el) E_int) (E_var 6)).l AL_nil)) ?_
        refine SS_set 2 (E_cat (E_slL (i := none) (j := some (-1)) (E_var 2) (.inl ⟨rfl, rfl⟩) (.inr ⟨_, _, rfl, rfl, E_neg E_int⟩)) (E_slL (i := none) (j := some (w - min left w)) (E_lst (A1 (E_tup (A2 (E_ixT (d := .str (kindS k')) (E_ixL (d := wtD (k', w)) (E_var 2) (E_neg E_int) el) E_int) (E_var 7))))) (.inl ⟨rfl, rfl⟩) (.inr ⟨_, _, rfl, rfl, E_var 7⟩)) ?_) ?_
        · rw [cut_last, cut_one, List.length_map, List.length_reverse]; split <;> simp <;> omega
        rw [cut_last, cut_one]
        by_cases hlt : left < w
        · have e6 : min left w = left := by omega
          rw [e6, if_pos (by omega)]
          refine SS_nil ⟨st.length + 1 + 0, _, ?_, ?_, rows ++ [(x.nm, left)], 0, (k', w - left) :: st, ?_, ?_, ?_, ?_, rfl⟩
          · rw [em, if_pos hp2.1]; simp
          · show Le [_, some (.own ((rows ++ [(x.nm, left)]).map rowD)), some (.d (.lst (((k', w - left) :: st).reverse.map wtD))), _, some (.d (.int 0)), _, none, none] _
            rw [List.map_append, List.reverse_cons, List.map_append]
            have e0 : left - left = 0 := by omega
            rw [e0]
            exact Le.keep (Le.keep (Le.keep (Le.keep (Le.keep (Le.keep (Le.drop (Le.drop Le.nil)))))))
          · simp
          · rw [em, if_pos hp2.1] at hm; simp at hm ⊢; omega
          · rw [ea]; unfold fallPc; rw [if_pos hp2, if_pos hlt]; simp
          · rw [eb]; unfold fallPc; rw [if_pos hp2, if_pos hlt]; simp
        · have e6 : min left w = w := by omega
          rw [e6, if_neg (by omega), List.append_nil]
          refine SS_nil ⟨st.length + (if 0 < left - w then 1 else 0), _, ?_, ?_, rows ++ [(x.nm, w)], left - w, st, rfl, ?_, ?_, ?_, rfl⟩
          · rw [em, if_pos hp2.1]; simp; split <;> omega
          · show Le [_, some (.own ((rows ++ [(x.nm, w)]).map rowD)), some (.d (.lst (st.reverse.map wtD))), _, some (.d (.int (left - w))), _, none, none] _
            rw [List.map_append]
            exact Le.keep (Le.keep (Le.keep (Le.keep (Le.keep (Le.keep (Le.drop (Le.drop Le.nil)))))))
          · rw [em, if_pos hp2.1] at hm; simp at hm ⊢; split <;> omega
          · rw [ea]; conv => lhs; unfold fallPc
            rw [if_pos hp2, if_neg hlt]; simp
          · rw [eb]; conv => lhs; unfold fallPc
            rw [if_pos hp2, if_neg hlt]
      · have hp2 : ¬ (0 < left ∧ k' ≠ x.odd) := by simpa using hp
        have e5 : fallStep s x = (rows, if 0 < left then (x.odd, left) :: (k', w) :: st else (k', w) :: st) := by
          unfold fallStep; rw [ea, eb]; unfold fallPc; rw [if_neg hp2]; simp
        refine SS_set 2 (E.of (E_cat (E_var 2) (E_slL (i := none) (j := some left) (E_lst (A1 (E_tup (A2 (E_var 3) (E_var 4))))) (.inl ⟨rfl, rfl⟩) (.inr ⟨_, _, rfl, rfl, E_var 4⟩)) ?_) (congrArg D.lst ((congrArg _ (cut_one _ _)).trans (fin2 (g' := []) e5)))) ?_
        · rw [cut_one]; simp only [List.length_append, List.length_map, List.length_reverse, List.length_singleton]; split <;> simp <;> omega
        refine SS_nil ?_
        have e6 : (fallStep s x).1 = rows := by rw [e5]
        show Le [_, some (.own ((fallStep s x).1.map rowD)), some (.d (.lst ((fallStep s x).2.reverse.map wtD))), none, none, none, none, none] _
        rw [e6]
        exact Le.keep (Le.keep (Le.keep (Le.drop (Le.drop (Le.drop (Le.drop (Le.drop Le.nil)))))))
  · refine SS_give 1 ?_
    exact SS_ret (E_var 1) rfl
end
end OC
set_option maxHeartbeats 4000000
/-! Walks: meeting scripts; prices. -/
namespace OC
open PySem PySem.Spec PyProof.Rows L2
def Sml (i : Int) : Prop := -(2 ^ 64) < i ∧ i < 2 ^ 64
structure Prc where
  p0 : Int
  p1 : Int
  p2 : Int
abbrev prD (p : Prc) : D := .lst [.int p.p0, .int p.p1, .int p.p2]
def priceBy (ps qs : List Per) (p : Prc) (first : Int) : Int :=
  if decide (vsum ps % 2 = 1) then first * p.p0 + ((lost ps qs).1 - first) * p.p1 + ((lost ps qs).2 - (lost ps qs).1 + first) * p.p2
  else first * p.p0 + (lost ps qs).2 * p.p1 + ((lost ps qs).1 - (lost ps qs).2 - first) * p.p2
def smlBy (ps qs : List Per) (first : Int) : Prop := Sml first ∧ Sml ((lost ps qs).1 - first) ∧ Sml ((lost ps qs).2 - (lost ps qs).1 + first) ∧ Sml (lost ps qs).2 ∧ Sml ((lost ps qs).1 - (lost ps qs).2 - first)
def R_priceBy : Rel := fun ds P => ∃ ps qs p first, Good ps ∧ Good qs ∧ Like ps qs ∧ smlBy ps qs first ∧ ds = [.std ps, .std qs, prD p, .int first] ∧ P = fun x => x = .int (priceBy ps qs p first)
def leadPr (ps qs : List Per) (p : Prc) : Int × Int := (min (priceBy ps qs p (leastP ps qs).1) (priceBy ps qs p (mostP ps qs).1), max (priceBy ps qs p (leastP ps qs).1) (priceBy ps qs p (mostP ps qs).1))
def R_leadPr : Rel := fun ds P => ∃ ps qs p, Good ps ∧ Good qs ∧ Like ps qs ∧ (paper ps qs).isL = true ∧ smlBy ps qs (leastP ps qs).1 ∧ smlBy ps qs (mostP ps qs).1 ∧ ds = [.std ps, .std qs, prD p] ∧ P = fun x => x = ciD (leadPr ps qs p)
def cheapN (ps qs : List Per) (p : Prc) : Int := if decide (vsum ps % 2 = 0) then (lost ps qs).1 else (lost ps qs).2 + (if decide (priceBy ps qs p (leastP ps qs).1 ≤ priceBy ps qs p (mostP ps qs).1) then (leastP ps qs).1 else (mostP ps qs).1)
def R_cheap : Rel := fun ds P => ∃ ps qs p, Good ps ∧ Good qs ∧ Like ps qs ∧ (paper ps qs).isL = true ∧ smlBy ps qs (leastP ps qs).1 ∧ smlBy ps qs (mostP ps qs).1 ∧ ds = [.std ps, .std qs, prD p] ∧ P = fun d => ∃ sc, ScriptOf ps qs (sFirst ps qs (cheapN ps qs p)) (sLast ps qs (cheapN ps qs p)) sc ∧ d = scD sc
theorem cheap_in {ps qs : List Per} (il : (paper ps qs).isL = true) (p : Prc) : (leadB ps qs).1 ≤ cheapN ps qs p ∧ cheapN ps qs p ≤ (leadB ps qs).2 := by
  obtain ⟨_, _, hle⟩ := paper_leads il
  unfold leadB cheapN
  cases decide (vsum ps % 2 = 0) with
  | true => exact ⟨Int.le_refl _, Int.le_refl _⟩
  | false =>
    rw [if_neg (by decide), if_neg (by decide)]
    cases decide (priceBy ps qs p (leastP ps qs).1 ≤ priceBy ps qs p (mostP ps qs).1) with
    | true => rw [if_pos rfl]; exact ⟨Int.le_refl _, by simp only; omega⟩
    | false => rw [if_neg (by decide)]; exact ⟨by simp only; omega, Int.le_refl _⟩
section
variable {M : Mo} (h : Hd M)
include h
theorem w_meet_script : FnG M 9 "meet_script" false R_meet := by
  refine h.fnG 80 67 fs_meet_script bn_meet_script (by rintro ds P ⟨ps, n, _, _, _, _, _, rfl, rfl⟩; rfl) ?_
  rintro Z ds P - ⟨ps, n, gd, ho, h1, h2, pk, rfl, rfl⟩
  have ls := stretches_len gd
  have lp := partF_len (n - evenW ps) (stretchesOf ps) [] 0
  refine SS_exprP (EP_call (w_need_number h) (A2 (E_var 0) (E_var 1)) ⟨_, _, gd, ho, h1, h2, rfl, rfl⟩) ?_
  refine SS_asg (EP_call (w_share_of h) (A2 (E_var 0) (E_var 1)) ⟨_, _, gd, ho, h1, h2, rfl, rfl⟩) (G_3 (x := .int (n - evenW ps)) (y := .int (oddW ps + evenW ps - n)) (z := .int (n - oddW ps)) (G_name 2) (G_name 3) (G_name 4)) ?_
  refine SS_asg (EP_call (w_parted h) (A2 (EP_call (w_stretches h) (A1 (E_var 0)) ⟨_, gd, rfl, rfl⟩) (E_sub (E_var 1) (EP_call (w_even_sum h) (A1 (E_var 0)) ⟨_, gd, rfl, rfl⟩))) ⟨_, _, by omega, pk, rfl, rfl⟩) (G_2 (x := pcsD (partF (n - evenW ps) 0 [] (stretchesOf ps)).1) (y := pcsD (partF (n - evenW ps) 0 [] (stretchesOf ps)).2) (G_name 5) (G_name 6)) ?_
  refine SS_set (x := scD (meetCore ps n)) 7 (E.of (E_cat (EP_call (w_fallen_meetscripts h) (A1 (E_var 5)) ⟨_, by simp at lp; omega, rfl, rfl⟩) (EP_call (w_fallen_meetscripts h) (A1 (E_var 6)) ⟨_, by simp at lp; omega, rfl, rfl⟩) ?_) ?_) ?_
  · rw [← List.length_append, ← List.map_append, List.length_map]
    exact Nat.le_trans (show _ ≤ 9 from meetCore_len gd n) (by decide)
  · rw [← List.map_append]; rfl
  refine SS_setP 8 (EP_meth0 h.cls (w_S_line h) (E_var 0) ⟨_, gd, rfl, rfl⟩) ?_
  rintro x ⟨ns, hline, rfl⟩
  obtain ⟨a, b, ea, eb, fa, fb⟩ := line_ends gd hline
  refine SS_ret (E_cat (E_var 7) (E_lcc (l := [((a, n - evenW ps) : Row), (b, n - oddW ps)]) (gf := rowD) [("row", 9)] (fun q => decide (0 < q.2)) rowD (fun q => q) (IT_list (E_lst (A2 (E_tup (A2 (E_ixL (d := .str a) (E_var 8) E_int (atI_zero (by rw [List.getElem?_map, ea]; rfl))) (E_var 2))) (E_tup (A2 (E_ixL (d := .str b) (E_var 8) (E_neg E_int) (atI_last (by rw [List.getLast?_map, eb]; rfl))) (E_var 4)))))) (fun q hq => ⟨_, _, G_name 9, by decide, .inr ⟨_, rfl, T_cmp (E_ixT (d := .int q.2) (E_var 9) E_int) E_int (gtI _ _)⟩, fun _ => E_var 9⟩) (by simp)) ?_) ?_
  · rw [List.length_map, List.length_map, List.map_id']
    exact Nat.le_trans (Nat.add_le_add (meetCore_len gd n) (show _ ≤ 2 from List.length_filter_le _ _)) (by decide)
  · refine ⟨_, ⟨a, b, fa, fb, rfl⟩, ?_⟩
    rw [List.map_id', ← List.map_append]; rfl
theorem w_judge_meeting : FnG M 11 "judge_meeting" false R_judgeM := by
  refine h.fnG 81 68 fs_judge_meeting bn_judge_meeting (by rintro ds P ⟨ps, sc, _, _, _, _, rfl, rfl⟩; rfl) ?_
  rintro Z ds P - ⟨ps, sc, gd, ok, hl, ht, rfl, rfl⟩
  refine SS_ifF (T_not (T_val (E_callB (A2 (E_var 1) (E_tup (A2 (E_bty (n := "list") (h.free 111)) (E_bty (n := "tuple") (h.free 120))))) (clIsi2 (n := "list") (q := true) (q' := false) rfl rfl rfl) (h.free 109)))) ?_
  refine SS_set (x := .non) 2 (EP_call (w_first_bad h) (A2 (E_var 0) (E_var 1)) ⟨_, _, gd, ok, hl, rfl, rfl⟩) ?_
  refine SS_ifF (T_notN (E_var 2)) ?_
  refine SS_ret (E.of (E_if (v := .non) (T_val (EP_meth0 h.cls (w_S_is_together h) (EP_call (w_walked h) (A2 (E_var 0) (E_var 1)) ⟨_, _, gd, ok, hl, rfl, rfl⟩) ⟨_, after_good sc gd, rfl, rfl⟩)) (fun _ => E_non) fun z => ?_) (by rw [show decide ((stops (after ps sc)).length < 2) = true from ht]; rfl)) rfl
  exact nomatch (show true = false from ht.symm.trans z)
theorem w_price_by : FnG M 7 "price_by" false R_priceBy := by
  refine h.fnG 83 70 fs_price_by bn_price_by (by rintro ds P ⟨ps, qs, p, f, _, _, _, _, rfl, rfl⟩; rfl) ?_
  rintro Z ds P - ⟨ps, qs, p, first, gp, gq, lk, ⟨s1, s2, s3, s4, s5⟩, rfl, rfl⟩
  have e0 : atI [D.int p.p0, .int p.p1, .int p.p2] 0 = some (.int p.p0) := rfl
  have e1 : atI [D.int p.p0, .int p.p1, .int p.p2] 1 = some (.int p.p1) := rfl
  have e2 : atI [D.int p.p0, .int p.p1, .int p.p2] 2 = some (.int p.p2) := rfl
  refine SS_asg (E.of (EP_call (w_lost_sums h) (A2 (E_var 0) (E_var 1)) ⟨_, _, gp, gq, lk, rfl, rfl⟩) rfl) (G_2 (x := .int (lost ps qs).1) (y := .int (lost ps qs).2) (G_name 4) (G_name 5)) ?_
  refine SS_if (T_cmp (E_mod (EP_meth0 h.cls (w_S_voices h) (E_var 0) ⟨_, gp, rfl, rfl⟩) E_int) E_int (eqI _ _)) (fun hp => ?_) fun hp => ?_
  · refine SS_ret (E_add (E_add (E_mul (E_var 3) (E_ixL (E_var 2) E_int e0) (.inl s1)) (E_mul (E_sub (E_var 4) (E_var 3)) (E_ixL (E_var 2) E_int e1) (.inl s2))) (E_mul (E_add (E_sub (E_var 5) (E_var 4)) (E_var 3)) (E_ixL (E_var 2) E_int e2) (.inl s3))) ?_
    show _ = D.int (priceBy ps qs p first)
    unfold priceBy; rw [if_pos hp]
  · refine SS_nil (SS_ret (E_add (E_add (E_mul (E_var 3) (E_ixL (E_var 2) E_int e0) (.inl s1)) (E_mul (E_var 5) (E_ixL (E_var 2) E_int e1) (.inl s4))) (E_mul (E_sub (E_sub (E_var 4) (E_var 5)) (E_var 3)) (E_ixL (E_var 2) E_int e2) (.inl s5))) ?_)
    show _ = D.int (priceBy ps qs p first)
    unfold priceBy; rw [if_neg (by rw [hp]; decide)]
omit h in
theorem two_sorted (a b : Int) : ∀ ls : List Int, ls.Perm [a, b] → ls.Pairwise (· ≤ ·) → ls = [min a b, max a b] := by
  intro ls pm pw
  have hl := pm.length_eq
  match ls, hl with
  | [x, y], _ =>
    have hxy : x ≤ y := (List.pairwise_cons.mp pw).1 y List.mem_cons_self
    have hx : x = a ∨ x = b := by simpa using pm.subset (List.mem_cons_self (a := x) (l := [y]))
    have go : ∀ {u v w : Int}, [u, v].Perm [u, w] → v = w := fun {u v w} q => by simpa using (List.perm_cons u).mp q
    rcases hx with e | e
    · subst e
      have := go pm
      subst this
      rw [Int.min_eq_left hxy, Int.max_eq_right hxy]
    · subst e
      have := go (pm.trans (List.Perm.swap _ _ _))
      subst this
      rw [Int.min_eq_right hxy, Int.max_eq_left hxy]
theorem w_lead_prices : FnG M 10 "lead_prices" false R_leadPr := by
  refine h.fnG 84 71 fs_lead_prices bn_lead_prices (by rintro ds P ⟨ps, qs, p, _, _, _, _, _, _, rfl, rfl⟩; rfl) ?_
  rintro Z ds P - ⟨ps, qs, p, gp, gq, lk, il, s1, s2, rfl, rfl⟩
  refine SS_asg (E.of (EP_call (w_first_calls h) (A2 (E_var 0) (E_var 1)) ⟨_, _, gp, gq, lk, il, rfl, rfl⟩) rfl) (G_2 (x := .int (leastP ps qs).1) (y := .int (mostP ps qs).1) (G_name 3) (G_name 4)) ?_
  refine SS_set (x := intsD [min (priceBy ps qs p (leastP ps qs).1) (priceBy ps qs p (mostP ps qs).1), max (priceBy ps qs p (leastP ps qs).1) (priceBy ps qs p (mostP ps qs).1)]) 5 (E_callB (A1 (E_lst (A2 (EP_call (w_price_by h) (A_cons (E_var 0) (A_cons (E_var 1) (A2 (E_var 2) (E_var 3)))) ⟨_, _, _, _, gp, gq, lk, s1, rfl, rfl⟩) (EP_call (w_price_by h) (A_cons (E_var 0) (A_cons (E_var 1) (A2 (E_var 2) (E_var 4)))) ⟨_, _, _, _, gp, gq, lk, s2, rfl, rfl⟩)))) (clSorted (ns := [priceBy ps qs p (leastP ps qs).1, priceBy ps qs p (mostP ps qs).1]) (by simp) (two_sorted _ _)) (h.free 116)) ?_
  exact SS_ret (E_tup (A2 (E_ixL (d := .int (leadPr ps qs p).1) (E_var 5) E_int rfl) (E_ixL (d := .int (leadPr ps qs p).2) (E_var 5) E_int rfl))) rfl
theorem w_cheapest_script : FnG M 12 "cheapest_script" false R_cheap := by
  refine h.fnG 85 72 fs_cheapest_script bn_cheapest_script (by rintro ds P ⟨ps, qs, p, _, _, _, _, _, _, rfl, rfl⟩; rfl) ?_
  rintro Z ds P - ⟨ps, qs, p, gp, gq, lk, il, s1, s2, rfl, rfl⟩
  obtain ⟨c1, c2⟩ := cheap_in il p
  refine SS_asg (E.of (EP_call (w_first_calls h) (A2 (E_var 0) (E_var 1)) ⟨_, _, gp, gq, lk, il, rfl, rfl⟩) rfl) (G_2 (x := .int (leastP ps qs).1) (y := .int (mostP ps qs).1) (G_name 3) (G_name 4)) ?_
  refine SS_asg (E.of (EP_call (w_lost_sums h) (A2 (E_var 0) (E_var 1)) ⟨_, _, gp, gq, lk, rfl, rfl⟩) rfl) (G_2 (x := .int (lost ps qs).1) (y := .int (lost ps qs).2) (G_name 5) (G_name 6)) ?_
  refine SS_if (T_cmp (E_mod (EP_meth0 h.cls (w_S_voices h) (E_var 0) ⟨_, gp, rfl, rfl⟩) E_int) E_int (eqI _ _)) (fun hp => ?_) fun hp => ?_
  · have e : cheapN ps qs p = (lost ps qs).1 := by unfold cheapN; rw [if_pos hp]
    rw [e] at c1 c2
    refine SS_retP (EP_call (w_lead_script h) (A_cons (E_var 0) (A2 (E_var 1) (E_var 5))) ⟨_, _, _, gp, gq, lk, il, c1, c2, rfl, rfl⟩) fun x hx => ?_
    show ∃ sc, ScriptOf ps qs (sFirst ps qs (cheapN ps qs p)) (sLast ps qs (cheapN ps qs p)) sc ∧ _
    rw [e]; exact hx
  · have e : cheapN ps qs p = (lost ps qs).2 + (if decide (priceBy ps qs p (leastP ps qs).1 ≤ priceBy ps qs p (mostP ps qs).1) then (leastP ps qs).1 else (mostP ps qs).1) := by unfold cheapN; rw [if_neg (by rw [hp]; decide)]
    refine SS_nil (SS_set 7 (E_cmp (EP_call (w_price_by h) (A_cons (E_var 0) (A_cons (E_var 1) (A2 (E_var 2) (E_var 3)))) ⟨_, _, _, _, gp, gq, lk, s1, rfl, rfl⟩) (EP_call (w_price_by h) (A_cons (E_var 0) (A_cons (E_var 1) (A2 (E_var 2) (E_var 4)))) ⟨_, _, _, _, gp, gq, lk, s2, rfl, rfl⟩) (leI _ _)) ?_)
    refine SS_retP (EP_call (w_lead_script h) (A_cons (E_var 0) (A2 (E_var 1) (E.of (E_add (E_var 6) (E.of (E_if (T_val (E_var 7)) (fun _ => E_var 3) (fun _ => E_var 4)) (y := .int (if decide (priceBy ps qs p (leastP ps qs).1 ≤ priceBy ps qs p (mostP ps qs).1) then (leastP ps qs).1 else (mostP ps qs).1)) (by split <;> rfl))) (congrArg D.int e.symm)))) ⟨_, _, _, gp, gq, lk, il, c1, c2, rfl, rfl⟩) fun x hx => hx
end
end OC
set_option maxHeartbeats 4000000
/-! Two clauses; prices of scripts. -/
namespace OC
open PySem PySem.Spec PyProof.Rows L2
def bI (X : Cx) (scope : Scope) (tg it : Expr) : TI := fun σ H R => ∀ (s : Shared) (Hs : Hp) (Cc : Addr) (cl : List (Str × Addr)) (fp : List Addr), wI (X.blk s Hs scope (compEnvC scope cl Cc X.env) fp) tg it σ H R
theorem pi_b {X : Cx} {scope : Scope} {tg it : Expr} (s : Shared) (Hs : Hp) (Cc : Addr) (cl : List (Str × Addr)) (fp : List Addr) : PI (X.blk s Hs scope (compEnvC scope cl Cc X.env) fp) tg it (bI X scope tg it) := ⟨fun pins s' σ' H' Q' I' hh => pi_w.run pins s' σ' H' Q' I' (hh s Hs Cc cl fp)⟩
theorem tYes_ite {σ : L2.St} {H : Hp} {F G2 : Hp → Prop} (h : F H) : tYes σ H (fun b H3 => if b = true then F H3 else G2 H3) := by
  show (if (true : Bool) = true then F H else G2 H)
  rw [if_pos rfl]; exact h
section
variable {M : Mo} {g : G} {Z : Sc} {elt tg it tg1 it1 : Expr} {scope : Scope} {r : Rho} {pos : Pos} {α β : Type} {l : List α} {gf : α → D}
theorem E_lc2 (own : List (Str × Nat)) (i0 : Nat) (vs1 : List Nat) (m : α → List β) (gf1 : β → D) (c : α → β → D) (hi : IT M g Z tg it r (l.map gf))
    (hb : ∀ x ∈ l, GT M (g.blk scope) Z tg (gf x) (wipeR r (own.map (·.2))) ((wipeR r (own.map (·.2))).set i0 (some (.d (gf x)))) [i0] ∧ IT M (g.blk scope) Z tg1 it1 ((wipeR r (own.map (·.2))).set i0 (some (.d (gf x)))) ((m x).map gf1) ∧
      ∀ y ∈ m x, ∃ r2 is1, GT M (g.blk scope) Z tg1 (gf1 y) (wipeR ((wipeR r (own.map (·.2))).set i0 (some (.d (gf x)))) vs1) r2 is1 ∧ (∀ j ∈ is1, j ∈ vs1) ∧ E M (g.blk scope) Z elt r2 (c x y))
    (hn : (l.map fun x => (m x).length).sum ≤ 1000) (hi0 : i0 < r.length) (h00 : i0 ∈ own.map (·.2)) (hv : ∀ i ∈ vs1, i ∈ own.map (·.2)) (hs : ∀ env x, foldedSetIterable it env x = pure x := by intro _ _; rfl) (hs1 : ∀ env x, foldedSetIterable it1 env x = pure x := by intro _ _; rfl) (ok' : BlkOk g.N g.sc scope own := by exact ⟨rfl, by decide +kernel, by decide +kernel, by decide +kernel, by decide +kernel⟩) :
    E M g Z (.ListComp elt [⟨tg, it, [], 0⟩, ⟨tg1, it1, [], 0⟩] scope pos) r (.lst (l.flatMap fun x => (m x).map (c x))) := fun X ok B0 H0 B H σ R Q q => by
  refine ⟨_, pe_lc2 (own := own) (vs1 := vs1) ok.calm ok.nd pi_w (by rw [ok.N, ok.sc]; exact ok') hv pg_b pt_b pi_b pg_b pt_b pe_b (hs _) hs1, ?_⟩
  refine hi X ok B0 H0 B H σ R _ fun ds J B1 H1 pds f1 wk => ?_
  subst pds
  intro Dl hD
  have nH : H Dl = none := f1.free R.src hD
  have nB : B1 Dl = none := f1.s.n hD
  have nZ := R.src.ne nH
  have ulen : ∀ i x j, l[i]? = some x → j < (m x).length → ((l.take i).flatMap fun x => (m x).map (c x)).length + j < 1000 := fun i x j e hj => by
    have e1 : l = l.take i ++ x :: l.drop (i + 1) := by
      have hlt := (List.getElem?_eq_some_iff.mp e).1
      rw [← (List.getElem?_eq_some_iff.mp e).2, ← List.drop_eq_getElem_cons hlt, List.take_append_drop]
    have hn := hn
    rw [e1, List.map_append, List.map_cons, List.sum_append, List.sum_cons] at hn
    have e2 : ((l.take i).flatMap fun x => (m x).map (c x)).length = ((l.take i).map fun x => (m x).length).sum := by
      rw [List.length_flatMap]; congr 1; apply List.map_congr_left; intro x _; simp
    omega
  refine ⟨fun i k H' => k = l.length - i ∧ i ≤ l.length ∧ ∃ B' xs, Ex B1 B' ∧ Fr Z B H B' H' ∧ B' Dl = none ∧ H' Dl = some (.lst xs) ∧ RDs M.C Z.s B' ((l.take i).flatMap fun x => (m x).map (c x)) xs, ⟨l.length, rfl, Nat.zero_le _, B1, [], Ex.rfl', f1.grow R.src nH nB, nB, upd_same, .nil⟩, ?_⟩
  rintro i k H' ⟨rfl, hle, B', xs, eB, fr, nb, hx, rx⟩
  obtain ⟨wgo, wstop⟩ := wk B' H' eB fr.s fr.src i
  by_cases hlt : i < l.length
  · obtain ⟨x, ex⟩ : ∃ x, l[i]? = some x := ⟨l[i], by simp [hlt]⟩
    have hd1 : (l.map gf)[i]? = some (gf x) := by rw [List.getElem?_map, ex]; rfl
    obtain ⟨go, yl⟩ := wgo _ hd1
    have us : ((l.take (i + 1)).flatMap fun x => (m x).map (c x)) = ((l.take i).flatMap fun x => (m x).map (c x)) ++ (m x).map (c x) := by
      rw [List.take_succ, ex, List.flatMap_append]; simp
    refine .inr ⟨go, fun H3 => ∃ B' xs, Ex B1 B' ∧ Fr Z B H B' H3 ∧ B' Dl = none ∧ H3 Dl = some (.lst xs) ∧ RDs M.C Z.s B' ((l.take (i + 1)).flatMap fun x => (m x).map (c x)) xs, fun H3 q3 => ⟨l.length - (i + 1), by omega, rfl, hlt, q3⟩, fun v H'' y => ?_⟩
    obtain ⟨B'', f2, rd⟩ := yl v H'' y
    obtain ⟨gt, i1, inner⟩ := hb x (List.mem_of_getElem? ex)
    have Rw := ((R.step fr).wipe (own.map (·.2))).step f2
    intro s Hs Cc cl fp
    refine gt _ ok.blk B0 H0 B'' H'' _ v Rw rd _ fun σ2 R2 so => ⟨so.wipe (fun j hj => by rw [List.mem_singleton] at hj; subst hj; exact h00), ?_⟩
    have li : i0 < (L2.wipe σ (own.map (·.2))).length := by rw [wipe_length, R.len]; exact hi0
    have hr0 : ((wipeR r (own.map (·.2))).set i0 (some (L.d (gf x))))[i0]? = some (some (.d (gf x))) := List.getElem?_set_self (by rw [wipeR_len]; exact hi0)
    obtain ⟨v', ev', rv'⟩ := R2.at_ i0 _ hr0
    have es2 : σ2 = (L2.wipe σ (own.map (·.2))).set i0 (some v') := List.ext_getElem? fun j => by
      by_cases ej : i0 = j
      · subst ej; rw [ev', List.getElem?_set_self li]
      · rw [List.getElem?_set_ne ej]; exact so.2 j (by rw [List.mem_singleton]; exact fun z => ej z.symm)
    have rv2 : RD M.C Z.s B'' (gf x) v' := rv'
    have Rat : ∀ B5 H5, Fr Z B H B5 H5 → Ex B'' B5 → RS M.C Z B0 H0 B5 H5 ((wipeR r (own.map (·.2))).set i0 (some (.d (gf x)))) σ2 := fun B5 H5 f5 e5 => by
      rw [es2]
      exact ((R.step f5).wipe (own.map (·.2))).set (rv2.mono e5)
    intro s2 Hs2 Cc2 cl2 fp2
    refine ⟨_, pts_nil, tYes_ite ?_⟩
    intro s3 Hs3 Cc3 cl3 fp3
    refine i1 _ ok.blk B0 H0 B'' H'' σ2 R2 _ fun ds1 J1 B4 H4 pds1 f4 wk1 => ?_
    subst pds1
    have f24 := f2.tr f4 fr.src
    have fr4 := fr.tr f24 R.src
    have nb4 : B4 Dl = none := f24.hid _ _ hx nb
    have hx4 : H4 Dl = some (.lst xs) := f24.h _ _ hx nZ
    refine ⟨fun j k H' => k = (m x).length - j ∧ j ≤ (m x).length ∧ ∃ B5 xs, Ex B4 B5 ∧ Fr Z B H B5 H' ∧ B5 Dl = none ∧ H' Dl = some (.lst xs) ∧ RDs M.C Z.s B5 (((l.take i).flatMap fun x => (m x).map (c x)) ++ ((m x).take j).map (c x)) xs, ⟨_, rfl, Nat.zero_le _, B4, xs, Ex.rfl', fr4, nb4, hx4, by rw [List.take_zero, List.map_nil, List.append_nil]; exact rx.mono f24.b⟩, ?_⟩
    rintro j k H5 ⟨rfl, hle1, B5, xs5, eB5, fr5, nb5, hx5, rx5⟩
    obtain ⟨wgo1, wstop1⟩ := wk1 B5 H5 eB5 fr5.s fr5.src j
    by_cases hj : j < (m x).length
    · obtain ⟨y', ey'⟩ : ∃ y', (m x)[j]? = some y' := ⟨(m x)[j], by simp [hj]⟩
      have hd2 : ((m x).map gf1)[j]? = some (gf1 y') := by rw [List.getElem?_map, ey']; rfl
      obtain ⟨go1, yl1⟩ := wgo1 _ hd2
      refine .inr ⟨go1, fun H6 => ∃ B5 xs, Ex B4 B5 ∧ Fr Z B H B5 H6 ∧ B5 Dl = none ∧ H6 Dl = some (.lst xs) ∧ RDs M.C Z.s B5 (((l.take i).flatMap fun x => (m x).map (c x)) ++ ((m x).take (j + 1)).map (c x)) xs, fun H6 q6 => ⟨(m x).length - (j + 1), by omega, rfl, hj, q6⟩, fun w H6 yy => ?_⟩
      obtain ⟨B6, f6, rd6⟩ := yl1 w H6 yy
      obtain ⟨r2, is1, gt1, hin1, he⟩ := inner y' (List.mem_of_getElem? ey')
      have R5 := Rat B5 H5 fr5 (f4.b.tr eB5)
      have Rw1 := (R5.wipe vs1).step f6
      intro s4 Hs4 Cc4 cl4 fp4
      refine gt1 _ ok.blk B0 H0 B6 H6 _ w Rw1 rd6 _ fun σ3 R3 so1 => ⟨so1.wipe hin1, ?_⟩
      intro s5 Hs5 Cc5 cl5 fp5
      refine ⟨_, pts_nil, tYes_ite ?_⟩
      intro s6 Hs6 Cc6 cl6 fp6
      refine he _ ok.blk B0 H0 B6 H6 σ3 R3 _ fun z zv B7 H7 pz f7 r7 => ?_
      subst pz
      have f67 := f6.tr f7 fr5.src
      have hx7 : H7 Dl = some (.lst xs5) := f67.h _ _ hx5 nZ
      have nb7 : B7 Dl = none := f67.hid _ _ hx5 nb5
      have hl5 := rx5.len
      rw [List.length_append, List.length_map, List.length_take] at hl5
      have hu := ulen i x j ex hj
      have big : (1000 : Nat) ≤ sizeLine := by decide
      refine ⟨xs5, hx7, by omega, B7, xs5 ++ [zv], eB5.tr f67.b, (fr5.tr f67 R.src).grow R.src nH nb7, nb7, upd_same, ?_⟩
      rw [List.take_succ, ey']
      show RDs M.C Z.s B7 (_ ++ List.map (c x) (List.take j (m x) ++ [y'])) _
      rw [List.map_append, ← List.append_assoc]
      exact (rx5.mono f67.b).snoc r7
    · have e : j = (m x).length := by omega
      subst e
      refine .inl ⟨wstop1 (by rw [List.length_map]), B5, xs5, (eB.tr f24.b).tr eB5, fr5, nb5, hx5, ?_⟩
      rw [us]; rw [List.take_length] at rx5; exact rx5
  · have e : i = l.length := by omega
    subst e
    refine .inl ⟨wstop (by rw [List.length_map]), ?_⟩
    rw [List.take_length] at rx
    exact q _ _ (upd B' Dl (.lst xs)) H' rfl (fr.give nH (R.sB.n nH) hx) (.lst upd_same (rx.mono (Ex.new nb)))
end
end OC
set_option maxHeartbeats 4000000
/-! Walks: prices of scripts; tidy scripts. -/
namespace OC
open PySem PySem.Spec PyProof.Rows L2
def prOf (p : Prc) (k : Int) : Int := if k = 0 then p.p0 else if k = 2 then p.p2 else p.p1
def priceOf (ps : List Per) (sc : List Row) (p : Prc) : Int := ((kindsOf ps sc).flatMap fun l => l.map fun q => prOf p q.1 * q.2).sum
def kOk (k : Int) : Prop := k = 0 ∨ k = 1 ∨ k = 2
def R_priceOf : Rel := fun ds P => ∃ ps sc p, Good ps ∧ ScOk ps sc ∧ short sc ∧ ((kindsOf ps sc).map List.length).sum ≤ 1000 ∧ (∀ l ∈ kindsOf ps sc, ∀ q ∈ l, kOk q.1 ∧ Sml q.2) ∧ ds = [.std ps, scD sc, prD p] ∧ P = fun x => x = .int (priceOf ps sc p)
def tk (k : Int) : Int := if k = 0 then 1 else if k = 1 then 0 else 2
def rowTk (l : List (Int × Int)) : Int := tk ((l.map (·.1)).headD 0)
def evenRow (l : List (Int × Int)) : Prop := ∃ k n, l.map (·.1) = List.replicate (n + 1) k ∧ kOk k ∧ n < 900
def R_tidy : Rel := fun ds P => ∃ ps sc, Good ps ∧ ScOk ps sc ∧ short sc ∧ sc.length < 60 ∧ (∀ l ∈ kindsOf ps sc, evenRow l) ∧ ((kindsOf ps sc).map rowTk).Pairwise (· ≤ ·) ∧ ((kindsOf ps sc).map rowTk).count 1 < 2 ∧ ((kindsOf ps sc).map rowTk).count 2 < 2 ∧ ds = [.std ps, scD sc] ∧ P = fun x => x = .bl true
theorem kindsOf_len : ∀ (sc : List Row) (ps : List Per), (kindsOf ps sc).length = sc.length
  | [], ps => rfl
  | q :: l, ps => by unfold kindsOf; rw [List.length_cons, kindsOf_len l, List.length_cons]
theorem sorted_unique {ns : List Int} (hs : ns.Pairwise (· ≤ ·)) : ∀ ls : List Int, ls.Perm ns → ls.Pairwise (· ≤ ·) → ls = ns := fun ls pm pw =>
  pm.eq_of_pairwise (fun a b _ _ h1 h2 => Int.le_antisymm h1 h2) pw hs
theorem flat_rep (d : D) : ∀ n : Nat, (List.replicate n [d]).flatten = List.replicate n d
  | 0 => rfl
  | n + 1 => by rw [List.replicate_succ, List.flatten_cons, flat_rep d n]; rfl
section
variable {M : Mo} (h : Hd M)
include h
theorem w_price_of : FnG M 11 "price_of" false R_priceOf := by
  refine h.fnG 82 69 fs_price_of bn_price_of (by rintro ds P ⟨ps, sc, p, _, _, _, _, _, rfl, rfl⟩; rfl) ?_
  rintro Z ds P - ⟨ps, sc, p, gd, ok, sh, hn, hk, rfl, rfl⟩
  refine SS_ret (E_sum h (ns := (kindsOf ps sc).flatMap fun l => l.map fun q => prOf p q.1 * q.2) (E.of (E_lc2 (l := kindsOf ps sc) (gf := cisD) [("row", 3), ("kind", 4), ("many", 5)] 3 [4, 5] (fun l => l) ciD (fun _ q => D.int (prOf p q.1 * q.2)) (IT_list (EP_call (w_script_kinds h) (A2 (E_var 0) (E_var 1)) ⟨_, _, gd, ok, sh, rfl, rfl⟩)) (fun l hl => ⟨G_name 3, IT_list (E_var 3), fun q hq => ⟨_, _, G_2 (G_name 4) (G_name 5), by decide, E_mul (E_ixL (d := .int (prOf p q.1)) (E_var 2) (E_var 4) ?_) (E_var 5) (.inr (hk l hl q hq).2)⟩⟩) hn (by show 3 < 6; decide) (by decide) (by decide)) ?_)) rfl
  · obtain ⟨k, m⟩ := q
    rcases (hk l hl _ hq).1 with e | e | e
    · simp only at e; subst e; rfl
    · simp only at e; subst e; rfl
    · simp only at e; subst e; rfl
  · rw [List.map_flatMap]; simp only [List.map_map]; rfl
theorem w_is_tidy : FnG M 11 "is_tidy" false R_tidy := by
  refine h.fnG 66 53 fs_is_tidy bn_is_tidy (by rintro ds P ⟨ps, sc, _, _, _, _, _, _, _, _, rfl, rfl⟩; rfl) ?_
  rintro Z ds P - ⟨ps, sc, gd, ok, sh, h60, hev, pw, c1, c2, rfl, rfl⟩
  have kl := kindsOf_len sc ps
  have rl : ∀ l ∈ kindsOf ps sc, l.length ≤ 900 := fun l hl => by
    obtain ⟨k, n, e, _, hn⟩ := hev l hl
    have := congrArg List.length e
    simp at this; omega
  have pick : ∀ row ∈ (kindsOf ps sc).map (fun l => l.map (·.1)), ∃ k t, row = k :: t ∧ kOk k := fun row hr => by
    obtain ⟨l, hl, rfl⟩ := List.mem_map.mp hr
    obtain ⟨k, n, e, hk, hn⟩ := hev l hl
    exact ⟨k, List.replicate n k, by rw [e]; rfl, hk⟩
  refine SS_ifF (T_or (c' := false) (T_not (T_val (E_callB (A2 (E_var 1) (E_tup (A2 (E_bty (n := "list") (h.free 111)) (E_bty (n := "tuple") (h.free 120))))) (clIsi2 (n := "list") (q := true) (q' := false) rfl rfl rfl) (h.free 109)))) fun _ => T_notN (x := .non) (EP_call (w_first_bad h) (A2 (E_var 0) (E_var 1)) ⟨_, _, gd, ok, sh.1, rfl, rfl⟩)) ?_
  refine SS_lc 2 (L_lcm (l := kindsOf ps sc) (gf := cisD) [("row", 4)] intsD (fun l => l.map (·.1)) (IT_list (EP_call (w_script_kinds h) (A2 (E_var 0) (E_var 1)) ⟨_, _, gd, ok, sh, rfl, rfl⟩)) (fun l hl => ⟨_, _, G_name 4, by decide, E_lcm (l := l) (gf := ciD) [("kind", 5), ("many", 6)] D.int (·.1) (IT_list (E_var 4)) (fun q hq => ⟨_, _, G_2 (G_name 5) (G_name 6), by decide, E_var 5⟩) (by have := rl l hl; omega)⟩) (by omega)) ?_
  refine SS_ifF (T.of (T_cmp (E_lcc (l := (kindsOf ps sc).map fun l => l.map (·.1)) (gf := intsD) [("row", 4)] (fun _ => false) D.int (fun _ => 1) (IT_list (E_var 2)) (fun row hr => ⟨_, _, G_name 4, by decide, .inr ⟨_, rfl, ?_⟩, fun z => nomatch z⟩) (by rw [List.length_map]; omega)) (E_lst A_nil) (neD (n := 1) (m := 1) (q := true) (.lst fun d hd => ?_) (.lst fun d hd => by simp at hd) ?_)) rfl) ?_
  · obtain ⟨l, hl, rfl⟩ := List.mem_map.mp hr
    obtain ⟨k, n, e, _, hn⟩ := hev l hl
    rw [e]
    have ec : cutL ((List.replicate (n + 1) k).map D.int) none (some ((1 : Nat) : Int)) = [D.int k] := by rw [cutL_take, List.replicate_succ]; rfl
    have ef : (List.replicate (n + 1) [D.int k]).flatten = (List.replicate (n + 1) k).map D.int := by rw [List.map_replicate]; exact flat_rep _ _
    refine T_cmp (E_var 4) (E.of (y := intsD (List.replicate (n + 1) k)) (E_op (E_slL (ds := (List.replicate (n + 1) k).map D.int) (i := none) (j := some ((1 : Nat) : Int)) (E_var 4) (.inl ⟨rfl, rfl⟩) (.inr ⟨_, _, rfl, rfl, E_int⟩)) (E.of (E_lenL h (E_var 4)) (by rw [List.length_map, List.length_replicate])) (mulL (n + 1) ?_ (by omega))) (by rw [ec, ef])) (neD (q := true) (Sh_ints (List.replicate (n + 1) k)) (Sh_ints (List.replicate (n + 1) k)) (Sh_ints _).refl)
    rw [ec, List.length_singleton, Nat.one_mul]
    exact Nat.le_trans (show n + 1 ≤ 10000 by omega) (by decide)
  · have e0 : (((kindsOf ps sc).map fun l => l.map (·.1)).filter fun _ => false) = [] := by simp
    rw [e0] at hd; simp at hd
  · have e0 : (((kindsOf ps sc).map fun l => l.map (·.1)).filter fun _ => false) = [] := by simp
    rw [e0]; rfl
  have eT : ((kindsOf ps sc).map fun l => l.map (·.1)).map (fun row => tk (row.headD 0)) = (kindsOf ps sc).map rowTk := by rw [List.map_map]; rfl
  refine SS_lc 3 (x := intsD ((kindsOf ps sc).map rowTk)) ((L_lcm (l := (kindsOf ps sc).map fun l => l.map (·.1)) (gf := intsD) [("row", 4)] D.int (fun row => tk (row.headD 0)) (IT_list (E_var 2)) (fun row hr => ⟨_, _, G_name 4, by decide, by
    obtain ⟨k, t, rfl, hk⟩ := pick row hr
    exact E_pick3 (E_ixL (d := .int k) (E_var 4) E_int (atI_zero rfl)) (by decide) (by decide) (by decide) (by rcases hk with rfl | rfl | rfl <;> simp [tk])⟩) (by rw [List.length_map]; omega)).of (congrArg (fun l => D.lst (l.map D.int)) eT)) ?_
  refine SS_ret (E.of (E_and (E_cmp (E_var 3) (E_callB (A1 (E_var 3)) (clSorted (ns := (kindsOf ps sc).map rowTk) (by rw [List.length_map]; omega) (sorted_unique pw)) (h.free 116)) (eqD (q := true) (Sh_ints _) (Sh_ints _) (Sh_ints _).refl)) fun _ => E_and (E_cmp (E_count (E_var 3) E_int) E_int (ltI _ _)) fun _ => E_one (E_cmp (E_count (E_var 3) E_int) E_int (ltI _ _))) ?_) rfl
  rw [decide_eq_true (by omega), decide_eq_true (by omega)]; rfl
end
end OC
set_option maxHeartbeats 4000000
/-! The law's own functions: stops. -/
namespace OC
open PySem PySem.Spec PyProof.Rows L2
def insS (x : Int) : List Int → List Int
  | [] => [x]
  | y :: l => if x ≤ y then x :: y :: l else y :: insS x l
theorem insS_perm (x : Int) : ∀ l : List Int, (insS x l).Perm (x :: l)
  | [] => .refl _
  | y :: l => by
    unfold insS
    split
    · exact .refl _
    · exact ((insS_perm x l).cons y).trans (.swap _ _ _)
theorem insS_up (x : Int) : ∀ {l : List Int}, l.Pairwise (· ≤ ·) → (insS x l).Pairwise (· ≤ ·)
  | [], _ => by simp [insS]
  | y :: l, h => by
    obtain ⟨h1, h2⟩ := List.pairwise_cons.mp h
    unfold insS
    split
    · next k =>
      refine List.pairwise_cons.mpr ⟨fun z hz => ?_, h⟩
      rcases List.mem_cons.mp hz with e | e
      · subst e; exact k
      · exact Int.le_trans k (h1 z e)
    · next k =>
      refine List.pairwise_cons.mpr ⟨fun z hz => ?_, insS_up x h2⟩
      rcases List.mem_cons.mp ((insS_perm x l).subset hz) with e | e
      · subst e; omega
      · exact h1 z e
def sortS (l : List Int) : List Int := l.foldr insS []
theorem sortS_perm : ∀ l : List Int, (sortS l).Perm l
  | [] => .refl _
  | x :: l => (insS_perm x (sortS l)).trans ((sortS_perm l).cons x)
theorem sortS_up : ∀ l : List Int, (sortS l).Pairwise (· ≤ ·)
  | [] => List.Pairwise.nil
  | x :: l => insS_up x (sortS_up l)
theorem sortS_unique (l : List Int) : ∀ ls : List Int, ls.Perm l → ls.Pairwise (· ≤ ·) → ls = sortS l := fun ls pm pw => sorted_unique (sortS_up l) ls (pm.trans (sortS_perm l).symm) pw
/-- what is kept of a sorted list when each is held against the one before it -/
def newAt (L : List Int) (q : Int × Nat) : Bool := decide ((q.2 : Int) = 0) || decide (q.1 ≠ (atI L ((q.2 : Int) - 1)).getD 0)
theorem atI_pred {L : List Int} {k : Nat} {y : Int} (e : L[k]? = some y) : atI L (((k + 1 : Nat) : Int) - 1) = some y := by
  have : ((k + 1 : Nat) : Int) - 1 = (k : Int) := by omega
  rw [this]; exact atI_nat e
theorem new_ups {L : List Int} (h : L.Pairwise (· ≤ ·)) : (((L.zipIdx).filter (newAt L)).map (·.1)).Pairwise (· < ·) := by
  rw [List.pairwise_map]
  have hz : (L.zipIdx).Pairwise (fun a b => a.2 < b.2) := by
    have : ((L.zipIdx).map (·.2)).Pairwise (· < ·) := by rw [List.zipIdx_map_snd]; exact List.pairwise_lt_range'
    rwa [List.pairwise_map] at this
  refine (hz.filter (newAt L)).imp_of_mem fun {a b} ha hb hab => ?_
  obtain ⟨a1, _⟩ := List.mem_filter.mp ha
  obtain ⟨b1, b2⟩ := List.mem_filter.mp hb
  have ea := List.mk_mem_zipIdx_iff_getElem?.mp a1
  have eb := List.mk_mem_zipIdx_iff_getElem?.mp b1
  have la := (List.getElem?_eq_some_iff.mp ea)
  have lb := (List.getElem?_eq_some_iff.mp eb)
  obtain ⟨la1, la2⟩ := la
  obtain ⟨lb1, lb2⟩ := lb
  have pw := List.pairwise_iff_getElem.mp h
  obtain ⟨k, hk⟩ : ∃ k, b.2 = k + 1 := ⟨b.2 - 1, by omega⟩
  have lk : k < L.length := by omega
  have hne : b.1 ≠ L[k] := by
    unfold newAt at b2
    rw [hk, atI_pred (y := L[k]) (by simp [lk])] at b2
    simpa [show ¬ ((k : Int) + 1 = 0) by omega] using b2
  have h1 : L[k] ≤ b.1 := by rw [← lb2]; exact pw k b.2 lk lb1 (by omega)
  have h2 : a.1 ≤ L[k] := by
    rw [← la2]
    by_cases e : a.2 = k
    · subst e; exact Int.le_refl _
    · exact pw a.2 k la1 lk (by omega)
  omega
theorem new_mem {L : List Int} {y : Int} : ∀ k : Nat, L[k]? = some y → y ∈ ((L.zipIdx).filter (newAt L)).map (·.1)
  | 0, e => List.mem_map.mpr ⟨(y, 0), List.mem_filter.mpr ⟨List.mk_mem_zipIdx_iff_getElem?.mpr e, by simp [newAt]⟩, rfl⟩
  | k + 1, e => by
    have hlt := (List.getElem?_eq_some_iff.mp e).1
    by_cases q : L[k]'(by omega) = y
    · exact new_mem k (by rw [← q]; simp)
    · refine List.mem_map.mpr ⟨(y, k + 1), List.mem_filter.mpr ⟨List.mk_mem_zipIdx_iff_getElem?.mpr e, ?_⟩, rfl⟩
      unfold newAt
      simp only
      rw [atI_pred (y := L[k]'(by omega)) (by simp)]
      simp only [Option.getD_some, Bool.or_eq_true, decide_eq_true_eq]
      exact .inr fun z => q z.symm
theorem stops_new (ps : List Per) : (((sortS (ps.map (·.pl))).zipIdx).filter (newAt (sortS (ps.map (·.pl))))).map (·.1) = stops ps := by
  refine up_unique (new_ups (sortS_up _)) (stops_up ps) fun k => ?_
  have hm : k ∈ sortS (ps.map (·.pl)) ↔ ∃ p ∈ ps, p.pl = k := by rw [(sortS_perm _).mem_iff, List.mem_map]
  rw [stops_mem, ← hm]
  constructor
  · intro hk
    obtain ⟨q, hq, rfl⟩ := List.mem_map.mp hk
    exact List.fst_mem_of_mem_zipIdx (List.mem_filter.mp hq).1
  · intro hk
    obtain ⟨i, hi, e⟩ := List.mem_iff_getElem.mp hk
    exact new_mem i (by simp [hi, e])
end OC
set_option maxHeartbeats 4000000
/-! The law's own functions: walks. -/
namespace OC
open PySem PySem.Spec PyProof.Rows L2
def Q1 (f : List Per → D) : Rel := fun ds P => ∃ ps, Good ps ∧ ds = [peopleD ps] ∧ P = fun x => x = f ps
theorem Q1.len {f : List Per → D} : ∀ ds P, Q1 f ds P → ds.length = 1 := by rintro ds P ⟨ps, _, rfl, rfl⟩; rfl
def Q1I (f : List Per → Int → D) : Rel := fun ds P => ∃ ps y, Good ps ∧ ds = [peopleD ps, .int y] ∧ P = fun x => x = f ps y
theorem Q1I.len {f : List Per → Int → D} : ∀ ds P, Q1I f ds P → ds.length = 2 := by rintro ds P ⟨ps, y, _, rfl, rfl⟩; rfl
def Q1N (f : List Per → Str → D) : Rel := fun ds P => ∃ ps n, Good ps ∧ n ∈ ps.map (·.nm) ∧ ds = [peopleD ps, .str n] ∧ P = fun x => x = f ps n
theorem Q1N.len {f : List Per → Str → D} : ∀ ds P, Q1N f ds P → ds.length = 2 := by rintro ds P ⟨ps, y, _, _, rfl, rfl⟩; rfl
def spotsD (ps : List Per) : D := .tup (ps.map fun p => D.int p.pl)
def Q2 (f : List Per → List Per → D) : Rel := fun ds P => ∃ ps qs, Good ps ∧ Good qs ∧ Like ps qs ∧ ds = [peopleD ps, spotsD qs] ∧ P = fun x => x = f ps qs
theorem Q2.len {f : List Per → List Per → D} : ∀ ds P, Q2 f ds P → ds.length = 2 := by rintro ds P ⟨ps, qs, _, _, _, rfl, rfl⟩; rfl
theorem drawI_one (y x : Int) : x + (if decide (x < y) then 1 else 0) - (if decide (y < x) then 1 else 0) = drawI y 1 x := by
  unfold drawI
  by_cases a : x < y
  · rw [decide_eq_true a, decide_eq_false (by omega), if_pos rfl, if_neg (by decide), if_pos a]; omega
  · rw [decide_eq_false a, if_neg (by decide), if_neg a]
    by_cases b : y < x
    · rw [decide_eq_true b, if_pos rfl]; omega
    · rw [decide_eq_false b, if_neg (by decide)]; omega
theorem like_at : ∀ {ps qs : List Per}, Like ps qs → ((ps.zip (qs.map (·.pl))).map fun q => (⟨q.1.nm, q.2, q.1.vc⟩ : Per)) = qs
  | [], [], _ => rfl
  | [], q :: qs, h => by simp [Like] at h
  | p :: ps, [], h => by simp [Like] at h
  | p :: ps, q :: qs, h => by
    have h' : (p.nm, p.vc) = (q.nm, q.vc) ∧ ps.map (fun p => (p.nm, p.vc)) = qs.map (fun p => (p.nm, p.vc)) := by simpa [Like] using h
    have e1 : p.nm = q.nm := congrArg Prod.fst h'.1
    have e2 : p.vc = q.vc := congrArg Prod.snd h'.1
    show (⟨p.nm, q.pl, p.vc⟩ : Per) :: ((ps.zip (qs.map (·.pl))).map fun q => (⟨q.1.nm, q.2, q.1.vc⟩ : Per)) = q :: qs
    rw [like_at (ps := ps) (qs := qs) h'.2, e1, e2]
section
variable {M : Mo} (h : Hd M)
include h
theorem w_stops_L : FnG M 1 "_law_stops" false (Q1 stopsD) := by
  refine h.fnG 93 80 fs_stops_L bn_stops_L Q1.len ?_
  rintro Z ds P - ⟨ps, gd, rfl, rfl⟩
  have l8 := gd.len
  have ll : (sortS (ps.map (·.pl))).length = ps.length := by rw [(sortS_perm _).length_eq, List.length_map]
  refine SS_set (x := intsD (sortS (ps.map (·.pl)))) 1 (E_callB (A1 (E_lcm (l := ps) (gf := perD) [("_law_person", 4)] D.int (·.pl) (IT_list (E_var 0)) (fun p hp => ⟨_, _, G_name 4, by decide, E_ixT (d := .int p.pl) (E_var 4) E_int⟩) (by omega))) (clSorted (by rw [List.length_map]; omega) (sortS_unique _)) (h.free 116)) ?_
  refine SS_ret (E.of (E_lcc (l := (sortS (ps.map (·.pl))).zipIdx) (gf := fun q => D.tup [.int (q.2 : Int), .int q.1]) [("_law_k", 2), ("_law_place_here", 3)] (newAt (sortS (ps.map (·.pl)))) D.int (·.1) (IT.of (IT_enum (E_var 1) (h.free 107)) (enumD_map _ _)) (fun q hq => ⟨_, _, G_2 (G_name 2) (G_name 3), by decide, .inr ⟨_, rfl, T_or (T_cmp (E_var 2) E_int (eqI _ _)) fun hk => T_cmp (E_var 3) (E_ixL (d := .int ((atI (sortS (ps.map (·.pl))) ((q.2 : Int) - 1)).getD 0)) (E_var 1) (E_sub (E_var 2) E_int) ?_) (neI _ _)⟩, fun _ => E_var 3⟩) (by rw [List.length_zipIdx]; omega)) ?_) rfl
  · have hk : ¬ ((q.2 : Int) = 0) := of_decide_eq_false hk
    obtain ⟨k, ek⟩ : ∃ k, q.2 = k + 1 := ⟨q.2 - 1, by omega⟩
    have hlt := (List.getElem?_eq_some_iff.mp (List.mk_mem_zipIdx_iff_getElem?.mp hq)).1
    have hlk : k < (sortS (ps.map (·.pl))).length := by omega
    rw [ek, atI_pred (y := (sortS (ps.map (·.pl)))[k]) (by simp [hlk])]
    exact atI_map D.int (atI_pred (by simp [hlk]))
  · rw [stops_new]; rfl
theorem w_is_loud_L : FnG M 1 "_law_is_loud" false (Q1I fun ps y => .bl (loudAt ps y)) := by
  refine h.fnG 98 85 fs_is_loud_L bn_is_loud_L Q1I.len ?_
  rintro Z ds P - ⟨ps, y, gd, rfl, rfl⟩
  have l8 := gd.len
  exact SS_ret (E_cmp (E_mod (E_intI h (E_sum h (E_lcc (l := ps) (gf := perD) [("_law_person", 2)] (fun p => decide (p.pl = y)) D.int (·.vc) (IT_list (E_var 0)) (fun p hp => ⟨_, _, G_name 2, by decide, .inr ⟨_, rfl, T_cmp (E_ixT (d := .int p.pl) (E_var 2) E_int) (E_var 1) (eqI _ _)⟩, fun _ => E_ixT (d := .int p.vc) (E_var 2) E_int⟩) (by omega)))) E_int) E_int (eqI _ _)) rfl
theorem w_place_L : FnG M 1 "_law_place" false (Q1N fun ps n => .int (plc ps n)) := by
  refine h.fnG 99 86 fs_place_L bn_place_L Q1N.len ?_
  rintro Z ds P - ⟨ps, n, gd, hn, rfl, rfl⟩
  have l8 := gd.len
  refine SS_ret (E_ixL (d := .int (plc ps n)) (E_lcc (l := ps) (gf := perD) [("_law_person", 2)] (fun p => decide (p.nm = n)) D.int (·.pl) (IT_list (E_var 0)) (fun p hp => ⟨_, _, G_name 2, by decide, .inr ⟨_, rfl, T_cmp (E_ixT (d := .str p.nm) (E_var 2) E_int) (E_var 1) (eqS _ _)⟩, fun _ => E_ixT (d := .int p.pl) (E_var 2) E_int⟩) (by omega)) E_int (atI_zero ?_)) rfl
  obtain ⟨p, hp, e⟩ := List.mem_map.mp hn
  subst e
  have e1 : (ps.filter fun q => decide (q.nm = p.nm)).head? = some p := by rw [List.head?_filter]; exact find_nodup gd.nd hp
  rw [List.getElem?_map, List.getElem?_map, ← List.head?_eq_getElem?, e1]
  unfold plc; rw [perOf_mem gd.nd hp]; rfl
theorem w_called_L : FnG M 1 "_law_called" false (Q1I fun ps y => peopleD (drawn ps y 1)) := by
  refine h.fnG 100 87 fs_called_L bn_called_L Q1I.len ?_
  rintro Z ds P - ⟨ps, y, gd, rfl, rfl⟩
  have l8 := gd.len
  exact SS_ret (E_lcm (l := ps) (gf := perD) [("_law_name", 2), ("_law_here", 3), ("_law_voice", 4)] perD (movP fun p => drawI y 1 p.pl) (IT_list (E_var 0)) (fun p hp => ⟨_, _, G_3 (G_name 2) (G_name 3) (G_name 4), by decide, E_tup (A_cons (E_var 2) (A2 (E.of (y := .int (drawI y 1 p.pl)) (E_sub (E_add (E_var 3) (E_intB h (E_cmp (E_var 3) (E_var 1) (ltI _ _)))) (E_intB h (E_cmp (E_var 3) (E_var 1) (gtI _ _)))) (congrArg D.int (drawI_one _ _))) (E_var 4)))⟩) (by omega)) rfl
theorem w_spots_L : FnG M 1 "_law_spots" false (Q1 spotsD) := by
  refine h.fnG 102 89 fs_spots_L bn_spots_L Q1.len ?_
  rintro Z ds P - ⟨ps, gd, rfl, rfl⟩
  have l8 := gd.len
  refine SS_ret (E_tupL h (E_lcm (l := ps) (gf := perD) [("_law_person", 1)] D.int (·.pl) (IT_list (E_var 0)) (fun p hp => ⟨_, _, G_name 1, by decide, E_ixT (d := .int p.pl) (E_var 1) E_int⟩) (by omega))) ?_
  show _ = spotsD ps
  unfold spotsD; rw [List.map_map]; rfl
theorem w_at_L : FnG M 1 "_law_at" false (Q2 fun _ qs => peopleD qs) := by
  refine h.fnG 103 90 fs_at_L bn_at_L Q2.len ?_
  rintro Z ds P - ⟨ps, qs, gp, gq, lk, rfl, rfl⟩
  have l8 := gp.len
  refine SS_ret (E.of (E_lcm (l := ps.zip (qs.map (·.pl))) (gf := fun q => D.tup [perD q.1, .int q.2]) [("_law_person", 2), ("_law_place_here", 3)] perD (fun q => (⟨q.1.nm, q.2, q.1.vc⟩ : Per)) (IT.of (IT_zipLT (es := (qs.map (·.pl)).map D.int) (A2 (E_var 0) (E.of (E_var 1) (by unfold spotsD; rw [List.map_map]; rfl))) (h.free 121)) (zipD_map _ _ _ _)) (fun q hq => ⟨_, _, G_2 (G_name 2) (G_name 3), by decide, E_tup (A_cons (E_ixT (d := .str q.1.nm) (E_var 2) E_int) (A2 (E_var 3) (E_ixT (d := .int q.1.vc) (E_var 2) E_int)))⟩) (by rw [List.length_zip]; omega)) (by rw [like_at lk]; rfl)) rfl
end
end OC
set_option maxHeartbeats 4000000
/-! The law's own functions: walks. -/
namespace OC
open PySem PySem.Spec PyProof.Rows L2
theorem callers_loud {ps : List Per} (gd : Good ps) : ((stops ps).filter fun y => decide (1 < ((stops ps).length : Int)) && loudAt ps y).map (firstAt ps) = callers ps := by
  unfold callers
  rw [List.filter_map]
  congr 1
  apply List.filter_congr
  intro y hy
  show _ = canCall ps (firstAt ps y)
  unfold canCall together
  rw [firstAt_plc gd hy, Bool.and_comm]
  congr 1
  by_cases q : (stops ps).length < 2
  · rw [decide_eq_true q, decide_eq_false (by omega)]; rfl
  · rw [decide_eq_false q, decide_eq_true (by omega)]; rfl
def inOrd (ps qs : List Per) : Bool := ps.zip (qs.map (·.pl)) |>.all fun a => ps.zip (qs.map (·.pl)) |>.all fun b => !(decide (a.1.pl ≤ b.1.pl) && !(decide (0 ≤ b.2 - a.2) && decide (b.2 - a.2 ≤ b.1.pl - a.1.pl)))
section
variable {M : Mo} (h : Hd M)
include h
theorem w_callers_L : FnG M 2 "_law_callers" false (Q1 fun ps => strsD (callers ps)) := by
  refine h.fnG 101 88 fs_callers_L bn_callers_L Q1.len ?_
  rintro Z ds P - ⟨ps, gd, rfl, rfl⟩
  have l8 := gd.len
  have ls := stops_len ps
  refine SS_set (x := stopsD ps) 1 (EP_call (w_stops_L h) (A1 (E_var 0)) ⟨_, gd, rfl, rfl⟩) ?_
  refine SS_lc 2 (L_lcc (l := stops ps) (gf := D.int) [("_law_place_here", 3)] (fun y => decide (1 < ((stops ps).length : Int)) && loudAt ps y) D.int (fun y => y) (IT_list (E_var 1)) (fun y hy => ⟨_, _, G_name 3, by decide, .inr ⟨_, rfl, T_and (T.of (T_cmp (E_lenL h (E_var 1)) E_int (gtI _ _)) (by rw [List.length_map])) fun _ => T_val (EP_call (w_is_loud_L h) (A2 (E_var 0) (E_var 3)) ⟨_, _, gd, rfl, rfl⟩)⟩, fun _ => E_var 3⟩) (by omega)) ?_
  rw [List.map_id']
  have lf : ((stops ps).filter fun y => decide (1 < ((stops ps).length : Int)) && loudAt ps y).length ≤ (stops ps).length := List.length_filter_le _ _
  refine SS_ret (E.of (E_lcm (l := (stops ps).filter fun y => decide (1 < ((stops ps).length : Int)) && loudAt ps y) (gf := D.int) [("_law_place_here", 3)] D.str (firstAt ps) (IT_list (E_var 2)) (fun y hy => ⟨_, _, G_name 3, by decide, E_ixL (d := .str (firstAt ps y)) (E_lcc (l := ps) (gf := perD) [("_law_person", 4)] (fun p => decide (p.pl = y)) D.str (·.nm) (IT_list (E_var 0)) (fun p hp => ⟨_, _, G_name 4, by decide, .inr ⟨_, rfl, T_cmp (E_ixT (d := .int p.pl) (E_var 4) E_int) (E_var 3) (eqI _ _)⟩, fun _ => E_ixT (d := .str p.nm) (E_var 4) E_int⟩) (by omega)) E_int (atI_zero ?_)⟩) (by omega)) (by rw [callers_loud gd])) rfl
  have := (firstAt_at (List.mem_filter.mp hy).1).1
  rw [List.getElem?_map]
  unfold crowd at this
  rw [this]; rfl
theorem w_is_in_order_L : FnG M 1 "_law_is_in_order" false (Q2 fun ps qs => .bl (inOrd ps qs)) := by
  refine h.fnG 104 91 fs_is_in_order_L bn_is_in_order_L Q2.len ?_
  rintro Z ds P - ⟨ps, qs, gp, gq, lk, rfl, rfl⟩
  have zi : ∀ {g : G} {r : Rho} {tg : Expr}, True := fun {_ _ _} => trivial
  let zs := ps.zip (qs.map (·.pl))
  let bad : Per × Int → Per × Int → Bool := fun a b => decide (a.1.pl ≤ b.1.pl) && !(decide (0 ≤ b.2 - a.2) && decide (b.2 - a.2 ≤ b.1.pl - a.1.pl))
  have hz : inOrd ps qs = zs.all fun a => zs.all fun b => !bad a b := rfl
  refine SS_first (β := Unit) (l := zs) (gf := fun q => D.tup [perD q.1, .int q.2]) (IT.of (IT_zipLT (es := (qs.map (·.pl)).map D.int) (A2 (E_var 0) (E.of (E_var 1) (by unfold spotsD; rw [List.map_map]; rfl))) (h.free 121)) (zipD_map _ _ _ _)) [some (.d (peopleD ps)), some (.d (spotsD qs)), none, none, none, none] Le.rfl' (fun a => zs.findSome? fun b => if bad a b then some () else none) ?_ ?_
  · intro a ha out
    refine ⟨_, _, G_2 (G_name 2) (G_name 3), ?_⟩
    refine SS_first (β := Unit) (l := zs) (gf := fun q => D.tup [perD q.1, .int q.2]) (IT.of (IT_zipLT (es := (qs.map (·.pl)).map D.int) (A2 (E_var 0) (E.of (E_var 1) (by unfold spotsD; rw [List.map_map]; rfl))) (h.free 121)) (zipD_map _ _ _ _)) [some (.d (peopleD ps)), some (.d (spotsD qs)), some (.d (perD a.1)), some (.d (.int a.2)), none, none] Le.rfl' (fun b => if bad a b then some () else none) ?_ ?_
    · intro b hb inn
      refine ⟨_, _, G_2 (G_name 4) (G_name 5), ?_⟩
      refine SS_if (T.of (c := bad a b) (T_and (T_cmp (E_ixT (d := .int a.1.pl) (E_var 2) E_int) (E_ixT (d := .int b.1.pl) (E_var 4) E_int) (leI _ _)) fun _ => T_not (T_chain E_int (E_sub (E_var 5) (E_var 3)) (fun _ => E_sub (E_ixT (d := .int b.1.pl) (E_var 4) E_int) (E_ixT (d := .int a.1.pl) (E_var 2) E_int)) (leI _ _) fun _ => leI _ _)) rfl) (fun hp => ?_) fun hp => ?_
      · refine SS_ret E_bl ?_
        show _ = D.bl (inOrd ps qs)
        have : inOrd ps qs = false := by
          rw [hz, List.all_eq_false]
          refine ⟨a, ha, ?_⟩
          rw [Bool.not_eq_true, List.all_eq_false]
          exact ⟨b, hb, by rw [hp]; decide⟩
        rw [this]
      · refine SS_nil (SS_nil ⟨by rw [hp]; rfl, ?_⟩)
        exact Le.keep (Le.keep (Le.keep (Le.keep (Le.drop (Le.drop Le.nil)))))
    · intro hno
      exact SS_nil ⟨hno, Le.keep (Le.keep (Le.drop (Le.drop (Le.drop (Le.drop Le.nil)))))⟩
  · intro hno
    refine SS_ret E_bl ?_
    show _ = D.bl (inOrd ps qs)
    have : inOrd ps qs = true := by
      rw [hz, List.all_eq_true]
      intro a ha
      rw [List.all_eq_true]
      intro b hb
      have h1 := List.findSome?_eq_none_iff.mp hno a ha
      have h2 := List.findSome?_eq_none_iff.mp h1 b hb
      cases q : bad a b with
      | false => rfl
      | true => rw [q] at h2; cases h2
    rw [this]
end
end OC
set_option maxHeartbeats 4000000
/-! The law's gaps, plain. -/
namespace OC
open PySem PySem.Spec PyProof.Rows L2
def lowV (ps : List Per) (y : Int) : Int := vsum (ps.filter fun p => decide (p.pl ≤ y))
theorem vsum_split (t : Int) (T : List Int) (ht : t ∉ T) : ∀ ps : List Per, vsum (ps.filter fun p => decide (p.pl ∈ t :: T)) = vsum (ps.filter fun p => decide (p.pl = t)) + vsum (ps.filter fun p => decide (p.pl ∈ T))
  | [] => rfl
  | p :: ps => by
    have ih := vsum_split t T ht ps
    unfold vsum at ih ⊢
    have key : ∀ (f : Per → Bool), ((List.filter f (p :: ps)).map (·.vc)).sum = (if f p then p.vc else 0) + ((List.filter f ps).map (·.vc)).sum := fun f => by
      rw [List.filter_cons]; cases f p <;> simp
    rw [key, key, key, ih]
    by_cases a : p.pl = t
    · have b : p.pl ∉ T := by rw [a]; exact ht
      rw [if_pos (by simp [a]), if_pos (by simp [a]), if_neg (by simpa using b)]; omega
    · by_cases b : p.pl ∈ T
      · rw [if_pos (by simp [b]), if_neg (by simpa using a), if_pos (by simpa using b)]; omega
      · rw [if_neg (by simp [a, b]), if_neg (by simpa using a), if_neg (by simpa using b)]; omega
theorem vat_sum (ps : List Per) : ∀ T : List Int, T.Nodup → (T.map (vat ps)).sum = vsum (ps.filter fun p => decide (p.pl ∈ T))
  | [], _ => by rw [List.filter_eq_nil_iff.mpr (by simp)]; rfl
  | t :: T, h => by
    obtain ⟨h1, h2⟩ := List.nodup_cons.mp h
    rw [List.map_cons, List.sum_cons, vat_sum ps T h2, vsum_split t T h1]; rfl
theorem gapsF_low (ps : List Per) : ∀ (xs pre : List Int), stops ps = pre ++ xs → gapsF (vat ps) ((pre.map (vat ps)).sum) xs = (xs.zip (xs.drop 1)).map fun q => (⟨q.1, q.2 - q.1, decide (lowV ps q.1 % 2 = 1)⟩ : Gp)
  | [], pre, e => by simp [gapsF]
  | [a], pre, e => by simp [gapsF]
  | a :: b :: l, pre, e => by
    have ih := gapsF_low ps (b :: l) (pre ++ [a]) (by rw [e]; simp)
    have hs : ((pre ++ [a]).map (vat ps)).sum = (pre.map (vat ps)).sum + vat ps a := by simp
    have up := stops_up ps
    rw [e] at up
    have hl : (pre.map (vat ps)).sum + vat ps a = lowV ps a := by
      have nd : (pre ++ [a]).Nodup := by
        have : (pre ++ [a]).Pairwise (· < ·) := by
          refine up.sublist ?_
          exact (List.Sublist.refl pre).append (by simp)
        exact this.imp fun h => Int.ne_of_lt h
      rw [← hs, vat_sum ps _ nd]
      unfold lowV
      congr 1
      apply List.filter_congr
      intro p hp
      have hm : p.pl ∈ pre ++ a :: b :: l := by rw [← e]; exact (stops_mem ps _).mpr ⟨p, hp, rfl⟩
      obtain ⟨u1, u2, u3⟩ := List.pairwise_append.mp up
      have hiff : p.pl ∈ pre ++ [a] ↔ p.pl ≤ a := by
        constructor
        · intro k
          rcases List.mem_append.mp k with k | k
          · exact Int.le_of_lt (u3 _ k a List.mem_cons_self)
          · rw [List.mem_singleton] at k; omega
        · intro k
          rcases List.mem_append.mp hm with k2 | k2
          · exact List.mem_append_left _ k2
          · rcases List.mem_cons.mp k2 with k3 | k3
            · rw [k3]; simp
            · have := (List.pairwise_cons.mp u2).1 _ k3; omega
      exact decide_eq_decide.mpr hiff
    rw [hs] at ih
    show (⟨a, b - a, decide (((pre.map (vat ps)).sum + vat ps a) % 2 = 1)⟩ : Gp) :: gapsF (vat ps) ((pre.map (vat ps)).sum + vat ps a) (b :: l) = _
    rw [ih, hl]; rfl
theorem gaps_low (ps : List Per) : gaps ps = ((stops ps).zip ((stops ps).drop 1)).map fun q => (⟨q.1, q.2 - q.1, decide (lowV ps q.1 % 2 = 1)⟩ : Gp) := gapsF_low ps (stops ps) [] rfl
end OC
set_option maxHeartbeats 4000000
/-! a, b = x, y where some name is a cell. -/
namespace OC
open PySem PySem.Spec PyProof.Rows L2
section
variable {M : Mo} {g : G} {Z : Sc} {a b : Expr} {r : Rho} {O : Out} {rest : List Stmt} {pos : Pos}
theorem SS_parC {i j : Nat} {nm nm' : Str} {l m : L} {px py pt pt2 : Pos} {kt k2 : Nat} (h : AL M g Z [a, b] r [l, m]) (k : SS M g Z rest ((r.set i (some l)).set j (some m)) O) (hi : g.N[i]? = some nm := by rfl) (hj : g.N[j]? = some nm' := by rfl) (hij : i ≠ j := by decide)
    (hx : LocS g nm := by first | exact Or.inl rfl | exact Or.inr ⟨rfl, rfl⟩) (hy : LocS g nm' := by first | exact Or.inl rfl | exact Or.inr ⟨rfl, rfl⟩)
    (hw : ∀ env : Env, env.scope = g.sc → swappedStores [.Tuple [.Name nm px, .Name nm' py] kt pt] (.Tuple [a, b] k2 pt2) env = pure none := by intro env h; obtain ⟨sc, _⟩ := env; subst h; rfl)
    (hs : ∀ env : Env, env.scope = g.sc → swapsWithSole [.Tuple [.Name nm px, .Name nm' py] kt pt] (.Tuple [a, b] k2 pt2) pos.line env = pure false := by intro _ _; rfl) :
    SS M g Z (.Assign [.Tuple [.Name nm px, .Name nm' py] kt pt] (.Tuple [a, b] k2 pt2) pos :: rest) r O := SS_cons fun X ok B0 H0 B H σ R Dn o => by
  obtain ⟨l1, l2⟩ := ok.loc hx
  obtain ⟨l3, l4⟩ := ok.loc hy
  refine ⟨_, ps_asg (pe_tup pa_w) (pg_tup (n := 2) ok.calm (pgs_cons (pg_name (i := i) ok.nd (by rw [ok.N]; exact hi) l1 l2) (pgs_cons (pg_name (i := j) ok.nd (by rw [ok.N]; exact hj) l3 l4) pgs_nil))) (hs _ ok.sc) (hw _ ok.sc), ?_⟩
  refine h X ok B0 H0 B H σ R _ fun vs B1 H1 f1 r1 ap => ?_
  cases r1 with
  | cons h1 t1 => cases t1 with
    | cons h2 t2 => cases t2 with
      | nil =>
        rename_i v1 v2
        refine ⟨by show (2 : Nat) ≤ sizeLine; decide, fun p hp => ?_⟩
        have nH : H p = none := f1.free R.src hp
        have nB : B1 p = none := f1.s.n hp
        have f2 : Fr Z B H B1 (upd H1 p (.tup [v1, v2])) := f1.grow R.src nH nB
        have up : ∀ {l : L} {v : V}, RL M.C Z H B1 H1 l v → RL M.C Z H B1 (upd H1 p (.tup [v1, v2])) l v ∧ ∀ a, Foot (upd H1 p (.tup [v1, v2])) l v a → Foot H1 l v a := fun {l v} hl => by
          have nf : ¬ Foot H1 l v p := fun z => by obtain ⟨_, ob, e⟩ := hl.foot z; rw [hp] at e; cases e
          exact ⟨hl.upd nf, fun a z => foot_upd hl nf z⟩
        obtain ⟨h1', g1⟩ := up h1
        obtain ⟨h2', g2⟩ := up h2
        refine ⟨p, [v1, v2], rfl, SqT.of upd_same, rfl, v1, [v2], rfl, v2, [], rfl, rfl, o.nx _ B1 _ _ k ?_ f1.b⟩
        refine (R.setN f2 h1').setL (h2'.start fun a n => R.fr.free R.s0 n) fun j' m' w' a' ne e1 e2 k1 k2 => ?_
        by_cases q : i = j'
        · subst q
          have hl : i < r.length := by
            have := (List.getElem?_eq_some_iff.mp e1).1
            rwa [List.length_set] at this
          rw [List.getElem?_set_self hl] at e1
          rw [List.getElem?_set_self (by rw [R.len]; exact hl)] at e2
          cases e1; cases e2
          exact ap 1 0 m l _ _ a' rfl rfl rfl rfl (by decide) (g2 _ k1) (g1 _ k2)
        · rw [List.getElem?_set_ne q] at e1 e2
          obtain ⟨n, _⟩ := h2'.foot k1
          obtain ⟨w2, q1, h3⟩ := R.at_ j' m' e1
          rw [e2] at q1; cases q1
          obtain ⟨_, ob, q3⟩ := h3.foot (Foot.back R.s0 f2 h3 k2)
          rw [n] at q3; cases q3
end
end OC
set_option maxHeartbeats 4000000
/-! The law's own functions: gaps, heights. -/
namespace OC
open PySem PySem.Spec PyProof.Rows L2
def gapsD' (ps : List Per) : D := .lst ((gaps ps).map gpD)
def gapK (ps : List Per) (k : Nat) : Gp := ⟨(stops ps).getD k 0, (stops ps).getD (k + 1) 0 - (stops ps).getD k 0, decide (lowV ps ((stops ps).getD k 0) % 2 = 1)⟩
theorem gaps_range (ps : List Per) : (List.range ((stops ps).length - 1)).map (gapK ps) = gaps ps := by
  rw [gaps_low]
  apply List.ext_getElem
  · simp [List.length_zip]
  · intro i h1 h2
    simp at h1
    simp [gapK, List.getD, show i < (stops ps).length by omega, show i + 1 < (stops ps).length by omega, Nat.add_comm 1 i]
theorem mod_two (n : Int) : atI [D.str "even", .str "odd"] (n % 2) = some (D.str (kindS (decide (n % 2 = 1)))) := by
  have : n % 2 = 0 ∨ n % 2 = 1 := by omega
  rcases this with e | e <;> rw [e] <;> rfl
section
variable {M : Mo} (h : Hd M)
include h
theorem w_gaps_L : FnG M 2 "_law_gaps" false (Q1 gapsD) := by
  refine h.fnG 94 81 fs_gaps_L bn_gaps_L Q1.len ?_
  rintro Z ds P - ⟨ps, gd, rfl, rfl⟩
  have l8 := gd.len
  have ls := stops_len ps
  have l1 : 1 ≤ (stops ps).length := by obtain ⟨y, l, e⟩ := stops_ne gd; rw [e]; simp
  have at_ : ∀ k : Nat, k < (stops ps).length → atI ((stops ps).map D.int) (k : Int) = some (.int ((stops ps).getD k 0)) := fun k hk => atI_nat (by rw [List.getElem?_map, List.getD_eq_getElem?_getD]; simp [hk])
  refine SS_parC (i := 1) (j := 2) (AL_cons (E.l (EP_call (w_stops_L h) (A1 (E_var 0)) ⟨_, gd, rfl, rfl⟩)) (AL_cons (EL_lst A_nil) AL_nil)) ?_
  refine SS_fold (l := List.range ((stops ps).length - 1)) (gf := fun k => D.int (k : Int)) (IT_range (n := (stops ps).length - 1) (E.of (E_sub (E_lenL h (E_var 1)) E_int) (by rw [List.length_map]; congr 1; omega)) (by omega) (h.free 114)) (fun s : List Gp => [some (.d (peopleD ps)), some (.d (stopsD ps)), some (.own (s.map gpD)), none, none, none]) (fun s k => s ++ [gapK ps k]) [] Le.rfl' ?_ ?_
  · rintro s pre k post e1 e2
    have hk : k < (stops ps).length - 1 := by
      have : k ∈ List.range ((stops ps).length - 1) := by rw [e1]; simp
      simpa using this
    have hs : s.length ≤ 8 := by
      have h1 := fold_len (len := fun s : List Gp => s) (f := fun s k => s ++ [gapK ps k]) (fun s a => by simp) pre []
      have h2 := congrArg List.length e1
      simp at h2
      rw [← e2] at h1; simp at h1; omega
    refine ⟨_, _, G_name 3, ?_⟩
    refine SS_set (x := .int (lowV ps ((stops ps).getD k 0))) 4 (E_sum h (E_lcc (l := ps) (gf := perD) [("_law_person", 5)] (fun p => decide (p.pl ≤ (stops ps).getD k 0)) D.int (·.vc) (IT_list (E_var 0)) (fun p hp => ⟨_, _, G_name 5, by decide, .inr ⟨_, rfl, T_cmp (E_ixT (d := .int p.pl) (E_var 5) E_int) (E_ixL (d := .int ((stops ps).getD k 0)) (E_var 1) (E_var 3) (at_ k (by omega))) (leI _ _)⟩, fun _ => E_ixT (d := .int p.vc) (E_var 5) E_int⟩) (by omega))) ?_
    refine SS_append (ds := s.map gpD) 2 (E_tup (A_cons (E_ixL (d := .int ((stops ps).getD k 0)) (E_var 1) (E_var 3) (at_ k (by omega))) (A2 (E_sub (E_ixL (d := .int ((stops ps).getD (k + 1) 0)) (E_var 1) (E_add (E_var 3) E_int) (at_ (k + 1) (by omega))) (E_ixL (d := .int ((stops ps).getD k 0)) (E_var 1) (E_var 3) (at_ k (by omega)))) (E_ixL (E_lst (A2 E_str E_str)) (E_mod (E_intI h (E_var 4)) E_int) (mod_two _))))) (by rw [List.length_map]; omega) ?_
    refine SS_nil ?_
    rw [List.map_append]
    exact Le.keep (Le.keep (Le.keep (Le.drop (Le.drop (Le.drop Le.nil)))))
  · refine SS_give 2 ?_
    refine SS_ret (E_var 2) ?_
    show D.lst (((List.range ((stops ps).length - 1)).foldl (fun s k => s ++ [gapK ps k]) []).map gpD) = gapsD ps
    have : ∀ (l : List Nat) (a : List Gp), l.foldl (fun s k => s ++ [gapK ps k]) a = a ++ l.map (gapK ps) := by
      intro l
      induction l with
      | nil => intro a; simp
      | cons x l ih => intro a; rw [List.foldl_cons, ih]; simp
    rw [this, List.nil_append, gaps_range]; rfl
end
end OC
set_option maxHeartbeats 4000000
/-! The law's own functions: wide, heights. -/
namespace OC
open PySem PySem.Spec PyProof.Rows L2
def wideOf (ps : List Per) (b : Bool) : Int := if b then oddW ps else evenW ps
def Q1K (f : List Per → Bool → D) : Rel := fun ds P => ∃ ps b, Good ps ∧ ds = [peopleD ps, .str (kindS b)] ∧ P = fun x => x = f ps b
theorem Q1K.len {f : List Per → Bool → D} : ∀ ds P, Q1K f ds P → ds.length = 2 := by rintro ds P ⟨ps, b, _, rfl, rfl⟩; rfl
theorem kindS_eq (a b : Bool) : decide (kindS a = kindS b) = (a == b) := by cases a <;> cases b <;> decide +kernel
def hts (ps : List Per) : List Int := 0 :: (cornersF 0 (gaps ps)).map (·.2)
theorem hts_fold : ∀ (l : List Gp) (pre : List Int) (x : Int), l.foldl (fun (s : List Int) q => s ++ [s.getLastD 0 + sg q]) (pre ++ [x]) = pre ++ x :: (cornersF x l).map (·.2)
  | [], pre, x => rfl
  | q :: l, pre, x => by
    rw [List.foldl_cons]
    have e : (pre ++ [x]).getLastD 0 = x := by rw [List.getLastD_eq_getLast?]; simp
    rw [e, hts_fold l (pre ++ [x]) (x + sg q)]
    show (pre ++ [x]) ++ _ = pre ++ x :: (x + sg q) :: _
    simp
section
variable {M : Mo} (h : Hd M)
include h
theorem w_wide_L : FnG M 3 "_law_wide" false (Q1K fun ps b => .int (wideOf ps b)) := by
  refine h.fnG 95 82 fs_wide_L bn_wide_L Q1K.len ?_
  rintro Z ds P - ⟨ps, b, gd, rfl, rfl⟩
  have lg := gaps_le gd
  refine SS_ret (E.of (E_sum h (E_lcc (l := gaps ps) (gf := gpD) [("_law_gap", 2)] (fun q => q.odd == b) D.int (·.width) (IT_list (EP_call (w_gaps_L h) (A1 (E_var 0)) ⟨_, gd, rfl, rfl⟩)) (fun q hq => ⟨_, _, G_name 2, by decide, .inr ⟨_, rfl, T.of (T_cmp (E_ixT (d := .str (kindS q.odd)) (E_var 2) E_int) (E_var 1) (eqS _ _)) (kindS_eq _ _)⟩, fun _ => E_ixT (d := .int q.width) (E_var 2) E_int⟩) (by omega))) ?_) rfl
  unfold wideOf oddW evenW
  cases b
  · congr 3; apply List.filter_congr; intro q _; cases q.odd <;> rfl
  · congr 3; apply List.filter_congr; intro q _; cases q.odd <;> rfl
end
end OC
set_option maxHeartbeats 4000000
/-! The law's own functions: heights. -/
namespace OC
open PySem PySem.Spec PyProof.Rows L2
def htStep (s : List Int × Int) (q : Gp) : List Int × Int := (s.1 ++ [s.2], s.2 + sg q)
theorem ht_fold : ∀ (l : List Gp) (s : List Int × Int), (l.foldl htStep s).1 ++ [(l.foldl htStep s).2] = s.1 ++ s.2 :: (cornersF s.2 l).map (·.2)
  | [], s => rfl
  | q :: l, s => by
    rw [List.foldl_cons, ht_fold l (htStep s q)]
    show (s.1 ++ [s.2]) ++ (s.2 + sg q) :: _ = s.1 ++ s.2 :: (s.2 + sg q) :: _
    simp [htStep]
theorem hts_len (ps : List Per) : (hts ps).length = (gaps ps).length + 1 := by unfold hts; rw [List.length_cons, List.length_map, cornersF_len]
section
variable {M : Mo} (h : Hd M)
include h
theorem w_heights_L : FnG M 3 "_law_heights" false (Q1 fun ps => intsD (hts ps)) := by
  refine h.fnG 96 83 fs_heights_L bn_heights_L Q1.len ?_
  rintro Z ds P - ⟨ps, gd, rfl, rfl⟩
  have lg := gaps_le gd
  refine SS_setL 1 (EL_lst (A1 E_int)) ?_
  refine SS_fold (l := gaps ps) (gf := gpD) (IT_list (EP_call (w_gaps_L h) (A1 (E_var 0)) ⟨_, gd, rfl, rfl⟩)) (fun s : List Int × Int => [some (.d (peopleD ps)), some (.own ((s.1 ++ [s.2]).map D.int)), none, none, none]) htStep ([], 0) Le.rfl' ?_ ?_
  · rintro s pre q post e1 e2
    have hs : s.1.length ≤ 8 := by
      have h1 := fold_len (len := fun s : List Int × Int => s.1) (f := htStep) (fun s a => by simp [htStep]) pre ([], 0)
      have h2 := congrArg List.length e1
      simp at h2
      rw [← e2] at h1; simp at h1; omega
    refine ⟨_, _, G_3 (G_name 2) (G_name 3) (G_name 4), ?_⟩
    have el : atI ((s.1 ++ [s.2]).map D.int) (-1) = some (.int s.2) := atI_last (by rw [List.map_append, List.map_singleton]; simp)
    refine SS_append (ds := (s.1 ++ [s.2]).map D.int) 1 (E.of (y := .int (s.2 + sg q)) (E_add (E_ownIx 1 (d := .int s.2) (E_neg E_int) el) (E.of (E_if (T.of (T_cmp (E_var 4) E_str (eqS _ _)) (kind_odd _)) (fun _ => E_var 3) (fun _ => E_sub E_int (E_var 3))) (y := .int (sg q)) (by unfold sg; cases q.odd <;> simp))) rfl) (by simp; omega) ?_
    refine SS_nil ?_
    show Le [_, some (.own (((s.1 ++ [s.2]) ++ [s.2 + sg q]).map D.int)), none, none, none] _
    rw [List.map_append (l₁ := s.1 ++ [s.2])]
    exact Le.keep (Le.keep (Le.drop (Le.drop (Le.drop Le.nil))))
  · refine SS_give 1 ?_
    refine SS_ret (E_var 1) ?_
    rw [ht_fold]; rfl
end
end OC
set_option maxHeartbeats 4000000
/-! The law's own functions: turn sum, kept. -/
namespace OC
open PySem PySem.Spec PyProof.Rows L2
def voiced (ps : List Per) : List Int := sortS ((ps.filter fun p => decide (p.vc = 1)).map (·.pl))
def altI (q : Int × Nat) : Int := if decide ((q.2 : Int) % 2 = 0) then q.1 else 0 - q.1
def turnS (ps : List Per) : Int := ((voiced ps).zipIdx.map altI).sum
theorem voiced_len (ps : List Per) : (voiced ps).length ≤ ps.length := by
  unfold voiced; rw [(sortS_perm _).length_eq, List.length_map]; exact List.length_filter_le _ _
section
variable {M : Mo} (h : Hd M)
include h
theorem w_turn_sum_L : FnG M 1 "_law_turn_sum" false (Q1 fun ps => .int (turnS ps)) := by
  refine h.fnG 97 84 fs_turn_sum_L bn_turn_sum_L Q1.len ?_
  rintro Z ds P - ⟨ps, gd, rfl, rfl⟩
  have l8 := gd.len
  have lv := voiced_len ps
  refine SS_set (x := intsD (voiced ps)) 1 (E_callB (A1 (E_lcc (l := ps) (gf := perD) [("_law_person", 2)] (fun p => decide (p.vc = 1)) D.int (·.pl) (IT_list (E_var 0)) (fun p hp => ⟨_, _, G_name 2, by decide, .inr ⟨_, rfl, T_cmp (E_ixT (d := .int p.vc) (E_var 2) E_int) E_int (eqI _ _)⟩, fun _ => E_ixT (d := .int p.pl) (E_var 2) E_int⟩) (by omega))) (clSorted (by rw [List.length_map]; have : (ps.filter fun p => decide (p.vc = 1)).length ≤ ps.length := List.length_filter_le _ _; omega) (sortS_unique _)) (h.free 116)) ?_
  refine SS_ret (E_sum h (E_lcm (l := (voiced ps).zipIdx) (gf := fun q => D.tup [.int (q.2 : Int), .int q.1]) [("_law_k", 3), ("_law_place_here", 4)] D.int altI (IT.of (IT_enum (E_var 1) (h.free 107)) (enumD_map _ _)) (fun q hq => ⟨_, _, G_2 (G_name 3) (G_name 4), by decide, E.of (E_if (T_cmp (E_mod (E_intI h (E_var 3)) E_int) E_int (eqI _ _)) (fun _ => E_var 4) (fun _ => E_sub E_int (E_var 4))) (by unfold altI; split <;> rfl)⟩) (by rw [List.length_zipIdx]; omega))) rfl
end
end OC
set_option maxHeartbeats 4000000
/-! The law's own functions: kept widths. -/
namespace OC
open PySem PySem.Spec PyProof.Rows L2
theorem zip_plc {ps qs : List Per} (gq : Good qs) (lk : Like ps qs) : ps.zip (qs.map (·.pl)) = ps.map fun p => (p, plc qs p.nm) := by
  have hn := lk.names
  have hl : ps.length = qs.length := by have := congrArg List.length hn; simpa using this
  apply List.ext_getElem
  · simp [List.length_zip]; omega
  · intro i h1 h2
    simp at h1
    have e : ps[i].nm = (qs[i]'(by omega)).nm := by
      have := congrArg (fun l => l[i]?) hn
      have i1 : i < ps.length := by omega
      have i2 : i < qs.length := by omega
      simp only [List.getElem?_map, List.getElem?_eq_getElem i1, List.getElem?_eq_getElem i2, Option.map_some, Option.some.injEq] at this
      exact this
    simp only [List.getElem_zip, List.getElem_map]
    rw [e]
    unfold plc; rw [perOf_mem gq.nd (List.getElem_mem _)]
theorem there_at {ps qs : List Per} (gq : Good qs) (lk : Like ps qs) {y : Int} (hy : y ∈ stops ps) : (((ps.zip (qs.map (·.pl))).filter fun q => decide (q.1.pl = y)).map (·.2))[0]? = some (plc qs (firstAt ps y)) := by
  rw [zip_plc gq lk, List.filter_map, List.map_map]
  have h1 := (firstAt_at hy).1
  unfold crowd at h1
  rw [List.getElem?_map] at h1 ⊢
  show ((ps.filter fun p => decide (p.pl = y))[0]?).map _ = _
  cases e : (ps.filter fun p => decide (p.pl = y))[0]? with
  | none => rw [e] at h1; simp at h1
  | some p => rw [e] at h1; simp at h1; simp [h1]
theorem gapsF_next (va : Int → Int) : ∀ (xs : List Int) (m : Int) (q : Gp), q ∈ gapsF va m xs → q.left + q.width ∈ xs
  | [], m, q, h => by simp [gapsF] at h
  | [a], m, q, h => by simp [gapsF] at h
  | a :: b :: l, m, q, h => by
    unfold gapsF at h
    rcases List.mem_cons.mp h with e | e
    · subst e; simp only; exact List.mem_cons_of_mem _ (by rw [show a + (b - a) = b by omega]; exact List.mem_cons_self)
    · exact List.mem_cons_of_mem _ (gapsF_next va (b :: l) _ q e)
theorem kept_gaps (f : Int → Int) (va : Int → Int) : ∀ (xs : List Int) (m : Int), (gapsF va m xs).map (fun q => f (q.left + q.width) - f q.left) = pairW (xs.map f)
  | [], m => rfl
  | [a], m => rfl
  | a :: b :: l, m => by
    unfold gapsF
    rw [List.map_cons, kept_gaps f va (b :: l)]
    show (f (a + (b - a)) - f a) :: _ = (f b - f a) :: _
    rw [show a + (b - a) = b by omega]; rfl
section
variable {M : Mo} (h : Hd M)
include h
theorem w_kept_L : FnG M 3 "_law_kept" false (Q2 fun ps qs => intsD (keptW ps qs)) := by
  refine h.fnG 105 92 fs_kept_L bn_kept_L Q2.len ?_
  rintro Z ds P - ⟨ps, qs, gp, gq, lk, rfl, rfl⟩
  have lg := gaps_le gp
  have l8 := gp.len
  have lz : (ps.zip (qs.map (·.pl))).length ≤ 8 := by rw [List.length_zip]; omega
  refine SS_setL 2 (EL_lst A_nil) ?_
  refine SS_fold (l := gaps ps) (gf := gpD) (IT_list (EP_call (w_gaps_L h) (A1 (E_var 0)) ⟨_, gp, rfl, rfl⟩)) (fun s : List Int => [some (.d (peopleD ps)), some (.d (spotsD qs)), some (.own (s.map D.int)), none, none, none, none, none, none]) (fun s q => s ++ [plc qs (firstAt ps (q.left + q.width)) - plc qs (firstAt ps q.left)]) [] Le.rfl' ?_ ?_
  · rintro s pre q post e1 e2
    have hq : q ∈ gaps ps := by rw [e1]; simp
    have hs : s.length ≤ 8 := by
      have h1 := fold_len (len := fun s : List Int => s) (f := fun s (q : Gp) => s ++ [plc qs (firstAt ps (q.left + q.width)) - plc qs (firstAt ps q.left)]) (fun s a => by simp) pre []
      have h2 := congrArg List.length e1
      simp at h2
      rw [← e2] at h1; simp at h1; omega
    have a1 := there_at gq lk (gaps_left hq)
    have a2 := there_at gq lk (gapsF_next _ _ _ _ hq : q.left + q.width ∈ stops ps)
    refine ⟨_, _, G_3 (G_name 3) (G_name 4) (G_name 5), ?_⟩
    refine SS_set (x := .int (plc qs (firstAt ps q.left))) 6 (E_ixL (E_lcc (l := ps.zip (qs.map (·.pl))) (gf := fun q => D.tup [perD q.1, .int q.2]) [("_law_person", 7), ("_law_there", 8)] (fun z => decide (z.1.pl = q.left)) D.int (·.2) (IT.of (IT_zipLT (es := (qs.map (·.pl)).map D.int) (A2 (E_var 0) (E.of (E_var 1) (by unfold spotsD; rw [List.map_map]; rfl))) (h.free 121)) (zipD_map _ _ _ _)) (fun z hz => ⟨_, _, G_2 (G_name 7) (G_name 8), by decide, .inr ⟨_, rfl, T_cmp (E_ixT (d := .int z.1.pl) (E_var 7) E_int) (E_var 3) (eqI _ _)⟩, fun _ => E_var 8⟩) (by omega)) E_int (atI_zero (by rw [List.getElem?_map, a1]; rfl))) ?_
    refine SS_append (ds := s.map D.int) 2 (E_sub (E_ixL (d := .int (plc qs (firstAt ps (q.left + q.width)))) (E_lcc (l := ps.zip (qs.map (·.pl))) (gf := fun q => D.tup [perD q.1, .int q.2]) [("_law_person", 7), ("_law_there", 8)] (fun z => decide (z.1.pl = q.left + q.width)) D.int (·.2) (IT.of (IT_zipLT (es := (qs.map (·.pl)).map D.int) (A2 (E_var 0) (E.of (E_var 1) (by unfold spotsD; rw [List.map_map]; rfl))) (h.free 121)) (zipD_map _ _ _ _)) (fun z hz => ⟨_, _, G_2 (G_name 7) (G_name 8), by decide, .inr ⟨_, rfl, T_cmp (E_ixT (d := .int z.1.pl) (E_var 7) E_int) (E_add (E_var 3) (E_var 4)) (eqI _ _)⟩, fun _ => E_var 8⟩) (by omega)) E_int (atI_zero (by rw [List.getElem?_map, a2]; rfl))) (E_var 6)) (by rw [List.length_map]; omega) ?_
    refine SS_nil ?_
    rw [List.map_append]
    exact Le.keep (Le.keep (Le.keep (Le.drop (Le.drop (Le.drop (Le.drop (Le.drop (Le.drop Le.nil))))))))
  · refine SS_give 2 ?_
    refine SS_ret (E_var 2) ?_
    show intsD ((gaps ps).foldl (fun (s : List Int) q => s ++ [plc qs (firstAt ps (q.left + q.width)) - plc qs (firstAt ps q.left)]) []) = intsD (keptW ps qs)
    have : ∀ (l : List Gp) (a : List Int), l.foldl (fun (s : List Int) q => s ++ [plc qs (firstAt ps (q.left + q.width)) - plc qs (firstAt ps q.left)]) a = a ++ l.map (fun q => plc qs (firstAt ps (q.left + q.width)) - plc qs (firstAt ps q.left)) := by
      intro l
      induction l with
      | nil => intro a; simp
      | cons x l ih => intro a; rw [List.foldl_cons, ih]; simp
    rw [this, List.nil_append]
    refine congrArg intsD ?_
    exact kept_gaps (fun y => plc qs (firstAt ps y)) (vat ps) (stops ps) 0
end
end OC
set_option maxHeartbeats 4000000
/-! Mathematics: people moved by a slow map; loud crowds; rows that can be made. -/
namespace OC
open PySem PySem.Spec PyProof.Rows L2
/-- goes up by none or one -/
def Slow (f : Int → Int) : Prop := ∀ x, f x ≤ f (x + 1) ∧ f (x + 1) ≤ f x + 1
theorem slow_go {f : Int → Int} (h : Slow f) (a : Int) : ∀ n : Nat, f a ≤ f (a + n) ∧ f (a + n) ≤ f a + n
  | 0 => by simp
  | n + 1 => by
    have h1 := slow_go h a n
    have h2 := h (a + n)
    have e : a + ((n + 1 : Nat) : Int) = a + (n : Int) + 1 := by omega
    rw [e]; omega
theorem Slow.le {f : Int → Int} (h : Slow f) {a b : Int} (hab : a ≤ b) : f a ≤ f b ∧ f b ≤ f a + (b - a) := by
  have := slow_go h a (b - a).toNat
  have e : a + ((b - a).toNat : Int) = b := by omega
  rw [e] at this; omega
def pull (Y t : Int) (f : Int → Int) : Int → Int := fun x => drawI Y t (f x)
theorem pull_slow {f : Int → Int} (h : Slow f) {Y t : Int} (ht : 0 ≤ t) : Slow (pull Y t f) := fun x => by
  have := h x
  unfold pull drawI
  split <;> split <;> omega
theorem pull_pull {f : Int → Int} {Y s t : Int} (hs : 0 ≤ s) (ht : 0 ≤ t) : pull Y t (pull Y s f) = pull Y (s + t) f := funext fun x => drawI_add hs ht
theorem pull_lo {f : Int → Int} {Y t x : Int} (h : f x ≤ Y - t) (ht : 0 ≤ t) : pull Y t f x = f x + t := by unfold pull drawI; split <;> omega
theorem pull_hi {f : Int → Int} {Y t x : Int} (h : Y + t ≤ f x) (ht : 0 ≤ t) : pull Y t f x = f x - t := by unfold pull drawI; split <;> omega
theorem pull_mid {f : Int → Int} {Y t x : Int} (h : Y - t ≤ f x) (h' : f x ≤ Y + t) (ht : 0 ≤ t) : pull Y t f x = Y := by unfold pull drawI; split <;> omega
/-- the people so moved -/
def st (ps : List Per) (f : Int → Int) : List Per := ps.map (movP fun p => f p.pl)
theorem st_id (ps : List Per) : st ps (fun x => x) = ps := by
  unfold st
  conv => rhs; rw [← List.map_id ps]
  apply List.map_congr_left
  intro p _; rfl
theorem st_names (ps : List Per) (f : Int → Int) : (st ps f).map (·.nm) = ps.map (·.nm) := mov_names _ _
theorem st_good {ps : List Per} (h : Good ps) (f : Int → Int) : Good (st ps f) := h.mov _
theorem st_like (ps : List Per) (f : Int → Int) : Like ps (st ps f) := mov_like _ _
theorem plc_st {ps : List Per} {n : Str} (f : Int → Int) (gd : Good ps) (hn : n ∈ ps.map (·.nm)) : plc (st ps f) n = f (plc ps n) := by
  unfold plc st; rw [perOf_mov _ gd.nd hn]; rfl
theorem drawn_st (ps : List Per) (f : Int → Int) (Y t : Int) : drawn (st ps f) Y t = st ps (pull Y t f) := by
  unfold drawn st; rw [List.map_map]; rfl
/-! ### loud crowds -/
/-- the kind of the step from x to the next integer -/
def kap (ps : List Per) (x : Int) : Bool := decide (lowV ps x % 2 = 1)
theorem low_split {a b : Int} (hab : a ≤ b) (c : Int → Bool) : ∀ ps : List Per, (∀ p ∈ ps, c p.pl = (decide (a < p.pl) && decide (p.pl ≤ b))) → lowV ps b = lowV ps a + vsum (ps.filter fun p => c p.pl)
  | [], _ => rfl
  | p :: ps, h => by
    have ih := low_split hab c ps fun q hq => h q (List.mem_cons_of_mem _ hq)
    have hp := h p List.mem_cons_self
    unfold lowV vsum at ih ⊢
    have key : ∀ (f : Per → Bool), ((List.filter f (p :: ps)).map (·.vc)).sum = (if f p then p.vc else 0) + ((List.filter f ps).map (·.vc)).sum := fun f => by
      rw [List.filter_cons]; cases f p <;> simp
    rw [key, key, key, ih, hp]
    by_cases h1 : p.pl ≤ a
    · rw [if_pos (by simpa using (by omega : p.pl ≤ b)), if_pos (by simpa using h1), if_neg (by simp; omega)]; omega
    · by_cases h2 : p.pl ≤ b
      · rw [if_pos (by simpa using h2), if_neg (by simpa using h1), if_pos (by simp; omega)]; omega
      · rw [if_neg (by simpa using h2), if_neg (by simpa using h1), if_neg (by simp; omega)]; omega
theorem crowd_st (ps : List Per) (f : Int → Int) (Y : Int) : vsum (crowd (st ps f) Y) = vsum (ps.filter fun p => decide (f p.pl = Y)) := by
  unfold crowd st vsum
  rw [List.filter_map, List.map_map]; rfl
theorem loud_st {ps : List Per} {f : Int → Int} (h : Slow f) {a b Y : Int} (a1 : f a = Y - 1) (a2 : f (a + 1) = Y) (b1 : f b = Y) (b2 : f (b + 1) = Y + 1) : loudAt (st ps f) Y = (kap ps a != kap ps b) := by
  have hab : a < b := by
    by_cases q : a < b
    · exact q
    · have := (h.le (show b ≤ a by omega)).1; omega
  have key := low_split (ps := ps) (Int.le_of_lt hab) (fun x => decide (f x = Y)) fun p _ => by
    by_cases q1 : a < p.pl
    · have h1 := (h.le (show a + 1 ≤ p.pl by omega)).1
      by_cases q2 : p.pl ≤ b
      · have h2 := (h.le q2).1
        rw [decide_eq_true q1, decide_eq_true q2, decide_eq_true (by omega)]; rfl
      · have h2 := (h.le (show b + 1 ≤ p.pl by omega)).1
        rw [decide_eq_true q1, decide_eq_false q2, decide_eq_false (by omega)]; rfl
    · have h1 := (h.le (show p.pl ≤ a by omega)).1
      rw [decide_eq_false q1, decide_eq_false (by omega)]; rfl
  unfold loudAt kap
  rw [crowd_st, key]
  by_cases q1 : lowV ps a % 2 = 1
  · by_cases q2 : vsum (ps.filter fun p => decide (f p.pl = Y)) % 2 = 1
    · rw [decide_eq_true q1, decide_eq_true q2, decide_eq_false (by omega)]; rfl
    · rw [decide_eq_true q1, decide_eq_false q2, decide_eq_true (by omega)]; rfl
  · by_cases q2 : vsum (ps.filter fun p => decide (f p.pl = Y)) % 2 = 1
    · rw [decide_eq_false q1, decide_eq_true q2, decide_eq_true (by omega)]; rfl
    · rw [decide_eq_false q1, decide_eq_false q2, decide_eq_false (by omega)]; rfl
/-! ### the first and the last place -/
structure Box (ps : List Per) (lo hi : Int) : Prop where
  atLo : ∃ p ∈ ps, p.pl = lo
  atHi : ∃ p ∈ ps, p.pl = hi
  bd : ∀ p ∈ ps, lo ≤ p.pl ∧ p.pl ≤ hi
theorem Box.le {ps : List Per} {lo hi : Int} (b : Box ps lo hi) : lo ≤ hi := by
  obtain ⟨p, hp, e⟩ := b.atLo
  have := b.bd p hp; omega
theorem up_head {l : List Int} (up : l.Pairwise (· < ·)) {y : Int} (hy : y ∈ l) (hl : ∀ z ∈ l, y ≤ z) : l.headD 0 = y ∧ minOf l = y := by
  refine ⟨?_, minOf_unique hy hl⟩
  cases l with
  | nil => simp at hy
  | cons a l =>
    show a = y
    rcases List.mem_cons.mp hy with e | e
    · exact e.symm
    · have h1 := (List.pairwise_cons.mp up).1 y e
      have h2 := hl a List.mem_cons_self
      omega
theorem up_last {l : List Int} (up : l.Pairwise (· < ·)) {y : Int} (hy : y ∈ l) (hl : ∀ z ∈ l, z ≤ y) : l.getLastD 0 = y := by
  obtain ⟨init, b, e⟩ : ∃ init b, l = init ++ [b] := by
    cases h : l.getLast? with
    | none => rw [List.getLast?_eq_none_iff] at h; rw [h] at hy; simp at hy
    | some b => obtain ⟨ys, e⟩ := List.getLast?_eq_some_iff.mp h; exact ⟨ys, b, e⟩
  subst e
  have : (init ++ [b]).getLastD 0 = b := by rw [List.getLastD_eq_getLast?]; simp
  rw [this]
  rcases List.mem_append.mp hy with k | k
  · have h1 := (List.pairwise_append.mp up).2.2 y k b List.mem_cons_self
    have h2 := hl b (by simp)
    omega
  · rw [List.mem_singleton] at k; exact k.symm
theorem Box.st {ps : List Per} {lo hi : Int} (b : Box ps lo hi) {f : Int → Int} (h : Slow f) : Box (st ps f) (f lo) (f hi) := by
  obtain ⟨p, hp, e⟩ := b.atLo
  obtain ⟨q, hq, e'⟩ := b.atHi
  refine ⟨⟨_, List.mem_map.mpr ⟨p, hp, rfl⟩, by subst e; rfl⟩, ⟨_, List.mem_map.mpr ⟨q, hq, rfl⟩, by subst e'; rfl⟩, fun r hr => ?_⟩
  obtain ⟨s, hs, rfl⟩ := List.mem_map.mp hr
  have := b.bd s hs
  exact ⟨(h.le this.1).1, (h.le this.2).1⟩
theorem Box.head {ps : List Per} {lo hi : Int} (b : Box ps lo hi) : (stops ps).headD 0 = lo ∧ minOf (stops ps) = lo := by
  refine up_head (stops_up ps) ((stops_mem ps _).mpr b.atLo) fun z hz => ?_
  obtain ⟨p, hp, rfl⟩ := (stops_mem ps z).mp hz
  exact (b.bd p hp).1
theorem Box.last {ps : List Per} {lo hi : Int} (b : Box ps lo hi) : (stops ps).getLastD 0 = hi := by
  refine up_last (stops_up ps) ((stops_mem ps _).mpr b.atHi) fun z hz => ?_
  obtain ⟨p, hp, rfl⟩ := (stops_mem ps z).mp hz
  exact (b.bd p hp).2
theorem Box.mk' {ps : List Per} (gd : Good ps) : Box ps ((stops ps).headD 0) ((stops ps).getLastD 0) := by
  obtain ⟨e0, e1⟩ := stops_ends gd
  have m0 := List.mem_of_getElem? e0
  have m1 := List.mem_of_getLast? e1
  have up := stops_up ps
  refine ⟨(stops_mem ps _).mp m0, (stops_mem ps _).mp m1, fun p hp => ?_⟩
  have hm := (stops_mem ps p.pl).mpr ⟨p, hp, rfl⟩
  constructor
  · cases q : stops ps with
    | nil => rw [q] at hm; simp at hm
    | cons a l =>
      rw [q] at hm up
      rcases List.mem_cons.mp hm with e | e
      · rw [e]; exact Int.le_refl _
      · exact Int.le_of_lt ((List.pairwise_cons.mp up).1 _ e)
  · obtain ⟨ys, e⟩ := List.getLast?_eq_some_iff.mp e1
    rw [e] at hm up
    rcases List.mem_append.mp hm with k | k
    · exact Int.le_of_lt ((List.pairwise_append.mp up).2.2 _ k _ List.mem_cons_self)
    · rw [List.mem_singleton] at k; rw [k]; exact Int.le_refl _
theorem apart_st {ps : List Per} {lo hi : Int} (b : Box ps lo hi) {f : Int → Int} (h : f lo < f hi) : together (st ps f) = false := by
  obtain ⟨p, hp, e⟩ := b.atLo
  obtain ⟨q, hq, e'⟩ := b.atHi
  unfold together
  refine decide_eq_false fun hlt => ?_
  have m1 : f lo ∈ stops (st ps f) := (stops_mem _ _).mpr ⟨_, List.mem_map.mpr ⟨p, hp, rfl⟩, by subst e; rfl⟩
  have m2 : f hi ∈ stops (st ps f) := (stops_mem _ _).mpr ⟨_, List.mem_map.mpr ⟨q, hq, rfl⟩, by subst e'; rfl⟩
  match hs : stops (st ps f), hlt with
  | [], _ => rw [hs] at m1; simp at m1
  | [a], _ => rw [hs] at m1 m2; simp at m1 m2; omega
theorem apart_box {ps : List Per} {lo hi : Int} (b : Box ps lo hi) (h : together ps = false) : lo < hi := by
  by_cases q : lo < hi
  · exact q
  · have hle := b.le
    have : lo = hi := by omega
    subst this
    have hone : ∀ z ∈ stops ps, z = lo := fun z hz => by
      obtain ⟨p, hp, rfl⟩ := (stops_mem ps z).mp hz
      have := b.bd p hp; omega
    have h2 : ¬ (stops ps).length < 2 := of_decide_eq_false h
    have up := stops_up ps
    match hs : stops ps, h2, up with
    | [], h2, _ => exact absurd (by simp) h2
    | [a], h2, _ => exact absurd (by simp) h2
    | a :: b :: l, _, up =>
      rw [hs] at hone
      have h3 := (List.pairwise_cons.mp up).1 b List.mem_cons_self
      have h4 := hone a List.mem_cons_self
      have h5 := hone b (List.mem_cons_of_mem _ List.mem_cons_self)
      omega
/-! ### rows -/
def Lft (ps : List Per) (f : Int → Int) (Y t : Int) (k : Bool) : Prop := ∀ s, 0 ≤ s → s < t → ∃ a, f a = Y - s - 1 ∧ f (a + 1) = Y - s ∧ kap ps a = k
def Rgt (ps : List Per) (f : Int → Int) (Y t : Int) (k : Bool) : Prop := ∀ s, 0 ≤ s → s < t → ∃ b, f b = Y + s ∧ f (b + 1) = Y + s + 1 ∧ kap ps b = k
theorem row_ok {ps : List Per} {lo hi : Int} (gd : Good ps) (b : Box ps lo hi) {f : Int → Int} (h : Slow f) {n : Str} {Y t : Int} {k : Bool} (hn : n ∈ ps.map (·.nm)) (hY : f (plc ps n) = Y) (ht : 1 ≤ t)
    (hl : Lft ps f Y t k) (hr : Rgt ps f Y t (!k)) (ha : f lo ≤ Y - t ∨ Y + t ≤ f hi) : rowOk (st ps f) (n, t) ∧ goRow (st ps f) (n, t) = st ps (pull Y t f) := by
  have ep : plc (st ps f) n = Y := by rw [plc_st f gd hn, hY]
  refine ⟨⟨by rw [st_names]; exact hn, ht, fun s s0 s1 => ?_⟩, ?_⟩
  · show canCall (drawn (st ps f) (plc (st ps f) n) s) n = true
    rw [ep, drawn_st]
    have hp : plc (st ps (pull Y s f)) n = Y := by rw [plc_st _ gd hn]; exact pull_mid (by omega) (by omega) s0
    obtain ⟨x, x1, x2, x3⟩ := hl s s0 s1
    obtain ⟨z, z1, z2, z3⟩ := hr s s0 s1
    have hb := (h.le (show lo ≤ plc ps n by
      obtain ⟨p1, p2⟩ := perOf_spec hn
      exact (b.bd _ p1).1)).1
    have hb' := (h.le (show plc ps n ≤ hi by
      obtain ⟨p1, p2⟩ := perOf_spec hn
      exact (b.bd _ p1).2)).1
    unfold canCall
    rw [hp, loud_st (pull_slow h s0) (a := x) (b := z) (by rw [pull_lo (by omega) s0]; omega) (pull_mid (by omega) (by omega) s0) (pull_mid (by omega) (by omega) s0) (by rw [pull_hi (by omega) s0]; omega), x3, z3]
    rw [apart_st b (by
      rcases ha with ha | ha
      · rw [pull_lo (by omega) s0]
        by_cases q : f hi ≤ Y + s
        · rw [pull_mid (by omega) q s0]; omega
        · rw [pull_hi (by omega) s0]; omega
      · rw [pull_hi (x := hi) (by omega) s0]
        by_cases q : f lo ≤ Y - s
        · rw [pull_lo q s0]; omega
        · rw [pull_mid (by omega) (by omega) s0]; omega)]
    cases k <;> rfl
  · show drawn (st ps f) (plc (st ps f) n) t = _
    rw [ep, drawn_st]
end OC
set_option maxHeartbeats 4000000
/-! Mathematics: kinds of rows. -/
namespace OC
open PySem PySem.Spec PyProof.Rows L2
theorem cc_apart {ps : List Per} {n : Str} (hc : canCall ps n = true) : together ps = false := by
  unfold canCall at hc; rw [Bool.and_eq_true] at hc
  cases q : together ps with
  | false => rfl
  | true => rw [q] at hc; exact absurd hc.2 (by decide)
def KindRow (ps : List Per) (q : Row) (k : Int) : Prop := ∀ s : Int, 0 ≤ s → s < q.2 → kindAt (drawn ps (plc ps q.1) s) q.1 = k
def KindRows : List Per → List Row → Int → Prop
  | _, [], _ => True
  | ps, q :: l, k => KindRow ps q k ∧ KindRows (goRow ps q) l k
theorem KindRows_app : ∀ (l m : List Row) (ps : List Per) (k : Int), KindRows ps (l ++ m) k ↔ KindRows ps l k ∧ KindRows (after ps l) m k
  | [], m, ps, k => by simp [KindRows, after]
  | q :: l, m, ps, k => by
    show (KindRow ps q k ∧ KindRows (goRow ps q) (l ++ m) k) ↔ (KindRow ps q k ∧ KindRows (goRow ps q) l k) ∧ KindRows (after (goRow ps q) l) m k
    rw [KindRows_app l m, and_assoc]
theorem after_app (ps : List Per) (l m : List Row) : after ps (l ++ m) = after (after ps l) m := by unfold after; rw [List.foldl_append]
theorem callsOf_app (l m : List Row) : callsOf (l ++ m) = callsOf l + callsOf m := by unfold callsOf; simp
theorem kindAt_st {ps : List Per} {lo hi : Int} (gd : Good ps) (b : Box ps lo hi) {g : Int → Int} (h : Slow g) {n : Str} (hn : n ∈ ps.map (·.nm)) : kindAt (st ps g) n = if g (plc ps n) = g lo then 0 else if g (plc ps n) = g hi then 2 else 1 := by
  unfold kindAt
  rw [plc_st g gd hn, (b.st h).head.1, (b.st h).last]
section
variable {ps : List Per} {lo hi : Int} {f : Int → Int} {n : Str} {Y t : Int}
theorem row_mid (gd : Good ps) (b : Box ps lo hi) (h : Slow f) (hn : n ∈ ps.map (·.nm)) (hY : f (plc ps n) = Y) (h1 : f lo ≤ Y - t) (h2 : Y + t ≤ f hi) : KindRow (st ps f) (n, t) 1 := fun s s0 s1 => by
  have s1 : s < t := s1
  show kindAt (drawn (st ps f) (plc (st ps f) n) s) n = 1
  rw [plc_st f gd hn, hY, drawn_st, kindAt_st gd b (pull_slow h s0) hn, pull_mid (by omega) (by omega) s0, pull_lo (x := lo) (by omega) s0, pull_hi (x := hi) (by omega) s0, if_neg (by omega), if_neg (by omega)]
theorem row_fst (gd : Good ps) (b : Box ps lo hi) (h : Slow f) (hn : n ∈ ps.map (·.nm)) (hY : f (plc ps n) = Y) (h1 : f lo = Y) : KindRow (st ps f) (n, t) 0 := fun s s0 s1 => by
  show kindAt (drawn (st ps f) (plc (st ps f) n) s) n = 0
  rw [plc_st f gd hn, hY, drawn_st, kindAt_st gd b (pull_slow h s0) hn, pull_mid (by omega) (by omega) s0, pull_mid (x := lo) (by omega) (by omega) s0, if_pos rfl]
theorem row_lst (gd : Good ps) (b : Box ps lo hi) (h : Slow f) (hn : n ∈ ps.map (·.nm)) (hY : f (plc ps n) = Y) (h1 : f lo ≤ Y - t) (h2 : f hi = Y) : KindRow (st ps f) (n, t) 2 := fun s s0 s1 => by
  have s1 : s < t := s1
  show kindAt (drawn (st ps f) (plc (st ps f) n) s) n = 2
  rw [plc_st f gd hn, hY, drawn_st, kindAt_st gd b (pull_slow h s0) hn, pull_mid (by omega) (by omega) s0, pull_lo (x := lo) (by omega) s0, pull_mid (x := hi) (by omega) (by omega) s0, if_neg (by omega), if_pos rfl]
end
theorem kindsF_all {ps : List Per} {n : Str} {t k : Int} (gd : Good ps) (hn : n ∈ ps.map (·.nm)) (so : stepsOk ps n t) (kr : KindRow ps (n, t) k) : ∀ (f : Nat) (s : Int), 0 ≤ s → s ≤ t → (t - s).toNat ≤ f →
    (∀ q ∈ kindsF f (drawn ps (plc ps n) s) n (t - s), q.1 = k ∧ 1 ≤ q.2 ∧ q.2 ≤ t) ∧ ((kindsF f (drawn ps (plc ps n) s) n (t - s)).map (·.2)).sum = t - s ∧ (s < t → kindsF f (drawn ps (plc ps n) s) n (t - s) ≠ [])
  | 0, s, s0, s1, hf => by
    refine ⟨fun q hq => by simp [kindsF] at hq, by simp [kindsF]; omega, fun h => by omega⟩
  | f + 1, s, s0, s1, hf => by
    unfold kindsF
    by_cases hlt : 0 < t - s
    · rw [if_pos hlt]
      have hp : plc (drawn ps (plc ps n) s) n = plc ps n := by rw [plc_drawn gd hn, drawI_self s0]
      rw [hp]
      have np := nearest_pos (y := plc ps n) (cc_apart (so s s0 (by omega)))
      have hk := kr s s0 (show s < t by omega)
      generalize hm : min (t - s) (nearest (drawn ps (plc ps n) s) (plc ps n)) = mm
      rw [drawn_add s0 (by omega)]
      have e : t - s - mm = t - (s + mm) := by omega
      rw [e]
      obtain ⟨i1, i2, i3⟩ := kindsF_all gd hn so kr f (s + mm) (by omega) (by omega) (by omega)
      refine ⟨fun q hq => ?_, ?_, fun _ => by simp⟩
      · rcases List.mem_cons.mp hq with e | e
        · subst e; exact ⟨hk, by show 1 ≤ mm; omega, by show mm ≤ t; omega⟩
        · exact i1 q e
      · rw [List.map_cons, List.sum_cons, i2]; show mm + _ = _; omega
    · rw [if_neg hlt]
      exact ⟨fun q hq => by simp at hq, by simp; omega, fun h => by omega⟩
theorem rowKinds_all {ps : List Per} {q : Row} {k : Int} (gd : Good ps) (ro : rowOk ps q) (kr : KindRow ps q k) : (∀ x ∈ rowKinds ps q, x.1 = k ∧ 1 ≤ x.2 ∧ x.2 ≤ q.2) ∧ ((rowKinds ps q).map (·.2)).sum = q.2 ∧ rowKinds ps q ≠ [] := by
  obtain ⟨hn, ht, so⟩ := ro
  have h := kindsF_all gd hn so kr q.2.toNat 0 (Int.le_refl _) (by omega) (by omega)
  rw [drawn_zero, Int.sub_zero] at h
  exact ⟨h.1, h.2.1, h.2.2 (by omega)⟩
theorem kindsOf_app : ∀ (l m : List Row) (ps : List Per), kindsOf ps (l ++ m) = kindsOf ps l ++ kindsOf (after ps l) m
  | [], m, ps => rfl
  | q :: l, m, ps => by
    show rowKinds ps q :: kindsOf (goRow ps q) (l ++ m) = rowKinds ps q :: (kindsOf (goRow ps q) l ++ kindsOf (after (goRow ps q) l) m)
    rw [kindsOf_app l m]
/-- rows of one kind -/
theorem kindsOf_all : ∀ (l : List Row) {ps : List Per} {k : Int}, Good ps → ScOk ps l → KindRows ps l k →
    (∀ r ∈ kindsOf ps l, r ≠ [] ∧ ∀ x ∈ r, x.1 = k ∧ 1 ≤ x.2 ∧ x.2 ≤ callsOf l) ∧ ((kindsOf ps l).map fun r => (r.map (·.2)).sum).sum = callsOf l ∧ 0 ≤ callsOf l
  | [], ps, k, _, _, _ => ⟨fun r hr => by simp [kindsOf] at hr, rfl, by decide⟩
  | q :: l, ps, k, gd, ok, kr => by
    obtain ⟨a1, a2, a3⟩ := rowKinds_all gd ok.1 kr.1
    obtain ⟨b1, b2, b3⟩ := kindsOf_all l (ps := goRow ps q) (drawn_good gd _ _) ok.2 kr.2
    have e : callsOf (q :: l) = q.2 + callsOf l := by unfold callsOf; simp
    have q1 := ok.1.2.1
    unfold kindsOf
    rw [e]
    refine ⟨fun r hr => ?_, ?_, by omega⟩
    · rcases List.mem_cons.mp hr with h | h
      · subst h; exact ⟨a3, fun x hx => ⟨(a1 x hx).1, (a1 x hx).2.1, by have := (a1 x hx).2.2; omega⟩⟩
      · exact ⟨(b1 r h).1, fun x hx => ⟨((b1 r h).2 x hx).1, ((b1 r h).2 x hx).2.1, by have := ((b1 r h).2 x hx).2.2; omega⟩⟩
    · rw [List.map_cons, List.sum_cons, a2, b2]
end OC
set_option maxHeartbeats 4000000
/-! Mathematics: pieces fall. -/
namespace OC
open PySem PySem.Spec PyProof.Rows L2
theorem flat_go {f : Int → Int} (a : Int) : ∀ n : Nat, (∀ x, a ≤ x → x < a + n → f (x + 1) = f x) → f (a + n) = f a
  | 0, _ => by simp
  | n + 1, h => by
    have h1 := flat_go (f := f) a n fun x x0 x1 => h x x0 (by omega)
    have h2 := h (a + n) (by omega) (by omega)
    have e : a + ((n + 1 : Nat) : Int) = a + (n : Int) + 1 := by omega
    rw [e, h2, h1]
theorem flat_eq {f : Int → Int} {a b x : Int} (h : ∀ x, a ≤ x → x < b → f (x + 1) = f x) (h1 : a ≤ x) (h2 : x ≤ b) : f x = f a := by
  have := flat_go (f := f) a (x - a).toNat fun y y0 y1 => h y y0 (by omega)
  have e : a + ((x - a).toNat : Int) = x := by omega
  rwa [e] at this
theorem rise_go {f : Int → Int} (a : Int) : ∀ n : Nat, (∀ x, a ≤ x → x < a + n → f (x + 1) = f x + 1) → f (a + n) = f a + n
  | 0, _ => by simp
  | n + 1, h => by
    have h1 := rise_go (f := f) a n fun x x0 x1 => h x x0 (by omega)
    have h2 := h (a + n) (by omega) (by omega)
    have e : a + ((n + 1 : Nat) : Int) = a + (n : Int) + 1 := by omega
    rw [e, h2, h1]; omega
theorem rise_eq {f : Int → Int} {a b x : Int} (h : ∀ x, a ≤ x → x < b → f (x + 1) = f x + 1) (h1 : a ≤ x) (h2 : x ≤ b) : f x = f a + (x - a) := by
  have := rise_go (f := f) a (x - a).toNat fun y y0 y1 => h y y0 (by omega)
  have e : a + ((x - a).toNat : Int) = x := by omega
  rw [e] at this; omega
/-- what is left, piece by piece, of a stretch from c to z; all else there has fallen -/
def Stk (ps : List Per) (f : Int → Int) (c : Int) : List (Bool × Int) → Int → Prop
  | [], z => c ≤ z ∧ ∀ x, c ≤ x → x < z → f (x + 1) = f x
  | (k, u) :: l, z => 0 < u ∧ ∃ a, c ≤ a ∧ a + u ≤ z ∧ (∀ x, a ≤ x → x < a + u → f (x + 1) = f x + 1 ∧ kap ps x = k) ∧ (∀ x, a + u ≤ x → x < z → f (x + 1) = f x) ∧ Stk ps f c l a
def tot (l : List (Bool × Int)) : Int := (l.map (·.2)).sum
def sgE (e : Bool × Int) : Int := if e.1 then e.2 else -e.2
def sgS (l : List (Bool × Int)) : Int := (l.map sgE).sum
def Uni (l : List (Bool × Int)) : Prop := ∃ k : Bool, ∀ e ∈ l, e.1 = k
section
variable {ps : List Per} {f g : Int → Int} {c : Int}
theorem Stk.le : ∀ {l : List (Bool × Int)} {z : Int}, Stk ps f c l z → c ≤ z
  | [], z, h => h.1
  | (k, u) :: l, z, ⟨hu, a, h1, h2, _⟩ => by omega
theorem Stk.congr {d : Int} : ∀ {l : List (Bool × Int)} {z : Int}, Stk ps f c l z → (∀ x, c ≤ x → x ≤ z → g x = f x + d) → Stk ps g c l z
  | [], z, h, e => ⟨h.1, fun x x0 x1 => by rw [e _ (by omega) (by omega), e _ (by omega) (by omega), h.2 x x0 x1]⟩
  | (k, u) :: l, z, ⟨hu, a, h1, h2, h3, h4, h5⟩, e => by
    refine ⟨hu, a, h1, h2, fun x x0 x1 => ?_, fun x x0 x1 => ?_, h5.congr fun x x0 x1 => e x x0 (by omega)⟩
    · rw [e _ (by omega) (by omega), e _ (by omega) (by omega)]
      have := h3 x x0 x1
      exact ⟨by omega, this.2⟩
    · rw [e _ (by omega) (by omega), e _ (by omega) (by omega), h4 x x0 x1]
theorem Stk.ext {z z' : Int} (hz : z ≤ z') (hf : ∀ x, z ≤ x → x < z' → f (x + 1) = f x) : ∀ {l : List (Bool × Int)}, Stk ps f c l z → Stk ps f c l z'
  | [], h => ⟨by have := h.1; omega, fun x x0 x1 => by
    by_cases q : x < z
    · exact h.2 x x0 q
    · exact hf x (by omega) x1⟩
  | (k, u) :: l, ⟨hu, a, h1, h2, h3, h4, h5⟩ => ⟨hu, a, h1, by omega, h3, fun x x0 x1 => by
    by_cases q : x < z
    · exact h4 x x0 q
    · exact hf x (by omega) x1, h5⟩
theorem tot_cons (e : Bool × Int) (l : List (Bool × Int)) : tot (e :: l) = e.2 + tot l := by unfold tot; simp
theorem sgS_cons (e : Bool × Int) (l : List (Bool × Int)) : sgS (e :: l) = sgE e + sgS l := by unfold sgS; simp
theorem Stk.total : ∀ {l : List (Bool × Int)} {z : Int}, Stk ps f c l z → f z = f c + tot l ∧ 0 ≤ tot l ∧ (l ≠ [] → 0 < tot l)
  | [], z, h => ⟨by rw [flat_eq h.2 h.1 (Int.le_refl _)]; show _ = f c + 0; omega, Int.le_refl _, fun q => absurd rfl q⟩
  | (k, u) :: l, z, ⟨hu, a, h1, h2, h3, h4, h5⟩ => by
    obtain ⟨i1, i2, _⟩ := h5.total
    have e1 : f z = f (a + u) := flat_eq h4 h2 (Int.le_refl _)
    have e2 : f (a + u) = f a + (a + u - a) := rise_eq (fun x x0 x1 => (h3 x x0 x1).1) (by omega) (Int.le_refl _)
    rw [tot_cons]
    exact ⟨by show f z = f c + (u + tot l); omega, by show 0 ≤ u + tot l; omega, fun _ => by show 0 < u + tot l; omega⟩
/-- the steps left, from the right -/
theorem Stk.lft {k : Bool} : ∀ {l : List (Bool × Int)} {z : Int}, Stk ps f c l z → (∀ e ∈ l, e.1 = k) → ∀ s, 0 ≤ s → s < tot l → ∃ a, f a = f z - s - 1 ∧ f (a + 1) = f z - s ∧ kap ps a = k
  | [], z, h, hk, s, s0, s1 => by have : tot ([] : List (Bool × Int)) = 0 := rfl; omega
  | (k', u) :: l, z, ⟨hu, a, h1, h2, h3, h4, h5⟩, hk, s, s0, s1 => by
    have e1 : f z = f (a + u) := flat_eq h4 h2 (Int.le_refl _)
    have e2 : f (a + u) = f a + (a + u - a) := rise_eq (fun x x0 x1 => (h3 x x0 x1).1) (by omega) (Int.le_refl _)
    rw [tot_cons] at s1
    have s1 : s < u + tot l := s1
    by_cases q : s < u
    · have e3 : f (a + u - s - 1) = f a + (a + u - s - 1 - a) := rise_eq (fun x x0 x1 => (h3 x x0 x1).1) (b := a + u) (by omega) (by omega)
      have e4 := h3 (a + u - s - 1) (by omega) (by omega)
      refine ⟨a + u - s - 1, by omega, by omega, ?_⟩
      rw [e4.2]; exact hk _ List.mem_cons_self
    · obtain ⟨x, x1, x2, x3⟩ := h5.lft (fun e he => hk e (List.mem_cons_of_mem _ he)) (s - u) (by omega) (by omega)
      exact ⟨x, by omega, by omega, x3⟩
/-- the steps left, from the left -/
theorem Stk.rgt {k : Bool} {l : List (Bool × Int)} {z : Int} (h : Stk ps f c l z) (hk : ∀ e ∈ l, e.1 = k) (s : Int) (s0 : 0 ≤ s) (s1 : s < tot l) : ∃ b, f b = f c + s ∧ f (b + 1) = f c + s + 1 ∧ kap ps b = k := by
  have e := h.total.1
  obtain ⟨a, a1, a2, a3⟩ := h.lft hk (tot l - s - 1) (by omega) (by omega)
  exact ⟨a, by omega, by omega, a3⟩
end
theorem uni_pos {ps : List Per} {f : Int → Int} {c : Int} : ∀ {l : List (Bool × Int)} {z : Int}, Stk ps f c l z → (∀ e ∈ l, e.1 = true) → sgS l = tot l
  | [], _, _, _ => rfl
  | (k, u) :: l, z, ⟨_, a, _, _, _, _, h5⟩, hk => by
    have e : k = true := hk _ List.mem_cons_self
    rw [sgS_cons, tot_cons, uni_pos h5 fun e he => hk e (List.mem_cons_of_mem _ he)]
    subst e; rfl
theorem uni_neg {ps : List Per} {f : Int → Int} {c : Int} : ∀ {l : List (Bool × Int)} {z : Int}, Stk ps f c l z → (∀ e ∈ l, e.1 = false) → sgS l = -tot l
  | [], _, _, _ => rfl
  | (k, u) :: l, z, ⟨_, a, _, _, _, _, h5⟩, hk => by
    have e : k = false := hk _ List.mem_cons_self
    rw [sgS_cons, tot_cons, uni_neg h5 fun e he => hk e (List.mem_cons_of_mem _ he)]
    subst e; show -u + _ = -(u + _); omega
theorem uni_ge {ps : List Per} {f : Int → Int} {c : Int} {l : List (Bool × Int)} {z : Int} (h : Stk ps f c l z) (hu : Uni l) (h0 : 0 ≤ sgS l) : (∀ e ∈ l, e.1 = true) ∧ tot l = sgS l := by
  obtain ⟨k, hk⟩ := hu
  cases k with
  | true => exact ⟨hk, (uni_pos h hk).symm⟩
  | false =>
    have e := uni_neg h hk
    have t := h.total
    have : l = [] := by
      cases l with
      | nil => rfl
      | cons x m => have := t.2.2 (by simp); omega
    subst this
    exact ⟨fun e he => by simp at he, rfl⟩
theorem uni_le {ps : List Per} {f : Int → Int} {c : Int} {l : List (Bool × Int)} {z : Int} (h : Stk ps f c l z) (hu : Uni l) (h0 : sgS l ≤ 0) : (∀ e ∈ l, e.1 = false) ∧ tot l = -sgS l := by
  obtain ⟨k, hk⟩ := hu
  cases k with
  | false => exact ⟨hk, by have := uni_neg h hk; omega⟩
  | true =>
    have e := uni_pos h hk
    have t := h.total
    have : l = [] := by
      cases l with
      | nil => rfl
      | cons x m => have := t.2.2 (by simp); omega
    subst this
    exact ⟨fun e he => by simp at he, rfl⟩
/-- rows gone: from f to f', all by crowds of one kind -/
structure Went (ps : List Per) (f : Int → Int) (rows : List Row) (k : Int) (f' : Int → Int) : Prop where
  ok : ScOk (st ps f) rows
  af : after (st ps f) rows = st ps f'
  kd : KindRows (st ps f) rows k
  sl : Slow f'
theorem Went.nil {ps : List Per} {f : Int → Int} {k : Int} (h : Slow f) : Went ps f [] k f := ⟨trivial, rfl, trivial, h⟩
theorem Went.app {ps : List Per} {f f' f'' : Int → Int} {l m : List Row} {k : Int} (a : Went ps f l k f') (b : Went ps f' m k f'') : Went ps f (l ++ m) k f'' :=
  ⟨(ScOk_app l m _).mpr ⟨a.ok, by rw [a.af]; exact b.ok⟩, by rw [after_app, a.af, b.af], (KindRows_app l m _ _).mpr ⟨a.kd, by rw [a.af]; exact b.kd⟩, b.sl⟩
theorem Went.one {ps : List Per} {f f' : Int → Int} {q : Row} {k : Int} (h1 : rowOk (st ps f) q) (h2 : goRow (st ps f) q = st ps f') (h3 : KindRow (st ps f) q k) (h4 : Slow f') : Went ps f [q] k f' :=
  ⟨⟨h1, trivial⟩, h2, ⟨h3, trivial⟩, h4⟩
theorem callsOf_cons (q : Row) (l : List Row) : callsOf (q :: l) = q.2 + callsOf l := by unfold callsOf; simp
/-- one piece falls against what waits -/
theorem fallPc_ok {ps : List Per} {lo hi : Int} (gd : Good ps) (bx : Box ps lo hi) {k : Bool} {nm : Str} {c : Int} (hc : lo ≤ c) : ∀ (stk : List (Bool × Int)) (left : Int) (f : Int → Int) (r n : Int),
    Slow f → Stk ps f c stk r → Uni stk → (stk ≠ [] → nm ∈ ps.map (·.nm) ∧ f (plc ps nm) = f r) → (∀ x, r ≤ x → f x = x - n) → 0 ≤ left → r + left ≤ hi → (∀ x, r ≤ x → x < r + left → kap ps x = k) →
    ∃ f', Went ps f (fallPc k nm left stk).1 1 f' ∧ Stk ps f' c (fallPc k nm left stk).2 (r + left) ∧ Uni (fallPc k nm left stk).2 ∧ (∀ x, r + left ≤ x → f' x = x - (n + callsOf (fallPc k nm left stk).1)) ∧
      (∀ x, x ≤ c → f' x = f x + callsOf (fallPc k nm left stk).1) ∧ sgS (fallPc k nm left stk).2 = sgS stk + (if k then left else -left)
  | [], left, f, r, n, sl, sk, un, hn, hr, h0, hh, hk => by
    unfold fallPc
    refine ⟨f, Went.nil sl, ?_, ?_, fun x hx => ?_, fun x hx => ?_, ?_⟩
    · by_cases q : 0 < left
      · rw [if_pos q]
        exact ⟨q, r, sk.le, Int.le_refl _, fun x x0 x1 => ⟨by rw [hr x x0, hr (x + 1) (by omega)]; omega, hk x x0 x1⟩, fun x x0 x1 => by omega, sk⟩
      · rw [if_neg q]
        have : r + left = r := by omega
        rw [this]; exact sk
    · by_cases q : 0 < left
      · rw [if_pos q]; exact ⟨k, fun e he => by rw [List.mem_singleton] at he; rw [he]⟩
      · rw [if_neg q]; exact un
    · show f x = x - (n + 0)
      rw [hr x (by omega)]; omega
    · show f x = f x + 0
      omega
    · by_cases q : 0 < left
      · rw [if_pos q, sgS_cons]; show sgE (k, left) + 0 = 0 + _; unfold sgE; simp only; omega
      · rw [if_neg q]
        have : left = 0 := by omega
        subst this
        show (0 : Int) = 0 + _
        cases k <;> rfl
  | (k', w) :: stk, left, f, r, n, sl, sk, un, hn, hr, h0, hh, hk => by
    obtain ⟨hw, a, h1, h2, h3, h4, h5⟩ := sk
    obtain ⟨hm, hp⟩ := hn (by simp)
    have fr := hr r (Int.le_refl _)
    have e1 : f r = f (a + w) := flat_eq h4 h2 (Int.le_refl _)
    have e2 : ∀ x, a ≤ x → x ≤ a + w → f x = f a + (x - a) := fun x x0 x1 => rise_eq (fun y y0 y1 => (h3 y y0 y1).1) x0 x1
    have e3 := e2 (a + w) (by omega) (Int.le_refl _)
    have mlo := (sl.le (show lo ≤ a by omega)).1
    -- one row
    have row : ∀ t, 1 ≤ t → t ≤ left → t ≤ w → k' ≠ k → Went ps f [(nm, t)] 1 (pull (f r) t f) ∧ (∀ x, x ≤ a + w - t → pull (f r) t f x = f x + t) ∧ (∀ x, a + w - t ≤ x → x ≤ r + t → pull (f r) t f x = f r) ∧ ∀ x, r + t ≤ x → pull (f r) t f x = x - (n + t) := fun t t1 t2 t3 ne => by
      have hhi := (sl.le (show r + t ≤ hi by omega)).1
      have frt := hr (r + t) (by omega)
      have kk : (!k') = k := by cases k <;> cases k' <;> simp_all
      obtain ⟨w1, w2⟩ := row_ok (n := nm) (Y := f r) (t := t) (k := k') gd bx sl hm hp t1 (fun s s0 s1 => ⟨a + w - s - 1, by rw [e2 _ (by omega) (by omega)]; omega, by rw [show a + w - s - 1 + 1 = a + w - s by omega, e2 _ (by omega) (by omega)]; omega, (h3 _ (by omega) (by omega)).2⟩)
        (fun s s0 s1 => ⟨r + s, by rw [hr _ (by omega)]; omega, by rw [hr _ (by omega)]; omega, by rw [kk]; exact hk _ (by omega) (by omega)⟩) (.inl (by omega))
      refine ⟨Went.one w1 w2 (row_mid gd bx sl hm hp (by omega) (by omega)) (pull_slow sl (by omega)), fun x hx => ?_, fun x x0 x1 => ?_, fun x hx => ?_⟩
      · have := (sl.le hx).1
        have e4 := e2 (a + w - t) (by omega) (by omega)
        exact pull_lo (by omega) (by omega)
      · have k1 := (sl.le x0).1
        have k2 := (sl.le x1).1
        have e4 := e2 (a + w - t) (by omega) (by omega)
        exact pull_mid (by omega) (by omega) (by omega)
      · rw [pull_hi (by rw [hr x (by omega)]; omega) (by omega), hr x (by omega)]; omega
    unfold fallPc
    by_cases q : 0 < left ∧ k' ≠ k
    · rw [if_pos q]
      by_cases hlt : left < w
      · rw [if_pos hlt]
        obtain ⟨g1, g2, g3, g4⟩ := row left (by omega) (Int.le_refl _) (by omega) q.2
        have cw : callsOf [(nm, left)] = left := by unfold callsOf; simp
        refine ⟨_, g1, ?_, ?_, fun x hx => ?_, fun x hx => ?_, ?_⟩
        · refine ⟨by omega, a, h1, by omega, fun x x0 x1 => ?_, fun x x0 x1 => ?_, h5.congr (d := left) fun x x0 x1 => g2 x (by omega)⟩
          · rw [g2 x (by omega), g2 (x + 1) (by omega), (h3 x x0 (by omega)).1]
            exact ⟨by omega, (h3 x x0 (by omega)).2⟩
          · rw [g3 x (by omega) (by omega), g3 (x + 1) (by omega) (by omega)]
        · obtain ⟨k0, hk0⟩ := un
          exact ⟨k0, fun e he => by
            rcases List.mem_cons.mp he with z | z
            · subst z; exact hk0 (k', w) List.mem_cons_self
            · exact hk0 e (List.mem_cons_of_mem _ z)⟩
        · rw [cw]; exact g4 x hx
        · rw [cw]; exact g2 x (by omega)
        · rw [sgS_cons, sgS_cons]; unfold sgE
          cases k <;> cases k' <;> simp_all <;> omega
      · rw [if_neg hlt]
        obtain ⟨g1, g2, g3, g4⟩ := row w (by omega) (by omega) (Int.le_refl _) q.2
        have un' : Uni stk := by obtain ⟨k0, hk0⟩ := un; exact ⟨k0, fun e he => hk0 e (List.mem_cons_of_mem _ he)⟩
        have sk1 : Stk ps (pull (f r) w f) c stk (r + w) := by
          refine Stk.ext (z := a) (by omega) (fun x x0 x1 => ?_) (h5.congr (d := w) fun x x0 x1 => g2 x (by omega))
          rw [g3 x (by omega) (by omega), g3 (x + 1) (by omega) (by omega)]
        have pn : pull (f r) w f (plc ps nm) = pull (f r) w f (r + w) := by
          rw [g3 (r + w) (by omega) (Int.le_refl _)]
          exact pull_mid (by omega) (by omega) (by omega)
        obtain ⟨f', i1, i2, i3, i4, i5, i6⟩ := fallPc_ok gd bx hc stk (left - w) (pull (f r) w f) (r + w) (n + w) g1.sl sk1 un' (fun _ => ⟨hm, pn⟩) g4 (by omega) (by omega) (fun x x0 x1 => hk x (by omega) (by omega))
        have er : r + w + (left - w) = r + left := by omega
        rw [er] at i2 i4
        refine ⟨f', g1.app i1, i2, i3, fun x hx => ?_, fun x hx => ?_, ?_⟩
        · rw [callsOf_cons, i4 x hx]; show x - (n + w + _) = x - (n + (w + _)); omega
        · rw [callsOf_cons, i5 x hx, g2 x (by omega)]; show f x + w + _ = f x + (w + _); omega
        · rw [i6, sgS_cons]; unfold sgE
          cases k <;> cases k' <;> simp_all <;> omega
    · rw [if_neg q]
      refine ⟨f, Went.nil sl, ?_, ?_, fun x hx => ?_, fun x hx => ?_, ?_⟩
      · by_cases q1 : 0 < left
        · rw [if_pos q1]
          exact ⟨q1, r, by omega, Int.le_refl _, fun x x0 x1 => ⟨by rw [hr x x0, hr (x + 1) (by omega)]; omega, hk x x0 x1⟩, fun x x0 x1 => by omega, ⟨hw, a, h1, h2, h3, h4, h5⟩⟩
        · rw [if_neg q1]
          have : r + left = r := by omega
          rw [this]; exact ⟨hw, a, h1, h2, h3, h4, h5⟩
      · by_cases q1 : 0 < left
        · rw [if_pos q1]
          obtain ⟨k0, hk0⟩ := un
          have ek : k' = k := Decidable.not_not.mp fun z => q ⟨q1, z⟩
          have e0 : k' = k0 := hk0 (k', w) List.mem_cons_self
          exact ⟨k0, fun e he => by
            rcases List.mem_cons.mp he with z | z
            · subst z; show k = k0; rw [← ek, e0]
            · exact hk0 e z⟩
        · rw [if_neg q1]; exact un
      · show f x = x - (n + 0)
        rw [hr x (by omega)]; omega
      · show f x = f x + 0
        omega
      · by_cases q1 : 0 < left
        · rw [if_pos q1, sgS_cons]; unfold sgE; simp only; omega
        · rw [if_neg q1]
          have : left = 0 := by omega
          subst this
          cases k <;> simp
end OC
set_option maxHeartbeats 4000000
/-! Mathematics: a script made from the left to the right. -/
namespace OC
open PySem PySem.Spec PyProof.Rows L2
def kI (b : Bool) : Int := if b then 1 else 0
/-- what is settled left of c -/
def Sett (ps : List Per) (kp : Int → Bool) (f : Int → Int) (lo l c : Int) : Prop := ∃ e0 st0, lo ≤ e0 ∧ e0 ≤ c ∧ Stk ps f lo st0 e0 ∧ (∀ e ∈ st0, e.1 = true) ∧ tot st0 = l ∧ (∀ x, lo ≤ x → x < e0 → kp x = false) ∧ ∀ x, e0 ≤ x → x < c → f (x + 1) = f x + kI (kp x)
theorem Sett.congr {ps : List Per} {kp : Int → Bool} {f g : Int → Int} {lo l c d : Int} (h : Sett ps kp f lo l c) (e : ∀ x, x ≤ c → g x = f x + d) : Sett ps kp g lo l c := by
  obtain ⟨e0, st0, h1, h2, h3, h4, h5, h6, h7⟩ := h
  exact ⟨e0, st0, h1, h2, h3.congr fun x _ x1 => e x (by omega), h4, h5, h6, fun x x0 x1 => by rw [e x (by omega), e (x + 1) (by omega), h7 x x0 x1]; omega⟩
/-- as far as z: rows made, b whether the first crowd's steps are told, what waits -/
def Inv (ps : List Per) (kp : Int → Bool) (lo hi l : Int) (rows : List Row) (b : Bool) (stk : List (Bool × Int)) (z : Int) : Prop :=
  ∃ f c, Went ps (fun x => x) rows 1 f ∧ (∀ x, z ≤ x → f x = x - callsOf rows) ∧ (∀ x, x ≤ lo → f x = x + callsOf rows) ∧ lo ≤ c ∧ z ≤ hi ∧ Stk ps f c stk z ∧ Uni stk ∧ (∀ x, c ≤ x → x < z → kp x = false) ∧ (if b then Sett ps kp f lo l c else c = lo)
section
variable {ps : List Per} {kp : Int → Bool} {lo hi l z : Int} {rows : List Row} {b : Bool} {stk : List (Bool × Int)}
theorem Inv.start (h : lo ≤ hi) : Inv ps kp lo hi l [] false [] lo := ⟨fun x => x, lo, Went.nil fun x => ⟨by omega, by omega⟩, fun x _ => by show x = x - 0; omega, fun x _ => by show x = x + 0; omega, Int.le_refl _, h, ⟨Int.le_refl _, fun x x0 x1 => by omega⟩, ⟨true, fun e he => by simp at he⟩, fun x x0 x1 => by omega, rfl⟩
/-- a piece -/
theorem Inv.piece (gd : Good ps) (bx : Box ps lo hi) (I : Inv ps kp lo hi l rows b stk z) (p : Pc) (h0 : 0 ≤ p.width) (hh : z + p.width ≤ hi) (hk : ∀ x, z ≤ x → x < z + p.width → kap ps x = p.odd) (hq : ∀ x, z ≤ x → x < z + p.width → kp x = false)
    (hn : stk ≠ [] → p.nm ∈ ps.map (·.nm) ∧ plc ps p.nm = z) : Inv ps kp lo hi l (rows ++ (fallPc p.odd p.nm p.width stk).1) b (fallPc p.odd p.nm p.width stk).2 (z + p.width) ∧ sgS (fallPc p.odd p.nm p.width stk).2 = sgS stk + sgP p := by
  obtain ⟨f, c, w, i1, i2, i3, i4, i5, i6, i7, i8⟩ := I
  obtain ⟨f', g1, g2, g3, g4, g5, g6⟩ := fallPc_ok gd bx i3 stk p.width f z (callsOf rows) w.sl i5 i6 (fun q => ⟨(hn q).1, by rw [(hn q).2]⟩) i1 h0 hh hk (k := p.odd) (nm := p.nm)
  refine ⟨⟨f', c, w.app g1, fun x hx => ?_, fun x hx => ?_, i3, hh, g2, g3, fun x x0 x1 => ?_, ?_⟩, g6⟩
  · rw [callsOf_app]; exact g4 x hx
  · rw [callsOf_app, g5 x (by omega), i2 x hx]; omega
  · by_cases q : x < z
    · exact i7 x x0 q
    · exact hq x (by omega) x1
  · cases b with
    | false => exact i8
    | true => exact Sett.congr i8 g5
/-- here the first crowd's steps end -/
theorem Inv.first (I : Inv ps kp lo hi l rows false stk z) (hl : 0 ≤ l) (hs : sgS stk = l) : Inv ps kp lo hi l rows true [] z := by
  obtain ⟨f, c, w, i1, i2, i3, i4, i5, i6, i7, i8⟩ := I
  have i8 : c = lo := i8
  subst i8
  obtain ⟨u1, u2⟩ := uni_ge i5 i6 (by omega)
  have hz := i5.le
  exact ⟨f, z, w, i1, i2, hz, i4, ⟨Int.le_refl _, fun x x0 x1 => by omega⟩, ⟨true, fun e he => by simp at he⟩, fun x x0 x1 => by omega, ⟨z, stk, hz, Int.le_refl _, i5, u1, by omega, i7, fun x x0 x1 => by omega⟩⟩
/-- all has fallen between -/
theorem Inv.between (I : Inv ps kp lo hi l rows true stk z) (hs : sgS stk = 0) : Inv ps kp lo hi l rows true [] z := by
  obtain ⟨f, c, w, i1, i2, i3, i4, i5, i6, i7, i8⟩ := I
  have t := i5.total
  have e0 : stk = [] := by
    obtain ⟨u1, u2⟩ := uni_ge i5 i6 (by omega)
    cases stk with
    | nil => rfl
    | cons e m => have := t.2.2 (by simp); omega
  subst e0
  exact ⟨f, c, w, i1, i2, i3, i4, i5, i6, i7, i8⟩
/-- a kept stretch -/
theorem Inv.kept (I : Inv ps kp lo hi l rows true [] z) {k : Int} (hk : 0 ≤ k) (hh : z + k ≤ hi) (hq : ∀ x, z ≤ x → x < z + k → kp x = true) : Inv ps kp lo hi l rows true [] (z + k) := by
  obtain ⟨f, c, w, i1, i2, i3, i4, i5, i6, i7, i8⟩ := I
  have cz := i5.le
  refine ⟨f, z + k, w, fun x hx => i1 x (by omega), i2, by omega, hh, ⟨Int.le_refl _, fun x x0 x1 => by omega⟩, ⟨true, fun e he => by simp at he⟩, fun x x0 x1 => by omega, ?_⟩
  obtain ⟨e0, st0, h1, h2, h3, h4, h5, h6, h7⟩ : Sett ps kp f lo l c := i8
  refine ⟨e0, st0, h1, by omega, h3, h4, h5, h6, fun x x0 x1 => ?_⟩
  by_cases q : x < c
  · exact h7 x x0 q
  · by_cases q2 : x < z
    · rw [i5.2 x (by omega) q2, i7 x (by omega) q2]; show _ = _ + (0 : Int); omega
    · rw [i1 x (by omega), i1 (x + 1) (by omega), hq x (by omega) x1]; show _ = _ + (1 : Int); omega
/-- the first crowd, then the last one -/
theorem Inv.done (gd : Good ps) (bx : Box ps lo hi) (I : Inv ps kp lo hi l rows true stk hi) (hl : 0 ≤ l) {r : Int} (hr : 0 ≤ r) (hs : sgS stk = (if vsum ps % 2 = 1 then -r else r)) {a d : Str} (ha : IsFst ps a) (hd : IsLst ps d) :
    ∃ f f1 f2, Went ps (fun x => x) rows 1 f ∧ Went ps f (if 0 < l then [(a, l)] else []) 0 f1 ∧ Went ps f1 (if 0 < r then [(d, r)] else []) 2 f2 ∧ (∀ x, lo ≤ x → x < hi → f2 (x + 1) = f2 x + kI (kp x)) ∧ f2 lo = lo + callsOf rows + r ∧ f2 hi = hi - callsOf rows - l := by
  obtain ⟨f, c, w, i1, i2, i3, i4, i5, i6, i7, e0, st0, h1, h2, h3, h4, h5, h6, h7⟩ := I
  have pa : plc ps a = lo := by
    obtain ⟨p, hp, e⟩ := bx.atLo
    have h8 := ha.2 p.nm (List.mem_map.mpr ⟨p, hp, rfl⟩)
    have h9 : plc ps p.nm = lo := by unfold plc; rw [perOf_mem gd.nd hp, e]
    have := bx.bd _ (perOf_spec ha.1).1
    unfold plc at *; omega
  have pd : plc ps d = hi := by
    obtain ⟨p, hp, e⟩ := bx.atHi
    have h8 := hd.2 p.nm (List.mem_map.mpr ⟨p, hp, rfl⟩)
    have h9 : plc ps p.nm = hi := by unfold plc; rw [perOf_mem gd.nd hp, e]
    have := bx.bd _ (perOf_spec hd.1).1
    unfold plc at *; omega
  have c0 := i5.le
  have t0 := h3.total
  have flo := i2 lo (Int.le_refl _)
  have fhi := i1 hi (Int.le_refl _)
  have m1 := (w.sl.le (show e0 ≤ hi by omega)).1
  have kl : ∀ x, x < lo → kap ps x = false := fun x hx => by
    unfold kap lowV
    rw [List.filter_eq_nil_iff.mpr fun p hp => by have := bx.bd p hp; simp; omega]; rfl
  have kh : ∀ x, hi ≤ x → kap ps x = decide (vsum ps % 2 = 1) := fun x hx => by
    unfold kap lowV
    rw [List.filter_eq_self.mpr fun p hp => by have := bx.bd p hp; simp; omega]
  -- the first crowd
  have wf : Went ps f (if 0 < l then [(a, l)] else []) 0 (pull (f lo) l f) := by
    by_cases q : 0 < l
    · rw [if_pos q]
      obtain ⟨w1, w2⟩ := row_ok (n := a) (Y := f lo) (t := l) (k := false) gd bx w.sl ha.1 (by rw [pa]) (by omega) (fun s s0 s1 => ⟨lo - s - 1, by rw [i2 _ (by omega)]; omega, by rw [i2 _ (by omega)]; omega, kl _ (by omega)⟩)
        (fun s s0 s1 => h3.rgt h4 s s0 (by omega)) (.inr (by omega))
      exact Went.one w1 w2 (row_fst gd bx w.sl ha.1 (by rw [pa]) rfl) (pull_slow w.sl hl)
    · rw [if_neg q]
      have : l = 0 := by omega
      subst this
      have e : pull (f lo) 0 f = f := funext fun x => by unfold pull drawI; split <;> omega
      rw [e]; exact Went.nil w.sl
  have q1 : ∀ x, e0 ≤ x → pull (f lo) l f x = f x - l := fun x hx => by
    have := (w.sl.le hx).1
    exact pull_hi (by omega) hl
  have q2 : ∀ x, lo ≤ x → x ≤ e0 → pull (f lo) l f x = f lo := fun x x0 x1 => by
    have k1 := (w.sl.le x0).1
    have k2 := (w.sl.le x1).1
    exact pull_mid (by omega) (by omega) hl
  generalize hf1 : pull (f lo) l f = f1 at wf q1 q2
  have sk1 : Stk ps f1 c stk hi := i5.congr (d := -l) fun x x0 x1 => by rw [q1 x (by omega)]; omega
  have t1 := sk1.total
  have m2 := (wf.sl.le (show lo ≤ c by omega)).1
  have f1lo := q2 lo (Int.le_refl _) h1
  have f1hi := q1 hi (by omega)
  -- the last crowd
  have wl : tot stk = r ∧ ∀ e ∈ stk, e.1 = !decide (vsum ps % 2 = 1) := by
    by_cases q : vsum ps % 2 = 1
    · rw [if_pos q] at hs
      obtain ⟨u1, u2⟩ := uni_le i5 i6 (by omega)
      exact ⟨by omega, fun e he => by rw [u1 e he, decide_eq_true q]; rfl⟩
    · rw [if_neg q] at hs
      obtain ⟨u1, u2⟩ := uni_ge i5 i6 (by omega)
      exact ⟨by omega, fun e he => by rw [u1 e he, decide_eq_false q]; rfl⟩
  have wd : Went ps f1 (if 0 < r then [(d, r)] else []) 2 (pull (f1 hi) r f1) := by
    by_cases q : 0 < r
    · rw [if_pos q]
      obtain ⟨w1, w2⟩ := row_ok (n := d) (Y := f1 hi) (t := r) (k := !decide (vsum ps % 2 = 1)) gd bx wf.sl hd.1 (by rw [pd]) (by omega) (fun s s0 s1 => sk1.lft wl.2 s s0 (by omega))
        (fun s s0 s1 => ⟨hi + s, by rw [q1 _ (by omega), i1 _ (by omega)]; omega, by rw [q1 _ (by omega), i1 _ (by omega)]; omega, by rw [kh _ (by omega)]; simp⟩) (.inl (by omega))
      exact Went.one w1 w2 (row_lst gd bx wf.sl hd.1 (by rw [pd]) (by omega) rfl) (pull_slow wf.sl hr)
    · rw [if_neg q]
      have : r = 0 := by omega
      subst this
      have e : pull (f1 hi) 0 f1 = f1 := funext fun x => by unfold pull drawI; split <;> omega
      rw [e]; exact Went.nil wf.sl
  have p1 : ∀ x, x ≤ c → pull (f1 hi) r f1 x = f1 x + r := fun x hx => by
    have := (wf.sl.le hx).1
    exact pull_lo (by omega) hr
  have p2 : ∀ x, c ≤ x → x ≤ hi → pull (f1 hi) r f1 x = f1 hi := fun x x0 x1 => by
    have k1 := (wf.sl.le x0).1
    have k2 := (wf.sl.le x1).1
    exact pull_mid (by omega) (by omega) hr
  refine ⟨f, f1, _, w, wf, wd, fun x x0 x1 => ?_, by rw [p1 lo (by omega)]; omega, by rw [p2 hi (by omega) (Int.le_refl _)]; omega⟩
  by_cases z1 : x < e0
  · rw [h6 x x0 z1, p1 x (by omega), p1 (x + 1) (by omega), q2 x x0 (by omega), q2 (x + 1) (by omega) (by omega)]; show _ = _ + (0 : Int); omega
  · by_cases z2 : x < c
    · rw [p1 x (by omega), p1 (x + 1) (by omega), q1 x (by omega), q1 (x + 1) (by omega), h7 x (by omega) z2]; omega
    · rw [i7 x (by omega) x1, p2 x (by omega) (by omega), p2 (x + 1) (by omega) (by omega)]; show _ = _ + (0 : Int); omega
end
end OC
set_option maxHeartbeats 4000000
/-! Mathematics: gaps one behind the other; pieces kept. -/
namespace OC
open PySem PySem.Spec PyProof.Rows L2
/-- gaps from z to e, with the heights -/
def Cons (ps : List Per) : Int → Int → List Gp → Int → Int → Prop
  | z, H, [], e, He => e = z ∧ He = H
  | z, H, q :: l, e, He => q.left = z ∧ 0 < q.width ∧ (∀ x, z ≤ x → x < z + q.width → kap ps x = q.odd) ∧ z ∈ stops ps ∧ Cons ps (z + q.width) (H + sg q) l e He
theorem low_const {ps : List Per} {pre l : List Int} {a b x : Int} (e : stops ps = pre ++ a :: b :: l) (h1 : a ≤ x) (h2 : x < b) : lowV ps x = lowV ps a := by
  have up := stops_up ps
  rw [e] at up
  obtain ⟨u1, u2, u3⟩ := List.pairwise_append.mp up
  obtain ⟨v1, v2⟩ := List.pairwise_cons.mp u2
  unfold lowV
  congr 1
  apply List.filter_congr
  intro p hp
  have hm : p.pl ∈ pre ++ a :: b :: l := by rw [← e]; exact (stops_mem ps _).mpr ⟨p, hp, rfl⟩
  apply decide_eq_decide.mpr
  constructor
  · intro k
    rcases List.mem_append.mp hm with k2 | k2
    · exact Int.le_of_lt (u3 _ k2 a List.mem_cons_self)
    · rcases List.mem_cons.mp k2 with k3 | k3
      · omega
      · rcases List.mem_cons.mp k3 with k4 | k4
        · omega
        · have := (List.pairwise_cons.mp v2).1 _ k4; omega
  · intro k; omega
theorem cons_go (ps : List Per) : ∀ (xs pre : List Int) (a H : Int), stops ps = pre ++ a :: xs → ∃ He, Cons ps a H (((a :: xs).zip ((a :: xs).drop 1)).map fun q => (⟨q.1, q.2 - q.1, decide (lowV ps q.1 % 2 = 1)⟩ : Gp)) ((a :: xs).getLastD 0) He
  | [], pre, a, H, e => ⟨H, rfl, rfl⟩
  | b :: xs, pre, a, H, e => by
    obtain ⟨He, ih⟩ := cons_go ps xs (pre ++ [a]) b (H + sg ⟨a, b - a, decide (lowV ps a % 2 = 1)⟩) (by rw [e]; simp)
    have up := stops_up ps
    rw [e] at up
    have hab : a < b := (List.pairwise_cons.mp (List.pairwise_append.mp up).2.1).1 b List.mem_cons_self
    refine ⟨He, rfl, show 0 < b - a by omega, fun x x0 x1 => ?_, by rw [e]; simp, ?_⟩
    · have x1 : x < a + (b - a) := x1
      unfold kap
      rw [low_const e x0 (by omega)]
    · show Cons ps (a + (b - a)) _ _ _ _
      rw [show a + (b - a) = b by omega]
      have el : (a :: b :: xs).getLastD 0 = (b :: xs).getLastD 0 := by rw [List.getLastD_eq_getLast?, List.getLastD_eq_getLast?]; simp
      rw [el]; exact ih
theorem cons_gaps {ps : List Per} {lo hi : Int} (gd : Good ps) (bx : Box ps lo hi) : ∃ Hm, Cons ps lo 0 (gaps ps) hi Hm := by
  obtain ⟨y, l, e⟩ := stops_ne gd
  have h1 := bx.head.1
  have h2 := bx.last
  rw [e] at h1 h2
  have h1 : y = lo := h1
  subst h1
  obtain ⟨Hm, h⟩ := cons_go ps l [] y 0 (by rw [e]; rfl)
  refine ⟨Hm, ?_⟩
  rw [gaps_low, e, ← h2]; exact h
theorem Cons.le {ps : List Per} : ∀ {l : List Gp} {z H e He : Int}, Cons ps z H l e He → z ≤ e
  | [], _, _, _, _, h => by have := h.1; omega
  | q :: l, z, H, e, He, ⟨h1, h2, h3, h4, h5⟩ => by have := h5.le; omega
/-! ### rows of the program's pieces -/
def rowsOf (s : PSt) : List Row := s.1.foldl (fun r l => r ++ fallen l) [] ++ (s.2.foldl fallStep ([], [])).1
def stkOf (s : PSt) : List (Bool × Int) := (s.2.foldl fallStep ([], [])).2
theorem rows_push (d : List (List Pc)) (c : List Pc) (p : Pc) : rowsOf (d, c ++ [p]) = rowsOf (d, c) ++ (fallPc p.odd p.nm p.width (stkOf (d, c))).1 ∧ stkOf (d, c ++ [p]) = (fallPc p.odd p.nm p.width (stkOf (d, c))).2 := by
  unfold rowsOf stkOf
  simp only [List.foldl_append, List.foldl_cons, List.foldl_nil]
  unfold fallStep
  exact ⟨by rw [List.append_assoc], rfl⟩
theorem rows_split (d : List (List Pc)) (c : List Pc) : rowsOf (d ++ [c], []) = rowsOf (d, c) ∧ stkOf (d ++ [c], []) = [] := by
  unfold rowsOf stkOf
  simp only [List.foldl_append, List.foldl_cons, List.foldl_nil, List.append_nil]
  exact ⟨rfl, trivial⟩
theorem rows_all (s : PSt) : s.all.foldl (fun r l => r ++ fallen l) [] = rowsOf s := by
  unfold PSt.all rowsOf
  simp only [List.foldl_append, List.foldl_cons, List.foldl_nil]; rfl
/-! ### kept pieces -/
def kSg (q : kRow) : Int := if q.1.odd then q.2.2 else -q.2.2
def RowsAt (ps : List Per) : Int → Int → List kRow → Int → Int → Prop
  | z, H, [], e, He => e = z ∧ He = H
  | z, H, q :: l, e, He => q.1.left = z ∧ 0 < q.1.width ∧ (∀ x, z ≤ x → x < z + q.1.width → kap ps x = q.1.odd) ∧ z ∈ stops ps ∧ q.2.1.2 = H ∧ 0 ≤ q.2.2 ∧ q.2.2 ≤ q.1.width ∧ RowsAt ps (z + q.1.width) (H + sg q.1) l e He
theorem RowsAt.le {ps : List Per} : ∀ {l : List kRow} {z H e He : Int}, RowsAt ps z H l e He → z ≤ e
  | [], _, _, _, _, h => by have := h.1; omega
  | q :: l, z, H, e, He, ⟨h1, h2, h3, h4, h5, h6, h7, h8⟩ => by have := h8.le; omega
def KB (l : Int) : Int → List kRow → Prop
  | _, [] => True
  | K, q :: t => (q.2.2 ≠ 0 → 0 ≤ kEarly l K q ∧ kEarly l K q + q.2.2 ≤ q.1.width) ∧ KB l (K + kSg q) t
def kpF (l : Int) : Int → List kRow → Int → Bool
  | _, [], _ => false
  | K, q :: t, x => if x < q.1.left + q.1.width then decide (q.2.2 ≠ 0) && (decide (q.1.left + kEarly l K q ≤ x) && decide (x < q.1.left + kEarly l K q + q.2.2)) else kpF l (K + kSg q) t x
def sumK : Int → List kRow → Int
  | K, [] => K
  | K, q :: t => sumK (K + kSg q) t
section
variable {ps : List Per} {lo hi l : Int} {kp : Int → Bool}
theorem kept_go (gd : Good ps) (bx : Box ps lo hi) (hl : 0 ≤ l) : ∀ (t : List kRow) (K z H Hm : Int) (s : PSt), RowsAt ps z H t hi Hm → KB l K t → (∀ x, z ≤ x → kp x = kpF l K t x) →
    Inv ps kp lo hi l (rowsOf s) (!s.1.isEmpty) (stkOf s) z → sgS (stkOf s) = H - K - (if s.1.isEmpty then 0 else l) → (z = lo → s.2 = [] ∨ True) → 
    Inv ps kp lo hi l (rowsOf (t.foldl (keptStep ps l) (K, s)).2) (!(t.foldl (keptStep ps l) (K, s)).2.1.isEmpty) (stkOf (t.foldl (keptStep ps l) (K, s)).2) hi ∧
      sgS (stkOf (t.foldl (keptStep ps l) (K, s)).2) = Hm - sumK K t - (if (t.foldl (keptStep ps l) (K, s)).2.1.isEmpty then 0 else l) ∧ ((t.foldl (keptStep ps l) (K, s)).2.1.isEmpty = true → s.1.isEmpty = true ∧ ∀ q ∈ t, q.2.2 = 0)
  | [], K, z, H, Hm, s, ra, kb, hk, I, hs, _ => by
    obtain ⟨e1, e2⟩ := ra
    subst e1 e2
    exact ⟨I, hs, fun h => ⟨h, fun q hq => by simp at hq⟩⟩
  | q :: t, K, z, H, Hm, s, ⟨r1, r2, r3, r4, r5, r6, r7, r8⟩, ⟨kb1, kb2⟩, hk, I, hs, _ => by
    rw [List.foldl_cons]
    have ze := r8.le
    obtain ⟨d, c⟩ := s
    have nm : ∀ s' : List (Bool × Int), s' ≠ [] → firstAt ps q.1.left ∈ ps.map (·.nm) ∧ plc ps (firstAt ps q.1.left) = z := fun s' _ => by
      rw [r1]; exact ⟨(firstAt_at r4).2, firstAt_plc gd r4⟩
    have kin : ∀ x, z ≤ x → x < z + q.1.width → kp x = (decide (q.2.2 ≠ 0) && (decide (z + kEarly l K q ≤ x) && decide (x < z + kEarly l K q + q.2.2))) := fun x x0 x1 => by
      rw [hk x x0]; unfold kpF; rw [r1, if_pos x1]
    have kout : ∀ x, z + q.1.width ≤ x → kp x = kpF l (K + kSg q) t x := fun x x0 => by
      rw [hk x (by omega)]; conv => lhs; unfold kpF
      rw [r1, if_neg (by omega)]
    by_cases k0 : q.2.2 = 0
    · have es : keptStep ps l (K, (d, c)) q = (K + kSg q, (d, c ++ [⟨q.1.odd, q.1.width, firstAt ps q.1.left⟩])) := by
        unfold keptStep kSg; rw [if_pos (decide_eq_true k0), k0]; simp
      obtain ⟨a1, a2⟩ := rows_push d c ⟨q.1.odd, q.1.width, firstAt ps q.1.left⟩
      obtain ⟨I1, I2⟩ := I.piece gd bx ⟨q.1.odd, q.1.width, firstAt ps q.1.left⟩ (Int.le_of_lt r2) ze r3 (fun x x0 x1 => by rw [kin x x0 x1, k0]; rfl) (nm _)
      rw [es]
      have ih := kept_go gd bx hl t (K + kSg q) (z + q.1.width) (H + sg q.1) Hm (d, c ++ [⟨q.1.odd, q.1.width, firstAt ps q.1.left⟩]) r8 kb2 kout (by rw [a1, a2]; exact I1) (by
        rw [a2, I2, hs]
        have : kSg q = 0 := by unfold kSg; rw [k0]; simp
        rw [this]
        have : sgP ⟨q.1.odd, q.1.width, firstAt ps q.1.left⟩ = sg q.1 := rfl
        rw [this]
        show H - K - (if d.isEmpty then 0 else l) + sg q.1 = H + sg q.1 - (K + 0) - (if d.isEmpty then 0 else l)
        omega) (fun _ => .inr trivial)
      refine ⟨ih.1, ih.2.1, fun h => ⟨(ih.2.2 h).1, fun x hx => ?_⟩⟩
      rcases List.mem_cons.mp hx with e | e
      · rw [e]; exact k0
      · exact (ih.2.2 h).2 x e
    · obtain ⟨b1, b2⟩ := kb1 k0
      generalize he : kEarly l K q = ea at b1 b2 kin
      have es : keptStep ps l (K, (d, c)) q = (K + kSg q, (d ++ [c ++ [⟨q.1.odd, ea, firstAt ps q.1.left⟩]], [⟨q.1.odd, q.1.width - q.2.2 - ea, firstAt ps q.1.left⟩])) := by
        unfold keptStep kSg; rw [if_neg (by simpa using k0)]; simp only; rw [he]
      obtain ⟨a1, a2⟩ := rows_push d c ⟨q.1.odd, ea, firstAt ps q.1.left⟩
      obtain ⟨I1, I2⟩ := I.piece gd bx ⟨q.1.odd, ea, firstAt ps q.1.left⟩ b1 (by show z + ea ≤ hi; omega) (fun x x0 x1 => r3 x x0 (by have x1 : x < z + ea := x1; omega)) (fun x x0 x1 => by
        have x1 : x < z + ea := x1
        rw [kin x x0 (by omega), decide_eq_false (show ¬ z + ea ≤ x by omega)]; simp) (nm _)
      have hsg : sgS (fallPc q.1.odd (firstAt ps q.1.left) ea (stkOf (d, c))).2 = if d.isEmpty then l else 0 := by
        have I2 : sgS (fallPc q.1.odd (firstAt ps q.1.left) ea (stkOf (d, c))).2 = sgS (stkOf (d, c)) + sgP ⟨q.1.odd, ea, firstAt ps q.1.left⟩ := I2
        rw [I2, hs]
        unfold sgP; unfold kEarly at he
        rw [r5] at he
        simp only
        rcases Bool.eq_false_or_eq_true q.1.odd with ho | ho <;> rcases Bool.eq_false_or_eq_true d.isEmpty with hd | hd <;> simp only [ho, hd, if_true, if_false, Bool.false_eq_true] at he ⊢ <;> omega
      have I3 : Inv ps kp lo hi l (rowsOf (d, c ++ [⟨q.1.odd, ea, firstAt ps q.1.left⟩])) true [] (z + ea) := by
        rw [a1]
        cases hd : d.isEmpty with
        | true =>
          rw [hd] at hsg I1
          exact Inv.first I1 hl hsg
        | false =>
          rw [hd] at hsg I1
          exact Inv.between I1 hsg
      obtain ⟨c1, c2⟩ := rows_split d (c ++ [⟨q.1.odd, ea, firstAt ps q.1.left⟩])
      have I4 := I3.kept (k := q.2.2) r6 (by omega) fun x x0 x1 => by
        rw [kin x (by omega) (by omega), decide_eq_true k0, decide_eq_true x0, decide_eq_true x1]; rfl
      obtain ⟨a3, a4⟩ := rows_push (d ++ [c ++ [⟨q.1.odd, ea, firstAt ps q.1.left⟩]]) [] ⟨q.1.odd, q.1.width - q.2.2 - ea, firstAt ps q.1.left⟩
      rw [List.nil_append] at a3 a4
      rw [← c1] at I4
      obtain ⟨I5, I6⟩ := I4.piece gd bx ⟨q.1.odd, q.1.width - q.2.2 - ea, firstAt ps q.1.left⟩ (by show 0 ≤ q.1.width - q.2.2 - ea; omega) (by show z + ea + q.2.2 + (q.1.width - q.2.2 - ea) ≤ hi; omega) (fun x x0 x1 => r3 x (by omega) (by have x1 : x < z + ea + q.2.2 + (q.1.width - q.2.2 - ea) := x1; omega)) (fun x x0 x1 => by
        have x1 : x < z + ea + q.2.2 + (q.1.width - q.2.2 - ea) := x1
        rw [kin x (by omega) (by omega), decide_eq_false (show ¬ x < z + ea + q.2.2 by omega)]; simp) (fun h => absurd rfl h)
      rw [es]
      have en : (d ++ [c ++ [(⟨q.1.odd, ea, firstAt ps q.1.left⟩ : Pc)]]).isEmpty = false := by simp
      have ez : z + ea + q.2.2 + (q.1.width - q.2.2 - ea) = z + q.1.width := by omega
      have ih := kept_go gd bx hl t (K + kSg q) (z + q.1.width) (H + sg q.1) Hm (d ++ [c ++ [⟨q.1.odd, ea, firstAt ps q.1.left⟩]], [⟨q.1.odd, q.1.width - q.2.2 - ea, firstAt ps q.1.left⟩]) r8 kb2 kout (by
        rw [a3, a4, c2]
        simp only [en]
        have I5 : Inv ps kp lo hi l (rowsOf (d ++ [c ++ [⟨q.1.odd, ea, firstAt ps q.1.left⟩]], []) ++ (fallPc q.1.odd (firstAt ps q.1.left) (q.1.width - q.2.2 - ea) []).1) true (fallPc q.1.odd (firstAt ps q.1.left) (q.1.width - q.2.2 - ea) []).2 (z + ea + q.2.2 + (q.1.width - q.2.2 - ea)) := I5
        rw [ez] at I5; exact I5) (by
        rw [a4, c2]
        simp only [en]
        have I6 : sgS (fallPc q.1.odd (firstAt ps q.1.left) (q.1.width - q.2.2 - ea) []).2 = sgS [] + sgP ⟨q.1.odd, q.1.width - q.2.2 - ea, firstAt ps q.1.left⟩ := I6
        rw [I6]
        show 0 + sgP _ = _
        unfold sgP sg kSg; unfold kEarly at he
        rw [r5] at he
        simp only
        rcases Bool.eq_false_or_eq_true q.1.odd with ho | ho <;> simp only [ho, if_true, if_false, Bool.false_eq_true] at he ⊢ <;> omega) (fun _ => .inr trivial)
      refine ⟨ih.1, ih.2.1, fun h => ?_⟩
      have := (ih.2.2 h).1
      simp at this
/-- so much is kept of each gap -/
theorem kept_count {f : Int → Int} (hf : ∀ x, lo ≤ x → x < hi → f (x + 1) = f x + kI (kp x)) : ∀ (t : List kRow) (K z H Hm : Int), lo ≤ z → RowsAt ps z H t hi Hm → KB l K t → (∀ x, z ≤ x → kp x = kpF l K t x) → ∀ q ∈ t, f (q.1.left + q.1.width) = f q.1.left + q.2.2
  | [], _, _, _, _, _, _, _, _, q, hq => by simp at hq
  | q :: t, K, z, H, Hm, hz, ⟨r1, r2, r3, r4, r5, r6, r7, r8⟩, ⟨kb1, kb2⟩, hk, q', hq => by
    have ze := r8.le
    have kin : ∀ x, z ≤ x → x < z + q.1.width → kp x = (decide (q.2.2 ≠ 0) && (decide (z + kEarly l K q ≤ x) && decide (x < z + kEarly l K q + q.2.2))) := fun x x0 x1 => by
      rw [hk x x0]; unfold kpF; rw [r1, if_pos x1]
    have kout : ∀ x, z + q.1.width ≤ x → kp x = kpF l (K + kSg q) t x := fun x x0 => by
      rw [hk x (by omega)]; conv => lhs; unfold kpF
      rw [r1, if_neg (by omega)]
    rcases List.mem_cons.mp hq with e | e
    · subst e
      rw [r1]
      by_cases k0 : q'.2.2 = 0
      · rw [k0, Int.add_zero]
        refine flat_eq (b := z + q'.1.width) (fun x x0 x1 => ?_) (by omega) (Int.le_refl _)
        rw [hf x (by omega) (by omega), kin x x0 x1, k0]; show _ + (0 : Int) = _; omega
      · obtain ⟨b1, b2⟩ := kb1 k0
        have e1 : f (z + kEarly l K q') = f z := flat_eq (b := z + kEarly l K q') (fun x x0 x1 => by
          rw [hf x (by omega) (by omega), kin x x0 (by omega), decide_eq_false (show ¬ z + kEarly l K q' ≤ x by omega)]; simp [kI]) (by omega) (Int.le_refl _)
        have e2 : f (z + kEarly l K q' + q'.2.2) = f (z + kEarly l K q') + (z + kEarly l K q' + q'.2.2 - (z + kEarly l K q')) := rise_eq (b := z + kEarly l K q' + q'.2.2) (fun x x0 x1 => by
          rw [hf x (by omega) (by omega), kin x (by omega) (by omega), decide_eq_true k0, decide_eq_true x0, decide_eq_true x1]; rfl) (by omega) (Int.le_refl _)
        have e3 : f (z + q'.1.width) = f (z + kEarly l K q' + q'.2.2) := flat_eq (b := z + q'.1.width) (fun x x0 x1 => by
          rw [hf x (by omega) (by omega), kin x (by omega) (by omega), decide_eq_false (show ¬ x < z + kEarly l K q' + q'.2.2 by omega)]; simp [kI]) (by omega) (Int.le_refl _)
        omega
    · exact kept_count hf t (K + kSg q) (z + q.1.width) (H + sg q.1) Hm (by omega) r8 kb2 kout q' e
end
end OC
set_option maxHeartbeats 4000000
/-! Mathematics: pieces cut, pieces parted; what the gaps keep. -/
namespace OC
open PySem PySem.Spec PyProof.Rows L2
def pcOf (ps : List Per) (q : Gp) : Pc := ⟨q.odd, q.width, firstAt ps q.left⟩
section
variable {ps : List Per} {lo hi L : Int} {kp : Int → Bool}
/-- a whole gap -/
theorem gap_piece (gd : Good ps) (bx : Box ps lo hi) {q : Gp} {z : Int} {d : List (List Pc)} {c : List Pc} {b : Bool} (hq : ∀ x, kp x = false) (h1 : q.left = z) (h2 : 0 < q.width) (h3 : ∀ x, z ≤ x → x < z + q.width → kap ps x = q.odd) (h4 : z ∈ stops ps) (h5 : z + q.width ≤ hi)
    (I : Inv ps kp lo hi L (rowsOf (d, c)) b (stkOf (d, c)) z) : Inv ps kp lo hi L (rowsOf (d, c ++ [pcOf ps q])) b (stkOf (d, c ++ [pcOf ps q])) (z + q.width) ∧ sgS (stkOf (d, c ++ [pcOf ps q])) = sgS (stkOf (d, c)) + sg q := by
  obtain ⟨a1, a2⟩ := rows_push d c (pcOf ps q)
  obtain ⟨I1, I2⟩ := I.piece gd bx (pcOf ps q) (Int.le_of_lt h2) h5 h3 (fun x _ _ => hq x) fun _ => by
    show firstAt ps q.left ∈ _ ∧ plc ps (firstAt ps q.left) = z
    rw [h1]; exact ⟨(firstAt_at h4).2, firstAt_plc gd h4⟩
  rw [a1, a2]
  exact ⟨I1, I2⟩
theorem pieces_go (gd : Good ps) (bx : Box ps lo hi) (hq : ∀ x, kp x = false) : ∀ (l : List Gp) (z H Hm : Int) (d : List (List Pc)) (c : List Pc) (b : Bool), Cons ps z H l hi Hm → Inv ps kp lo hi L (rowsOf (d, c)) b (stkOf (d, c)) z →
    Inv ps kp lo hi L (rowsOf (d, c ++ l.map (pcOf ps))) b (stkOf (d, c ++ l.map (pcOf ps))) hi ∧ sgS (stkOf (d, c ++ l.map (pcOf ps))) = sgS (stkOf (d, c)) + (Hm - H)
  | [], z, H, Hm, d, c, b, ⟨e1, e2⟩, I => by subst e1 e2; simp; exact I
  | q :: l, z, H, Hm, d, c, b, ⟨h1, h2, h3, h4, h5⟩, I => by
    obtain ⟨I1, I2⟩ := gap_piece gd bx hq h1 h2 h3 h4 h5.le I
    obtain ⟨J1, J2⟩ := pieces_go gd bx hq l (z + q.width) (H + sg q) Hm d (c ++ [pcOf ps q]) b h5 I1
    rw [List.append_assoc] at J1 J2
    exact ⟨J1, by show sgS (stkOf (d, c ++ ([pcOf ps q] ++ l.map (pcOf ps)))) = _; rw [J2, I2]; omega⟩
/-- a gap in two -/
theorem gap_two (gd : Good ps) (bx : Box ps lo hi) {q : Gp} {z H ea : Int} {c : List Pc} (hq : ∀ x, kp x = false) (h1 : q.left = z) (h2 : 0 < q.width) (h3 : ∀ x, z ≤ x → x < z + q.width → kap ps x = q.odd) (h4 : z ∈ stops ps) (h5 : z + q.width ≤ hi) (ho : q.odd = true) (e0 : 0 ≤ ea) (e1 : ea ≤ q.width) (eL : H + ea = L) (hL : 0 ≤ L)
    (hs : sgS (stkOf ([], c)) = H) (I : Inv ps kp lo hi L (rowsOf ([], c)) false (stkOf ([], c)) z) : Inv ps kp lo hi L (rowsOf ([c ++ [⟨q.odd, ea, firstAt ps q.left⟩]], [⟨q.odd, q.width - ea, firstAt ps q.left⟩])) true (stkOf ([c ++ [⟨q.odd, ea, firstAt ps q.left⟩]], [⟨q.odd, q.width - ea, firstAt ps q.left⟩])) (z + q.width) ∧ sgS (stkOf ([c ++ [⟨q.odd, ea, firstAt ps q.left⟩]], [⟨q.odd, q.width - ea, firstAt ps q.left⟩])) = H + sg q - L := by
  obtain ⟨a1, a2⟩ := rows_push [] c ⟨q.odd, ea, firstAt ps q.left⟩
  obtain ⟨I1, I2⟩ := I.piece gd bx ⟨q.odd, ea, firstAt ps q.left⟩ e0 (by show z + ea ≤ hi; omega) (fun x x0 x1 => h3 x x0 (by have x1 : x < z + ea := x1; omega)) (fun x _ _ => hq x) fun _ => by
    show firstAt ps q.left ∈ _ ∧ plc ps (firstAt ps q.left) = z
    rw [h1]; exact ⟨(firstAt_at h4).2, firstAt_plc gd h4⟩
  have I2 : sgS (fallPc q.odd (firstAt ps q.left) ea (stkOf ([], c))).2 = sgS (stkOf ([], c)) + sgP ⟨q.odd, ea, firstAt ps q.left⟩ := I2
  have I3 : Inv ps kp lo hi L (rowsOf ([], c ++ [⟨q.odd, ea, firstAt ps q.left⟩])) true [] (z + ea) := by
    rw [a1]
    refine Inv.first I1 hL ?_
    show sgS (fallPc q.odd (firstAt ps q.left) ea (stkOf ([], c))).2 = L
    rw [I2, hs]; unfold sgP; simp only [ho, if_true]; omega
  obtain ⟨c1, c2⟩ := rows_split [] (c ++ [⟨q.odd, ea, firstAt ps q.left⟩])
  rw [List.nil_append] at c1 c2
  rw [← c1] at I3
  obtain ⟨a3, a4⟩ := rows_push [c ++ [⟨q.odd, ea, firstAt ps q.left⟩]] [] ⟨q.odd, q.width - ea, firstAt ps q.left⟩
  rw [List.nil_append] at a3 a4
  obtain ⟨I5, I6⟩ := I3.piece gd bx ⟨q.odd, q.width - ea, firstAt ps q.left⟩ (by show 0 ≤ q.width - ea; omega) (by show z + ea + (q.width - ea) ≤ hi; omega) (fun x x0 x1 => h3 x (by omega) (by have x1 : x < z + ea + (q.width - ea) := x1; omega)) (fun x _ _ => hq x) (fun h => absurd rfl h)
  have ez : z + ea + (q.width - ea) = z + q.width := by omega
  rw [a3, a4, c2]
  refine ⟨?_, ?_⟩
  · have I5 : Inv ps kp lo hi L (rowsOf ([c ++ [⟨q.odd, ea, firstAt ps q.left⟩]], []) ++ (fallPc q.odd (firstAt ps q.left) (q.width - ea) []).1) true (fallPc q.odd (firstAt ps q.left) (q.width - ea) []).2 (z + ea + (q.width - ea)) := I5
    rw [ez] at I5; exact I5
  · have I6 : sgS (fallPc q.odd (firstAt ps q.left) (q.width - ea) []).2 = sgS [] + sgP ⟨q.odd, q.width - ea, firstAt ps q.left⟩ := I6
    show sgS (fallPc q.odd (firstAt ps q.left) (q.width - ea) []).2 = _
    rw [I6]; show 0 + sgP _ = _
    unfold sgP sg; simp only [ho, if_true]; omega
/-! ### cut -/
theorem cut_go (gd : Good ps) (bx : Box ps lo hi) (hq : ∀ x, kp x = false) (hL : 0 ≤ L) : ∀ (l : List Gp) (z H Hm y : Int) (b : Bool) (d : List (List Pc)) (c : List Pc), Cons ps z H l hi Hm → Inv ps kp lo hi L (rowsOf (d, c)) b (stkOf (d, c)) z → sgS (stkOf (d, c)) = H - (if b then L else 0) → (b = false → H < L ∧ d = []) →
    (b = true ∨ ∃ q ∈ cornersF H l, L ≤ q.2) → ∃ s', (l.zip ((y, H) :: cornersF H l)).foldl (cutStep ps L) (b, (d, c)) = (true, s') ∧ Inv ps kp lo hi L (rowsOf s') true (stkOf s') hi ∧ sgS (stkOf s') = Hm - L
  | [], z, H, Hm, y, b, d, c, ⟨e1, e2⟩, I, hs, hb, hx => by
    subst e1 e2
    cases b with
    | true => exact ⟨(d, c), rfl, I, hs⟩
    | false =>
      rcases hx with hx | ⟨q, hq', _⟩
      · cases hx
      · simp [cornersF] at hq'
  | q :: l, z, H, Hm, y, b, d, c, ⟨h1, h2, h3, h4, h5⟩, I, hs, hb, hx => by
    have ze := h5.le
    show ∃ s', (l.zip (cornersF H (q :: l))).foldl (cutStep ps L) (cutStep ps L (b, (d, c)) (q, (y, H))) = (true, s') ∧ _
    unfold cornersF
    by_cases hit : (!b && (decide (0 ≤ cEarly L (q, (y, H))) && decide (cEarly L (q, (y, H)) ≤ q.width))) = true
    · have es : cutStep ps L (b, (d, c)) (q, (y, H)) = (true, (d ++ [c ++ [⟨q.odd, cEarly L (q, (y, H)), firstAt ps q.left⟩]], [⟨q.odd, q.width - cEarly L (q, (y, H)), firstAt ps q.left⟩])) := by
        unfold cutStep; rw [if_pos hit]
      rw [es]
      simp only [Bool.and_eq_true, Bool.not_eq_true', decide_eq_true_eq] at hit
      obtain ⟨hb0, k1, k2⟩ := hit
      subst hb0
      obtain ⟨hlt, rfl⟩ := hb rfl
      have ho : q.odd = true := by
        cases o : q.odd with
        | true => rfl
        | false => unfold cEarly at k1; simp only [o, if_false, Bool.false_eq_true] at k1; omega
      have eE : cEarly L (q, (y, H)) = L - H := by unfold cEarly; simp only [ho, if_true]
      rw [eE] at k1 k2 ⊢
      obtain ⟨J1, J2⟩ := gap_two gd bx hq h1 h2 h3 h4 ze ho k1 k2 (by omega : H + (L - H) = L) hL (by rw [hs]; simp) I
      exact cut_go gd bx hq hL l (z + q.width) (H + sg q) Hm (q.left + q.width) true _ _ h5 J1 (by rw [List.nil_append, J2]; simp) (fun h => nomatch h) (.inl rfl)
    · have es : cutStep ps L (b, (d, c)) (q, (y, H)) = (b, (d, c ++ [pcOf ps q])) := by
        unfold cutStep; rw [if_neg hit]; rfl
      rw [es]
      obtain ⟨I1, I2⟩ := gap_piece gd bx hq h1 h2 h3 h4 ze I
      refine cut_go gd bx hq hL l (z + q.width) (H + sg q) Hm (q.left + q.width) b d (c ++ [pcOf ps q]) h5 I1 (by rw [I2, hs]; omega) ?_ ?_
      · intro hb0
        subst hb0
        obtain ⟨hlt, hd⟩ := hb rfl
        refine ⟨?_, hd⟩
        simp only [Bool.not_false, Bool.true_and, Bool.and_eq_true, decide_eq_true_eq, not_and] at hit
        unfold cEarly at hit
        unfold sg
        cases o : q.odd with
        | true => simp only [o, if_true] at hit ⊢; have := hit (by omega); omega
        | false => simp only [o, if_false, Bool.false_eq_true] at hit ⊢; omega
      · cases b with
        | true => exact .inl rfl
        | false =>
          obtain ⟨hlt, hd⟩ := hb rfl
          rcases hx with hx | ⟨x, hx1, hx2⟩
          · cases hx
          · unfold cornersF at hx1
            rcases List.mem_cons.mp hx1 with e | e
            · subst e
              exfalso
              simp only [Bool.not_false, Bool.true_and, Bool.and_eq_true, decide_eq_true_eq, not_and] at hit
              unfold cEarly at hit
              unfold sg at hx2
              cases o : q.odd with
              | true => simp only [o, if_true] at hit hx2; have := hit (by omega); omega
              | false => simp only [o, if_false, Bool.false_eq_true] at hit hx2; omega
            · exact .inr ⟨x, e, hx2⟩
/-! ### parted -/
theorem part_go (gd : Good ps) (bx : Box ps lo hi) (hq : ∀ x, kp x = false) (hL : 0 ≤ L) : ∀ (l : List Gp) (z H Hm : Int) (c : List Pc), Cons ps z H l hi Hm → Inv ps kp lo hi L (rowsOf ([], c)) false (stkOf ([], c)) z → sgS (stkOf ([], c)) = H → H ≤ L → (H = L ∨ ∃ q ∈ cornersF H l, L ≤ q.2) →
    partOk L H (l.map (pcOf ps)) ∧ ∀ a b, partF L H c (l.map (pcOf ps)) = (a, b) → Inv ps kp lo hi L (rowsOf ([a], b)) true (stkOf ([a], b)) hi ∧ sgS (stkOf ([a], b)) = Hm - L
  | [], z, H, Hm, c, ⟨e1, e2⟩, I, hs, hle, hx => by
    subst e1 e2
    have eq : Hm = L := by
      rcases hx with hx | ⟨q, hq', _⟩
      · exact hx
      · simp [cornersF] at hq'
    refine ⟨eq, fun a b e => ?_⟩
    have e : (c, ([] : List Pc)) = (a, b) := e
    cases e
    obtain ⟨c1, c2⟩ := rows_split [] c
    rw [List.nil_append] at c1 c2
    rw [c1, c2]
    exact ⟨Inv.first I hL (by omega), by show (0 : Int) = _; omega⟩
  | q :: l, z, H, Hm, c, ⟨h1, h2, h3, h4, h5⟩, I, hs, hle, hx => by
    have ze := h5.le
    by_cases eH : H = L
    · refine ⟨.inl eH, fun a b e => ?_⟩
      have e : partF L H c (pcOf ps q :: l.map (pcOf ps)) = (a, b) := e
      unfold partF at e
      rw [if_pos eH] at e
      cases e
      obtain ⟨c1, c2⟩ := rows_split [] c
      rw [List.nil_append] at c1 c2
      have I1 := Inv.first I hL (by omega)
      rw [← c1, ← c2] at I1
      obtain ⟨J1, J2⟩ := pieces_go gd bx hq (q :: l) z H Hm [c] [] true ⟨h1, h2, h3, h4, h5⟩ I1
      rw [c2] at J2
      exact ⟨J1, by show sgS (stkOf ([c], [] ++ (q :: l).map (pcOf ps))) = _; rw [J2]; show 0 + _ = _; omega⟩
    · have hlt : H < L := by omega
      by_cases hit : partHit L H (pcOf ps q) = true
      · have ho : q.odd = true := by
          cases o : q.odd with
          | true => rfl
          | false =>
            unfold partHit sgP pcOf at hit
            simp only [o, if_false, Bool.and_eq_true, decide_eq_true_eq, Bool.false_eq_true] at hit
            omega
        have hw : L ≤ H + q.width := by
          unfold partHit sgP pcOf at hit
          simp only [ho, if_true, Bool.and_eq_true, decide_eq_true_eq] at hit
          omega
        refine ⟨.inr (.inl hit), fun a b e => ?_⟩
        have e : partF L H c (pcOf ps q :: l.map (pcOf ps)) = (a, b) := e
        unfold partF at e
        rw [if_neg eH, if_pos hit] at e
        have ea : absI (L - H) = L - H := by unfold absI; rw [if_neg (by omega)]
        rw [ea] at e
        cases e
        obtain ⟨J1, J2⟩ := gap_two gd bx hq h1 h2 h3 h4 ze ho (by omega : 0 ≤ L - H) (by omega) (by omega) hL hs I
        obtain ⟨K1, K2⟩ := pieces_go gd bx hq l (z + q.width) (H + sg q) Hm _ _ true h5 J1
        refine ⟨K1, K2.trans ?_⟩
        rw [J2]; omega
      · obtain ⟨I1, I2⟩ := gap_piece gd bx hq h1 h2 h3 h4 ze I
        have hle' : H + sg q < L := by
          unfold partHit sgP pcOf at hit
          unfold sg
          cases o : q.odd with
          | true => simp only [o, if_true, Bool.and_eq_true, decide_eq_true_eq, not_and] at hit ⊢; have := hit (by omega); omega
          | false => simp only [o, if_false, Bool.false_eq_true]; omega
        obtain ⟨J1, J2⟩ := part_go gd bx hq hL l (z + q.width) (H + sg q) Hm (c ++ [pcOf ps q]) h5 I1 (by rw [I2, hs]) (by omega) (by
          rcases hx with hx | ⟨x, hx1, hx2⟩
          · exact absurd hx eH
          · unfold cornersF at hx1
            rcases List.mem_cons.mp hx1 with e | e
            · subst e; have hx2 : L ≤ H + sg q := hx2; omega
            · exact .inr ⟨x, e, hx2⟩)
        refine ⟨.inr (.inr J1), fun a b e => ?_⟩
        have e : partF L H c (pcOf ps q :: l.map (pcOf ps)) = (a, b) := e
        unfold partF at e
        rw [if_neg eH, if_neg hit] at e
        exact J2 a b e
end
end OC
set_option maxHeartbeats 4000000
/-! Mathematics: what the gaps keep; bounds kept; scripts made. -/
namespace OC
open PySem PySem.Spec PyProof.Rows L2
section
variable {ps : List Per} {lo hi l : Int} {g : Int → Int}
theorem keptP_st (gd : Good ps) (g : Int → Int) : keptP ps (st ps g) = (stops ps).map g := by
  unfold keptP
  apply List.map_congr_left
  intro y hy
  rw [plc_st g gd (firstAt_at hy).2, firstAt_plc gd hy]
def kpt (g : Int → Int) (q : Gp) : Int := g (q.left + q.width) - g q.left
theorem keptW_st (gd : Good ps) (g : Int → Int) : keptW ps (st ps g) = (gaps ps).map (kpt g) := by
  unfold keptW; rw [keptP_st gd]
  unfold gaps; exact (kept_gaps g (vat ps) (stops ps) 0).symm
theorem kRows_st (gd : Good ps) (bx : Box ps lo hi) (g : Int → Int) : kRows ps (st ps g) = (gaps ps).zip (((lo, 0) :: cornersF 0 (gaps ps)).zip ((gaps ps).map (kpt g))) := by
  unfold kRows
  rw [keptW_st gd]
  obtain ⟨y, e, e0⟩ := corners_cons gd
  have : y = lo := by
    have h := bx.head.1
    cases q : stops ps with
    | nil => rw [q] at e0; simp at e0
    | cons a l => rw [q] at e0 h; simp at e0 h; omega
  subst this
  rw [e]
theorem rowsAt_go (sl : Slow g) : ∀ (l : List Gp) (z H e He y : Int), Cons ps z H l e He → RowsAt ps z H (l.zip (((y, H) :: cornersF H l).zip (l.map (kpt g)))) e He
  | [], z, H, e, He, y, h => h
  | q :: l, z, H, e, He, y, ⟨h1, h2, h3, h4, h5⟩ => by
    have k := sl.le (show q.left ≤ q.left + q.width by omega)
    show RowsAt ps z H ((q, ((y, H), kpt g q)) :: l.zip ((cornersF H (q :: l)).zip (l.map (kpt g)))) e He
    refine ⟨h1, h2, h3, h4, rfl, by show 0 ≤ kpt g q; unfold kpt; omega, by show kpt g q ≤ q.width; unfold kpt; omega, ?_⟩
    unfold cornersF
    exact rowsAt_go sl l (z + q.width) (H + sg q) e He (q.left + q.width) h5
theorem lost_go (sl : Slow g) : ∀ (l : List Gp) (z H e He y K a b : Int), Cons ps z H l e He → ∃ a' b', (l.zip (l.map (kpt g))).foldl lostStep (a, b) = (a', b') ∧ a' - b' = a - b + (He - H) - (sumK K (l.zip (((y, H) :: cornersF H l).zip (l.map (kpt g)))) - K) ∧ a' + b' = a + b + (e - z) - (g e - g z) ∧ a ≤ a' ∧ b ≤ b'
  | [], z, H, e, He, y, K, a, b, ⟨h1, h2⟩ => by subst h1 h2; exact ⟨a, b, rfl, by show _ = _ - (K - K); omega, by omega, Int.le_refl _, Int.le_refl _⟩
  | q :: l, z, H, e, He, y, K, a, b, ⟨h1, h2, h3, h4, h5⟩ => by
    have k := sl.le (show q.left ≤ q.left + q.width by omega)
    show ∃ a' b', (l.zip (l.map (kpt g))).foldl lostStep (lostStep (a, b) (q, kpt g q)) = (a', b') ∧ a' - b' = a - b + (He - H) - (sumK (K + kSg (q, ((y, H), kpt g q))) (l.zip ((cornersF H (q :: l)).zip (l.map (kpt g)))) - K) ∧ _
    unfold cornersF
    have kz : kpt g q = g (z + q.width) - g z := by unfold kpt; rw [h1]
    have kz1 : kpt g q = g (q.left + q.width) - g q.left := rfl
    cases o : q.odd with
    | true =>
      have es : lostStep (a, b) (q, kpt g q) = (a + (q.width - kpt g q), b) := by unfold lostStep; rw [if_pos o]
      rw [es]
      obtain ⟨a', b', i1, i2, i3, i4, i5⟩ := lost_go sl l (z + q.width) (H + sg q) e He (q.left + q.width) (K + kSg (q, ((y, H), kpt g q))) (a + (q.width - kpt g q)) b h5
      have e1 : kSg (q, ((y, H), kpt g q)) = kpt g q := by unfold kSg; simp [o]
      have e2 : sg q = q.width := by unfold sg; simp [o]
      refine ⟨a', b', i1, ?_, by omega, by omega, i5⟩
      omega
    | false =>
      have es : lostStep (a, b) (q, kpt g q) = (a, b + (q.width - kpt g q)) := by unfold lostStep; rw [if_neg (by simp [o])]
      rw [es]
      obtain ⟨a', b', i1, i2, i3, i4, i5⟩ := lost_go sl l (z + q.width) (H + sg q) e He (q.left + q.width) (K + kSg (q, ((y, H), kpt g q))) a (b + (q.width - kpt g q)) h5
      have e1 : kSg (q, ((y, H), kpt g q)) = -kpt g q := by unfold kSg; simp [o]
      have e2 : sg q = -q.width := by unfold sg; simp [o]
      refine ⟨a', b', i1, ?_, by omega, i4, by omega⟩
      omega
theorem lost_st (gd : Good ps) (bx : Box ps lo hi) (sl : Slow g) {Hm : Int} (hc : Cons ps lo 0 (gaps ps) hi Hm) : (lost ps (st ps g)).1 - (lost ps (st ps g)).2 = Hm - sumK 0 (kRows ps (st ps g)) ∧ (lost ps (st ps g)).1 + (lost ps (st ps g)).2 = (hi - lo) - (g hi - g lo) ∧ 0 ≤ (lost ps (st ps g)).1 ∧ 0 ≤ (lost ps (st ps g)).2 := by
  obtain ⟨a', b', i1, i2, i3, i4, i5⟩ := lost_go sl (gaps ps) lo 0 hi Hm lo 0 0 0 hc
  unfold lost
  rw [keptW_st gd, i1, kRows_st gd bx]
  exact ⟨by omega, by omega, i4, i5⟩
theorem moved_st (bx : Box ps lo hi) (sl : Slow g) : movedBy ps (st ps g) = g lo - lo := by
  unfold movedBy firstPl
  rw [(bx.st sl).head.2, bx.head.2]
/-! ### bounds -/
def satB (b : Bd) (n : Int) : Prop := (∀ i, b.lo = some i → i ≤ n) ∧ ∀ i, b.hi = some i → n ≤ i
theorem gb_mono : ∀ (t : List gbRow) (s : Int × List Bd) (b : Bd), b ∈ s.2 → b ∈ (t.foldl gbStep s).2
  | [], s, b, h => h
  | q :: t, s, b, h => by
    refine gb_mono t (gbStep s q) b ?_
    unfold gbStep
    split
    · exact List.mem_append_left _ h
    · split
      · exact List.mem_append_left _ h
      · exact h
theorem kb_go : ∀ (t : List kRow) (n : Nat) (K : Int) (acc : List Bd), (∀ q ∈ t, 0 ≤ q.2.2) → (∀ b ∈ ((t.zipIdx n).foldl gbStep (K, acc)).2, satB b l) → KB l K t
  | [], _, _, _, _, _ => trivial
  | q :: t, n, K, acc, hk, hb => by
    rw [List.zipIdx_cons, List.foldl_cons] at hb
    have q0 := hk q List.mem_cons_self
    have hk' : ∀ q ∈ t, 0 ≤ q.2.2 := fun x hx => hk x (List.mem_cons_of_mem _ hx)
    by_cases k0 : q.2.2 = 0
    · have es : gbStep (K, acc) (q, n) = (K, acc) := by unfold gbStep; simp [k0]
      rw [es] at hb
      refine ⟨fun z => absurd k0 z, ?_⟩
      have e : K + kSg q = K := by unfold kSg; rw [k0]; simp
      rw [e]; exact kb_go t _ K acc hk' hb
    · have kp : 0 < q.2.2 := by omega
      cases o : q.1.odd with
      | true =>
        have es : gbStep (K, acc) (q, n) = (K + q.2.2, acc ++ [⟨.n n, some (q.2.1.2 - K), some (q.2.1.2 - K + (q.1.width - q.2.2))⟩]) := by unfold gbStep; simp [kp, o]
        rw [es] at hb
        obtain ⟨h1, h2⟩ := hb _ (gb_mono _ _ _ (List.mem_append_right _ List.mem_cons_self))
        have h1 := h1 _ rfl
        have h2 := h2 _ rfl
        refine ⟨fun _ => by unfold kEarly; simp only [o, if_true]; omega, ?_⟩
        have e : kSg q = q.2.2 := by unfold kSg; simp [o]
        rw [e]; exact kb_go t _ _ _ hk' hb
      | false =>
        have es : gbStep (K, acc) (q, n) = (K - q.2.2, acc ++ [⟨.n n, some (q.2.1.2 - K - (q.1.width - q.2.2)), some (q.2.1.2 - K)⟩]) := by unfold gbStep; simp [kp, o]
        rw [es] at hb
        obtain ⟨h1, h2⟩ := hb _ (gb_mono _ _ _ (List.mem_append_right _ List.mem_cons_self))
        have h1 := h1 _ rfl
        have h2 := h2 _ rfl
        refine ⟨fun _ => by unfold kEarly; simp only [o, if_false, Bool.false_eq_true]; omega, ?_⟩
        have e : K + kSg q = K - q.2.2 := by unfold kSg; simp [o]; omega
        rw [e]; exact kb_go t _ _ _ hk' hb
/-- no bound of a gap if none is kept -/
theorem gb_none : ∀ (t : List kRow) (n : Nat) (K : Int) (acc : List Bd), (∀ q ∈ t, q.2.2 = 0) → ((t.zipIdx n).foldl gbStep (K, acc)) = (K, acc)
  | [], _, _, _, _ => rfl
  | q :: t, n, K, acc, hk => by
    rw [List.zipIdx_cons, List.foldl_cons]
    have es : gbStep (K, acc) (q, n) = (K, acc) := by unfold gbStep; simp [hk q List.mem_cons_self]
    rw [es]; exact gb_none t _ K acc fun x hx => hk x (List.mem_cons_of_mem _ hx)
theorem rows_kept {z H e He : Int} : ∀ {t : List kRow} {z H : Int}, RowsAt ps z H t e He → ∀ q ∈ t, 0 ≤ q.2.2
  | [], _, _, _, q, hq => by simp at hq
  | x :: t, z, H, ⟨_, _, _, _, _, h6, _, h8⟩, q, hq => by
    rcases List.mem_cons.mp hq with k | k
    · rw [k]; exact h6
    · exact rows_kept (z := z) (H := H) h8 q k
end
end OC
set_option maxHeartbeats 4000000
/-! Mathematics: scripts made. -/
namespace OC
open PySem PySem.Spec PyProof.Rows L2
structure Made (ps qs : List Per) (sc : List Row) (l m r : Int) : Prop where
  ok : ScOk ps sc
  af : after ps sc = qs
  l0 : 0 ≤ l
  m0 : 0 ≤ m
  r0 : 0 ≤ r
  parts : ∃ r1 r2 r3, sc = r1 ++ (r2 ++ r3) ∧ KindRows ps r1 1 ∧ KindRows (after ps r1) r2 0 ∧ KindRows (after ps (r1 ++ r2)) r3 2 ∧ r2.length ≤ 1 ∧ r3.length ≤ 1 ∧ callsOf r1 = m ∧ callsOf r2 = l ∧ callsOf r3 = r
theorem Made.calls {ps qs : List Per} {sc : List Row} {l m r : Int} (h : Made ps qs sc l m r) : callsOf sc = m + l + r := by
  obtain ⟨r1, r2, r3, e, _, _, _, _, _, h1, h2, h3⟩ := h.parts
  rw [e, callsOf_app, callsOf_app]; omega
theorem ends_eq (a d : Str) (l r : Int) : endsOf a d l r = (if 0 < l then [((a, l) : Row)] else []) ++ (if 0 < r then [((d, r) : Row)] else []) := by
  unfold endsOf
  rw [List.filter_cons, List.filter_cons, List.filter_nil]
  by_cases h1 : 0 < l <;> by_cases h2 : 0 < r <;> simp [h1, h2]
theorem Cons.mem {ps : List Per} : ∀ {l : List Gp} {z H e He : Int}, Cons ps z H l e He → ∀ q ∈ l, z ≤ q.left ∧ q.left + q.width ≤ e ∧ 0 < q.width
  | [], _, _, _, _, _, q, hq => by simp at hq
  | x :: l, z, H, e, He, ⟨h1, h2, h3, h4, h5⟩, q, hq => by
    have le := h5.le
    rcases List.mem_cons.mp hq with k | k
    · subst k; omega
    · have := h5.mem q k; omega
/-- two maps that agree on what the gaps keep -/
theorem Cons.agree {ps : List Per} {f g : Int → Int} : ∀ {l : List Gp} {z H e He : Int}, Cons ps z H l e He → (∀ q ∈ l, f (q.left + q.width) = f q.left + kpt g q) → f e - f z = g e - g z ∧ (f z = g z → ∀ q ∈ l, f (q.left + q.width) = g (q.left + q.width))
  | [], z, H, e, He, ⟨h1, _⟩, _ => by subst h1; exact ⟨by omega, fun _ q hq => by simp at hq⟩
  | x :: l, z, H, e, He, ⟨h1, h2, h3, h4, h5⟩, hk => by
    have k := hk x List.mem_cons_self
    unfold kpt at k
    rw [h1] at k
    obtain ⟨i1, i2⟩ := h5.agree (f := f) (g := g) fun q hq => hk q (List.mem_cons_of_mem _ hq)
    refine ⟨by omega, fun hz q hq => ?_⟩
    rcases List.mem_cons.mp hq with e | e
    · subst e; rw [h1]; omega
    · exact i2 (by omega) q e
theorem stops_gaps {ps : List Per} {lo hi Hm : Int} (gd : Good ps) (bx : Box ps lo hi) (y : Int) (hy : y ∈ stops ps) : y = lo ∨ ∃ q ∈ gaps ps, q.left + q.width = y := by
  have key : ∀ (xs : List Int) (va : Int → Int) (m : Int), y ∈ xs → xs.headD 0 = y ∨ ∃ q ∈ gapsF va m xs, q.left + q.width = y := by
    intro xs
    induction xs with
    | nil => intro va m h; simp at h
    | cons a l ih =>
      intro va m h
      rcases List.mem_cons.mp h with e | e
      · exact .inl e.symm
      · cases l with
        | nil => simp at e
        | cons b l =>
          right
          unfold gapsF
          rcases ih va (m + va a) e with k | ⟨q, k1, k2⟩
          · have k : b = y := k
            exact ⟨_, List.mem_cons_self, by show a + (b - a) = y; omega⟩
          · exact ⟨q, List.mem_cons_of_mem _ k1, k2⟩
  rcases key (stops ps) (vat ps) 0 hy with k | k
  · left; rw [← k]; exact bx.head.1
  · exact .inr k
theorem st_eq {ps : List Per} {f g : Int → Int} (h : ∀ y ∈ stops ps, f y = g y) : st ps f = st ps g := by
  unfold st
  apply List.map_congr_left
  intro p hp
  have := h p.pl ((stops_mem ps _).mpr ⟨p, hp, rfl⟩)
  show (⟨p.nm, f p.pl, p.vc⟩ : Per) = ⟨p.nm, g p.pl, p.vc⟩
  rw [this]
section
variable {ps : List Per} {lo hi l r Hm : Int} {g : Int → Int} {kp : Int → Bool} {rows : List Row} {stk : List (Bool × Int)} {a d : Str}
theorem finish (gd : Good ps) (bx : Box ps lo hi) (hc : Cons ps lo 0 (gaps ps) hi Hm) (I : Inv ps kp lo hi l rows true stk hi) (hl : 0 ≤ l) (hr : 0 ≤ r) (hs : sgS stk = (if vsum ps % 2 = 1 then -r else r)) (ha : IsFst ps a) (hd : IsLst ps d)
    (hk : ∀ f : Int → Int, (∀ x, lo ≤ x → x < hi → f (x + 1) = f x + kI (kp x)) → ∀ q ∈ gaps ps, f (q.left + q.width) = f q.left + kpt g q) (hg : 2 * (g lo - lo) = (hi - lo) - l + r - (g hi - g lo)) :
    ∃ m, Made ps (st ps g) (rows ++ endsOf a d l r) l m r ∧ 2 * m = (hi - lo) - (g hi - g lo) - l - r := by
  obtain ⟨f, f1, f2, w, wf, wl, hf, e1, e2⟩ := I.done gd bx hl hr hs ha hd
  obtain ⟨g1, g2⟩ := hc.agree (hk f2 hf)
  have eq : st ps f2 = st ps g := st_eq fun y hy => by
    rcases stops_gaps (Hm := Hm) gd bx y hy with k | ⟨q, k1, k2⟩
    · rw [k]; omega
    · rw [← k2]; exact g2 (by omega) q k1
  have ok1 := w.ok
  have af1 := w.af
  rw [st_id] at ok1 af1
  have kd1 := w.kd
  rw [st_id] at kd1
  have m0 : 0 ≤ callsOf rows := (kindsOf_all rows gd ok1 kd1).2.2
  refine ⟨callsOf rows, ⟨?_, ?_, hl, m0, hr, rows, if 0 < l then [(a, l)] else [], if 0 < r then [(d, r)] else [], ?_, kd1, ?_, ?_, ?_, ?_, rfl, ?_, ?_⟩, by omega⟩
  · rw [ends_eq]
    refine (ScOk_app _ _ _).mpr ⟨ok1, ?_⟩
    rw [af1]
    refine (ScOk_app _ _ _).mpr ⟨wf.ok, ?_⟩
    rw [wf.af]; exact wl.ok
  · rw [ends_eq, after_app, af1, after_app, wf.af, wl.af, eq]
  · rw [ends_eq]
  · rw [af1]; exact wf.kd
  · rw [after_app, af1, wf.af]; exact wl.kd
  · split <;> simp
  · split <;> simp
  · unfold callsOf; split <;> simp; omega
  · unfold callsOf; split <;> simp; omega
theorem zip_rows {α : Type} (k : Gp → α) : ∀ (t : List Gp) (y H : Int), (t.zip (((y, H) :: cornersF H t).zip (t.map k))).map (fun q => (q.1, q.2.2)) = t.map fun q => (q, k q)
  | [], _, _ => rfl
  | q :: t, y, H => by
    show (q, k q) :: (t.zip ((cornersF H (q :: t)).zip (t.map k))).map (fun q => (q.1, q.2.2)) = (q, k q) :: t.map fun q => (q, k q)
    unfold cornersF
    rw [zip_rows k t]
theorem last_corner {ps : List Per} : ∀ {t : List Gp} {z H e He : Int}, Cons ps z H t e He → He = H ∨ ∃ q ∈ cornersF H t, q.2 = He
  | [], _, _, _, _, h => .inl h.2
  | q :: t, z, H, e, He, ⟨_, _, _, _, h5⟩ => by
    unfold cornersF
    rcases last_corner h5 with k | ⟨x, k1, k2⟩
    · exact .inr ⟨_, List.mem_cons_self, k.symm⟩
    · exact .inr ⟨x, List.mem_cons_of_mem _ k1, k2⟩
theorem sumK_zero : ∀ (t : List kRow) (K : Int), (∀ q ∈ t, q.2.2 = 0) → sumK K t = K
  | [], _, _ => rfl
  | q :: t, K, h => by
    have e : K + kSg q = K := by unfold kSg; rw [h q List.mem_cons_self]; simp
    show sumK (K + kSg q) t = K
    rw [e]; exact sumK_zero t K fun x hx => h x (List.mem_cons_of_mem _ hx)
def odd (ps : List Per) : Prop := vsum ps % 2 = 1
instance (ps : List Per) : Decidable (odd ps) := by unfold odd; exact inferInstance
def rOf (ps qs : List Per) (l : Int) : Int := if odd ps then l + (lost ps qs).2 - (lost ps qs).1 else (lost ps qs).1 - (lost ps qs).2 - l
def mOf (ps qs : List Per) (l : Int) : Int := if odd ps then (lost ps qs).1 - l else (lost ps qs).2
theorem lead_made (gd : Good ps) (bx : Box ps lo hi) (sl : Slow g) (nf : fault ps (st ps g) = none) (hb : ∀ b ∈ toldB ps (st ps g), satB b l) (ha : IsFst ps a) (hd : IsLst ps d) :
    Made ps (st ps g) (coreRows ps (st ps g) l ++ endsOf a d l (rOf ps (st ps g) l)) l (mOf ps (st ps g) l) (rOf ps (st ps g) l) := by
  obtain ⟨Hm, hc⟩ := cons_gaps gd bx
  obtain ⟨s1, s2, s3, s4⟩ := lost_st gd bx sl hc
  have mv := moved_st bx sl
  have kr := kRows_st gd bx g
  have ra : RowsAt ps lo 0 (kRows ps (st ps g)) hi Hm := by rw [kr]; exact rowsAt_go sl _ _ _ _ _ _ hc
  -- what the bounds tell
  have hgb : ∀ b ∈ gapBounds ps (st ps g), satB b l := fun b hb' => hb b (by unfold toldB; split <;> simp [hb'])
  have kb : KB l 0 (kRows ps (st ps g)) := kb_go _ 0 0 [] (rows_kept (z := lo) (H := 0) ra) hgb
  have hl : 0 ≤ l := (hb ⟨.s "first", some 0, none⟩ (by unfold toldB; split <;> simp)).1 _ rfl
  have hr : 0 ≤ rOf ps (st ps g) l := by
    unfold rOf
    by_cases o : odd ps
    · rw [if_pos o]
      have := (hb ⟨.s "last", some ((lost ps (st ps g)).1 - (lost ps (st ps g)).2), none⟩ (by unfold toldB; rw [if_neg (by unfold odd at o; simp; omega)]; simp)).1 _ rfl
      omega
    · rw [if_neg o]
      have := (hb ⟨.s "last", none, some ((lost ps (st ps g)).1 - (lost ps (st ps g)).2)⟩ (by unfold toldB; rw [if_pos (by unfold odd at o; simp; omega)]; simp)).2 _ rfl
      omega
  have hm : g lo - lo = if odd ps then (lost ps (st ps g)).2 else (lost ps (st ps g)).1 - l := by
    by_cases o : odd ps
    · rw [if_pos o, ← mv]
      unfold fault at nf
      split at nf
      · cases nf
      · split at nf
        · cases nf
        · next h =>
          unfold odd at o
          simp [o] at h
          exact h
    · rw [if_neg o]
      have := hb ⟨.s "moved", some ((lost ps (st ps g)).1 - movedBy ps (st ps g)), some ((lost ps (st ps g)).1 - movedBy ps (st ps g))⟩ (by unfold toldB; rw [if_pos (by unfold odd at o; simp; omega)]; simp)
      have h1 := this.1 _ rfl
      have h2 := this.2 _ rfl
      omega
  have hg : 2 * (g lo - lo) = (hi - lo) - l + rOf ps (st ps g) l - (g hi - g lo) := by
    rw [hm]; unfold rOf
    by_cases o : odd ps
    · rw [if_pos o, if_pos o]; omega
    · rw [if_neg o, if_neg o]; omega
  have fin : ∀ {kp : Int → Bool} {stk : List (Bool × Int)}, Inv ps kp lo hi l (coreRows ps (st ps g) l) true stk hi → sgS stk = Hm - sumK 0 (kRows ps (st ps g)) - l → (∀ f : Int → Int, (∀ x, lo ≤ x → x < hi → f (x + 1) = f x + kI (kp x)) → ∀ q ∈ gaps ps, f (q.left + q.width) = f q.left + kpt g q) →
      Made ps (st ps g) (coreRows ps (st ps g) l ++ endsOf a d l (rOf ps (st ps g) l)) l (mOf ps (st ps g) l) (rOf ps (st ps g) l) := fun {kp stk} I hs hk => by
    obtain ⟨m, M, em⟩ := finish gd bx hc I hl hr (by
      rw [hs]; unfold rOf
      by_cases o : odd ps
      · have o' : vsum ps % 2 = 1 := o
        rw [if_pos o, if_pos o']; omega
      · have o' : ¬ vsum ps % 2 = 1 := o
        rw [if_neg o, if_neg o']; omega) ha hd hk hg
    have : m = mOf ps (st ps g) l := by
      unfold rOf at em; unfold mOf
      by_cases o : odd ps
      · rw [if_pos o] at em ⊢; omega
      · rw [if_neg o] at em ⊢; omega
    rw [← this]; exact M
  have zr := zip_rows (kpt g) (gaps ps) lo 0
  rw [← kr] at zr
  by_cases big : (bigKept ps (st ps g)).isEmpty = true
  · -- nothing is kept
    have k0 : ∀ q ∈ gaps ps, kpt g q = 0 := fun q hq => by
      have hw : kpt g q ∈ keptW ps (st ps g) := by rw [keptW_st gd]; exact List.mem_map.mpr ⟨q, hq, rfl⟩
      have h1 := hc.mem q hq
      have h2 := sl.le (show q.left ≤ q.left + q.width by omega)
      unfold bigKept at big
      rw [List.isEmpty_iff, List.filter_eq_nil_iff] at big
      have h3 := big _ hw
      simp at h3
      unfold kpt at h3 ⊢; omega
    have kr0 : ∀ q ∈ kRows ps (st ps g), q.2.2 = 0 := fun q hq => by
      have : (q.1, q.2.2) ∈ (gaps ps).map fun q => (q, kpt g q) := by rw [← zr]; exact List.mem_map.mpr ⟨q, hq, rfl⟩
      obtain ⟨x, hx, e⟩ := List.mem_map.mp this
      have := k0 x hx
      rw [show q.2.2 = kpt g x from (congrArg Prod.snd e).symm]; exact this
    have sk0 : sumK 0 (kRows ps (st ps g)) = 0 := sumK_zero _ _ kr0
    have top : l = 0 ∨ ∃ q ∈ cornersF 0 (gaps ps), l ≤ q.2 := by
      by_cases lz : l = 0
      · exact .inl lz
      · right
        by_cases o : odd ps
        · have gbn : gapBounds ps (st ps g) = [] := by unfold gapBounds gbRows; exact congrArg Prod.snd (gb_none _ 0 0 [] kr0)
          have := (hb ⟨.s "top", none, some (topH ps).1⟩ (by unfold toldB topB; rw [if_neg (by unfold odd at o; simp; omega), gbn]; simp)).2 _ rfl
          obtain ⟨_, _, q, hq, e⟩ := greatest_top gd
          obtain ⟨y, e1, _⟩ := corners_cons gd
          rw [e1] at hq
          rcases List.mem_cons.mp hq with k | k
          · subst k; simp only at e; omega
          · exact ⟨q, k, by omega⟩
        · unfold rOf at hr; rw [if_neg o] at hr
          rcases last_corner hc with k | ⟨q, k1, k2⟩
          · omega
          · exact ⟨q, k1, by omega⟩
    have ecore : coreRows ps (st ps g) l = rowsOf (cutPcs ps l) := by
      unfold coreRows pieces; rw [if_pos big, rows_all]
    have hcut : ∃ s', (cRows ps).foldl (cutStep ps l) (cutInit l) = (true, s') ∧ Inv ps (fun _ => false) lo hi l (rowsOf s') true (stkOf s') hi ∧ sgS (stkOf s') = Hm - l := by
      have ec : cRows ps = (gaps ps).zip ((lo, 0) :: cornersF 0 (gaps ps)) := by
        unfold cRows
        obtain ⟨y, e, e0⟩ := corners_cons gd
        have h := bx.head.1
        have : y = lo := by
          cases q : stops ps with
          | nil => rw [q] at e0; simp at e0
          | cons a l => rw [q] at e0 h; simp at e0 h; omega
        rw [e, this]
      rw [ec]
      by_cases lz : l = 0
      · have e0 : cutInit l = (true, ([[]], [])) := by unfold cutInit; rw [if_pos (decide_eq_true lz)]
        rw [e0]
        refine cut_go gd bx (fun _ => rfl) hl (gaps ps) lo 0 Hm lo true [[]] [] hc ?_ ?_ (fun z => nomatch z) (.inl rfl)
        · exact Inv.first (Inv.start bx.le) hl (by rw [lz]; rfl)
        · show (0 : Int) = 0 - l; omega
      · have e0 : cutInit l = (false, ([], [])) := by unfold cutInit; rw [if_neg (by simpa using lz)]
        rw [e0]
        refine cut_go gd bx (fun _ => rfl) hl (gaps ps) lo 0 Hm lo false [] [] hc (Inv.start bx.le) rfl (fun _ => ⟨by omega, rfl⟩) ?_
        rcases top with k | k
        · exact absurd k lz
        · exact .inr k
    obtain ⟨s', c1, c2, c3⟩ := hcut
    have ec2 : cutPcs ps l = s' := by unfold cutPcs; rw [c1]
    rw [ec2] at ecore
    refine fin (kp := fun _ => false) (by rw [ecore]; exact c2) (by rw [c3, sk0]; omega) fun f hf q hq => ?_
    have h1 := hc.mem q hq
    rw [k0 q hq, Int.add_zero]
    exact flat_eq (b := q.left + q.width) (fun x x0 x1 => by rw [hf x (by omega) (by omega)]; show _ + (0 : Int) = _; omega) (by omega) (Int.le_refl _)
  · have ecore : coreRows ps (st ps g) l = rowsOf (keptPcs ps (st ps g) l) := by
      unfold coreRows pieces; rw [if_neg big, rows_all]
    obtain ⟨I1, I2, I3⟩ := kept_go (kp := kpF l 0 (kRows ps (st ps g))) gd bx hl (kRows ps (st ps g)) 0 lo 0 Hm ([], []) ra kb (fun _ _ => rfl) (Inv.start bx.le) rfl (fun _ => .inr trivial)
    have ne : (((kRows ps (st ps g)).foldl (keptStep ps l) (0, ([], []))).2.1).isEmpty = false := by
      cases q : (((kRows ps (st ps g)).foldl (keptStep ps l) (0, ([], []))).2.1).isEmpty with
      | false => rfl
      | true =>
        exfalso
        have h0 := (I3 q).2
        apply big
        unfold bigKept
        rw [List.isEmpty_iff, List.filter_eq_nil_iff]
        intro w hw
        rw [keptW_st gd] at hw
        obtain ⟨x, hx, e⟩ := List.mem_map.mp hw
        have : (x, kpt g x) ∈ (kRows ps (st ps g)).map fun q => (q.1, q.2.2) := by rw [zr]; exact List.mem_map.mpr ⟨x, hx, rfl⟩
        obtain ⟨y, hy, e2⟩ := List.mem_map.mp this
        have h3 := h0 y hy
        have : kpt g x = 0 := by rw [← h3]; exact (congrArg Prod.snd e2).symm
        rw [← e, this]; decide
    rw [ne] at I1 I2
    refine fin (by rw [ecore]; exact I1) (by rw [I2]; rfl) fun f hf q hq => ?_
    have : (q, kpt g q) ∈ (kRows ps (st ps g)).map fun q => (q.1, q.2.2) := by rw [zr]; exact List.mem_map.mpr ⟨q, hq, rfl⟩
    obtain ⟨y, hy, e2⟩ := List.mem_map.mp this
    have h3 := kept_count hf (kRows ps (st ps g)) 0 lo 0 Hm (Int.le_refl _) ra kb (fun _ _ => rfl) y hy
    have e3 : y.1 = q := congrArg Prod.fst e2
    have e4 : y.2.2 = kpt g q := congrArg Prod.snd e2
    rw [e3, e4] at h3; exact h3
end
end OC
set_option maxHeartbeats 4000000
/-! Mathematics: the meeting; the sum by turns. -/
namespace OC
open PySem PySem.Spec PyProof.Rows L2
/-! ### the sum by turns -/
def alt : List Int → Int
  | [] => 0
  | x :: l => x - alt l
theorem alt_zip : ∀ (l : List Int) (n : Nat), ((l.zipIdx n).map altI).sum = if n % 2 = 0 then alt l else - alt l
  | [], n => by simp [alt]
  | x :: l, n => by
    rw [List.zipIdx_cons, List.map_cons, List.sum_cons, alt_zip l (n + 1)]
    unfold altI
    have ea : alt (x :: l) = x - alt l := rfl
    simp only [ea]
    by_cases h : n % 2 = 0
    · rw [if_neg (show ¬ (n + 1) % 2 = 0 by omega), if_pos h, if_pos (by simp; omega)]; omega
    · rw [if_pos (show (n + 1) % 2 = 0 by omega), if_neg h, if_neg (by simp; omega)]; omega
theorem alt_rep (y : Int) (rest : List Int) : ∀ c : Nat, alt (List.replicate c y ++ rest) = if c % 2 = 0 then alt rest else y - alt rest
  | 0 => by simp
  | c + 1 => by
    rw [List.replicate_succ]
    show y - alt (List.replicate c y ++ rest) = _
    rw [alt_rep y rest c]
    by_cases h : c % 2 = 0
    · rw [if_pos h, if_neg (by omega)]
    · rw [if_neg h, if_pos (by omega)]; omega
def evenF (l : List Gp) : Int := ((l.filter fun q => !q.odd).map (·.width)).sum
/-- voices' places from the stops -/
def spread (va : Int → Int) (xs : List Int) : List Int := xs.flatMap fun y => List.replicate (va y).toNat y
theorem turn_go (va : Int → Int) (h0 : ∀ y, 0 ≤ va y) : ∀ (xs : List Int) (y m : Int), (m + ((y :: xs).map va).sum) % 2 = 1 → alt (spread va (y :: xs)) = if m % 2 = 1 then - evenF (gapsF va m (y :: xs)) else y + evenF (gapsF va m (y :: xs))
  | [], y, m, hv => by
    have v0 := h0 y
    have e : spread va [y] = List.replicate (va y).toNat y ++ [] := by unfold spread; simp
    rw [e, alt_rep]
    have ev : evenF (gapsF va m [y]) = 0 := rfl
    rw [ev]
    have hv : (m + (va y + 0)) % 2 = 1 := hv
    by_cases hm : m % 2 = 1
    · rw [if_pos hm, if_pos (by omega)]; rfl
    · rw [if_neg hm, if_neg (by omega)]; show y - 0 = y + 0; omega
  | y2 :: xs, y, m, hv => by
    have v0 := h0 y
    have e : spread va (y :: y2 :: xs) = List.replicate (va y).toNat y ++ spread va (y2 :: xs) := by unfold spread; rw [List.flatMap_cons]
    have ih := turn_go va h0 xs y2 (m + va y) (by rw [List.map_cons, List.sum_cons] at hv; rw [← hv]; congr 1; omega)
    rw [e, alt_rep, ih]
    have eg : gapsF va m (y :: y2 :: xs) = ⟨y, y2 - y, decide ((m + va y) % 2 = 1)⟩ :: gapsF va (m + va y) (y2 :: xs) := rfl
    have ee : evenF (gapsF va m (y :: y2 :: xs)) = (if (m + va y) % 2 = 1 then 0 else y2 - y) + evenF (gapsF va (m + va y) (y2 :: xs)) := by
      rw [eg]; unfold evenF
      rw [List.filter_cons]
      by_cases hk : (m + va y) % 2 = 1
      · simp [hk]
      · simp [hk]
    rw [ee]
    by_cases hm : m % 2 = 1
    · rw [if_pos hm]
      by_cases hc : (va y).toNat % 2 = 0
      · rw [if_pos hc, if_pos (show (m + va y) % 2 = 1 by omega), if_pos (show (m + va y) % 2 = 1 by omega)]; omega
      · rw [if_neg hc, if_neg (show ¬ (m + va y) % 2 = 1 by omega), if_neg (show ¬ (m + va y) % 2 = 1 by omega)]; omega
    · rw [if_neg hm]
      by_cases hc : (va y).toNat % 2 = 0
      · rw [if_pos hc, if_neg (show ¬ (m + va y) % 2 = 1 by omega), if_neg (show ¬ (m + va y) % 2 = 1 by omega)]; omega
      · rw [if_neg hc, if_pos (show (m + va y) % 2 = 1 by omega), if_pos (show (m + va y) % 2 = 1 by omega)]; omega
theorem vat_nonneg {ps : List Per} (gd : Good ps) (y : Int) : 0 ≤ vat ps y := by rw [← voices_count gd y]; omega
theorem spread_up (va : Int → Int) : ∀ {xs : List Int}, xs.Pairwise (· < ·) → (spread va xs).Pairwise (· ≤ ·)
  | [], _ => List.Pairwise.nil
  | y :: xs, h => by
    obtain ⟨h1, h2⟩ := List.pairwise_cons.mp h
    unfold spread; rw [List.flatMap_cons]
    refine List.pairwise_append.mpr ⟨List.pairwise_replicate.mpr (.inr (Int.le_refl _)), spread_up va h2, fun a ha b hb => ?_⟩
    rw [List.eq_of_mem_replicate ha]
    obtain ⟨z, hz, hb⟩ := List.mem_flatMap.mp hb
    rw [List.eq_of_mem_replicate hb]
    exact Int.le_of_lt (h1 z hz)
theorem count_spread (va : Int → Int) (y : Int) : ∀ {xs : List Int}, xs.Nodup → (spread va xs).count y = if y ∈ xs then (va y).toNat else 0
  | [], _ => by simp [spread]
  | x :: xs, h => by
    obtain ⟨h1, h2⟩ := List.nodup_cons.mp h
    have ih := count_spread va y h2
    unfold spread at ih ⊢
    rw [List.flatMap_cons, List.count_append, ih, List.count_replicate]
    by_cases e : x = y
    · subst e; simp [h1]
    · simp [e, Ne.symm e]
theorem voiced_spread {ps : List Per} (gd : Good ps) : voiced ps = spread (vat ps) (stops ps) := by
  refine (sortS_unique _ _ ?_ (spread_up _ (stops_up ps))).symm
  rw [List.perm_iff_count]
  intro y
  have nd : (stops ps).Nodup := (stops_up ps).imp fun h => Int.ne_of_lt h
  rw [count_spread _ y nd]
  have hc : ((ps.filter fun p => decide (p.vc = 1)).map (·.pl)).count y = (ps.filter fun p => decide (p.pl = y) && decide (p.vc = 1)).length := by
    rw [List.count_eq_countP, List.countP_map, List.countP_filter, List.countP_eq_length_filter]
    congr 2
  have hv := voices_count gd y
  rw [hc]
  by_cases hm : y ∈ stops ps
  · rw [if_pos hm]; omega
  · rw [if_neg hm]
    symm
    rw [List.length_eq_zero_iff, List.filter_eq_nil_iff]
    intro p hp
    have : p.pl ≠ y := fun e => hm ((stops_mem ps y).mpr ⟨p, hp, e⟩)
    simp [this]
theorem vat_all (ps : List Per) : ((stops ps).map (vat ps)).sum = vsum ps := by
  have nd : (stops ps).Nodup := (stops_up ps).imp fun h => Int.ne_of_lt h
  rw [vat_sum ps _ nd, List.filter_eq_self.mpr]
  intro p hp
  exact decide_eq_true ((stops_mem ps _).mpr ⟨p, hp, rfl⟩)
theorem turn_even {ps : List Per} {lo hi : Int} (gd : Good ps) (bx : Box ps lo hi) (o : odd ps) : turnS ps = lo + evenW ps := by
  unfold turnS
  rw [alt_zip (voiced ps) 0, if_pos rfl, voiced_spread gd]
  obtain ⟨y, l, e⟩ := stops_ne gd
  have h1 := bx.head.1
  rw [e] at h1
  have h1 : y = lo := h1
  have hv := vat_all ps
  have t := turn_go (vat ps) (vat_nonneg gd) l y 0 (by rw [← e, hv]; unfold odd at o; omega)
  rw [e, t, if_neg (by decide), h1]
  unfold evenW gaps evenF; rw [e, h1]
/-! ### the meeting -/
theorem sums_go {ps : List Per} : ∀ {l : List Gp} {z H e He : Int}, Cons ps z H l e He → ((l.filter fun q => q.odd).map (·.width)).sum - ((l.filter fun q => !q.odd).map (·.width)).sum = He - H ∧ ((l.filter fun q => q.odd).map (·.width)).sum + ((l.filter fun q => !q.odd).map (·.width)).sum = e - z
  | [], z, H, e, He, ⟨h1, h2⟩ => by subst h1 h2; simp
  | q :: l, z, H, e, He, ⟨h1, h2, h3, h4, h5⟩ => by
    obtain ⟨i1, i2⟩ := sums_go h5
    rw [List.filter_cons, List.filter_cons]
    cases o : q.odd with
    | true =>
      have e2 : sg q = q.width := by unfold sg; simp [o]
      simp only [if_true, Bool.not_true, if_false, Bool.false_eq_true, List.map_cons, List.sum_cons]; omega
    | false =>
      have e2 : sg q = -q.width := by unfold sg; simp [o]
      simp only [if_true, Bool.not_false, if_false, Bool.false_eq_true, List.map_cons, List.sum_cons]; omega
theorem meet_made {ps : List Per} {lo hi n : Int} {a d : Str} (gd : Good ps) (bx : Box ps lo hi) (o : odd ps) (h1 : (callN ps).1 ≤ n) (h2 : n ≤ (callN ps).2) (ha : IsFst ps a) (hd : IsLst ps d) :
    partOk (n - evenW ps) 0 (stretchesOf ps) ∧ Made ps (st ps fun _ => turnS ps) (meetCore ps n ++ endsOf a d (n - evenW ps) (n - oddW ps)) (n - evenW ps) (oddW ps + evenW ps - n) (n - oddW ps) := by
  obtain ⟨Hm, hc⟩ := cons_gaps gd bx
  obtain ⟨s1, s2⟩ := sums_go hc
  have s1 : oddW ps - evenW ps = Hm - 0 := s1
  have s2 : oddW ps + evenW ps = hi - lo := s2
  unfold callN at h1 h2
  simp only at h1 h2
  have hl : 0 ≤ n - evenW ps := by omega
  have hr : 0 ≤ n - oddW ps := by omega
  have te := turn_even gd bx o
  have top : (0 : Int) = n - evenW ps ∨ ∃ q ∈ cornersF 0 (gaps ps), n - evenW ps ≤ q.2 := by
    by_cases lz : n - evenW ps = 0
    · exact .inl lz.symm
    · right
      obtain ⟨_, _, q, hq, e⟩ := greatest_top gd
      obtain ⟨y, e1, _⟩ := corners_cons gd
      rw [e1] at hq
      rcases List.mem_cons.mp hq with k | k
      · subst k; simp only at e; omega
      · exact ⟨q, k, by omega⟩
  have es : stretchesOf ps = (gaps ps).map (pcOf ps) := rfl
  obtain ⟨p1, p2⟩ := part_go (kp := fun _ => false) gd bx (fun _ => rfl) hl (gaps ps) lo 0 Hm [] hc (Inv.start bx.le) rfl hl top
  rw [← es] at p1 p2
  obtain ⟨I, hs⟩ := p2 _ _ rfl
  have ec : meetCore ps n = rowsOf ([(partF (n - evenW ps) 0 [] (stretchesOf ps)).1], (partF (n - evenW ps) 0 [] (stretchesOf ps)).2) := rfl
  obtain ⟨m, M, em⟩ := finish (g := fun _ => turnS ps) (r := n - oddW ps) (a := a) (d := d) gd bx hc I hl hr (by
    have o' : vsum ps % 2 = 1 := o
    rw [if_pos o', hs]; omega) ha hd (fun f hf q hq => by
    have h1 := hc.mem q hq
    have : kpt (fun _ => turnS ps) q = 0 := by unfold kpt; simp
    rw [this, Int.add_zero]
    exact flat_eq (b := q.left + q.width) (fun x x0 x1 => by rw [hf x (by omega) (by omega)]; show _ + (0 : Int) = _; omega) (by omega) (Int.le_refl _)) (by omega)
  rw [ec]
  have : m = oddW ps + evenW ps - n := by omega
  rw [← this]
  exact ⟨p1, M⟩
end OC
set_option maxHeartbeats 4000000
/-! Mathematics: what every history keeps (steps that are left keep their heights). -/
namespace OC
open PySem PySem.Spec PyProof.Rows L2
def sgB (b : Bool) : Int := if b then 1 else -1
structure Hts (ps : List Per) (lo : Int) (H : Int → Int) : Prop where
  step : ∀ x, H (x + 1) = H x + sgB (kap ps x)
  left : ∀ x, x ≤ lo → H x = lo - x
def hN (ps : List Per) (lo : Int) : Nat → Int
  | 0 => 0
  | n + 1 => hN ps lo n + sgB (kap ps (lo + n))
theorem kap_left {ps : List Per} {lo hi : Int} (bx : Box ps lo hi) (x : Int) (hx : x < lo) : kap ps x = false := by
  unfold kap lowV
  rw [List.filter_eq_nil_iff.mpr fun p hp => by have := bx.bd p hp; simp; omega]; rfl
theorem kap_right {ps : List Per} {lo hi : Int} (bx : Box ps lo hi) (x : Int) (hx : hi ≤ x) : kap ps x = decide (vsum ps % 2 = 1) := by
  unfold kap lowV
  rw [List.filter_eq_self.mpr fun p hp => by have := bx.bd p hp; simp; omega]
theorem hts_ex {ps : List Per} {lo hi : Int} (bx : Box ps lo hi) : ∃ H, Hts ps lo H := by
  refine ⟨fun x => if x ≤ lo then lo - x else hN ps lo (x - lo).toNat, fun x => ?_, fun x hx => if_pos hx⟩
  by_cases h : x < lo
  · rw [if_pos (show x + 1 ≤ lo by omega), if_pos (by omega), kap_left bx x h]; show _ = _ + (-1 : Int); omega
  · rw [if_neg (by omega)]
    have e : (x + 1 - lo).toNat = (x - lo).toNat + 1 := by omega
    rw [e]
    have e2 : lo + ((x - lo).toNat : Int) = x := by omega
    show hN ps lo (x - lo).toNat + sgB (kap ps (lo + ((x - lo).toNat : Int))) = _
    rw [e2]
    by_cases h2 : x = lo
    · subst h2; simp [hN]
    · rw [if_neg (by omega)]
structure Nec (ps : List Per) (lo hi : Int) (H f : Int → Int) (n l r : Int) : Prop where
  sl : Slow f
  n0 : 0 ≤ n
  l0 : 0 ≤ l
  r0 : 0 ≤ r
  lf : ∀ x, x ≤ lo - l → f x = x + n
  lm : ∀ x, lo - l ≤ x → x ≤ lo → f x = lo - l + n
  rf : ∀ x, hi + r ≤ x → f x = x - n
  rm : ∀ x, hi ≤ x → x ≤ hi + r → f x = hi + r - n
  G : ∃ G : Int → Int, ∀ x, f (x + 1) = f x + 1 → G (f x) = H x ∧ G (f x + 1) = H (x + 1)
  top : ∃ x, lo ≤ x ∧ x ≤ hi ∧ l ≤ H x
theorem nec_id {ps : List Per} {lo hi : Int} {H : Int → Int} (bx : Box ps lo hi) (hH : Hts ps lo H) : Nec ps lo hi H (fun x => x) 0 0 0 :=
  ⟨fun x => ⟨by omega, by omega⟩, Int.le_refl _, Int.le_refl _, Int.le_refl _, fun x _ => by omega, fun x h1 h2 => by omega, fun x _ => by omega, fun x h1 h2 => by omega, ⟨H, fun x _ => ⟨rfl, rfl⟩⟩, ⟨lo, Int.le_refl _, bx.le, by rw [hH.left lo (Int.le_refl _)]; omega⟩⟩
/-- some step that is left stands there -/
theorem slow_step {f : Int → Int} (sl : Slow f) (v : Int) : ∀ (n : Nat) (a : Int), f a ≤ v → v < f (a + n) → ∃ x, f x = v ∧ f (x + 1) = v + 1
  | 0, a, h1, h2 => by simp at h2; omega
  | n + 1, a, h1, h2 => by
    by_cases h : f (a + 1) ≤ v
    · exact slow_step sl v n (a + 1) h (by rw [show a + 1 + (n : Int) = a + ((n + 1 : Nat) : Int) by omega]; exact h2)
    · have := sl a
      exact ⟨a, by omega, by omega⟩
theorem Nec.at {ps : List Per} {lo hi : Int} {H f : Int → Int} {n l r : Int} (N : Nec ps lo hi H f n l r) (v : Int) : ∃ x, f x = v ∧ f (x + 1) = v + 1 := by
  have h1 := N.lf (min (lo - l) (v - n)) (by omega)
  have h2 := N.rf (max (hi + r) (v + 1 + n)) (by omega)
  have hle : min (lo - l) (v - n) ≤ max (hi + r) (v + 1 + n) := by have := N.n0; omega
  refine slow_step N.sl v (max (hi + r) (v + 1 + n) - min (lo - l) (v - n)).toNat (min (lo - l) (v - n)) (by omega) ?_
  rw [show min (lo - l) (v - n) + ((max (hi + r) (v + 1 + n) - min (lo - l) (v - n)).toNat : Int) = max (hi + r) (v + 1 + n) by omega]
  omega
theorem nec_call {ps : List Per} {lo hi : Int} {H f : Int → Int} {n l r : Int} (gd : Good ps) (bx : Box ps lo hi) (hH : Hts ps lo H) (N : Nec ps lo hi H f n l r) {nm : Str} (hn : nm ∈ ps.map (·.nm)) (hc : canCall (st ps f) nm = true) : ∃ l' r', Nec ps lo hi H (pull (f (plc ps nm)) 1 f) (n + 1) l' r' := by
  have ap := apart_box (bx.st N.sl) (cc_apart hc)
  have ld : loudAt (st ps f) (f (plc ps nm)) = true := by
    unfold canCall at hc
    rw [Bool.and_eq_true, plc_st f gd hn] at hc
    exact hc.1
  have pin := bx.bd _ (perOf_spec hn).1
  have m1 := (N.sl.le (show lo ≤ plc ps nm from pin.1)).1
  have m2 := (N.sl.le (show plc ps nm ≤ hi from pin.2)).1
  generalize f (plc ps nm) = Y at ld m1 m2 ⊢
  obtain ⟨a, a1, a2⟩ := N.at (Y - 1)
  obtain ⟨b, b1, b2⟩ := N.at Y
  have a2 : f (a + 1) = Y := by omega
  rw [loud_st N.sl a1 a2 b1 b2] at ld
  obtain ⟨G, hG⟩ := N.G
  have ga := hG a (by omega)
  have gb := hG b (by omega)
  have ha := hH.step a
  have hb := hH.step b
  rw [a1] at ga
  rw [b1] at gb
  have ga2 : G Y = H (a + 1) := by have := ga.2; rwa [show Y - 1 + 1 = Y by omega] at this
  have un : sgB (kap ps a) + sgB (kap ps b) = 0 := by
    cases ka : kap ps a <;> cases kb : kap ps b <;> rw [ka, kb] at ld <;> first | (exact absurd ld (by decide)) | rfl
  have geq : G (Y - 1) = G (Y + 1) := by have := ga.1; have := gb.1; have := gb.2; omega
  have n0 := N.n0
  have l0 := N.l0
  have r0 := N.r0
  have sl' := pull_slow (Y := Y) N.sl (show (0 : Int) ≤ 1 by decide)
  -- the left end
  have L : ∃ l', 0 ≤ l' ∧ (∀ x, x ≤ lo - l' → pull Y 1 f x = x + (n + 1)) ∧ (∀ x, lo - l' ≤ x → x ≤ lo → pull Y 1 f x = lo - l' + (n + 1)) ∧ ∃ x, lo ≤ x ∧ x ≤ hi ∧ l' ≤ H x := by
    by_cases q : f lo = Y
    · have fl := N.lm lo (by omega) (Int.le_refl _)
      refine ⟨l + 1, by omega, fun x hx => ?_, fun x x0 x1 => ?_, b + 1, ?_, ?_, ?_⟩
      · have := N.lf x (by omega)
        rw [pull_lo (by omega) (by decide)]; omega
      · have k1 : Y - 1 ≤ f x := by
          have := N.lf (lo - (l + 1)) (by omega)
          have := (N.sl.le x0).1; omega
        have k2 := (N.sl.le x1).1
        rw [pull_mid k1 (by omega) (by decide)]; omega
      · by_cases z : lo ≤ b + 1
        · exact z
        · have := (N.sl.le (show b + 1 ≤ lo by omega)).1; omega
      · by_cases z : b + 1 ≤ hi
        · exact z
        · have := (N.sl.le (show hi ≤ b by omega)).1; omega
      · -- the step that falls on the right is odd
        have al : a < lo := by
          by_cases z : a < lo
          · exact z
          · have := (N.sl.le (show lo ≤ a by omega)).1; omega
        have ka := kap_left bx a al
        rw [ka] at un
        have un : (-1 : Int) + sgB (kap ps b) = 0 := un
        have e1 : a = lo - l - 1 := by
          have h1 := N.lf (lo - l - 1) (by omega)
          by_cases z : a < lo - l - 1
          · have := (N.sl.le (show a + 1 ≤ lo - l - 1 by omega)).1; omega
          · by_cases z2 : a = lo - l - 1
            · exact z2
            · have := N.lm a (by omega) (by omega); omega
        have h3 := hH.left (a + 1) (by omega)
        have := gb.1
        omega
    · refine ⟨l, l0, fun x hx => ?_, fun x x0 x1 => ?_, N.top⟩
      · have := N.lf x hx
        have := (N.sl.le (show x ≤ lo by omega)).1
        rw [pull_lo (by omega) (by decide)]; omega
      · have := N.lm x x0 x1
        have := (N.sl.le x1).1
        rw [pull_lo (by omega) (by decide)]; omega
  have R : ∃ r', 0 ≤ r' ∧ (∀ x, hi + r' ≤ x → pull Y 1 f x = x - (n + 1)) ∧ (∀ x, hi ≤ x → x ≤ hi + r' → pull Y 1 f x = hi + r' - (n + 1)) := by
    by_cases q : f hi = Y
    · have fl := N.rm hi (Int.le_refl _) (by omega)
      refine ⟨r + 1, by omega, fun x hx => ?_, fun x x0 x1 => ?_⟩
      · have := N.rf x (by omega)
        rw [pull_hi (by omega) (by decide)]; omega
      · have k1 : f x ≤ Y + 1 := by
          have := N.rf (hi + (r + 1)) (by omega)
          have := (N.sl.le x1).1; omega
        have k2 := (N.sl.le x0).1
        rw [pull_mid (by omega) k1 (by decide)]; omega
    · refine ⟨r, r0, fun x hx => ?_, fun x x0 x1 => ?_⟩
      · have := N.rf x hx
        have := (N.sl.le (show hi ≤ x by omega)).1
        rw [pull_hi (by omega) (by decide)]; omega
      · have := N.rm x x0 x1
        have := (N.sl.le x0).1
        rw [pull_hi (by omega) (by decide)]; omega
  obtain ⟨l', l1, l2, l3, l4⟩ := L
  obtain ⟨r', r1, r2, r3⟩ := R
  refine ⟨l', r', sl', by omega, l1, r1, l2, l3, r2, r3, ⟨fun z => if z ≤ Y then G (z - 1) else G (z + 1), fun x hx => ?_⟩, l4⟩
  have s := N.sl x
  by_cases q : f x < Y
  · have e1 : pull Y 1 f x = f x + 1 := by unfold pull drawI; rw [if_pos q]; omega
    rw [e1] at hx ⊢
    have e2 : f (x + 1) = f x + 1 := by
      unfold pull drawI at hx
      split at hx <;> omega
    have h1 := hG x e2
    have q2 : f x + 1 + 1 ≤ Y := by
      unfold pull drawI at hx
      split at hx <;> omega
    simp only
    rw [if_pos (by omega), if_pos q2, show f x + 1 - 1 = f x by omega, show f x + 1 + 1 - 1 = f x + 1 by omega]
    exact h1
  · have q3 : Y < f x := by
      by_cases z : f x = Y
      · exfalso
        unfold pull drawI at hx
        rw [if_neg (show ¬ f x < Y by omega), if_neg (show ¬ f (x + 1) < Y by omega)] at hx
        omega
      · omega
    have e1 : pull Y 1 f x = f x - 1 := pull_hi (by omega) (by decide)
    have e3 : pull Y 1 f (x + 1) = f (x + 1) - 1 := pull_hi (by omega) (by decide)
    rw [e1, e3] at hx
    have h1 := hG x (by omega)
    rw [e1]
    simp only
    rw [if_neg (show ¬ f x - 1 + 1 ≤ Y by omega), show f x - 1 + 1 + 1 = f x + 1 by omega]
    refine ⟨?_, h1.2⟩
    by_cases z : f x - 1 ≤ Y
    · rw [if_pos z]
      have : f x = Y + 1 := by omega
      rw [show f x - 1 - 1 = Y - 1 by omega, geq, ← this]; exact h1.1
    · rw [if_neg z, show f x - 1 + 1 = f x by omega]; exact h1.1
end OC
set_option maxHeartbeats 4000000
/-! Mathematics: what is reached keeps all bounds. -/
namespace OC
open PySem PySem.Spec PyProof.Rows L2
section
variable {ps : List Per} {lo hi : Int} {H g : Int → Int} {n l r : Int}
theorem order_none (gd : Good ps) (sl : Slow g) : orderBreak ps (st ps g) = none := by
  unfold orderBreak
  rw [List.findSome?_eq_none_iff]
  intro a ha
  unfold obAt
  rw [List.findSome?_eq_none_iff]
  intro b hb
  unfold obIn obad
  rw [plc_st g gd ha, plc_st g gd hb]
  by_cases h : plc ps a ≤ plc ps b
  · have := sl.le h
    rw [decide_eq_true (show 0 ≤ g (plc ps b) - g (plc ps a) by omega), decide_eq_true (show g (plc ps b) - g (plc ps a) ≤ plc ps b - plc ps a by omega)]; simp
  · rw [decide_eq_false (show ¬ 0 ≤ plc ps b - plc ps a by omega)]; simp
/-- along a stretch of one kind -/
theorem run_H (hH : Hts ps lo H) {z : Int} {k : Bool} : ∀ w : Nat, (∀ x, z ≤ x → x < z + w → kap ps x = k) → H (z + w) = H z + sgB k * w
  | 0, _ => by simp
  | w + 1, hk => by
    have ih := run_H hH (z := z) (k := k) w fun x x0 x1 => hk x x0 (by omega)
    have h := hH.step (z + w)
    rw [hk (z + w) (by omega) (by omega)] at h
    have e : z + ((w + 1 : Nat) : Int) = z + (w : Int) + 1 := by omega
    rw [e, h, ih]
    cases k <;> simp [sgB] <;> omega
theorem run_G (hH : Hts ps lo H) {G : Int → Int} (sl : Slow g) (hG : ∀ x, g (x + 1) = g x + 1 → G (g x) = H x ∧ G (g x + 1) = H (x + 1)) {z : Int} {k : Bool} : ∀ w : Nat, (∀ x, z ≤ x → x < z + w → kap ps x = k) → G (g (z + w)) = G (g z) + sgB k * (g (z + w) - g z)
  | 0, _ => by simp
  | w + 1, hk => by
    have ih := run_G hH sl hG (z := z) (k := k) w fun x x0 x1 => hk x x0 (by omega)
    have h := hH.step (z + w)
    rw [hk (z + w) (by omega) (by omega)] at h
    have e : z + ((w + 1 : Nat) : Int) = z + (w : Int) + 1 := by omega
    rw [e]
    have s := sl (z + w)
    by_cases q : g (z + w + 1) = g (z + w) + 1
    · obtain ⟨u1, u2⟩ := hG _ q
      rw [q, u2, h, ← u1, ih]
      cases k <;> simp [sgB] <;> omega
    · have q2 : g (z + w + 1) = g (z + w) := by omega
      rw [q2, ih]
theorem alive_in (sl : Slow g) {z : Int} : ∀ w : Nat, g z < g (z + w) → ∃ x, z ≤ x ∧ x < z + w ∧ g (x + 1) = g x + 1
  | 0, h => by simp at h
  | w + 1, h => by
    have e : z + ((w + 1 : Nat) : Int) = z + (w : Int) + 1 := by omega
    by_cases q : g (z + w + 1) = g (z + w) + 1
    · exact ⟨z + w, by omega, by omega, q⟩
    · have s := sl (z + w)
      rw [e] at h
      obtain ⟨x, x0, x1, x2⟩ := alive_in sl (z := z) w (by omega)
      exact ⟨x, x0, by omega, x2⟩
theorem gb_sat (hH : Hts ps lo H) (sl : Slow g) {G : Int → Int} (hG : ∀ x, g (x + 1) = g x + 1 → G (g x) = H x ∧ G (g x + 1) = H (x + 1)) : ∀ (t : List Gp) (i : Nat) (y K : Int) (acc : List Bd) (z Hz e He : Int), Cons ps z Hz t e He → H z = Hz → G (g z) = l + K →
    (∀ b ∈ (((t.zip (((y, Hz) :: cornersF Hz t).zip (t.map (kpt g)))).zipIdx i).foldl gbStep (K, acc)).2, b ∈ acc ∨ satB b l) ∧ G (g e) = l + sumK K (t.zip (((y, Hz) :: cornersF Hz t).zip (t.map (kpt g)))) ∧ H e = He
  | [], i, y, K, acc, z, Hz, e, He, ⟨h1, h2⟩, hz, gz => by
    subst h1 h2
    exact ⟨fun b hb => .inl hb, gz, hz⟩
  | q :: t, i, y, K, acc, z, Hz, e, He, ⟨h1, h2, h3, h4, h5⟩, hz, gz => by
    have wn : z + (q.width.toNat : Int) = z + q.width := by omega
    have rH := run_H hH (z := z) (k := q.odd) q.width.toNat fun x x0 x1 => h3 x x0 (by omega)
    have rG := run_G hH sl hG (z := z) (k := q.odd) q.width.toNat fun x x0 x1 => h3 x x0 (by omega)
    rw [wn] at rH rG
    have kz : kpt g q = g (z + q.width) - g z := by unfold kpt; rw [h1]
    have kb := sl.le (show z ≤ z + q.width by omega)
    have eH : H (z + q.width) = Hz + sg q := by
      rw [rH, hz]; unfold sg sgB
      cases q.odd <;> simp <;> omega
    have eG : G (g (z + q.width)) = l + (K + kSg (q, ((y, Hz), kpt g q))) := by
      rw [rG, gz]; unfold kSg sgB; simp only; rw [kz]
      cases q.odd <;> simp <;> omega
    show (∀ b ∈ ((((q, ((y, Hz), kpt g q)) :: t.zip ((cornersF Hz (q :: t)).zip (t.map (kpt g)))).zipIdx i).foldl gbStep (K, acc)).2, b ∈ acc ∨ satB b l) ∧ G (g e) = l + sumK (K + kSg (q, ((y, Hz), kpt g q))) (t.zip ((cornersF Hz (q :: t)).zip (t.map (kpt g)))) ∧ H e = He
    unfold cornersF
    rw [List.zipIdx_cons, List.foldl_cons]
    by_cases k0 : kpt g q = 0
    · have es : gbStep (K, acc) ((q, ((y, Hz), kpt g q)), i) = (K, acc) := by unfold gbStep; simp [k0]
      have ek : K + kSg (q, ((y, Hz), kpt g q)) = K := by unfold kSg; simp [k0]
      rw [es, ek]
      rw [ek] at eG
      exact gb_sat hH sl hG t (i + 1) (q.left + q.width) K acc (z + q.width) (Hz + sg q) e He h5 eH eG
    · have kp : 0 < kpt g q := by omega
      obtain ⟨x, x0, x1, x2⟩ := alive_in sl (z := z) q.width.toNat (by rw [wn]; omega)
      rw [wn] at x1
      obtain ⟨u1, u2⟩ := hG x x2
      have sH := run_H hH (z := z) (k := q.odd) (x - z).toNat fun x' x0 x1 => h3 x' x0 (by omega)
      have sG := run_G hH sl hG (z := z) (k := q.odd) (x - z).toNat fun x' x0 x1 => h3 x' x0 (by omega)
      have xn : z + ((x - z).toNat : Int) = x := by omega
      rw [xn] at sH sG
      have c1 := sl.le x0
      have c2 := sl.le (show x + 1 ≤ z + q.width by omega)
      have xz : ((x - z).toNat : Int) = x - z := by omega
      rw [xz] at sH
      cases o : q.odd with
      | true =>
        have es : gbStep (K, acc) ((q, ((y, Hz), kpt g q)), i) = (K + kpt g q, acc ++ [⟨.n i, some (Hz - K), some (Hz - K + (q.width - kpt g q))⟩]) := by unfold gbStep; simp [kp, o]
        have ek : kSg (q, ((y, Hz), kpt g q)) = kpt g q := by unfold kSg; simp [o]
        rw [es, ek]
        rw [ek] at eG
        obtain ⟨i1, i2⟩ := gb_sat hH sl hG t (i + 1) (q.left + q.width) (K + kpt g q) (acc ++ [⟨.n i, some (Hz - K), some (Hz - K + (q.width - kpt g q))⟩]) (z + q.width) (Hz + sg q) e He h5 eH eG
        refine ⟨fun b hb => ?_, i2⟩
        rcases i1 b hb with k | k
        · rcases List.mem_append.mp k with k | k
          · exact .inl k
          · rw [List.mem_singleton] at k
            subst k
            rw [o] at sH sG
            have sH : H x = H z + 1 * (x - z) := sH
            have sG : G (g x) = G (g z) + 1 * (g x - g z) := sG
            refine .inr ⟨fun j ej => ?_, fun j ej => ?_⟩
            · have ej : some (Hz - K) = some j := ej
              cases ej; omega
            · have ej : some (Hz - K + (q.width - kpt g q)) = some j := ej
              cases ej; omega
        · exact .inr k
      | false =>
        have es : gbStep (K, acc) ((q, ((y, Hz), kpt g q)), i) = (K - kpt g q, acc ++ [⟨.n i, some (Hz - K - (q.width - kpt g q)), some (Hz - K)⟩]) := by unfold gbStep; simp [kp, o]
        have ek : K + kSg (q, ((y, Hz), kpt g q)) = K - kpt g q := by unfold kSg; simp [o]; omega
        rw [es, ek]
        rw [ek] at eG
        obtain ⟨i1, i2⟩ := gb_sat hH sl hG t (i + 1) (q.left + q.width) (K - kpt g q) (acc ++ [⟨.n i, some (Hz - K - (q.width - kpt g q)), some (Hz - K)⟩]) (z + q.width) (Hz + sg q) e He h5 eH eG
        refine ⟨fun b hb => ?_, i2⟩
        rcases i1 b hb with k | k
        · rcases List.mem_append.mp k with k | k
          · exact .inl k
          · rw [List.mem_singleton] at k
            subst k
            rw [o] at sH sG
            have sH : H x = H z + (-1) * (x - z) := sH
            have sG : G (g x) = G (g z) + (-1) * (g x - g z) := sG
            refine .inr ⟨fun j ej => ?_, fun j ej => ?_⟩
            · have ej : some (Hz - K - (q.width - kpt g q)) = some j := ej
              cases ej; omega
            · have ej : some (Hz - K) = some j := ej
              cases ej; omega
        · exact .inr k
/-- no height is above the greatest corner -/
theorem top_H (hH : Hts ps lo H) {M : Int} : ∀ {t : List Gp} {z Hz e He : Int}, Cons ps z Hz t e He → H z = Hz → Hz ≤ M → (∀ q ∈ cornersF Hz t, q.2 ≤ M) → ∀ x, z ≤ x → x ≤ e → H x ≤ M
  | [], z, Hz, e, He, ⟨h1, h2⟩, hz, hM, _, x, x0, x1 => by
    have : x = z := by omega
    subst this; omega
  | q :: t, z, Hz, e, He, ⟨h1, h2, h3, h4, h5⟩, hz, hM, hc, x, x0, x1 => by
    have wn : z + (q.width.toNat : Int) = z + q.width := by omega
    have rH := run_H hH (z := z) (k := q.odd) q.width.toNat fun x x0 x1 => h3 x x0 (by omega)
    rw [wn] at rH
    unfold cornersF at hc
    have hn := hc _ List.mem_cons_self
    simp only at hn
    by_cases h : x ≤ z + q.width
    · have sH := run_H hH (z := z) (k := q.odd) (x - z).toNat fun x' x0 x1 => h3 x' x0 (by omega)
      have xn : z + ((x - z).toNat : Int) = x := by omega
      rw [xn] at sH
      unfold sg at hn
      cases o : q.odd with
      | true => rw [o] at sH hn; simp [sgB] at sH hn; omega
      | false => rw [o] at sH hn; simp [sgB] at sH hn; omega
    · refine top_H hH h5 (by
        rw [rH, hz]; unfold sg sgB
        cases q.odd <;> simp <;> omega) hn (fun x hx => hc x (List.mem_cons_of_mem _ hx)) x (by omega) x1
theorem nec_bounds (gd : Good ps) (bx : Box ps lo hi) (hH : Hts ps lo H) (N : Nec ps lo hi H g n l r) : fault ps (st ps g) = none ∧ ∀ b ∈ toldB ps (st ps g), satB b l := by
  obtain ⟨Hm, hc⟩ := cons_gaps gd bx
  obtain ⟨s1, s2, s3, s4⟩ := lost_st gd bx N.sl hc
  have mv := moved_st bx N.sl
  have kr := kRows_st gd bx g
  obtain ⟨G, hG⟩ := N.G
  have n0 := N.n0
  have l0 := N.l0
  have r0 := N.r0
  have glo := N.lm lo (by omega) (Int.le_refl _)
  have ghi := N.rm hi (Int.le_refl _) (by omega)
  have g0 : G (g lo) = l + 0 := by
    have h1 := N.lf (lo - l - 1) (by omega)
    have h2 := N.lf (lo - l - 1 + 1) (by omega)
    obtain ⟨_, u2⟩ := hG (lo - l - 1) (by omega)
    rw [show g (lo - l - 1) + 1 = g lo by omega, show lo - l - 1 + 1 = lo - l by omega, hH.left _ (by omega)] at u2
    omega
  obtain ⟨i1, i2, i3⟩ := gb_sat hH N.sl hG (l := l) (gaps ps) 0 lo 0 [] lo 0 hi Hm hc (by rw [hH.left lo (Int.le_refl _)]; omega) g0
  have gm : G (g hi) = Hm + sgB (decide (vsum ps % 2 = 1)) * r := by
    have rH := run_H hH (z := hi) (k := decide (vsum ps % 2 = 1)) r.toNat fun x x0 _ => kap_right bx x x0
    have rn : ((r.toNat : Nat) : Int) = r := by omega
    rw [rn] at rH
    have h1 := N.rm (hi + r) (by omega) (by omega)
    have h2 := N.rf (hi + r + 1) (by omega)
    obtain ⟨u1, _⟩ := hG (hi + r) (by omega)
    rw [h1, ← ghi] at u1
    rw [u1, rH, i3]
  rw [← kr] at i2
  have hgb : ∀ b ∈ gapBounds ps (st ps g), satB b l := fun b hb => by
    have hb : b ∈ (((kRows ps (st ps g)).zipIdx).foldl gbStep (0, [])).2 := hb
    rw [kr] at hb
    rcases i1 b hb with k | k
    · simp at k
    · exact k
  by_cases o : vsum ps % 2 = 1
  · have gm : G (g hi) = Hm + 1 * r := by rw [gm, decide_eq_true o]; rfl
    refine ⟨?_, fun b hb => ?_⟩
    · unfold fault
      rw [order_none gd N.sl]
      simp only
      rw [if_neg]
      simp only [Bool.and_eq_true, decide_eq_true_eq, not_and, Decidable.not_not]
      intro _; omega
    · unfold toldB at hb
      rw [if_neg (by simp; omega)] at hb
      rcases List.mem_append.mp hb with k | k
      · simp only [List.mem_cons, List.not_mem_nil, or_false] at k
        rcases k with k | k
        · subst k; exact ⟨fun j e => by cases e; exact l0, fun j e => by cases e⟩
        · subst k; exact ⟨fun j e => by cases e; omega, fun j e => by cases e⟩
      · rcases List.mem_append.mp k with k | k
        · exact hgb b k
        · unfold topB at k
          split at k
          · rw [List.mem_singleton] at k; subst k
            refine ⟨fun j e => (by cases e), fun j e => ?_⟩
            cases e
            obtain ⟨x, x0, x1, x2⟩ := N.top
            obtain ⟨_, tp, _⟩ := greatest_top gd
            obtain ⟨y, e1, _⟩ := corners_cons gd
            rw [e1] at tp
            have := top_H hH (M := (topH ps).1) hc (by rw [hH.left lo (Int.le_refl _)]; omega) (tp _ List.mem_cons_self) (fun q hq => tp q (List.mem_cons_of_mem _ hq)) x x0 x1
            omega
          · simp at k
  · have gm : G (g hi) = Hm + (-1) * r := by rw [gm, decide_eq_false o]; rfl
    refine ⟨?_, fun b hb => ?_⟩
    · unfold fault
      rw [order_none gd N.sl]
      simp only
      rw [if_neg]
      simp [o]
    · unfold toldB at hb
      rw [if_pos (by simp; omega)] at hb
      rcases List.mem_append.mp hb with k | k
      · simp only [List.mem_cons, List.not_mem_nil, or_false] at k
        rcases k with k | k | k
        · subst k; exact ⟨fun j e => by cases e; exact l0, fun j e => by cases e⟩
        · subst k; exact ⟨fun j e => (by cases e), fun j e => by cases e; omega⟩
        · subst k; exact ⟨fun j e => by cases e; omega, fun j e => by cases e; omega⟩
      · exact hgb b k
/-! ### the answers -/
theorem sat_between {qs : List Per} {x : Int} : (∀ b ∈ toldB ps qs, satB b x) ↔ (leastP ps qs).1 ≤ x ∧ x ≤ (mostP ps qs).1 := by
  constructor
  · intro h
    obtain ⟨n, b, e1, e2, e3⟩ := lowsB_at (maxP_mem (told_lows ps qs))
    obtain ⟨n', b', f1, f2, f3⟩ := highsB_at (minP_mem (told_highs ps qs))
    exact ⟨(h b (List.mem_of_getElem? e1)).1 _ e3, (h b' (List.mem_of_getElem? f1)).2 _ f3⟩
  · rintro ⟨h1, h2⟩ b hb
    obtain ⟨n, hn, en⟩ := List.mem_iff_getElem.mp hb
    refine ⟨fun i e => ?_, fun i e => ?_⟩
    · have : (i, -(n : Int)) ∈ lowsB (toldB ps qs) := List.mem_map.mpr ⟨(b, n), List.mem_filter.mpr ⟨List.mk_mem_zipIdx_iff_getElem?.mpr (by simp [hn, en]), by simp [e]⟩, by simp [e]⟩
      have h3 := le_maxP this
      unfold lexLe at h3
      unfold leastP at h1
      simp only at h3; omega
    · have : (i, (n : Int)) ∈ highsB (toldB ps qs) := List.mem_map.mpr ⟨(b, n), List.mem_filter.mpr ⟨List.mk_mem_zipIdx_iff_getElem?.mpr (by simp [hn, en]), by simp [e]⟩, by simp [e]⟩
      have h3 := minP_le this
      unfold lexLe at h3
      unfold mostP at h2
      simp only at h3; omega
theorem nec_leads (gd : Good ps) (bx : Box ps lo hi) (hH : Hts ps lo H) (N : Nec ps lo hi H g n l r) : (paper ps (st ps g)).isL = true := by
  obtain ⟨h1, h2⟩ := nec_bounds gd bx hH N
  obtain ⟨h3, h4⟩ := sat_between.mp h2
  unfold paper
  rw [h1]
  simp only
  rw [if_neg (by simp; omega)]; rfl
theorem lead_l {qs : List Per} (il : (paper ps qs).isL = true) {calls : Int} (h1 : (leadB ps qs).1 ≤ calls) (h2 : calls ≤ (leadB ps qs).2) : ∀ b ∈ toldB ps qs, satB b (sFirst ps qs calls) := by
  obtain ⟨_, _, hle⟩ := paper_leads il
  rw [sat_between]
  unfold leadB at h1 h2
  unfold sFirst
  by_cases o : vsum ps % 2 = 1
  · rw [if_neg (by simp; omega)] at h1 h2
    rw [if_pos (by simpa using o)]
    simp only at h1 h2; omega
  · rw [if_neg (by simpa using o)]
    -- moved tells just one
    have hb : (⟨.s "moved", some ((lost ps qs).1 - movedBy ps qs), some ((lost ps qs).1 - movedBy ps qs)⟩ : Bd) ∈ toldB ps qs := by
      unfold toldB; rw [if_pos (by simp; omega)]; simp
    have k1 := (sat_between (ps := ps) (qs := qs) (x := (leastP ps qs).1)).mpr ⟨Int.le_refl _, hle⟩ _ hb
    have k2 := k1.1 _ rfl
    have k3 := k1.2 _ rfl
    have j1 := (sat_between (ps := ps) (qs := qs) (x := (mostP ps qs).1)).mpr ⟨hle, Int.le_refl _⟩ _ hb
    have j2 := j1.1 _ rfl
    have j3 := j1.2 _ rfl
    omega
end
end OC
set_option maxHeartbeats 4000000
/-! Mathematics: made scripts are tidy; their prices. -/
namespace OC
open PySem PySem.Spec PyProof.Rows L2
theorem rows_pos : ∀ (sc : List Row) (ps : List Per), ScOk ps sc → 0 ≤ callsOf sc ∧ ∀ q ∈ sc, 1 ≤ q.2 ∧ q.2 ≤ callsOf sc
  | [], ps, _ => ⟨by decide, fun q hq => by simp at hq⟩
  | x :: l, ps, h => by
    obtain ⟨i1, i2⟩ := rows_pos l (goRow ps x) h.2
    have h1 := h.1.2.1
    rw [callsOf_cons]
    refine ⟨by omega, fun q hq => ?_⟩
    rcases List.mem_cons.mp hq with k | k
    · subst k; omega
    · have := i2 q k; omega
theorem len_sum : ∀ (r : List (Int × Int)), (∀ x ∈ r, 1 ≤ x.2) → (r.length : Int) ≤ (r.map (·.2)).sum
  | [], _ => by simp
  | x :: r, h => by
    have i := len_sum r fun y hy => h y (List.mem_cons_of_mem _ hy)
    have := h x List.mem_cons_self
    rw [List.map_cons, List.sum_cons, List.length_cons]; omega
theorem price_one (p : Prc) (k : Int) : ∀ (r : List (Int × Int)), (∀ x ∈ r, x.1 = k) → (r.map fun q => prOf p q.1 * q.2).sum = prOf p k * (r.map (·.2)).sum
  | [], _ => by simp
  | x :: r, h => by
    have i := price_one p k r fun y hy => h y (List.mem_cons_of_mem _ hy)
    rw [List.map_cons, List.sum_cons, i, List.map_cons, List.sum_cons, h x List.mem_cons_self, Int.mul_add]
/-- what rows of one kind tell -/
structure OneK (ks : List (List (Int × Int))) (k n : Int) : Prop where
  all : ∀ r ∈ ks, r ≠ [] ∧ ∀ x ∈ r, x.1 = k ∧ 1 ≤ x.2 ∧ x.2 ≤ n
  sum : (ks.map fun r => (r.map (·.2)).sum).sum = n
theorem OneK.of {ps : List Per} {l : List Row} {k : Int} (gd : Good ps) (ok : ScOk ps l) (kr : KindRows ps l k) : OneK (kindsOf ps l) k (callsOf l) := by
  obtain ⟨h1, h2, _⟩ := kindsOf_all l gd ok kr
  exact ⟨h1, h2⟩
theorem flat_sum (p : Prc) (k : Int) : ∀ (ks : List (List (Int × Int))), (∀ r ∈ ks, r ≠ [] ∧ ∀ x ∈ r, x.1 = k ∧ 1 ≤ x.2) → (ks.flatMap fun l => l.map fun q => prOf p q.1 * q.2).sum = prOf p k * (ks.map fun r => (r.map (·.2)).sum).sum ∧ ((ks.map List.length).sum : Int) ≤ (ks.map fun r => (r.map (·.2)).sum).sum
  | [], _ => by simp
  | r :: ks, h => by
    obtain ⟨i1, i2⟩ := flat_sum p k ks fun y hy => h y (List.mem_cons_of_mem _ hy)
    have hr := h r List.mem_cons_self
    have l1 := len_sum r fun x hx => (hr.2 x hx).2
    rw [List.flatMap_cons, List.sum_append, i1, price_one p k r fun x hx => (hr.2 x hx).1]
    simp only [List.map_cons, List.sum_cons, Int.mul_add]
    refine ⟨trivial, ?_⟩
    push_cast at i2 ⊢; omega
theorem OneK.price {ks : List (List (Int × Int))} {k n : Int} (h : OneK ks k n) (p : Prc) : (ks.flatMap fun l => l.map fun q => prOf p q.1 * q.2).sum = prOf p k * n ∧ ((ks.map List.length).sum : Int) ≤ n := by
  have := flat_sum p k ks fun r hr => ⟨(h.all r hr).1, fun x hx => ⟨((h.all r hr).2 x hx).1, ((h.all r hr).2 x hx).2.1⟩⟩
  rw [h.sum] at this; exact this
theorem sum_mem_le : ∀ (ks : List (List (Int × Int))) (r : List (Int × Int)), r ∈ ks → r.length ≤ (ks.map List.length).sum
  | [], r, h => by simp at h
  | x :: ks, r, h => by
    rw [List.map_cons, List.sum_cons]
    rcases List.mem_cons.mp h with k | k
    · rw [k]; omega
    · have := sum_mem_le ks r k; omega
theorem OneK.even {ks : List (List (Int × Int))} {k n : Int} (h : OneK ks k n) (hk : kOk k) (hn : n ≤ 500) : (∀ r ∈ ks, evenRow r) ∧ ks.map rowTk = List.replicate ks.length (tk k) := by
  have hp := (h.price ⟨0, 0, 0⟩).2
  refine ⟨fun r hr => ?_, ?_⟩
  · obtain ⟨h1, h2⟩ := h.all r hr
    have hl := sum_mem_le ks r hr
    cases r with
    | nil => exact absurd rfl h1
    | cons x r =>
      refine ⟨k, r.length, ?_, hk, by simp at hl; omega⟩
      rw [List.eq_replicate_iff]
      refine ⟨by simp, fun b hb => ?_⟩
      obtain ⟨y, hy, rfl⟩ := List.mem_map.mp hb
      exact (h2 y hy).1
  · rw [List.eq_replicate_iff]
    refine ⟨by simp, fun b hb => ?_⟩
    obtain ⟨r, hr, rfl⟩ := List.mem_map.mp hb
    obtain ⟨h1, h2⟩ := h.all r hr
    cases r with
    | nil => exact absurd rfl h1
    | cons x r =>
      unfold rowTk
      have := (h2 x List.mem_cons_self).1
      simp only [List.map_cons, List.headD_cons]; rw [this]
section
variable {ps qs : List Per} {sc : List Row} {l m r : Int}
theorem Made.kinds (gd : Good ps) (h : Made ps qs sc l m r) : ∃ k1 k2 k3, kindsOf ps sc = k1 ++ (k2 ++ k3) ∧ OneK k1 1 m ∧ OneK k2 0 l ∧ OneK k3 2 r ∧ k2.length ≤ 1 ∧ k3.length ≤ 1 := by
  obtain ⟨r1, r2, r3, e, a1, a2, a3, b2, b3, c1, c2, c3⟩ := h.parts
  have ok := h.ok
  rw [e] at ok
  obtain ⟨o1, o2⟩ := (ScOk_app _ _ _).mp ok
  obtain ⟨o2, o3⟩ := (ScOk_app _ _ _).mp o2
  refine ⟨kindsOf ps r1, kindsOf (after ps r1) r2, kindsOf (after (after ps r1) r2) r3, ?_, ?_, ?_, ?_, by rw [kindsOf_len]; exact b2, by rw [kindsOf_len]; exact b3⟩
  · rw [e, kindsOf_app, kindsOf_app]
  · rw [← c1]; exact OneK.of gd o1 a1
  · rw [← c2]; exact OneK.of (after_good _ gd) o2 a2
  · rw [← c3]; rw [after_app] at a3; exact OneK.of (after_good _ (after_good _ gd)) o3 a3
theorem Made.short (gd : Good ps) (h : Made ps qs sc l m r) (hn : m + l + r ≤ 500) (hl : sc.length ≤ 500) : short sc := by
  have := h.calls
  exact ⟨hl, fun q hq => by have := ((rows_pos sc ps h.ok).2 q hq).2; omega⟩
theorem Made.tidy (gd : Good ps) (h : Made ps qs sc l m r) (hn : m + l + r ≤ 500) : (∀ x ∈ kindsOf ps sc, evenRow x) ∧ ((kindsOf ps sc).map rowTk).Pairwise (· ≤ ·) ∧ ((kindsOf ps sc).map rowTk).count 1 < 2 ∧ ((kindsOf ps sc).map rowTk).count 2 < 2 := by
  obtain ⟨k1, k2, k3, e, h1, h2, h3, l2, l3⟩ := h.kinds gd
  have l0 := h.l0
  have m0 := h.m0
  have r0 := h.r0
  obtain ⟨a1, b1⟩ := h1.even (.inr (.inl rfl)) (by omega)
  obtain ⟨a2, b2⟩ := h2.even (.inl rfl) (by omega)
  obtain ⟨a3, b3⟩ := h3.even (.inr (.inr rfl)) (by omega)
  rw [e, List.map_append, List.map_append, b1, b2, b3]
  have t1 : tk 1 = 0 := rfl
  have t0 : tk 0 = 1 := rfl
  have t2 : tk 2 = 2 := rfl
  rw [t1, t0, t2]
  refine ⟨fun x hx => ?_, ?_, ?_, ?_⟩
  · rcases List.mem_append.mp hx with k | k
    · exact a1 x k
    · rcases List.mem_append.mp k with k | k
      · exact a2 x k
      · exact a3 x k
  · refine List.pairwise_append.mpr ⟨List.pairwise_replicate.mpr (.inr (Int.le_refl _)), List.pairwise_append.mpr ⟨List.pairwise_replicate.mpr (.inr (Int.le_refl _)), List.pairwise_replicate.mpr (.inr (Int.le_refl _)), fun a ha b hb => ?_⟩, fun a ha b hb => ?_⟩
    · rw [List.eq_of_mem_replicate ha, List.eq_of_mem_replicate hb]; decide
    · rw [List.eq_of_mem_replicate ha]
      rcases List.mem_append.mp hb with k | k
      · rw [List.eq_of_mem_replicate k]; decide
      · rw [List.eq_of_mem_replicate k]; decide
  · simp only [List.count_append, List.count_replicate]
    simp; omega
  · simp only [List.count_append, List.count_replicate]
    simp; omega
theorem Made.price (gd : Good ps) (h : Made ps qs sc l m r) (hn : m + l + r ≤ 500) (p : Prc) : ((kindsOf ps sc).map List.length).sum ≤ 1000 ∧ (∀ x ∈ kindsOf ps sc, ∀ q ∈ x, kOk q.1 ∧ Sml q.2) ∧ priceOf ps sc p = l * p.p0 + m * p.p1 + r * p.p2 := by
  obtain ⟨k1, k2, k3, e, h1, h2, h3, l2, l3⟩ := h.kinds gd
  have l0 := h.l0
  have m0 := h.m0
  have r0 := h.r0
  obtain ⟨c1, d1⟩ := h1.price p
  obtain ⟨c2, d2⟩ := h2.price p
  obtain ⟨c3, d3⟩ := h3.price p
  refine ⟨?_, fun x hx q hq => ?_, ?_⟩
  · rw [e]; simp only [List.map_append, List.sum_append]; omega
  · rw [e] at hx
    have sm : ∀ {n i : Int}, 1 ≤ i → i ≤ n → n ≤ 500 → Sml i := fun {n i} z1 z2 z3 => ⟨by omega, by omega⟩
    rcases List.mem_append.mp hx with k | k
    · have := (h1.all x k).2 q hq
      exact ⟨by rw [this.1]; exact .inr (.inl rfl), sm this.2.1 this.2.2 (by omega)⟩
    · rcases List.mem_append.mp k with k | k
      · have := (h2.all x k).2 q hq
        exact ⟨by rw [this.1]; exact .inl rfl, sm this.2.1 this.2.2 (by omega)⟩
      · have := (h3.all x k).2 q hq
        exact ⟨by rw [this.1]; exact .inr (.inr rfl), sm this.2.1 this.2.2 (by omega)⟩
  · unfold priceOf
    rw [e, List.flatMap_append, List.flatMap_append, List.sum_append, List.sum_append, c1, c2, c3]
    have q1 : prOf p 1 = p.p1 := rfl
    have q0 : prOf p 0 = p.p0 := rfl
    have q2 : prOf p 2 = p.p2 := rfl
    rw [q1, q0, q2, Int.mul_comm p.p1, Int.mul_comm p.p0, Int.mul_comm p.p2]; omega
end
end OC
set_option maxHeartbeats 4000000
/-! The law's bounds, plain; a sum of lists as one's own. -/
namespace OC
open PySem PySem.Spec PyProof.Rows L2
section
variable {M : Mo} {g : G} {Z : Sc} {a b : Expr} {r : Rho} {pos : Pos}
theorem EL_cat {xs ys : List D} (ha : E M g Z a r (.lst xs)) (hb : E M g Z b r (.lst ys)) (hl : xs.length + ys.length ≤ sizeLine) : EL M g Z (.BinOp a .Add b pos) r (.own (xs ++ ys)) := fun X ok B0 H0 B H σ R Q q => by
  refine ⟨_, pe_op op_cat pe_w pe_w, ?_⟩
  refine ha X ok B0 H0 B H σ R _ fun x v B1 H1 px f1 r1 => ?_
  refine hb X ok B0 H0 B1 H1 σ (R.step f1) _ fun y u B2 H2 py f2 r2 => ?_
  subst px py
  have f := f1.tr f2 R.src
  cases r1.mono f2.b with
  | lst h1 k1 =>
    cases r2 with
    | lst h2 k2 =>
      refine ⟨_, _, _, _, rfl, rfl, f.s _ _ h1, f.s _ _ h2, by rw [← k1.len, ← k2.len]; exact hl, fun p hp => ?_⟩
      have n0 := f.free R.src hp
      refine q _ B2 (upd H2 p _) ⟨f.b, fun a o h z => ?_, f.s.updR (f.s.n hp), f.hid, f.src.new hp⟩ ⟨p, rfl, n0, f.s.n hp, _, upd_same, k1.app k2⟩
      rw [upd_ne (ne_of_none h n0)]
      exact f.h a o h z
end
/-! ### order, by pairs -/
theorem inOrd_iff {ps qs : List Per} (gp : Good ps) (gq : Good qs) (lk : Like ps qs) : inOrd ps qs = (orderBreak ps qs).isNone := by
  have hp : ∀ p ∈ ps, plc ps p.nm = p.pl := fun p h => by unfold plc; rw [perOf_mem gp.nd h]
  have e1 : inOrd ps qs = (ps.map (·.nm)).all fun n => (ps.map (·.nm)).all fun f => !obad ps qs n f := by
    unfold inOrd
    rw [zip_plc gq lk, List.all_map, List.all_map, Bool.eq_iff_iff, List.all_eq_true, List.all_eq_true]
    refine forall_congr' fun p => forall_congr' fun h => ?_
    simp only [Function.comp]
    rw [List.all_map, List.all_map, List.all_eq_true, List.all_eq_true]
    refine forall_congr' fun p' => forall_congr' fun h' => ?_
    simp only [Function.comp]
    unfold obad
    rw [hp p h, hp p' h']
    have : decide (0 ≤ p'.pl - p.pl) = decide (p.pl ≤ p'.pl) := decide_eq_decide.mpr (by omega)
    rw [this]
  rw [e1, Bool.eq_iff_iff, Option.isNone_iff_eq_none]
  unfold orderBreak
  rw [List.findSome?_eq_none_iff, List.all_eq_true]
  refine forall_congr' fun n => forall_congr' fun h => ?_
  unfold obAt
  rw [List.findSome?_eq_none_iff, List.all_eq_true]
  refine forall_congr' fun f => forall_congr' fun h' => ?_
  unfold obIn
  cases obad ps qs n f <;> simp
/-! ### what is lost -/
def lostOf (q : Gp × Int) : Int := q.1.width - q.2
theorem lost_fold : ∀ (z : List (Gp × Int)) (s : Int × Int), z.foldl lostStep s = (s.1 + ((z.filter fun q => q.1.odd).map lostOf).sum, s.2 + ((z.filter fun q => !q.1.odd).map lostOf).sum)
  | [], s => by simp
  | q :: z, s => by
    rw [List.foldl_cons, lost_fold z]
    unfold lostStep
    rw [List.filter_cons, List.filter_cons]
    cases o : q.1.odd with
    | true => simp [lostOf]; omega
    | false => simp [lostOf]; omega
theorem lost_odd (ps qs : List Per) : (lost ps qs).1 = ((((gaps ps).zip (keptW ps qs)).filter fun q => q.1.odd).map lostOf).sum := by
  unfold lost; rw [lost_fold]; simp
theorem lost_even (ps qs : List Per) : (lost ps qs).2 = ((((gaps ps).zip (keptW ps qs)).filter fun q => !q.1.odd).map lostOf).sum := by
  unfold lost; rw [lost_fold]; simp
theorem lost_all (ps qs : List Per) : (((gaps ps).zip (keptW ps qs)).map lostOf).sum = (lost ps qs).1 + (lost ps qs).2 := by
  rw [lost_odd, lost_even]
  have : ∀ z : List (Gp × Int), (z.map lostOf).sum = ((z.filter fun q => q.1.odd).map lostOf).sum + ((z.filter fun q => !q.1.odd).map lostOf).sum := by
    intro z
    induction z with
    | nil => rfl
    | cons q z ih =>
      rw [List.filter_cons, List.filter_cons]
      cases o : q.1.odd with
      | true => simp [ih]; omega
      | false => simp [ih]; omega
  exact this _
/-! ### rows by their numbers -/
theorem hts_corners {ps : List Per} (gd : Good ps) : hts ps = (corners ps).map (·.2) := by
  obtain ⟨y, e, _⟩ := corners_cons gd
  rw [e]; rfl
theorem gbRow_at {ps qs : List Per} (gd : Good ps) {q : gbRow} (h : q ∈ gbRows ps qs) : (gaps ps)[q.2]? = some q.1.1 ∧ (hts ps)[q.2]? = some q.1.2.1.2 ∧ (keptW ps qs)[q.2]? = some q.1.2.2 := by
  have h1 := List.mk_mem_zipIdx_iff_getElem?.mp h
  obtain ⟨h2, h3⟩ := List.getElem?_zip_eq_some.mp h1
  obtain ⟨h4, h5⟩ := List.getElem?_zip_eq_some.mp h3
  refine ⟨h2, ?_, h5⟩
  rw [hts_corners gd, List.getElem?_map, h4]; rfl
theorem gbRows_fst (ps qs : List Per) (gd : Good ps) : (gbRows ps qs).map (fun q => (q.1.1, q.2)) = (gaps ps).zipIdx := by
  have l1 := gaps_len ps
  have l2 := keptW_len ps qs
  have l3 : (corners ps).length = (gaps ps).length + 1 := by
    obtain ⟨y, e, _⟩ := corners_cons gd
    rw [e, List.length_cons, cornersF_len]
  apply List.ext_getElem
  · unfold gbRows; simp [List.length_zip]; omega
  · intro i h1 h2
    simp [gbRows]
theorem big_gap (ps qs : List Per) : ∀ (t : List kRow) (i : Nat) (K : Int) (acc : List Bd), (((t.zipIdx i).foldl gbStep (K, acc)).2.length = acc.length + (t.filter fun q => decide (0 < q.2.2)).length)
  | [], i, K, acc => by simp
  | q :: t, i, K, acc => by
    rw [List.zipIdx_cons, List.foldl_cons, List.filter_cons]
    by_cases h : 0 < q.2.2
    · cases o : q.1.odd with
      | true =>
        have es : gbStep (K, acc) (q, i) = (K + q.2.2, acc ++ [⟨.n i, some (q.2.1.2 - K), some (q.2.1.2 - K + (q.1.width - q.2.2))⟩]) := by unfold gbStep; simp [h, o]
        rw [es, big_gap ps qs t, if_pos (decide_eq_true h)]; simp; omega
      | false =>
        have es : gbStep (K, acc) (q, i) = (K - q.2.2, acc ++ [⟨.n i, some (q.2.1.2 - K - (q.1.width - q.2.2)), some (q.2.1.2 - K)⟩]) := by unfold gbStep; simp [h, o]
        rw [es, big_gap ps qs t, if_pos (decide_eq_true h)]; simp; omega
    · have es : gbStep (K, acc) (q, i) = (K, acc) := by unfold gbStep; simp [h]
      rw [es, big_gap ps qs t, if_neg (by simpa using h)]
theorem big_iff {ps : List Per} (gd : Good ps) (qs : List Per) : (gapBounds ps qs).isEmpty = (bigKept ps qs).isEmpty := by
  have h := big_gap ps qs ((gaps ps).zip ((corners ps).zip (keptW ps qs))) 0 0 []
  have l1 := gaps_len ps
  have l2 := keptW_len ps qs
  have l3 : (corners ps).length = (gaps ps).length + 1 := by
    obtain ⟨y, e, _⟩ := corners_cons gd
    rw [e, List.length_cons, cornersF_len]
  have hm : ((gaps ps).zip ((corners ps).zip (keptW ps qs))).map (fun q => q.2.2) = keptW ps qs := by
    apply List.ext_getElem
    · simp [List.length_zip]; omega
    · intro i h1 h2
      simp
  have hf : (((gaps ps).zip ((corners ps).zip (keptW ps qs))).filter fun q => decide (0 < q.2.2)).length = (bigKept ps qs).length := by
    unfold bigKept
    conv => rhs; rw [← hm]
    rw [List.filter_map, List.length_map]; rfl
  have h : (gapBounds ps qs).length = 0 + _ := h
  rw [hf] at h
  rw [Bool.eq_iff_iff, List.isEmpty_iff, List.isEmpty_iff, ← List.length_eq_zero_iff, ← List.length_eq_zero_iff]
  omega
def boundsL (ps qs : List Per) : D := match fault ps qs with
  | some (.order _ _) => .lst [.str "order"]
  | some .sum => .lst [.str "sum"]
  | none => bdsD (toldB ps qs)
theorem Sh_people {ps : List Per} (gd : Good ps) : Sh 2 (peopleD ps) := .lst fun d hd => by
  obtain ⟨p, hp, rfl⟩ := List.mem_map.mp hd
  refine .tup fun d hd => ?_
  simp only [List.mem_cons, List.not_mem_nil, or_false] at hd
  rcases hd with rfl | rfl | rfl
  · exact .str (gd.nm p hp).str
  · exact .int _
  · exact .int _
end OC
set_option maxHeartbeats 4000000
/-! The law's bounds, walked. -/
namespace OC
open PySem PySem.Spec PyProof.Rows L2
theorem firstPl_min {qs : List Per} (gd : Good qs) : firstPl qs ∈ qs.map (·.pl) ∧ ∀ y ∈ qs.map (·.pl), firstPl qs ≤ y := by
  have ne : stops qs ≠ [] := by obtain ⟨y, l, e⟩ := stops_ne gd; rw [e]; simp
  obtain ⟨p, hp, e⟩ := (stops_mem qs _).mp (minOf_mem ne)
  refine ⟨List.mem_map.mpr ⟨p, hp, e⟩, fun y hy => ?_⟩
  obtain ⟨q, hq, rfl⟩ := List.mem_map.mp hy
  exact minOf_le ((stops_mem qs _).mpr ⟨q, hq, rfl⟩)
theorem hts_top {ps : List Per} (gd : Good ps) : (topH ps).1 ∈ hts ps ∧ ∀ y ∈ hts ps, y ≤ (topH ps).1 := by
  obtain ⟨_, h1, q, hq, e⟩ := greatest_top gd
  rw [hts_corners gd]
  refine ⟨List.mem_map.mpr ⟨q, hq, e⟩, fun y hy => ?_⟩
  obtain ⟨z, hz, rfl⟩ := List.mem_map.mp hy
  exact h1 z hz
def bd0 (ps qs : List Per) : List Bd := [⟨.s "first", some 0, none⟩, if decide (vsum ps % 2 = 1) then ⟨.s "last", some ((lost ps qs).1 - (lost ps qs).2), none⟩ else ⟨.s "last", none, some ((lost ps qs).1 - (lost ps qs).2)⟩]
def bd1 (ps qs : List Per) : List Bd := bd0 ps qs ++ (if decide (vsum ps % 2 = 1) then [] else [⟨.s "moved", some ((lost ps qs).1 - movedBy ps qs), some ((lost ps qs).1 - movedBy ps qs)⟩])
def bd2 (ps qs : List Per) : List Bd := if decide (vsum ps % 2 = 1) && (bigKept ps qs).isEmpty then [⟨.s "top", none, some (topH ps).1⟩] else []
theorem told_parts {ps : List Per} (gd : Good ps) (qs : List Per) : toldB ps qs = (bd1 ps qs ++ gapBounds ps qs) ++ bd2 ps qs := by
  unfold toldB bd1 bd0 bd2 topB
  rw [big_iff gd qs]
  by_cases o : vsum ps % 2 = 1
  · rw [if_neg (by simp; omega), decide_eq_true o]; simp
  · rw [if_pos (by simp; omega), decide_eq_false o]; simp
theorem gbStep_acc (acc0 : List Bd) : ∀ (t : List gbRow) (K : Int) (acc : List Bd), (t.foldl gbStep (K, acc0 ++ acc)).2 = acc0 ++ (t.foldl gbStep (K, acc)).2
  | [], _, _ => rfl
  | q :: t, K, acc => by
    have es : gbStep (K, acc0 ++ acc) q = ((gbStep (K, acc) q).1, acc0 ++ (gbStep (K, acc) q).2) := by
      unfold gbStep
      split
      · simp
      · split <;> simp
    rw [List.foldl_cons, es, gbStep_acc acc0 t, List.foldl_cons]
section
variable {M : Mo} {g : G} {Z : Sc}
theorem clMinSp {qs : List Per} (gd : Good qs) : ClD M g Z (.builtin "min") [spotsD qs] (.int (firstPl qs)) := by
  have e : spotsD qs = .tup ((qs.map (·.pl)).map D.int) := by unfold spotsD; rw [List.map_map]; rfl
  rw [e]
  obtain ⟨h1, h2⟩ := firstPl_min gd
  exact clMinT h1 h2
end
theorem EL.of {M : Mo} {g : G} {Z : Sc} {e : Expr} {r : Rho} {l l' : L} (h : EL M g Z e r l) (k : l = l') : EL M g Z e r l' := k ▸ h
section
variable {M : Mo} (h : Hd M)
include h
theorem w_bounds_L : FnG M 4 "_law_bounds" false (Q2 boundsL) := by
  refine h.fnG 106 93 fs_bounds_L bn_bounds_L Q2.len ?_
  rintro Z ds P - ⟨ps, qs, gp, gq, lk, rfl, rfl⟩
  have lg := gaps_le gp
  have l8 := gp.len
  have lw := keptW_len ps qs
  have lgs := gaps_len ps
  have lh := hts_len ps
  have ord := inOrd_iff gp gq lk
  refine SS_if (T_not (T_val (EP_call (w_is_in_order_L h) (A2 (E_var 0) (E_var 1)) ⟨_, _, gp, gq, lk, rfl, rfl⟩))) (fun hp => ?_) fun hp => ?_
  · refine SS_ret (E_lst (A1 E_str)) ?_
    show _ = boundsL ps qs
    rw [ord] at hp
    unfold boundsL fault
    cases e : orderBreak ps qs with
    | none => rw [e] at hp; exact absurd hp (by decide)
    | some q => rfl
  have no : orderBreak ps qs = none := by
    rw [ord] at hp
    cases e : orderBreak ps qs with
    | none => rfl
    | some q => rw [e] at hp; simp at hp
  refine SS_nil ?_
  refine SS_par3 (i := 2) (j := 3) (l := 4) (AL_cons (E.l (EP_call (w_gaps_L h) (A1 (E_var 0)) ⟨_, gp, rfl, rfl⟩)) (AL_cons (E.l (EP_call (w_kept_L h) (A2 (E_var 0) (E_var 1)) ⟨_, _, gp, gq, lk, rfl, rfl⟩)) (AL_cons (E.l (EP_call (w_heights_L h) (A1 (E_var 0)) ⟨_, gp, rfl, rfl⟩)) AL_nil))) ?_
  have lz : ((gaps ps).zip (keptW ps qs)).length ≤ 8 := by rw [List.length_zip]; omega
  refine SS_lc 5 (L_lcm (l := (gaps ps).zip (keptW ps qs)) (gf := fun q => D.tup [gpD q.1, .int q.2]) [("_law_gap", 13), ("_law_k", 15)] D.int lostOf (IT.of (IT_zip (A2 (E_var 2) (E_var 3)) (h.free 121)) (zipD_map _ _ _ _)) (fun q hq => ⟨_, _, G_2 (G_name 13) (G_name 15), by decide, E_sub (E_ixT (d := .int q.1.width) (E_var 13) E_int) (E_var 15)⟩) (by omega)) ?_
  -- odd and even
  have ez : (gaps ps).zip (((gaps ps).zip (keptW ps qs)).map lostOf) = ((gaps ps).zip (keptW ps qs)).map fun q => (q.1, lostOf q) := by
    apply List.ext_getElem
    · simp [List.length_zip]
    · intro i h1 h2; simp
  refine SS_set (x := .int (lost ps qs).1) 6 (E.of (E_sum h (E_lcc (l := ((gaps ps).zip (keptW ps qs)).map fun q => (q.1, lostOf q)) (gf := fun q => D.tup [gpD q.1, .int q.2]) [("_law_gap", 13), ("_law_r", 16)] (fun q => q.1.odd) D.int (·.2) (IT.of (IT_zip (A2 (E_var 2) (E_var 5)) (h.free 121)) (by rw [zipD_map, ez])) (fun q hq => ⟨_, _, G_2 (G_name 13) (G_name 16), by decide, .inr ⟨_, rfl, T.of (T_cmp (E_ixT (d := .str (kindS q.1.odd)) (E_var 13) E_int) E_str (eqS _ _)) (kind_odd _)⟩, fun _ => E_var 16⟩) (by rw [List.length_map]; omega))) ?_) ?_
  · rw [lost_odd, List.filter_map, List.map_map]; rfl
  refine SS_set (x := .int (lost ps qs).2) 7 (E.of (E_sub (E_sum h (E_var 5)) (E_var 6)) ?_) ?_
  · rw [lost_all]; congr 1; omega
  refine SS_set (x := .int (movedBy ps qs)) 8 (E.of (E_if (p := true) (u := .int (movedBy ps qs)) (v := .int 0) (T.of (T_cmp (E_var 0) (E_lst A_nil) (neD (Sh_people gp) (.lst (n := 0) fun _ k => by simp at k) (eqv_nil _))) ?_) (fun _ => E.of (E_sub (E_callB (A1 (E_var 1)) (clMinSp gq) (h.free 113)) (E_callB (A1 (EP_call (w_spots_L h) (A1 (E_var 0)) ⟨_, gp, rfl, rfl⟩)) (clMinSp gp) (h.free 113))) rfl) fun z => nomatch z) rfl) ?_
  · cases ps with
    | nil => exact absurd rfl gp.ne
    | cons p l => rfl
  refine SS_set (x := .bl (decide (vsum ps % 2 = 1))) 9 (E_cmp (E_mod (E_intI h (E_sum h (E_lcm (l := ps) (gf := perD) [("_law_person", 17)] D.int (·.vc) (IT_list (E_var 0)) (fun p hp => ⟨_, _, G_name 17, by decide, E_ixT (d := .int p.vc) (E_var 17) E_int⟩) (by omega)))) E_int) E_int (eqI _ _)) ?_
  refine SS_if (T_and (T_val (E_var 9)) fun _ => T_cmp (E_var 8) (E_var 7) (neI _ _)) (fun hq => ?_) fun hq => ?_
  · refine SS_ret (E_lst (A1 E_str)) ?_
    show _ = boundsL ps qs
    unfold boundsL fault; rw [no]; simp only; rw [if_pos hq]
  have nf : fault ps qs = none := by unfold fault; rw [no]; simp only; rw [if_neg (by rw [hq]; decide)]
  refine SS_nil ?_
  refine SS_set (x := bdsD (bd0 ps qs)) 10 (E.of (E_lst (A2 (E_tup (A_cons E_str (A2 E_int E_non))) (E_if (T_val (E_var 9)) (fun _ => E_tup (A_cons E_str (A2 (E_sub (E_var 6) (E_var 7)) E_non))) fun _ => E_tup (A_cons E_str (A2 E_non (E_sub (E_var 6) (E_var 7))))))) ?_) ?_
  · unfold bd0; cases decide (vsum ps % 2 = 1) <;> rfl
  refine SS_setL 10 (l := .own ((bd1 ps qs).map bdD)) ?_ ?_
  · refine EL.of (EL_cat (E_var 10) (E.of (y := .lst ((if decide (vsum ps % 2 = 1) then [] else [(⟨.s "moved", some ((lost ps qs).1 - movedBy ps qs), some ((lost ps qs).1 - movedBy ps qs)⟩ : Bd)]).map bdD)) (E_if (T_val (E_var 9)) (fun _ => E_lst A_nil) fun _ => E_lst (A1 (E_tup (A_cons E_str (A2 (E_sub (E_var 6) (E_var 8)) (E_sub (E_var 6) (E_var 8))))))) ?_) ?_) ?_
    · cases decide (vsum ps % 2 = 1) <;> rfl
    · cases decide (vsum ps % 2 = 1) <;> exact Nat.le_trans (show _ ≤ 100 by simp [bd0]) (show 100 ≤ sizeLine by decide)
    · rw [← List.map_append]; rfl
  refine SS_set (x := .int 0) 11 E_int ?_
  have l1 : (bd1 ps qs).length ≤ 3 := by unfold bd1 bd0; split <;> simp
  have lb := gbRows_len gp qs
  refine SS_fold (l := gbRows ps qs) (gf := fun q => D.tup [.int (q.2 : Int), gpD q.1.1]) (IT.of (IT_enum (E_var 2) (h.free 107)) ?_) (fun s : Int × List Bd => [some (.d (peopleD ps)), some (.d (spotsD qs)), some (.d (gapsD ps)), some (.d (intsD (keptW ps qs))), some (.d (intsD (hts ps))), some (.d (intsD (((gaps ps).zip (keptW ps qs)).map lostOf))), none, none, none, some (.d (.bl (decide (vsum ps % 2 = 1)))), some (.own (s.2.map bdD)), some (.d (.int s.1)), none, none, none, none, none, none]) gbStep (0, bd1 ps qs) ?_ ?_ ?_
  · rw [enumD_map, ← gbRows_fst ps qs gp, List.map_map]; rfl
  · exact Le.keep (Le.keep (Le.keep (Le.keep (Le.keep (Le.keep (Le.drop (Le.drop (Le.drop (Le.keep (Le.keep (Le.keep (Le.drop (Le.drop (Le.drop (Le.drop (Le.drop (Le.drop Le.nil)))))))))))))))))
  · rintro s pre q post e1 e2
    have hq : q ∈ gbRows ps qs := by rw [e1]; simp
    obtain ⟨a1, a2, a3⟩ := gbRow_at gp hq
    have a4 : (((gaps ps).zip (keptW ps qs)).map lostOf)[q.2]? = some (q.1.1.width - q.1.2.2) := by
      rw [List.getElem?_map, List.getElem?_zip_eq_some (z := (q.1.1, q.1.2.2)) |>.mpr ⟨a1, a3⟩]; rfl
    have hs : s.2.length ≤ 20 := by
      have h1 := gb_fold_len pre (0, bd1 ps qs)
      have h2 := congrArg List.length e1
      rw [List.length_append, List.length_cons] at h2
      rw [← e2] at h1; simp only at h1; omega
    refine ⟨_, _, G_2 (G_name 12) (G_name 13), ?_⟩
    refine SS_if (T_cmp (E_ixL (d := .int q.1.2.2) (E_var 3) (E_var 12) (atI_nat (by rw [List.getElem?_map, a3]; rfl))) E_int (gtI _ _)) (fun hp => ?_) fun hp => ?_
    · refine SS_set (x := .int (q.1.2.1.2 - s.1)) 14 (E_sub (E_ixL (d := .int q.1.2.1.2) (E_var 4) (E_var 12) (atI_nat (by rw [List.getElem?_map, a2]; rfl))) (E_var 11)) ?_
      refine SS_append (ds := s.2.map bdD) (d := if q.1.1.odd then bdD ⟨.n q.2, some (q.1.2.1.2 - s.1), some (q.1.2.1.2 - s.1 + (q.1.1.width - q.1.2.2))⟩ else bdD ⟨.n q.2, some (q.1.2.1.2 - s.1 - (q.1.1.width - q.1.2.2)), some (q.1.2.1.2 - s.1)⟩) 10 (E_if (T.of (T_cmp (E_ixT (d := .str (kindS q.1.1.odd)) (E_var 13) E_int) E_str (eqS _ _)) (kind_odd _)) (fun _ => E_tup (A_cons (E_var 12) (A2 (E_var 14) (E_add (E_var 14) (E_ixL (d := .int (q.1.1.width - q.1.2.2)) (E_var 5) (E_var 12) (atI_nat (by rw [List.getElem?_map, a4]; rfl))))))) fun _ => E_tup (A_cons (E_var 12) (A2 (E_sub (E_var 14) (E_ixL (d := .int (q.1.1.width - q.1.2.2)) (E_var 5) (E_var 12) (atI_nat (by rw [List.getElem?_map, a4]; rfl)))) (E_var 14)))) (by rw [List.length_map]; omega) ?_
      refine SS_set (x := .int (gbStep s q).1) 11 (E.of (E_add (E_var 11) (E.of (E_if (T.of (T_cmp (E_ixT (d := .str (kindS q.1.1.odd)) (E_var 13) E_int) E_str (eqS _ _)) (kind_odd _)) (fun _ => E_ixL (d := .int q.1.2.2) (E_var 3) (E_var 12) (atI_nat (by rw [List.getElem?_map, a3]; rfl))) (fun _ => E_sub E_int (E_ixL (d := .int q.1.2.2) (E_var 3) (E_var 12) (atI_nat (by rw [List.getElem?_map, a3]; rfl))))) (y := .int (if q.1.1.odd then q.1.2.2 else 0 - q.1.2.2)) (by cases q.1.1.odd <;> rfl))) ?_) ?_
      · congr 1
        unfold gbStep
        cases o : q.1.1.odd with
        | true => simp [hp, o]
        | false => simp [hp, o]; omega
      refine SS_nil (SS_nil ?_)
      have e3 : (gbStep s q).2.map bdD = s.2.map bdD ++ [if q.1.1.odd then bdD ⟨.n q.2, some (q.1.2.1.2 - s.1), some (q.1.2.1.2 - s.1 + (q.1.1.width - q.1.2.2))⟩ else bdD ⟨.n q.2, some (q.1.2.1.2 - s.1 - (q.1.1.width - q.1.2.2)), some (q.1.2.1.2 - s.1)⟩] := by
        unfold gbStep
        cases o : q.1.1.odd with
        | true => simp [hp, o]
        | false => simp [hp, o]
      show Le [_, _, _, _, _, _, none, none, none, _, some (.own ((gbStep s q).2.map bdD)), _, none, none, none, none, none, none] _
      rw [e3]
      exact Le.keep (Le.keep (Le.keep (Le.keep (Le.keep (Le.keep (Le.drop (Le.drop (Le.drop (Le.keep (Le.keep (Le.keep (Le.drop (Le.drop (Le.drop (Le.drop (Le.drop (Le.drop Le.nil)))))))))))))))))
    · have e3 : gbStep s q = s := by unfold gbStep; rw [hp]; rfl
      refine SS_nil (SS_nil ?_)
      rw [e3]
      exact Le.keep (Le.keep (Le.keep (Le.keep (Le.keep (Le.keep (Le.drop (Le.drop (Le.drop (Le.keep (Le.keep (Le.keep (Le.drop (Le.drop (Le.drop (Le.drop (Le.drop (Le.drop Le.nil)))))))))))))))))
  · have e4 : ((gbRows ps qs).foldl gbStep (0, bd1 ps qs)).2 = bd1 ps qs ++ gapBounds ps qs := by
      have := gbStep_acc (bd1 ps qs) (gbRows ps qs) 0 []
      rw [List.append_nil] at this; exact this
    show SS _ _ _ _ [_, _, _, _, _, _, none, none, none, _, some (.own (((gbRows ps qs).foldl gbStep (0, bd1 ps qs)).2.map bdD)), _, none, none, none, none, none, none] _
    rw [e4]
    have lt := toldB_len gp qs
    have tp := told_parts gp qs
    obtain ⟨m1, m2⟩ := hts_top gp
    refine SS_give 10 ?_
    refine SS_ret (x := bdsD (toldB ps qs)) (E.of (E_cat (E_var 10) (E.of (y := .lst ((bd2 ps qs).map bdD)) (E_if (T_and (T_val (E_var 9)) fun _ => T.of (c := (bigKept ps qs).isEmpty) (T_cmp (E_lcc (l := keptW ps qs) (gf := D.int) [("_law_k", 15)] (fun w => decide (0 < w)) D.int (fun w => w) (IT_list (E_var 3)) (fun w hw => ⟨_, _, G_name 15, by decide, .inr ⟨_, rfl, T_cmp (E_var 15) E_int (gtI _ _)⟩, fun _ => E_var 15⟩) (by omega)) (E_lst A_nil) (eqD (Sh_ints ((((keptW ps qs).filter fun w => decide (0 < w)).map fun w => w))) (.lst (n := 0) fun _ k => by simp at k) (eqv_nil _))) ?_) (fun _ => E_lst (A1 (E_tup (A_cons E_str (A2 E_non (E_maxL h m1 m2 (E_var 4))))))) fun _ => E_lst A_nil) ?_) ?_) ?_) ?_
    · rw [List.map_id']
      show ((bigKept ps qs).map D.int).isEmpty = _
      cases bigKept ps qs <;> rfl
    · unfold bd2; split <;> rfl
    · rw [List.length_map, List.length_map, ← List.length_append, ← tp]
      exact Nat.le_trans (show _ ≤ 11 from lt) (by decide)
    · rw [← List.map_append, ← tp]
    · show _ = boundsL ps qs
      unfold boundsL; rw [nf]
end
end OC
set_option maxHeartbeats 4000000
/-! The law's numbers of calls. -/
namespace OC
open PySem PySem.Spec PyProof.Rows L2
def lows (ps qs : List Per) : List Int := ((toldB ps qs).filter fun b => b.lo.isSome).map fun b => b.lo.getD 0
theorem lows_least (ps qs : List Per) : (leastP ps qs).1 ∈ lows ps qs ∧ ∀ y ∈ lows ps qs, y ≤ (leastP ps qs).1 := by
  obtain ⟨n, b, e1, e2, e3⟩ := lowsB_at (maxP_mem (told_lows ps qs))
  refine ⟨List.mem_map.mpr ⟨b, List.mem_filter.mpr ⟨List.mem_of_getElem? e1, by rw [e3]; rfl⟩, by rw [e3]; rfl⟩, fun y hy => ?_⟩
  obtain ⟨b', hb', rfl⟩ := List.mem_map.mp hy
  obtain ⟨k1, k2⟩ := List.mem_filter.mp hb'
  obtain ⟨i, hi⟩ := Option.isSome_iff_exists.mp k2
  obtain ⟨n', hn', en'⟩ := List.mem_iff_getElem.mp k1
  have : (i, -(n' : Int)) ∈ lowsB (toldB ps qs) := List.mem_map.mpr ⟨(b', n'), List.mem_filter.mpr ⟨List.mk_mem_zipIdx_iff_getElem?.mpr (by simp [hn', en']), by simp [hi]⟩, by simp [hi]⟩
  have h3 := le_maxP this
  unfold leastP
  rw [hi]
  unfold lexLe at h3
  show i ≤ _
  simp only at h3; omega
theorem Sh_told (ps qs : List Per) : Sh 2 (bdsD (toldB ps qs)) := .lst fun d hd => by
  obtain ⟨b, hb, rfl⟩ := List.mem_map.mp hd
  refine Sh_bd fun z hz => ?_
  unfold toldB topB at hb
  have hs : ∀ z : Str, b.lab = .s z → z = "first" ∨ z = "last" ∨ z = "moved" ∨ z = "top" := fun z hz => by
    split at hb
    · rcases List.mem_append.mp hb with k | k
      · simp only [List.mem_cons, List.not_mem_nil, or_false] at k
        rcases k with k | k | k <;> (subst k; cases hz; simp)
      · obtain ⟨i, e⟩ := gapBounds_lab k
        rw [e] at hz; cases hz
    · rcases List.mem_append.mp hb with k | k
      · simp only [List.mem_cons, List.not_mem_nil, or_false] at k
        rcases k with k | k <;> (subst k; cases hz; simp)
      · rcases List.mem_append.mp k with k | k
        · obtain ⟨i, e⟩ := gapBounds_lab k
          rw [e] at hz; cases hz
        · split at k
          · rw [List.mem_singleton] at k; subst k; cases hz; simp
          · simp at k
  rcases hs z hz with e | e | e | e <;> (subst e; decide +kernel)
theorem told_cons (ps qs : List Per) : ∃ b c l, toldB ps qs = b :: c :: l := by
  unfold toldB
  split
  · exact ⟨_, _, _, rfl⟩
  · exact ⟨_, _, _, rfl⟩
theorem told_third (ps qs : List Per) : ∃ b c d l, toldB ps qs = b :: c :: d :: l ∧ ((vsum ps % 2 = 0 ∧ d.lab = .s "moved") ∨ (¬ vsum ps % 2 = 0 ∧ ((∃ i, d.lab = .n i) ∨ d.lab = .s "top"))) := by
  unfold toldB
  by_cases o : vsum ps % 2 = 0
  · rw [if_pos (by simpa using o)]
    exact ⟨_, _, _, _, rfl, .inl ⟨o, rfl⟩⟩
  · rw [if_neg (by simpa using o)]
    cases g : gapBounds ps qs with
    | nil =>
      unfold topB; rw [g]
      exact ⟨_, _, _, _, rfl, .inr ⟨o, .inr rfl⟩⟩
    | cons d l =>
      exact ⟨_, _, d, _, rfl, .inr ⟨o, .inl (gapBounds_lab (ps := ps) (qs := qs) (by rw [g]; exact List.mem_cons_self))⟩⟩
theorem cutL_23 {α : Type} (b c d : α) (l : List α) : cutL (b :: c :: d :: l) (some ((2 : Nat) : Int)) (some ((3 : Nat) : Int)) = [d] := by
  unfold cutL
  rw [HT.sIx_nat, HT.sIx_nat]
  have e1 : min 2 (b :: c :: d :: l).length = 2 := by simp
  have e2 : min 3 (b :: c :: d :: l).length = 3 := by simp
  rw [e1, e2]; rfl
def leadN (ps qs : List Per) : D := .lst (if (paper ps qs).isL then [ciD (leadB ps qs)] else [])
section
variable {M : Mo} (h : Hd M)
include h
theorem w_lead_numbers_L : FnG M 5 "_law_lead_numbers" false (Q2 leadN) := by
  refine h.fnG 107 94 fs_lead_numbers_L bn_lead_numbers_L Q2.len ?_
  rintro Z ds P - ⟨ps, qs, gp, gq, lk, rfl, rfl⟩
  have lg := gaps_le gp
  have l8 := gp.len
  have lt := toldB_len gp qs
  have lw := keptW_len ps qs
  have so : Sh 1 (.lst [.str "order"]) := .lst fun d hd => by rw [List.mem_singleton] at hd; subst hd; exact .str (by decide +kernel)
  have ss : Sh 1 (.lst [.str "sum"]) := .lst fun d hd => by rw [List.mem_singleton] at hd; subst hd; exact .str (by decide +kernel)
  have sp : Sh 2 (.tup [.lst [.str "order"], .lst [.str "sum"]]) := .tup fun d hd => by
    simp only [List.mem_cons, List.not_mem_nil, or_false] at hd
    rcases hd with rfl | rfl <;> assumption
  refine SS_set (x := boundsL ps qs) 2 (EP_call (w_bounds_L h) (A2 (E_var 0) (E_var 1)) ⟨_, _, gp, gq, lk, rfl, rfl⟩) ?_
  cases nf : fault ps qs with
  | some f =>
    have il : (paper ps qs).isL = false := by unfold paper; rw [nf]; rfl
    have fin : D.lst [] = leadN ps qs := by unfold leadN; rw [il]; rfl
    cases f with
    | order a b =>
      have eb : boundsL ps qs = .lst [.str "order"] := by unfold boundsL; rw [nf]
      rw [eb]
      refine SS_ifT (T_cmp (E_var 2) (E_tup (A2 (E_lst (A1 E_str)) (E_lst (A1 E_str)))) (inTD (q := true) so sp (by decide +kernel))) ?_
      exact SS_ret (E_lst A_nil) fin
    | sum =>
      have eb : boundsL ps qs = .lst [.str "sum"] := by unfold boundsL; rw [nf]
      rw [eb]
      refine SS_ifT (T_cmp (E_var 2) (E_tup (A2 (E_lst (A1 E_str)) (E_lst (A1 E_str)))) (inTD (q := true) ss sp (by decide +kernel))) ?_
      exact SS_ret (E_lst A_nil) fin
  | none =>
    have eb : boundsL ps qs = bdsD (toldB ps qs) := by unfold boundsL; rw [nf]
    rw [eb]
    refine SS_ifF (T_cmp (E_var 2) (E_tup (A2 (E_lst (A1 E_str)) (E_lst (A1 E_str)))) (inTD (q := false) (Sh_told ps qs) sp ?_)) ?_
    · obtain ⟨b, c, l, e⟩ := told_cons ps qs
      rw [e]; rfl
    obtain ⟨k1, k2⟩ := lows_least ps qs
    obtain ⟨m1, m2⟩ := highs_most ps qs
    refine SS_par (i := 3) (j := 4) (AL_cons (l := .d (.int (leastP ps qs).1)) (E.l (E_maxL h k1 k2 (E_lcc (l := toldB ps qs) (gf := bdD) [("_law_row", 9)] (fun b => b.lo.isSome) D.int (fun b => b.lo.getD 0) (IT_list (E_var 2)) (fun q hq => ⟨_, _, G_name 9, by decide, .inr ⟨_, rfl, T.of (T_notN (E_ixT (d := optI q.lo) (E_var 9) E_int)) (by rw [optI_isN]; cases q.lo <;> rfl)⟩, fun hs => ?_⟩) (by omega)))) (AL_cons (l := .d (intsD (highs ps qs))) (E.l (E_lcc (l := toldB ps qs) (gf := bdD) [("_law_row", 9)] (fun b => b.hi.isSome) D.int (fun b => b.hi.getD 0) (IT_list (E_var 2)) (fun q hq => ⟨_, _, G_name 9, by decide, .inr ⟨_, rfl, T.of (T_notN (E_ixT (d := optI q.hi) (E_var 9) E_int)) (by rw [optI_isN]; cases q.hi <;> rfl)⟩, fun hs => ?_⟩) (by omega))) AL_nil)) ?_
    · rcases opt_min q.lo with k | k
      · exact E_ixT (d := .int (q.lo.getD 0)) (ds := [labD q.lab, optI q.lo, optI q.hi]) (E_var 9) E_int (by rw [k]; rfl)
      · rw [k] at hs; exact absurd hs (by decide)
    · rcases opt_min q.hi with k | k
      · exact E_ixT (d := .int (q.hi.getD 0)) (ds := [labD q.lab, optI q.lo, optI q.hi]) (E_var 9) E_int (by rw [k]; rfl)
      · rw [k] at hs; exact absurd hs (by decide)
    have lh : (highs ps qs).length ≤ 11 := by unfold highs; rw [List.length_map]; exact Nat.le_trans (List.length_filter_le _ _) lt
    have mm : minOf (highs ps qs ++ [(leastP ps qs).1]) = min (mostP ps qs).1 (leastP ps qs).1 := minOf_unique (by
        by_cases q : (mostP ps qs).1 ≤ (leastP ps qs).1
        · rw [Int.min_eq_left q]; exact List.mem_append_left _ m1
        · rw [Int.min_eq_right (by omega)]; simp) fun y hy => by
        rcases List.mem_append.mp hy with k | k
        · have := minOf_le k; omega
        · rw [List.mem_singleton] at k; omega
    refine SS_if (T_cmp (E_var 3) (E_minL h (ns := highs ps qs ++ [(leastP ps qs).1]) (m := min (mostP ps qs).1 (leastP ps qs).1) (by rw [← mm]; exact minOf_mem (by simp)) (fun y hy => by rw [← mm]; exact minOf_le hy) (E.of (E_cat (E_var 4) (E_lst (A1 (E_var 3))) ?_) (by rw [List.map_append]; rfl))) (gtI _ _)) (fun hp => ?_) fun hp => ?_
    · rw [List.length_map]; exact Nat.le_trans (show (highs ps qs).length + _ ≤ 12 by simp; omega) (by decide)
    · have hlt : (mostP ps qs).1 < (leastP ps qs).1 := by have := of_decide_eq_true hp; omega
      refine SS_ret (E_lst A_nil) ?_
      show _ = leadN ps qs
      unfold leadN paper; rw [nf]; simp only; rw [if_pos (decide_eq_true hlt)]; rfl
    have hle : (leastP ps qs).1 ≤ (mostP ps qs).1 := by have := of_decide_eq_false hp; omega
    have il : (paper ps qs).isL = true := by unfold paper; rw [nf]; simp only; rw [if_neg (by simp; omega)]; rfl
    have fin : D.lst [ciD (leadB ps qs)] = leadN ps qs := by unfold leadN; rw [il]; rfl
    refine SS_nil ?_
    refine SS_par (i := 5) (j := 6) (AL_cons (E.l (EP_call (w_gaps_L h) (A1 (E_var 0)) ⟨_, gp, rfl, rfl⟩)) (AL_cons (E.l (EP_call (w_kept_L h) (A2 (E_var 0) (E_var 1)) ⟨_, _, gp, gq, lk, rfl, rfl⟩)) AL_nil)) ?_
    have lz : ((gaps ps).zip (keptW ps qs)).length ≤ 8 := by rw [List.length_zip]; omega
    refine SS_set (x := .int (lost ps qs).1) 7 (E.of (E_sum h (E_lcc (l := (gaps ps).zip (keptW ps qs)) (gf := fun q => D.tup [gpD q.1, .int q.2]) [("_law_gap", 10), ("_law_k", 11)] (fun q => q.1.odd) D.int lostOf (IT.of (IT_zip (A2 (E_var 5) (E_var 6)) (h.free 121)) (zipD_map _ _ _ _)) (fun q hq => ⟨_, _, G_2 (G_name 10) (G_name 11), by decide, .inr ⟨_, rfl, T.of (T_cmp (E_ixT (d := .str (kindS q.1.odd)) (E_var 10) E_int) E_str (eqS _ _)) (kind_odd _)⟩, fun _ => E_sub (E_ixT (d := .int q.1.width) (E_var 10) E_int) (E_var 11)⟩) (by omega))) (by rw [lost_odd])) ?_
    refine SS_set (x := .int (lost ps qs).2) 8 (E.of (E_sum h (E_lcc (l := (gaps ps).zip (keptW ps qs)) (gf := fun q => D.tup [gpD q.1, .int q.2]) [("_law_gap", 10), ("_law_k", 11)] (fun q => !q.1.odd) D.int lostOf (IT.of (IT_zip (A2 (E_var 5) (E_var 6)) (h.free 121)) (zipD_map _ _ _ _)) (fun q hq => ⟨_, _, G_2 (G_name 10) (G_name 11), by decide, .inr ⟨_, rfl, T.of (T_cmp (E_ixT (d := .str (kindS q.1.odd)) (E_var 10) E_int) E_str (eqS _ _)) (kind_even _)⟩, fun _ => E_sub (E_ixT (d := .int q.1.width) (E_var 10) E_int) (E_var 11)⟩) (by omega))) (by rw [lost_even])) ?_
    obtain ⟨b, c, d, l, et, hd⟩ := told_third ps qs
    have st := Sh_told ps qs
    rw [et] at st
    have sd : Sh 0 (labD d.lab) := by
      cases st with
      | lst f =>
        cases f (bdD d) (by simp) with
        | tup f2 => exact f2 (labD d.lab) (by simp)
    have sl : Sh 2 (.lst [bdD d]) := .lst fun x hx => by
      rw [List.mem_singleton] at hx; subst hx
      cases st with
      | lst f => exact f (bdD d) (by simp)
    have em : PyData.eqv (dP (labD d.lab)) (dP (.str "moved")) = decide (vsum ps % 2 = 0) := by
      rcases hd with ⟨o, e⟩ | ⟨o, ⟨i, e⟩ | e⟩
      · rw [e, decide_eq_true o]; decide +kernel
      · rw [e, decide_eq_false o]; rfl
      · rw [e, decide_eq_false o]; decide +kernel
    refine SS_if (T.of (c := decide (vsum ps % 2 = 0)) (T_and (c := true) (T.of (T_cmp (E_slL (i := some ((2 : Nat) : Int)) (j := some ((3 : Nat) : Int)) (E_var 2) (.inr ⟨_, _, rfl, rfl, E_int⟩) (.inr ⟨_, _, rfl, rfl, E_int⟩)) (E_lst A_nil) (neD (n := 2) ?_ (.lst (n := 0) fun _ k => by simp at k) (eqv_nil _))) ?_) fun _ => T_cmp (E_ixT (d := labD d.lab) (ds := [labD d.lab, optI d.lo, optI d.hi]) (E_ixL (d := bdD d) (E_var 2) E_int ?_) E_int) E_str (eqD sd (.str (n := 0) (by decide +kernel)) em)) (Bool.true_and _)) (fun hp => ?_) fun hp => ?_
    · rw [et]
      show Sh 2 (.lst (cutL (bdD b :: bdD c :: bdD d :: l.map bdD) _ _))
      rw [cutL_23]; exact sl
    · rw [et]
      show (!(cutL (bdD b :: bdD c :: bdD d :: l.map bdD) (some ((2 : Nat) : Int)) (some ((3 : Nat) : Int))).isEmpty) = true
      rw [cutL_23]; rfl
    · rw [et]; exact atI_nat (n := 2) rfl
    · refine SS_ret (E_lst (A1 (E_tup (A2 (E_var 7) (E_var 7))))) ?_
      show _ = leadN ps qs
      rw [← fin]; unfold leadB; rw [if_pos hp]
    · refine SS_nil (SS_ret (E_lst (A1 (E_tup (A2 (E_add (E_var 8) (E_var 3)) (E_add (E_var 8) (E_minL h m1 (fun y hy => by rw [← m2]; exact minOf_le hy) (E_var 4))))))) ?_)
      show _ = leadN ps qs
      rw [← fin]; unfold leadB; rw [if_neg (by rw [hp]; decide)]
end
end OC
set_option maxHeartbeats 4000000
/-! The law's own walks of scripts; what it pays. -/
namespace OC
open PySem PySem.Spec PyProof.Rows L2
def R_walkL : Rel := fun ds P => ∃ ps sc, Good ps ∧ ScOk ps sc ∧ (∀ q ∈ sc, q.2 < 400) ∧ ds = [peopleD ps, scD sc] ∧ P = fun x => x = .tup [peopleD (after ps sc), .int (callsOf sc)]
def wkStep (s : List Per × Int) (q : Row) : List Per × Int := (goRow s.1 q, s.2 + q.2)
theorem wk_fold : ∀ (l : List Row) (s : List Per × Int), l.foldl wkStep s = (after s.1 l, s.2 + callsOf l)
  | [], s => by
    have : callsOf [] = 0 := rfl
    rw [this, Int.add_zero]; rfl
  | q :: l, s => by
    rw [List.foldl_cons, wk_fold l, callsOf_cons]
    show (after (goRow s.1 q) l, s.2 + q.2 + callsOf l) = (after (goRow s.1 q) l, s.2 + (q.2 + callsOf l))
    rw [Int.add_assoc]
def lapStep (n : Str) (s : List Per × Int) (_ : Nat) : List Per × Int := (drawn s.1 (plc s.1 n) 1, s.2 + 1)
theorem lap_fold {ps : List Per} {n : Str} (gd : Good ps) (hn : n ∈ ps.map (·.nm)) (m : Int) : ∀ l : List Nat, l.foldl (lapStep n) (ps, m) = (drawn ps (plc ps n) l.length, m + l.length) := by
  intro l
  have key : ∀ (l : List Nat) (k : Nat), l.foldl (lapStep n) (drawn ps (plc ps n) k, m + k) = (drawn ps (plc ps n) (k + l.length : Nat), m + (k + l.length : Nat)) := by
    intro l
    induction l with
    | nil => intro k; rfl
    | cons x l ih =>
      intro k
      rw [List.foldl_cons]
      have e : lapStep n (drawn ps (plc ps n) k, m + k) x = (drawn ps (plc ps n) ((k + 1 : Nat) : Int), m + ((k + 1 : Nat) : Int)) := by
        unfold lapStep
        simp only
        rw [plc_drawn gd hn, drawI_self (by omega), drawn_add (by omega) (by omega)]
        congr 1; omega
      rw [e, ih (k + 1), List.length_cons]
      have e2 : k + 1 + l.length = k + (l.length + 1) := by omega
      rw [e2]
  have := key l 0
  simp only [Nat.zero_add] at this
  rw [show ((0 : Nat) : Int) = 0 from rfl, drawn_zero, Int.add_zero] at this
  exact this
section
variable {M : Mo} (h : Hd M)
include h
theorem w_walked_L : FnG M 2 "_law_walked" false R_walkL := by
  refine h.fnG 108 95 fs_walked_L bn_walked_L (by rintro ds P ⟨ps, sc, _, _, _, rfl, rfl⟩; rfl) ?_
  rintro Z ds P - ⟨ps, sc, gd, ok, h4, rfl, rfl⟩
  refine SS_set (x := .int 0) 2 E_int ?_
  refine SS_fold (l := sc) (gf := rowD) (IT_list (E_var 1)) (fun s : List Per × Int => [some (.d (peopleD s.1)), some (.d (scD sc)), some (.d (.int s.2)), none, none, none, none]) wkStep (ps, 0) Le.rfl' ?_ ?_
  · rintro s pre q post e1 e2
    rw [wk_fold] at e2
    have ok2 := ok
    rw [e1, ScOk_app] at ok2
    have e21 : s.1 = after ps pre := by rw [e2]
    have gs : Good s.1 := by rw [e21]; exact after_good _ gd
    obtain ⟨hn, ht, so⟩ : rowOk s.1 q := by rw [e21]; exact ok2.2.1
    have q4 := h4 q (by rw [e1]; simp)
    have qn : ((q.2.toNat : Nat) : Int) = q.2 := by omega
    refine ⟨_, _, G_2 (G_name 3) (G_name 4), ?_⟩
    refine SS_ifF (T_not (T.of (c := true) (T_chain E_int (E_var 4) (fun _ => E_int) (ltI _ _) fun _ => ltI _ _) (by rw [decide_eq_true (show 0 < q.2 by omega), decide_eq_true (show q.2 < 400 from q4)]; rfl))) ?_
    refine SS_fold (l := List.range q.2.toNat) (gf := fun k => D.int (k : Int)) (IT_range (n := q.2.toNat) (E.of (E_var 4) (by rw [qn])) (by omega) (h.free 114)) (fun t : List Per × Int => [some (.d (peopleD t.1)), some (.d (scD sc)), some (.d (.int t.2)), some (.d (.str q.1)), some (.d (.int q.2)), none, none]) (lapStep q.1) (s.1, s.2) Le.rfl' ?_ ?_
    · rintro t pre2 k post2 f1 f2
      rw [lap_fold gs hn] at f2
      have hk : pre2.length < q.2.toNat := by
        have := congrArg List.length f1
        simp at this; omega
      have cc := so pre2.length (by omega) (by omega)
      have f21 : t.1 = drawn s.1 (plc s.1 q.1) pre2.length := by rw [f2]
      rw [← f21] at cc
      have gt : Good t.1 := by rw [f21]; exact drawn_good gs _ _
      have hnt : q.1 ∈ t.1.map (·.nm) := by rw [f21, drawn_names]; exact hn
      have tg := cc_apart cc
      have l2 : ¬ (stops t.1).length < 2 := of_decide_eq_false tg
      have ld : loudAt t.1 (plc t.1 q.1) = true := by unfold canCall at cc; rw [Bool.and_eq_true] at cc; exact cc.1
      refine ⟨_, _, G_name 5, ?_⟩
      refine SS_set (x := .int (plc t.1 q.1)) 6 (EP_call (w_place_L h) (A2 (E_var 0) (E_var 3)) ⟨_, _, gt, hnt, rfl, rfl⟩) ?_
      refine SS_ifF (T_or (c' := false) (T.of (c := false) (T_cmp (E_lenL h (EP_call (w_stops_L h) (A1 (E_var 0)) ⟨_, gt, rfl, rfl⟩)) E_int (ltI _ _)) (by rw [List.length_map]; exact decide_eq_false (by omega))) fun _ => T.of (T_not (T_val (EP_call (w_is_loud_L h) (A2 (E_var 0) (E_var 6)) ⟨_, _, gt, rfl, rfl⟩))) (by rw [ld]; rfl)) ?_
      refine SS_par (i := 0) (j := 2) (AL_cons (E.l (EP_call (w_called_L h) (A2 (E_var 0) (E_var 6)) ⟨_, _, gt, rfl, rfl⟩)) (AL_cons (E_add (E_var 2) E_int).l AL_nil)) ?_
      refine SS_nil ?_
      exact Le.keep (Le.keep (Le.keep (Le.keep (Le.keep (Le.drop (Le.drop Le.nil))))))
    · refine SS_nil ?_
      rw [lap_fold gs hn, List.length_range, qn]
      show Le [some (.d (peopleD (goRow s.1 q))), _, some (.d (.int (s.2 + q.2))), none, none, none, none] _
      exact Le.keep (Le.keep (Le.keep (Le.drop (Le.drop (Le.drop (Le.drop Le.nil))))))
  · rw [wk_fold]
    refine SS_ret (E_tup (A2 (E_var 0) (E_var 2))) ?_
    show _ = D.tup [peopleD (after ps sc), .int (callsOf sc)]
    rw [Int.zero_add]
end
end OC
set_option maxHeartbeats 4000000
/-! What the law pays. -/
namespace OC
open PySem PySem.Spec PyProof.Rows L2
def payStep (p : Prc) (n : Str) (s : List Per × Int) (_ : Nat) : List Per × Int := (drawn s.1 (plc s.1 n) 1, s.2 + prOf p (kindAt s.1 n))
def payRow (p : Prc) (s : List Per × Int) (q : Row) : List Per × Int := (List.range q.2.toNat).foldl (payStep p q.1) s
def paidF (ps : List Per) (sc : List Row) (p : Prc) : Int := (sc.foldl (payRow p) (ps, 0)).2
theorem pay_fst (p : Prc) (n : Str) : ∀ (l : List Nat) (s : List Per × Int) (m : Int), (l.foldl (payStep p n) s).1 = (l.foldl (lapStep n) (s.1, m)).1
  | [], s, m => rfl
  | x :: l, s, m => by
    rw [List.foldl_cons, List.foldl_cons]
    exact pay_fst p n l (payStep p n s x) (m + 1)
theorem pay_row {ps : List Per} (gd : Good ps) (p : Prc) (q : Row) (hn : q.1 ∈ ps.map (·.nm)) (hq : 1 ≤ q.2) (a : Int) : (payRow p (ps, a) q).1 = goRow ps q := by
  unfold payRow
  rw [pay_fst p q.1 _ (ps, a) 0, lap_fold gd hn, List.length_range]
  show drawn ps (plc ps q.1) ((q.2.toNat : Nat) : Int) = drawn ps (plc ps q.1) q.2
  congr 1; omega
theorem pay_prefix {ps : List Per} (gd : Good ps) (p : Prc) (n : Str) (hn : n ∈ ps.map (·.nm)) (a : Int) (l : List Nat) : (l.foldl (payStep p n) (ps, a)).1 = drawn ps (plc ps n) l.length := by
  rw [pay_fst p n _ (ps, a) 0, lap_fold gd hn]
/-- a row of one kind -/
theorem pay_kind {ps : List Per} (gd : Good ps) (p : Prc) (q : Row) (k : Int) (hn : q.1 ∈ ps.map (·.nm)) (hq : 1 ≤ q.2) (kr : KindRow ps q k) (a : Int) : payRow p (ps, a) q = (goRow ps q, a + prOf p k * q.2) := by
  have key : ∀ n : Nat, (n : Int) ≤ q.2 → ((List.range n).foldl (payStep p q.1) (ps, a)).2 = a + prOf p k * n := by
    intro n
    induction n with
    | zero => intro _; simp
    | succ n ih =>
      intro hle
      rw [List.range_succ, List.foldl_append, List.foldl_cons, List.foldl_nil]
      have e := pay_prefix gd p q.1 hn a (List.range n)
      rw [List.length_range] at e
      show ((List.range n).foldl (payStep p q.1) (ps, a)).2 + prOf p (kindAt ((List.range n).foldl (payStep p q.1) (ps, a)).1 q.1) = _
      rw [ih (by omega), e, kr n (by omega) (by omega)]
      have : prOf p k * ((n + 1 : Nat) : Int) = prOf p k * n + prOf p k := by
        have e : ((n + 1 : Nat) : Int) = n + 1 := by omega
        rw [e, Int.mul_add, Int.mul_one]
      rw [this]; omega
  have e1 := pay_row gd p q hn hq a
  have e2 := key q.2.toNat (by omega)
  have qn : ((q.2.toNat : Nat) : Int) = q.2 := by omega
  rw [qn] at e2
  exact Prod.ext e1 e2
theorem pay_rows (p : Prc) (k : Int) : ∀ (l : List Row) {ps : List Per} (a : Int), Good ps → ScOk ps l → KindRows ps l k → l.foldl (payRow p) (ps, a) = (after ps l, a + prOf p k * callsOf l)
  | [], ps, a, _, _, _ => by
    have : callsOf [] = 0 := rfl
    rw [this, Int.mul_zero, Int.add_zero]; rfl
  | q :: l, ps, a, gd, ok, kr => by
    rw [List.foldl_cons, pay_kind gd p q k ok.1.1 ok.1.2.1 kr.1, pay_rows p k l (ps := goRow ps q) _ (drawn_good gd _ _) ok.2 kr.2, callsOf_cons, Int.mul_add]
    show (after (goRow ps q) l, _) = (after (goRow ps q) l, _)
    congr 1; omega
theorem Made.paid {ps qs : List Per} {sc : List Row} {l m r : Int} (gd : Good ps) (h : Made ps qs sc l m r) (p : Prc) : paidF ps sc p = l * p.p0 + m * p.p1 + r * p.p2 := by
  obtain ⟨r1, r2, r3, e, a1, a2, a3, b2, b3, c1, c2, c3⟩ := h.parts
  have ok := h.ok
  rw [e] at ok
  obtain ⟨o1, o2⟩ := (ScOk_app _ _ _).mp ok
  obtain ⟨o2, o3⟩ := (ScOk_app _ _ _).mp o2
  unfold paidF
  rw [after_app] at a3
  rw [e, List.foldl_append, List.foldl_append, pay_rows p 1 r1 0 gd o1 a1, pay_rows p 0 r2 _ (after_good _ gd) o2 a2, pay_rows p 2 r3 _ (after_good _ (after_good _ gd)) o3 a3, c1, c2, c3]
  have q1 : prOf p 1 = p.p1 := rfl
  have q0 : prOf p 0 = p.p0 := rfl
  have q2 : prOf p 2 = p.p2 := rfl
  rw [q1, q0, q2, Int.mul_comm p.p1, Int.mul_comm p.p0, Int.mul_comm p.p2]
  show 0 + m * p.p1 + l * p.p0 + r * p.p2 = _
  omega
def R_paidL : Rel := fun ds P => ∃ ps sc p, Good ps ∧ ScOk ps sc ∧ (∀ q ∈ sc, q.2 < 400) ∧ ds = [peopleD ps, scD sc, prD p] ∧ P = fun x => x = .int (paidF ps sc p)
theorem pay_after (p : Prc) : ∀ (l : List Row) {ps : List Per} (a : Int), Good ps → ScOk ps l → (l.foldl (payRow p) (ps, a)).1 = after ps l
  | [], ps, a, _, _ => rfl
  | q :: l, ps, a, gd, ok => by
    have e := pay_row gd p q ok.1.1 ok.1.2.1 a
    rw [List.foldl_cons]
    have e2 : payRow p (ps, a) q = (goRow ps q, (payRow p (ps, a) q).2) := Prod.ext e rfl
    rw [e2, pay_after p l (ps := goRow ps q) _ (drawn_good gd _ _) ok.2]; rfl
theorem kindAt_ok (ps : List Per) (n : Str) : kindAt ps n = 0 ∨ kindAt ps n = 1 ∨ kindAt ps n = 2 := by
  unfold kindAt; split
  · exact .inl rfl
  · split
    · exact .inr (.inr rfl)
    · exact .inr (.inl rfl)
section
variable {M : Mo} (h : Hd M)
include h
theorem w_paid_L : FnG M 2 "_law_paid" false R_paidL := by
  refine h.fnG 111 98 fs_paid_L bn_paid_L (by rintro ds P ⟨ps, sc, p, _, _, _, rfl, rfl⟩; rfl) ?_
  rintro Z ds P - ⟨ps, sc, p, gd, ok, h4, rfl, rfl⟩
  refine SS_set (x := .int 0) 3 E_int ?_
  refine SS_fold (l := sc) (gf := rowD) (IT_list (E_var 1)) (fun s : List Per × Int => [some (.d (peopleD s.1)), some (.d (scD sc)), some (.d (prD p)), some (.d (.int s.2)), none, none, none, none, none]) (payRow p) (ps, 0) Le.rfl' ?_ ?_
  · rintro s pre q post e1 e2
    have ok2 := ok
    rw [e1, ScOk_app] at ok2
    have e21 : s.1 = after ps pre := by rw [e2]; exact pay_after p pre 0 gd ok2.1
    have gs : Good s.1 := by rw [e21]; exact after_good _ gd
    obtain ⟨hn, ht, so⟩ : rowOk s.1 q := by rw [e21]; exact ok2.2.1
    have q4 := h4 q (by rw [e1]; simp)
    have qn : ((q.2.toNat : Nat) : Int) = q.2 := by omega
    refine ⟨_, _, G_2 (G_name 4) (G_name 5), ?_⟩
    refine SS_fold (l := List.range q.2.toNat) (gf := fun k => D.int (k : Int)) (IT_range (n := q.2.toNat) (E.of (E_var 5) (by rw [qn])) (by omega) (h.free 114)) (fun t : List Per × Int => [some (.d (peopleD t.1)), some (.d (scD sc)), some (.d (prD p)), some (.d (.int t.2)), some (.d (.str q.1)), some (.d (.int q.2)), none, none, none]) (payStep p q.1) s Le.rfl' ?_ ?_
    · rintro t pre2 k post2 f1 f2
      have f21 : t.1 = drawn s.1 (plc s.1 q.1) pre2.length := by rw [f2]; exact pay_prefix gs p q.1 hn s.2 pre2
      have gt : Good t.1 := by rw [f21]; exact drawn_good gs _ _
      have hnt : q.1 ∈ t.1.map (·.nm) := by rw [f21, drawn_names]; exact hn
      obtain ⟨e0, e1⟩ := stops_ends gt
      refine ⟨_, _, G_name 6, ?_⟩
      refine SS_par (i := 7) (j := 8) (AL_cons (E.l (EP_call (w_stops_L h) (A1 (E_var 0)) ⟨_, gt, rfl, rfl⟩)) (AL_cons (l := .d (.int (plc t.1 q.1))) (E.l (EP_call (w_place_L h) (A2 (E_var 0) (E_var 4)) ⟨_, _, gt, hnt, rfl, rfl⟩)) AL_nil)) ?_
      refine SS_set (x := .int (t.2 + prOf p (kindAt t.1 q.1))) 3 (E_add (E_var 3) (E_ixL (i := kindAt t.1 q.1) (d := .int (prOf p (kindAt t.1 q.1))) (E_var 2) (E.of (E_if (T_cmp (E_var 8) (E_ixL (d := .int ((stops t.1).headD 0)) (ds := (stops t.1).map D.int) (E_var 7) E_int (atI_zero (by rw [List.getElem?_map, e0]; rfl))) (eqI _ _)) (fun _ => E_int) (fun _ => E_if (T_cmp (E_var 8) (E_ixL (d := .int ((stops t.1).getLastD 0)) (ds := (stops t.1).map D.int) (E_var 7) (E_neg E_int) (atI_last (by rw [List.getLast?_map, e1]; rfl))) (eqI _ _)) (fun _ => E_int) (fun _ => E_int))) ?_) ?_)) ?_
      · unfold kindAt
        by_cases k1 : plc t.1 q.1 = (stops t.1).headD 0
        · rw [decide_eq_true k1, if_pos rfl, if_pos k1]
        · rw [decide_eq_false k1, if_neg (by decide), if_neg k1]
          by_cases k2 : plc t.1 q.1 = (stops t.1).getLastD 0
          · rw [decide_eq_true k2, if_pos rfl, if_pos k2]
          · rw [decide_eq_false k2, if_neg (by decide), if_neg k2]
      · rcases kindAt_ok t.1 q.1 with e | e | e <;> rw [e] <;> rfl
      refine SS_set (x := peopleD (drawn t.1 (plc t.1 q.1) 1)) 0 (EP_call (w_called_L h) (A2 (E_var 0) (E_var 8)) ⟨_, _, gt, rfl, rfl⟩) ?_
      refine SS_nil ?_
      exact Le.keep (Le.keep (Le.keep (Le.keep (Le.keep (Le.keep (Le.drop (Le.drop (Le.drop Le.nil))))))))
    · refine SS_nil ?_
      exact Le.keep (Le.keep (Le.keep (Le.keep (Le.drop (Le.drop (Le.drop (Le.drop (Le.drop Le.nil))))))))
  · exact SS_ret (E_var 3) rfl
end
end OC
set_option maxHeartbeats 4000000
/-! The law's source: reading, writing, drawing on. -/
namespace OC
open PySem PySem.Spec PyProof.Rows L2
abbrev srcK (c : Addr) (left mixed turn : Int) : List (Key × V) := [(.inr "cells", .ref c), (.inr "left", .int left), (.inr "mixed", .int mixed), (.inr "turn", .int turn)]
/-- the source as it is -/
structure SrcAt (Z : Sc) (H : Hp) (cs : List Int) (left mixed turn : Int) : Prop where
  ne : Z.s ≠ Z.c
  l0 : 0 ≤ left
  m0 : 0 ≤ mixed
  c0 : ∀ n ∈ cs, 0 ≤ n
  m1 : mixed < 2147483647
  hs : H Z.s = some (.dK (srcK Z.c left mixed turn))
  hc : H Z.c = some (.lst (cs.map V.int))
theorem SrcOk.at {Z : Sc} {H : Hp} (h : SrcOk Z H) (on : Z.on = true) : ∃ cs l m t, SrcAt Z H cs l m t := by
  obtain ⟨a, cs, l, m, t, b, c, d, e, f, g⟩ := h on
  exact ⟨cs, l, m, t, a, b, c, d, e, f, g⟩
theorem SrcAt.ok {Z : Sc} {H : Hp} {cs : List Int} {l m t : Int} (h : SrcAt Z H cs l m t) : SrcOk Z H := fun _ => ⟨h.ne, cs, l, m, t, h.l0, h.m0, h.c0, h.m1, h.hs, h.hc⟩
theorem RS.srcB {C : Addr} {Z : Sc} {B0 H0 B H : Hp} {r : Rho} {σ : L2.St} (R : RS C Z B0 H0 B H r σ) (on : Z.on = true) : B Z.s = none ∧ B Z.c = none := by
  obtain ⟨cs, l, m, t, S⟩ := R.s0.at on
  obtain ⟨b1, b2⟩ := R.hz on
  exact ⟨R.fr.hid _ _ S.hs b1, R.fr.hid _ _ S.hc b2⟩
theorem Fr.src' {Z : Sc} {B H H' : Hp} (on : Z.on = true) (ex : Ex B H) (b : B Z.s = none ∧ B Z.c = none) (ok : SrcOk Z H') (e : ∀ a, a ≠ Z.s → a ≠ Z.c → H' a = H a) : Fr Z B H B H' := by
  refine ⟨Ex.rfl', fun a o h z => ?_, fun a o h => ?_, fun a o _ n => n, ok⟩
  · rw [e a (z on).1 (z on).2]; exact h
  · rw [e a (fun q => by rw [q, b.1] at h; cases h) (fun q => by rw [q, b.2] at h; cases h)]; exact ex a o h
theorem SrcAt.left {Z : Sc} {H : Hp} {cs : List Int} {l m t v : Int} (h : SrcAt Z H cs l m t) (hv : 0 ≤ v) : SrcAt Z (upd H Z.s (.dK (putK (srcK Z.c l m t) (Sum.inr "left" : Key) (.int v)))) cs v m t :=
  ⟨h.ne, hv, h.m0, h.c0, h.m1, by rw [upd_same]; congr 2, by rw [upd_ne h.ne.symm]; exact h.hc⟩
theorem SrcAt.turn {Z : Sc} {H : Hp} {cs : List Int} {l m t v : Int} (h : SrcAt Z H cs l m t) : SrcAt Z (upd H Z.s (.dK (putK (srcK Z.c l m t) (Sum.inr "turn" : Key) (.int v)))) cs l m v :=
  ⟨h.ne, h.l0, h.m0, h.c0, h.m1, by rw [upd_same]; congr 2, by rw [upd_ne h.ne.symm]; exact h.hc⟩
theorem SrcAt.mixed {Z : Sc} {H : Hp} {cs : List Int} {l m t v : Int} (h : SrcAt Z H cs l m t) (hv : 0 ≤ v) (h1 : v < 2147483647) : SrcAt Z (upd H Z.s (.dK (putK (srcK Z.c l m t) (Sum.inr "mixed" : Key) (.int v)))) cs l v t :=
  ⟨h.ne, h.l0, hv, h.c0, h1, by rw [upd_same]; congr 2, by rw [upd_ne h.ne.symm]; exact h.hc⟩
theorem SrcAt.pop {Z : Sc} {H : Hp} {cs : List Int} {l m t : Int} (h : SrcAt Z H cs l m t) : SrcAt Z (upd H Z.c (.lst (cs.map V.int).dropLast)) cs.dropLast l m t :=
  ⟨h.ne, h.l0, h.m0, fun n hn => h.c0 n (List.dropLast_subset _ hn), h.m1, by rw [upd_ne h.ne]; exact h.hs, by rw [upd_same, List.map_dropLast]⟩
section
variable {M : Mo} {g : G} {Z : Sc} {e : Expr} {r : Rho} {P : D → Prop} {pos : Pos} {rest : List Stmt} {O : Out}
/-- source[key], an int -/
theorem EP_srcGet (i : Nat) {nm key : Str} {p p2 : Pos} {j : Nat} (on : Z.on = true) (sel : Int → Int → Int → Int) (get : ∀ c l m t, valV (srcK c l m t) (Sum.inr key : Key) = some (.int (sel l m t))) (hP : ∀ l m t, 0 ≤ l → 0 ≤ m → m < 2147483647 → P (.int (sel l m t)))
    (hr : r[i]? = some (some (.d .src)) := by rfl) (hN : g.N[i]? = some nm := by rfl) (hv : Vis g.sc nm := by first | exact Or.inl rfl | exact Or.inr (Or.inl rfl) | exact Or.inr (Or.inr rfl))
    (hd : (nm == ("__debug__" : Str)) = false := by decide) (hcd : (nm == ("__classdict__" : Str)) = false := by decide) : EP M g Z (.Subscript (.Name nm p) (.Constant (.str key) j p2) pos) r P := fun X ok B0 H0 B H σ R Q q => by
  refine ⟨_, pe_dget (hu_of ok.room) (pe_var (i := i) (by rw [ok.N]; exact hN) (by rw [ok.sc]; exact hv) hd hcd) pe_str (fun _ _ => rfl), ?_⟩
  obtain ⟨v, e1, h⟩ := R.at_ i _ hr
  cases h
  obtain ⟨cs, l, m, t, S⟩ := R.src.at on
  refine ⟨_, e1, Z.s, .int (sel l m t), rfl, ?_, q _ _ B H (hP l m t S.l0 S.m0 S.m1) (Fr.rfl' R.sB R.src) (.int _)⟩
  have := DGet.k (k := (Sum.inr key : Key)) S.hs
  rw [get] at this; exact this
/-- source[key] = an int -/
theorem SS_srcSet (i : Nat) {nm key : Str} {p p2 p' : Pos} {j : Nat} {Pe : Int → Prop} (on : Z.on = true) (h : EP M g Z e r fun d => ∃ v, d = .int v ∧ Pe v) (set : ∀ H cs l m t v, Pe v → SrcAt Z H cs l m t → ∃ cs' l' m' t', SrcAt Z (upd H Z.s (.dK (putK (srcK Z.c l m t) (Sum.inr key : Key) (.int v)))) cs' l' m' t') (k : SS M g Z rest r O)
    (hr : r[i]? = some (some (.d .src)) := by rfl) (hN : g.N[i]? = some nm := by rfl) (hv : Vis g.sc nm := by first | exact Or.inl rfl | exact Or.inr (Or.inl rfl) | exact Or.inr (Or.inr rfl))
    (hd : (nm == ("__debug__" : Str)) = false := by decide) (hcd : (nm == ("__classdict__" : Str)) = false := by decide)
    (hs : ∀ env : Env, env.scope = g.sc → swapsWith e (some (.Subscript (.Name nm p) (.Constant (.str key) j p2) p')) pos.line env = pure false := by intro _ _; rfl) : SS M g Z (.Assign [.Subscript (.Name nm p) (.Constant (.str key) j p2) p'] e pos :: rest) r O := SS_cons fun X ok B0 H0 B H σ R Dn o => by
  refine ⟨_, ps_dput (hu_of ok.room) (pe_var (i := i) (by rw [ok.N]; exact hN) (by rw [ok.sc]; exact hv) hd hcd) pe_str pe_w (hs _ ok.sc), ?_⟩
  refine h X ok B0 H0 B H σ R _ fun x v B1 H1 ⟨n, en, pn⟩ f1 r1 => ?_
  subst en; cases r1
  have R1 := R.step f1
  obtain ⟨v0, e0, h0⟩ := R1.at_ i _ hr
  cases h0
  obtain ⟨cs, l, m, t, S⟩ := R1.src.at on
  refine ⟨_, e0, Z.s, _, rfl, DPut.k (k := (Sum.inr key : Key)) S.hs (by show 4 < sizeLine; decide), ?_⟩
  obtain ⟨cs', l', m', t', S'⟩ := set H1 cs l m t n pn S
  exact o.nx r B1 _ σ k (R1.step (Fr.src' on R1.sB (R1.srcB on) S'.ok fun a a1 a2 => upd_ne a1)) f1.b
/-- the cells are drawn on -/
theorem SS_srcWhile (i i2 : Nat) {nm nm2 : Str} {many : Int} {p1 p2 p3 p4 p5 p6 p7 p8 p9 a1 a2 a3 a4 a5 a6 a7 b1 b2 b3 b4 b5 b6 b7 b8 b9 : Pos} {j1 j2 j3 j4 j5 j6 j7 : Nat} (on : Z.on = true) (hlen : M.mg "len" = none) (k : SS M g Z rest r O)
    (hr : r[i]? = some (some (.d .src)) := by rfl) (hr2 : r[i2]? = some (some (.d (.int many))) := by rfl) (hN : g.N[i]? = some nm := by rfl) (hN2 : g.N[i2]? = some nm2 := by rfl)
    (hv : Vis g.sc nm := by first | exact Or.inl rfl | exact Or.inr (Or.inl rfl) | exact Or.inr (Or.inr rfl)) (hv2 : Vis g.sc nm2 := by first | exact Or.inl rfl | exact Or.inr (Or.inl rfl) | exact Or.inr (Or.inr rfl))
    (hd : (nm == ("__debug__" : Str)) = false := by decide) (hcd : (nm == ("__classdict__" : Str)) = false := by decide) (hd2 : (nm2 == ("__debug__" : Str)) = false := by decide) (hcd2 : (nm2 == ("__classdict__" : Str)) = false := by decide)
    (hg : GlS g "len" := by rfl) (h3 : (b7.endLine == b8.line) = true := by rfl)
    (hb : ∀ env, attributeBase (.Subscript (.Name nm b4) (.Constant (.str "cells") j6 b5) b6) "pop" env (eval (.Subscript (.Name nm b4) (.Constant (.str "cells") j6 b5) b6) env) = eval (.Subscript (.Name nm b4) (.Constant (.str "cells") j6 b5) b6) env := by intro _; rfl)
    (hs : ∀ env : Env, env.scope = g.sc → swapsWith (.Call (.Attribute (.Subscript (.Name nm b4) (.Constant (.str "cells") j6 b5) b6) "pop" b7) [] [] b8) (some (.Subscript (.Name nm b1) (.Constant (.str "left") j7 b2) b3)) b9.line env = pure false := by intro _ _; rfl)
    (he : ∀ env, starEach [.Subscript (.Name nm a1) (.Constant (.str "cells") j4 a2) a3] env = (false, eval (.Subscript (.Name nm a1) (.Constant (.str "cells") j4 a2) a3) env) :: starEach [] env := by intro _; rfl) :
    SS M g Z (.While (.BoolOp .And [.Compare (.Name nm2 p1) [.Gt] [.Constant (.int 1) j1 p2] p3, .Compare (.Subscript (.Name nm p4) (.Constant (.str "left") j2 p5) p6) [.Lt] [.Constant (.int 2) j3 p7] p8, .Compare (.Call (.Name "len" p9) [.Subscript (.Name nm a1) (.Constant (.str "cells") j4 a2) a3] [] a4) [.Gt] [.Constant (.int 0) j5 a5] a6] a7)
      [.Assign [.Subscript (.Name nm b1) (.Constant (.str "left") j7 b2) b3] (.Call (.Attribute (.Subscript (.Name nm b4) (.Constant (.str "cells") j6 b5) b6) "pop" b7) [] [] b8) b9] [] pos :: rest) r O := SS_cons fun X ok B0 H0 B H σ R Dn o => by
  have vs : ∀ {p : Pos}, PE X (.Name nm p) _ := fun {p} => pe_var (i := i) (pos := p) (by rw [ok.N]; exact hN) (by rw [ok.sc]; exact hv) hd hcd
  have vm : ∀ {p : Pos}, PE X (.Name nm2 p) _ := fun {p} => pe_var (i := i2) (pos := p) (by rw [ok.N]; exact hN2) (by rw [ok.sc]; exact hv2) hd2 hcd2
  have hu := hu_of ok.room
  refine ⟨_, ps_while (by rw [ok.xe]; exact PassesOwn.never) (PW.pt (pw_and (pt_cmpR op_gt vm pe_int (by rfl)) (pw_and (pt_cmpR op_lt (pe_dget hu vs pe_str (fun _ _ => rfl)) pe_int (by rfl)) (pw_and1 (pt_cmpR op_gt (pe_callB call_len_seq (ok.gl hg) (by rw [ok.mg]; exact hlen) (by decide +kernel) (pa_cons (pe_dget hu vs pe_str (fun _ _ => rfl)) pa_nil (he _)) (by decide) (by decide) (he _) (by rfl)) pe_int (by rfl))))))
    (pss_cons (ps_dput hu vs pe_str (pe_bm0 F.plainAttrs_list F.slot_list_pop F.type_list_pop mt_pop (pe_dget hu vs pe_str (fun _ _ => rfl)) (hb _) h3) (hs _ ok.sc)) pss_nil), ?_⟩
  obtain ⟨cs0, l0, m0, t0, S0⟩ := R.src.at on
  refine ⟨fun n σ' H' => σ' = σ ∧ ∃ cs l m t, n = cs.length ∧ SrcAt Z H' cs l m t ∧ RS M.C Z B0 H0 B H' r σ, ⟨cs0.length, rfl, cs0, l0, m0, t0, rfl, S0, R⟩, ?_⟩
  rintro n σ' H' ⟨rfl, cs, l, m, t, rfl, S, R'⟩
  obtain ⟨v1, e1, h1⟩ := R'.at_ i _ hr
  cases h1
  obtain ⟨v2, e2, h2⟩ := R'.at_ i2 _ hr2
  cases h2
  have gl : DGet H' Z.s (.str "left") (some (.int l)) := by
    have := DGet.k (k := (Sum.inr "left" : Key)) S.hs
    rw [show valV (srcK Z.c l m t) (Sum.inr "left" : Key) = some (.int l) from rfl] at this; exact this
  have gc : DGet H' Z.s (.str "cells") (some (.ref Z.c)) := by
    have := DGet.k (k := (Sum.inr "cells" : Key)) S.hs
    rw [show valV (srcK Z.c l m t) (Sum.inr "cells" : Key) = some (.ref Z.c) from rfl] at this; exact this
  have stop : Dn.nx σ' H' := o.nx r B H' σ' k R' Ex.rfl'
  refine ⟨_, e2, many, 1, rfl, rfl, _, rfl, ?_⟩
  by_cases c1 : (1 : Int) < many
  · rw [decide_eq_true c1]
    refine iteT ⟨_, e1, Z.s, _, rfl, gl, l, 2, rfl, rfl, _, rfl, ?_⟩
    by_cases c2 : l < 2
    · rw [decide_eq_true c2]
      refine iteT ⟨_, e1, Z.s, _, rfl, gc, Z.c, _, rfl, .inl (SqL.of S.hc), _, 0, rfl, rfl, _, rfl, ?_⟩
      by_cases c3 : (0 : Int) < ((cs.map V.int).length : Int)
      · rw [decide_eq_true c3]
        refine iteT ?_
        rw [List.length_map] at c3
        have cne : cs ≠ [] := fun z => by rw [z] at c3; simp at c3
        have hlast : (cs.map V.int)[(cs.map V.int).length - 1]? = some (.int (cs.getLast cne)) := by
          rw [List.getElem?_map, List.length_map, List.getLast_eq_getElem]
          rw [List.getElem?_eq_getElem (by omega)]; rfl
        refine ⟨fun σ2 H2 => ∃ m', m' < cs.length ∧ (σ2 = σ' ∧ ∃ cs l m t, m' = cs.length ∧ SrcAt Z H2 cs l m t ∧ RS M.C Z B0 H0 B H2 r σ'), fun σ2 H2 q => q, ?_⟩
        have bB := R'.srcB on
        have S1 := S.pop
        have R1 : RS M.C Z B0 H0 B (upd H' Z.c (.lst (cs.map V.int).dropLast)) r σ' := R'.step (Fr.src' on R'.sB bB S1.ok fun a a1 a2 => upd_ne a2)
        refine ⟨_, e1, Z.s, _, rfl, gc, .inl ⟨rfl, _, SqL.of S.hc⟩, Z.c, _, _, rfl, rfl, S.hc, hlast, ?_⟩
        refine ⟨_, e1, Z.s, _, rfl, DPut.k (k := (Sum.inr "left" : Key)) S1.hs (by show 4 < sizeLine; decide), ?_⟩
        have S2 := S1.left (v := cs.getLast cne) (S.c0 _ (List.getLast_mem cne))
        refine ⟨cs.dropLast.length, by rw [List.length_dropLast]; omega, rfl, cs.dropLast, _, _, _, rfl, S2, R1.step (Fr.src' on R1.sB bB S2.ok fun a a1 a2 => upd_ne a1)⟩
      · rw [decide_eq_false c3]; exact iteF stop
    · rw [decide_eq_false c2]; exact iteF (iteF stop)
  · rw [decide_eq_false c1]; exact iteF (iteF stop)
end
end OC
set_option maxHeartbeats 4000000
/-! The law draws. -/
namespace OC
open PySem PySem.Spec PyProof.Rows L2
def IntP (Pe : Int → Prop) : D → Prop := fun d => ∃ v, d = .int v ∧ Pe v
section
variable {M : Mo} {g : G} {Z : Sc} {a b e : Expr} {es : List Expr} {r : Rho} {pos p : Pos} {Pa Pb Pe : Int → Prop}
theorem EP_intP (h : Hd M) (ha : EP M g Z a r (IntP Pe)) (hg : GlS g "int" := by rfl) (hs : ∀ env, starEach [a] env = (false, eval a env) :: starEach [] env := by intro _; rfl) : EP M g Z (.Call (.Name "int" p) [a] [] pos) r (IntP Pe) := fun X ok B0 H0 B H σ R Q q => by
  refine ⟨_, pe_callTy (T := "int") cl_w (ok.gl hg) (by rw [ok.mg]; exact h.free 108) (by decide +kernel) (pa_cons pe_w pa_nil (hs _)) (by decide) (by decide) (hs _) (by rfl), ?_⟩
  refine ha X ok B0 H0 B H σ R _ fun x v B1 H1 ⟨n, en, pn⟩ f1 r1 => ?_
  subst en
  exact clInt n X ok B1 H1 [v] f1.s f1.src (.cons r1 .nil) Q fun w B2 H2 f2 r2 => q _ _ B2 H2 ⟨n, rfl, pn⟩ (f1.tr f2 R.src) r2
theorem EP_add2 {Pc : Int → Prop} (ha : EP M g Z a r (IntP Pa)) (hb : EP M g Z b r (IntP Pb)) (hc : ∀ i j, Pa i → Pb j → Pc (i + j)) : EP M g Z (.BinOp a .Add b pos) r (IntP Pc) := EP_op ha hb fun x y ⟨i, ei, pi⟩ ⟨j, ej, pj⟩ => ⟨_, ⟨i + j, rfl, hc i j pi pj⟩, by rw [ei, ej]; exact addI i j⟩
theorem EP_mul2 {Pc : Int → Prop} (ha : EP M g Z a r (IntP Pa)) (hb : EP M g Z b r (IntP Pb)) (hc : ∀ i j, Pa i → Pb j → CMul i j ∧ Pc (i * j)) : EP M g Z (.BinOp a .Mult b pos) r (IntP Pc) := EP_op ha hb fun x y ⟨i, ei, pi⟩ ⟨j, ej, pj⟩ => ⟨_, ⟨i * j, rfl, (hc i j pi pj).2⟩, by rw [ei, ej]; exact mulI i j (hc i j pi pj).1⟩
theorem EP_mod2 {Pc : Int → Prop} (ha : EP M g Z a r (IntP Pa)) (hb : EP M g Z b r (IntP Pb)) (hc : ∀ i j, Pa i → Pb j → 0 < j ∧ Pc (i % j)) : EP M g Z (.BinOp a .Mod b pos) r (IntP Pc) := EP_op ha hb fun x y ⟨i, ei, pi⟩ ⟨j, ej, pj⟩ => ⟨_, ⟨i % j, rfl, (hc i j pi pj).2⟩, by rw [ei, ej]; exact modI i j (hc i j pi pj).1⟩
theorem E.ip {i : Int} (h : E M g Z e r (.int i)) (k : Pe i) : EP M g Z e r (IntP Pe) := h.imp fun _ q => ⟨i, q, k⟩
theorem EP.ip {Pc : Int → Prop} (h : EP M g Z e r (IntP Pe)) (k : ∀ i, Pe i → Pc i) : EP M g Z e r (IntP Pc) := h.imp fun _ ⟨i, q, z⟩ => ⟨i, q, k i z⟩
end
def R_pick : Rel := fun ds P => ∃ many : Int, 1 ≤ many ∧ many < 1073741824 ∧ ds = [.src, .int many] ∧ P = IntP fun i => 0 ≤ i ∧ i < many
theorem R_pick.len : ∀ ds P, R_pick ds P → ds.length = 2 := by rintro ds P ⟨m, _, _, rfl, rfl⟩; rfl
def R_of : Rel := fun ds P => ∃ xs : List D, 1 ≤ xs.length ∧ xs.length < 1000000 ∧ ds = [.src, .lst xs] ∧ P = fun d => d ∈ xs
section
variable {M : Mo} (h : Hd M)
include h
theorem w_pick_L : FnG M 1 "_law_pick" true R_pick := by
  refine h.fnG 87 74 fs_pick_L bn_pick_L R_pick.len ?_
  rintro Z ds P on ⟨many, m1, m2, rfl, rfl⟩
  refine SS_srcWhile 0 1 on (h.free 110) ?_
  refine SS_setP 2 (EP_srcGet 0 (P := IntP fun v => 0 ≤ v) on (fun l _ _ => l) (fun _ _ _ _ => rfl) fun l m t l0 _ _ => ⟨l, rfl, l0⟩) ?_
  rintro x ⟨left, rfl, l0⟩
  refine SS_if (T_or (T_cmp (E_var 1) E_int (ltI _ _)) fun _ => T_cmp (E_var 2) E_int (gtI _ _)) (fun hp => ?_) fun hp => ?_
  · have emax : max 1 many = many := by omega
    refine SS_srcSet 0 (Pe := fun v => 0 ≤ v) on (E.ip (E_op (E_var 2) (E.of (E_max2 h E_int (E_var 1)) (by rw [emax])) (divI left many ⟨by omega, m2⟩)) ?_) (fun H cs l m t v hv S => ⟨_, _, _, _, S.left hv⟩) ?_
    · exact Int.ediv_nonneg l0 (by omega)
    · refine SS_ret (E_mod (E_intI h (E_var 2)) (E.of (E_max2 h E_int (E_var 1)) (by rw [emax])) (by omega)) ?_
      exact ⟨_, rfl, Int.emod_nonneg _ (by omega), Int.emod_lt_of_pos _ (by omega)⟩
  · refine SS_nil ?_
    refine SS_srcSet 0 (Pe := fun _ => True) on (EP_add2 (EP_srcGet 0 (P := IntP fun _ => True) on (fun _ _ t => t) (fun _ _ _ _ => rfl) fun l m t _ _ _ => ⟨t, rfl, trivial⟩) (E.ip (Pe := fun _ => True) E_int trivial) fun _ _ _ _ => trivial) (fun H cs l m t v _ S => ⟨_, _, _, _, S.turn⟩) ?_
    refine SS_setP 3 (P := IntP fun v => 0 ≤ v ∧ v < 998244353) (EP_mod2 (Pa := fun _ => True) (Pb := fun j => j = 998244353) (EP_intP h (EP_add2 (Pa := fun _ => True) (Pb := fun _ => True) (EP_srcGet 0 on (fun _ m _ => m) (fun _ _ _ _ => rfl) fun l m t _ _ _ => ⟨m, rfl, trivial⟩) (EP_mul2 (Pa := fun _ => True) (Pb := fun j => j = 104729) (EP_srcGet 0 on (fun _ _ t => t) (fun _ _ _ _ => rfl) fun l m t _ _ _ => ⟨t, rfl, trivial⟩) (E.ip E_int rfl) fun i j _ ej => ⟨.inr ⟨by omega, by omega⟩, trivial⟩) fun _ _ _ _ => trivial)) (E.ip E_int rfl) fun i j _ ej => ⟨by omega, by subst ej; exact Int.emod_nonneg _ (by decide), by subst ej; exact Int.emod_lt_of_pos _ (by decide)⟩) ?_
    rintro x ⟨mx, rfl, x0, x1⟩
    refine SS_setP 3 (P := IntP fun v => 0 ≤ v ∧ v < 2147483647) (EP_mod2 (Pa := fun _ => True) (Pb := fun j => j = 2147483647) (EP_intP h (EP_add2 (Pa := fun _ => True) (Pb := fun _ => True) (E.ip (E_mul (E_var 3) (E_var 3) (.inl ⟨by omega, by omega⟩)) trivial) (EP_mul2 (Pa := fun _ => True) (Pb := fun j => j = 17) (EP_srcGet 0 on (fun _ _ t => t) (fun _ _ _ _ => rfl) fun l m t _ _ _ => ⟨t, rfl, trivial⟩) (E.ip E_int rfl) fun i j _ ej => ⟨.inr ⟨by omega, by omega⟩, trivial⟩) fun _ _ _ _ => trivial)) (E.ip E_int rfl) fun i j _ ej => ⟨by omega, by subst ej; exact Int.emod_nonneg _ (by decide), by subst ej; exact Int.emod_lt_of_pos _ (by decide)⟩) ?_
    rintro x ⟨my, rfl, y0, y1⟩
    refine SS_srcSet 0 (Pe := fun v => 0 ≤ v ∧ v < 2147483647) on (E.ip (E_var 3) ⟨y0, y1⟩) (fun H cs l m t v hv S => ⟨_, _, _, _, S.mixed hv.1 hv.2⟩) ?_
    refine SS_ret (E_mod (E_intI h (E_op (E_var 3) E_int (divI my 16 ⟨by decide, by decide⟩))) (E_var 1) (by omega)) ?_
    exact ⟨_, rfl, Int.emod_nonneg _ (by omega), Int.emod_lt_of_pos _ (by omega)⟩
theorem w_of_L : FnG M 2 "_law_of" true R_of := by
  refine h.fnG 88 75 fs_of_L bn_of_L (by rintro ds P ⟨xs, _, _, rfl, rfl⟩; rfl) ?_
  rintro Z ds P on ⟨xs, l1, l2, rfl, rfl⟩
  refine SS_retP (EP_ix (Pa := fun x => x = .lst xs) (Pb := IntP fun i => 0 ≤ i ∧ i < (xs.length : Int)) (E_var 1) (EP_callS on (w_pick_L h) (A2 (E_var 0) (E_lenL h (E_var 1))) ⟨_, by omega, by omega, rfl, rfl⟩) fun x y ex ⟨i, ei, i0, i1⟩ => ?_) fun x hx => hx
  subst ex ei
  have hi : i.toNat < xs.length := by omega
  refine ⟨xs[i.toNat], List.getElem_mem hi, ixL ?_⟩
  have := atI_nat (xs := xs) (n := i.toNat) (v := xs[i.toNat]) (by simp [hi])
  rwa [show ((i.toNat : Nat) : Int) = i by omega] at this
end
end OC
set_option maxHeartbeats 4000000
/-! A comprehension that takes from a list of one's own. -/
namespace OC
open PySem PySem.Spec PyProof.Rows L2
section
variable {C : Addr} {Z : Sc} {B0 H0 B H : Hp} {r : Rho} {σ : L2.St}
/-- what no slot owns may change -/
theorem RS.aside (R : RS C Z B0 H0 B H r σ) {p : Addr} {o : HO} (n0 : H0 p = none) (nb : B p = none) (nf : ∀ (j : Nat) (l : L) (v : V), r[j]? = some (some l) → σ[j]? = some (some v) → ¬ Foot H l v p) : RS C Z B0 H0 B (L2.upd H p o) r σ := by
  refine ⟨R.s0, R.hz, R.fr.grow R.s0 n0 nb, R.len, fun i l e => ?_, fun i j l m v w a e1 e2 e3 e4 ne k1 k2 => ?_⟩
  · obtain ⟨v, e1, h⟩ := R.at_ i l e
    exact ⟨v, e1, h.upd (nf i l v e e1)⟩
  · obtain ⟨v', q1, h1⟩ := R.at_ i l e1
    rw [e3] at q1; cases q1
    obtain ⟨w', q2, h2⟩ := R.at_ j m e2
    rw [e4] at q2; cases q2
    exact R.ap i j l m v w a e1 e2 e3 e4 ne (foot_upd h1 (nf i l v e1 e3) k1) (foot_upd h2 (nf j m w e2 e4) k2)
/-- to another row of slots -/
theorem RS.move {r' : Rho} {σ' : L2.St} (R : RS C Z B0 H0 B H r σ) (hl : r'.length = r.length) (hs : σ'.length = σ.length) (k : ∀ (j : Nat) (l : L), r'[j]? = some (some l) → r[j]? = some (some l) ∧ σ'[j]? = σ[j]?) : RS C Z B0 H0 B H r' σ' := by
  refine ⟨R.s0, R.hz, R.fr, by rw [hs, hl]; exact R.len, fun i l e => ?_, fun i j l m v w a e1 e2 e3 e4 ne => ?_⟩
  · obtain ⟨a, b⟩ := k i l e
    rw [b]; exact R.at_ i l a
  · obtain ⟨a1, b1⟩ := k i l e1
    obtain ⟨a2, b2⟩ := k j m e2
    rw [b1] at e3; rw [b2] at e4
    exact R.ap i j l m v w a a1 a2 e3 e4 ne
end
theorem wipeR_off (r : Rho) : ∀ (vs : List Nat) (j : Nat), j ∉ vs → (wipeR r vs)[j]? = r[j]?
  | [], j, _ => rfl
  | v :: vs, j, h => by
    have h1 : v ≠ j := fun e => h (by rw [e]; exact List.mem_cons_self)
    show ((wipeR r vs).set v none)[j]? = _
    rw [List.getElem?_set_ne h1]
    exact wipeR_off r vs j fun z => h (List.mem_cons_of_mem _ z)
/-- an expression that changes own lists, and nothing else that is there -/
def EXF (M : Mo) (g : G) (Z : Sc) (e : Expr) (r : Rho) (P : D → Rho → Prop) : Prop := ∀ X, Okx M g X → ∀ B0 H0 B H σ, RS M.C Z B0 H0 B H r σ → ∀ Q : VK, (∀ x r' v B' H', P x r' → RS M.C Z B0 H0 B' H' r' σ → Ex B B' → RD M.C Z.s B' x v →
  (∀ a o, H a = some o → (Z.on = true → a ≠ Z.s ∧ a ≠ Z.c) → (∀ (j : Nat) (l : L) (w : V), r[j]? = some (some l) → σ[j]? = some (some w) → ¬ Foot H l w a) → H' a = some o) → (∀ a o, H a = some o → B a = none → B' a = none) → Q v H') → wE X e σ H Q
theorem RL.footB {C : Addr} {Z : Sc} {H0 B H : Hp} {l : L} {v : V} {a : Addr} (h : RL C Z H0 B H l v) (k : Foot H l v a) : B a = none := by
  cases l with
  | d x => cases v <;> exact k.elim
  | own ds => obtain ⟨p, rfl, n0, nb, _⟩ := h; have k : a = p := k; rw [k]; exact nb
  | odic ds => obtain ⟨p, rfl, n0, nb, _⟩ := h; have k : a = p := k; rw [k]; exact nb
  | own2 dss =>
    obtain ⟨p, qs, rfl, n0, nb, hp, nd, np, pr⟩ := h
    rcases k with k | ⟨xs, k1, k2⟩
    · rw [k]; exact nb
    · rw [hp] at k1; cases k1
      obtain ⟨q, hq, e⟩ := List.mem_map.mp k2
      cases e
      exact Paired.all pr (fun _ _ x => x.2.1) _ hq
/-- a new object is given away -/
theorem RS.giveNew {C : Addr} {Z : Sc} {B0 H0 B H : Hp} {r : Rho} {σ : L2.St} (R : RS C Z B0 H0 B H r σ) {p : Addr} {o : HO} (n0 : H0 p = none) (nb : B p = none) (hp : H p = some o) (nf : ∀ (j : Nat) (l : L) (v : V), r[j]? = some (some l) → σ[j]? = some (some v) → ¬ Foot H l v p) : RS C Z B0 H0 (L2.upd B p o) H r σ := by
  refine ⟨R.s0, R.hz, R.fr.give n0 (by
    cases q : B0 p with
    | none => rfl
    | some u => rw [R.fr.b p u q] at nb; cases nb) hp, R.len, fun i l e => ?_, R.ap⟩
  obtain ⟨v, e1, h⟩ := R.at_ i l e
  refine ⟨v, e1, h.share (Ex.new nb) fun a k => ?_⟩
  have hne : a ≠ p := fun z => nf i l v e e1 (z ▸ k)
  rw [upd_ne hne]; exact h.footB k
theorem foot_own {H : Hp} {ds : List D} {p a : Addr} (h : Foot H (.own ds) (.ref p) a) : a = p := h
section
variable {M : Mo} {g : G} {Z : Sc} {elt tg it e : Expr} {r : Rho} {pos : Pos} {rest : List Stmt} {O : Out} {P : D → Rho → Prop}
theorem SS_retX (h : EX M g Z e r P) (k : ∀ x r', P x r' → O.rt x) : SS M g Z (.Return (some e) pos :: rest) r O := SS_cons fun X ok B0 H0 B H σ R Dn o => by
  refine ⟨_, ps_ret pe_w, ?_⟩
  refine h X ok B0 H0 B H σ R _ fun x r' v B1 H1 px R1 _ r1 => ?_
  exact o.rt x v B1 H1 (k x r' px) R1.fr r1
theorem EX_lcOwn {scope : Scope} (own : List (Str × Nat)) (i : Nat) {ds0 items : List D} (hr : r[i]? = some (some (.own ds0))) (hnr : ∀ (j : Nat) (l : L) (v : V) (H : Hp) (a : Addr), j ≠ i → r[j]? = some (some l) → ¬ Foot H l v a) (hi : IT M g Z tg it r items) (ok' : BlkOk g.N g.sc scope own) (hni : i ∉ own.map (·.2)) (I : Nat → List D → List D → Prop) (h0 : I 0 [] ds0)
    (hb : ∀ (k : Nat) (d : D), items[k]? = some d → ∀ acc ds, I k acc ds → ∃ r1 is, GT M (g.blk scope) Z tg d (wipeR (r.set i (some (.own ds))) (own.map (·.2))) r1 is ∧ (∀ j ∈ is, j ∈ own.map (·.2)) ∧ (∀ ds', Le (wipeR (r.set i (some (.own ds'))) (own.map (·.2))) (r1.set i (some (.own ds')))) ∧ (∀ (j : Nat) (l : L) (v : V) (H : Hp) (a : Addr), j ≠ i → r1[j]? = some (some l) → ¬ Foot H l v a) ∧ r1[i]? = some (some (.own ds)) ∧
      EXF M (g.blk scope) Z elt r1 fun y r' => ∃ ds', r' = r1.set i (some (.own ds')) ∧ I (k + 1) (acc ++ [y]) ds')
    (hl : items.length ≤ 1000) (hs : ∀ env x, foldedSetIterable it env x = pure x := by intro _ _; rfl) : EX M g Z (.ListComp elt [⟨tg, it, [], 0⟩] scope pos) r fun y r' => ∃ es ds', y = .lst es ∧ I items.length es ds' := fun X ok B0 H0 B H σ R Q q => by
  refine ⟨_, pe_lc (own := own) ok.calm ok.nd pi_w (by rw [ok.N, ok.sc]; exact ok') pg_b pt_b pe_b (hs _), ?_⟩
  refine hi X ok B0 H0 B H σ R _ fun ds J B1 H1 pds f1 wk => ?_
  subst pds
  intro Dl hD
  have R1 := R.step f1
  have n0 : H0 Dl = none := R1.fr.free R1.s0 hD
  have nB : B1 Dl = none := f1.s.n hD
  obtain ⟨p, xs0, ep, np0, npb, hp, rs0⟩ := R1.ownAt hr
  have pD : Dl ≠ p := fun z => by rw [z, hp] at hD; cases hD
  have nf0 : ∀ (j : Nat) (l : L) (v : V), r[j]? = some (some l) → σ[j]? = some (some v) → ¬ Foot H1 l v Dl := fun j l v e1 e2 k => by
    obtain ⟨w, e3, h3⟩ := R1.at_ j l e1
    rw [e2] at e3; cases e3
    obtain ⟨_, o, e4⟩ := h3.foot k
    rw [hD] at e4; cases e4
  have er : r.set i (some (.own ds0)) = r := by
    obtain ⟨h1, h2⟩ := List.getElem?_eq_some_iff.mp hr
    rw [← h2]; exact List.set_getElem_self h1
  have hil : i < r.length := (List.getElem?_eq_some_iff.mp hr).1
  have Rw0 : RS M.C Z B0 H0 B1 (L2.upd H1 Dl (.lst [])) (wipeR (r.set i (some (.own ds0))) (own.map (·.2))) σ := by
    rw [er]
    exact (R1.aside n0 nB nf0).weak ⟨wipeR_len _ _, fun j l e => (wipeR_get _ _ j l e).2⟩
  refine ⟨fun k m H' => m = ds.length - k ∧ k ≤ ds.length ∧ ∃ B' acc xs own', I k acc own' ∧ Ex B1 B' ∧ RS M.C Z B0 H0 B' H' (wipeR (r.set i (some (.own own'))) (own.map (·.2))) σ ∧ B' Dl = none ∧ H' Dl = some (.lst xs) ∧ RDs M.C Z.s B' acc xs ∧ xs.length ≤ k, ⟨ds.length, rfl, Nat.zero_le _, B1, [], [], ds0, h0, Ex.rfl', Rw0, nB, upd_same, .nil, Nat.le_refl _⟩, ?_⟩
  rintro k m H' ⟨rfl, hle, B', acc, xs, own', ii, eB, R', nb, hx, rx, lx⟩
  obtain ⟨wgo, wstop⟩ := wk B' H' eB R'.sB R'.src k
  by_cases hlt : k < ds.length
  · have hd1 : ds[k]? = some ds[k] := by simp [hlt]
    obtain ⟨go, yl⟩ := wgo _ hd1
    refine .inr ⟨go, fun H3 => ∃ B' acc xs own', I (k + 1) acc own' ∧ Ex B1 B' ∧ RS M.C Z B0 H0 B' H3 (wipeR (r.set i (some (.own own'))) (own.map (·.2))) σ ∧ B' Dl = none ∧ H3 Dl = some (.lst xs) ∧ RDs M.C Z.s B' acc xs ∧ xs.length ≤ k + 1, fun H3 q3 => ⟨ds.length - (k + 1), by omega, rfl, hlt, q3⟩, fun x H'' y => ?_⟩
    obtain ⟨B'', f2, rd⟩ := yl x H'' y
    obtain ⟨r1, is, gt, hin, hle1, hnf, hr1, he⟩ := hb k _ hd1 acc own' ii
    have R2 := R'.step f2
    have Rw := R2.move (r' := wipeR (r.set i (some (.own own'))) (own.map (·.2))) (σ' := L2.wipe σ (own.map (·.2))) rfl (by rw [wipe_length]) fun j l e => ⟨e, by rw [wipe_get, if_neg fun z => (wipeR_get _ _ j l e).1 z.1]⟩
    intro s Hs Cc cl fp
    refine gt _ ok.blk B0 H0 B'' H'' _ x Rw rd _ fun σ2 R3 so => ⟨so.wipe hin, ?_⟩
    intro s2 Hs2 Cc2 cl2 fp2
    have fin : bE X scope elt σ2 H'' fun y H4 => ∃ acc, H4 Dl = some (.lst acc) ∧ acc.length < sizeLine ∧ ∃ B' acc' xs own', I (k + 1) acc' own' ∧ Ex B1 B' ∧ RS M.C Z B0 H0 B' (upd H4 Dl (.lst (acc ++ [y]))) (wipeR (r.set i (some (.own own'))) (own.map (·.2))) σ ∧ B' Dl = none ∧ (upd H4 Dl (.lst (acc ++ [y]))) Dl = some (.lst xs) ∧ RDs M.C Z.s B' acc' xs ∧ xs.length ≤ k + 1 := ?_
    · exact ⟨_, pts_nil, fin⟩
    intro s3 Hs3 Cc3 cl3 fp3
    have ep2 : σ2[i]? = some (some (.ref p)) := by
      have : σ2[i]? = (L2.wipe σ (own.map (·.2)))[i]? := so.2 i fun z => hni (hin i z)
      rw [this, wipe_get, if_neg fun z => hni z.1]; exact ep
    refine he _ ok.blk B0 H0 B'' H'' σ2 R3 _ fun y r' v B4 H4 ⟨ds', er', ii'⟩ R4 e4 r4 keep hid => ?_
    subst er'
    have hx2 : H'' Dl = some (.lst xs) := f2.h _ _ hx (R.s0.ne n0)
    have nb2 : B'' Dl = none := f2.hid _ _ hx nb
    have nf2 : ∀ (j : Nat) (l : L) (w : V), r1[j]? = some (some l) → σ2[j]? = some (some w) → ¬ Foot H'' l w Dl := fun j l w e1 e2 kf => by
      by_cases ji : j = i
      · subst ji
        rw [hr1] at e1; cases e1
        rw [ep2] at e2; cases e2
        exact pD kf
      · exact hnf j l w H'' Dl ji e1 kf
    have hx4 : H4 Dl = some (.lst xs) := keep _ _ hx2 (R.s0.ne n0) nf2
    have nb4 : B4 Dl = none := hid _ _ hx2 nb2
    have small : xs.length < sizeLine := Nat.lt_of_le_of_lt (Nat.le_trans lx (Nat.le_trans (Nat.le_of_lt hlt) hl)) (by decide)
    have nf4 : ∀ (j : Nat) (l : L) (w : V), (r1.set i (some (.own ds')))[j]? = some (some l) → σ2[j]? = some (some w) → ¬ Foot H4 l w Dl := fun j l w e1 e2 kf => by
      by_cases ji : j = i
      · subst ji
        have := set_at e1
        subst this
        rw [ep2] at e2; cases e2
        exact pD kf
      · rw [List.getElem?_set_ne (Ne.symm ji)] at e1
        exact hnf j l w H4 Dl ji e1 kf
    have R5 := R4.aside (o := .lst (xs ++ [v])) n0 nb4 nf4
    have R6 : RS M.C Z B0 H0 B4 (L2.upd H4 Dl (.lst (xs ++ [v]))) (wipeR (r.set i (some (.own ds'))) (own.map (·.2))) σ := by
      refine R5.move (by have := (hle1 ds').1; exact this) ?_ fun j l e => ⟨(hle1 ds').2 j l e, ?_⟩
      · have := so.1; rw [wipe_length] at this; exact this.symm
      · have nj := (wipeR_get _ _ j l e).1
        rw [so.2 j fun z => nj (hin j z), wipe_get, if_neg fun z => nj z.1]
    exact ⟨xs, hx4, small, B4, acc ++ [y], xs ++ [v], ds', ii', (eB.tr f2.b).tr e4, R6, nb4, upd_same, ((rx.mono f2.b).mono e4).snoc r4, by rw [List.length_append]; show xs.length + 1 ≤ k + 1; omega⟩
  · have e : k = ds.length := by omega
    subst e
    refine .inl ⟨wstop rfl, ?_⟩
    have R7 : RS M.C Z B0 H0 (L2.upd B' Dl (.lst xs)) H' (wipeR (r.set i (some (.own own'))) (own.map (·.2))) σ := by
      refine R'.giveNew n0 nb hx fun j l v e1 e2 kf => ?_
      obtain ⟨_, e3⟩ := wipeR_get _ _ j l e1
      by_cases ji : j = i
      · subst ji
        have := set_at e3
        subst this
        rw [ep] at e2; cases e2
        exact pD kf
      · rw [List.getElem?_set_ne (Ne.symm ji)] at e3
        exact hnr j l v H' Dl ji e3 kf
    exact q (.lst acc) _ (.ref Dl) _ H' ⟨acc, own', rfl, ii⟩ R7 ((f1.b.tr eB).tr (Ex.new nb)) (.lst upd_same (rx.mono (Ex.new nb)))
end
end OC
set_option maxHeartbeats 4000000
/-! The law mixes. -/
namespace OC
open PySem PySem.Spec PyProof.Rows L2
section
variable {M : Mo} {g : G} {Z : Sc} {a e : Expr} {r : Rho} {pos p : Pos}
theorem EL_listL (h : Hd M) {ds : List D} (ha : E M g Z a r (.lst ds)) (hg : GlS g "list" := by rfl) (hs : ∀ env, starEach [a] env = (false, eval a env) :: starEach [] env := by intro _; rfl) : EL M g Z (.Call (.Name "list" p) [a] [] pos) r (.own ds) := fun X ok B0 H0 B H σ R Q q => by
  refine ⟨_, pe_callTy (T := "list") call_list_of (ok.gl hg) (by rw [ok.mg]; exact h.free 111) (by decide +kernel) (pa_cons pe_w pa_nil (hs _)) (by decide) (by decide) (hs _) (by rfl), ?_⟩
  refine ha X ok B0 H0 B H σ R _ fun x v B1 H1 px f1 r1 => ?_
  subst px
  cases r1 with
  | lst h1 k1 =>
    refine ⟨_, _, rfl, .inl (SqL.of (f1.s _ _ h1)), fun l hl => ?_⟩
    have n0 := f1.free R.src hl
    refine q _ B1 (upd H1 l _) ⟨f1.b, fun a o h z => ?_, f1.s.updR (f1.s.n hl), f1.hid, f1.src.new hl⟩ ⟨l, rfl, n0, f1.s.n hl, _, upd_same, k1⟩
    rw [upd_ne (ne_of_none h n0)]
    exact f1.h a o h z
/-- own.pop(an int drawn) -/
theorem EXF_popAt (i : Nat) {nm : Str} {p1 ap cp : Pos} {ds : List D} {P : D → Rho → Prop} (h : EP M g Z e r (IntP fun k => 0 ≤ k ∧ k < (ds.length : Int))) (hP : ∀ (k : Nat) (d : D), ds[k]? = some d → P d (r.set i (some (.own (ds.eraseIdx k))))) (hl : ds.length ≤ 1000)
    (hi : r[i]? = some (some (.own ds)) := by rfl) (hN : g.N[i]? = some nm := by rfl) (hv : Vis g.sc nm := by first | exact Or.inl rfl | exact Or.inr (Or.inl rfl) | exact Or.inr (Or.inr rfl))
    (hd : (nm == ("__debug__" : Str)) = false := by decide) (hcd : (nm == ("__classdict__" : Str)) = false := by decide)
    (h1 : ∀ env, attributeBase (.Name nm p1) "pop" env (eval (.Name nm p1) env) = eval (.Name nm p1) env := by intro _; rfl)
    (h2 : ∀ env, ((backTo cp (starEach [e] env)).all (fun x => !x.1) && (backToKw cp (keywordEach [] env)).all (fun x => x.1.isSome) && decide ([e].length + ([] : List Keyword).length + (if ([] : List Keyword).isEmpty then 0 else 1) < 30)) = true := by intro _; rfl)
    (h3 : (ap.endLine == cp.line) = true := by rfl) (h4 : ∀ env, starEach [e] env = (false, eval e env) :: starEach [] env := by intro _; rfl) : EXF M g Z (.Call (.Attribute (.Name nm p1) "pop" ap) [e] [] cp) r P := fun X ok B0 H0 B H σ R Q q => by
  refine ⟨_, pe_bm F.plainAttrs_list F.slot_list_pop F.type_list_pop mt_popAt (pe_var (i := i) (by rw [ok.N]; exact hN) (by rw [ok.sc]; exact hv) hd hcd) (pa_cons pe_w pa_nil (h4 _)) (h1 _) (h2 _) h3 (h4 _) rfl, ?_⟩
  obtain ⟨pp, xs, e0, n0, nb, hp, rs⟩ := R.ownAt hi
  refine ⟨_, e0, .inl ⟨rfl, xs, SqL.of hp⟩, ?_⟩
  refine h X ok B0 H0 B H σ R _ fun x v B1 H1 ⟨k, ek, k0, k1⟩ f1 r1 => ?_
  subst ek; cases r1
  have R1 := R.step f1
  obtain ⟨pp', xs', e0', n0', nb', hp', rs'⟩ := R1.ownAt hi
  rw [e0] at e0'; cases e0'
  have hlen := rs'.len
  obtain ⟨d, hd1⟩ : ∃ d, ds[k.toNat]? = some d := ⟨_, List.getElem?_eq_getElem (by omega)⟩
  obtain ⟨w, ew, rw'⟩ := rs'.atD hd1
  refine ⟨pp, xs', k, k.toNat, w, rfl, rfl, hp', by omega, by omega, seqIndex_of k0 (by omega), ew, ?_⟩
  have re : RDs M.C Z.s B1 (ds.eraseIdx k.toNat) (xs'.eraseIdx k.toNat) := by
    rw [List.eraseIdx_eq_take_drop_succ, List.eraseIdx_eq_take_drop_succ]
    exact (rs'.take _).app (rs'.drop _)
  refine q d _ w B1 _ (hP k.toNat d hd1) (R1.updOwn hi e0 re) f1.b rw' (fun a o ha z nf => ?_) fun a o ha nB => f1.hid a o ha nB
  have hne : a ≠ pp := fun z2 => nf i _ _ hi e0 (by subst z2; rfl)
  rw [upd_ne hne]; exact f1.h a o ha z
end
def R_mixed : Rel := fun ds P => ∃ ns : List Str, ns.length ≤ 100 ∧ ds = [.src, strsD ns] ∧ P = fun d => ∃ ms : List Str, d = strsD ms ∧ ms.Perm ns
theorem perm_take {α : Type} {as os ns : List α} {k : Nat} {d : α} (h : (as ++ os).Perm ns) (e : os[k]? = some d) : ((as ++ [d]) ++ os.eraseIdx k).Perm ns := by
  refine List.Perm.trans ?_ h
  rw [List.append_assoc]
  refine List.Perm.append_left as ?_
  obtain ⟨hk, hd⟩ := List.getElem?_eq_some_iff.mp e
  subst hd
  have e2 : os.take k ++ os[k] :: os.drop (k + 1) = os := by rw [← List.drop_eq_getElem_cons hk, List.take_append_drop]
  rw [List.eraseIdx_eq_take_drop_succ]
  conv => rhs; rw [← e2]
  exact (List.perm_middle (a := os[k]) (l₁ := os.take k) (l₂ := os.drop (k + 1))).symm
section
variable {M : Mo} (h : Hd M)
include h
theorem w_mixed_L : FnG M 2 "_law_mixed" true R_mixed := by
  refine h.fnG 89 76 fs_mixed_L bn_mixed_L (by rintro ds P ⟨ns, _, rfl, rfl⟩; rfl) ?_
  rintro Z ds P on ⟨ns, hn, rfl, rfl⟩
  refine SS_setL 2 (EL_listL h (E_var 1)) ?_
  have nf : ∀ (j : Nat) (l : L) (v : V) (H : Hp) (a : Addr) (o : Option L), j ≠ 2 → ([some (.d .src), some (.d (strsD ns)), some (.own (ns.map D.str)), o] : Rho)[j]? = some (some l) → (∀ l, o = some l → ∃ x, l = .d x) → ¬ Foot H l v a := by
    intro j l v H a o ne e ho k
    match j with
    | 0 => cases e; cases v <;> exact k
    | 1 => cases e; cases v <;> exact k
    | 2 => exact ne rfl
    | 3 =>
      have e : o = some l := by simpa using e
      obtain ⟨x, rfl⟩ := ho l e
      cases v <;> exact k
    | j + 4 => simp at e
  refine SS_retX (EX_lcOwn (items := rangeD ns.length) [("_law_lap", 3)] 2 rfl (fun j l v H a ne e => nf j l v H a none ne e fun l z => nomatch z) (IT_range (n := ns.length) (E_view 2 (ds := ns.map D.str) (E.of (E_lenL h (E_var 2)) (by rw [List.length_map]))) (by omega) (h.free 114)) (by exact ⟨rfl, by decide +kernel, by decide +kernel, by decide +kernel, by decide +kernel⟩) (by decide) (fun k acc own => ∃ as os : List Str, acc = as.map D.str ∧ own = os.map D.str ∧ (as ++ os).Perm ns ∧ os.length + k = ns.length) ⟨[], ns, rfl, rfl, .refl _, rfl⟩ ?_ ?_) ?_
  · rintro k d hd acc own ⟨as, os, rfl, rfl, pm, lk⟩
    have hk : k < ns.length := by
      have := (List.getElem?_eq_some_iff.mp hd).1
      unfold rangeD at this; simpa using this
    refine ⟨_, _, G_name 3, by decide, fun ds' => Le.keep (Le.keep (Le.keep (Le.drop Le.nil))), ?_, rfl, ?_⟩
    · intro j l v H a ne e
      match j with
      | 0 => cases e; intro k; cases v <;> exact k
      | 1 => cases e; intro k; cases v <;> exact k
      | 2 => exact absurd rfl ne
      | 3 => cases e; intro k; cases v <;> exact k
      | j + 4 => simp [wipeR] at e
    · refine EXF_popAt 2 (EP.ip (Pe := fun i => 0 ≤ i ∧ i < ((os.map D.str).length : Int)) (EP_callS on (w_pick_L h) (A2 (E_var 0) (E_view 2 (ds := os.map D.str) (E_lenL h (E_var 2)))) ⟨((os.map D.str).length : Int), ?_, ?_, rfl, rfl⟩) fun i hi => hi) (fun j x hx => ?_) ?_
      · rw [List.length_map]; omega
      · rw [List.length_map]; omega
      · rw [List.getElem?_map] at hx
        cases e0 : os[j]? with
        | none => rw [e0] at hx; cases hx
        | some y =>
          rw [e0] at hx
          simp only [Option.map_some, Option.some.injEq] at hx
          subst hx
          refine ⟨_, rfl, as ++ [y], os.eraseIdx j, by simp, ?_, perm_take pm e0, ?_⟩
          · rw [List.eraseIdx_eq_take_drop_succ, List.eraseIdx_eq_take_drop_succ]; simp
          · rw [List.length_eraseIdx, if_pos (List.getElem?_eq_some_iff.mp e0).1]
            have := (List.getElem?_eq_some_iff.mp e0).1
            omega
      · rw [List.length_map]; omega
  · unfold rangeD; simp; omega
  · rintro x r' ⟨es, ds', rfl, as, os, rfl, rfl, pm, lk⟩
    have l0 : (rangeD ns.length).length = ns.length := by unfold rangeD; simp
    rw [l0] at lk
    have : os = [] := List.eq_nil_of_length_eq_zero (by omega)
    subst this
    rw [List.append_nil] at pm
    exact ⟨as, rfl, pm⟩
end
end OC
set_option maxHeartbeats 4000000
/-! Several values of which only a part is known, stored at once; appended (printed by gen_parp.py from the same rules for known values). -/
namespace OC
open PySem PySem.Spec PyProof.Rows L2
section
variable {M : Mo} {g : G} {Z : Sc} {e a b c : Expr} {es ts : List Expr} {r r1 r2 : Rho} {x y z d : D} {xs ds : List D} {pos : Pos} {k : Nat} {st : Stmt} {rest : List Stmt} {O : Out} {P : D → Prop}
def ELP (M : Mo) (g : G) (Z : Sc) (e : Expr) (r : Rho) (Pl : L → Prop) : Prop := ∀ X, Okx M g X → ∀ B0 H0 B H σ, RS M.C Z B0 H0 B H r σ → ∀ Q : VK, (∀ l v B' H', Pl l → Fr Z B H B' H' → RL M.C Z H B' H' l v → Q v H') → wE X e σ H Q
theorem EP.l (h : EP M g Z e r P) : ELP M g Z e r fun l => ∃ d, l = .d d ∧ P d := fun X ok B0 H0 B H σ R Q q => h X ok B0 H0 B H σ R Q fun y v B' H' py f r1 => q (.d y) v B' H' ⟨y, rfl, py⟩ f r1
theorem EL.p {l : L} (h : EL M g Z e r l) : ELP M g Z e r fun m => m = l := fun X ok B0 H0 B H σ R Q q => h X ok B0 H0 B H σ R Q fun v B' H' f r1 => q l v B' H' rfl f r1
def ALP (M : Mo) (g : G) (Z : Sc) (es : List Expr) (r : Rho) (Ps : List L → Prop) : Prop := ∀ X, Okx M g X → ∀ B0 H0 B H σ, RS M.C Z B0 H0 B H r σ → ∀ Q : List V → Hp → Prop,
  (∀ ls vs B' H', Ps ls → Fr Z B H B' H' → Paired (RL M.C Z H B' H') ls vs → (∀ (i j : Nat) (l m : L) (v w : V) (a : Addr), ls[i]? = some l → ls[j]? = some m → vs[i]? = some v → vs[j]? = some w → i ≠ j → Foot H' l v a → ¬ Foot H' m w a) → Q vs H') → wA X es σ H Q
theorem ALP_nil : ALP M g Z [] r fun ls => ls = [] := fun X ok B0 H0 B H σ R Q q => ⟨_, pa_nil, q [] [] B H rfl (Fr.rfl' R.sB R.src) .nil (fun i j l m v w a e => by simp at e)⟩
theorem ALP_cons {Pl : L → Prop} {Ps Qs : List L → Prop} (h : ELP M g Z e r Pl) (h' : ALP M g Z es r Ps) (hq : ∀ l ls, Pl l → Ps ls → Qs (l :: ls)) (hs : ∀ env, starEach (e :: es) env = (false, eval e env) :: starEach es env := by intro _; rfl) : ALP M g Z (e :: es) r Qs := fun X ok B0 H0 B H σ R Q q => by
  refine ⟨_, pa_cons pe_w pa_w (hs _), ?_⟩
  refine h X ok B0 H0 B H σ R _ fun l v B1 H1 pl f1 r1 => ?_
  refine h' X ok B0 H0 B1 H1 σ (R.step f1) _ fun ls vs B2 H2 pls f2 r2 ap => ?_
  have r1' : RL M.C Z H B2 H2 l v := r1.step R.src f2
  have r2' : Paired (RL M.C Z H B2 H2) ls vs := Paired.imp r2 fun _ _ k => k.start fun a n => f1.free R.src n
  have dis : ∀ (j : Nat) (m : L) (w : V) (a : Addr), ls[j]? = some m → vs[j]? = some w → Foot H2 l v a → Foot H2 m w a → False := fun j m w a e1 e2 k1 k2 => by
    obtain ⟨_, o, q1⟩ := r1.foot (Foot.back R.src f2 r1 k1)
    obtain ⟨n, _⟩ := (Paired.at1 r2 e1 e2).foot k2
    rw [n] at q1; cases q1
  refine q (l :: ls) _ B2 H2 (hq l ls pl pls) (f1.tr f2 R.src) (.cons r1' r2') fun i j l' m' v' w' a e1 e2 e3 e4 ne k1 k2 => ?_
  cases i with
  | zero =>
    cases j with
    | zero => exact ne rfl
    | succ j => simp at e1 e2 e3 e4; subst e1 e3; exact dis j m' w' a e2 e4 k1 k2
  | succ i =>
    cases j with
    | zero => simp at e1 e2 e3 e4; subst e2 e4; exact dis i l' v' a e1 e3 k2 k1
    | succ j => exact ap i j l' m' v' w' a (by simpa using e1) (by simpa using e2) (by simpa using e3) (by simpa using e4) (fun z => ne (by rw [z])) k1 k2
theorem ALP2 {Pl Pm : L → Prop} (h : ELP M g Z a r Pl) (h' : ELP M g Z b r Pm) (hs : ∀ env, starEach [a, b] env = (false, eval a env) :: starEach [b] env := by intro _; rfl) (hs' : ∀ env, starEach [b] env = (false, eval b env) :: starEach [] env := by intro _; rfl) : ALP M g Z [a, b] r fun ls => ∃ l m, ls = [l, m] ∧ Pl l ∧ Pm m :=
  ALP_cons h (ALP_cons (Qs := fun ls => ∃ m, ls = [m] ∧ Pm m) h' ALP_nil (fun m ls pm e => ⟨m, by rw [e], pm⟩) hs') (fun l ls pl ⟨m, e, pm⟩ => ⟨l, m, by rw [e], pl, pm⟩) hs
theorem ALP3 {Pl Pm Pn : L → Prop} (h : ELP M g Z a r Pl) (h' : ELP M g Z b r Pm) (h'' : ELP M g Z c r Pn) (hs : ∀ env, starEach [a, b, c] env = (false, eval a env) :: starEach [b, c] env := by intro _; rfl) (hs' : ∀ env, starEach [b, c] env = (false, eval b env) :: starEach [c] env := by intro _; rfl) (hs2 : ∀ env, starEach [c] env = (false, eval c env) :: starEach [] env := by intro _; rfl) : ALP M g Z [a, b, c] r fun ls => ∃ l1 l2 l3, ls = [l1, l2, l3] ∧ Pl l1 ∧ Pm l2 ∧ Pn l3 :=
  ALP_cons h (ALP2 h' h'' hs' hs2) (fun l ls pl ⟨m, n, e, pm, pn⟩ => ⟨l, m, n, by rw [e], pl, pm, pn⟩) hs
theorem SS_par3P {i j l : Nat} {nm nm' nm2 : Str} {Ps : L → L → L → Prop} {px py pz pt pt2 : Pos} {kt k2 : Nat} (h : ALP M g Z [a, b, c] r fun ls => ∃ l1 l2 l3, ls = [l1, l2, l3] ∧ Ps l1 l2 l3) (k : ∀ l1 l2 l3, Ps l1 l2 l3 → SS M g Z rest (((r.set i (some l1)).set j (some l2)).set l (some l3)) O) (hi : g.N[i]? = some nm := by rfl) (hj : g.N[j]? = some nm' := by rfl) (hl : g.N[l]? = some nm2 := by rfl) (hij : i ≠ j := by decide) (hil : i ≠ l := by decide) (hjl : j ≠ l := by decide)
    (hx : g.sc.names.lookup nm = some .local := by rfl) (hy : g.sc.names.lookup nm' = some .local := by rfl) (hz : g.sc.names.lookup nm2 = some .local := by rfl)
    (hw : ∀ env : Env, env.scope = g.sc → swappedStores [.Tuple [.Name nm px, .Name nm' py, .Name nm2 pz] kt pt] (.Tuple [a, b, c] k2 pt2) env = pure (some [nm, nm', nm2]) := by intro env h; obtain ⟨sc, _⟩ := env; subst h; rfl)
    (hs : ∀ env : Env, env.scope = g.sc → swapsWithSole [.Tuple [.Name nm px, .Name nm' py, .Name nm2 pz] kt pt] (.Tuple [a, b, c] k2 pt2) pos.line env = pure false := by intro _ _; rfl) :
    SS M g Z (.Assign [.Tuple [.Name nm px, .Name nm' py, .Name nm2 pz] kt pt] (.Tuple [a, b, c] k2 pt2) pos :: rest) r O := SS_cons fun X ok B0 H0 B H σ R Dn o => by
  refine ⟨_, ps_par3 (i := i) (j := j) (l := l) ok.calm ok.nd (by rw [ok.N]; exact hi) (by rw [ok.N]; exact hj) (by rw [ok.N]; exact hl) hij hil hjl (by rw [ok.sc]; exact hx) (by rw [ok.sc]; exact hy) (by rw [ok.sc]; exact hz) pa_w (hw _ ok.sc) (hs _ ok.sc), ?_⟩
  refine h X ok B0 H0 B H σ R _ fun ls vs B1 H1 ⟨l1, l2, l3, els, pl⟩ f1 r1 ap => ?_
  subst els
  cases r1 with
  | cons h1 t1 => cases t1 with
    | cons h2 t2 => cases t2 with
      | cons h3 t3 => cases t3 with
        | nil =>
          refine ⟨_, _, _, rfl, o.nx _ B1 H1 _ (k l1 l2 l3 pl) ?_ f1.b⟩
          refine ((R.setN f1 h1).setL (h2.start fun a n => R.fr.free R.s0 n) fun j' m' w' a' ne e1 e2 k1 => ?_).setL (h3.start fun a n => R.fr.free R.s0 n) fun j' m' w' a' ne e1 e2 k1 => ?_
          · by_cases q : i = j'
            · subst q
              have := set_at e1; have := set_at e2; subst_vars
              exact ap 1 0 _ _ _ _ a' rfl rfl rfl rfl (by decide) k1
            · rw [List.getElem?_set_ne q] at e1 e2
              exact R.old f1 h2 e1 e2 k1
          · by_cases q : j = j'
            · subst q
              have := set_at e1; have := set_at e2; subst_vars
              exact ap 2 1 _ _ _ _ a' rfl rfl rfl rfl (by decide) k1
            · rw [List.getElem?_set_ne q] at e1 e2
              by_cases q : i = j'
              · subst q
                have := set_at e1; have := set_at e2; subst_vars
                exact ap 2 0 _ _ _ _ a' rfl rfl rfl rfl (by decide) k1
              · rw [List.getElem?_set_ne q] at e1 e2
                exact R.old f1 h3 e1 e2 k1

theorem SS_parCP {i j : Nat} {nm nm' : Str} {Ps : L → L → Prop} {px py pt pt2 : Pos} {kt k2 : Nat} (h : ALP M g Z [a, b] r fun ls => ∃ l m, ls = [l, m] ∧ Ps l m) (k : ∀ l m, Ps l m → SS M g Z rest ((r.set i (some l)).set j (some m)) O) (hi : g.N[i]? = some nm := by rfl) (hj : g.N[j]? = some nm' := by rfl) (hij : i ≠ j := by decide)
    (hx : LocS g nm := by first | exact Or.inl rfl | exact Or.inr ⟨rfl, rfl⟩) (hy : LocS g nm' := by first | exact Or.inl rfl | exact Or.inr ⟨rfl, rfl⟩)
    (hw : ∀ env : Env, env.scope = g.sc → swappedStores [.Tuple [.Name nm px, .Name nm' py] kt pt] (.Tuple [a, b] k2 pt2) env = pure none := by intro env h; obtain ⟨sc, _⟩ := env; subst h; rfl)
    (hs : ∀ env : Env, env.scope = g.sc → swapsWithSole [.Tuple [.Name nm px, .Name nm' py] kt pt] (.Tuple [a, b] k2 pt2) pos.line env = pure false := by intro _ _; rfl) :
    SS M g Z (.Assign [.Tuple [.Name nm px, .Name nm' py] kt pt] (.Tuple [a, b] k2 pt2) pos :: rest) r O := SS_cons fun X ok B0 H0 B H σ R Dn o => by
  obtain ⟨l1, l2⟩ := ok.loc hx
  obtain ⟨l3, l4⟩ := ok.loc hy
  refine ⟨_, ps_asg (pe_tup pa_w) (pg_tup (n := 2) ok.calm (pgs_cons (pg_name (i := i) ok.nd (by rw [ok.N]; exact hi) l1 l2) (pgs_cons (pg_name (i := j) ok.nd (by rw [ok.N]; exact hj) l3 l4) pgs_nil))) (hs _ ok.sc) (hw _ ok.sc), ?_⟩
  refine h X ok B0 H0 B H σ R _ fun ls vs B1 H1 ⟨l, m, els, pl⟩ f1 r1 ap => ?_
  subst els
  cases r1 with
  | cons h1 t1 => cases t1 with
    | cons h2 t2 => cases t2 with
      | nil =>
        rename_i v1 v2
        refine ⟨by show (2 : Nat) ≤ sizeLine; decide, fun p hp => ?_⟩
        have nH : H p = none := f1.free R.src hp
        have nB : B1 p = none := f1.s.n hp
        have f2 : Fr Z B H B1 (upd H1 p (.tup [v1, v2])) := f1.grow R.src nH nB
        have up : ∀ {l : L} {v : V}, RL M.C Z H B1 H1 l v → RL M.C Z H B1 (upd H1 p (.tup [v1, v2])) l v ∧ ∀ a, Foot (upd H1 p (.tup [v1, v2])) l v a → Foot H1 l v a := fun {l v} hl => by
          have nf : ¬ Foot H1 l v p := fun z => by obtain ⟨_, ob, e⟩ := hl.foot z; rw [hp] at e; cases e
          exact ⟨hl.upd nf, fun a z => foot_upd hl nf z⟩
        obtain ⟨h1', g1⟩ := up h1
        obtain ⟨h2', g2⟩ := up h2
        refine ⟨p, [v1, v2], rfl, SqT.of upd_same, rfl, v1, [v2], rfl, v2, [], rfl, rfl, o.nx _ B1 _ _ (k l m pl) ?_ f1.b⟩
        refine (R.setN f2 h1').setL (h2'.start fun a n => R.fr.free R.s0 n) fun j' m' w' a' ne e1 e2 k1 k2 => ?_
        by_cases q : i = j'
        · subst q
          have hl : i < r.length := by
            have := (List.getElem?_eq_some_iff.mp e1).1
            rwa [List.length_set] at this
          rw [List.getElem?_set_self hl] at e1
          rw [List.getElem?_set_self (by rw [R.len]; exact hl)] at e2
          cases e1; cases e2
          exact ap 1 0 m l _ _ a' rfl rfl rfl rfl (by decide) (g2 _ k1) (g1 _ k2)
        · rw [List.getElem?_set_ne q] at e1 e2
          obtain ⟨n, _⟩ := h2'.foot k1
          obtain ⟨w2, q1, h3⟩ := R.at_ j' m' e1
          rw [e2] at q1; cases q1
          obtain ⟨_, ob, q3⟩ := h3.foot (Foot.back R.s0 f2 h3 k2)
          rw [n] at q3; cases q3
theorem SS_parP {i j : Nat} {nm nm' : Str} {Ps : L → L → Prop} {px py pt pt2 : Pos} {kt k2 : Nat} (h : ALP M g Z [a, b] r fun ls => ∃ l m, ls = [l, m] ∧ Ps l m) (k : ∀ l m, Ps l m → SS M g Z rest ((r.set i (some l)).set j (some m)) O) (hi : g.N[i]? = some nm := by rfl) (hj : g.N[j]? = some nm' := by rfl) (hij : i ≠ j := by decide)
    (hx : g.sc.names.lookup nm = some .local := by rfl) (hy : g.sc.names.lookup nm' = some .local := by rfl)
    (hw : ∀ env : Env, env.scope = g.sc → swappedStores [.Tuple [.Name nm px, .Name nm' py] kt pt] (.Tuple [a, b] k2 pt2) env = pure (some [nm, nm']) := by intro env h; obtain ⟨sc, _⟩ := env; subst h; rfl)
    (hs : ∀ env : Env, env.scope = g.sc → swapsWithSole [.Tuple [.Name nm px, .Name nm' py] kt pt] (.Tuple [a, b] k2 pt2) pos.line env = pure false := by intro _ _; rfl) :
    SS M g Z (.Assign [.Tuple [.Name nm px, .Name nm' py] kt pt] (.Tuple [a, b] k2 pt2) pos :: rest) r O := SS_cons fun X ok B0 H0 B H σ R Dn o => by
  refine ⟨_, ps_par (i := i) (j := j) ok.calm ok.nd (by rw [ok.N]; exact hi) (by rw [ok.N]; exact hj) hij (by rw [ok.sc]; exact hx) (by rw [ok.sc]; exact hy) pa_w (hw _ ok.sc) (hs _ ok.sc), ?_⟩
  refine h X ok B0 H0 B H σ R _ fun ls vs B1 H1 ⟨l, m, els, pl⟩ f1 r1 ap => ?_
  subst els
  cases r1 with
  | cons h1 t1 => cases t1 with
    | cons h2 t2 => cases t2 with
      | nil =>
        refine ⟨_, _, rfl, o.nx _ B1 H1 _ (k l m pl) ?_ f1.b⟩
        refine (R.setN f1 h1).setL (h2.start fun a n => R.fr.free R.s0 n) fun j' m' w' a' ne e1 e2 k1 k2 => ?_
        by_cases q : i = j'
        · subst q
          have hl : i < r.length := by
            have := (List.getElem?_eq_some_iff.mp e1).1
            rwa [List.length_set] at this
          rw [List.getElem?_set_self hl] at e1
          rw [List.getElem?_set_self (by rw [R.len]; exact hl)] at e2
          cases e1; cases e2
          exact ap 1 0 m l _ _ a' rfl rfl rfl rfl (by decide) k1 k2
        · rw [List.getElem?_set_ne q] at e1 e2
          obtain ⟨n, _⟩ := h2.foot k1
          obtain ⟨w2, q1, h3⟩ := R.at_ j' m' e1
          rw [e2] at q1; cases q1
          obtain ⟨_, ob, q3⟩ := h3.foot (Foot.back R.s0 f1 h3 k2)
          rw [n] at q3; cases q3
/-- own.append(e) -/
theorem SS_appendP {P : D → Prop} (i : Nat) {nm : Str} {p ap cp : Pos} {ds : List D} (h : EP M g Z e r P) (hl : ds.length < 1000) (k : ∀ d, P d → SS M g Z rest (r.set i (some (.own (ds ++ [d])))) O) (hi : r[i]? = some (some (.own ds)) := by rfl) (hN : g.N[i]? = some nm := by rfl) (hv : Vis g.sc nm := by first | exact Or.inl rfl | exact Or.inr (Or.inl rfl) | exact Or.inr (Or.inr rfl))
    (hd : (nm == ("__debug__" : Str)) = false := by decide) (hcd : (nm == ("__classdict__" : Str)) = false := by decide)
    (hs : ∀ env : Env, env.scope = g.sc → swapsWith (.Call (.Attribute (.Name nm p) "append" ap) [e] [] cp) none pos.line env = pure false := by intro _ _; rfl)
    (h1 : ∀ env, attributeBase (.Name nm p) "append" env (eval (.Name nm p) env) = eval (.Name nm p) env := by intro _; rfl)
    (h2 : ∀ env, ((backTo cp (starEach [e] env)).all (fun x => !x.1) && (backToKw cp (keywordEach [] env)).all (fun x => x.1.isSome) && decide ([e].length + ([] : List Keyword).length + (if ([] : List Keyword).isEmpty then 0 else 1) < 30)) = true := by intro _; rfl)
    (h3 : (ap.endLine == cp.line) = true := by rfl) (h4 : ∀ env, starEach [e] env = (false, eval e env) :: starEach [] env := by intro _; rfl) : SS M g Z (.Expr (.Call (.Attribute (.Name nm p) "append" ap) [e] [] cp) pos :: rest) r O := SS_cons fun X ok B0 H0 B H σ R Dn o => by
  refine ⟨_, ps_expr (pe_bm F.plainAttrs_list F.slot_list_append F.type_list_append mt_append (pe_var (i := i) (by rw [ok.N]; exact hN) (by rw [ok.sc]; exact hv) hd hcd) (pa_cons pe_w pa_nil (h4 _)) (h1 _) (h2 _) h3 (h4 _) rfl) (hs _ ok.sc), ?_⟩
  obtain ⟨pp, xs, e0, n0, nb, hp, rs⟩ := R.ownAt hi
  refine ⟨_, e0, .inl ⟨rfl, xs, SqL.of hp⟩, ?_⟩
  refine h X ok B0 H0 B H σ R _ fun x v B1 H1 px f1 r1 => ?_
  have R1 := R.step f1
  obtain ⟨p2, xs2, e2, n2, nb2, hp2, rs2⟩ := R1.ownAt hi
  rw [e0] at e2; cases e2
  refine ⟨pp, xs2, v, rfl, rfl, hp2, by rw [← rs2.len]; exact Nat.lt_of_lt_of_le hl (by decide), ?_⟩
  exact o.nx _ B1 _ _ (k x px) (R1.updOwn hi e0 (rs2.snoc r1)) f1.b
end
end OC
set_option maxHeartbeats 4000000
/-! The law makes names. -/
namespace OC
open PySem PySem.Spec PyProof.Rows L2
def digS (v : Int) : Str := cutS (Str.ofString (toString (100 + v))) (some ((1 : Nat) : Int)) none
theorem dig_all : ∀ v ∈ List.range 100, (digS (v : Int)).cps.toList = [48 + v / 10, 48 + v % 10] := by decide +kernel
def tailsL : List Str := ["", "", "", "k", "kkkkkkkkk"]
def nameOf (c : Nat) (v : Int) (t : Str) : Str := ((⟨#[c]⟩ : Str) ++ digS v) ++ t
theorem name_cps (c : Nat) (v : Int) (t : Str) : (nameOf c v t).cps.toList = c :: ((digS v).cps.toList ++ t.cps.toList) := by
  show (((#[c] ++ (digS v).cps) ++ t.cps) : Array Nat).toList = _
  simp
theorem dig_at {v : Int} (h0 : 0 ≤ v) (h1 : v < 100) : (digS v).cps.toList = [48 + v.toNat / 10, 48 + v.toNat % 10] := by
  have := dig_all v.toNat (by simp; omega)
  rwa [show ((v.toNat : Nat) : Int) = v by omega] at this
theorem dig_len {v : Int} (h0 : 0 ≤ v) (h1 : v < 100) : (digS v).length = 2 := by
  have := congrArg List.length (dig_at h0 h1)
  show (digS v).cps.size = 2
  rw [← Array.length_toList]; exact this
def nameAt (s : Int) (k : Nat) (nm : Str) : Prop := ∃ c t, c ∈ letters.cps.toList ∧ t ∈ tailsL ∧ nm = nameOf c ((s + 37 * k) % 100) t
theorem name_ok {s : Int} {k : Nat} {nm : Str} (h : nameAt s k nm) : OkName nm := by
  obtain ⟨c, t, hc, ht, rfl⟩ := h
  have d := dig_at (v := (s + 37 * k) % 100) (by omega) (by omega)
  have e := name_cps c ((s + 37 * k) % 100) t
  rw [d] at e
  have tl : ∀ x ∈ tailsL, x.cps.toList.length ≤ 9 ∧ ∀ y ∈ x.cps.toList, y ∈ letters.cps.toList := by decide +kernel
  have fg : ∀ x ∈ List.range 10, 48 + x ∈ figures.cps.toList := by decide +kernel
  obtain ⟨t1, t2⟩ := tl t ht
  refine ⟨⟨c, by rw [e]; rfl, hc⟩, by rw [e]; simp; simp at t1; omega, fun x hx => ?_⟩
  rw [e] at hx
  simp only [List.mem_cons, List.cons_append, List.nil_append] at hx
  rcases hx with hx | hx | hx | hx
  · subst hx; exact .inl hc
  · subst hx; exact .inr (fg _ (by simp; omega))
  · subst hx; exact .inr (fg _ (by simp; omega))
  · exact .inl (t2 x hx)
theorem name_uni {s : Int} {i j : Nat} {nm : Str} (hi : i < 8) (hj : j < 8) (h : nameAt s i nm) (h' : nameAt s j nm) : i = j := by
  obtain ⟨c, t, _, _, e1⟩ := h
  obtain ⟨c', t', _, _, e2⟩ := h'
  have d := dig_at (v := (s + 37 * i) % 100) (by omega) (by omega)
  have d' := dig_at (v := (s + 37 * j) % 100) (by omega) (by omega)
  have q := name_cps c ((s + 37 * i) % 100) t
  have q' := name_cps c' ((s + 37 * j) % 100) t'
  rw [← e1, d] at q
  rw [← e2, d', q] at q'
  simp only [List.cons_append, List.nil_append, List.cons.injEq] at q'
  obtain ⟨_, a1, a2, _⟩ := q'
  omega
theorem str_short {v : Int} (h0 : 0 ≤ v) (h1 : v < 100) : (Str.ofString (toString (100 + v))).length ≤ sizeLine := by
  have key : ∀ v ∈ List.range 100, (Str.ofString (toString (100 + (v : Int)))).length ≤ 3 := by decide +kernel
  have := key v.toNat (by simp; omega)
  rw [show ((v.toNat : Nat) : Int) = v by omega] at this
  exact Nat.le_trans this (by decide)
def R_names : Rel := fun ds P => ∃ many : Nat, 1 ≤ many ∧ many ≤ 8 ∧ ds = [.src, .int many] ∧ P = fun d => ∃ ns : List Str, d = strsD ns ∧ ns.length = many ∧ ns.Nodup ∧ ∀ n ∈ ns, OkName n
section
variable {M : Mo} {g : G} {Z : Sc} {a b e : Expr} {r : Rho} {pos : Pos} {P : D → Prop}
theorem EP_ixL {xs : List D} (ha : E M g Z a r (.lst xs)) (hb : EP M g Z b r (IntP fun i => 0 ≤ i ∧ i < (xs.length : Int))) (hs : PlainIx b := by intro _ _; rfl) : EP M g Z (.Subscript a b pos) r fun d => d ∈ xs :=
  EP_ix (Pa := fun x => x = .lst xs) ha hb (fun x y ex ⟨i, ei, i0, i1⟩ => by
    subst ex ei
    have hi : i.toNat < xs.length := by omega
    refine ⟨xs[i.toNat], List.getElem_mem hi, ixL ?_⟩
    have := atI_nat (xs := xs) (n := i.toNat) (v := xs[i.toNat]) (by simp [hi])
    rwa [show ((i.toNat : Nat) : Int) = i by omega] at this) hs
theorem EP_ixS {t : Str} (ht : t.length ≤ sizeLine) (ha : E M g Z a r (.str t)) (hb : EP M g Z b r (IntP fun i => 0 ≤ i ∧ i < (t.length : Int))) (hs : PlainIx b := by intro _ _; rfl) : EP M g Z (.Subscript a b pos) r fun d => ∃ c, c ∈ t.cps.toList ∧ d = .str ⟨#[c]⟩ :=
  EP_ix (Pa := fun x => x = .str t) ha hb (fun x y ex ⟨i, ei, i0, i1⟩ => by
    subst ex ei
    have hl : t.cps.toList.length = t.length := Array.length_toList
    have hi : i.toNat < t.cps.toList.length := by rw [hl]; omega
    refine ⟨.str ⟨#[t.cps.toList[i.toNat]]⟩, ⟨_, List.getElem_mem hi, rfl⟩, ixS ht ?_⟩
    have := atI_nat (xs := t.cps.toList) (n := i.toNat) (v := t.cps.toList[i.toNat]) (List.getElem?_eq_getElem hi)
    rwa [show ((i.toNat : Nat) : Int) = i by omega] at this) hs
theorem EP_catS {Pa Pb : Str → Prop} {Pc : D → Prop} (ha : EP M g Z a r fun d => ∃ s, d = .str s ∧ Pa s) (hb : EP M g Z b r fun d => ∃ s, d = .str s ∧ Pb s) (hc : ∀ s t, Pa s → Pb t → s.length + t.length ≤ sizeLine ∧ Pc (.str (s ++ t))) : EP M g Z (.BinOp a .Add b pos) r Pc := EP_op ha hb fun x y ⟨s, es, ps⟩ ⟨t, et, pt⟩ => ⟨_, (hc s t ps pt).2, by rw [es, et]; exact addS s t (hc s t ps pt).1⟩
end
section
variable {M : Mo} (h : Hd M)
include h
theorem w_names_L : FnG M 2 "_law_names" true R_names := by
  refine h.fnG 90 77 fs_names_L bn_names_L (by rintro ds P ⟨m, _, _, rfl, rfl⟩; rfl) ?_
  rintro Z ds P on ⟨many, m1, m2, rfl, rfl⟩
  refine SS_par3P (i := 2) (j := 3) (l := 4) (Ps := fun l1 l2 l3 => (∃ d, l1 = .d d ∧ IntP (fun i => 0 ≤ i ∧ i < 100) d) ∧ l2 = .own [] ∧ l3 = .d (strsD tailsL)) (ALP3 (EP.l (EP_callS on (w_pick_L h) (A2 (E_var 0) E_int) ⟨_, by decide, by decide, rfl, rfl⟩)) (EL.p (EL_lst A_nil)) (EL.p (E.l (E_lst (A_cons E_str (A_cons E_str (A_cons E_str (A2 E_str E_str)))))))) ?_
  rintro l1 l2 l3 ⟨⟨d, rfl, s, rfl, s0, s1⟩, rfl, rfl⟩
  refine SS_forI (IT_range (n := many) (E_var 1) (by omega) (h.free 114)) (fun i r' => ∃ ns : List Str, ns.length = i ∧ (∀ j nm, ns[j]? = some nm → nameAt s j nm) ∧ r' = [some (.d .src), some (.d (.int many)), some (.d (.int s)), some (.own (ns.map D.str)), some (.d (strsD tailsL)), none, none]) ⟨_, ?_, [], rfl, fun j nm e => by simp at e, rfl⟩ ?_ ?_
  · exact Le.rfl'
  · rintro ds e i d hd r' ⟨ns, hl, hn, rfl⟩
    subst e
    have hi : i < many := by
      have := (List.getElem?_eq_some_iff.mp hd).1
      unfold rangeD at this; simpa using this
    have ed : d = .int (i : Int) := by
      have := (List.getElem?_eq_some_iff.mp hd).2
      unfold rangeD at this; rw [← this]; simp
    subst ed
    refine ⟨_, _, G_name 5, ?_⟩
    refine SS_setP 6 (EP_ixS (t := letters) (by decide +kernel) E_str (EP_callS on (w_pick_L h) (A2 (E_var 0) E_int) ⟨_, by decide, by decide, rfl, rfl⟩)) ?_
    rintro x ⟨c, hc, rfl⟩
    have vb : 0 ≤ (s + 37 * (i : Int)) % 100 ∧ (s + 37 * (i : Int)) % 100 < 100 := by omega
    refine SS_appendP (P := fun d => ∃ nm, d = .str nm ∧ nameAt s i nm) (ds := ns.map D.str) 3 (EP_catS (Pa := fun x => x = (⟨#[c]⟩ : Str) ++ digS ((s + 37 * (i : Int)) % 100)) (Pb := fun t => t ∈ tailsL) (E.pr (E_op (E_var 6) (E_slS (t := Str.ofString (toString (100 + (s + 37 * (i : Int)) % 100))) (i := some ((1 : Nat) : Int)) (j := none) (E_callTy (A1 (E_add E_int (E_mod (E_intI h (E_add (E_var 2) (E_mul E_int (E_var 5) (.inl ⟨by decide, by decide⟩)))) E_int))) (clStr _ ?_) (h.free 117)) (.inr ⟨_, _, rfl, rfl, E_int⟩) (.inl ⟨rfl, rfl⟩) ?_) (addS _ _ ?_)) ⟨_, rfl, rfl⟩) (EP.imp (EP_ixL (E_var 4) (EP_callS on (w_pick_L h) (A2 (E_var 0) E_int) ⟨_, by decide, by decide, rfl, rfl⟩)) fun x hx => ?_) fun u t hu ht => ?_) (by rw [List.length_map]; omega) ?_
    · have e : (100 + (s + 37 * (i : Int)) % 100).natAbs < 2 ^ 64 := by omega
      have := (Nat.log2_lt (n := (100 + (s + 37 * (i : Int)) % 100).natAbs) (k := 64) (by omega)).mpr e
      omega
    · exact str_short vb.1 vb.2
    · show _ + (digS ((s + 37 * (i : Int)) % 100)).length ≤ sizeLine
      rw [dig_len vb.1 vb.2]
      exact Nat.le_trans (show 1 + 2 ≤ 100 by decide) (by decide)
    · obtain ⟨t, ht, rfl⟩ := List.mem_map.mp hx
      exact ⟨t, rfl, ht⟩
    · subst hu
      refine ⟨?_, nameOf c ((s + 37 * (i : Int)) % 100) t, rfl, c, t, hc, ht, rfl⟩
      have e1 : ((⟨#[c]⟩ : Str) ++ digS ((s + 37 * (i : Int)) % 100)).length = 3 := by
        have d := dig_at vb.1 vb.2
        show ((#[c] ++ (digS ((s + 37 * (i : Int)) % 100)).cps) : Array Nat).size = 3
        rw [Array.size_append, ← Array.length_toList (xs := (digS ((s + 37 * (i : Int)) % 100)).cps), d]; rfl
      have e2 : ∀ x ∈ tailsL, x.length ≤ 9 := by decide +kernel
      have := e2 t ht
      rw [e1]
      exact Nat.le_trans (show 3 + t.length ≤ 100 by omega) (by decide)
    · rintro x ⟨nm, rfl, hx⟩
      refine SS_nil ⟨_, ?_, ns ++ [nm], by simp [hl], fun j z hz => ?_, rfl⟩
      · rw [List.map_append]
        exact Le.keep (Le.keep (Le.keep (Le.keep (Le.keep (Le.drop (Le.drop Le.nil))))))
      · by_cases q : j < ns.length
        · rw [List.getElem?_append_left q] at hz; exact hn j z hz
        · rw [List.getElem?_append_right (by omega)] at hz
          have q0 : j - ns.length = 0 := by
            have := (List.getElem?_eq_some_iff.mp hz).1
            simp at this; omega
          rw [q0] at hz
          simp at hz
          subst hz
          have : j = i := by omega
          subst this; exact hx
  · rintro ds e r' ⟨ns, hl, hn, rfl⟩
    subst e
    have hl : ns.length = many := by unfold rangeD at hl; simpa using hl
    refine SS_give 3 ?_
    refine SS_ret (E_var 3) ⟨ns, rfl, hl, ?_, fun n hx => ?_⟩
    · rw [List.nodup_iff_pairwise_ne, List.pairwise_iff_getElem]
      intro i j hi hj hij e
      have := name_uni (i := i) (j := j) (by omega) (by omega) (hn i _ (List.getElem?_eq_getElem hi)) (by rw [e]; exact hn j _ (List.getElem?_eq_getElem hj))
      omega
    · obtain ⟨i, hi, e⟩ := List.mem_iff_getElem.mp hx
      exact name_ok (hn i n (by rw [← e]; exact List.getElem?_eq_getElem hi))
end
end OC
set_option maxHeartbeats 4000000
/-! The law draws words. -/
namespace OC
open PySem PySem.Spec PyProof.Rows L2
def words0 : List Str := ["a", "b", "at", "voice", "standing", "abcdefghijkl", "z0"]
def alphaN (k : Nat) : Str := ("alpha" : Str) ++ Str.ofString (toString (k : Int))
def wordsL : List Str := words0 ++ (List.range 40).map alphaN
theorem OkName.ofB {s : Str} (h : ((s.cps.toList.head?.any fun c => letters.cps.toList.contains c) && (decide (s.cps.toList.length ≤ 12) && s.cps.toList.all fun c => letters.cps.toList.contains c || figures.cps.toList.contains c)) = true) : OkName s := by
  simp only [Bool.and_eq_true, decide_eq_true_eq, List.all_eq_true, Bool.or_eq_true, List.contains_iff_mem] at h
  obtain ⟨h1, h2, h3⟩ := h
  refine ⟨?_, h2, h3⟩
  cases e : s.cps.toList.head? with
  | none => rw [e] at h1; cases h1
  | some c =>
    rw [e] at h1
    rw [List.head?_eq_getElem?] at e
    exact ⟨c, e, by simpa using h1⟩
theorem words_ok : ∀ s ∈ wordsL, OkName s := fun s hs => OkName.ofB (by
  have : ∀ s ∈ wordsL, ((s.cps.toList.head?.any fun c => letters.cps.toList.contains c) && (decide (s.cps.toList.length ≤ 12) && s.cps.toList.all fun c => letters.cps.toList.contains c || figures.cps.toList.contains c)) = true := by decide +kernel
  exact this s hs)
theorem words_nd : wordsL.Nodup := by decide +kernel
theorem alpha_len : ∀ k ∈ List.range 40, (Str.ofString (toString (k : Int))).length ≤ 2 := by decide +kernel
section
variable {M : Mo} {g : G} {Z : Sc} {a b e : Expr} {r : Rho} {pos : Pos} {P : D → Prop}
theorem EP_slL {Pa : List D → Prop} {lo hi : Option Expr} {i j : Option Int} {p2 : Pos} (ha : EP M g Z a r fun d => ∃ ds, d = .lst ds ∧ Pa ds) (hl : OPt M g Z lo r i) (hh : OPt M g Z hi r j) : EP M g Z (.Subscript a (.Slice lo hi none p2) pos) r fun d => ∃ ds, d = .lst (cutL ds i j) ∧ Pa ds := fun X ok B0 H0 B H σ R Q q => by
  refine ⟨_, pe_slice sl_list pe_w po_w po_w, ?_⟩
  refine ha X ok B0 H0 B H σ R _ fun x v B1 H1 ⟨ds, ex, pa⟩ f1 r1 => ?_
  subst ex
  refine hl.use ok (R.step f1) _ fun B2 H2 f2 => ?_
  refine hh.use ok ((R.step f1).step f2) _ fun B3 H3 f3 => ?_
  have f13 := (f1.tr f2 R.src).tr f3 R.src
  cases r1 with
  | lst h1 k1 =>
    rename_i vs p
    refine ⟨p, vs, rfl, SqL.of (f3.s _ _ (f3.b _ _ (f2.b _ _ h1))), fun p' hp' => ?_⟩
    refine q _ _ _ _ ⟨ds, rfl, pa⟩ (f13.add R.src hp') (.lst upd_same ?_)
    have k3 := ((k1.mono f2.b).mono f3.b).mono (Ex.new (o := .lst (cutV vs i j)) (f3.s.n hp'))
    unfold cutL cutV
    rw [k3.len]
    exact (k3.drop _).take _
end
section
variable {M : Mo} (h : Hd M)
include h
theorem w_words_L : FnG M 3 "_law_words" true R_names := by
  refine h.fnG 91 78 fs_words_L bn_words_L (by rintro ds P ⟨m, _, _, rfl, rfl⟩; rfl) ?_
  rintro Z ds P on ⟨many, m1, m2, rfl, rfl⟩
  refine SS_ifP (P := fun _ => True) (TP_cmp (EP_callS on (w_pick_L h) (A2 (E_var 0) E_int) ⟨_, by decide, by decide, rfl, rfl⟩) E_int fun x y ⟨i, ei, _⟩ ey => ⟨decide (0 < i), trivial, by rw [ei, ey]; exact gtI _ _⟩) (fun _ => ?_) fun _ => ?_
  · exact SS_retP (EP_callS on (w_names_L h) (A2 (E_var 0) (E_var 1)) ⟨_, m1, m2, rfl, rfl⟩) fun x hx => hx
  · refine SS_nil ?_
    refine SS_set (x := strsD wordsL) 2 (E.of (E_cat (E_lst (A_cons E_str (A_cons E_str (A_cons E_str (A_cons E_str (A_cons E_str (A2 E_str E_str))))))) (E_lcm (l := List.range 40) (gf := fun k => D.int (k : Int)) [("_law_k", 3)] D.str alphaN (IT_range (n := 40) E_int (by decide) (h.free 114)) (fun k hk => ⟨_, _, G_name 3, by decide, E_op E_str (E_callB (A1 (E_var 3)) (clRepr _ ?_) (h.free 115)) (addS _ _ ?_)⟩) (by simp)) ?_) ?_) ?_
    · have : k < 40 := by simpa using hk
      have e : ((k : Int)).natAbs < 2 ^ 64 := by omega
      by_cases k0 : ((k : Int)).natAbs = 0
      · rw [k0]; decide
      · have := (Nat.log2_lt (n := ((k : Int)).natAbs) (k := 64) k0).mpr e
        omega
    · have := alpha_len k hk
      exact Nat.le_trans (show 5 + (Str.ofString (toString (k : Int))).length ≤ 100 by omega) (by decide)
    · simp only [List.length_map, List.length_range]
      exact Nat.le_trans (show _ ≤ 100 by decide) (by decide)
    · show D.lst (words0.map D.str ++ _) = _
      rw [← List.map_append]; rfl
    · refine SS_retP (EP_slL (Pa := fun ds => ∃ ms : List Str, ds = ms.map D.str ∧ ms.Perm wordsL) (i := none) (j := some (many : Int)) (EP.imp (EP_callS on (w_mixed_L h) (A2 (E_var 0) (E_var 2)) ⟨wordsL, by decide, rfl, rfl⟩) fun x ⟨ms, e, pm⟩ => ⟨_, e, ms, rfl, pm⟩) (.inl ⟨rfl, rfl⟩) (.inr ⟨_, _, rfl, rfl, E_var 1⟩)) ?_
      rintro x ⟨ds, rfl, ms, rfl, pm⟩
      refine ⟨ms.take many, by rw [cutL_take, ← List.map_take], ?_, ?_, fun n hn => words_ok n (pm.subset (List.mem_of_mem_take hn))⟩
      · have l : ms.length = 47 := pm.length_eq
        rw [List.length_take]; omega
      · exact (pm.nodup_iff.mpr words_nd).sublist (List.take_sublist _ _)
end
end OC
set_option maxHeartbeats 4000000
/-! The law draws people. -/
namespace OC
open PySem PySem.Spec PyProof.Rows L2
section
variable {M : Mo} {g : G} {Z : Sc} {e a b c : Expr} {es : List Expr} {r : Rho} {pos p : Pos}
theorem EP_listZip3 {Pz : List D → List D → List D → Prop} {p p2 pos2 : Pos} (he : AP M g Z [a, b, c] r fun xs => ∃ ds es fs, xs = [.lst ds, .lst es, .lst fs] ∧ Pz ds es fs ∧ ds.length ≤ 1000) (hm : M.mg "list" = none) (hm2 : M.mg "zip" = none) (hg : GlS g "list" := by rfl) (hg2 : GlS g "zip" := by rfl) (hs : ∀ env, starEach [a, b, c] env = (false, eval a env) :: starEach [b, c] env := by intro _; rfl) (hpl : ∀ env, (backTo pos2 (starEach [b, c] env)).any (·.1) = false := by intro _; rfl) :
    EP M g Z (.Call (.Name "list" p) [.Call (.Name "zip" p2) [a, b, c] [] pos2] [] pos) r (fun d => ∃ ds es fs, d = .lst (zip3D ds es fs) ∧ Pz ds es fs) := fun X ok B0 H0 B H σ R Q q => by
  refine ⟨_, pe_listZip3 ok.calm pa_w (ok.gl hg) (by rw [ok.mg]; exact hm) (ok.gl hg2) (by rw [ok.mg]; exact hm2) (hs _) (hpl _), ?_⟩
  refine he X ok B0 H0 B H σ R _ fun xs vs B1 H1 ⟨ds, es, fs, px, pz, hl⟩ f1 r1 => ?_
  subst px
  cases r1 with
  | cons ra rr => cases rr with
    | cons rb rr => cases rr with
      | cons rc rr => cases rr with
        | nil =>
          cases ra with
          | lst h1 k1 => cases rb with
            | lst h2 k2 => cases rc with
              | lst h3 k3 =>
                have l1 := k1.len
                have l2 := k2.len
                have l3 := k3.len
                refine ⟨_, _, _, _, _, _, rfl, SqL.of (f1.s _ _ h1), SqL.of (f1.s _ _ h2), SqL.of (f1.s _ _ h3), by omega, fun H' S as kp nS nas hS nd eS hlen off hat => ?_⟩
                -- what is new
                have bS := f1.s.n nS
                let B' : Hp := fun x => if x = S ∨ x ∈ as then H' x else B1 x
                have hB1 : ∀ x o, B1 x = some o → ¬ (x = S ∨ x ∈ as) := fun x o e z => by
                  rcases z with z | z
                  · rw [z, bS] at e; cases e
                  · have := f1.s _ _ e
                    rw [nas x z] at this; cases this
                have ex : Ex B1 B' := fun x o e => by
                  show (if _ then _ else _) = _
                  rw [if_neg (hB1 x o e)]; exact e
                have exH : Ex B' H' := fun x o e => by
                  have e : (if x = S ∨ x ∈ as then H' x else B1 x) = some o := e
                  by_cases z : x = S ∨ x ∈ as
                  · rw [if_pos z] at e; exact e
                  · rw [if_neg z] at e; exact kp _ _ (f1.s _ _ e)
                have inB : ∀ x, (x = S ∨ x ∈ as) → B' x = H' x := fun x z => if_pos z
                refine q _ _ B' H' ⟨ds, es, fs, rfl, pz⟩ ⟨f1.b.tr ex, fun x o e z => kp _ _ (f1.h x o e z), exH, fun x o e n => ?_, fun z => ?_⟩ (.lst ((inB S (.inl rfl)).trans eS) ?_)
                · have n1 := f1.hid x o e n
                  show (if _ then _ else _) = _
                  by_cases z : x = S ∨ x ∈ as
                  · exfalso
                    by_cases on : Z.on = true ∧ (x = Z.s ∨ x = Z.c)
                    · obtain ⟨_, cs, ll, mm, tt, _, _, _, _, g1, g2⟩ := f1.src on.1
                      rcases on.2 with w | w
                      · subst w
                        rcases z with z | z
                        · rw [z] at g1; rw [nS] at g1; cases g1
                        · rw [nas _ z] at g1; cases g1
                      · subst w
                        rcases z with z | z
                        · rw [z] at g2; rw [nS] at g2; cases g2
                        · rw [nas _ z] at g2; cases g2
                    · have g1 := f1.h x o e fun y => ⟨fun w => on ⟨y, .inl w⟩, fun w => on ⟨y, .inr w⟩⟩
                      rcases z with z | z
                      · rw [z, nS] at g1; cases g1
                      · rw [nas _ z] at g1; cases g1
                  · rw [if_neg z]; exact n1
                · obtain ⟨ne, cs, ll, mm, tt, a1, a2, a3, a4, g1, g2⟩ := f1.src z
                  exact ⟨ne, cs, ll, mm, tt, a1, a2, a3, a4, kp _ _ g1, kp _ _ g2⟩
                · -- the tuples
                  have hzl : (zip3D ds es fs).length = as.length := by rw [zip3_len, hlen]; omega
                  have key : ∀ (l : List D) (m : List Addr), l.length = m.length → (∀ (j : Nat) (d : D) (t : Addr), l[j]? = some d → m[j]? = some t → RD M.C Z.s B' d (.ref t)) → RDs M.C Z.s B' l (m.map V.ref) := by
                    intro l
                    induction l with
                    | nil => intro m hm _; cases m with
                      | nil => exact .nil
                      | cons x m => simp at hm
                    | cons d l ih => intro m hm hh; cases m with
                      | nil => simp at hm
                      | cons t m => exact .cons (hh 0 d t rfl rfl) (ih m (by simpa using hm) fun j d t e1 e2 => hh (j + 1) d t (by simpa using e1) (by simpa using e2))
                  refine key _ _ hzl fun j d t e1 e2 => ?_
                  obtain ⟨x, y, z, g1, g2, g3, rfl⟩ := zip3_get e1
                  obtain ⟨v1, v2, v3, w1, w2, w3, ht⟩ := hat j t e2
                  obtain ⟨v1', g1', r1⟩ := k1.atD g1
                  obtain ⟨v2', g2', r2⟩ := k2.atD g2
                  obtain ⟨v3', g3', r3⟩ := k3.atD g3
                  rw [w1] at g1'; cases g1'
                  rw [w2] at g2'; cases g2'
                  rw [w3] at g3'; cases g3'
                  exact .tup ((inB t (.inr (List.mem_of_getElem? e2))).trans ht) (.cons (r1.mono ex) (.cons (r2.mono ex) (.cons (r3.mono ex) .nil)))
theorem EP_intB (h : Hd M) {P : Bool → Prop} {Pe : Int → Prop} (ha : EP M g Z a r fun d => ∃ b, d = .bl b ∧ P b) (hp : ∀ b : Bool, P b → Pe (if b then 1 else 0)) (hg : GlS g "int" := by rfl) (hs : ∀ env, starEach [a] env = (false, eval a env) :: starEach [] env := by intro _; rfl) : EP M g Z (.Call (.Name "int" p) [a] [] pos) r (IntP Pe) := fun X ok B0 H0 B H σ R Q q => by
  refine ⟨_, pe_callTy (T := "int") cl_w (ok.gl hg) (by rw [ok.mg]; exact h.free 108) (by decide +kernel) (pa_cons pe_w pa_nil (hs _)) (by decide) (by decide) (hs _) (by rfl), ?_⟩
  refine ha X ok B0 H0 B H σ R _ fun x v B1 H1 ⟨n, en, pn⟩ f1 r1 => ?_
  subst en
  exact clIntB n X ok B1 H1 [v] f1.s f1.src (.cons r1 .nil) Q fun w B2 H2 f2 r2 => q _ _ B2 H2 ⟨_, rfl, hp n pn⟩ (f1.tr f2 R.src) r2
def isBit : Int → Prop := fun v => v = 0 ∨ v = 1
def bits (n : Nat) : List D → Prop := fun xs => xs.length = n ∧ ∀ d ∈ xs, IntP isBit d
theorem AP_bit {n : Nat} (h : EP M g Z e r (IntP isBit)) (h' : AP M g Z es r (bits n)) (hs : ∀ env, starEach (e :: es) env = (false, eval e env) :: starEach es env := by intro _; rfl) : AP M g Z (e :: es) r (bits (n + 1)) :=
  AP_cons h h' (fun x xs hx ⟨l, k⟩ => ⟨by simp [l], fun d hd => by
    rcases List.mem_cons.mp hd with z | z
    · rw [z]; exact hx
    · exact k d z⟩) hs
theorem AP_bit0 : AP M g Z [] r (bits 0) := fun X ok B0 H0 B H σ R Q q => A_nil X ok B0 H0 B H σ R Q fun x v B' H' px => q x v B' H' (by rw [px]; exact ⟨rfl, fun d hd => by simp at hd⟩)
end
def R_near : Rel := fun ds P => ∃ many : Nat, 1 ≤ many ∧ many ≤ 8 ∧ ds = [.src, .int many, .int 12] ∧ P = fun d => ∃ ps, Good ps ∧ (∃ s : Int, ∀ p ∈ ps, s ≤ p.pl ∧ p.pl ≤ s + 12) ∧ d = peopleD ps
section
variable {M : Mo} (h : Hd M)
include h
theorem w_near_people_L : FnG M 4 "_law_near_people" true R_near := by
  refine h.fnG 92 79 fs_near_people_L bn_near_people_L (by rintro ds P ⟨m, _, _, rfl, rfl⟩; rfl) ?_
  rintro Z ds P on ⟨many, m1, m2, rfl, rfl⟩
  refine SS_parCP (i := 3) (j := 4) (Ps := fun l m => (∃ d, l = .d d ∧ IntP (fun i => 0 ≤ i ∧ i < 4) d) ∧ ∃ d, m = .d d ∧ IntP (fun _ => True) d) (ALP2 (EP.l (EP_callS on (w_pick_L h) (A2 (E_var 0) E_int) ⟨_, by decide, by decide, rfl, rfl⟩)) (EP.l (EP.imp (EP_callS on (w_of_L h) (A2 (E_var 0) (E_lst (A_cons E_int (A_cons E_int (A_cons (E_neg E_int) (A2 E_int (E_op E_int E_int (powI 10 20 ⟨by decide, by decide, by decide⟩)))))))) ⟨_, by decide, by decide, rfl, rfl⟩) fun x hx => ?_))) ?_
  · simp only [List.mem_cons, List.not_mem_nil, or_false] at hx
    rcases hx with k | k | k | k | k <;> exact ⟨_, k, trivial⟩
  rintro l m ⟨⟨d, rfl, way, rfl, w0, w1⟩, d2, rfl, start, rfl, -⟩
  refine SS_setLc (Q0 := fun d => ∃ vs : List Int, d = .lst (vs.map D.int) ∧ vs.length = many ∧ ∀ v ∈ vs, isBit v) 5 (LC_of [("_law_lap", 7)] (IT_range (n := many) (E_var 1) (by omega) (h.free 114)) (by exact ⟨rfl, by decide +kernel, by decide +kernel, by decide +kernel, by decide +kernel⟩) (fun i acc => ∃ vs : List Int, acc = vs.map D.int ∧ vs.length = i ∧ ∀ v ∈ vs, isBit v) ⟨[], rfl, rfl, fun v hv => by simp at hv⟩ ?_ (fun ds e => by subst e; unfold rangeD; simp; omega) (fun ds acc e ⟨vs, e1, e2, e3⟩ => ⟨vs, by rw [e1], by subst e; unfold rangeD at e2; simpa using e2, e3⟩)) ?_
  · rintro ds e i d hd
    subst e
    refine ⟨_, _, true, G_name 7, by decide, .inl ⟨rfl, rfl⟩, fun _ => ?_, fun z => nomatch z⟩
    refine EP.imp (EP_ix (P := IntP isBit) (Pa := fun x => ∃ xs, x = .lst xs ∧ bits 4 xs) (Pb := fun x => x = .int way) (EP_lst (AP_bit (E.ip E_int (.inr rfl)) (AP_bit (E.ip E_int (.inr rfl)) (AP_bit (EP.ip (EP_callS on (w_pick_L h) (A2 (E_var 0) E_int) ⟨_, by decide, by decide, rfl, rfl⟩) fun i hi => by unfold isBit; omega) (AP_bit (EP_intB h (P := fun _ => True) (EP_cmp (Pa := IntP fun _ => True) (Pb := fun x => x = .int 0) (EP.ip (EP_callS on (w_pick_L h) (A2 (E_var 0) E_int) ⟨_, by decide, by decide, rfl, rfl⟩) fun _ _ => trivial) E_int fun x y ⟨i, ei, _⟩ ey => ⟨.bl (decide (0 < i)), ⟨_, rfl, trivial⟩, by rw [ei, ey]; exact gtI _ _⟩) fun b _ => by cases b <;> simp [isBit]) AP_bit0)))) (fun xs hx => ⟨xs, rfl, hx⟩) fun xs hx => by rw [hx.1]; decide) (E_var 3) fun x y ⟨xs, ex, hl, hx⟩ ey => ?_) fun x ⟨v, ex, hv⟩ acc ⟨vs, e1, e2, e3⟩ => ?_
    · subst ex ey
      have hw : way.toNat < xs.length := by omega
      refine ⟨xs[way.toNat], hx _ (List.getElem_mem hw), ixL ?_⟩
      have := atI_nat (xs := xs) (n := way.toNat) (v := xs[way.toNat]) (by simp [hw])
      rwa [show ((way.toNat : Nat) : Int) = way by omega] at this
    · subst ex
      refine ⟨vs ++ [v], by rw [e1]; simp, by simp [e2], fun z hz => ?_⟩
      rcases List.mem_append.mp hz with k | k
      · exact e3 z k
      · rw [List.mem_singleton] at k; rw [k]; exact hv
  rintro x ⟨vcs, rfl, vl, vb⟩
  refine SS_setLc (Q0 := fun d => ∃ vs : List Int, d = .lst (vs.map D.int) ∧ vs.length = many ∧ ∀ v ∈ vs, start ≤ v ∧ v ≤ start + 12) 6 (LC_of [("_law_lap", 7)] (IT_range (n := many) (E_var 1) (by omega) (h.free 114)) (by exact ⟨rfl, by decide +kernel, by decide +kernel, by decide +kernel, by decide +kernel⟩) (fun i acc => ∃ vs : List Int, acc = vs.map D.int ∧ vs.length = i ∧ ∀ v ∈ vs, start ≤ v ∧ v ≤ start + 12) ⟨[], rfl, rfl, fun v hv => by simp at hv⟩ ?_ (fun ds e => by subst e; unfold rangeD; simp; omega) (fun ds acc e ⟨vs, e1, e2, e3⟩ => ⟨vs, by rw [e1], by subst e; unfold rangeD at e2; simpa using e2, e3⟩)) ?_
  · rintro ds e i d hd
    subst e
    refine ⟨_, _, true, G_name 7, by decide, .inl ⟨rfl, rfl⟩, fun _ => ?_, fun z => nomatch z⟩
    refine EP.imp (EP_add2 (Pa := fun i => i = start) (Pc := fun v => start ≤ v ∧ v ≤ start + 12) (E.ip (E_var 4) rfl) (EP_callS on (w_pick_L h) (A2 (E_var 0) (E_add (E_var 2) E_int)) ⟨12 + 1, by decide, by decide, rfl, rfl⟩) fun i j ei hj => by subst ei; omega) fun x ⟨v, ex, hv⟩ acc ⟨vs, e1, e2, e3⟩ => ?_
    subst ex
    refine ⟨vs ++ [v], by rw [e1]; simp, by simp [e2], fun z hz => ?_⟩
    rcases List.mem_append.mp hz with k | k
    · exact e3 z k
    · rw [List.mem_singleton] at k; rw [k]; exact hv
  rintro x ⟨pls, rfl, pl, pb⟩
  refine SS_retP (EP_listZip3 (Pz := fun ds es fs => ∃ ns : List Str, ds = ns.map D.str ∧ es = pls.map D.int ∧ fs = vcs.map D.int ∧ ns.length = many ∧ ns.Nodup ∧ ∀ n ∈ ns, OkName n) (AP_cons (EP_callS on (w_words_L h) (A2 (E_var 0) (E_var 1)) ⟨_, m1, m2, rfl, rfl⟩) (A2 (E_var 6) (E_var 5)) fun x xs ⟨ns, ex, n1, n2, n3⟩ exs => ⟨ns.map D.str, _, _, by rw [ex, exs], ⟨ns, rfl, rfl, rfl, n1, n2, n3⟩, by rw [List.length_map]; omega⟩) (h.free 111) (h.free 121)) ?_
  rintro x ⟨ds, es, fs, rfl, ns, rfl, rfl, rfl, n1, n2, n3⟩
  have ep : zip3D (ns.map D.str) (pls.map D.int) (vcs.map D.int) = ((ns.zip (pls.zip vcs)).map fun q => (⟨q.1, q.2.1, q.2.2⟩ : Per)).map perD := by rw [zip3D_map, List.map_map]; rfl
  rw [ep]
  have lz : (ns.zip (pls.zip vcs)).length = many := by rw [List.length_zip, List.length_zip]; omega
  have en : ((ns.zip (pls.zip vcs)).map fun q => (⟨q.1, q.2.1, q.2.2⟩ : Per)).map (·.nm) = ns := by
    rw [List.map_map]
    show (ns.zip (pls.zip vcs)).map Prod.fst = ns
    rw [List.map_fst_zip]
    rw [List.length_zip]; omega
  refine ⟨_, ⟨?_, ?_, by rw [en]; exact n2, fun p hp => ?_, fun p hp => ?_⟩, ⟨start, fun p hp => ?_⟩, rfl⟩
  · intro z
    have := congrArg List.length z
    rw [List.length_map, lz] at this
    simp at this; omega
  · rw [List.length_map, lz]; exact m2
  · obtain ⟨q, hq, rfl⟩ := List.mem_map.mp hp
    exact n3 _ (List.of_mem_zip hq).1
  · obtain ⟨q, hq, rfl⟩ := List.mem_map.mp hp
    exact vb _ (List.of_mem_zip (List.of_mem_zip hq).2).2
  · obtain ⟨q, hq, rfl⟩ := List.mem_map.mp hp
    exact pb _ (List.of_mem_zip (List.of_mem_zip hq).2).1
end
end OC
set_option maxHeartbeats 4000000
/-! The law draws a goal. -/
namespace OC
open PySem PySem.Spec PyProof.Rows L2
section
variable {M : Mo} {g : G} {Z : Sc} {e a b o : Expr} {es : List Expr} {r : Rho} {xs : List D} {pos : Pos} {j : Nat} {P : D → Prop} {R : Rel}
theorem EP_callQ {nm : Str} {p : Pos} {Ps : List D → Prop} (F : FnG M j nm false R) (h : AP M g Z (e :: es) r Ps) (hR : ∀ xs, Ps xs → ∃ P', R xs P' ∧ ∀ x, P' x → P x) (hj : j ≤ g.k := by decide) (hg : GlS g nm := by rfl) (hdb : (nm == ("__debug__" : Str)) = false := by decide)
    (he : ∀ env, starEach (e :: es) env = (false, eval e env) :: starEach es env := by intro _; rfl) (hpl : ∀ env, (backTo pos (starEach es env)).any (·.1) = false := by intro _; rfl) : EP M g Z (.Call (.Name nm p) (e :: es) [] pos) r P := fun X ok B0 H0 B H σ Rs Q q => by
  obtain ⟨f, fd, ps, F, hm, hk, hb⟩ := F.ex
  refine ⟨_, pe_call (ok.fn' F) (ok.room.mono hj) (ok.gl hg) (by rw [ok.mg]; exact hm) (by rw [ok.K]; exact hk) (by rw [ok.K]; exact hb) .nil pass0 pa_w hdb (he _) (hpl _), ?_⟩
  refine h X ok B0 H0 B H σ Rs _ fun xs vs B1 H1 px f1 r1 => ?_
  rw [List.append_nil]
  obtain ⟨P', hP, imp⟩ := hR _ px
  exact spD_off f1.s f1.src r1 hP fun d v B' H' p f r => q d v B' H' (imp d p) (f1.tr f Rs.src) r
theorem EP_callSQ {nm : Str} {p : Pos} {Ps : List D → Prop} (hon : Z.on = true) (F : FnG M j nm true R) (h : AP M g Z (e :: es) r Ps) (hR : ∀ xs, Ps xs → ∃ P', R xs P' ∧ ∀ x, P' x → P x) (hj : j ≤ g.k := by decide) (hg : GlS g nm := by rfl) (hdb : (nm == ("__debug__" : Str)) = false := by decide)
    (he : ∀ env, starEach (e :: es) env = (false, eval e env) :: starEach es env := by intro _; rfl) (hpl : ∀ env, (backTo pos (starEach es env)).any (·.1) = false := by intro _; rfl) : EP M g Z (.Call (.Name nm p) (e :: es) [] pos) r P := fun X ok B0 H0 B H σ Rs Q q => by
  obtain ⟨f, fd, ps, F, hm, hk, hb⟩ := F.ex
  refine ⟨_, pe_call (ok.fn' F) (ok.room.mono hj) (ok.gl hg) (by rw [ok.mg]; exact hm) (by rw [ok.K]; exact hk) (by rw [ok.K]; exact hb) .nil pass0 pa_w hdb (he _) (hpl _), ?_⟩
  refine h X ok B0 H0 B H σ Rs _ fun xs vs B1 H1 px f1 r1 => ?_
  rw [List.append_nil]
  obtain ⟨P', hP, imp⟩ := hR _ px
  refine ⟨Z, B1, _, P', hon, hP, f1.s, f1.src, fun z => ?_, r1, fun d v B' H' p f r => q d v B' H' (imp d p) (f1.tr f Rs.src) r⟩
  obtain ⟨_, cs, l, m, t, _, _, _, _, e1, e2⟩ := Rs.s0 z
  have ff := Rs.fr.tr f1 Rs.s0
  exact ⟨ff.hid _ _ e1 (Rs.hz z).1, ff.hid _ _ e2 (Rs.hz z).2⟩
end
/-- people reached by calls -/
def Reached (ps : List Per) (f : Int → Int) : Prop := ∀ lo hi H, Box ps lo hi → Hts ps lo H → ∃ n l r, Nec ps lo hi H f n l r
theorem reached_id (ps : List Per) : Reached ps fun x => x := fun lo hi H bx hH => ⟨0, 0, 0, nec_id bx hH⟩
theorem Reached.call {ps : List Per} {f : Int → Int} (gd : Good ps) (h : Reached ps f) {nm : Str} (hn : nm ∈ ps.map (·.nm)) (hc : canCall (st ps f) nm = true) : Reached ps (pull (f (plc ps nm)) 1 f) := fun lo hi H bx hH => by
  obtain ⟨n, l, r, N⟩ := h lo hi H bx hH
  obtain ⟨l', r', N'⟩ := nec_call gd bx hH N hn hc
  exact ⟨_, _, _, N'⟩
theorem Sh_strsC {ps : List Per} (gd : Good ps) : Sh 1 (strsD (callers ps)) := Sh_strs fun n hn => names_ok gd (callers_at hn).1
def R_goal : Rel := fun ds P => ∃ ps, Good ps ∧ ds = [.src, peopleD ps, .int 12] ∧ P = fun d => ∃ f, Reached ps f ∧ d = spotsD (st ps f)
section
variable {M : Mo} (h : Hd M)
include h
theorem w_goal_L : FnG M 3 "_law_goal" true R_goal := by
  refine h.fnG 109 96 fs_goal_L bn_goal_L (by rintro ds P ⟨ps, _, rfl, rfl⟩; rfl) ?_
  rintro Z ds P on ⟨ps, gd, rfl, rfl⟩
  refine SS_forI (IT_rangeP (nm := "range") (Pn := fun n => n < 13) (EP_callS on (w_pick_L h) (A2 (E_var 0) (E_add (E_var 2) E_int)) ⟨12 + 1, by decide, by decide, rfl, rfl⟩) (fun x ⟨i, ex, i0, i1⟩ => ⟨i.toNat, by rw [ex, show ((i.toNat : Nat) : Int) = i by omega], by omega, by omega⟩) (h.free 114)) (fun i r' => ∃ f, Reached ps f ∧ r' = [some (.d .src), some (.d (peopleD (st ps f))), some (.d (.int 12)), none, none]) ⟨_, ?_, fun x => x, reached_id ps, rfl⟩ ?_ ?_
  · rw [st_id]; exact Le.rfl'
  · rintro ds ⟨n, hn, rfl⟩ i d hd r' ⟨f, rf, rfl⟩
    have gs := st_good gd f
    refine ⟨_, _, G_name 3, ?_⟩
    refine SS_set (x := strsD (callers (st ps f))) 4 (EP_call (w_callers_L h) (A1 (E_var 1)) ⟨_, gs, rfl, rfl⟩) ?_
    refine SS_setP (P := fun d => ∃ f', Reached ps f' ∧ d = peopleD (st ps f')) 1 (EP_if (T_cmp (E_var 4) (E_lst A_nil) (neD (Sh_strsC gs) (.lst (n := 0) fun _ k => by simp at k) (eqv_nil _))) (fun hne => ?_) fun _ => (E_var 1).pr ⟨f, rf, rfl⟩) ?_
    · have hl : 1 ≤ ((callers (st ps f)).map D.str).length := by
        cases e : callers (st ps f) with
        | nil => rw [e] at hne; cases hne
        | cons x l => simp
      have hl2 : ((callers (st ps f)).map D.str).length < 1000000 := by
        have := callers_len gs
        rw [List.length_map]; omega
      refine EP_callQ (w_called_L h) (AP_cons (P' := fun xs => ∃ n, n ∈ callers (st ps f) ∧ xs = [peopleD (st ps f), .int (plc (st ps f) n)]) (E_var 1) (AP_cons (P' := fun xs => ∃ n, n ∈ callers (st ps f) ∧ xs = [.int (plc (st ps f) n)]) (EP_callQ (P := fun d => ∃ n, n ∈ callers (st ps f) ∧ d = .int (plc (st ps f) n)) (w_place_L h) (AP_cons (P' := fun xs => ∃ n, n ∈ callers (st ps f) ∧ xs = [peopleD (st ps f), .str n]) (E_var 1) (AP_cons (P' := fun xs => ∃ n, n ∈ callers (st ps f) ∧ xs = [.str n]) (EP_callS on (w_of_L h) (A2 (E_var 0) (E_var 4)) ⟨_, hl, hl2, rfl, rfl⟩) A_nil fun x xs hx e => ?_) fun x xs ex ⟨n, hn, e⟩ => ⟨n, hn, by rw [ex, e]⟩) fun xs ⟨n, hn, e⟩ => ⟨_, ⟨_, n, gs, (callers_at hn).1, e, rfl⟩, fun x ex => ⟨n, hn, ex⟩⟩) A_nil fun x xs ⟨n, hn, ex⟩ e => ⟨n, hn, by rw [ex, e]⟩) fun x xs ex ⟨n, hn, e⟩ => ⟨n, hn, by rw [ex, e]⟩) fun xs ⟨n, hn, e⟩ => ⟨_, ⟨_, _, gs, e, rfl⟩, fun x ex => ?_⟩
      · obtain ⟨n, hn, rfl⟩ := List.mem_map.mp hx
        exact ⟨n, hn, by rw [e]⟩
      · obtain ⟨c1, c2⟩ := callers_at hn
        rw [st_names] at c1
        refine ⟨_, rf.call gd c1 c2, ?_⟩
        rw [ex]
        show peopleD (drawn (st ps f) (plc (st ps f) n) 1) = _
        rw [drawn_st, plc_st f gd c1]
    · rintro x ⟨f', rf', rfl⟩
      exact SS_nil ⟨_, Le.keep (Le.keep (Le.keep (Le.drop (Le.drop Le.nil)))), f', rf', rfl⟩
  · rintro ds ⟨n, hn, rfl⟩ r' ⟨f, rf, rfl⟩
    exact SS_ret (EP_call (w_spots_L h) (A1 (E_var 1)) ⟨_, st_good gd f, rfl, rfl⟩) ⟨f, rf, rfl⟩
end
end OC
set_option maxHeartbeats 4000000
/-! What the law's own checks need. -/
namespace OC
open PySem PySem.Spec PyProof.Rows L2
/-- drawn people, a goal reached -/
structure Case (ps : List Per) (f : Int → Int) : Prop where
  gd : Good ps
  rf : Reached ps f
  sp : ∃ s : Int, ∀ p ∈ ps, s ≤ p.pl ∧ p.pl ≤ s + 12
theorem rOf_last (ps qs : List Per) (calls : Int) : rOf ps qs (sFirst ps qs calls) = sLast ps qs calls := by
  unfold rOf sFirst sLast
  by_cases o : vsum ps % 2 = 1
  · rw [if_pos (show odd ps from o), if_pos (by simpa using o), if_pos (by simpa using o)]; omega
  · rw [if_neg (show ¬ odd ps from o), if_neg (by simpa using o), if_neg (by simpa using o)]
section
variable {ps : List Per} {f : Int → Int}
theorem Case.good (c : Case ps f) : Good (st ps f) := st_good c.gd f
theorem Case.nec (c : Case ps f) : ∃ lo hi H n l r, Box ps lo hi ∧ Hts ps lo H ∧ Nec ps lo hi H f n l r ∧ hi - lo ≤ 12 := by
  have bx := Box.mk' c.gd
  obtain ⟨H, hH⟩ := hts_ex bx
  obtain ⟨n, l, r, N⟩ := c.rf _ _ H bx hH
  refine ⟨_, _, H, n, l, r, bx, hH, N, ?_⟩
  obtain ⟨s, hs⟩ := c.sp
  obtain ⟨p, hp, e⟩ := bx.atLo
  obtain ⟨q, hq, e'⟩ := bx.atHi
  have := hs p hp
  have := hs q hq
  omega
theorem Case.leads (c : Case ps f) : (paper ps (st ps f)).isL = true := by
  obtain ⟨lo, hi, H, n, l, r, bx, hH, N, _⟩ := c.nec
  exact nec_leads c.gd bx hH N
theorem Case.fault (c : Case ps f) : OC.fault ps (st ps f) = none := (paper_leads c.leads).1
theorem Case.lost (c : Case ps f) : 0 ≤ (lost ps (st ps f)).1 ∧ 0 ≤ (lost ps (st ps f)).2 ∧ (lost ps (st ps f)).1 + (lost ps (st ps f)).2 ≤ 12 := by
  obtain ⟨lo, hi, H, n, l, r, bx, hH, N, h12⟩ := c.nec
  obtain ⟨Hm, hc⟩ := cons_gaps c.gd bx
  obtain ⟨_, s2, s3, s4⟩ := lost_st c.gd bx N.sl hc
  have := (N.sl.le bx.le).1
  exact ⟨s3, s4, by omega⟩
/-- bounds of l -/
theorem Case.least (c : Case ps f) : 0 ≤ (leastP ps (st ps f)).1 ∧ (leastP ps (st ps f)).1 ≤ (mostP ps (st ps f)).1 := by
  obtain ⟨_, _, hle⟩ := paper_leads c.leads
  refine ⟨?_, hle⟩
  have := (sat_between (ps := ps) (qs := st ps f) (x := (leastP ps (st ps f)).1)).mpr ⟨Int.le_refl _, hle⟩ ⟨.s "first", some 0, none⟩ (by unfold toldB; split <;> simp)
  exact this.1 _ rfl
theorem Case.made (c : Case ps f) {calls : Int} {sc : List Row} (h1 : (leadB ps (st ps f)).1 ≤ calls) (h2 : calls ≤ (leadB ps (st ps f)).2) (hs : ScriptOf ps (st ps f) (sFirst ps (st ps f) calls) (sLast ps (st ps f) calls) sc) :
    Made ps (st ps f) sc (sFirst ps (st ps f) calls) (mOf ps (st ps f) (sFirst ps (st ps f) calls)) (sLast ps (st ps f) calls) ∧ mOf ps (st ps f) (sFirst ps (st ps f) calls) + sFirst ps (st ps f) calls + sLast ps (st ps f) calls = calls ∧ calls ≤ 12 := by
  obtain ⟨lo, hi, H, n, l, r, bx, hH, N, h12⟩ := c.nec
  obtain ⟨a, b, fa, fb, rfl⟩ := hs
  have M := lead_made c.gd bx N.sl c.fault (lead_l c.leads h1 h2) fa fb
  rw [rOf_last] at M
  obtain ⟨a0, b0, ab⟩ := c.lost
  have m0 := M.m0
  have l0 := M.l0
  have r0 := M.r0
  refine ⟨M, ?_⟩
  unfold leadB at h1 h2
  unfold mOf sFirst at m0
  unfold mOf sFirst sLast
  by_cases o : vsum ps % 2 = 1
  · rw [if_neg (by simp; omega)] at h1 h2
    rw [if_pos (show odd ps from o), if_pos (by simpa using o)] at m0
    rw [if_pos (show odd ps from o), if_pos (by simpa using o), if_pos (by simpa using o)]
    simp only at h1 h2
    omega
  · rw [if_pos (by simp; omega)] at h1 h2
    rw [if_neg (show ¬ odd ps from o)] at m0
    rw [if_neg (show ¬ odd ps from o), if_neg (by simpa using o), if_neg (by simpa using o)]
    simp only at h1 h2
    omega
theorem Case.leadB (c : Case ps f) : (leadB ps (st ps f)).1 ≤ (leadB ps (st ps f)).2 := by
  have := c.least
  unfold OC.leadB
  split <;> simp <;> omega
theorem Case.small (c : Case ps f) : 0 ≤ (OC.leadB ps (st ps f)).1 ∧ (OC.leadB ps (st ps f)).2 ≤ 12 := by
  -- a script exists at both ends
  obtain ⟨h1, h2⟩ := c.least
  obtain ⟨a0, b0, ab⟩ := c.lost
  have gd := c.gd
  obtain ⟨lo, hi, H, n, l, r, bx, hH, N, h12⟩ := c.nec
  obtain ⟨p, hp, e⟩ := bx.atLo
  obtain ⟨q, hq, e'⟩ := bx.atHi
  have fa : IsFst ps p.nm := ⟨List.mem_map.mpr ⟨p, hp, rfl⟩, fun n hn => by
    obtain ⟨x, hx, rfl⟩ := List.mem_map.mp hn
    unfold plc; rw [perOf_mem gd.nd hp, perOf_mem gd.nd hx, e]; exact (bx.bd x hx).1⟩
  have fb : IsLst ps q.nm := ⟨List.mem_map.mpr ⟨q, hq, rfl⟩, fun n hn => by
    obtain ⟨x, hx, rfl⟩ := List.mem_map.mp hn
    unfold plc; rw [perOf_mem gd.nd hq, perOf_mem gd.nd hx, e']; exact (bx.bd x hx).2⟩
  have key := (c.made (calls := (OC.leadB ps (st ps f)).2) c.leadB (Int.le_refl _) ⟨_, _, fa, fb, rfl⟩).2.2
  refine ⟨?_, key⟩
  unfold OC.leadB
  split <;> simp <;> omega
end
end OC
set_option maxHeartbeats 4000000
/-! The law looks at scripts. -/
namespace OC
open PySem PySem.Spec PyProof.Rows L2
section
variable {M : Mo} {g : G} {Z : Sc} {tg it : Expr} {r : Rho}
theorem IT_listP {Pl : List D → Prop} (he : EP M g Z it r fun x => ∃ ds, x = .lst ds ∧ Pl ds) (hp : ∀ X, Okx M g X → ∀ tl, PE X it tl → PI X tg it (iList X.K tl) := by intro X ok tl h; exact pi_list h) : ITP M g Z tg it r Pl := fun X ok B0 H0 B H σ R Q q => by
  refine ⟨_, hp X ok _ pe_w, ?_⟩
  refine he X ok B0 H0 B H σ R _ fun x v B1 H1 ⟨ds, px, pl⟩ f1 r1 => ?_
  subst px
  cases r1 with
  | lst h1 k1 =>
    rename_i vs p
    refine ⟨p, rfl, ⟨_, SqL.of (f1.s _ _ h1)⟩, q ds (Itl X.K p) B1 H1 pl f1 fun B' H' fb fs fr i => ⟨fun d hd => ?_, ofLe fun hl => ?_⟩⟩
    · obtain ⟨v, e1, r⟩ := k1.atD hd
      have hq : H' p = some (.lst vs) := fs _ _ (fb _ _ h1)
      refine ⟨⟨vs, v, SqL.of hq, e1⟩, fun x H'' y => ⟨B', ?_, ?_⟩⟩
      · obtain ⟨e2, _⟩ := y; subst e2; exact Fr.rfl' fs fr
      · have e3 := y.2 vs (SqL.of hq)
        rw [e1] at e3; cases e3
        exact r.mono fb
    · exact ⟨vs, SqL.of (fs _ _ (fb _ _ h1)), by rw [← k1.len]; exact hl⟩
end
theorem Sh_spots (ps : List Per) : Sh 1 (spotsD ps) := .tup fun d hd => by
  obtain ⟨p, _, rfl⟩ := List.mem_map.mp hd
  exact .int _
def R_right (f : List Per → (Int → Int) → List D) : Rel := fun ds P => ∃ ps k, Case ps k ∧ ds = f ps k ∧ P = fun d => d = .bl true
section
variable {ps : List Per} {f : Int → Int} {sc : List Row} {l m r : Int}
theorem Made.rows4 (h : Made ps (st ps f) sc l m r) (hn : m + l + r ≤ 12) : ∀ q ∈ sc, q.2 < 400 := fun q hq => by
  have h1 := h.calls
  have h2 := ((rows_pos sc ps h.ok).2 q hq).2
  omega
end
section
variable {M : Mo} (h : Hd M)
include h
theorem w_scripts_right_L : FnG M 13 "_law_scripts_right" true (R_right fun ps f => [.src, peopleD ps, spotsD (st ps f), ciD (leadB ps (st ps f))]) := by
  refine h.fnG 110 97 fs_scripts_right_L bn_scripts_right_L (by rintro ds P ⟨ps, f, _, rfl, rfl⟩; rfl) ?_
  rintro Z ds P on ⟨ps, f, c, rfl, rfl⟩
  have gd := c.gd
  have gq := c.good
  have lk := st_like ps f
  have il := c.leads
  obtain ⟨sm0, sm1⟩ := c.small
  have sml := c.leadB
  refine SS_par (i := 4) (j := 5) (AL_cons (E.l (E_make h gd (E_var 1))) (AL_cons (E.l (E_make h gq (EP_call (w_at_L h) (A2 (E_var 1) (E_var 2)) ⟨_, _, gd, gq, lk, rfl, rfl⟩))) AL_nil)) ?_
  refine SS_setP 6 (P := IntP fun n => (leadB ps (st ps f)).1 ≤ n ∧ n ≤ (leadB ps (st ps f)).2) (EP_add2 (Pa := fun i => i = (leadB ps (st ps f)).1) (E.ip (E_ixT (d := .int (leadB ps (st ps f)).1) (E_var 3) E_int) rfl) (EP_callS on (w_pick_L h) (A2 (E_var 0) (E_add (E_sub (E_ixT (d := .int (leadB ps (st ps f)).2) (E_var 3) E_int) (E_ixT (d := .int (leadB ps (st ps f)).1) (E_var 3) E_int)) E_int)) ⟨_, by omega, by omega, rfl, rfl⟩) fun i j ei hj => by omega) ?_
  rintro x ⟨calls, rfl, c1, c2⟩
  -- any script of the lead
  have all : ∀ sc, ScriptOf ps (st ps f) (sFirst ps (st ps f) calls) (sLast ps (st ps f) calls) sc → ∃ l m r, Made ps (st ps f) sc l m r ∧ m + l + r = calls ∧ callsOf sc = calls ∧ sc.length ≤ 18 := fun sc hs => by
    obtain ⟨Md, e, _⟩ := c.made c1 c2 hs
    exact ⟨_, _, _, Md, e, by rw [Md.calls]; exact e, hs.len gd⟩
  refine SS_setP 7 (EP_call (w_lead_script h) (A_cons (E_var 4) (A2 (E_var 5) (E_var 6))) ⟨_, _, _, gd, gq, lk, il, c1, c2, rfl, rfl⟩) ?_
  rintro x ⟨sc, hsc, rfl⟩
  obtain ⟨l, m, r, Md, e1, e2, e3⟩ := all sc hsc
  have ht : R_tidyS [.std ps, scD sc] fun d => ∃ sc', ScriptOf ps (after ps sc) (sFirst ps (after ps sc) (callsOf sc)) (sLast ps (after ps sc) (callsOf sc)) sc' ∧ d = scD sc' := ⟨ps, sc, gd, Md.ok, by omega, by rw [Md.af]; exact il, by rw [Md.af, e2]; exact c1, by rw [Md.af, e2]; exact c2, rfl, rfl⟩
  rw [Md.af, e2] at ht
  refine SS_forI (IT_listP (Pl := fun ds => ∃ sc', ScriptOf ps (st ps f) (sFirst ps (st ps f) calls) (sLast ps (st ps f) calls) sc' ∧ ds = [scD sc, scD sc']) (EP_lst (AP_cons (P' := fun ds => ∃ sc', ScriptOf ps (st ps f) (sFirst ps (st ps f) calls) (sLast ps (st ps f) calls) sc' ∧ ds = [scD sc, scD sc']) (E_var 7) (AP_cons (P' := fun ds => ∃ sc', ScriptOf ps (st ps f) (sFirst ps (st ps f) calls) (sLast ps (st ps f) calls) sc' ∧ ds = [scD sc']) (EP_call (w_tidy_script h) (A2 (E_var 4) (E_var 7)) ht) A_nil fun x xs ⟨sc', hs, ex⟩ exs => ⟨sc', hs, by rw [ex, exs]⟩) fun x xs ex ⟨sc', hs, exs⟩ => ⟨sc', hs, by rw [ex, exs]⟩) (fun xs hx => ⟨xs, rfl, hx⟩) fun xs ⟨sc', hs, ex⟩ => by rw [ex]; show 2 ≤ 10000; decide)) (fun _ r' => r' = [some (.d .src), some (.d (peopleD ps)), some (.d (spotsD (st ps f))), some (.d (ciD (leadB ps (st ps f)))), some (.d (.std ps)), some (.d (.std (st ps f))), some (.d (.int calls)), some (.d (scD sc)), none, none]) ⟨_, ?_, rfl⟩ ?_ ?_
  · exact Le.rfl'
  · rintro ds ⟨sc', hs', rfl⟩ i d hd r' rfl
    obtain ⟨s, hs, rfl⟩ : ∃ s, ScriptOf ps (st ps f) (sFirst ps (st ps f) calls) (sLast ps (st ps f) calls) s ∧ d = scD s := by
      match i with
      | 0 => cases hd; exact ⟨sc, hsc, rfl⟩
      | 1 => cases hd; exact ⟨sc', hs', rfl⟩
      | i + 2 => simp at hd
    obtain ⟨l', m', r', Ms, f1, f2, f3⟩ := all s hs
    have s12 : calls ≤ 12 := by omega
    refine ⟨_, _, G_name 8, ?_⟩
    refine SS_set (x := .tup [peopleD (st ps f), .int calls]) 9 (E.of (EP_call (w_walked_L h) (A2 (E_var 1) (E_var 8)) ⟨_, _, gd, Ms.ok, Ms.rows4 (by omega), rfl, rfl⟩) (by rw [Ms.af, f2])) ?_
    refine SS_ifF (W_or (c := false) (c' := false) (T.of (T_cmp (E_lenL h (E_var 8)) E_int (gtI _ _)) ?_) fun _ => W_or (c := false) (c' := false) (T_isN (x := .tup [peopleD (st ps f), .int calls]) (E_var 9)) fun _ => W_or (c := false) (c' := false) (T.of (T_cmp (EP_call (w_spots_L h) (A1 (E_ixT (d := peopleD (st ps f)) (E_var 9) E_int)) ⟨_, gq, rfl, rfl⟩) (E_var 2) (neD (q := true) (Sh_spots _) (Sh_spots _) (Sh_spots _).refl)) rfl) fun _ => W_or1 (c := false) (T.of (T_cmp (E_ixT (d := .int calls) (E_var 9) E_int) (E_var 6) (neI _ _)) (by simp))).t ?_
    · rw [List.length_map]; exact decide_eq_false (by omega)
    refine SS_ifF (T_notN (x := .non) (EP_call (w_judge_script h) (A_cons (E_var 4) (A2 (E_var 5) (E_var 8))) ⟨_, _, _, gd, gq, lk, Ms.ok, by omega, fun n _ => by rw [Ms.af], rfl, rfl⟩)) ?_
    exact SS_nil ⟨_, Le.keep (Le.keep (Le.keep (Le.keep (Le.keep (Le.keep (Le.keep (Le.keep (Le.drop (Le.drop Le.nil))))))))), rfl⟩
  · rintro ds ⟨sc', hs', rfl⟩ r' rfl
    refine SS_retP (P := fun d => d = .bl true) (EP_callQ (w_is_tidy h) (AP_cons (P' := fun ds => ∃ sc', ScriptOf ps (st ps f) (sFirst ps (st ps f) calls) (sLast ps (st ps f) calls) sc' ∧ ds = [.std ps, scD sc']) (E_var 4) (AP_cons (P' := fun ds => ∃ sc', ScriptOf ps (st ps f) (sFirst ps (st ps f) calls) (sLast ps (st ps f) calls) sc' ∧ ds = [scD sc']) (EP_call (w_tidy_script h) (A2 (E_var 4) (E_var 7)) ht) A_nil fun x xs ⟨sc', hs, ex⟩ exs => ⟨sc', hs, by rw [ex, exs]⟩) fun x xs ex ⟨sc', hs, exs⟩ => ⟨sc', hs, by rw [ex, exs]⟩) fun xs ⟨s, hs, ex⟩ => ?_) fun x hx => hx
    obtain ⟨l', m', r', Ms, f1, f2, f3⟩ := all s hs
    obtain ⟨t1, t2, t3, t4⟩ := Ms.tidy gd (by omega)
    exact ⟨_, ⟨ps, s, gd, Ms.ok, Ms.short gd (by omega) (by omega), by omega, t1, t2, t3, t4, ex, rfl⟩, fun x hx => hx⟩
end
end OC
set_option maxHeartbeats 4000000
/-! The law looks at choices. -/
namespace OC
open PySem PySem.Spec PyProof.Rows L2
theorem Sh_cis (l : List (Int × Int)) : Sh 2 (cisD l) := .lst fun d hd => by
  obtain ⟨i, _, rfl⟩ := List.mem_map.mp hd
  refine .tup fun d hd => ?_
  simp only [List.mem_cons, List.not_mem_nil, or_false] at hd
  rcases hd with rfl | rfl <;> exact .int _
def onStep (ps qs : List Per) (s : List Str) (n : Str) : List Str := if leadsBy ps qs n then s ++ [n] else s
theorem on_fold (ps qs : List Per) : ∀ (l : List Str) (s : List Str), l.foldl (onStep ps qs) s = s ++ l.filter (leadsBy ps qs)
  | [], s => by simp
  | n :: l, s => by
    rw [List.foldl_cons, on_fold ps qs l, List.filter_cons]
    unfold onStep
    cases leadsBy ps qs n <;> simp
section
variable {M : Mo} (h : Hd M)
include h
theorem w_choices_right_L : FnG M 13 "_law_choices_right" false (R_right fun ps f => [peopleD ps, spotsD (st ps f), ciD (leadB ps (st ps f))]) := by
  refine h.fnG 114 101 fs_choices_right_L bn_choices_right_L (by rintro ds P ⟨ps, f, _, rfl, rfl⟩; rfl) ?_
  rintro Z ds P - ⟨ps, f, c, rfl, rfl⟩
  have gd := c.gd
  have gq := c.good
  have lk := st_like ps f
  have il := c.leads
  have lc := callers_len gd
  show SS _ _ _ _ (rho0 N_choices_right_L [peopleD ps, spotsD (st ps f), ciD (leadB ps (st ps f))]) _
  generalize hqs : st ps f = qs at gq lk il ⊢
  have lo := on_len gd qs
  refine SS_parC (i := 3) (j := 4) (AL_cons (E.l (E_make h gd (E_var 0))) (AL_cons (E.l (E_make h gq (EP_call (w_at_L h) (A2 (E_var 0) (E_var 1)) ⟨_, _, gd, gq, lk, rfl, rfl⟩))) AL_nil)) ?_
  refine SS_parC (i := 5) (j := 6) (AL_cons (EL_lst A_nil) (AL_cons (EL_lst A_nil) AL_nil)) ?_
  refine SS_fold (l := callers ps) (gf := D.str) (IT_list (EP_call (w_callers_L h) (A1 (E_var 0)) ⟨_, gd, rfl, rfl⟩)) (fun s : List Str => [some (.d (peopleD ps)), some (.d (spotsD qs)), some (.d (ciD (leadB ps qs))), some (.d (.std ps)), some (.d (.std qs)), some (.own (s.map D.str)), some (.own ((s.map (lostBy ps qs)).map ciD)), none, none, none]) (onStep ps qs) [] Le.rfl' ?_ ?_
  · rintro s pre n post e1 e2
    have hn : n ∈ callers ps := by rw [e1]; simp
    obtain ⟨n1, n2⟩ := callers_at hn
    have ls : s.length ≤ 8 := by
      rw [e2, on_fold]
      have h1 : (pre.filter (leadsBy ps qs)).length ≤ pre.length := List.length_filter_le _ _
      have := congrArg List.length e1
      simp at this ⊢; omega
    have gc := drawn_good gd (plc ps n) 1
    have lk2 : Like (drawn ps (plc ps n) 1) qs := (drawn_like ps _ _).sy.tr lk
    refine ⟨_, _, G_name 7, ?_⟩
    refine SS_set (x := leadN (calledBy ps n) qs) 8 (EP_call (w_lead_numbers_L h) (A2 (EP_call (w_called_L h) (A2 (E_var 0) (EP_call (w_place_L h) (A2 (E_var 0) (E_var 7)) ⟨_, _, gd, n1, rfl, rfl⟩)) ⟨_, _, gd, rfl, rfl⟩) (E_var 1)) ⟨_, _, gc, gq, lk2, rfl, rfl⟩) ?_
    cases hl : leadsBy ps qs n with
    | true =>
      have el : leadN (calledBy ps n) qs = cisD [leadB (calledBy ps n) qs] := by unfold leadN; rw [if_pos (show (paper (calledBy ps n) qs).isL = true from hl)]; rfl
      have es : onStep ps qs s n = s ++ [n] := by unfold onStep; rw [hl]; rfl
      rw [el]
      refine SS_ifT (T_cmp (E_var 8) (E_lst A_nil) (neD (Sh_cis _) (.lst (n := 0) fun _ k => by simp at k) (eqv_nil _))) ?_
      refine SS_append (ds := s.map D.str) 5 (E_var 7) (by rw [List.length_map]; omega) ?_
      refine SS_append (ds := (s.map (lostBy ps qs)).map ciD) (d := ciD (lostBy ps qs n)) 6 (E.of (E_tup (A2 (E_add (E_sub (E_ixT (d := .int (leadB (calledBy ps n) qs).1) (ds := [.int (leadB (calledBy ps n) qs).1, .int (leadB (calledBy ps n) qs).2]) (E_ixL (d := ciD (leadB (calledBy ps n) qs)) (E_var 8) E_int rfl) E_int) (E_ixT (d := .int (leadB ps qs).1) (E_var 2) E_int)) E_int) (E_sub (E_sub (E_ixT (d := .int (leadB ps qs).2) (E_var 2) E_int) E_int) (E_ixT (d := .int (leadB (calledBy ps n) qs).2) (ds := [.int (leadB (calledBy ps n) qs).1, .int (leadB (calledBy ps n) qs).2]) (E_ixL (d := ciD (leadB (calledBy ps n) qs)) (E_var 8) E_int rfl) E_int)))) ?_) (by rw [List.length_map, List.length_map]; omega) ?_
      · unfold lostBy
        have : (leadB (calledBy ps n) qs).1 - (leadB ps qs).1 + 1 = (leadB (calledBy ps n) qs).1 - ((leadB ps qs).1 - 1) := by omega
        rw [this]
      · refine SS_nil (SS_nil ?_)
        rw [es, List.map_append, List.map_append, List.map_append]
        exact Le.keep (Le.keep (Le.keep (Le.keep (Le.keep (Le.keep (Le.keep (Le.drop (Le.drop (Le.drop Le.nil)))))))))
    | false =>
      have el : leadN (calledBy ps n) qs = cisD [] := by unfold leadN; rw [if_neg (by rw [show (paper (calledBy ps n) qs).isL = false from hl]; decide)]; rfl
      have es : onStep ps qs s n = s := by unfold onStep; rw [hl]; rfl
      rw [el]
      refine SS_ifF (T_cmp (E_var 8) (E_lst A_nil) (neD (Sh_cis _) (.lst (n := 0) fun _ k => by simp at k) (eqv_nil _))) ?_
      refine SS_nil ?_
      rw [es]
      exact Le.keep (Le.keep (Le.keep (Le.keep (Le.keep (Le.keep (Le.keep (Le.drop (Le.drop (Le.drop Le.nil)))))))))
  · rw [on_fold, List.nil_append]
    show SS _ _ _ _ [_, _, _, _, _, some (.own ((onOf ps qs).map D.str)), some (.own (((onOf ps qs).map (lostBy ps qs)).map ciD)), none, none, none] _
    refine SS_give 5 (SS_give 6 ?_)
    have so : ∀ (p : Str → Bool), Sh 1 (strsD ((onOf ps qs).filter p)) := fun p => Sh_strs fun n hn => names_ok gd (callers_at (List.mem_filter.mp (List.mem_filter.mp hn).1).1).1
    have so1 : Sh 1 (strsD (onOf ps qs)) := Sh_strs fun n hn => names_ok gd (callers_at (List.mem_filter.mp hn).1).1
    have sb : Sh 1 (strsD (barOf ps qs)) := Sh_strs fun n hn => names_ok gd (callers_at (List.mem_filter.mp hn).1).1
    have ez : (onOf ps qs).zip ((onOf ps qs).map (lostBy ps qs)) = (onOf ps qs).map fun n => (n, lostBy ps qs n) := by
      apply List.ext_getElem
      · simp
      · intro i h1 h2; simp
    have ef : ∀ (p : Int × Int → Bool), ((((onOf ps qs).map fun n => (n, lostBy ps qs n)).filter fun q => p q.2).map fun q => q.1) = (onOf ps qs).filter fun n => p (lostBy ps qs n) := fun p => by
      rw [List.filter_map, List.map_map]
      show List.map (fun n => n) _ = _
      rw [List.map_id']; rfl
    have eb : ((callers ps).filter fun n => !decide (n ∈ onOf ps qs)) = barOf ps qs := by
      unfold barOf
      apply List.filter_congr
      intro n hn
      congr 1
      rw [Bool.eq_iff_iff, decide_eq_true_iff]
      unfold onOf
      rw [List.mem_filter]
      exact ⟨fun k => k.2, fun k => ⟨hn, k⟩⟩
    refine SS_ifF (T_or (c' := false) (T.of (c := false) (T_cmp (EP_call (w_callers_on h) (A2 (E_var 3) (E_var 4)) ⟨_, _, gd, gq, lk, il, rfl, rfl⟩) (E_var 5) (neD (q := true) so1 so1 so1.refl)) rfl) fun _ => T.of (T_cmp (E_lcm (l := onOf ps qs) (gf := D.str) [("_law_name", 7)] ciD (lostBy ps qs) (IT_list (E_var 5)) (fun n hn => ⟨_, _, G_name 7, by decide, EP_call (w_lost_by h) (A_cons (E_var 3) (A2 (E_var 4) (E_var 7))) ⟨_, _, _, gd, gq, lk, il, hn, rfl, rfl⟩⟩) (by omega)) (E_var 6) (neD (q := true) (Sh_cis _) (Sh_cis _) (Sh_cis _).refl)) rfl) ?_
    refine SS_ifF (T.of (T_cmp (EP_call (w_callers_barring h) (A2 (E_var 3) (E_var 4)) ⟨_, _, gd, gq, lk, il, rfl, rfl⟩) (E.of (E_lcc (l := callers ps) (gf := D.str) [("_law_name", 7)] (fun n => !decide (n ∈ onOf ps qs)) D.str (fun n => n) (IT_list (EP_call (w_callers_L h) (A1 (E_var 0)) ⟨_, gd, rfl, rfl⟩)) (fun n hn => ⟨_, _, G_name 7, by decide, .inr ⟨_, rfl, T_cmp (E_var 7) (E_var 5) (notInLS _ _)⟩, fun _ => E_var 7⟩) (by omega)) (by rw [List.map_id', eb])) (neD (q := true) sb sb sb.refl)) rfl) ?_
    have zl : ((onOf ps qs).map fun n => (n, lostBy ps qs n)).length ≤ 1000 := by rw [List.length_map]; omega
    refine SS_ifF (T.of (T_cmp (EP_call (w_fewest_callers h) (A2 (E_var 3) (E_var 4)) ⟨_, _, gd, gq, lk, il, rfl, rfl⟩) (E.of (E_lcc (l := (onOf ps qs).map fun n => (n, lostBy ps qs n)) (gf := fun q => D.tup [.str q.1, ciD q.2]) [("_law_name", 7), ("_law_pair", 9)] (fun q => decide (q.2.1 = 0)) D.str (fun q => q.1) (IT.of (IT_zip (A2 (E_var 5) (E_var 6)) (h.free 121)) (by rw [zipD_map, ez])) (fun q hq => ⟨_, _, G_2 (G_name 7) (G_name 9), by decide, .inr ⟨_, rfl, T_cmp (E_ixT (d := .int q.2.1) (E_var 9) E_int) E_int (eqI _ _)⟩, fun _ => E_var 7⟩) zl) (by rw [ef fun z => decide (z.1 = 0)])) (neD (q := true) (so _) (so _) (so _).refl)) rfl) ?_
    exact SS_ret (E_cmp (EP_call (w_most_callers h) (A2 (E_var 3) (E_var 4)) ⟨_, _, gd, gq, lk, il, rfl, rfl⟩) (E.of (E_lcc (l := (onOf ps qs).map fun n => (n, lostBy ps qs n)) (gf := fun q => D.tup [.str q.1, ciD q.2]) [("_law_name", 7), ("_law_pair", 9)] (fun q => decide (q.2.2 = 0)) D.str (fun q => q.1) (IT.of (IT_zip (A2 (E_var 5) (E_var 6)) (h.free 121)) (by rw [zipD_map, ez])) (fun q hq => ⟨_, _, G_2 (G_name 7) (G_name 9), by decide, .inr ⟨_, rfl, T_cmp (E_ixT (d := .int q.2.2) (E_var 9) E_int) E_int (eqI _ _)⟩, fun _ => E_var 7⟩) zl) (by rw [ef fun z => decide (z.2 = 0)])) (eqD (q := true) (so _) (so _) (so _).refl)) rfl
end
end OC
set_option maxHeartbeats 4000000
/-! The law looks at prices. -/
namespace OC
open PySem PySem.Spec PyProof.Rows L2
def priceAt (ps qs : List Per) (p : Prc) (calls : Int) : Int := sFirst ps qs calls * p.p0 + mOf ps qs (sFirst ps qs calls) * p.p1 + sLast ps qs calls * p.p2
section
variable {ps : List Per} {f : Int → Int}
theorem Case.most12 (c : Case ps f) : (mostP ps (st ps f)).1 ≤ 12 := by
  obtain ⟨s0, s1⟩ := c.small
  obtain ⟨a0, b0, ab⟩ := c.lost
  obtain ⟨h1, h2⟩ := c.least
  by_cases o : vsum ps % 2 = 1
  · unfold OC.leadB at s1
    rw [if_neg (by simp; omega)] at s1
    simp only at s1; omega
  · have := (sat_between (ps := ps) (qs := st ps f) (x := (mostP ps (st ps f)).1)).mpr ⟨h2, Int.le_refl _⟩ ⟨.s "last", none, some ((OC.lost ps (st ps f)).1 - (OC.lost ps (st ps f)).2)⟩ (by unfold toldB; rw [if_pos (by simp; omega)]; simp)
    have := this.2 _ rfl
    omega
theorem Case.sml (c : Case ps f) {x : Int} (h0 : 0 ≤ x) (h1 : x ≤ 12) : smlBy ps (st ps f) x := by
  obtain ⟨a0, b0, ab⟩ := c.lost
  unfold smlBy Sml
  omega
/-- the numbers of the first crowd's calls at the ends -/
theorem Case.ends (c : Case ps f) (p : Prc) : priceAt ps (st ps f) p (OC.leadB ps (st ps f)).1 = priceBy ps (st ps f) p (leastP ps (st ps f)).1 ∧ priceAt ps (st ps f) p (OC.leadB ps (st ps f)).2 = priceBy ps (st ps f) p (mostP ps (st ps f)).1 ∧ priceAt ps (st ps f) p (cheapN ps (st ps f) p) = min (priceBy ps (st ps f) p (leastP ps (st ps f)).1) (priceBy ps (st ps f) p (mostP ps (st ps f)).1) := by
  have ll := lead_l c.leads (calls := (OC.leadB ps (st ps f)).1) (Int.le_refl _) c.leadB
  obtain ⟨l1, l2⟩ := sat_between.mp ll
  by_cases o : vsum ps % 2 = 1
  · have od : odd ps := o
    have key : ∀ x, priceAt ps (st ps f) p ((OC.lost ps (st ps f)).2 + x) = priceBy ps (st ps f) p x := fun x => by
      unfold priceAt priceBy mOf sFirst sLast
      rw [if_pos od, if_pos (by simpa using o), if_pos (by simpa using o), if_pos (by simpa using o)]
      rw [show (OC.lost ps (st ps f)).2 + x - (OC.lost ps (st ps f)).2 = x by omega, show (OC.lost ps (st ps f)).2 + x - (OC.lost ps (st ps f)).1 = (OC.lost ps (st ps f)).2 - (OC.lost ps (st ps f)).1 + x by omega]
    unfold OC.leadB cheapN
    rw [if_neg (by simp; omega), if_neg (by simp; omega)]
    simp only
    rw [key, key, key]
    refine ⟨rfl, rfl, ?_⟩
    by_cases q : priceBy ps (st ps f) p (leastP ps (st ps f)).1 ≤ priceBy ps (st ps f) p (mostP ps (st ps f)).1
    · rw [if_pos (by simpa using q), Int.min_eq_left q]
    · rw [if_neg (by simpa using q), Int.min_eq_right (by omega)]
  · have od : ¬ odd ps := o
    have hm : ∀ c, sFirst ps (st ps f) c = (OC.lost ps (st ps f)).1 - movedBy ps (st ps f) := fun c => by unfold sFirst; rw [if_neg (by simpa using o)]
    have hb : (⟨.s "moved", some ((OC.lost ps (st ps f)).1 - movedBy ps (st ps f)), some ((OC.lost ps (st ps f)).1 - movedBy ps (st ps f))⟩ : Bd) ∈ toldB ps (st ps f) := by
      unfold toldB; rw [if_pos (by simp; omega)]; simp
    obtain ⟨h1, h2⟩ := c.least
    have k1 := (sat_between (ps := ps) (qs := st ps f) (x := (leastP ps (st ps f)).1)).mpr ⟨Int.le_refl _, h2⟩ _ hb
    have j1 := (sat_between (ps := ps) (qs := st ps f) (x := (mostP ps (st ps f)).1)).mpr ⟨h2, Int.le_refl _⟩ _ hb
    have e1 : (leastP ps (st ps f)).1 = (OC.lost ps (st ps f)).1 - movedBy ps (st ps f) := by have := k1.1 _ rfl; have := k1.2 _ rfl; omega
    have e2 : (mostP ps (st ps f)).1 = (OC.lost ps (st ps f)).1 - movedBy ps (st ps f) := by have := j1.1 _ rfl; have := j1.2 _ rfl; omega
    have key : ∀ c, priceAt ps (st ps f) p c = priceBy ps (st ps f) p ((OC.lost ps (st ps f)).1 - movedBy ps (st ps f)) := fun c => by
      unfold priceAt
      rw [hm]
      unfold priceBy mOf sLast
      rw [if_neg od, if_neg (by simpa using o), if_neg (by simpa using o)]
    rw [e1, e2, key, key, key]
    exact ⟨rfl, rfl, by omega⟩
end
theorem Sh_ci (q : Int × Int) : Sh 1 (ciD q) := .tup fun d hd => by
  simp only [List.mem_cons, List.not_mem_nil, or_false] at hd
  rcases hd with rfl | rfl <;> exact .int _
section
variable {M : Mo} (h : Hd M)
include h
theorem w_prices_right_L : FnG M 13 "_law_prices_right" true (R_right fun ps f => [.src, peopleD ps, spotsD (st ps f), ciD (leadB ps (st ps f))]) := by
  refine h.fnG 112 99 fs_prices_right_L bn_prices_right_L (by rintro ds P ⟨ps, f, _, rfl, rfl⟩; rfl) ?_
  rintro Z ds P on ⟨ps, f, c, rfl, rfl⟩
  have gd := c.gd
  have gq := c.good
  have lk := st_like ps f
  have il := c.leads
  obtain ⟨sm0, sm1⟩ := c.small
  have sml := c.leadB
  obtain ⟨le0, le1⟩ := c.least
  have mo := c.most12
  refine SS_par (i := 4) (j := 5) (AL_cons (E.l (E_make h gd (E_var 1))) (AL_cons (E.l (E_make h gq (EP_call (w_at_L h) (A2 (E_var 1) (E_var 2)) ⟨_, _, gd, gq, lk, rfl, rfl⟩))) AL_nil)) ?_
  refine SS_parP (i := 6) (j := 7) (Ps := fun l m => (∃ d, l = .d d ∧ ∃ p : Prc, d = prD p) ∧ m = .own []) (ALP2 (EP.l (LC.ex (LC_of (Q0 := fun d => ∃ p : Prc, d = prD p) [("_law_lap", 12)] (IT_range (n := 3) E_int (by decide) (h.free 114)) (by exact ⟨rfl, by decide +kernel, by decide +kernel, by decide +kernel, by decide +kernel⟩) (fun i acc => ∃ vs : List Int, acc = vs.map D.int ∧ vs.length = i) ⟨[], rfl, rfl⟩ ?_ (fun ds e => by subst e; decide) ?_))) (EL.p (EL_lst A_nil))) ?_
  · rintro ds e i d hd
    refine ⟨_, _, true, G_name 12, by decide, .inl ⟨rfl, rfl⟩, fun _ => ?_, fun z => nomatch z⟩
    refine EP.imp (EP_callS on (w_of_L h) (A2 (E_var 0) (E_lst (A_cons E_int (A_cons E_int (A_cons E_int (A2 E_int (E_op E_int E_int (powI 10 30 ⟨by decide, by decide, by decide⟩)))))))) ⟨_, by decide, by decide, rfl, rfl⟩) fun x hx acc ⟨vs, e1, e2⟩ => ?_
    have : ∃ v, x = D.int v := by
      simp only [List.mem_cons, List.not_mem_nil, or_false] at hx
      rcases hx with k | k | k | k | k <;> exact ⟨_, k⟩
    obtain ⟨v, rfl⟩ := this
    exact ⟨vs ++ [v], by rw [e1]; simp, by simp [e2]⟩
  · rintro ds acc e ⟨vs, e1, e2⟩
    subst e
    have e2 : vs.length = 3 := e2
    match vs, e2 with
    | [a, b, c], _ => exact ⟨⟨a, b, c⟩, by rw [e1]; rfl⟩
  rintro l m ⟨⟨d, rfl, p, rfl⟩, rfl⟩
  -- a script by its number of calls
  have all : ∀ calls sc, (leadB ps (st ps f)).1 ≤ calls → calls ≤ (leadB ps (st ps f)).2 → ScriptOf ps (st ps f) (sFirst ps (st ps f) calls) (sLast ps (st ps f) calls) sc → (∃ l m r, Made ps (st ps f) sc l m r ∧ m + l + r ≤ 12) ∧ callsOf sc = calls ∧ sc.length ≤ 18 ∧ paidF ps sc p = priceAt ps (st ps f) p calls ∧ priceOf ps sc p = priceAt ps (st ps f) p calls := fun calls sc h1 h2 hs => by
    obtain ⟨Md, e, h12⟩ := c.made h1 h2 hs
    exact ⟨⟨_, _, _, Md, by omega⟩, by rw [Md.calls]; exact e, hs.len gd, Md.paid gd p, (Md.price gd (by omega) p).2.2⟩
  refine SS_forI (P := fun ds => ds = [(leadB ps (st ps f)).1, (leadB ps (st ps f)).2].map D.int) (IT_tup (E_var 3)) (fun i r' => r' = [some (.d .src), some (.d (peopleD ps)), some (.d (spotsD (st ps f))), some (.d (ciD (leadB ps (st ps f)))), some (.d (.std ps)), some (.d (.std (st ps f))), some (.d (prD p)), some (.own ((([(leadB ps (st ps f)).1, (leadB ps (st ps f)).2].take i).map (priceAt ps (st ps f) p)).map D.int)), none, none, none, none, none]) ⟨_, ?_, rfl⟩ ?_ ?_
  · exact Le.rfl'
  · rintro ds rfl i d hd r' rfl
    obtain ⟨calls, rfl, c1, c2, et⟩ : ∃ calls, d = .int calls ∧ (leadB ps (st ps f)).1 ≤ calls ∧ calls ≤ (leadB ps (st ps f)).2 ∧ [(leadB ps (st ps f)).1, (leadB ps (st ps f)).2].take (i + 1) = [(leadB ps (st ps f)).1, (leadB ps (st ps f)).2].take i ++ [calls] := by
      match i with
      | 0 => cases hd; exact ⟨_, rfl, Int.le_refl _, sml, rfl⟩
      | 1 => cases hd; exact ⟨_, rfl, sml, Int.le_refl _, rfl⟩
      | i + 2 => simp at hd
    have hi : i < 2 := by
      have := (List.getElem?_eq_some_iff.mp hd).1
      simpa using this
    refine ⟨_, _, G_name 8, ?_⟩
    refine SS_setP 9 (EP_call (w_lead_script h) (A_cons (E_var 4) (A2 (E_var 5) (E_var 8))) ⟨_, _, _, gd, gq, lk, il, c1, c2, rfl, rfl⟩) ?_
    rintro x ⟨sc, hsc, rfl⟩
    obtain ⟨⟨l, m, r, Md, h12⟩, k1, k2, k3, k4⟩ := all calls sc c1 c2 hsc
    obtain ⟨p1, p2, p3⟩ := Md.price gd (by omega) p
    refine SS_append (ds := (([(leadB ps (st ps f)).1, (leadB ps (st ps f)).2].take i).map (priceAt ps (st ps f) p)).map D.int) (d := .int (priceAt ps (st ps f) p calls)) 7 (E.of (EP_call (w_paid_L h) (A_cons (E_var 1) (A2 (E_var 9) (E_var 6))) ⟨_, _, _, gd, Md.ok, Md.rows4 h12, rfl, rfl⟩) (by rw [k3])) (by rw [List.length_map, List.length_map, List.length_take]; simp; omega) ?_
    refine SS_ifF (T.of (c := false) (T_cmp (E.of (EP_call (w_price_of h) (A_cons (E_var 4) (A2 (E_var 9) (E_var 6))) ⟨_, _, _, gd, Md.ok, Md.short gd (by omega) (by omega), p1, p2, rfl, rfl⟩) (by rw [k4])) (E_ownIx 7 (ds := (([(leadB ps (st ps f)).1, (leadB ps (st ps f)).2].take i).map (priceAt ps (st ps f) p)).map D.int ++ [.int (priceAt ps (st ps f) p calls)]) (d := .int (priceAt ps (st ps f) p calls)) (E_neg E_int) (atI_last (by simp))) (neI _ _)) (by simp)) ?_
    refine SS_nil ⟨_, ?_, rfl⟩
    rw [et, List.map_append, List.map_append]
    exact Le.keep (Le.keep (Le.keep (Le.keep (Le.keep (Le.keep (Le.keep (Le.keep (Le.drop (Le.drop (Le.drop (Le.drop (Le.drop Le.nil))))))))))))
  · rintro ds rfl r' rfl
    obtain ⟨z1, z2, z3⟩ := c.ends p
    generalize ea : priceAt ps (st ps f) p (leadB ps (st ps f)).1 = a at z1
    generalize eb : priceAt ps (st ps f) p (leadB ps (st ps f)).2 = b at z2
    have e7 : (([(leadB ps (st ps f)).1, (leadB ps (st ps f)).2].take 2).map (priceAt ps (st ps f) p)).map D.int = [a, b].map D.int := by rw [← ea, ← eb]; rfl
    show SS _ _ _ _ [_, _, _, _, _, _, _, some (.own ((([(leadB ps (st ps f)).1, (leadB ps (st ps f)).2].take 2).map (priceAt ps (st ps f) p)).map D.int)), none, none, none, none, none] _
    rw [e7]
    refine SS_give 7 ?_
    have mn : min a b ∈ [a, b] ∧ ∀ y ∈ [a, b], min a b ≤ y := ⟨by
      by_cases q : a ≤ b
      · rw [Int.min_eq_left q]; simp
      · rw [Int.min_eq_right (by omega)]; simp, fun y hy => by simp at hy; omega⟩
    have mx : max a b ∈ [a, b] ∧ ∀ y ∈ [a, b], y ≤ max a b := ⟨by
      by_cases q : a ≤ b
      · rw [Int.max_eq_right q]; simp
      · rw [Int.max_eq_left (by omega)]; simp, fun y hy => by simp at hy; omega⟩
    have lp : leadPr ps (st ps f) p = (min a b, max a b) := by unfold leadPr; rw [z1, z2]
    refine SS_ifF (T.of (T_cmp (E.of (EP_call (w_lead_prices h) (A_cons (E_var 4) (A2 (E_var 5) (E_var 6))) ⟨_, _, _, gd, gq, lk, il, c.sml le0 (by omega), c.sml (by omega) mo, rfl, rfl⟩) (by rw [lp])) (E_tup (A2 (E_minL h mn.1 mn.2 (E_var 7)) (E_maxL h mx.1 mx.2 (E_var 7)))) (neD (q := true) (Sh_ci (min a b, max a b)) (Sh_ci (min a b, max a b)) (Sh_ci _).refl)) rfl) ?_
    obtain ⟨ch1, ch2⟩ := cheap_in il p
    refine SS_setP 10 (EP_call (w_cheapest_script h) (A_cons (E_var 4) (A2 (E_var 5) (E_var 6))) ⟨_, _, _, gd, gq, lk, il, c.sml le0 (by omega), c.sml (by omega) mo, rfl, rfl⟩) ?_
    rintro x ⟨sc, hsc, rfl⟩
    obtain ⟨⟨l, m, r, Md, h12⟩, k1, k2, k3, k4⟩ := all _ sc ch1 ch2 hsc
    refine SS_set (x := .tup [peopleD (st ps f), .int (cheapN ps (st ps f) p)]) 11 (E.of (EP_call (w_walked_L h) (A2 (E_var 1) (E_var 10)) ⟨_, _, gd, Md.ok, Md.rows4 h12, rfl, rfl⟩) (by rw [Md.af, k1])) ?_
    refine SS_ret (E.of (E_and (c := true) (E_notN (x := .tup [peopleD (st ps f), .int (cheapN ps (st ps f) p)]) (E_var 11)) fun _ => E_and (c := true) (E_cmp (EP_call (w_spots_L h) (A1 (E_ixT (d := peopleD (st ps f)) (E_var 11) E_int)) ⟨_, gq, rfl, rfl⟩) (E_var 2) (eqD (q := true) (Sh_spots _) (Sh_spots _) (Sh_spots _).refl)) fun _ => E_one (E_cmp (EP_call (w_paid_L h) (A_cons (E_var 1) (A2 (E_var 10) (E_var 6))) ⟨_, _, _, gd, Md.ok, Md.rows4 h12, rfl, rfl⟩) (E_minL h mn.1 mn.2 (E_var 7)) (eqI _ _))) ?_) rfl
    rw [k3, z3, ← z1, ← z2]; simp
end
end OC
set_option maxHeartbeats 4000000
/-! a tuple once. -/
namespace OC
open PySem PySem.Spec PyProof.Rows L2
theorem tuple_mul1 (l : Addr) (items : Array Value) (n : Nat) (dd : Option Addr) (sl : Array (Option Value)) (u : Tok) :
    Meets (Builtin.«tuple.__mul__» ⟨[.ref l, .int 1 u], []⟩) (fun _ R s => s.heap.get? l = some { cls := .type "tuple", dict := dd, data := .seq items n, slots := sl } ∧
      R (.ok (.ret (Value.ref l))) s) :=
  .of_wp fun prog w A R s h => by
    obtain ⟨hp, g, d, tk, os⟩ := s
    obtain ⟨hl, h⟩ := h
    have f1 := AutoSeq1.idx_int
    wp_walk using wpAny_loadPart' hl
    exact ⟨_, rfl, h⟩
def rRepT1 (K : PySem.W.Frag) : L2.R2 := fun x y H Q => ∃ l xs, x = .ref l ∧ y = .int 1 ∧ SqT K H l xs ∧ Q (.ref l) H
theorem op_repT1 {X : Cx} : OpR X (binaryOp .Mult) (rRepT1 X.K) := by
  intro pins s σ H x y v u Q I rx ry h
  obtain ⟨l, xs, rfl, rfl, hT, q⟩ := h
  cases rx
  obtain ⟨t, rfl⟩ := ry
  obtain ⟨its, r, ⟨⟨cls, dd, data, sl⟩, ho, hc, n, hd⟩, hs⟩ := I.tuple hT
  simp only at hc hd
  subst hc hd
  refine wpAny_binaryOp_repeat_ref (T := "tuple") (U := "int") (by decide) ⟨_, ho, rfl⟩ (fun s' => typeIs_int s' 1 t) noFill_tuple_mul F.fills_int_mul F.slot_int_rmul repeat_tuple F.slot_int_index.lookup
    (call_meets F.slot_int_rmul (typeIs_int s 1 t) F.entry_int_rmul (F.args_int_rmul_2 _ _) (int_rmul_tuple 1 t l its.toArray n dd sl)
      ⟨ho, rfl, ⟨_, ho, rfl⟩, call_meets F.slot_tuple_mul ⟨_, ho, rfl⟩ F.entry_tuple_mul (F.args_tuple_mul_2 _ _) (tuple_mul1 l its.toArray n dd sl t) ⟨ho, ?_⟩⟩)
  exact ⟨.ref l, H, I, rfl, q⟩
theorem mulT1 {M : Mo} {g : G} {Z : Sc} {xs : List D} : OpD M g Z (binaryOp .Mult) (.tup xs) (.int 1) (.tup xs) := fun X ok B H v u s sr r1 r2 Q q => by
  cases r1 with
  | tup h1 k1 =>
    cases r2
    exact ⟨_, op_repT1, _, _, rfl, rfl, SqT.of (s _ _ h1), q _ _ _ (Fr.rfl' s sr) (.tup h1 k1)⟩
end OC
set_option maxHeartbeats 4000000
/-! The law looks at the meeting. -/
namespace OC
open PySem PySem.Spec PyProof.Rows L2
theorem corner_le {ps : List Per} : ∀ {l : List Gp} {z H e He : Int}, Cons ps z H l e He → ∀ q ∈ cornersF H l, q.2 ≤ H + (e - z)
  | [], _, _, _, _, _, q, hq => by simp [cornersF] at hq
  | x :: l, z, H, e, He, ⟨h1, h2, h3, h4, h5⟩, q, hq => by
    have le := h5.le
    have s : sg x ≤ x.width := by unfold sg; split <;> omega
    unfold cornersF at hq
    rcases List.mem_cons.mp hq with k | k
    · subst k; show H + sg x ≤ _; omega
    · have := corner_le h5 q k; omega
theorem top_bounds {ps : List Per} {lo hi Hm : Int} (gd : Good ps) (bx : Box ps lo hi) (hc : Cons ps lo 0 (gaps ps) hi Hm) : 0 ≤ (topH ps).1 ∧ Hm ≤ (topH ps).1 ∧ (topH ps).1 ≤ hi - lo := by
  obtain ⟨_, tp, q, hq, e⟩ := greatest_top gd
  obtain ⟨y, e1, _⟩ := corners_cons gd
  rw [e1] at tp hq
  have h0 : (0 : Int) ≤ (topH ps).1 := tp _ List.mem_cons_self
  refine ⟨h0, ?_, ?_⟩
  · rcases last_corner hc with k | ⟨x, k1, k2⟩
    · omega
    · have := tp x (List.mem_cons_of_mem _ k1); omega
  · have := bx.le
    rcases List.mem_cons.mp hq with k | k
    · subst k; simp only at e; omega
    · have := corner_le hc q k; omega
theorem together_const (ps : List Per) (t : Int) : together (st ps fun _ => t) = true := by
  unfold together
  refine decide_eq_true ?_
  have one : ∀ z ∈ stops (st ps fun _ => t), z = t := fun z hz => by
    obtain ⟨p, hp, rfl⟩ := (stops_mem _ z).mp hz
    obtain ⟨q, hq, rfl⟩ := List.mem_map.mp hp
    rfl
  have up := stops_up (st ps fun _ => t)
  match h : stops (st ps fun _ => t), up with
  | [], _ => simp
  | [a], _ => simp
  | a :: b :: l, up =>
    rw [h] at one
    have h3 := (List.pairwise_cons.mp up).1 b List.mem_cons_self
    have := one a List.mem_cons_self
    have := one b (List.mem_cons_of_mem _ List.mem_cons_self)
    omega
theorem Sh_tup3 (a b c : Int) : Sh 1 (.tup [.int a, .int b, .int c]) := .tup fun d hd => by
  simp only [List.mem_cons, List.not_mem_nil, or_false] at hd
  rcases hd with rfl | rfl | rfl <;> exact .int _
def R_meetR : Rel := fun ds P => ∃ ps, Good ps ∧ odd ps ∧ (∃ s : Int, ∀ p ∈ ps, s ≤ p.pl ∧ p.pl ≤ s + 12) ∧ ds = [.src, peopleD ps] ∧ P = fun d => d = .bl true
section
variable {M : Mo} (h : Hd M)
include h
theorem w_meeting_right_L : FnG M 12 "_law_meeting_right" true R_meetR := by
  refine h.fnG 113 100 fs_meeting_right_L bn_meeting_right_L (by rintro ds P ⟨ps, _, _, _, rfl, rfl⟩; rfl) ?_
  rintro Z ds P on ⟨ps, gd, o, sp, rfl, rfl⟩
  have l8 := gd.len
  have bx := Box.mk' gd
  obtain ⟨Hm, hc⟩ := cons_gaps gd bx
  obtain ⟨t0, t1, t2⟩ := top_bounds gd bx hc
  obtain ⟨s1, s2⟩ := sums_go hc
  have s1 : oddW ps - evenW ps = Hm - 0 := s1
  have s2 : oddW ps + evenW ps = (stops ps).getLastD 0 - (stops ps).headD 0 := s2
  have h12 : (stops ps).getLastD 0 - (stops ps).headD 0 ≤ 12 := by
    obtain ⟨s, hs⟩ := sp
    obtain ⟨p, hp, e⟩ := bx.atLo
    obtain ⟨q, hq, e'⟩ := bx.atHi
    have := hs p hp
    have := hs q hq
    omega
  have ew : 0 ≤ evenW ps ∧ 0 ≤ oddW ps := by
    have key : ∀ l : List Gp, (∀ q ∈ l, 0 ≤ q.width) → 0 ≤ (l.map (·.width)).sum := by
      intro l
      induction l with
      | nil => intro _; simp
      | cons q l ih =>
        intro hq
        have := ih fun x hx => hq x (List.mem_cons_of_mem _ hx)
        have := hq q List.mem_cons_self
        simp; omega
    exact ⟨key _ fun q hq => by have := (hc.mem q (List.mem_filter.mp hq).1).2.2; omega, key _ fun q hq => by have := (hc.mem q (List.mem_filter.mp hq).1).2.2; omega⟩
  obtain ⟨m1, m2⟩ := hts_top gd
  refine SS_set (x := .std ps) 2 (E_make h gd (E_var 1)) ?_
  refine SS_par3 (i := 3) (j := 4) (l := 5) (l1 := .d (.int (oddW ps))) (l2 := .d (.int (evenW ps))) (l3 := .d (.int (topH ps).1)) (AL_cons (E.l (EP_call (w_wide_L h) (A2 (E_var 1) E_str) ⟨_, true, gd, rfl, rfl⟩)) (AL_cons (E.l (EP_call (w_wide_L h) (A2 (E_var 1) E_str) ⟨_, false, gd, rfl, rfl⟩)) (AL_cons (E.l (E_maxL h m1 m2 (EP_call (w_heights_L h) (A1 (E_var 1)) ⟨_, gd, rfl, rfl⟩))) AL_nil))) ?_
  refine SS_ifF (T.of (T_cmp (EP_call (w_call_numbers h) (A1 (E_var 2)) ⟨_, gd, o, rfl, rfl⟩) (E_tup (A2 (E_max2 h (E_var 3) (E_var 4)) (E_add (E_var 4) (E_var 5)))) (neD (q := true) (Sh_ci (callN ps)) (Sh_ci (callN ps)) (Sh_ci _).refl)) rfl) ?_
  refine SS_setP 6 (P := IntP fun n => (callN ps).1 ≤ n ∧ n ≤ (callN ps).2) (EP_add2 (Pa := fun i => i = (callN ps).1) (E.ip (E_max2 h (E_var 3) (E_var 4)) rfl) (EP_callS on (w_pick_L h) (A2 (E_var 0) (E_add (E_sub (E_add (E_var 4) (E_var 5)) (E_max2 h (E_var 3) (E_var 4))) E_int)) ⟨_, by omega, by omega, rfl, rfl⟩) fun i j ei hj => by subst ei; unfold callN; simp only; omega) ?_
  rintro x ⟨n, rfl, n1, n2⟩
  refine SS_ifF (T.of (T_cmp (EP_call (w_share_of h) (A2 (E_var 2) (E_var 6)) ⟨_, _, gd, o, n1, n2, rfl, rfl⟩) (E_tup (A_cons (E_sub (E_var 6) (E_var 4)) (A2 (E_sub (E_add (E_var 3) (E_var 4)) (E_var 6)) (E_sub (E_var 6) (E_var 3))))) (neD (q := true) (Sh_tup3 (n - evenW ps) (oddW ps + evenW ps - n) (n - oddW ps)) (Sh_tup3 _ _ _) (Sh_tup3 _ _ _).refl)) rfl) ?_
  have n12 : n ≤ 24 := by unfold callN at n2; simp only at n2; omega
  have all : ∀ sc, MeetOf ps n sc → Made ps (st ps fun _ => turnS ps) sc (n - evenW ps) (oddW ps + evenW ps - n) (n - oddW ps) := fun sc ⟨a, b, fa, fb, e⟩ => by
    rw [e]; exact (meet_made gd bx o n1 n2 fa fb).2
  have pk : partOk (n - evenW ps) 0 (stretchesOf ps) := by
    obtain ⟨p, hp, e⟩ := bx.atLo
    obtain ⟨q, hq, e'⟩ := bx.atHi
    exact (meet_made (a := p.nm) (d := q.nm) gd bx o n1 n2 ⟨List.mem_map.mpr ⟨p, hp, rfl⟩, fun n hn => by
      obtain ⟨x, hx, rfl⟩ := List.mem_map.mp hn
      unfold plc; rw [perOf_mem gd.nd hp, perOf_mem gd.nd hx, e]; exact (bx.bd x hx).1⟩ ⟨List.mem_map.mpr ⟨q, hq, rfl⟩, fun n hn => by
      obtain ⟨x, hx, rfl⟩ := List.mem_map.mp hn
      unfold plc; rw [perOf_mem gd.nd hq, perOf_mem gd.nd hx, e']; exact (bx.bd x hx).2⟩).1
  refine SS_setP 7 (EP_call (w_meet_script h) (A2 (E_var 2) (E_var 6)) ⟨_, _, gd, o, n1, n2, pk, rfl, rfl⟩) ?_
  rintro x ⟨sc, hsc, rfl⟩
  have Md := all sc hsc
  have sl := hsc.len gd
  have cc : callsOf sc = n := by rw [Md.calls]; omega
  have r4 : ∀ q ∈ sc, q.2 < 400 := fun q hq => by have := ((rows_pos sc ps Md.ok).2 q hq).2; omega
  have gt := st_good gd fun _ => turnS ps
  refine SS_set (x := .tup [peopleD (st ps fun _ => turnS ps), .int n]) 8 (E.of (EP_call (w_walked_L h) (A2 (E_var 1) (E_var 7)) ⟨_, _, gd, Md.ok, r4, rfl, rfl⟩) (by rw [Md.af, cc])) ?_
  refine SS_ifF (W_or (c := false) (c' := false) (T_isN (x := .tup [peopleD (st ps fun _ => turnS ps), .int n]) (E_var 8)) fun _ => W_or (c := false) (c' := false) (T.of (T_cmp (E_ixT (d := .int n) (E_var 8) E_int) (E_var 6) (neI _ _)) (by simp)) fun _ => W_or1 (c := false) (T_notN (x := .non) (EP_call (w_judge_meeting h) (A2 (E_var 2) (E_var 7)) ⟨_, _, gd, Md.ok, by omega, by rw [Md.af]; exact together_const ps _, rfl, rfl⟩))).t ?_
  have es : spotsD (st ps fun _ => turnS ps) = .tup (List.replicate ps.length [D.int (turnS ps)]).flatten := by
    rw [flat_rep]
    unfold spotsD st
    rw [List.map_map]
    congr 1
    rw [List.eq_replicate_iff]
    exact ⟨by simp, fun b hb => by obtain ⟨p, _, rfl⟩ := List.mem_map.mp hb; rfl⟩
  have e1 : E M ⟨N_meeting_right_L, d_meeting_right_L.scope, fun _ => true, 11⟩ Z (.Constant (.int 0) 0 ⟨0, 0, 0, 0⟩) [] (.int 0) := E_int
  have ln : ps.length ≠ 0 := fun z => gd.ne (List.length_eq_zero_iff.mp z)
  refine SS_ret (E_cmp (EP_call (w_spots_L h) (A1 (E_ixT (d := peopleD (st ps fun _ => turnS ps)) (E_var 8) E_int)) ⟨_, gt, rfl, rfl⟩) (E_op (x := .tup [.int (turnS ps)]) (y := .int (ps.length : Int)) (z := spotsD (st ps fun _ => turnS ps)) (E_tup (A1 (EP_call (w_turn_sum_L h) (A1 (E_var 1)) ⟨_, gd, rfl, rfl⟩))) (E.of (E_lenL h (E_var 1)) (by rw [List.length_map])) ?_) (eqD (q := true) (Sh_spots _) (Sh_spots _) (Sh_spots _).refl)) rfl
  rw [es]
  by_cases q : ps.length = 1
  · rw [q]; exact mulT1
  · exact mulT ps.length (by simp) (by simp) (by omega) (by omega)
end
end OC
set_option maxHeartbeats 4000000
/-! The law's source is laid. -/
namespace OC
open PySem PySem.Spec PyProof.Rows L2
theorem SqL_keep {K : PySem.W.Frag} {H H' : Hp} {a : Addr} {xs : List V} (h : SqL K H a xs) (e : Ex H H') : SqL K H' a xs := by
  rcases h with h | h
  · rcases h with h | ⟨o, h⟩
    · exact .inl (.inl (e _ _ h))
    · exact .inl (.inr ⟨o, e _ _ h⟩)
  · exact .inr h
abbrev Z0 : Sc := ⟨false, 0, 0⟩
theorem Z0ok (H : Hp) : SrcOk Z0 H := fun z => nomatch z
theorem rs_plain {C : Addr} {H : Hp} {r : Rho} {σ : L2.St} (len : σ.length = r.length) (h : ∀ (i : Nat) (l : L), r[i]? = some (some l) → ∃ x v, l = .d x ∧ σ[i]? = some (some v) ∧ RD C 0 H x v) : RS C Z0 H H H H r σ := by
  refine ⟨Z0ok H, fun z => (nomatch z), Fr.rfl' Ex.rfl' (Z0ok H), len, fun i l e => ?_, fun i j l m v w a e1 e2 e3 e4 ne k1 k2 => ?_⟩
  · obtain ⟨x, v, rfl, e1, k⟩ := h i l e
    exact ⟨v, e1, k⟩
  · obtain ⟨x, _, rfl, _, _⟩ := h i l e1
    cases v <;> exact k1
theorem rs_none3 {C : Addr} {H : Hp} {σ : L2.St} (len : σ.length = 3) : RS C Z0 H H H H [none, none, none] σ := rs_plain len fun i l e => by
  match i, e with
  | 0, e => cases e
  | 1, e => cases e
  | 2, e => cases e
theorem rs_two3 {C : Addr} {H : Hp} {o : Option V} {m c : Int} : RS C Z0 H H H H [none, some (.d (.int m)), some (.d (.int c))] [o, some (.int m), some (.int c)] := rs_plain rfl fun i l e => by
  match i, e with
  | 0, e => cases e
  | 1, e => cases e; exact ⟨_, _, rfl, rfl, .int _⟩
  | 2, e => cases e; exact ⟨_, _, rfl, rfl, .int _⟩
def absC (i : Int) : Int := if i < 0 then -i else i
theorem absC_0 (i : Int) : 0 ≤ absC i := by unfold absC; split <;> omega
def spSrc (K : PySem.W.Frag) : Sp := fun vs H Q _ => ∃ (a : Addr) (ns : List Int), vs = [.ref a] ∧ SqL K H a (ns.map V.int) ∧ ns.length ≤ 63 ∧ ∀ (S c : Addr) (H' : Hp), Ex H H' → H S = none → H c = none → (∃ cs l m t, SrcAt ⟨true, S, c⟩ H' cs l m t) → Q (.ref S) H'
section
variable {M : Mo} (h : Hd M)
include h
theorem src_mix {g : G} {m c : Int} {p1 p2 p3 p4 p5 p6 p7 p8 p9 p10 p11 p12 p13 : Pos} {j1 j2 j3 j4 : Nat} {nm nm2 : Str} (hN : g.N[1]? = some nm) (hN2 : g.N[2]? = some nm2) (hv : Vis g.sc nm) (hv2 : Vis g.sc nm2)
    (hd : (nm == ("__debug__" : Str)) = false) (hcd : (nm == ("__classdict__" : Str)) = false) (hd2 : (nm2 == ("__debug__" : Str)) = false) (hcd2 : (nm2 == ("__classdict__" : Str)) = false) (hg : GlS g "int") :
    E M g Z0 (.BinOp (.Call (.Name "int" p1) [.BinOp (.BinOp (.BinOp (.Name nm p2) .Mult (.Constant (.int 69069) j1 p3) p4) .Add (.BinOp (.Name nm2 p5) .Mult (.Constant (.int 31) j2 p6) p7) p8) .Add (.Constant (.int 5) j3 p9) p10] [] p11) .Mod (.Constant (.int 2147483629) j4 p12) p13) [none, some (.d (.int m)), some (.d (.int c))] (.int ((m * 69069 + c * 31 + 5) % 2147483629)) :=
  E_mod (E_intI h (E_add (E_add (E_mul (E_var 1 rfl hN hv hd hcd) E_int (.inr (by decide))) (E_mul (E_var 2 rfl hN2 hv2 hd2 hcd2) E_int (.inr (by decide)))) E_int) hg) E_int
theorem src_cells {g : G} {X : Cx} (ok : Okx M g X) {H : Hp} {σ : L2.St} {a : Addr} {ns : List Int} {scope : Scope} {nm nm2 : Str} {p1 p2 p3 p4 p5 p6 p7 p8 p9 p10 : Pos} {k : Nat} {Q : VK} (len : σ.length = 3) (e0 : σ[0]? = some (some (.ref a))) (hS : SqL M.K H a (ns.map V.int)) (hn : ns.length ≤ 63)
    (hN : g.N[0]? = some nm) (hN2 : g.N[2]? = some nm2) (hv : Vis g.sc nm) (hv2 : Vis (g.blk scope).sc nm2) (hl : LocS (g.blk scope) nm2)
    (hd : (nm == ("__debug__" : Str)) = false) (hcd : (nm == ("__classdict__" : Str)) = false) (hd2 : (nm2 == ("__debug__" : Str)) = false) (hcd2 : (nm2 == ("__classdict__" : Str)) = false) (hg : GlS (g.blk scope) "abs") (bo : BlkOk g.N g.sc scope [(nm2, 2)])
    (hq : ∀ q H', H q = none → Ex H H' → H' q = some (.lst ((ns.map absC).reverse.map V.int)) → Q (.ref q) H') :
    wE X (.Subscript (.ListComp (.Call (.Name "abs" p1) [.Name nm2 p2] [] p3) [⟨.Name nm2 p4, .Name nm p5, [], 0⟩] scope p6) (.Slice none none (some (.UnaryOp .USub (.Constant (.int 1) k p7) p8)) p9) p10) σ H Q := by
  refine ⟨_, pe_revL (pe_lc (own := [(nm2, 2)]) ok.calm ok.nd (pi_list (pe_var (i := 0) (by rw [ok.N]; exact hN) (by rw [ok.sc]; exact hv) hd hcd)) (by rw [ok.N, ok.sc]; exact bo) pg_b pt_b pe_b (by intro _; rfl)), ?_⟩
  refine ⟨_, e0, a, rfl, ⟨_, by rw [ok.K]; exact hS⟩, fun Dl hD => ?_⟩
  refine ⟨fun k m H' => m = ns.length - k ∧ k ≤ ns.length ∧ Ex H H' ∧ H' Dl = some (.lst ((ns.take k).map fun n => V.int (absC n))), ⟨_, rfl, Nat.zero_le _, Ex.new hD, upd_same⟩, ?_⟩
  rintro i m H' ⟨rfl, hi, keep, hx⟩
  have hS' : SqL X.K H' a (ns.map V.int) := by rw [ok.K]; exact SqL_keep hS keep
  by_cases hlt : i < ns.length
  · have hat : (ns.map V.int)[i]? = some (V.int ns[i]) := by rw [List.getElem?_map, List.getElem?_eq_getElem hlt]; rfl
    refine .inr ⟨⟨_, _, hS', hat⟩, fun H3 => Ex H H3 ∧ H3 Dl = some (.lst ((ns.take (i + 1)).map fun n => V.int (absC n))), fun H3 q3 => ⟨ns.length - (i + 1), by omega, rfl, hlt, q3.1, q3.2⟩, fun x H'' y => ?_⟩
    obtain ⟨e1, y⟩ := y
    subst e1
    have ex := (y _ hS').symm.trans hat
    cases ex
    intro s Hs Cc cl fp
    refine G_name (M := M) (g := g.blk scope) (Z := Z0) (x := .int ns[i]) (r := [none, none, none]) 2 hN2 hl _ ok.blk H'' H'' H'' H'' _ _ (rs_none3 (by rw [wipe_length]; exact len)) (.int _) _ fun σ2 R2 so => ⟨so.wipe fun j z => z, ?_⟩
    intro s2 Hs2 Cc2 cl2 fp2
    have fin : bE X scope (.Call (.Name "abs" p1) [.Name nm2 p2] [] p3) σ2 H'' fun y H4 => ∃ acc, H4 Dl = some (.lst acc) ∧ acc.length < sizeLine ∧ Ex H (upd H4 Dl (.lst (acc ++ [y]))) ∧ (upd H4 Dl (.lst (acc ++ [y]))) Dl = some (.lst ((ns.take (i + 1)).map fun n => V.int (absC n))) := ?_
    · exact ⟨_, pts_nil, fin⟩
    intro s3 Hs3 Cc3 cl3 fp3
    have ev : E M (g.blk scope) Z0 (.Call (.Name "abs" p1) [.Name nm2 p2] [] p3) [none, none, some (.d (.int ns[i]))] (.int (absC ns[i])) := E_abs h (E_var 2 rfl hN2 hv2 hd2 hcd2) hg
    refine ev _ ok.blk H'' H'' H'' H'' σ2 R2 _ fun y v B4 H4 py f4 r4 => ?_
    subst py; cases r4
    have hx4 := f4.h _ _ hx fun z => nomatch z
    refine ⟨_, hx4, ?_, ?_, ?_⟩
    · rw [List.length_map, List.length_take]
      exact Nat.lt_of_le_of_lt (Nat.le_trans (Nat.min_le_right _ _) hn) (by decide)
    · intro b o hb
      by_cases z : b = Dl
      · subst z; rw [hD] at hb; cases hb
      · rw [upd_ne z]; exact f4.h _ _ (keep _ _ hb) fun z => nomatch z
    · rw [upd_same, List.take_succ_eq_append_getElem hlt, List.map_append]; rfl
  · have ei : i = ns.length := by omega
    subst ei
    refine .inl ⟨⟨_, hS', by rw [List.length_map]; exact Nat.le_refl _⟩, ?_⟩
    refine ⟨Dl, _, rfl, SqL.of hx, fun p hp => hq p _ (keep.free hp) (fun b o hb => ?_) ?_⟩
    · rw [upd_ne fun z => by rw [z, keep.free hp] at hb; cases hb]; exact keep _ _ hb
    · rw [upd_same, List.take_length, List.map_reverse, List.map_map]; rfl
end
end OC
set_option maxHeartbeats 4000000
/-! The law's source is laid: its body. -/
namespace OC
open PySem PySem.Spec PyProof.Rows L2
section
variable {M : Mo} (h : Hd M)
include h
abbrev gSrc : G := ⟨N_source_L, d_source_L.scope, fun _ => true, 0⟩
theorem src_body {X : Cx} (ok : Okx M gSrc X) {H : Hp} {a : Addr} {ns : List Int} {Dn : Ends} (hS : SqL M.K H a (ns.map V.int)) (hn : ns.length ≤ 63)
    (hQ : ∀ (S c : Addr) (H' : Hp), Ex H H' → H S = none → H c = none → (∃ cs l m t, SrcAt ⟨true, S, c⟩ H' cs l m t) → Dn.rt (.ref S) H') : wSs X d_source_L.body Dn [some (.ref a), none, none] H := by
  have v0 : Vis gSrc.sc "_law_script" := by first | exact Or.inl rfl | exact Or.inr (Or.inl rfl) | exact Or.inr (Or.inr rfl)
  have v1 : Vis gSrc.sc "_law_mixed_here" := by first | exact Or.inl rfl | exact Or.inr (Or.inl rfl) | exact Or.inr (Or.inr rfl)
  have v2 : Vis gSrc.sc "_law_cell" := by first | exact Or.inl rfl | exact Or.inr (Or.inl rfl) | exact Or.inr (Or.inr rfl)
  obtain ⟨l1, l1'⟩ := ok.loc (nm := "_law_mixed_here") (.inl rfl)
  obtain ⟨l2, l2'⟩ := ok.loc (nm := "_law_cell") (.inl rfl)
  refine ⟨_, pss_cons ps_w pss_w, ?_⟩
  refine ⟨_, ps_set (i := 1) ok.nd (by rw [ok.N]; rfl) l1 pe_int (by rfl) l1', ?_⟩
  refine ⟨_, pss_cons (ps_for (by rw [ok.xe]; exact PassesOwn.never) ok.calm (pi_list (pe_var (i := 0) (by rw [ok.N]; rfl) (by rw [ok.sc]; exact v0) (by decide) (by decide))) (pg_name (i := 2) ok.nd (by rw [ok.N]; rfl) l2 l2') pss_w (by intro _; rfl)) pss_w, ?_⟩
  refine ⟨_, rfl, a, rfl, ⟨_, by rw [ok.K]; exact hS⟩, ?_⟩
  refine for_list (xs := ns.map V.int) (fun i σ H' => ∃ (m : Int) (cv : Option V), σ = [some (.ref a), some (.int m), cv] ∧ 0 ≤ m ∧ m < 2147483629 ∧ Ex H H') ⟨11, none, rfl, by decide, by decide, Ex.rfl'⟩ (fun i σ H' _ ⟨_, _, _, _, _, e⟩ => by rw [ok.K]; exact SqL_keep hS e) (fun i x σ H' hx ⟨m, cv, hσ, m0, m1, e⟩ => ?_) (fun σ H' ⟨m, cv, hσ, m0, m1, e⟩ => ?_)
  · subst hσ
    rw [List.getElem?_map] at hx
    cases g1 : ns[i]? with
    | none => rw [g1] at hx; cases hx
    | some c =>
      rw [g1] at hx; cases hx
      refine ⟨_, pss_cons ps_w pss_w, ?_⟩
      refine ⟨_, ps_set (i := 1) ok.nd (by rw [ok.N]; rfl) l1 pe_w (by rfl) l1', ?_⟩
      refine src_mix h (g := gSrc) (m := m) (c := c) rfl rfl v1 v2 (by decide) (by decide) (by decide) (by decide) rfl X ok H' H' H' H' [some (.ref a), some (.int m), some (.int c)] rs_two3 _ fun x v B' H'' px f r => ?_
      subst px; cases r
      exact ⟨_, pss_nil, _, _, rfl, Int.emod_nonneg _ (by decide), Int.emod_lt_of_pos _ (by decide), fun b o hb => f.h _ _ (e _ _ hb) fun z => nomatch z⟩
  · subst hσ
    refine ⟨_, pss_cons (ps_ret (pe_disp (pps_cons pe_str pe_w (pps_cons pe_str pe_int (pps_cons pe_str (pe_var (i := 1) (by rw [ok.N]; rfl) (by rw [ok.sc]; exact v1) (by decide) (by decide)) (pps_cons pe_str pe_int pps_nil)))) rfl rfl (by simp) (Nat.le_of_ble_eq_true rfl))) pss_nil, ?_⟩
    intro p hp
    have np : H p = none := e.free hp
    refine src_cells h ok rfl rfl (SqL_keep hS (e.tr (Ex.new hp))) hn rfl rfl v0 (by first | exact Or.inl rfl | exact Or.inr (Or.inl rfl) | exact Or.inr (Or.inr rfl)) (.inl rfl) (by decide) (by decide) (by decide) (by decide) rfl ⟨rfl, by decide +kernel, by decide +kernel, by decide +kernel, by decide +kernel⟩ fun q H2 hq keep hx => ?_
    have qp : q ≠ p := fun z => by rw [z, upd_same] at hq; cases hq
    have nq : H q = none := e.free (by rw [upd_ne qp] at hq; exact hq)
    refine ⟨_, rfl, keep p _ upd_same, [(.inr "cells", .ref q), (.inr "left", .int 1), (.inr "mixed", .int m), (.inr "turn", .int 0)], rfl, Nat.le_of_ble_eq_true rfl, ?_⟩
    refine hQ p q _ (fun b o hb => ?_) np nq ⟨(ns.map absC).reverse, 1, m, 0, qp.symm, by decide, m0, fun n hn => ?_, Int.lt_trans m1 (by decide), ?_, ?_⟩
    · have bp : b ≠ p := fun z => by rw [z, np] at hb; cases hb
      rw [upd_ne bp]
      exact keep _ _ (by rw [upd_ne bp]; exact e _ _ hb)
    · rw [List.mem_reverse] at hn
      obtain ⟨y, _, rfl⟩ := List.mem_map.mp hn
      exact absC_0 y
    · rw [upd_same]; rfl
    · rw [upd_ne qp]; exact hx
theorem w_source_L : ∃ f fd, FnOk M.P M.w M.K M.mg M.base CX0 1 f fd ["_law_script"] (spSrc M.K) ∧ M.mg "_law_source" = some (.ref f) ∧ PySem.W.keepIn M.K (.ref f) = true ∧ Binds M.K fd ["_law_script"] [] := by
  obtain ⟨fd, F⟩ := h.c.def_ 86 (d := d_source_L) rfl
  have e1 : d_source_L.dvs M.K = [] := by unfold He.DefD.dvs; rfl
  have e2 : d_source_L.kws M.K = [] := by unfold He.DefD.kws; rfl
  rw [e1, e2] at F
  refine ⟨_, fd, F.ok fs_source_L (fun vs H Q E k => ?_) (fun cdv A outer s H vs Q E hr k => ?_), h.glo 73 rfl, F.kp, FunD.bindsN F bn_source_L⟩
  · obtain ⟨a, ns, rfl, _⟩ := k
    rfl
  · obtain ⟨a, ns, rfl, hS, hn, hQ⟩ := k
    have ok : Okx M gSrc (cxOf CX0 M.P M.w M.K M.mg M.base N_source_L _ _ _ cdv A outer s H E).nox := ⟨rfl, rfl, rfl, rfl, rfl, rfl, fs_source_L.nd, rfl, rfl, rfl, hr, rfl⟩
    obtain ⟨t, h1, h2⟩ := src_body h ok (Dn := { nx := fun _ H' => Q .non H', rt := Q }) hS hn hQ
    exact ⟨t, PSs.nox h1, h2⟩
end
end OC
set_option maxHeartbeats 4000000
/-! The law, from its source on. -/
namespace OC
open PySem PySem.Spec PyProof.Rows L2
abbrev gLaw : G := ⟨N_law, d_law.scope, fun _ => true, 13⟩
theorem keeps_of {l : List Bd} {n : Int} (h : ∀ b ∈ l, satB b n) : keepsB l n = true := by
  unfold keepsB
  rw [List.all_eq_true]
  intro b hb
  obtain ⟨h1, h2⟩ := h b hb
  cases e1 : b.lo with
  | none => cases e2 : b.hi with
    | none => rfl
    | some j => have := h2 j e2; simp; exact this
  | some i => cases e2 : b.hi with
    | none => have := h1 i e1; simp; exact this
    | some j => have := h1 i e1; have := h2 j e2; simp; omega
section
variable {M : Mo} (h : Hd M)
include h
theorem law_tail {Z : Sc} (on : Z.on = true) : SS M gLaw Z d_law.body.tail [none, some (.d .src), none, none, none, none, none, none, none] ⟨fun _ => False, fun d => d = .bl true, fun _ => False, fun _ => False⟩ := by
  refine SS_setP 2 (P := fun d => ∃ ps, Good ps ∧ (∃ s : Int, ∀ p ∈ ps, s ≤ p.pl ∧ p.pl ≤ s + 12) ∧ d = peopleD ps) (EP_callSQ on (w_near_people_L h) (Ps := fun xs => ∃ n : Int, 1 ≤ n ∧ n ≤ 8 ∧ xs = [.src, .int n, .int 12]) (AP_cons (P' := fun xs => ∃ n : Int, 1 ≤ n ∧ n ≤ 8 ∧ xs = [.src, .int n, .int 12]) (E_var 1) (AP_cons (P' := fun xs => ∃ n : Int, 1 ≤ n ∧ n ≤ 8 ∧ xs = [.int n, .int 12]) (EP_add2 (Pa := fun i => i = 1) (Pc := fun i => 1 ≤ i ∧ i ≤ 8) (E.ip E_int rfl) (EP_callS on (w_pick_L h) (A2 (E_var 1) E_int) ⟨_, by decide, by decide, rfl, rfl⟩) fun i j ei hj => by subst ei; omega) (A1 E_int) fun x xs ⟨n, e, hn⟩ e2 => ⟨n, hn.1, hn.2, by rw [e, e2]⟩) fun x xs e ⟨n, h1, h2, e2⟩ => ⟨n, h1, h2, by rw [e, e2]⟩) fun xs ⟨n, h1, h2, e⟩ => ⟨_, ⟨n.toNat, by omega, by omega, by rw [e, Int.toNat_of_nonneg (by omega)], rfl⟩, fun x p => p⟩) ?_
  rintro d ⟨ps, gd, sp, rfl⟩
  refine SS_setP 3 (EP_callS on (w_goal_L h) (A_cons (E_var 1) (A2 (E_var 2) E_int)) ⟨ps, gd, rfl, rfl⟩) ?_
  rintro d ⟨f, rf, rfl⟩
  have c : Case ps f := ⟨gd, rf, sp⟩
  have gq := c.good
  have lk := st_like ps f
  have il := c.leads
  obtain ⟨nf, pe, le⟩ := paper_leads il
  have l8 := gd.len
  refine SS_par (i := 4) (j := 5) (AL_cons (E.l (E_make h gd (E_var 2))) (AL_cons (E.l (E_make h gq (EP_call (w_at_L h) (A2 (E_var 2) (E_var 3)) ⟨_, _, gd, gq, lk, rfl, rfl⟩))) AL_nil)) ?_
  refine SS_par (i := 6) (j := 7) (l := .d (ciD (leadB ps (st ps f)))) (m := .d (.tup [.str "leads", .int (leastP ps (st ps f)).1])) (AL_cons (E.l (E_ixL (ds := [ciD (leadB ps (st ps f))]) (E.of (EP_call (w_lead_numbers_L h) (A2 (E_var 2) (E_var 3)) ⟨_, _, gd, gq, lk, rfl, rfl⟩) (by unfold leadN; rw [il]; rfl)) E_int rfl)) (AL_cons (E.l (E.of (EP_call (w_lead_paper h) (A2 (E_var 4) (E_var 5)) ⟨_, _, gd, gq, lk, rfl, rfl⟩) (by show paperD (paper ps (st ps f)) = _; rw [pe]; rfl))) AL_nil)) ?_
  refine SS_ifF (W_or (c := false) (c' := false) (T.of (T_cmp (EP_call (w_lead_bounds h) (A2 (E_var 4) (E_var 5)) ⟨_, _, gd, gq, lk, il, rfl, rfl⟩) (E_var 6) (neD (q := true) (Sh_ci _) (Sh_ci _) (Sh_ci _).refl)) rfl) fun _ => W_or1 (c := false) (T.of (T_cmp (EP_call (w_all_bounds h) (A2 (E_var 4) (E_var 5)) ⟨_, _, gd, gq, lk, nf, rfl, rfl⟩) (E.of (EP_call (w_bounds_L h) (A2 (E_var 2) (E_var 3)) ⟨_, _, gd, gq, lk, rfl, rfl⟩) (by unfold boundsL; rw [nf])) (neD (q := true) (Sh_told ps (st ps f)) (Sh_told ps (st ps f)) (Sh_told _ _).refl)) rfl)).t ?_
  refine SS_ifF (W_or (c := false) (c' := false) (T.of (T_cmp (E_ixT (d := .str "leads") (E_var 7) E_int) E_str (neS _ _)) (by decide +kernel)) fun _ => W_or1 (c := false) (T_not (c := true) (T_val (E.of (EP_call (w_judge_lead h) (A_cons (E_var 4) (A2 (E_var 5) (E_var 7))) ⟨_, _, _, gd, gq, lk, nf, rfl, rfl⟩) (by rw [keeps_of (sat_between.mpr ⟨Int.le_refl _, le⟩)]))))).t ?_
  refine SS_ifF (T_not (c := true) (T_val (EP_callS on (w_scripts_right_L h) (A_cons (E_var 1) (A_cons (E_var 2) (A2 (E_var 3) (E_var 6)))) ⟨_, _, c, rfl, rfl⟩))) ?_
  refine SS_ifF (W_or (c := false) (c' := false) (T_not (c := true) (T_val (EP_call (w_choices_right_L h) (A_cons (E_var 2) (A2 (E_var 3) (E_var 6))) ⟨_, _, c, rfl, rfl⟩))) fun _ => W_or1 (c := false) (T_not (c := true) (T_val (EP_callS on (w_prices_right_L h) (A_cons (E_var 1) (A_cons (E_var 2) (A2 (E_var 3) (E_var 6)))) ⟨_, _, c, rfl, rfl⟩)))).t ?_
  refine SS_ret (E_or (c := decide (vsum ps % 2 = 0)) (c' := true) (E_cmp (E_mod (E_intI h (E_sum h (E_lcm (l := ps) (gf := perD) [("_law_person", 8)] D.int (·.vc) (IT_list (E_var 2)) (fun p hp => ⟨_, _, G_name 8, by decide, E_ixT (d := .int p.vc) (E_var 8) E_int⟩) (by omega)))) E_int) E_int (eqI _ _)) fun hc => E_one (EP_callS on (w_meeting_right_L h) (A2 (E_var 1) (E_var 2)) ⟨_, gd, ?_, sp, rfl, rfl⟩)) ?_
  · have : ¬ vsum ps % 2 = 0 := of_decide_eq_false hc
    show vsum ps % 2 = 1
    omega
  · simp
end
end OC
set_option maxHeartbeats 4000000
/-! The law. -/
namespace OC
open PySem PySem.Spec PyProof.Rows L2
def spLaw (K : PySem.W.Frag) : Sp := fun vs H Q _ => ∃ (a : Addr) (ns : List Int), vs = [.ref a] ∧ SqL K H a (ns.map V.int) ∧ ns.length ≤ 63 ∧ ∀ H', Q (.bl true) H'
section
variable {M : Mo} (h : Hd M)
include h
theorem law_body {X : Cx} (ok : Okx M gLaw X) {H : Hp} {a : Addr} {ns : List Int} {Dn : Ends} (hS : SqL M.K H a (ns.map V.int)) (hn : ns.length ≤ 63) (hQ : ∀ H', Dn.rt (.bl true) H') : wSs X d_law.body Dn [some (.ref a), none, none, none, none, none, none, none, none] H := by
  obtain ⟨fS, fdS, FS, mS, kS, bS⟩ := w_source_L h
  have v0 : Vis gLaw.sc "_law_script" := by first | exact Or.inl rfl | exact Or.inr (Or.inl rfl) | exact Or.inr (Or.inr rfl)
  obtain ⟨l1, l1'⟩ := ok.loc (nm := "_law_source_here") (.inl rfl)
  refine ⟨_, pss_cons (ps_set (i := 1) ok.nd (by rw [ok.N]; rfl) l1 (pe_call (ok.fn' FS) (ok.room.mono (by decide)) (ok.gl rfl) (by rw [ok.mg]; exact mS) (by rw [ok.K]; exact kS) (by rw [ok.K]; exact bS) .nil pass0 (pa_cons (pe_var (i := 0) (by rw [ok.N]; rfl) (by rw [ok.sc]; exact v0) (by decide) (by decide)) pa_nil (by rfl)) (by decide) (by rfl) (by rfl)) (by rfl) l1') pss_w, ?_⟩
  refine ⟨_, rfl, a, ns, rfl, hS, hn, fun S c H' e nS nc ⟨cs, l, m, t, S1⟩ => ?_⟩
  have R : RS M.C ⟨true, S, c⟩ H H' H H' [none, some (.d .src), none, none, none, none, none, none, none] [some (.ref a), some (.ref S), none, none, none, none, none, none, none] := by
    refine ⟨S1.ok, fun _ => ⟨nS, nc⟩, Fr.rfl' e S1.ok, rfl, fun i l el => ?_, fun i j l m v w b e1 e2 e3 e4 ne k1 k2 => ?_⟩
    · match i, el with
      | 0, el => cases el
      | 1, el => cases el; exact ⟨_, rfl, .src⟩
      | 2, el => cases el
      | 3, el => cases el
      | 4, el => cases el
      | 5, el => cases el
      | 6, el => cases el
      | 7, el => cases el
      | 8, el => cases el
    · match i, e1 with
      | 0, e1 => cases e1
      | 1, e1 => cases e1; cases v <;> exact k1
      | 2, e1 => cases e1
      | 3, e1 => cases e1
      | 4, e1 => cases e1
      | 5, e1 => cases e1
      | 6, e1 => cases e1
      | 7, e1 => cases e1
      | 8, e1 => cases e1
  exact law_tail h rfl X ok H H' H H' _ R _ ⟨fun _ _ _ _ n => n.elim, fun d v B2 H2 p _ r => by
    have p : d = .bl true := p
    subst p; cases r; exact hQ _, fun _ _ _ _ n => n.elim, fun _ _ _ _ n => n.elim⟩
theorem law_fn {fd : FuncData} (F : FunD M.K d_law.name d_law.qual d_law.params d_law.body d_law.scope [] [] (He.fAd M.K d_law.at_) fd) : FnOk M.P M.w M.K M.mg M.base CX0 14 (He.fAd M.K d_law.at_) fd ["_law_script"] (spLaw M.K) := by
  refine F.ok fs_law (fun vs H Q E k => ?_) (fun cdv A outer s H vs Q E hr k => ?_)
  · obtain ⟨a, ns, rfl, _⟩ := k
    rfl
  · obtain ⟨a, ns, rfl, hS, hn, hQ⟩ := k
    have ok : Okx M gLaw (cxOf CX0 M.P M.w M.K M.mg M.base N_law _ _ _ cdv A outer s H E).nox := ⟨rfl, rfl, rfl, rfl, rfl, rfl, fs_law.nd, rfl, rfl, rfl, hr, rfl⟩
    obtain ⟨t, h1, h2⟩ := law_body h ok (Dn := { nx := fun _ H' => Q .non H', rt := Q }) hS hn hQ
    exact ⟨t, PSs.nox h1, h2⟩
omit h in
theorem law_at {K : PySem.W.Frag} (c : He.SaysD faAll fnAll K) : ∃ fd, FunD K d_law.name d_law.qual d_law.params d_law.body d_law.scope [] [] (He.fAd K d_law.at_) fd ∧ ∀ (s : Shared) (us : List Value), us.length = 1 → BindsTo s fd ⟨us, []⟩ ((["_law_script"] : List Str).zip us) := by
  obtain ⟨fd, F⟩ := c.def_ 115 (d := d_law) rfl
  have e1 : d_law.dvs K = [] := by unfold He.DefD.dvs; rfl
  have e2 : d_law.kws K = [] := by unfold He.DefD.kws; rfl
  rw [e1, e2] at F
  exact ⟨fd, F, FunD.bindsA F bn_law⟩
end
end OC
set_option maxHeartbeats 0
open PySem PySem.W PySem.Calls PyProof.Rows
theorem PySem.Challenge.cw_oddcrowds_k97_whole_scripts_and_choices_holds : PySem.Challenge.rw_oddcrowds_k97_whole_scripts_and_choices.Holds := by
  w_on; o_law
  refine HandSHeadRun.head_any (r := OpenLaw.row PySem.Challenge.rw_oddcrowds_k97_whole_scripts_and_choices) (q := view (OpenLaw.row PySem.Challenge.rw_oddcrowds_k97_whole_scripts_and_choices).prog [133]) (H := OC.hk) (ob := OC.ob) (M := 6100) (loose := OC.loAll) (d := HandSHeadRun.topDef (OpenLaw.row PySem.Challenge.rw_oddcrowds_k97_whole_scripts_and_choices).prog 133) (kwd := []) OC.ob_eq
    (by kernel_rfl) (fun s => by kernel_rfl) OC.run (by kernel_rfl) (by kernel_rfl) (by kernel_rfl) (by rfl) (by first | assumption | decide +kernel) (by decide +kernel) ⟨rfl, rfl, rfl, rfl, rfl, by decide +kernel⟩ ?hw ?hc
  case hw => w_witness2
  case hc =>
    refine L2.walk_ofE (l := PySem.Challenge.rw_oddcrowds_k97_whole_scripts_and_choices) (n := 63) (k := 14) (x := "_law_script") (CX := L2.CX0) rfl (by decide) (by kernel_rfl) ⟨rfl, by decide, by decide⟩ ?F (fun _ _ _ _ z => z)
    intro w mg fa h Y G hmg0
    obtain ⟨K, KX, c⟩ := Y
    have hmg : mg ("law" : PySem.Str) = some (.ref fa) := by
      have e : (HandSHeadRun.topDef (OpenLaw.row PySem.Challenge.rw_oddcrowds_k97_whole_scripts_and_choices).prog 133).name = ("law" : PySem.Str) := by kernel_rfl
      rw [← e]
      exact hmg0
    have e := hmg.symm.trans (He.glo_ok KX G (c.fact 102 (f := .glo "law") rfl))
    cases e
    obtain ⟨fd, F, hb⟩ := OC.law_at c
    exact ⟨K, fd, OC.spLaw K, KX, fun s v => hb s [v] rfl, fun H a ns hl _ hS => ⟨a, ns, rfl, hS, hl, fun _ => rfl⟩, fun base KB GB => OC.law_fn (M := ⟨(PySem.Challenge.rw_oddcrowds_k97_whole_scripts_and_choices).prog, w, K, mg, base, He.ga K "Standing"⟩) ⟨c, ⟨base, KB, GB⟩, rfl⟩ F⟩
