import PyProof.Rows.All
import Wide.All
import OpenK.AllK
import Wide.FinOn
import KE.KStateDown
import HandS.ForMost
import HandS.More
import HandS.Exc
import HandS.Defaults
import HandS.WordsExc
import HandS.Head0
import HandS.Head1
import HandS.Head2
import HandS.HeadEnd
import HandS.HeadHook1
import HandS.HeadHook2
import HandS.HeadHook3
import PySem.Challenge.RW_tollround_k78_whole_a_party_made_anew
import KE.KTupSum
import KE.DataMinMax
import KE.KDictOf
import KE.SortData
import HandS.SetFor
import HandS.Wide
import HandS.IsInst
import KE.GoesEnum
import HandS.Zip
import HandS.Style
import PyProof.DictValues
import HandS.TupAny
import HandS.ExcInit
import HandS.ExcValue
import KE.KExcInit
import HandS.ExcIs
import HandS.ExcField
import HandS.Zip0
import KE.GoesMore
import HandS.Conv
import HandS.SlotsOwn
import HandS.FStr
import KE.KUnpackStar
import HandS.Flow
import KE.KTryMore
import KE.KExcIs
import HandS.TupSets
import KE.KDictKeyed
set_option Elab.async false
section
set_option Elab.async false
set_option linter.all false
set_option maxRecDepth 100000
set_option maxHeartbeats 4000000
namespace Tr
open PySem PySem.Spec PyProof.Rows L2
abbrev RW : PySem.W.OpenLaw := PySem.Challenge.rw_tollround_k78_whole_a_party_made_anew
def top (i : Nat) : Stmt := PySem.Challenge.pw_tollround_k78_whole_a_party_made_anew.main.body.getD i (.Pass ⟨0, 0, 0, 0⟩)
abbrev s_choose : Stmt := top 1
abbrev s_placements : Stmt := top 2
abbrev s_seatings : Stmt := top 3
abbrev s_spread : Stmt := top 4
abbrev s_seated_with : Stmt := top 5
abbrev s_ways_with : Stmt := top 6
abbrev s_NoPerson_init : Stmt := inClass (top 8) 0
abbrev s_NoSeat_init : Stmt := inClass (top 9) 0
abbrev s_NoNumber_init : Stmt := inClass (top 10) 0
abbrev s_NoDeed_init : Stmt := inClass (top 11) 0
abbrev s_OtherPeople_init : Stmt := inClass (top 12) 0
abbrev s_BadDeed_init : Stmt := inClass (top 13) 0
abbrev s_Empty_init : Stmt := inClass (top 14) 0
abbrev s_Barred_init : Stmt := inClass (top 15) 0
abbrev s_Stops_init : Stmt := inClass (top 16) 0
abbrev s_Few_init : Stmt := inClass (top 17) 0
abbrev s_Full_init : Stmt := inClass (top 18) 0
abbrev s_as_state : Stmt := top 20
abbrev s_people_many : Stmt := top 21
abbrev s_sitting : Stmt := top 22
abbrev s_coins_of : Stmt := top 23
abbrev s_kept_of : Stmt := top 24
abbrev s_total : Stmt := top 25
abbrev s_look_people : Stmt := top 26
abbrev s_exchanges : Stmt := top 28
abbrev s_exchanged : Stmt := top 30
abbrev s_states_along : Stmt := top 31
abbrev s_run : Stmt := top 32
abbrev s_reason_of : Stmt := top 36
abbrev s_bar : Stmt := top 37
abbrev s_look_leads : Stmt := top 38
abbrev s_steps_of : Stmt := top 39
abbrev s_meetings : Stmt := top 40
abbrev s_crossings : Stmt := top 41
abbrev s_distance : Stmt := top 42
abbrev s_quota_of : Stmt := top 44
abbrev s_many_with : Stmt := top 45
abbrev s_lot_many : Stmt := top 46
abbrev s_least_purses : Stmt := top 47
abbrev s_shares_before : Stmt := top 48
abbrev s_share_at : Stmt := top 49
abbrev s_shares_at : Stmt := top 50
abbrev s_rounds_left : Stmt := top 51
abbrev s_state_with : Stmt := top 52
abbrev s_state_at : Stmt := top 53
abbrev s_flows : Stmt := top 55
abbrev s_turn_from : Stmt := top 56
abbrev s_gains : Stmt := top 57
abbrev s_failures : Stmt := top 58
abbrev s_first_failure : Stmt := top 59
abbrev s_passes_many : Stmt := top 60
abbrev s_after_passes : Stmt := top 61
abbrev s_is_deed : Stmt := top 68
abbrev s_with_purse : Stmt := top 69
abbrev s_without : Stmt := top 70
abbrev s_Party_init : Stmt := inClass (top 71) 0
abbrev s_Party_state : Stmt := inClass (top 71) 1
abbrev s_Party_lot : Stmt := inClass (top 71) 2
abbrev s_Party_exchanges : Stmt := inClass (top 71) 3
abbrev s_Party_deeds : Stmt := inClass (top 71) 4
abbrev s_Party_look_person : Stmt := inClass (top 71) 5
abbrev s_Party_exchange : Stmt := inClass (top 71) 6
abbrev s_Party_run : Stmt := inClass (top 71) 7
abbrev s_Party_again : Stmt := inClass (top 71) 8
abbrev s_Party_go : Stmt := inClass (top 71) 9
abbrev s_Party_give : Stmt := inClass (top 71) 10
abbrev s_Party_take : Stmt := inClass (top 71) 11
abbrev s_Party_come : Stmt := inClass (top 71) 12
abbrev s_Party_leave : Stmt := inClass (top 71) 13
abbrev s_Party_undo : Stmt := inClass (top 71) 14
abbrev s_Party_done : Stmt := inClass (top 71) 15
abbrev s_Party_do : Stmt := inClass (top 71) 16
abbrev s_Party_as_of : Stmt := inClass (top 71) 17
abbrev s_Party_twin : Stmt := inClass (top 71) 18
abbrev s_Party_log : Stmt := inClass (top 71) 19
abbrev s_Party_len : Stmt := inClass (top 71) 20
abbrev s_Party_eq : Stmt := inClass (top 71) 21
abbrev s_Party_repr : Stmt := inClass (top 71) 22
abbrev s__law_stream : Stmt := top 73
abbrev s__law_draw : Stmt := top 74
abbrev s__law_folded : Stmt := top 75
abbrev s__law_pick : Stmt := top 76
abbrev s__law_same : Stmt := top 77
abbrev s__law_shuffled : Stmt := top 78
abbrev s__law_random_state : Stmt := top 79
abbrev s__law_swapped : Stmt := top 80
abbrev s__law_random_row : Stmt := top 81
abbrev s__law_run : Stmt := top 82
abbrev s__law_named : Stmt := top 83
abbrev s__law_missing : Stmt := top 84
abbrev s__law_done : Stmt := top 85
abbrev s__law_moved : Stmt := top 86
abbrev s__law_deed : Stmt := top 87
abbrev s__law_rows_right : Stmt := top 88
abbrev s__law_guests_right : Stmt := top 89
abbrev s__law_right : Stmt := top 90
abbrev s_law : Stmt := top 91
abbrev s_run_moves : Stmt := s_run
def d_choose : He.DefD := ⟨("choose", none), "choose", "choose", defArgs s_choose, defBody s_choose, defScope s_choose, [], []⟩
def d_placements : He.DefD := ⟨("placements", none), "placements", "placements", defArgs s_placements, defBody s_placements, defScope s_placements, [], []⟩
def d_seatings : He.DefD := ⟨("seatings", none), "seatings", "seatings", defArgs s_seatings, defBody s_seatings, defScope s_seatings, [], []⟩
def d_spread : He.DefD := ⟨("spread", none), "spread", "spread", defArgs s_spread, defBody s_spread, defScope s_spread, [], []⟩
def d_seated_with : He.DefD := ⟨("seated_with", none), "seated_with", "seated_with", defArgs s_seated_with, defBody s_seated_with, defScope s_seated_with, [], []⟩
def d_ways_with : He.DefD := ⟨("ways_with", none), "ways_with", "ways_with", defArgs s_ways_with, defBody s_ways_with, defScope s_ways_with, [], []⟩
def d_NoPerson_init : He.DefD := ⟨("NoPerson", some "__init__"), "__init__", "NoPerson.__init__", defArgs s_NoPerson_init, defBody s_NoPerson_init, defScope s_NoPerson_init, [], []⟩
def d_NoSeat_init : He.DefD := ⟨("NoSeat", some "__init__"), "__init__", "NoSeat.__init__", defArgs s_NoSeat_init, defBody s_NoSeat_init, defScope s_NoSeat_init, [], []⟩
def d_NoNumber_init : He.DefD := ⟨("NoNumber", some "__init__"), "__init__", "NoNumber.__init__", defArgs s_NoNumber_init, defBody s_NoNumber_init, defScope s_NoNumber_init, [], []⟩
def d_NoDeed_init : He.DefD := ⟨("NoDeed", some "__init__"), "__init__", "NoDeed.__init__", defArgs s_NoDeed_init, defBody s_NoDeed_init, defScope s_NoDeed_init, [], []⟩
def d_OtherPeople_init : He.DefD := ⟨("OtherPeople", some "__init__"), "__init__", "OtherPeople.__init__", defArgs s_OtherPeople_init, defBody s_OtherPeople_init, defScope s_OtherPeople_init, [], []⟩
def d_BadDeed_init : He.DefD := ⟨("BadDeed", some "__init__"), "__init__", "BadDeed.__init__", defArgs s_BadDeed_init, defBody s_BadDeed_init, defScope s_BadDeed_init, [], []⟩
def d_Empty_init : He.DefD := ⟨("Empty", some "__init__"), "__init__", "Empty.__init__", defArgs s_Empty_init, defBody s_Empty_init, defScope s_Empty_init, [], []⟩
def d_Barred_init : He.DefD := ⟨("Barred", some "__init__"), "__init__", "Barred.__init__", defArgs s_Barred_init, defBody s_Barred_init, defScope s_Barred_init, [], []⟩
def d_Stops_init : He.DefD := ⟨("Stops", some "__init__"), "__init__", "Stops.__init__", defArgs s_Stops_init, defBody s_Stops_init, defScope s_Stops_init, [], []⟩
def d_Few_init : He.DefD := ⟨("Few", some "__init__"), "__init__", "Few.__init__", defArgs s_Few_init, defBody s_Few_init, defScope s_Few_init, [], []⟩
def d_Full_init : He.DefD := ⟨("Full", some "__init__"), "__init__", "Full.__init__", defArgs s_Full_init, defBody s_Full_init, defScope s_Full_init, [], []⟩
def d_as_state : He.DefD := ⟨("as_state", none), "as_state", "as_state", defArgs s_as_state, defBody s_as_state, defScope s_as_state, [], []⟩
def d_people_many : He.DefD := ⟨("people_many", none), "people_many", "people_many", defArgs s_people_many, defBody s_people_many, defScope s_people_many, [], []⟩
def d_sitting : He.DefD := ⟨("sitting", none), "sitting", "sitting", defArgs s_sitting, defBody s_sitting, defScope s_sitting, [], []⟩
def d_coins_of : He.DefD := ⟨("coins_of", none), "coins_of", "coins_of", defArgs s_coins_of, defBody s_coins_of, defScope s_coins_of, [], []⟩
def d_kept_of : He.DefD := ⟨("kept_of", none), "kept_of", "kept_of", defArgs s_kept_of, defBody s_kept_of, defScope s_kept_of, [], []⟩
def d_total : He.DefD := ⟨("total", none), "total", "total", defArgs s_total, defBody s_total, defScope s_total, [], []⟩
def d_look_people : He.DefD := ⟨("look_people", none), "look_people", "look_people", defArgs s_look_people, defBody s_look_people, defScope s_look_people, [], []⟩
def d_exchanges : He.DefD := ⟨("exchanges", none), "exchanges", "exchanges", defArgs s_exchanges, defBody s_exchanges, defScope s_exchanges, [], []⟩
def d_exchanged : He.DefD := ⟨("exchanged", none), "exchanged", "exchanged", defArgs s_exchanged, defBody s_exchanged, defScope s_exchanged, [], []⟩
def d_states_along : He.DefD := ⟨("states_along", none), "states_along", "states_along", defArgs s_states_along, defBody s_states_along, defScope s_states_along, [], []⟩
def d_run : He.DefD := ⟨("run", none), "run", "run", defArgs s_run, defBody s_run, defScope s_run, [], []⟩
def d_reason_of : He.DefD := ⟨("reason_of", none), "reason_of", "reason_of", defArgs s_reason_of, defBody s_reason_of, defScope s_reason_of, [], []⟩
def d_bar : He.DefD := ⟨("bar", none), "bar", "bar", defArgs s_bar, defBody s_bar, defScope s_bar, [], []⟩
def d_look_leads : He.DefD := ⟨("look_leads", none), "look_leads", "look_leads", defArgs s_look_leads, defBody s_look_leads, defScope s_look_leads, [], []⟩
def d_steps_of : He.DefD := ⟨("steps_of", none), "steps_of", "steps_of", defArgs s_steps_of, defBody s_steps_of, defScope s_steps_of, [], []⟩
def d_meetings : He.DefD := ⟨("meetings", none), "meetings", "meetings", defArgs s_meetings, defBody s_meetings, defScope s_meetings, [], []⟩
def d_crossings : He.DefD := ⟨("crossings", none), "crossings", "crossings", defArgs s_crossings, defBody s_crossings, defScope s_crossings, [], []⟩
def d_distance : He.DefD := ⟨("distance", none), "distance", "distance", defArgs s_distance, defBody s_distance, defScope s_distance, [], []⟩
def d_quota_of : He.DefD := ⟨("quota_of", none), "quota_of", "quota_of", defArgs s_quota_of, defBody s_quota_of, defScope s_quota_of, [], []⟩
def d_many_with : He.DefD := ⟨("many_with", none), "many_with", "many_with", defArgs s_many_with, defBody s_many_with, defScope s_many_with, [], []⟩
def d_lot_many : He.DefD := ⟨("lot_many", none), "lot_many", "lot_many", defArgs s_lot_many, defBody s_lot_many, defScope s_lot_many, [], []⟩
def d_least_purses : He.DefD := ⟨("least_purses", none), "least_purses", "least_purses", defArgs s_least_purses, defBody s_least_purses, defScope s_least_purses, [], []⟩
def d_shares_before : He.DefD := ⟨("shares_before", none), "shares_before", "shares_before", defArgs s_shares_before, defBody s_shares_before, defScope s_shares_before, [], []⟩
def d_share_at : He.DefD := ⟨("share_at", none), "share_at", "share_at", defArgs s_share_at, defBody s_share_at, defScope s_share_at, [], []⟩
def d_shares_at : He.DefD := ⟨("shares_at", none), "shares_at", "shares_at", defArgs s_shares_at, defBody s_shares_at, defScope s_shares_at, [], []⟩
def d_rounds_left : He.DefD := ⟨("rounds_left", none), "rounds_left", "rounds_left", defArgs s_rounds_left, defBody s_rounds_left, defScope s_rounds_left, [], []⟩
def d_state_with : He.DefD := ⟨("state_with", none), "state_with", "state_with", defArgs s_state_with, defBody s_state_with, defScope s_state_with, [], []⟩
def d_state_at : He.DefD := ⟨("state_at", none), "state_at", "state_at", defArgs s_state_at, defBody s_state_at, defScope s_state_at, [], []⟩
def d_flows : He.DefD := ⟨("flows", none), "flows", "flows", defArgs s_flows, defBody s_flows, defScope s_flows, [], []⟩
def d_turn_from : He.DefD := ⟨("turn_from", none), "turn_from", "turn_from", defArgs s_turn_from, defBody s_turn_from, defScope s_turn_from, [], []⟩
def d_gains : He.DefD := ⟨("gains", none), "gains", "gains", defArgs s_gains, defBody s_gains, defScope s_gains, [], []⟩
def d_failures : He.DefD := ⟨("failures", none), "failures", "failures", defArgs s_failures, defBody s_failures, defScope s_failures, [], []⟩
def d_first_failure : He.DefD := ⟨("first_failure", none), "first_failure", "first_failure", defArgs s_first_failure, defBody s_first_failure, defScope s_first_failure, [], []⟩
def d_passes_many : He.DefD := ⟨("passes_many", none), "passes_many", "passes_many", defArgs s_passes_many, defBody s_passes_many, defScope s_passes_many, [], []⟩
def d_after_passes : He.DefD := ⟨("after_passes", none), "after_passes", "after_passes", defArgs s_after_passes, defBody s_after_passes, defScope s_after_passes, [], []⟩
def d_is_deed : He.DefD := ⟨("is_deed", none), "is_deed", "is_deed", defArgs s_is_deed, defBody s_is_deed, defScope s_is_deed, [], []⟩
def d_with_purse : He.DefD := ⟨("with_purse", none), "with_purse", "with_purse", defArgs s_with_purse, defBody s_with_purse, defScope s_with_purse, [], []⟩
def d_without : He.DefD := ⟨("without", none), "without", "without", defArgs s_without, defBody s_without, defScope s_without, [], []⟩
def d_Party_init : He.DefD := ⟨("Party", some "__init__"), "__init__", "Party.__init__", defArgs s_Party_init, defBody s_Party_init, defScope s_Party_init, [], []⟩
def d_Party_state : He.DefD := ⟨("Party", some "state"), "state", "Party.state", defArgs s_Party_state, defBody s_Party_state, defScope s_Party_state, [], []⟩
def d_Party_lot : He.DefD := ⟨("Party", some "lot"), "lot", "Party.lot", defArgs s_Party_lot, defBody s_Party_lot, defScope s_Party_lot, [], []⟩
def d_Party_exchanges : He.DefD := ⟨("Party", some "exchanges"), "exchanges", "Party.exchanges", defArgs s_Party_exchanges, defBody s_Party_exchanges, defScope s_Party_exchanges, [], []⟩
def d_Party_deeds : He.DefD := ⟨("Party", some "deeds"), "deeds", "Party.deeds", defArgs s_Party_deeds, defBody s_Party_deeds, defScope s_Party_deeds, [], []⟩
def d_Party_look_person : He.DefD := ⟨("Party", some "look_person"), "look_person", "Party.look_person", defArgs s_Party_look_person, defBody s_Party_look_person, defScope s_Party_look_person, [], []⟩
def d_Party_exchange : He.DefD := ⟨("Party", some "exchange"), "exchange", "Party.exchange", defArgs s_Party_exchange, defBody s_Party_exchange, defScope s_Party_exchange, [], []⟩
def d_Party_run : He.DefD := ⟨("Party", some "run"), "run", "Party.run", defArgs s_Party_run, defBody s_Party_run, defScope s_Party_run, [], []⟩
def d_Party_again : He.DefD := ⟨("Party", some "again"), "again", "Party.again", defArgs s_Party_again, defBody s_Party_again, defScope s_Party_again, [], []⟩
def d_Party_go : He.DefD := ⟨("Party", some "go"), "go", "Party.go", defArgs s_Party_go, defBody s_Party_go, defScope s_Party_go, [], []⟩
def d_Party_give : He.DefD := ⟨("Party", some "give"), "give", "Party.give", defArgs s_Party_give, defBody s_Party_give, defScope s_Party_give, [], []⟩
def d_Party_take : He.DefD := ⟨("Party", some "take"), "take", "Party.take", defArgs s_Party_take, defBody s_Party_take, defScope s_Party_take, [], []⟩
def d_Party_come : He.DefD := ⟨("Party", some "come"), "come", "Party.come", defArgs s_Party_come, defBody s_Party_come, defScope s_Party_come, [], []⟩
def d_Party_leave : He.DefD := ⟨("Party", some "leave"), "leave", "Party.leave", defArgs s_Party_leave, defBody s_Party_leave, defScope s_Party_leave, [], []⟩
def d_Party_undo : He.DefD := ⟨("Party", some "undo"), "undo", "Party.undo", defArgs s_Party_undo, defBody s_Party_undo, defScope s_Party_undo, [], []⟩
def d_Party_done : He.DefD := ⟨("Party", some "done"), "done", "Party.done", defArgs s_Party_done, defBody s_Party_done, defScope s_Party_done, [], []⟩
def d_Party_do : He.DefD := ⟨("Party", some "do"), "do", "Party.do", defArgs s_Party_do, defBody s_Party_do, defScope s_Party_do, [], [("whole", .bl true)]⟩
def d_Party_as_of : He.DefD := ⟨("Party", some "as_of"), "as_of", "Party.as_of", defArgs s_Party_as_of, defBody s_Party_as_of, defScope s_Party_as_of, [], []⟩
def d_Party_twin : He.DefD := ⟨("Party", some "twin"), "twin", "Party.twin", defArgs s_Party_twin, defBody s_Party_twin, defScope s_Party_twin, [], []⟩
def d_Party_log : He.DefD := ⟨("Party", some "log"), "log", "Party.log", defArgs s_Party_log, defBody s_Party_log, defScope s_Party_log, [], []⟩
def d_Party_len : He.DefD := ⟨("Party", some "__len__"), "__len__", "Party.__len__", defArgs s_Party_len, defBody s_Party_len, defScope s_Party_len, [], []⟩
def d_Party_eq : He.DefD := ⟨("Party", some "__eq__"), "__eq__", "Party.__eq__", defArgs s_Party_eq, defBody s_Party_eq, defScope s_Party_eq, [], []⟩
def d_Party_repr : He.DefD := ⟨("Party", some "__repr__"), "__repr__", "Party.__repr__", defArgs s_Party_repr, defBody s_Party_repr, defScope s_Party_repr, [], []⟩
def d__law_stream : He.DefD := ⟨("_law_stream", none), "_law_stream", "_law_stream", defArgs s__law_stream, defBody s__law_stream, defScope s__law_stream, [], []⟩
def d__law_draw : He.DefD := ⟨("_law_draw", none), "_law_draw", "_law_draw", defArgs s__law_draw, defBody s__law_draw, defScope s__law_draw, [], []⟩
def d__law_folded : He.DefD := ⟨("_law_folded", none), "_law_folded", "_law_folded", defArgs s__law_folded, defBody s__law_folded, defScope s__law_folded, [], []⟩
def d__law_pick : He.DefD := ⟨("_law_pick", none), "_law_pick", "_law_pick", defArgs s__law_pick, defBody s__law_pick, defScope s__law_pick, [], []⟩
def d__law_same : He.DefD := ⟨("_law_same", none), "_law_same", "_law_same", defArgs s__law_same, defBody s__law_same, defScope s__law_same, [], []⟩
def d__law_shuffled : He.DefD := ⟨("_law_shuffled", none), "_law_shuffled", "_law_shuffled", defArgs s__law_shuffled, defBody s__law_shuffled, defScope s__law_shuffled, [], []⟩
def d__law_random_state : He.DefD := ⟨("_law_random_state", none), "_law_random_state", "_law_random_state", defArgs s__law_random_state, defBody s__law_random_state, defScope s__law_random_state, [], []⟩
def d__law_swapped : He.DefD := ⟨("_law_swapped", none), "_law_swapped", "_law_swapped", defArgs s__law_swapped, defBody s__law_swapped, defScope s__law_swapped, [], []⟩
def d__law_random_row : He.DefD := ⟨("_law_random_row", none), "_law_random_row", "_law_random_row", defArgs s__law_random_row, defBody s__law_random_row, defScope s__law_random_row, [], []⟩
def d__law_run : He.DefD := ⟨("_law_run", none), "_law_run", "_law_run", defArgs s__law_run, defBody s__law_run, defScope s__law_run, [], []⟩
def d__law_named : He.DefD := ⟨("_law_named", none), "_law_named", "_law_named", defArgs s__law_named, defBody s__law_named, defScope s__law_named, [], []⟩
def d__law_missing : He.DefD := ⟨("_law_missing", none), "_law_missing", "_law_missing", defArgs s__law_missing, defBody s__law_missing, defScope s__law_missing, [], []⟩
def d__law_done : He.DefD := ⟨("_law_done", none), "_law_done", "_law_done", defArgs s__law_done, defBody s__law_done, defScope s__law_done, [], []⟩
def d__law_moved : He.DefD := ⟨("_law_moved", none), "_law_moved", "_law_moved", defArgs s__law_moved, defBody s__law_moved, defScope s__law_moved, [], []⟩
def d__law_deed : He.DefD := ⟨("_law_deed", none), "_law_deed", "_law_deed", defArgs s__law_deed, defBody s__law_deed, defScope s__law_deed, [], []⟩
def d__law_rows_right : He.DefD := ⟨("_law_rows_right", none), "_law_rows_right", "_law_rows_right", defArgs s__law_rows_right, defBody s__law_rows_right, defScope s__law_rows_right, [], []⟩
def d__law_guests_right : He.DefD := ⟨("_law_guests_right", none), "_law_guests_right", "_law_guests_right", defArgs s__law_guests_right, defBody s__law_guests_right, defScope s__law_guests_right, [], []⟩
def d__law_right : He.DefD := ⟨("_law_right", none), "_law_right", "_law_right", defArgs s__law_right, defBody s__law_right, defScope s__law_right, [], []⟩
def d_law : He.DefD := ⟨("law", none), "law", "law", defArgs s_law, defBody s_law, defScope s_law, [], []⟩
def d_run_moves : He.DefD := ⟨("run_moves", none), "run", "run", defArgs s_run_moves, defBody s_run_moves, defScope s_run_moves, [], []⟩
def fn : List He.DefD := [d_choose, d_placements, d_seatings, d_spread, d_seated_with, d_ways_with, d_NoPerson_init, d_NoSeat_init, d_NoNumber_init, d_NoDeed_init, d_OtherPeople_init, d_BadDeed_init, d_Empty_init, d_Barred_init, d_Stops_init, d_Few_init, d_Full_init, d_as_state, d_people_many, d_sitting, d_coins_of, d_kept_of, d_total, d_look_people, d_exchanges, d_exchanged, d_states_along, d_run, d_reason_of, d_bar, d_look_leads, d_steps_of, d_meetings, d_crossings, d_distance, d_quota_of, d_many_with, d_lot_many, d_least_purses, d_shares_before, d_share_at, d_shares_at, d_rounds_left, d_state_with, d_state_at, d_flows, d_turn_from, d_gains, d_failures, d_first_failure, d_passes_many, d_after_passes, d_is_deed, d_with_purse, d_without, d_Party_init, d_Party_state, d_Party_lot, d_Party_exchanges, d_Party_deeds, d_Party_look_person, d_Party_exchange, d_Party_run, d_Party_again, d_Party_go, d_Party_give, d_Party_take, d_Party_come, d_Party_leave, d_Party_undo, d_Party_done, d_Party_do, d_Party_as_of, d_Party_twin, d_Party_log, d_Party_len, d_Party_eq, d_Party_repr, d__law_stream, d__law_draw, d__law_folded, d__law_pick, d__law_same, d__law_shuffled, d__law_random_state, d__law_swapped, d__law_random_row, d__law_run, d__law_named, d__law_missing, d__law_done, d__law_moved, d__law_deed, d__law_rows_right, d__law_guests_right, d__law_right, d_law, d_run_moves]
def fa : List He.Fa := [.glo "choose", .glo "placements", .glo "seatings", .glo "spread", .glo "seated_with", .glo "ways_with", .glo "NoPerson", .glo "NoSeat", .glo "NoNumber", .glo "NoDeed", .glo "OtherPeople", .glo "BadDeed", .glo "Empty", .glo "Barred", .glo "Stops", .glo "Few", .glo "Full", .glo "as_state", .glo "people_many", .glo "sitting", .glo "coins_of", .glo "kept_of", .glo "total", .glo "look_people", .glo "exchanges", .glo "exchanges_moves", .glo "exchanged", .glo "states_along", .glo "run", .glo "run_moves", .glo "reason_of", .glo "bar", .glo "look_leads", .glo "steps_of", .glo "meetings", .glo "crossings", .glo "distance", .glo "quota_of", .glo "many_with", .glo "lot_many", .glo "least_purses", .glo "shares_before", .glo "share_at", .glo "shares_at", .glo "rounds_left", .glo "state_with", .glo "state_at", .glo "flows", .glo "turn_from", .glo "gains", .glo "failures", .glo "first_failure", .glo "passes_many", .glo "after_passes", .glo "SIZES", .glo "is_deed", .glo "with_purse", .glo "without", .glo "Party", .glo "_law_stream", .glo "_law_draw", .glo "_law_folded", .glo "_law_pick", .glo "_law_same", .glo "_law_shuffled", .glo "_law_random_state", .glo "_law_swapped", .glo "_law_random_row", .glo "_law_run", .glo "_law_named", .glo "_law_missing", .glo "_law_done", .glo "_law_moved", .glo "_law_deed", .glo "_law_rows_right", .glo "_law_guests_right", .glo "_law_right", .glo "law", .free "IndexError", .free "KeyError", .free "LookupError", .free "OverflowError", .free "RuntimeError", .free "ValueError", .free "abs", .free "all", .free "bool", .free "dict", .free "divmod", .free "enumerate", .free "int", .free "isinstance", .free "len", .free "list", .free "max", .free "min", .free "range", .free "repr", .free "set", .free "sorted", .free "str", .free "sum", .free "tuple", .free "zip", .int "MOST_PEOPLE" 12, .int "LEAST_PEOPLE" 2, .str "IN" "in", .str "OUT" "out", .str "TOTAL" "total", .cls "Party", .noat "Party" "own_states", .noat "Party" "own_log", .meth "Party" "state", .meth "Party" "lot", .meth "Party" "exchanges", .meth "Party" "deeds", .meth "Party" "look_person", .meth "Party" "exchange", .meth "Party" "run", .meth "Party" "again", .meth "Party" "go", .meth "Party" "give", .meth "Party" "take", .meth "Party" "come", .meth "Party" "leave", .meth "Party" "undo", .meth "Party" "done", .meth "Party" "do", .meth "Party" "as_of", .meth "Party" "twin", .meth "Party" "log", .meth "Party" "__len__", .meth "Party" "__eq__", .meth "Party" "__repr__", .mkr "Party"]
def fdOf (K : PySem.W.Frag) (a : Addr) : FuncData := match K.lookup a with
  | some ⟨_, _, .func fd, _⟩ => fd
  | _ => default
theorem fdo {K : PySem.W.Frag} {x qual : Str} {params : Arguments} {body : List Stmt} {scope : Scope} {dvs : List V} {kws : List (Str × V)} {f : Addr} (h : ∃ fd, FunD K x qual params body scope dvs kws f fd) : FunD K x qual params body scope dvs kws f (fdOf K f) := by
  obtain ⟨fd, F⟩ := h
  have e : fdOf K f = fd := by
    obtain ⟨oc, od, dV, kV, doc, pm, an, cdv, ct, osl, _, l, _⟩ := F.ex
    unfold fdOf
    rw [l]
  rw [e]
  exact F
/-- what stands behind the top -/
structure Tx (K : PySem.W.Frag) (mg : Str → Option Value) : Prop where
  F_choose : FunD K "choose" "choose" (defArgs s_choose) (defBody s_choose) (defScope s_choose) [] [] (He.ga K "choose") (fdOf K (He.ga K "choose"))
  F_placements : FunD K "placements" "placements" (defArgs s_placements) (defBody s_placements) (defScope s_placements) [] [] (He.ga K "placements") (fdOf K (He.ga K "placements"))
  F_seatings : FunD K "seatings" "seatings" (defArgs s_seatings) (defBody s_seatings) (defScope s_seatings) [] [] (He.ga K "seatings") (fdOf K (He.ga K "seatings"))
  F_spread : FunD K "spread" "spread" (defArgs s_spread) (defBody s_spread) (defScope s_spread) [] [] (He.ga K "spread") (fdOf K (He.ga K "spread"))
  F_seated_with : FunD K "seated_with" "seated_with" (defArgs s_seated_with) (defBody s_seated_with) (defScope s_seated_with) [] [] (He.ga K "seated_with") (fdOf K (He.ga K "seated_with"))
  F_ways_with : FunD K "ways_with" "ways_with" (defArgs s_ways_with) (defBody s_ways_with) (defScope s_ways_with) [] [] (He.ga K "ways_with") (fdOf K (He.ga K "ways_with"))
  F_NoPerson_init : FunD K "__init__" "NoPerson.__init__" (defArgs s_NoPerson_init) (defBody s_NoPerson_init) (defScope s_NoPerson_init) [] [] (He.ma K (He.ga K "NoPerson") "__init__") (fdOf K (He.ma K (He.ga K "NoPerson") "__init__"))
  F_NoSeat_init : FunD K "__init__" "NoSeat.__init__" (defArgs s_NoSeat_init) (defBody s_NoSeat_init) (defScope s_NoSeat_init) [] [] (He.ma K (He.ga K "NoSeat") "__init__") (fdOf K (He.ma K (He.ga K "NoSeat") "__init__"))
  F_NoNumber_init : FunD K "__init__" "NoNumber.__init__" (defArgs s_NoNumber_init) (defBody s_NoNumber_init) (defScope s_NoNumber_init) [] [] (He.ma K (He.ga K "NoNumber") "__init__") (fdOf K (He.ma K (He.ga K "NoNumber") "__init__"))
  F_NoDeed_init : FunD K "__init__" "NoDeed.__init__" (defArgs s_NoDeed_init) (defBody s_NoDeed_init) (defScope s_NoDeed_init) [] [] (He.ma K (He.ga K "NoDeed") "__init__") (fdOf K (He.ma K (He.ga K "NoDeed") "__init__"))
  F_OtherPeople_init : FunD K "__init__" "OtherPeople.__init__" (defArgs s_OtherPeople_init) (defBody s_OtherPeople_init) (defScope s_OtherPeople_init) [] [] (He.ma K (He.ga K "OtherPeople") "__init__") (fdOf K (He.ma K (He.ga K "OtherPeople") "__init__"))
  F_BadDeed_init : FunD K "__init__" "BadDeed.__init__" (defArgs s_BadDeed_init) (defBody s_BadDeed_init) (defScope s_BadDeed_init) [] [] (He.ma K (He.ga K "BadDeed") "__init__") (fdOf K (He.ma K (He.ga K "BadDeed") "__init__"))
  F_Empty_init : FunD K "__init__" "Empty.__init__" (defArgs s_Empty_init) (defBody s_Empty_init) (defScope s_Empty_init) [] [] (He.ma K (He.ga K "Empty") "__init__") (fdOf K (He.ma K (He.ga K "Empty") "__init__"))
  F_Barred_init : FunD K "__init__" "Barred.__init__" (defArgs s_Barred_init) (defBody s_Barred_init) (defScope s_Barred_init) [] [] (He.ma K (He.ga K "Barred") "__init__") (fdOf K (He.ma K (He.ga K "Barred") "__init__"))
  F_Stops_init : FunD K "__init__" "Stops.__init__" (defArgs s_Stops_init) (defBody s_Stops_init) (defScope s_Stops_init) [] [] (He.ma K (He.ga K "Stops") "__init__") (fdOf K (He.ma K (He.ga K "Stops") "__init__"))
  F_Few_init : FunD K "__init__" "Few.__init__" (defArgs s_Few_init) (defBody s_Few_init) (defScope s_Few_init) [] [] (He.ma K (He.ga K "Few") "__init__") (fdOf K (He.ma K (He.ga K "Few") "__init__"))
  F_Full_init : FunD K "__init__" "Full.__init__" (defArgs s_Full_init) (defBody s_Full_init) (defScope s_Full_init) [] [] (He.ma K (He.ga K "Full") "__init__") (fdOf K (He.ma K (He.ga K "Full") "__init__"))
  F_as_state : FunD K "as_state" "as_state" (defArgs s_as_state) (defBody s_as_state) (defScope s_as_state) [] [] (He.ga K "as_state") (fdOf K (He.ga K "as_state"))
  F_people_many : FunD K "people_many" "people_many" (defArgs s_people_many) (defBody s_people_many) (defScope s_people_many) [] [] (He.ga K "people_many") (fdOf K (He.ga K "people_many"))
  F_sitting : FunD K "sitting" "sitting" (defArgs s_sitting) (defBody s_sitting) (defScope s_sitting) [] [] (He.ga K "sitting") (fdOf K (He.ga K "sitting"))
  F_coins_of : FunD K "coins_of" "coins_of" (defArgs s_coins_of) (defBody s_coins_of) (defScope s_coins_of) [] [] (He.ga K "coins_of") (fdOf K (He.ga K "coins_of"))
  F_kept_of : FunD K "kept_of" "kept_of" (defArgs s_kept_of) (defBody s_kept_of) (defScope s_kept_of) [] [] (He.ga K "kept_of") (fdOf K (He.ga K "kept_of"))
  F_total : FunD K "total" "total" (defArgs s_total) (defBody s_total) (defScope s_total) [] [] (He.ga K "total") (fdOf K (He.ga K "total"))
  F_look_people : FunD K "look_people" "look_people" (defArgs s_look_people) (defBody s_look_people) (defScope s_look_people) [] [] (He.ga K "look_people") (fdOf K (He.ga K "look_people"))
  F_exchanges : FunD K "exchanges" "exchanges" (defArgs s_exchanges) (defBody s_exchanges) (defScope s_exchanges) [] [] (He.ga K "exchanges") (fdOf K (He.ga K "exchanges"))
  F_exchanged : FunD K "exchanged" "exchanged" (defArgs s_exchanged) (defBody s_exchanged) (defScope s_exchanged) [] [] (He.ga K "exchanged") (fdOf K (He.ga K "exchanged"))
  F_states_along : FunD K "states_along" "states_along" (defArgs s_states_along) (defBody s_states_along) (defScope s_states_along) [] [] (He.ga K "states_along") (fdOf K (He.ga K "states_along"))
  F_run : FunD K "run" "run" (defArgs s_run) (defBody s_run) (defScope s_run) [] [] (He.ga K "run") (fdOf K (He.ga K "run"))
  F_reason_of : FunD K "reason_of" "reason_of" (defArgs s_reason_of) (defBody s_reason_of) (defScope s_reason_of) [] [] (He.ga K "reason_of") (fdOf K (He.ga K "reason_of"))
  F_bar : FunD K "bar" "bar" (defArgs s_bar) (defBody s_bar) (defScope s_bar) [] [] (He.ga K "bar") (fdOf K (He.ga K "bar"))
  F_look_leads : FunD K "look_leads" "look_leads" (defArgs s_look_leads) (defBody s_look_leads) (defScope s_look_leads) [] [] (He.ga K "look_leads") (fdOf K (He.ga K "look_leads"))
  F_steps_of : FunD K "steps_of" "steps_of" (defArgs s_steps_of) (defBody s_steps_of) (defScope s_steps_of) [] [] (He.ga K "steps_of") (fdOf K (He.ga K "steps_of"))
  F_meetings : FunD K "meetings" "meetings" (defArgs s_meetings) (defBody s_meetings) (defScope s_meetings) [] [] (He.ga K "meetings") (fdOf K (He.ga K "meetings"))
  F_crossings : FunD K "crossings" "crossings" (defArgs s_crossings) (defBody s_crossings) (defScope s_crossings) [] [] (He.ga K "crossings") (fdOf K (He.ga K "crossings"))
  F_distance : FunD K "distance" "distance" (defArgs s_distance) (defBody s_distance) (defScope s_distance) [] [] (He.ga K "distance") (fdOf K (He.ga K "distance"))
  F_quota_of : FunD K "quota_of" "quota_of" (defArgs s_quota_of) (defBody s_quota_of) (defScope s_quota_of) [] [] (He.ga K "quota_of") (fdOf K (He.ga K "quota_of"))
  F_many_with : FunD K "many_with" "many_with" (defArgs s_many_with) (defBody s_many_with) (defScope s_many_with) [] [] (He.ga K "many_with") (fdOf K (He.ga K "many_with"))
  F_lot_many : FunD K "lot_many" "lot_many" (defArgs s_lot_many) (defBody s_lot_many) (defScope s_lot_many) [] [] (He.ga K "lot_many") (fdOf K (He.ga K "lot_many"))
  F_least_purses : FunD K "least_purses" "least_purses" (defArgs s_least_purses) (defBody s_least_purses) (defScope s_least_purses) [] [] (He.ga K "least_purses") (fdOf K (He.ga K "least_purses"))
  F_shares_before : FunD K "shares_before" "shares_before" (defArgs s_shares_before) (defBody s_shares_before) (defScope s_shares_before) [] [] (He.ga K "shares_before") (fdOf K (He.ga K "shares_before"))
  F_share_at : FunD K "share_at" "share_at" (defArgs s_share_at) (defBody s_share_at) (defScope s_share_at) [] [] (He.ga K "share_at") (fdOf K (He.ga K "share_at"))
  F_shares_at : FunD K "shares_at" "shares_at" (defArgs s_shares_at) (defBody s_shares_at) (defScope s_shares_at) [] [] (He.ga K "shares_at") (fdOf K (He.ga K "shares_at"))
  F_rounds_left : FunD K "rounds_left" "rounds_left" (defArgs s_rounds_left) (defBody s_rounds_left) (defScope s_rounds_left) [] [] (He.ga K "rounds_left") (fdOf K (He.ga K "rounds_left"))
  F_state_with : FunD K "state_with" "state_with" (defArgs s_state_with) (defBody s_state_with) (defScope s_state_with) [] [] (He.ga K "state_with") (fdOf K (He.ga K "state_with"))
  F_state_at : FunD K "state_at" "state_at" (defArgs s_state_at) (defBody s_state_at) (defScope s_state_at) [] [] (He.ga K "state_at") (fdOf K (He.ga K "state_at"))
  F_flows : FunD K "flows" "flows" (defArgs s_flows) (defBody s_flows) (defScope s_flows) [] [] (He.ga K "flows") (fdOf K (He.ga K "flows"))
  F_turn_from : FunD K "turn_from" "turn_from" (defArgs s_turn_from) (defBody s_turn_from) (defScope s_turn_from) [] [] (He.ga K "turn_from") (fdOf K (He.ga K "turn_from"))
  F_gains : FunD K "gains" "gains" (defArgs s_gains) (defBody s_gains) (defScope s_gains) [] [] (He.ga K "gains") (fdOf K (He.ga K "gains"))
  F_failures : FunD K "failures" "failures" (defArgs s_failures) (defBody s_failures) (defScope s_failures) [] [] (He.ga K "failures") (fdOf K (He.ga K "failures"))
  F_first_failure : FunD K "first_failure" "first_failure" (defArgs s_first_failure) (defBody s_first_failure) (defScope s_first_failure) [] [] (He.ga K "first_failure") (fdOf K (He.ga K "first_failure"))
  F_passes_many : FunD K "passes_many" "passes_many" (defArgs s_passes_many) (defBody s_passes_many) (defScope s_passes_many) [] [] (He.ga K "passes_many") (fdOf K (He.ga K "passes_many"))
  F_after_passes : FunD K "after_passes" "after_passes" (defArgs s_after_passes) (defBody s_after_passes) (defScope s_after_passes) [] [] (He.ga K "after_passes") (fdOf K (He.ga K "after_passes"))
  F_is_deed : FunD K "is_deed" "is_deed" (defArgs s_is_deed) (defBody s_is_deed) (defScope s_is_deed) [] [] (He.ga K "is_deed") (fdOf K (He.ga K "is_deed"))
  F_with_purse : FunD K "with_purse" "with_purse" (defArgs s_with_purse) (defBody s_with_purse) (defScope s_with_purse) [] [] (He.ga K "with_purse") (fdOf K (He.ga K "with_purse"))
  F_without : FunD K "without" "without" (defArgs s_without) (defBody s_without) (defScope s_without) [] [] (He.ga K "without") (fdOf K (He.ga K "without"))
  F_Party_init : FunD K "__init__" "Party.__init__" (defArgs s_Party_init) (defBody s_Party_init) (defScope s_Party_init) [] [] (He.ma K (He.ga K "Party") "__init__") (fdOf K (He.ma K (He.ga K "Party") "__init__"))
  F_Party_state : FunD K "state" "Party.state" (defArgs s_Party_state) (defBody s_Party_state) (defScope s_Party_state) [] [] (He.ma K (He.ga K "Party") "state") (fdOf K (He.ma K (He.ga K "Party") "state"))
  F_Party_lot : FunD K "lot" "Party.lot" (defArgs s_Party_lot) (defBody s_Party_lot) (defScope s_Party_lot) [] [] (He.ma K (He.ga K "Party") "lot") (fdOf K (He.ma K (He.ga K "Party") "lot"))
  F_Party_exchanges : FunD K "exchanges" "Party.exchanges" (defArgs s_Party_exchanges) (defBody s_Party_exchanges) (defScope s_Party_exchanges) [] [] (He.ma K (He.ga K "Party") "exchanges") (fdOf K (He.ma K (He.ga K "Party") "exchanges"))
  F_Party_deeds : FunD K "deeds" "Party.deeds" (defArgs s_Party_deeds) (defBody s_Party_deeds) (defScope s_Party_deeds) [] [] (He.ma K (He.ga K "Party") "deeds") (fdOf K (He.ma K (He.ga K "Party") "deeds"))
  F_Party_look_person : FunD K "look_person" "Party.look_person" (defArgs s_Party_look_person) (defBody s_Party_look_person) (defScope s_Party_look_person) [] [] (He.ma K (He.ga K "Party") "look_person") (fdOf K (He.ma K (He.ga K "Party") "look_person"))
  F_Party_exchange : FunD K "exchange" "Party.exchange" (defArgs s_Party_exchange) (defBody s_Party_exchange) (defScope s_Party_exchange) [] [] (He.ma K (He.ga K "Party") "exchange") (fdOf K (He.ma K (He.ga K "Party") "exchange"))
  F_Party_run : FunD K "run" "Party.run" (defArgs s_Party_run) (defBody s_Party_run) (defScope s_Party_run) [] [] (He.ma K (He.ga K "Party") "run") (fdOf K (He.ma K (He.ga K "Party") "run"))
  F_Party_again : FunD K "again" "Party.again" (defArgs s_Party_again) (defBody s_Party_again) (defScope s_Party_again) [] [] (He.ma K (He.ga K "Party") "again") (fdOf K (He.ma K (He.ga K "Party") "again"))
  F_Party_go : FunD K "go" "Party.go" (defArgs s_Party_go) (defBody s_Party_go) (defScope s_Party_go) [] [] (He.ma K (He.ga K "Party") "go") (fdOf K (He.ma K (He.ga K "Party") "go"))
  F_Party_give : FunD K "give" "Party.give" (defArgs s_Party_give) (defBody s_Party_give) (defScope s_Party_give) [] [] (He.ma K (He.ga K "Party") "give") (fdOf K (He.ma K (He.ga K "Party") "give"))
  F_Party_take : FunD K "take" "Party.take" (defArgs s_Party_take) (defBody s_Party_take) (defScope s_Party_take) [] [] (He.ma K (He.ga K "Party") "take") (fdOf K (He.ma K (He.ga K "Party") "take"))
  F_Party_come : FunD K "come" "Party.come" (defArgs s_Party_come) (defBody s_Party_come) (defScope s_Party_come) [] [] (He.ma K (He.ga K "Party") "come") (fdOf K (He.ma K (He.ga K "Party") "come"))
  F_Party_leave : FunD K "leave" "Party.leave" (defArgs s_Party_leave) (defBody s_Party_leave) (defScope s_Party_leave) [] [] (He.ma K (He.ga K "Party") "leave") (fdOf K (He.ma K (He.ga K "Party") "leave"))
  F_Party_undo : FunD K "undo" "Party.undo" (defArgs s_Party_undo) (defBody s_Party_undo) (defScope s_Party_undo) [] [] (He.ma K (He.ga K "Party") "undo") (fdOf K (He.ma K (He.ga K "Party") "undo"))
  F_Party_done : FunD K "done" "Party.done" (defArgs s_Party_done) (defBody s_Party_done) (defScope s_Party_done) [] [] (He.ma K (He.ga K "Party") "done") (fdOf K (He.ma K (He.ga K "Party") "done"))
  F_Party_do : FunD K "do" "Party.do" (defArgs s_Party_do) (defBody s_Party_do) (defScope s_Party_do) [] [("whole", .bl true)] (He.ma K (He.ga K "Party") "do") (fdOf K (He.ma K (He.ga K "Party") "do"))
  F_Party_as_of : FunD K "as_of" "Party.as_of" (defArgs s_Party_as_of) (defBody s_Party_as_of) (defScope s_Party_as_of) [] [] (He.ma K (He.ga K "Party") "as_of") (fdOf K (He.ma K (He.ga K "Party") "as_of"))
  F_Party_twin : FunD K "twin" "Party.twin" (defArgs s_Party_twin) (defBody s_Party_twin) (defScope s_Party_twin) [] [] (He.ma K (He.ga K "Party") "twin") (fdOf K (He.ma K (He.ga K "Party") "twin"))
  F_Party_log : FunD K "log" "Party.log" (defArgs s_Party_log) (defBody s_Party_log) (defScope s_Party_log) [] [] (He.ma K (He.ga K "Party") "log") (fdOf K (He.ma K (He.ga K "Party") "log"))
  F_Party_len : FunD K "__len__" "Party.__len__" (defArgs s_Party_len) (defBody s_Party_len) (defScope s_Party_len) [] [] (He.ma K (He.ga K "Party") "__len__") (fdOf K (He.ma K (He.ga K "Party") "__len__"))
  F_Party_eq : FunD K "__eq__" "Party.__eq__" (defArgs s_Party_eq) (defBody s_Party_eq) (defScope s_Party_eq) [] [] (He.ma K (He.ga K "Party") "__eq__") (fdOf K (He.ma K (He.ga K "Party") "__eq__"))
  F_Party_repr : FunD K "__repr__" "Party.__repr__" (defArgs s_Party_repr) (defBody s_Party_repr) (defScope s_Party_repr) [] [] (He.ma K (He.ga K "Party") "__repr__") (fdOf K (He.ma K (He.ga K "Party") "__repr__"))
  F__law_stream : FunD K "_law_stream" "_law_stream" (defArgs s__law_stream) (defBody s__law_stream) (defScope s__law_stream) [] [] (He.ga K "_law_stream") (fdOf K (He.ga K "_law_stream"))
  F__law_draw : FunD K "_law_draw" "_law_draw" (defArgs s__law_draw) (defBody s__law_draw) (defScope s__law_draw) [] [] (He.ga K "_law_draw") (fdOf K (He.ga K "_law_draw"))
  F__law_folded : FunD K "_law_folded" "_law_folded" (defArgs s__law_folded) (defBody s__law_folded) (defScope s__law_folded) [] [] (He.ga K "_law_folded") (fdOf K (He.ga K "_law_folded"))
  F__law_pick : FunD K "_law_pick" "_law_pick" (defArgs s__law_pick) (defBody s__law_pick) (defScope s__law_pick) [] [] (He.ga K "_law_pick") (fdOf K (He.ga K "_law_pick"))
  F__law_same : FunD K "_law_same" "_law_same" (defArgs s__law_same) (defBody s__law_same) (defScope s__law_same) [] [] (He.ga K "_law_same") (fdOf K (He.ga K "_law_same"))
  F__law_shuffled : FunD K "_law_shuffled" "_law_shuffled" (defArgs s__law_shuffled) (defBody s__law_shuffled) (defScope s__law_shuffled) [] [] (He.ga K "_law_shuffled") (fdOf K (He.ga K "_law_shuffled"))
  F__law_random_state : FunD K "_law_random_state" "_law_random_state" (defArgs s__law_random_state) (defBody s__law_random_state) (defScope s__law_random_state) [] [] (He.ga K "_law_random_state") (fdOf K (He.ga K "_law_random_state"))
  F__law_swapped : FunD K "_law_swapped" "_law_swapped" (defArgs s__law_swapped) (defBody s__law_swapped) (defScope s__law_swapped) [] [] (He.ga K "_law_swapped") (fdOf K (He.ga K "_law_swapped"))
  F__law_random_row : FunD K "_law_random_row" "_law_random_row" (defArgs s__law_random_row) (defBody s__law_random_row) (defScope s__law_random_row) [] [] (He.ga K "_law_random_row") (fdOf K (He.ga K "_law_random_row"))
  F__law_run : FunD K "_law_run" "_law_run" (defArgs s__law_run) (defBody s__law_run) (defScope s__law_run) [] [] (He.ga K "_law_run") (fdOf K (He.ga K "_law_run"))
  F__law_named : FunD K "_law_named" "_law_named" (defArgs s__law_named) (defBody s__law_named) (defScope s__law_named) [] [] (He.ga K "_law_named") (fdOf K (He.ga K "_law_named"))
  F__law_missing : FunD K "_law_missing" "_law_missing" (defArgs s__law_missing) (defBody s__law_missing) (defScope s__law_missing) [] [] (He.ga K "_law_missing") (fdOf K (He.ga K "_law_missing"))
  F__law_done : FunD K "_law_done" "_law_done" (defArgs s__law_done) (defBody s__law_done) (defScope s__law_done) [] [] (He.ga K "_law_done") (fdOf K (He.ga K "_law_done"))
  F__law_moved : FunD K "_law_moved" "_law_moved" (defArgs s__law_moved) (defBody s__law_moved) (defScope s__law_moved) [] [] (He.ga K "_law_moved") (fdOf K (He.ga K "_law_moved"))
  F__law_deed : FunD K "_law_deed" "_law_deed" (defArgs s__law_deed) (defBody s__law_deed) (defScope s__law_deed) [] [] (He.ga K "_law_deed") (fdOf K (He.ga K "_law_deed"))
  F__law_rows_right : FunD K "_law_rows_right" "_law_rows_right" (defArgs s__law_rows_right) (defBody s__law_rows_right) (defScope s__law_rows_right) [] [] (He.ga K "_law_rows_right") (fdOf K (He.ga K "_law_rows_right"))
  F__law_guests_right : FunD K "_law_guests_right" "_law_guests_right" (defArgs s__law_guests_right) (defBody s__law_guests_right) (defScope s__law_guests_right) [] [] (He.ga K "_law_guests_right") (fdOf K (He.ga K "_law_guests_right"))
  F__law_right : FunD K "_law_right" "_law_right" (defArgs s__law_right) (defBody s__law_right) (defScope s__law_right) [] [] (He.ga K "_law_right") (fdOf K (He.ga K "_law_right"))
  F_law : FunD K "law" "law" (defArgs s_law) (defBody s_law) (defScope s_law) [] [] (He.ga K "law") (fdOf K (He.ga K "law"))
  F_run_moves : FunD K "run" "run" (defArgs s_run_moves) (defBody s_run_moves) (defScope s_run_moves) [] [] (He.ga K "run_moves") (fdOf K (He.ga K "run_moves"))
  g_choose : mg "choose" = some (.ref (He.ga K "choose"))
  g_placements : mg "placements" = some (.ref (He.ga K "placements"))
  g_seatings : mg "seatings" = some (.ref (He.ga K "seatings"))
  g_spread : mg "spread" = some (.ref (He.ga K "spread"))
  g_seated_with : mg "seated_with" = some (.ref (He.ga K "seated_with"))
  g_ways_with : mg "ways_with" = some (.ref (He.ga K "ways_with"))
  g_NoPerson : mg "NoPerson" = some (.ref (He.ga K "NoPerson"))
  g_NoSeat : mg "NoSeat" = some (.ref (He.ga K "NoSeat"))
  g_NoNumber : mg "NoNumber" = some (.ref (He.ga K "NoNumber"))
  g_NoDeed : mg "NoDeed" = some (.ref (He.ga K "NoDeed"))
  g_OtherPeople : mg "OtherPeople" = some (.ref (He.ga K "OtherPeople"))
  g_BadDeed : mg "BadDeed" = some (.ref (He.ga K "BadDeed"))
  g_Empty : mg "Empty" = some (.ref (He.ga K "Empty"))
  g_Barred : mg "Barred" = some (.ref (He.ga K "Barred"))
  g_Stops : mg "Stops" = some (.ref (He.ga K "Stops"))
  g_Few : mg "Few" = some (.ref (He.ga K "Few"))
  g_Full : mg "Full" = some (.ref (He.ga K "Full"))
  g_as_state : mg "as_state" = some (.ref (He.ga K "as_state"))
  g_people_many : mg "people_many" = some (.ref (He.ga K "people_many"))
  g_sitting : mg "sitting" = some (.ref (He.ga K "sitting"))
  g_coins_of : mg "coins_of" = some (.ref (He.ga K "coins_of"))
  g_kept_of : mg "kept_of" = some (.ref (He.ga K "kept_of"))
  g_total : mg "total" = some (.ref (He.ga K "total"))
  g_look_people : mg "look_people" = some (.ref (He.ga K "look_people"))
  g_exchanges : mg "exchanges" = some (.ref (He.ga K "exchanges"))
  g_exchanges_moves : mg "exchanges_moves" = some (.ref (He.ga K "exchanges_moves"))
  g_exchanged : mg "exchanged" = some (.ref (He.ga K "exchanged"))
  g_states_along : mg "states_along" = some (.ref (He.ga K "states_along"))
  g_run : mg "run" = some (.ref (He.ga K "run"))
  g_run_moves : mg "run_moves" = some (.ref (He.ga K "run_moves"))
  g_reason_of : mg "reason_of" = some (.ref (He.ga K "reason_of"))
  g_bar : mg "bar" = some (.ref (He.ga K "bar"))
  g_look_leads : mg "look_leads" = some (.ref (He.ga K "look_leads"))
  g_steps_of : mg "steps_of" = some (.ref (He.ga K "steps_of"))
  g_meetings : mg "meetings" = some (.ref (He.ga K "meetings"))
  g_crossings : mg "crossings" = some (.ref (He.ga K "crossings"))
  g_distance : mg "distance" = some (.ref (He.ga K "distance"))
  g_quota_of : mg "quota_of" = some (.ref (He.ga K "quota_of"))
  g_many_with : mg "many_with" = some (.ref (He.ga K "many_with"))
  g_lot_many : mg "lot_many" = some (.ref (He.ga K "lot_many"))
  g_least_purses : mg "least_purses" = some (.ref (He.ga K "least_purses"))
  g_shares_before : mg "shares_before" = some (.ref (He.ga K "shares_before"))
  g_share_at : mg "share_at" = some (.ref (He.ga K "share_at"))
  g_shares_at : mg "shares_at" = some (.ref (He.ga K "shares_at"))
  g_rounds_left : mg "rounds_left" = some (.ref (He.ga K "rounds_left"))
  g_state_with : mg "state_with" = some (.ref (He.ga K "state_with"))
  g_state_at : mg "state_at" = some (.ref (He.ga K "state_at"))
  g_flows : mg "flows" = some (.ref (He.ga K "flows"))
  g_turn_from : mg "turn_from" = some (.ref (He.ga K "turn_from"))
  g_gains : mg "gains" = some (.ref (He.ga K "gains"))
  g_failures : mg "failures" = some (.ref (He.ga K "failures"))
  g_first_failure : mg "first_failure" = some (.ref (He.ga K "first_failure"))
  g_passes_many : mg "passes_many" = some (.ref (He.ga K "passes_many"))
  g_after_passes : mg "after_passes" = some (.ref (He.ga K "after_passes"))
  g_SIZES : mg "SIZES" = some (.ref (He.ga K "SIZES"))
  g_is_deed : mg "is_deed" = some (.ref (He.ga K "is_deed"))
  g_with_purse : mg "with_purse" = some (.ref (He.ga K "with_purse"))
  g_without : mg "without" = some (.ref (He.ga K "without"))
  g_Party : mg "Party" = some (.ref (He.ga K "Party"))
  g__law_stream : mg "_law_stream" = some (.ref (He.ga K "_law_stream"))
  g__law_draw : mg "_law_draw" = some (.ref (He.ga K "_law_draw"))
  g__law_folded : mg "_law_folded" = some (.ref (He.ga K "_law_folded"))
  g__law_pick : mg "_law_pick" = some (.ref (He.ga K "_law_pick"))
  g__law_same : mg "_law_same" = some (.ref (He.ga K "_law_same"))
  g__law_shuffled : mg "_law_shuffled" = some (.ref (He.ga K "_law_shuffled"))
  g__law_random_state : mg "_law_random_state" = some (.ref (He.ga K "_law_random_state"))
  g__law_swapped : mg "_law_swapped" = some (.ref (He.ga K "_law_swapped"))
  g__law_random_row : mg "_law_random_row" = some (.ref (He.ga K "_law_random_row"))
  g__law_run : mg "_law_run" = some (.ref (He.ga K "_law_run"))
  g__law_named : mg "_law_named" = some (.ref (He.ga K "_law_named"))
  g__law_missing : mg "_law_missing" = some (.ref (He.ga K "_law_missing"))
  g__law_done : mg "_law_done" = some (.ref (He.ga K "_law_done"))
  g__law_moved : mg "_law_moved" = some (.ref (He.ga K "_law_moved"))
  g__law_deed : mg "_law_deed" = some (.ref (He.ga K "_law_deed"))
  g__law_rows_right : mg "_law_rows_right" = some (.ref (He.ga K "_law_rows_right"))
  g__law_guests_right : mg "_law_guests_right" = some (.ref (He.ga K "_law_guests_right"))
  g__law_right : mg "_law_right" = some (.ref (He.ga K "_law_right"))
  g_law : mg "law" = some (.ref (He.ga K "law"))
  b_IndexError : mg "IndexError" = none
  b_KeyError : mg "KeyError" = none
  b_LookupError : mg "LookupError" = none
  b_OverflowError : mg "OverflowError" = none
  b_RuntimeError : mg "RuntimeError" = none
  b_ValueError : mg "ValueError" = none
  b_abs : mg "abs" = none
  b_all : mg "all" = none
  b_bool : mg "bool" = none
  b_dict : mg "dict" = none
  b_divmod : mg "divmod" = none
  b_enumerate : mg "enumerate" = none
  b_int : mg "int" = none
  b_isinstance : mg "isinstance" = none
  b_len : mg "len" = none
  b_list : mg "list" = none
  b_max : mg "max" = none
  b_min : mg "min" = none
  b_range : mg "range" = none
  b_repr : mg "repr" = none
  b_set : mg "set" = none
  b_sorted : mg "sorted" = none
  b_str : mg "str" = none
  b_sum : mg "sum" = none
  b_tuple : mg "tuple" = none
  b_zip : mg "zip" = none
  i_MOST_PEOPLE : ∃ t, mg "MOST_PEOPLE" = some (.int 12 t)
  i_LEAST_PEOPLE : ∃ t, mg "LEAST_PEOPLE" = some (.int 2 t)
  c_IN : ∃ t, mg "IN" = some (.str "in" t)
  c_OUT : ∃ t, mg "OUT" = some (.str "out" t)
  c_TOTAL : ∃ t, mg "TOTAL" = some (.str "total" t)
  clP : Cls K (He.ga K "Party")
  n_own_states : NoAttr K (He.ga K "Party") "own_states"
  n_own_log : NoAttr K (He.ga K "Party") "own_log"
  m_state : Meth K (He.ga K "Party") "state" (He.ma K (He.ga K "Party") "state")
  m_lot : Meth K (He.ga K "Party") "lot" (He.ma K (He.ga K "Party") "lot")
  m_exchanges : Meth K (He.ga K "Party") "exchanges" (He.ma K (He.ga K "Party") "exchanges")
  m_deeds : Meth K (He.ga K "Party") "deeds" (He.ma K (He.ga K "Party") "deeds")
  m_look_person : Meth K (He.ga K "Party") "look_person" (He.ma K (He.ga K "Party") "look_person")
  m_exchange : Meth K (He.ga K "Party") "exchange" (He.ma K (He.ga K "Party") "exchange")
  m_run : Meth K (He.ga K "Party") "run" (He.ma K (He.ga K "Party") "run")
  m_again : Meth K (He.ga K "Party") "again" (He.ma K (He.ga K "Party") "again")
  m_go : Meth K (He.ga K "Party") "go" (He.ma K (He.ga K "Party") "go")
  m_give : Meth K (He.ga K "Party") "give" (He.ma K (He.ga K "Party") "give")
  m_take : Meth K (He.ga K "Party") "take" (He.ma K (He.ga K "Party") "take")
  m_come : Meth K (He.ga K "Party") "come" (He.ma K (He.ga K "Party") "come")
  m_leave : Meth K (He.ga K "Party") "leave" (He.ma K (He.ga K "Party") "leave")
  m_undo : Meth K (He.ga K "Party") "undo" (He.ma K (He.ga K "Party") "undo")
  m_done : Meth K (He.ga K "Party") "done" (He.ma K (He.ga K "Party") "done")
  m_do : Meth K (He.ga K "Party") "do" (He.ma K (He.ga K "Party") "do")
  m_as_of : Meth K (He.ga K "Party") "as_of" (He.ma K (He.ga K "Party") "as_of")
  m_twin : Meth K (He.ga K "Party") "twin" (He.ma K (He.ga K "Party") "twin")
  m_log : Meth K (He.ga K "Party") "log" (He.ma K (He.ga K "Party") "log")
  m_len : Meth K (He.ga K "Party") "__len__" (He.ma K (He.ga K "Party") "__len__")
  m_eq : Meth K (He.ga K "Party") "__eq__" (He.ma K (He.ga K "Party") "__eq__")
  m_repr : Meth K (He.ga K "Party") "__repr__" (He.ma K (He.ga K "Party") "__repr__")
  mkP : Mk K (He.ga K "Party") (He.ma K (He.ga K "Party") "__init__")
theorem tx_mk {K : PySem.W.Frag} {h : Heap} {mg : Str → Option Value} (X : K.In h) (G : h.Ns mainGlobals mg) (c : He.SaysD fa fn K) : Tx K mg where
  F_choose := fdo (c.def_ 0 rfl)
  F_placements := fdo (c.def_ 1 rfl)
  F_seatings := fdo (c.def_ 2 rfl)
  F_spread := fdo (c.def_ 3 rfl)
  F_seated_with := fdo (c.def_ 4 rfl)
  F_ways_with := fdo (c.def_ 5 rfl)
  F_NoPerson_init := fdo (c.def_ 6 rfl)
  F_NoSeat_init := fdo (c.def_ 7 rfl)
  F_NoNumber_init := fdo (c.def_ 8 rfl)
  F_NoDeed_init := fdo (c.def_ 9 rfl)
  F_OtherPeople_init := fdo (c.def_ 10 rfl)
  F_BadDeed_init := fdo (c.def_ 11 rfl)
  F_Empty_init := fdo (c.def_ 12 rfl)
  F_Barred_init := fdo (c.def_ 13 rfl)
  F_Stops_init := fdo (c.def_ 14 rfl)
  F_Few_init := fdo (c.def_ 15 rfl)
  F_Full_init := fdo (c.def_ 16 rfl)
  F_as_state := fdo (c.def_ 17 rfl)
  F_people_many := fdo (c.def_ 18 rfl)
  F_sitting := fdo (c.def_ 19 rfl)
  F_coins_of := fdo (c.def_ 20 rfl)
  F_kept_of := fdo (c.def_ 21 rfl)
  F_total := fdo (c.def_ 22 rfl)
  F_look_people := fdo (c.def_ 23 rfl)
  F_exchanges := fdo (c.def_ 24 rfl)
  F_exchanged := fdo (c.def_ 25 rfl)
  F_states_along := fdo (c.def_ 26 rfl)
  F_run := fdo (c.def_ 27 rfl)
  F_reason_of := fdo (c.def_ 28 rfl)
  F_bar := fdo (c.def_ 29 rfl)
  F_look_leads := fdo (c.def_ 30 rfl)
  F_steps_of := fdo (c.def_ 31 rfl)
  F_meetings := fdo (c.def_ 32 rfl)
  F_crossings := fdo (c.def_ 33 rfl)
  F_distance := fdo (c.def_ 34 rfl)
  F_quota_of := fdo (c.def_ 35 rfl)
  F_many_with := fdo (c.def_ 36 rfl)
  F_lot_many := fdo (c.def_ 37 rfl)
  F_least_purses := fdo (c.def_ 38 rfl)
  F_shares_before := fdo (c.def_ 39 rfl)
  F_share_at := fdo (c.def_ 40 rfl)
  F_shares_at := fdo (c.def_ 41 rfl)
  F_rounds_left := fdo (c.def_ 42 rfl)
  F_state_with := fdo (c.def_ 43 rfl)
  F_state_at := fdo (c.def_ 44 rfl)
  F_flows := fdo (c.def_ 45 rfl)
  F_turn_from := fdo (c.def_ 46 rfl)
  F_gains := fdo (c.def_ 47 rfl)
  F_failures := fdo (c.def_ 48 rfl)
  F_first_failure := fdo (c.def_ 49 rfl)
  F_passes_many := fdo (c.def_ 50 rfl)
  F_after_passes := fdo (c.def_ 51 rfl)
  F_is_deed := fdo (c.def_ 52 rfl)
  F_with_purse := fdo (c.def_ 53 rfl)
  F_without := fdo (c.def_ 54 rfl)
  F_Party_init := fdo (c.def_ 55 rfl)
  F_Party_state := fdo (c.def_ 56 rfl)
  F_Party_lot := fdo (c.def_ 57 rfl)
  F_Party_exchanges := fdo (c.def_ 58 rfl)
  F_Party_deeds := fdo (c.def_ 59 rfl)
  F_Party_look_person := fdo (c.def_ 60 rfl)
  F_Party_exchange := fdo (c.def_ 61 rfl)
  F_Party_run := fdo (c.def_ 62 rfl)
  F_Party_again := fdo (c.def_ 63 rfl)
  F_Party_go := fdo (c.def_ 64 rfl)
  F_Party_give := fdo (c.def_ 65 rfl)
  F_Party_take := fdo (c.def_ 66 rfl)
  F_Party_come := fdo (c.def_ 67 rfl)
  F_Party_leave := fdo (c.def_ 68 rfl)
  F_Party_undo := fdo (c.def_ 69 rfl)
  F_Party_done := fdo (c.def_ 70 rfl)
  F_Party_do := fdo (c.def_ 71 rfl)
  F_Party_as_of := fdo (c.def_ 72 rfl)
  F_Party_twin := fdo (c.def_ 73 rfl)
  F_Party_log := fdo (c.def_ 74 rfl)
  F_Party_len := fdo (c.def_ 75 rfl)
  F_Party_eq := fdo (c.def_ 76 rfl)
  F_Party_repr := fdo (c.def_ 77 rfl)
  F__law_stream := fdo (c.def_ 78 rfl)
  F__law_draw := fdo (c.def_ 79 rfl)
  F__law_folded := fdo (c.def_ 80 rfl)
  F__law_pick := fdo (c.def_ 81 rfl)
  F__law_same := fdo (c.def_ 82 rfl)
  F__law_shuffled := fdo (c.def_ 83 rfl)
  F__law_random_state := fdo (c.def_ 84 rfl)
  F__law_swapped := fdo (c.def_ 85 rfl)
  F__law_random_row := fdo (c.def_ 86 rfl)
  F__law_run := fdo (c.def_ 87 rfl)
  F__law_named := fdo (c.def_ 88 rfl)
  F__law_missing := fdo (c.def_ 89 rfl)
  F__law_done := fdo (c.def_ 90 rfl)
  F__law_moved := fdo (c.def_ 91 rfl)
  F__law_deed := fdo (c.def_ 92 rfl)
  F__law_rows_right := fdo (c.def_ 93 rfl)
  F__law_guests_right := fdo (c.def_ 94 rfl)
  F__law_right := fdo (c.def_ 95 rfl)
  F_law := fdo (c.def_ 96 rfl)
  F_run_moves := fdo (c.def_ 97 rfl)
  g_choose := He.glo_ok X G (c.fact 0 rfl)
  g_placements := He.glo_ok X G (c.fact 1 rfl)
  g_seatings := He.glo_ok X G (c.fact 2 rfl)
  g_spread := He.glo_ok X G (c.fact 3 rfl)
  g_seated_with := He.glo_ok X G (c.fact 4 rfl)
  g_ways_with := He.glo_ok X G (c.fact 5 rfl)
  g_NoPerson := He.glo_ok X G (c.fact 6 rfl)
  g_NoSeat := He.glo_ok X G (c.fact 7 rfl)
  g_NoNumber := He.glo_ok X G (c.fact 8 rfl)
  g_NoDeed := He.glo_ok X G (c.fact 9 rfl)
  g_OtherPeople := He.glo_ok X G (c.fact 10 rfl)
  g_BadDeed := He.glo_ok X G (c.fact 11 rfl)
  g_Empty := He.glo_ok X G (c.fact 12 rfl)
  g_Barred := He.glo_ok X G (c.fact 13 rfl)
  g_Stops := He.glo_ok X G (c.fact 14 rfl)
  g_Few := He.glo_ok X G (c.fact 15 rfl)
  g_Full := He.glo_ok X G (c.fact 16 rfl)
  g_as_state := He.glo_ok X G (c.fact 17 rfl)
  g_people_many := He.glo_ok X G (c.fact 18 rfl)
  g_sitting := He.glo_ok X G (c.fact 19 rfl)
  g_coins_of := He.glo_ok X G (c.fact 20 rfl)
  g_kept_of := He.glo_ok X G (c.fact 21 rfl)
  g_total := He.glo_ok X G (c.fact 22 rfl)
  g_look_people := He.glo_ok X G (c.fact 23 rfl)
  g_exchanges := He.glo_ok X G (c.fact 24 rfl)
  g_exchanges_moves := He.glo_ok X G (c.fact 25 rfl)
  g_exchanged := He.glo_ok X G (c.fact 26 rfl)
  g_states_along := He.glo_ok X G (c.fact 27 rfl)
  g_run := He.glo_ok X G (c.fact 28 rfl)
  g_run_moves := He.glo_ok X G (c.fact 29 rfl)
  g_reason_of := He.glo_ok X G (c.fact 30 rfl)
  g_bar := He.glo_ok X G (c.fact 31 rfl)
  g_look_leads := He.glo_ok X G (c.fact 32 rfl)
  g_steps_of := He.glo_ok X G (c.fact 33 rfl)
  g_meetings := He.glo_ok X G (c.fact 34 rfl)
  g_crossings := He.glo_ok X G (c.fact 35 rfl)
  g_distance := He.glo_ok X G (c.fact 36 rfl)
  g_quota_of := He.glo_ok X G (c.fact 37 rfl)
  g_many_with := He.glo_ok X G (c.fact 38 rfl)
  g_lot_many := He.glo_ok X G (c.fact 39 rfl)
  g_least_purses := He.glo_ok X G (c.fact 40 rfl)
  g_shares_before := He.glo_ok X G (c.fact 41 rfl)
  g_share_at := He.glo_ok X G (c.fact 42 rfl)
  g_shares_at := He.glo_ok X G (c.fact 43 rfl)
  g_rounds_left := He.glo_ok X G (c.fact 44 rfl)
  g_state_with := He.glo_ok X G (c.fact 45 rfl)
  g_state_at := He.glo_ok X G (c.fact 46 rfl)
  g_flows := He.glo_ok X G (c.fact 47 rfl)
  g_turn_from := He.glo_ok X G (c.fact 48 rfl)
  g_gains := He.glo_ok X G (c.fact 49 rfl)
  g_failures := He.glo_ok X G (c.fact 50 rfl)
  g_first_failure := He.glo_ok X G (c.fact 51 rfl)
  g_passes_many := He.glo_ok X G (c.fact 52 rfl)
  g_after_passes := He.glo_ok X G (c.fact 53 rfl)
  g_SIZES := He.glo_ok X G (c.fact 54 rfl)
  g_is_deed := He.glo_ok X G (c.fact 55 rfl)
  g_with_purse := He.glo_ok X G (c.fact 56 rfl)
  g_without := He.glo_ok X G (c.fact 57 rfl)
  g_Party := He.glo_ok X G (c.fact 58 rfl)
  g__law_stream := He.glo_ok X G (c.fact 59 rfl)
  g__law_draw := He.glo_ok X G (c.fact 60 rfl)
  g__law_folded := He.glo_ok X G (c.fact 61 rfl)
  g__law_pick := He.glo_ok X G (c.fact 62 rfl)
  g__law_same := He.glo_ok X G (c.fact 63 rfl)
  g__law_shuffled := He.glo_ok X G (c.fact 64 rfl)
  g__law_random_state := He.glo_ok X G (c.fact 65 rfl)
  g__law_swapped := He.glo_ok X G (c.fact 66 rfl)
  g__law_random_row := He.glo_ok X G (c.fact 67 rfl)
  g__law_run := He.glo_ok X G (c.fact 68 rfl)
  g__law_named := He.glo_ok X G (c.fact 69 rfl)
  g__law_missing := He.glo_ok X G (c.fact 70 rfl)
  g__law_done := He.glo_ok X G (c.fact 71 rfl)
  g__law_moved := He.glo_ok X G (c.fact 72 rfl)
  g__law_deed := He.glo_ok X G (c.fact 73 rfl)
  g__law_rows_right := He.glo_ok X G (c.fact 74 rfl)
  g__law_guests_right := He.glo_ok X G (c.fact 75 rfl)
  g__law_right := He.glo_ok X G (c.fact 76 rfl)
  g_law := He.glo_ok X G (c.fact 77 rfl)
  b_IndexError := He.free_ok X G (c.fact 78 rfl)
  b_KeyError := He.free_ok X G (c.fact 79 rfl)
  b_LookupError := He.free_ok X G (c.fact 80 rfl)
  b_OverflowError := He.free_ok X G (c.fact 81 rfl)
  b_RuntimeError := He.free_ok X G (c.fact 82 rfl)
  b_ValueError := He.free_ok X G (c.fact 83 rfl)
  b_abs := He.free_ok X G (c.fact 84 rfl)
  b_all := He.free_ok X G (c.fact 85 rfl)
  b_bool := He.free_ok X G (c.fact 86 rfl)
  b_dict := He.free_ok X G (c.fact 87 rfl)
  b_divmod := He.free_ok X G (c.fact 88 rfl)
  b_enumerate := He.free_ok X G (c.fact 89 rfl)
  b_int := He.free_ok X G (c.fact 90 rfl)
  b_isinstance := He.free_ok X G (c.fact 91 rfl)
  b_len := He.free_ok X G (c.fact 92 rfl)
  b_list := He.free_ok X G (c.fact 93 rfl)
  b_max := He.free_ok X G (c.fact 94 rfl)
  b_min := He.free_ok X G (c.fact 95 rfl)
  b_range := He.free_ok X G (c.fact 96 rfl)
  b_repr := He.free_ok X G (c.fact 97 rfl)
  b_set := He.free_ok X G (c.fact 98 rfl)
  b_sorted := He.free_ok X G (c.fact 99 rfl)
  b_str := He.free_ok X G (c.fact 100 rfl)
  b_sum := He.free_ok X G (c.fact 101 rfl)
  b_tuple := He.free_ok X G (c.fact 102 rfl)
  b_zip := He.free_ok X G (c.fact 103 rfl)
  i_MOST_PEOPLE := He.int_ok X G (c.fact 104 rfl)
  i_LEAST_PEOPLE := He.int_ok X G (c.fact 105 rfl)
  c_IN := He.str_ok X G (c.fact 106 rfl)
  c_OUT := He.str_ok X G (c.fact 107 rfl)
  c_TOTAL := He.str_ok X G (c.fact 108 rfl)
  clP := He.cls_ok (c.fact 109 rfl)
  n_own_states := He.noat_ok (c.fact 110 rfl)
  n_own_log := He.noat_ok (c.fact 111 rfl)
  m_state := He.meth_ok (c.fact 112 rfl)
  m_lot := He.meth_ok (c.fact 113 rfl)
  m_exchanges := He.meth_ok (c.fact 114 rfl)
  m_deeds := He.meth_ok (c.fact 115 rfl)
  m_look_person := He.meth_ok (c.fact 116 rfl)
  m_exchange := He.meth_ok (c.fact 117 rfl)
  m_run := He.meth_ok (c.fact 118 rfl)
  m_again := He.meth_ok (c.fact 119 rfl)
  m_go := He.meth_ok (c.fact 120 rfl)
  m_give := He.meth_ok (c.fact 121 rfl)
  m_take := He.meth_ok (c.fact 122 rfl)
  m_come := He.meth_ok (c.fact 123 rfl)
  m_leave := He.meth_ok (c.fact 124 rfl)
  m_undo := He.meth_ok (c.fact 125 rfl)
  m_done := He.meth_ok (c.fact 126 rfl)
  m_do := He.meth_ok (c.fact 127 rfl)
  m_as_of := He.meth_ok (c.fact 128 rfl)
  m_twin := He.meth_ok (c.fact 129 rfl)
  m_log := He.meth_ok (c.fact 130 rfl)
  m_len := He.meth_ok (c.fact 131 rfl)
  m_eq := He.meth_ok (c.fact 132 rfl)
  m_repr := He.meth_ok (c.fact 133 rfl)
  mkP := He.mkr_ok (c.fact 134 rfl)
section
variable {K : PySem.W.Frag} {mg : Str → Option Value}
theorem Tx.b_f_choose (T : Tx K mg) : Binds K (fdOf K (He.ga K "choose")) ["many", "few"] [] := T.F_choose.bindsN (ps := ["many", "few"]) fun _ _ _ _ _ _ us hl => match us, hl with | [_, _], _ => rfl
theorem Tx.b_f_placements (T : Tx K mg) : Binds K (fdOf K (He.ga K "placements")) ["steps"] [] := T.F_placements.bindsN (ps := ["steps"]) fun _ _ _ _ _ _ us hl => match us, hl with | [_], _ => rfl
theorem Tx.b_f_seatings (T : Tx K mg) : Binds K (fdOf K (He.ga K "seatings")) ["steps"] [] := T.F_seatings.bindsN (ps := ["steps"]) fun _ _ _ _ _ _ us hl => match us, hl with | [_], _ => rfl
theorem Tx.b_f_spread (T : Tx K mg) : Binds K (fdOf K (He.ga K "spread")) ["residues", "quota", "seated"] [] := T.F_spread.bindsN (ps := ["residues", "quota", "seated"]) fun _ _ _ _ _ _ us hl => match us, hl with | [_, _, _], _ => rfl
theorem Tx.b_f_seated_with (T : Tx K mg) : Binds K (fdOf K (He.ga K "seated_with")) ["seated", "person", "seat"] [] := T.F_seated_with.bindsN (ps := ["seated", "person", "seat"]) fun _ _ _ _ _ _ us hl => match us, hl with | [_, _, _], _ => rfl
theorem Tx.b_f_ways_with (T : Tx K mg) : Binds K (fdOf K (He.ga K "ways_with")) ["residues", "quota", "seated"] [] := T.F_ways_with.bindsN (ps := ["residues", "quota", "seated"]) fun _ _ _ _ _ _ us hl => match us, hl with | [_, _, _], _ => rfl
theorem Tx.b_f_NoPerson_init (T : Tx K mg) : Binds K (fdOf K (He.ma K (He.ga K "NoPerson") "__init__")) ["self", "person"] [] := T.F_NoPerson_init.bindsN (ps := ["self", "person"]) fun _ _ _ _ _ _ us hl => match us, hl with | [_, _], _ => rfl
theorem Tx.b_f_NoSeat_init (T : Tx K mg) : Binds K (fdOf K (He.ma K (He.ga K "NoSeat") "__init__")) ["self", "seat"] [] := T.F_NoSeat_init.bindsN (ps := ["self", "seat"]) fun _ _ _ _ _ _ us hl => match us, hl with | [_, _], _ => rfl
theorem Tx.b_f_NoNumber_init (T : Tx K mg) : Binds K (fdOf K (He.ma K (He.ga K "NoNumber") "__init__")) ["self", "number"] [] := T.F_NoNumber_init.bindsN (ps := ["self", "number"]) fun _ _ _ _ _ _ us hl => match us, hl with | [_, _], _ => rfl
theorem Tx.b_f_NoDeed_init (T : Tx K mg) : Binds K (fdOf K (He.ma K (He.ga K "NoDeed") "__init__")) ["self", "many"] [] := T.F_NoDeed_init.bindsN (ps := ["self", "many"]) fun _ _ _ _ _ _ us hl => match us, hl with | [_, _], _ => rfl
theorem Tx.b_f_OtherPeople_init (T : Tx K mg) : Binds K (fdOf K (He.ma K (He.ga K "OtherPeople") "__init__")) ["self", "many"] [] := T.F_OtherPeople_init.bindsN (ps := ["self", "many"]) fun _ _ _ _ _ _ us hl => match us, hl with | [_, _], _ => rfl
theorem Tx.b_f_BadDeed_init (T : Tx K mg) : Binds K (fdOf K (He.ma K (He.ga K "BadDeed") "__init__")) ["self", "at"] [] := T.F_BadDeed_init.bindsN (ps := ["self", "at"]) fun _ _ _ _ _ _ us hl => match us, hl with | [_, _], _ => rfl
theorem Tx.b_f_Empty_init (T : Tx K mg) : Binds K (fdOf K (He.ma K (He.ga K "Empty") "__init__")) ["self", "person"] [] := T.F_Empty_init.bindsN (ps := ["self", "person"]) fun _ _ _ _ _ _ us hl => match us, hl with | [_, _], _ => rfl
theorem Tx.b_f_Barred_init (T : Tx K mg) : Binds K (fdOf K (He.ma K (He.ga K "Barred") "__init__")) ["self", "reason"] [] := T.F_Barred_init.bindsN (ps := ["self", "reason"]) fun _ _ _ _ _ _ us hl => match us, hl with | [_, _], _ => rfl
theorem Tx.b_f_Stops_init (T : Tx K mg) : Binds K (fdOf K (He.ma K (He.ga K "Stops") "__init__")) ["self", "many"] [] := T.F_Stops_init.bindsN (ps := ["self", "many"]) fun _ _ _ _ _ _ us hl => match us, hl with | [_, _], _ => rfl
theorem Tx.b_f_Few_init (T : Tx K mg) : Binds K (fdOf K (He.ma K (He.ga K "Few") "__init__")) ["self"] [] := T.F_Few_init.bindsN (ps := ["self"]) fun _ _ _ _ _ _ us hl => match us, hl with | [_], _ => rfl
theorem Tx.b_f_Full_init (T : Tx K mg) : Binds K (fdOf K (He.ma K (He.ga K "Full") "__init__")) ["self", "many"] [] := T.F_Full_init.bindsN (ps := ["self", "many"]) fun _ _ _ _ _ _ us hl => match us, hl with | [_, _], _ => rfl
theorem Tx.b_f_as_state (T : Tx K mg) : Binds K (fdOf K (He.ga K "as_state")) ["state"] [] := T.F_as_state.bindsN (ps := ["state"]) fun _ _ _ _ _ _ us hl => match us, hl with | [_], _ => rfl
theorem Tx.b_f_people_many (T : Tx K mg) : Binds K (fdOf K (He.ga K "people_many")) ["state"] [] := T.F_people_many.bindsN (ps := ["state"]) fun _ _ _ _ _ _ us hl => match us, hl with | [_], _ => rfl
theorem Tx.b_f_sitting (T : Tx K mg) : Binds K (fdOf K (He.ga K "sitting")) ["state"] [] := T.F_sitting.bindsN (ps := ["state"]) fun _ _ _ _ _ _ us hl => match us, hl with | [_], _ => rfl
theorem Tx.b_f_coins_of (T : Tx K mg) : Binds K (fdOf K (He.ga K "coins_of")) ["state"] [] := T.F_coins_of.bindsN (ps := ["state"]) fun _ _ _ _ _ _ us hl => match us, hl with | [_], _ => rfl
theorem Tx.b_f_kept_of (T : Tx K mg) : Binds K (fdOf K (He.ga K "kept_of")) ["state"] [] := T.F_kept_of.bindsN (ps := ["state"]) fun _ _ _ _ _ _ us hl => match us, hl with | [_], _ => rfl
theorem Tx.b_f_total (T : Tx K mg) : Binds K (fdOf K (He.ga K "total")) ["state"] [] := T.F_total.bindsN (ps := ["state"]) fun _ _ _ _ _ _ us hl => match us, hl with | [_], _ => rfl
theorem Tx.b_f_look_people (T : Tx K mg) : Binds K (fdOf K (He.ga K "look_people")) ["size", "many"] [] := T.F_look_people.bindsN (ps := ["size", "many"]) fun _ _ _ _ _ _ us hl => match us, hl with | [_, _], _ => rfl
theorem Tx.b_f_exchanges (T : Tx K mg) : Binds K (fdOf K (He.ga K "exchanges")) ["state"] [] := T.F_exchanges.bindsN (ps := ["state"]) fun _ _ _ _ _ _ us hl => match us, hl with | [_], _ => rfl
theorem Tx.b_f_exchanged (T : Tx K mg) : Binds K (fdOf K (He.ga K "exchanged")) ["state", "seat"] [] := T.F_exchanged.bindsN (ps := ["state", "seat"]) fun _ _ _ _ _ _ us hl => match us, hl with | [_, _], _ => rfl
theorem Tx.b_f_states_along (T : Tx K mg) : Binds K (fdOf K (He.ga K "states_along")) ["state", "row"] [] := T.F_states_along.bindsN (ps := ["state", "row"]) fun _ _ _ _ _ _ us hl => match us, hl with | [_, _], _ => rfl
theorem Tx.b_f_run (T : Tx K mg) : Binds K (fdOf K (He.ga K "run")) ["state", "row"] [] := T.F_run.bindsN (ps := ["state", "row"]) fun _ _ _ _ _ _ us hl => match us, hl with | [_, _], _ => rfl
theorem Tx.b_f_reason_of (T : Tx K mg) : Binds K (fdOf K (He.ga K "reason_of")) ["one", "other"] [] := T.F_reason_of.bindsN (ps := ["one", "other"]) fun _ _ _ _ _ _ us hl => match us, hl with | [_, _], _ => rfl
theorem Tx.b_f_bar (T : Tx K mg) : Binds K (fdOf K (He.ga K "bar")) ["one", "other"] [] := T.F_bar.bindsN (ps := ["one", "other"]) fun _ _ _ _ _ _ us hl => match us, hl with | [_, _], _ => rfl
theorem Tx.b_f_look_leads (T : Tx K mg) : Binds K (fdOf K (He.ga K "look_leads")) ["one", "other"] [] := T.F_look_leads.bindsN (ps := ["one", "other"]) fun _ _ _ _ _ _ us hl => match us, hl with | [_, _], _ => rfl
theorem Tx.b_f_steps_of (T : Tx K mg) : Binds K (fdOf K (He.ga K "steps_of")) ["one", "other"] [] := T.F_steps_of.bindsN (ps := ["one", "other"]) fun _ _ _ _ _ _ us hl => match us, hl with | [_, _], _ => rfl
theorem Tx.b_f_meetings (T : Tx K mg) : Binds K (fdOf K (He.ga K "meetings")) ["one", "steps", "left", "right"] [] := T.F_meetings.bindsN (ps := ["one", "steps", "left", "right"]) fun _ _ _ _ _ _ us hl => match us, hl with | [_, _, _, _], _ => rfl
theorem Tx.b_f_crossings (T : Tx K mg) : Binds K (fdOf K (He.ga K "crossings")) ["one", "other"] [] := T.F_crossings.bindsN (ps := ["one", "other"]) fun _ _ _ _ _ _ us hl => match us, hl with | [_, _], _ => rfl
theorem Tx.b_f_distance (T : Tx K mg) : Binds K (fdOf K (He.ga K "distance")) ["one", "other"] [] := T.F_distance.bindsN (ps := ["one", "other"]) fun _ _ _ _ _ _ us hl => match us, hl with | [_, _], _ => rfl
theorem Tx.b_f_quota_of (T : Tx K mg) : Binds K (fdOf K (He.ga K "quota_of")) ["kept", "coins"] [] := T.F_quota_of.bindsN (ps := ["kept", "coins"]) fun _ _ _ _ _ _ us hl => match us, hl with | [_, _], _ => rfl
theorem Tx.b_f_many_with (T : Tx K mg) : Binds K (fdOf K (He.ga K "many_with")) ["residues", "total"] [] := T.F_many_with.bindsN (ps := ["residues", "total"]) fun _ _ _ _ _ _ us hl => match us, hl with | [_, _], _ => rfl
theorem Tx.b_f_lot_many (T : Tx K mg) : Binds K (fdOf K (He.ga K "lot_many")) ["state"] [] := T.F_lot_many.bindsN (ps := ["state"]) fun _ _ _ _ _ _ us hl => match us, hl with | [_], _ => rfl
theorem Tx.b_f_least_purses (T : Tx K mg) : Binds K (fdOf K (He.ga K "least_purses")) ["kept", "seats"] [] := T.F_least_purses.bindsN (ps := ["kept", "seats"]) fun _ _ _ _ _ _ us hl => match us, hl with | [_, _], _ => rfl
theorem Tx.b_f_shares_before (T : Tx K mg) : Binds K (fdOf K (He.ga K "shares_before")) ["rounds", "people", "share"] [] := T.F_shares_before.bindsN (ps := ["rounds", "people", "share"]) fun _ _ _ _ _ _ us hl => match us, hl with | [_, _, _], _ => rfl
theorem Tx.b_f_share_at (T : Tx K mg) : Binds K (fdOf K (He.ga K "share_at")) ["rounds", "people", "number"] [] := T.F_share_at.bindsN (ps := ["rounds", "people", "number"]) fun _ _ _ _ _ _ us hl => match us, hl with | [_, _, _], _ => rfl
theorem Tx.b_f_shares_at (T : Tx K mg) : Binds K (fdOf K (He.ga K "shares_at")) ["rounds", "people", "number"] [] := T.F_shares_at.bindsN (ps := ["rounds", "people", "number"]) fun _ _ _ _ _ _ us hl => match us, hl with | [_, _, _], _ => rfl
theorem Tx.b_f_rounds_left (T : Tx K mg) : Binds K (fdOf K (He.ga K "rounds_left")) ["kept", "coins", "seats"] [] := T.F_rounds_left.bindsN (ps := ["kept", "coins", "seats"]) fun _ _ _ _ _ _ us hl => match us, hl with | [_, _, _], _ => rfl
theorem Tx.b_f_state_with (T : Tx K mg) : Binds K (fdOf K (He.ga K "state_with")) ["kept", "coins", "seats", "number"] [] := T.F_state_with.bindsN (ps := ["kept", "coins", "seats", "number"]) fun _ _ _ _ _ _ us hl => match us, hl with | [_, _, _, _], _ => rfl
theorem Tx.b_f_state_at (T : Tx K mg) : Binds K (fdOf K (He.ga K "state_at")) ["state", "number"] [] := T.F_state_at.bindsN (ps := ["state", "number"]) fun _ _ _ _ _ _ us hl => match us, hl with | [_, _], _ => rfl
theorem Tx.b_f_flows (T : Tx K mg) : Binds K (fdOf K (He.ga K "flows")) ["row", "size"] [] := T.F_flows.bindsN (ps := ["row", "size"]) fun _ _ _ _ _ _ us hl => match us, hl with | [_, _], _ => rfl
theorem Tx.b_f_turn_from (T : Tx K mg) : Binds K (fdOf K (He.ga K "turn_from")) ["ends", "seat"] [] := T.F_turn_from.bindsN (ps := ["ends", "seat"]) fun _ _ _ _ _ _ us hl => match us, hl with | [_, _], _ => rfl
theorem Tx.b_f_gains (T : Tx K mg) : Binds K (fdOf K (He.ga K "gains")) ["payments", "turn"] [] := T.F_gains.bindsN (ps := ["payments", "turn"]) fun _ _ _ _ _ _ us hl => match us, hl with | [_, _], _ => rfl
theorem Tx.b_f_failures (T : Tx K mg) : Binds K (fdOf K (He.ga K "failures")) ["payments", "turn", "purse"] [] := T.F_failures.bindsN (ps := ["payments", "turn", "purse"]) fun _ _ _ _ _ _ us hl => match us, hl with | [_, _, _], _ => rfl
theorem Tx.b_f_first_failure (T : Tx K mg) : Binds K (fdOf K (He.ga K "first_failure")) ["state", "row"] [] := T.F_first_failure.bindsN (ps := ["state", "row"]) fun _ _ _ _ _ _ us hl => match us, hl with | [_, _], _ => rfl
theorem Tx.b_f_passes_many (T : Tx K mg) : Binds K (fdOf K (He.ga K "passes_many")) ["state", "row"] [] := T.F_passes_many.bindsN (ps := ["state", "row"]) fun _ _ _ _ _ _ us hl => match us, hl with | [_, _], _ => rfl
theorem Tx.b_f_after_passes (T : Tx K mg) : Binds K (fdOf K (He.ga K "after_passes")) ["state", "row", "many"] [] := T.F_after_passes.bindsN (ps := ["state", "row", "many"]) fun _ _ _ _ _ _ us hl => match us, hl with | [_, _, _], _ => rfl
theorem Tx.b_f_is_deed (T : Tx K mg) : Binds K (fdOf K (He.ga K "is_deed")) ["value"] [] := T.F_is_deed.bindsN (ps := ["value"]) fun _ _ _ _ _ _ us hl => match us, hl with | [_], _ => rfl
theorem Tx.b_f_with_purse (T : Tx K mg) : Binds K (fdOf K (He.ga K "with_purse")) ["state", "person", "coins"] [] := T.F_with_purse.bindsN (ps := ["state", "person", "coins"]) fun _ _ _ _ _ _ us hl => match us, hl with | [_, _, _], _ => rfl
theorem Tx.b_f_without (T : Tx K mg) : Binds K (fdOf K (He.ga K "without")) ["state", "person"] [] := T.F_without.bindsN (ps := ["state", "person"]) fun _ _ _ _ _ _ us hl => match us, hl with | [_, _], _ => rfl
theorem Tx.b_f_Party_init (T : Tx K mg) : Binds K (fdOf K (He.ma K (He.ga K "Party") "__init__")) ["self", "state"] [] := T.F_Party_init.bindsN (ps := ["self", "state"]) fun _ _ _ _ _ _ us hl => match us, hl with | [_, _], _ => rfl
theorem Tx.b_f_Party_state (T : Tx K mg) : Binds K (fdOf K (He.ma K (He.ga K "Party") "state")) ["self"] [] := T.F_Party_state.bindsN (ps := ["self"]) fun _ _ _ _ _ _ us hl => match us, hl with | [_], _ => rfl
theorem Tx.b_f_Party_lot (T : Tx K mg) : Binds K (fdOf K (He.ma K (He.ga K "Party") "lot")) ["self"] [] := T.F_Party_lot.bindsN (ps := ["self"]) fun _ _ _ _ _ _ us hl => match us, hl with | [_], _ => rfl
theorem Tx.b_f_Party_exchanges (T : Tx K mg) : Binds K (fdOf K (He.ma K (He.ga K "Party") "exchanges")) ["self"] [] := T.F_Party_exchanges.bindsN (ps := ["self"]) fun _ _ _ _ _ _ us hl => match us, hl with | [_], _ => rfl
theorem Tx.b_f_Party_deeds (T : Tx K mg) : Binds K (fdOf K (He.ma K (He.ga K "Party") "deeds")) ["self"] [] := T.F_Party_deeds.bindsN (ps := ["self"]) fun _ _ _ _ _ _ us hl => match us, hl with | [_], _ => rfl
theorem Tx.b_f_Party_look_person (T : Tx K mg) : Binds K (fdOf K (He.ma K (He.ga K "Party") "look_person")) ["self", "person"] [] := T.F_Party_look_person.bindsN (ps := ["self", "person"]) fun _ _ _ _ _ _ us hl => match us, hl with | [_, _], _ => rfl
theorem Tx.b_f_Party_exchange (T : Tx K mg) : Binds K (fdOf K (He.ma K (He.ga K "Party") "exchange")) ["self", "seat"] [] := T.F_Party_exchange.bindsN (ps := ["self", "seat"]) fun _ _ _ _ _ _ us hl => match us, hl with | [_, _], _ => rfl
theorem Tx.b_f_Party_run (T : Tx K mg) : Binds K (fdOf K (He.ma K (He.ga K "Party") "run")) ["self", "row"] [] := T.F_Party_run.bindsN (ps := ["self", "row"]) fun _ _ _ _ _ _ us hl => match us, hl with | [_, _], _ => rfl
theorem Tx.b_f_Party_again (T : Tx K mg) : Binds K (fdOf K (He.ma K (He.ga K "Party") "again")) ["self", "row", "many"] [] := T.F_Party_again.bindsN (ps := ["self", "row", "many"]) fun _ _ _ _ _ _ us hl => match us, hl with | [_, _, _], _ => rfl
theorem Tx.b_f_Party_go (T : Tx K mg) : Binds K (fdOf K (He.ma K (He.ga K "Party") "go")) ["self", "goal"] [] := T.F_Party_go.bindsN (ps := ["self", "goal"]) fun _ _ _ _ _ _ us hl => match us, hl with | [_, _], _ => rfl
theorem Tx.b_f_Party_give (T : Tx K mg) : Binds K (fdOf K (He.ma K (He.ga K "Party") "give")) ["self", "person", "coins"] [] := T.F_Party_give.bindsN (ps := ["self", "person", "coins"]) fun _ _ _ _ _ _ us hl => match us, hl with | [_, _, _], _ => rfl
theorem Tx.b_f_Party_take (T : Tx K mg) : Binds K (fdOf K (He.ma K (He.ga K "Party") "take")) ["self", "person", "coins"] [] := T.F_Party_take.bindsN (ps := ["self", "person", "coins"]) fun _ _ _ _ _ _ us hl => match us, hl with | [_, _, _], _ => rfl
theorem Tx.b_f_Party_come (T : Tx K mg) : Binds K (fdOf K (He.ma K (He.ga K "Party") "come")) ["self", "coins"] [] := T.F_Party_come.bindsN (ps := ["self", "coins"]) fun _ _ _ _ _ _ us hl => match us, hl with | [_, _], _ => rfl
theorem Tx.b_f_Party_leave (T : Tx K mg) : Binds K (fdOf K (He.ma K (He.ga K "Party") "leave")) ["self", "person"] [] := T.F_Party_leave.bindsN (ps := ["self", "person"]) fun _ _ _ _ _ _ us hl => match us, hl with | [_, _], _ => rfl
theorem Tx.b_f_Party_undo (T : Tx K mg) : Binds K (fdOf K (He.ma K (He.ga K "Party") "undo")) ["self"] [] := T.F_Party_undo.bindsN (ps := ["self"]) fun _ _ _ _ _ _ us hl => match us, hl with | [_], _ => rfl
theorem Tx.b_f_Party_done (T : Tx K mg) : Binds K (fdOf K (He.ma K (He.ga K "Party") "done")) ["self", "deed"] [] := T.F_Party_done.bindsN (ps := ["self", "deed"]) fun _ _ _ _ _ _ us hl => match us, hl with | [_, _], _ => rfl
theorem Tx.b_f_Party_as_of (T : Tx K mg) : Binds K (fdOf K (He.ma K (He.ga K "Party") "as_of")) ["self", "many"] [] := T.F_Party_as_of.bindsN (ps := ["self", "many"]) fun _ _ _ _ _ _ us hl => match us, hl with | [_, _], _ => rfl
theorem Tx.b_f_Party_twin (T : Tx K mg) : Binds K (fdOf K (He.ma K (He.ga K "Party") "twin")) ["self"] [] := T.F_Party_twin.bindsN (ps := ["self"]) fun _ _ _ _ _ _ us hl => match us, hl with | [_], _ => rfl
theorem Tx.b_f_Party_log (T : Tx K mg) : Binds K (fdOf K (He.ma K (He.ga K "Party") "log")) ["self"] [] := T.F_Party_log.bindsN (ps := ["self"]) fun _ _ _ _ _ _ us hl => match us, hl with | [_], _ => rfl
theorem Tx.b_f_Party_len (T : Tx K mg) : Binds K (fdOf K (He.ma K (He.ga K "Party") "__len__")) ["self"] [] := T.F_Party_len.bindsN (ps := ["self"]) fun _ _ _ _ _ _ us hl => match us, hl with | [_], _ => rfl
theorem Tx.b_f_Party_eq (T : Tx K mg) : Binds K (fdOf K (He.ma K (He.ga K "Party") "__eq__")) ["self", "other"] [] := T.F_Party_eq.bindsN (ps := ["self", "other"]) fun _ _ _ _ _ _ us hl => match us, hl with | [_, _], _ => rfl
theorem Tx.b_f_Party_repr (T : Tx K mg) : Binds K (fdOf K (He.ma K (He.ga K "Party") "__repr__")) ["self"] [] := T.F_Party_repr.bindsN (ps := ["self"]) fun _ _ _ _ _ _ us hl => match us, hl with | [_], _ => rfl
theorem Tx.b_f__law_stream (T : Tx K mg) : Binds K (fdOf K (He.ga K "_law_stream")) ["_law_script", "_law_k"] [] := T.F__law_stream.bindsN (ps := ["_law_script", "_law_k"]) fun _ _ _ _ _ _ us hl => match us, hl with | [_, _], _ => rfl
theorem Tx.b_f__law_draw (T : Tx K mg) : Binds K (fdOf K (He.ga K "_law_draw")) ["_law_source", "_law_bound"] [] := T.F__law_draw.bindsN (ps := ["_law_source", "_law_bound"]) fun _ _ _ _ _ _ us hl => match us, hl with | [_, _], _ => rfl
theorem Tx.b_f__law_folded (T : Tx K mg) : Binds K (fdOf K (He.ga K "_law_folded")) ["_law_script", "_law_most"] [] := T.F__law_folded.bindsN (ps := ["_law_script", "_law_most"]) fun _ _ _ _ _ _ us hl => match us, hl with | [_, _], _ => rfl
theorem Tx.b_f__law_pick (T : Tx K mg) : Binds K (fdOf K (He.ga K "_law_pick")) ["_law_source", "_law_some"] [] := T.F__law_pick.bindsN (ps := ["_law_source", "_law_some"]) fun _ _ _ _ _ _ us hl => match us, hl with | [_, _], _ => rfl
theorem Tx.b_f__law_same (T : Tx K mg) : Binds K (fdOf K (He.ga K "_law_same")) ["_law_found", "_law_due"] [] := T.F__law_same.bindsN (ps := ["_law_found", "_law_due"]) fun _ _ _ _ _ _ us hl => match us, hl with | [_, _], _ => rfl
theorem Tx.b_f__law_shuffled (T : Tx K mg) : Binds K (fdOf K (He.ga K "_law_shuffled")) ["_law_source", "_law_some"] [] := T.F__law_shuffled.bindsN (ps := ["_law_source", "_law_some"]) fun _ _ _ _ _ _ us hl => match us, hl with | [_, _], _ => rfl
theorem Tx.b_f__law_random_state (T : Tx K mg) : Binds K (fdOf K (He.ga K "_law_random_state")) ["_law_source", "_law_crowd", "_law_top"] [] := T.F__law_random_state.bindsN (ps := ["_law_source", "_law_crowd", "_law_top"]) fun _ _ _ _ _ _ us hl => match us, hl with | [_, _, _], _ => rfl
theorem Tx.b_f__law_swapped (T : Tx K mg) : Binds K (fdOf K (He.ga K "_law_swapped")) ["_law_here", "_law_spot"] [] := T.F__law_swapped.bindsN (ps := ["_law_here", "_law_spot"]) fun _ _ _ _ _ _ us hl => match us, hl with | [_, _], _ => rfl
theorem Tx.b_f__law_random_row (T : Tx K mg) : Binds K (fdOf K (He.ga K "_law_random_row")) ["_law_source", "_law_here", "_law_most"] [] := T.F__law_random_row.bindsN (ps := ["_law_source", "_law_here", "_law_most"]) fun _ _ _ _ _ _ us hl => match us, hl with | [_, _, _], _ => rfl
theorem Tx.b_f__law_run (T : Tx K mg) : Binds K (fdOf K (He.ga K "_law_run")) ["_law_here", "_law_tape"] [] := T.F__law_run.bindsN (ps := ["_law_here", "_law_tape"]) fun _ _ _ _ _ _ us hl => match us, hl with | [_, _], _ => rfl
theorem Tx.b_f__law_named (T : Tx K mg) : Binds K (fdOf K (He.ga K "_law_named")) ["_law_caught"] [] := T.F__law_named.bindsN (ps := ["_law_caught"]) fun _ _ _ _ _ _ us hl => match us, hl with | [_], _ => rfl
theorem Tx.b_f__law_missing (T : Tx K mg) : Binds K (fdOf K (He.ga K "_law_missing")) ["_law_caught", "_law_at"] [] := T.F__law_missing.bindsN (ps := ["_law_caught", "_law_at"]) fun _ _ _ _ _ _ us hl => match us, hl with | [_, _], _ => rfl
theorem Tx.b_f__law_done (T : Tx K mg) : Binds K (fdOf K (He.ga K "_law_done")) ["_law_party", "_law_deed_here"] [] := T.F__law_done.bindsN (ps := ["_law_party", "_law_deed_here"]) fun _ _ _ _ _ _ us hl => match us, hl with | [_, _], _ => rfl
theorem Tx.b_f__law_moved (T : Tx K mg) : Binds K (fdOf K (He.ga K "_law_moved")) ["_law_party", "_law_deed_here"] [] := T.F__law_moved.bindsN (ps := ["_law_party", "_law_deed_here"]) fun _ _ _ _ _ _ us hl => match us, hl with | [_, _], _ => rfl
theorem Tx.b_f__law_deed (T : Tx K mg) : Binds K (fdOf K (He.ga K "_law_deed")) ["_law_source", "_law_here"] [] := T.F__law_deed.bindsN (ps := ["_law_source", "_law_here"]) fun _ _ _ _ _ _ us hl => match us, hl with | [_, _], _ => rfl
theorem Tx.b_f__law_rows_right (T : Tx K mg) : Binds K (fdOf K (He.ga K "_law_rows_right")) ["_law_source", "_law_party"] [] := T.F__law_rows_right.bindsN (ps := ["_law_source", "_law_party"]) fun _ _ _ _ _ _ us hl => match us, hl with | [_, _], _ => rfl
theorem Tx.b_f__law_guests_right (T : Tx K mg) : Binds K (fdOf K (He.ga K "_law_guests_right")) ["_law_source", "_law_party"] [] := T.F__law_guests_right.bindsN (ps := ["_law_source", "_law_party"]) fun _ _ _ _ _ _ us hl => match us, hl with | [_, _], _ => rfl
theorem Tx.b_f__law_right (T : Tx K mg) : Binds K (fdOf K (He.ga K "_law_right")) ["_law_source"] [] := T.F__law_right.bindsN (ps := ["_law_source"]) fun _ _ _ _ _ _ us hl => match us, hl with | [_], _ => rfl
theorem Tx.b_f_law (T : Tx K mg) : Binds K (fdOf K (He.ga K "law")) ["_law_script"] [] := T.F_law.bindsN (ps := ["_law_script"]) fun _ _ _ _ _ _ us hl => match us, hl with | [_], _ => rfl
theorem Tx.b_f_run_moves (T : Tx K mg) : Binds K (fdOf K (He.ga K "run_moves")) ["state", "row"] [] := T.F_run_moves.bindsN (ps := ["state", "row"]) fun _ _ _ _ _ _ us hl => match us, hl with | [_, _], _ => rfl
end
end Tr
end
section
set_option Elab.async false
set_option linter.all false
set_option maxRecDepth 100000
set_option maxHeartbeats 4000000
namespace Tr
open PySem PySem.Spec PyProof.Rows L2
section
variable {X : Cx}
/-! ### the module's constants -/
theorem pe_globI {x : Str} {pos : Pos} {i : Int} (hg : Gl X x) (h : ∃ t, X.mg x = some (.int i t)) (hd : (x == ("__debug__" : Str)) = false := by decide) : PE X (.Name x pos) (tC (.int i)) := by
  obtain ⟨t, ht⟩ := h
  exact pe_glob hg ht ⟨t, rfl⟩ hd
theorem pe_globS {x z : Str} {pos : Pos} (hg : Gl X x) (h : ∃ t, X.mg x = some (.str z t)) (hd : (x == ("__debug__" : Str)) = false := by decide) : PE X (.Name x pos) (tC (.str z)) := by
  obtain ⟨t, ht⟩ := h
  exact pe_glob hg ht ⟨t, rfl⟩ hd
/-! ### xs[i] op= e -/
def rGetN (K : PySem.W.Frag) : V → V → Hp → VK → Prop := fun x y H Q => ∃ p xs i v, x = .ref p ∧ y = .int i ∧ SqL K H p xs ∧ 0 ≤ i ∧ xs[i.toNat]? = some v ∧ Q v H
theorem pget_list : PGet X (rGetN X.K) := by
  intro pins s σ H o i ov iv Q I ro ri h
  obtain ⟨p, xs, j, v, rfl, rfl, hq, h0, he, q⟩ := h
  cases ro
  obtain ⟨t, rfl⟩ := ri
  obtain ⟨its, r, pl, hz⟩ := I.list hq
  obtain ⟨u, eu, ru⟩ := r.get he
  have hl := (List.getElem?_eq_some_iff.mp he).1
  have hn := line63
  exact wpAny_getItem_list pl.isList h0 (by omega) (by simpa using eu) ⟨v, H, I, ru, q⟩
/-! ### sum of a tuple -/
def rSumT (K : PySem.W.Frag) : List V → Hp → VK → Prop := fun vs H Q => ∃ (a : Addr) (ns : List Int), vs = [V.ref a] ∧ SqT K H a (ns.map V.int) ∧ Q (.int ns.sum) H
theorem call_sumT (hc : X.calm = true) : CallR X (.builtin "sum") (rSumT X.K) := by
  intro pins s σ H vs us Q I r h
  obtain ⟨a, ns, rfl, hs, q⟩ := h
  obtain ⟨its, rv, ⟨o, ho, e1, n, e2⟩, _⟩ := I.tuple hs
  rw [Vals.ref1 r]
  have hi := rv.ints
  obtain ⟨xs, e⟩ := hi.allInts.items
  have hn : numsOf (intItems xs).toList = ns := by rw [← e]; exact hi.numsOf
  rw [nums_intItems] at hn
  refine PySem.W.ktm_sumG (xs := xs) (I.ok.hd hc) ?_ fun h' tk t' hk => ?_
  · rw [← e]
    exact ⟨o, ho, e1, n, e2⟩
  · rw [preSum_eq, List.take_of_length_le (by simp), hn]
    exact ⟨.int _, H, I.kept hk, ⟨_, rfl⟩, q⟩
/-! ### dict(d) -/
def rDictC : List V → Hp → VK → Prop := fun vs H Q => ∃ (a : Addr) (kvs : List (Key × V)), vs = [V.ref a] ∧ H a = some (.dK kvs) ∧ ∀ p, H p = none → Q (.ref p) (upd H p (.dK kvs))
theorem call_dictC : CallR X (.type "dict") rDictC := by
  intro pins s σ H vs us Q I r h
  obtain ⟨a, kvs, rfl, ha, q⟩ := h
  rw [Vals.ref1 r]
  obtain ⟨hz, hs, vs', hkv, hd⟩ := I.hok a _ ha
  have hl : vs'.length = kvs.length := (Paired.length hkv).symm
  refine PySem.kt_call_dict (knd := mixKind X.prog X.w) hs hd (by rw [hl]; exact hz) fun h' hn hb => ?_
  have hp : H s.heap.objs.size = none := I.hok.fresh (Nat.le_refl _)
  have k : ∀ b o, s.heap.get? b = some o → h'.get? b = some o := fun b o e => (hb.2 b (Nat.ne_of_lt (Heap.lt_size e))).trans (Heap.get?_push_of_some _ e)
  refine ⟨.ref s.heap.objs.size, _, I.laid (t' := s.toks) (a := s.heap.objs.size) (o := .dK kvs) k (Nat.le_refl _) ⟨hz, ?_, vs', hkv, hn⟩, rfl, q _ hp⟩
  have z := I.big
  exact beq_eq_false_iff_ne.mpr (Nat.ne_of_gt z)
/-! ### xs.count(y), flat items -/
theorem cnt_eqU {x : V} : ∀ {xs : List V} {us : List Value}, Vals xs us → xs.all flatV = true → us.countP (eqU x) = xs.countP fun y => eqV y x
  | _, _, .nil, _ => rfl
  | y :: xs, u :: us, .cons r t, h => by
    rw [List.all_cons, Bool.and_eq_true] at h
    rw [List.countP_cons, List.countP_cons, cnt_eqU t h.2, eqU_of r h.1]
def rCntF (K : PySem.W.Frag) : V → List V → Hp → VK → Prop := fun x xs H Q => ∃ (p : Addr) (ys : List V) (y : V), x = .ref p ∧ xs = [y] ∧ SqL K H p ys ∧ flatV y = true ∧ ys.all flatV = true ∧ Q (.int (ys.countP (fun z => eqV z y) : Nat)) H
theorem mt_countF : MtR X "list.count" (rCntF X.K) := by
  intro pins s σ H x xs v us Q I rx rxs h
  obtain ⟨p, ys, y, rfl, rfl, hs, fy, fys, q⟩ := h
  cases rx
  obtain ⟨u, rfl, ru⟩ := rxs.one
  obtain ⟨its, rv, ⟨⟨cls, dd, data, sl⟩, n, ho, hc, hdn, hd⟩, hlen⟩ := I.list hs
  simp only at hc hd
  subst hc hd
  refine call_meets PySem.F.slot_list_count ⟨_, ho, rfl⟩ PySem.F.entry_list_count (PySem.F.args_list_count_2 _ _)
    (SeqAt.list_countAt p its.toArray n dd sl u (eqU y)) ⟨ho, fun u' hu' => mem_eqAt ru fy rv fys u' (by simpa using hu'), ?_⟩
  have ec : its.toArray.toList.countP (eqU y) = ys.countP (fun z => eqV z y) := cnt_eqU rv fys
  refine ⟨.int (ys.countP (fun z => eqV z y) : Nat), H, I.tok _, ⟨s.toks, ?_⟩, q⟩
  rw [ec]
end
/-! ### data, read -/
section
variable {K : PySem.W.Frag} {H H' : Hp}
mutual
theorem Dp.mono (e : Same H H') : ∀ {v : V} {d : PyData}, Dp K H v d → Dp K H' v d
  | _, _, .non => .non
  | _, _, .bl b => .bl b
  | _, _, .int i => .int i
  | _, _, .str x => .str x
  | _, _, .lst h a => .lst (e.seq h) (DpAll.mono e a)
  | _, _, .tup h a => .tup (h.imp (fun r => r.imp (fun z => e _ _ z) fun ⟨o, z⟩ => ⟨o, e _ _ z⟩) id) (DpAll.mono e a)
theorem DpAll.mono (e : Same H H') : ∀ {vs : List V} {ds : List PyData}, DpAll K H vs ds → DpAll K H' vs ds
  | _, _, .nil => .nil
  | _, _, .cons h t => .cons (Dp.mono e h) (DpAll.mono e t)
end
theorem DpAll.get : ∀ {vs : List V} {ds : List PyData} {i : Nat} {d : PyData}, DpAll K H vs ds → ds[i]? = some d → ∃ v, vs[i]? = some v ∧ Dp K H v d
  | _, _, 0, d, .cons h t, e => by
    cases e
    exact ⟨_, rfl, h⟩
  | _, _, i + 1, d, .cons h t, e => by
    obtain ⟨v, a, b⟩ := DpAll.get (i := i) t (by simpa using e)
    exact ⟨v, by simpa using a, b⟩
theorem DpAll.getV : ∀ {vs : List V} {ds : List PyData} {i : Nat} {v : V}, DpAll K H vs ds → vs[i]? = some v → ∃ d, ds[i]? = some d ∧ Dp K H v d
  | _, _, 0, d, .cons h t, e => by
    cases e
    exact ⟨_, rfl, h⟩
  | _, _, i + 1, d, .cons h t, e => by
    obtain ⟨v, a, b⟩ := DpAll.getV (i := i) t (by simpa using e)
    exact ⟨v, by simpa using a, b⟩
theorem DpAll.length : ∀ {vs : List V} {ds : List PyData}, DpAll K H vs ds → vs.length = ds.length
  | _, _, .nil => rfl
  | _, _, .cons h t => by rw [List.length_cons, List.length_cons, DpAll.length t]
theorem DpAll.append : ∀ {vs ws : List V} {ds es : List PyData}, DpAll K H vs ds → DpAll K H ws es → DpAll K H (vs ++ ws) (ds ++ es)
  | _, _, _, _, .nil, s => s
  | _, _, _, _, .cons h t, s => .cons h (DpAll.append t s)
theorem DpAll.ints : ∀ (ns : List Int), DpAll K H (ns.map V.int) (ns.map PyData.int)
  | [] => .nil
  | n :: ns => .cons (.int n) (DpAll.ints ns)
theorem DpAll.ints_inv : ∀ {ns : List Int} {vs : List V}, DpAll K H vs (ns.map PyData.int) → vs = ns.map V.int
  | [], _, h => by cases h; rfl
  | n :: ns, _, h => by
    cases h with
    | cons a b =>
      cases a
      rw [DpAll.ints_inv b]
      rfl
end
/-! ### min of triples of ints -/
def t3 (p : Int × Int × Int) : PyData := .tuple [.int p.1, .int p.2.1, .int p.2.2]
def lt3 (p q : Int × Int × Int) : Prop := p.1 < q.1 ∨ (p.1 = q.1 ∧ (p.2.1 < q.2.1 ∨ (p.2.1 = q.2.1 ∧ p.2.2 < q.2.2)))
instance (p q : Int × Int × Int) : Decidable (lt3 p q) := by unfold lt3; infer_instance
def min3 (p : Int × Int × Int) (ps : List (Int × Int × Int)) : Int × Int × Int := ps.foldl (fun a y => if lt3 y a then y else a) p
theorem dataLt3 (p q : Int × Int × Int) : PySem.W.dataLt (t3 p) (t3 q) = decide (lt3 p q) := by
  unfold t3
  rw [PySem.W.dataLt_tuple, PySem.W.dataLt_cons (by simp [PySem.W.alike]), PySem.W.dataLt_cons (by simp [PySem.W.alike]), PySem.W.dataLt_cons (by simp [PySem.W.alike])]
  have e : PyProof.Rows.lexLt PyProof.Rows.itemOrd (PySem.W.keyToksAll []) (PySem.W.keyToksAll []) = false := PyProof.Rows.lex_irrefl _
  rw [e]
  simp only [PyData.eqv, beq_iff_eq, PySem.W.dataLt_int]
  unfold lt3
  obtain ⟨a, b, c⟩ := p
  obtain ⟨a', b', c'⟩ := q
  simp only
  by_cases h1 : a = a' <;> by_cases h2 : b = b' <;> by_cases h3 : c = c' <;> simp [h1, h2, h3]
theorem minD3 : ∀ (ps : List (Int × Int × Int)) (p : Int × Int × Int), PySem.W.minD (t3 p) (ps.map t3) = t3 (min3 p ps)
  | [], p => rfl
  | q :: ps, p => by
    have ih := minD3 ps (if lt3 q p then q else p)
    unfold PySem.W.minD min3 at ih ⊢
    rw [List.map_cons, List.foldl_cons, List.foldl_cons, dataLt3, ← ih]
    by_cases h : lt3 q p
    · rw [if_pos h, if_pos (decide_eq_true h)]
    · rw [if_neg h, if_neg (by simpa using h)]
def rMinT (K : PySem.W.Frag) : List V → Hp → VK → Prop := fun vs H Q => ∃ (a : Addr) (xs : List V) (p : Int × Int × Int) (ps : List (Int × Int × Int)), vs = [V.ref a] ∧ SqL K H a xs ∧ DpAll K H xs ((p :: ps).map t3) ∧
  ∀ v, Dp K H v (t3 (min3 p ps)) → Q v H
theorem depth3 : ∀ ps : List (Int × Int × Int), PyData.depthAll (ps.map t3) ≤ 1
  | [] => Nat.zero_le _
  | p :: ps => by
    have ih := depth3 ps
    have e : (t3 p).depth = 1 := by simp [t3, PyData.depth, PyData.depthAll]
    rw [List.map_cons, PyData.depthAll, e]
    omega
theorem call_minT {X : Cx} (hc : X.calm = true) (hu : X.A.units + 64 < cLine) : CallR X (.builtin "min") (rMinT X.K) := by
  intro pins s σ H vs us Q I r h
  obtain ⟨a, xs, p, ps, rfl, hs, hd, q⟩ := h
  rw [Vals.ref1 r]
  obtain ⟨its, rv, hl, _⟩ := I.list hs
  obtain ⟨as, hr⟩ := Dp.readsAll I _ _ _ hd rv
  have al : PySem.W.AlikeAll ((p :: ps).map t3) := by
    refine ⟨fun x hx y hy => ?_, fun x hx => ?_⟩
    · obtain ⟨u, _, rfl⟩ := List.mem_map.mp hx
      obtain ⟨w, _, rfl⟩ := List.mem_map.mp hy
      simp [t3, PySem.W.alike, PySem.W.alikeAll]
    · obtain ⟨u, _, rfl⟩ := List.mem_map.mp hx
      intro z
      cases z
  have dp := depth3 (p :: ps)
  refine PySem.W.min_list_data (I.ok.hd hc) hl.isList hr al (by have e : (List.map t3 (p :: ps)) = t3 p :: List.map t3 ps := rfl; rw [e] at dp; omega) fun i v h' tk bs hi hv hk => ?_
  rw [minD3] at hv
  obtain ⟨x, hx, rx⟩ : ∃ x, xs[i]? = some x ∧ RelV x v := by
    cases e : xs[i]? with
    | none =>
      have z := rv.none_of e
      rw [show its[i]? = some v from by simpa using hi] at z
      cases z
    | some x =>
      obtain ⟨u, hu, ru⟩ := rv.get e
      rw [show its[i]? = some v from by simpa using hi] at hu
      cases hu
      exact ⟨x, rfl, ru⟩
  obtain ⟨d, ed, hdx⟩ := DpAll.getV hd hx
  obtain ⟨cs, rd⟩ := Dp.reads I d x v hdx rx
  have eq := (Reads.unique (Reads.keeps hk rd) _ _ hv).1
  rw [eq] at hdx
  exact ⟨x, H, I.kept hk, rx, q x hdx⟩
end Tr
end
section
set_option Elab.async false
set_option linter.all false
set_option maxRecDepth 100000
set_option maxHeartbeats 4000000
namespace Tr
open PySem PySem.Spec PyProof.Rows L2
/-! ### enumerate(t), t a tuple -/
set_option maxHeartbeats 1000000 in
theorem meets_enum1 {v : Value} {o : Obj} {H : Heap → Prop} (B : Begins v o H) :
    Meets (Builtin.«enumerate.__new__» ⟨[.type "enumerate", v], []⟩) (fun _ R s => H s.heap ∧
      R (.ok (.ret (.ref (s.heap.push o).objs.size))) { s with heap := (s.heap.push o).push { cls := .type "enumerate", data := .fields #[.none, .bool false, .ref s.heap.objs.size, rawInt 0, .none, .none] } }) :=
  .of_wp fun prog w A R s h => by
    obtain ⟨hp, g, d, tk, os⟩ := s
    obtain ⟨h1, h⟩ := h
    have hsub := sub_enumerate
    have q1 : ∀ {A' : Around} {E : Value → Shared → Prop} {Q : Value → Shared → Prop}, Q (.ref hp.objs.size) ⟨hp.push o, g, d, tk, os⟩ → wpAny (model prog w) A' (pyIter v) Q E ⟨hp, g, d, tk, os⟩ :=
      fun q => B.iter prog w _ _ ⟨hp, g, d, tk, os⟩ _ h1 q
    wp_walk using q1
    refine wpAny_stack_any fun st => wpAny_pure ?_
    split
    · rename_i c _ _ _ _ _
      cases (c == Value.type "enumerate")
      · wp_walk using q1
        exact ⟨_, rfl, h⟩
      · wp_walk using q1
        exact ⟨_, rfl, h⟩
    · wp_walk using q1
      exact ⟨_, rfl, h⟩
theorem enum1 {prog : Program} {w : World} {A : Around} {E : Value → Shared → Prop} {s : Shared} {v : Value} {o : Obj} {H : Heap → Prop} {Q : Value → Shared → Prop} (B : Begins v o H) (h1 : H s.heap)
    (h : ∀ h', IsEnum h' (s.heap.objs.size + 1) s.heap.objs.size 0 .none → h'.get? s.heap.objs.size = some o → h'.objs.size = s.heap.objs.size + 2 →
      (∀ b o, s.heap.get? b = some o → h'.get? b = some o) → Q (.ref (s.heap.objs.size + 1)) { s with heap := h' }) :
    wpAny (model prog w) A (call (.type "enumerate") [v]) Q E s := by
  refine callType_new F.called_enumerate (by decide) (F.typeCall_enumerate_1 _) (F.newCall_enumerate_1 _) (fun obj => F.args_object_init_2 obj _) F.entry_enumerate_new
    (meets_enum1 B) ⟨h1, ?_⟩
  have hz : (s.heap.push o).objs.size = s.heap.objs.size + 1 := Heap.size_push ..
  show _ ∧ _
  rw [hz]
  have he : IsEnum ((s.heap.push o).push { cls := .type "enumerate", data := .fields #[.none, .bool false, .ref s.heap.objs.size, rawInt 0, .none, .none] }) (s.heap.objs.size + 1) s.heap.objs.size 0 .none := by
    have z := Heap.get?_push_size (s.heap.push o) (o := { cls := .type "enumerate", data := .fields #[.none, .bool false, .ref s.heap.objs.size, rawInt 0, .none, .none] }) rfl
    rw [hz] at z
    exact z
  refine ⟨⟨_, he, rfl⟩, h _ he (Heap.get?_push_of_some _ (Heap.get?_push_size _ B.free)) (by rw [Heap.size_push, hz]) fun b o x => Heap.get?_push_of_some _ (Heap.get?_push_of_some _ x)⟩
/-- the tuple at a, each item in a new pair -/
def IteT (K : PySem.W.Frag) (a : Addr) : It :=
  ⟨fun i H => ∃ (xs : List V) (x : V), SqT K H a xs ∧ xs[i]? = some x, fun i H v H' => ∃ T x, v = .ref T ∧ H T = none ∧ H' = upd H T (.tup [.int (i : Nat), x]) ∧ ∀ xs, SqT K H a xs → xs[i]? = some x, fun i H => ∃ xs : List V, SqT K H a xs ∧ xs.length = i⟩
theorem turn_enumT {P : Program} {w : World} {K : PySem.W.Frag} {elts : List Expr} {kk : Nat} {tpos : Pos} (a e it : Addr) (hai : a ≠ it) :
    Turn P w K (.Tuple elts kk tpos) (IteT K a) [e, it] e (fun i h => (∃ old, IsEnum h e it ((i : Nat) : Int) old) ∧ h.IsTupleIter it a i ∧ e ≠ it ∧ e ≠ a) where
  mem := by simp
  obj := fun i h st b hb => by
    obtain ⟨⟨old, he⟩, ⟨o, ho, hc, hd⟩, _⟩ := st
    have e' : b = e ∨ b = it := by simpa using hb
    rcases e' with z | z
    · rw [z]; exact ⟨_, he, fun v q => nomatch q⟩
    · rw [z]; exact ⟨o, ho, fun v q => by rw [hd] at q; cases q⟩
  keep := fun i h h' st k => let ⟨⟨old, he⟩, hi, hne⟩ := st; ⟨⟨old, k e (by simp) _ he⟩, hi.at fun o q => k it (by simp) o q, hne⟩
  item := by
    intro X hP hw hK hc i pins s σ H E I hf st hg
    subst hP hw hK
    obtain ⟨⟨old, he⟩, hit, hne, hea⟩ := st
    obtain ⟨xs, x, hq, hx⟩ := hg
    obtain ⟨its, rv, p, hz⟩ := I.tuple hq
    obtain ⟨u, hu, ru⟩ := rv.get hx
    have hel : e < s.heap.objs.size := Heap.lt_size he
    have hil : it < s.heap.objs.size := by obtain ⟨_, q, _⟩ := hit; exact Heap.lt_size q
    have hlt : i < its.toArray.size := by
      have z := (List.getElem?_eq_some_iff.mp hu).1
      simpa using z
    have D := Draws.tuple (prog := X.prog) (w := X.w) (A := X.A.in1) (I.ok.hd hc) it a hai its.toArray
    refine wpAny_pyNext_enum_itemC D he ⟨hit, p⟩ hlt hne (by simp [hne, hea]) fun x' h' tk hP ho hst hT hsz hk => ?_
    obtain rfl : x' = u := by
      have z : its.toArray[i]? = some u := by simpa using hu
      rw [hP] at z
      exact Option.some.inj z
    refine ⟨_, rfl, wpAny_letOwnedTupleGo_enum (s := { s with heap := h', toks := tk + 1 }) ho fun h'' he' sb => ?_⟩
    have hT2 : h''.get? s.heap.objs.size = some { cls := .type "tuple", data := .seq #[.int i tk, x'] } := (sb.2 _ (Nat.ne_of_gt hel)).trans hT
    have new : ObjOk X.prog X.w (upd H s.heap.objs.size (.tup [.int (i : Nat), x])) h'' s.heap.objs.size (.tup [.int (i : Nat), x]) :=
      ⟨by show 2 ≤ sizeLine; decide, [.int i tk, x'], .cons ⟨_, rfl⟩ (.cons ru .nil), ⟨_, hT2, rfl, _, rfl⟩⟩
    have I1 : Inv X pins σ (upd H s.heap.objs.size (.tup [.int (i : Nat), x])) { s with heap := h'', toks := tk + 1 } :=
      I.turnedNew (ch := [e, it]) (fun b ob hb q => (sb.2 b (fun z => hb (by simp [z]))).trans (hk b ob (fun z => hb (by simp [z])) (fun z => hb (by simp [z])) q)) hf (Nat.le_refl _) new
    refine ⟨.ref s.heap.objs.size, _, I1, rfl, ⟨_, x, rfl, I.hok.fresh (Nat.le_refl _), rfl, fun ys hy => by rw [I.tuple_inj hy hq]; exact hx⟩, ⟨⟨x', ?_⟩, hst.1.at fun o q => (sb.2 it (Ne.symm hne)).trans q, hne, hea⟩, fun b hb => ?_⟩
    · have e1 : ((i + 1 : Nat) : Int) = (i : Int) + 1 := by omega
      rw [e1]; exact he'
    · have hb' : b < s.heap.objs.size := by
        have e' : b = e ∨ b = it := by simpa using hb
        rcases e' with z | z
        · rw [z]; exact hel
        · rw [z]; exact hil
      rw [upd_ne (Nat.ne_of_lt hb')]
      exact (hf b hb).1
  done := by
    intro X hP hw hK hc i pins s σ H E I hf st hg
    subst hP hw hK
    obtain ⟨⟨old, he⟩, hit, hne, hea⟩ := st
    obtain ⟨xs, hq, hx⟩ := hg
    obtain ⟨its, rv, p, hz⟩ := I.tuple hq
    obtain ⟨f0, f1, f2, f3, f4, f5⟩ := hf it (by simp)
    have hl := rv.length
    have D := Draws.tuple (prog := X.prog) (w := X.w) (A := X.A.in1) (I.ok.hd hc) it a hai its.toArray
    have hn : its.toArray.size = i := by simp; omega
    rw [hn] at D
    exact wpAny_pyNext_enum_endD D he ⟨hit, p⟩ fun h' eb => ⟨rfl, I.turned (t' := s.toks) (fun b o hb q => eb b o hb q) f0 f1 f3 f4 f5⟩
  self := fun A i s Q E st h => let ⟨⟨_, he⟩, _⟩ := st; wpAny_pyIter_enum he h
def iEnumT (K : PySem.W.Frag) (ta : TA) : TI := fun σ H R => ta σ H fun vs H1 => ∃ a xs, vs = [.ref a] ∧ SqT K H1 a xs ∧ R (IteT K a) H1
theorem pi_enumT {X : Cx} {e : Expr} {ta : TA} {p pos tpos : Pos} {elts : List Expr} {kk : Nat} (hg : Gl X "enumerate") (hm : X.mg "enumerate" = none) (ha : PA X [e] ta) (hs : starEach [e] X.env = [(false, eval e X.env)] := by rfl) :
    PI X (.Tuple elts kk tpos) (.Call (.Name "enumerate" p) [e] [] pos) (iEnumT X.K ta) := by
  refine ⟨fun pins s σ H R I h => ?_⟩
  refine Call_ (ld_blt I hg hm boot_enumerate (PyProof.Rows.callWith_type1 (thn (ha.run pos pins s σ H _ I h) fun us s1 ⟨vs, H1, I1, r1, q1⟩ => ?_) hs rfl))
  obtain ⟨a, xs, ex, hq, q⟩ := q1
  subst ex
  cases r1 with
  | cons r rr =>
    cases rr
    cases r
    obtain ⟨its, rv, p', hz⟩ := I1.tuple hq
    have hal : a < s1.heap.objs.size := by obtain ⟨_, z, _⟩ := p'; exact Heap.lt_size z
    refine enum1 (begins_tuple a its.toArray) p' fun h' he hit hsz hk => wpAny_pyIter_enum he ?_
    have I2 : Inv X pins σ H1 { s1 with heap := h' } := I1.kept (t' := s1.toks) hk
    refine ⟨s1.heap.objs.size + 1, [s1.heap.objs.size + 1, s1.heap.objs.size], _, _, H1, rfl, I2, turn_enumT a (s1.heap.objs.size + 1) s1.heap.objs.size (Nat.ne_of_lt hal),
      ⟨⟨.none, he⟩, ⟨_, hit, rfl, rfl⟩, Nat.succ_ne_self _, Nat.ne_of_gt (Nat.lt_succ_of_lt hal)⟩, fun b hb => ?_, q⟩
    have e' : b = s1.heap.objs.size + 1 ∨ b = s1.heap.objs.size := by simpa using hb
    have hle : s1.heap.objs.size ≤ b := by
      rcases e' with z | z
      · rw [z]; exact Nat.le_add_right _ _
      · rw [z]; exact Nat.le_refl _
    exact I1.fpOk hle (I1.hok.fresh hle)
end Tr
end
section
set_option Elab.async false
set_option linter.all false
set_option maxRecDepth 100000
set_option maxHeartbeats 4000000
namespace Tr
open PySem PySem.Spec PyProof.Rows L2
/-! ### tests -/
theorem iteD {p : Prop} [Decidable p] {A B : Prop} (h1 : p → A) (h2 : ¬ p → B) : if decide p = true then A else B := by
  by_cases c : p
  · rw [if_pos (decide_eq_true c)]; exact h1 c
  · rw [if_neg (by simpa using c)]; exact h2 c
theorem iteN {p : Prop} [Decidable p] {A B : Prop} (h1 : ¬ p → A) (h2 : p → B) : if (!decide p) = true then A else B := by
  by_cases c : p
  · rw [if_neg (by simpa using c)]; exact h2 c
  · rw [if_pos (by simpa using c)]; exact h1 c
theorem iteB {b : Bool} {A B : Prop} (h1 : b = true → A) (h2 : b = false → B) : if b = true then A else B := by
  cases b
  · exact h2 rfl
  · exact h1 rfl
theorem iteY {b : Bool} {A B : Prop} (h : b = true) (a : A) : if b = true then A else B := by rw [if_pos h]; exact a
theorem iteZ {b : Bool} {A B : Prop} (h : b = false) (a : B) : if b = true then A else B := by rw [h]; exact a
/-! ### heaps -/
theorem _root_.L2.Same.new {H : Hp} {p : Addr} {o : HO} (h : H p = none) : Same H (upd H p o) := fun b u e => by
  rw [upd_ne (ne_of_none e h)]
  exact e
/-- an object that H does not know may change -/
theorem _root_.L2.Same.mut {H H' : Hp} {p : Addr} {o : HO} (e : Same H H') (h : H p = none) : Same H (upd H' p o) := fun b u q => by
  rw [upd_ne (ne_of_none q h)]
  exact e _ _ q
/-- all but l stands -/
def Kp (l : Addr) (H H' : Hp) : Prop := ∀ b o, b ≠ l → H b = some o → H' b = some o
theorem Kp.refl {l : Addr} {H : Hp} : Kp l H H := fun _ _ _ e => e
theorem Kp.trans {l : Addr} {H H1 H2 : Hp} (a : Kp l H H1) (b : Kp l H1 H2) : Kp l H H2 := fun c o n e => b c o n (a c o n e)
theorem Kp.of {l : Addr} {H H' : Hp} (s : Same H H') : Kp l H H' := fun b o _ e => s b o e
theorem Kp.upd {l : Addr} {H : Hp} {o : HO} : Kp l H (upd H l o) := fun b u n e => by
  rw [upd_ne n]
  exact e
theorem Kp.same {l : Addr} {B H H' : Hp} (k : Kp l H H') (s : Same B H) (n : B l = none) : Same B H' := fun b o e => k b o (ne_of_none e n) (s b o e)
/-- the tuples stand -/
def Tups (H H' : Hp) : Prop := ∀ a xs, H a = some (.tup xs) → H' a = some (.tup xs)
theorem Tups.refl {H : Hp} : Tups H H := fun _ _ e => e
theorem Tups.trans {H H1 H2 : Hp} (a : Tups H H1) (b : Tups H1 H2) : Tups H H2 := fun c o e => b c o (a c o e)
theorem _root_.L2.Same.tups {H H' : Hp} (s : Same H H') : Tups H H' := fun a xs e => s a _ e
theorem Kp.tups {l : Addr} {H H' : Hp} {xs : List V} (k : Kp l H H') (h : H l = some (.lst xs)) : Tups H H' := fun a ys e => k a _ (ne_of e h (fun z => by cases z)) e
theorem Kp.tupsI {l C dx : Addr} {H H' : Hp} {fs : List (Str × V)} (k : Kp l H H') (h : H l = some (.ins C dx fs)) : Tups H H' := fun a ys e => k a _ (ne_of e h (fun z => by cases z)) e
theorem Kp.tupsN {l : Addr} {H H' : Hp} (k : Kp l H H') (h : H l = none) : Tups H H' := fun a ys e => k a _ (ne_of_none e h) e
/-! ### data of tuples and flat things -/
inductive TD (H : Hp) : V → PyData → Prop
  | non : TD H .non .none
  | bl (b : Bool) : TD H (.bl b) (.bool b)
  | int (i : Int) : TD H (.int i) (.int i)
  | str (x : Str) : TD H (.str x) (.str x)
  | tup {a : Addr} {xs : List V} {ds : List PyData} (h : H a = some (.tup xs)) (l : xs.length = ds.length) (all : ∀ (i : Nat) (x : V) (d : PyData), xs[i]? = some x → ds[i]? = some d → TD H x d) : TD H (.ref a) (.tuple ds)
/-- item by item -/
def TDs (H : Hp) (xs : List V) (ds : List PyData) : Prop := xs.length = ds.length ∧ ∀ (i : Nat) (x : V) (d : PyData), xs[i]? = some x → ds[i]? = some d → TD H x d
section
variable {K : PySem.W.Frag} {H H' : Hp}
theorem TD.mono (e : Tups H H') {v : V} {d : PyData} (t : TD H v d) : TD H' v d := by
  induction t with
  | non => exact .non
  | bl b => exact .bl b
  | int i => exact .int i
  | str x => exact .str x
  | tup h l all ih => exact .tup (e _ _ h) l ih
theorem TDs.mono (e : Tups H H') {vs : List V} {ds : List PyData} (t : TDs H vs ds) : TDs H' vs ds := ⟨t.1, fun i x d a b => (t.2 i x d a b).mono e⟩
theorem TDs.nil : TDs H [] [] := ⟨rfl, fun i x d a _ => by simp at a⟩
theorem TDs.cons {v : V} {vs : List V} {d : PyData} {ds : List PyData} (t : TD H v d) (ts : TDs H vs ds) : TDs H (v :: vs) (d :: ds) := by
  refine ⟨by rw [List.length_cons, List.length_cons, ts.1], fun i x e a b => ?_⟩
  cases i with
  | zero =>
    cases a
    cases b
    exact t
  | succ i => exact ts.2 i x e (by simpa using a) (by simpa using b)
theorem TDs.head {v : V} {vs : List V} {d : PyData} {ds : List PyData} (t : TDs H (v :: vs) (d :: ds)) : TD H v d := t.2 0 v d rfl rfl
theorem TDs.tail {v : V} {vs : List V} {d : PyData} {ds : List PyData} (t : TDs H (v :: vs) (d :: ds)) : TDs H vs ds := by
  refine ⟨by simpa using t.1, fun i x e a b => t.2 (i + 1) x e (by simpa using a) (by simpa using b)⟩
theorem TDs.append {vs ws : List V} {ds es : List PyData} (a : TDs H vs ds) (b : TDs H ws es) : TDs H (vs ++ ws) (ds ++ es) := by
  refine ⟨by rw [List.length_append, List.length_append, a.1, b.1], fun i x d ex ed => ?_⟩
  by_cases c : i < vs.length
  · rw [List.getElem?_append_left c] at ex
    rw [List.getElem?_append_left (by rw [← a.1]; exact c)] at ed
    exact a.2 i x d ex ed
  · rw [List.getElem?_append_right (by omega)] at ex
    rw [List.getElem?_append_right (by rw [← a.1]; omega), ← a.1] at ed
    exact b.2 _ x d ex ed
theorem TDs.snoc {vs : List V} {ds : List PyData} {v : V} {d : PyData} (a : TDs H vs ds) (t : TD H v d) : TDs H (vs ++ [v]) (ds ++ [d]) := a.append (.cons t .nil)
theorem TDs.ints : ∀ (ns : List Int), TDs H (ns.map V.int) (ns.map PyData.int)
  | [] => .nil
  | n :: ns => .cons (.int n) (TDs.ints ns)
theorem TDs.inv_ints : ∀ {ns : List Int} {vs : List V}, TDs H vs (ns.map PyData.int) → vs = ns.map V.int
  | [], [], _ => rfl
  | [], v :: vs, h => by have z := h.1; simp at z
  | n :: ns, [], h => by have z := h.1; simp at z
  | n :: ns, v :: vs, h => by
    have a := h.head
    have b := TDs.inv_ints h.tail
    cases a
    rw [b]
    rfl
theorem TDs.get {vs : List V} {ds : List PyData} (t : TDs H vs ds) {i : Nat} {d : PyData} (e : ds[i]? = some d) : ∃ v, vs[i]? = some v ∧ TD H v d := by
  have h := (List.getElem?_eq_some_iff.mp e).1
  have h2 : i < vs.length := by rw [t.1]; exact h
  exact ⟨vs[i], List.getElem?_eq_getElem h2, t.2 i _ d (List.getElem?_eq_getElem h2) e⟩
theorem TDs.getV {vs : List V} {ds : List PyData} (t : TDs H vs ds) {i : Nat} {v : V} (e : vs[i]? = some v) : ∃ d, ds[i]? = some d ∧ TD H v d := by
  have h := (List.getElem?_eq_some_iff.mp e).1
  have h2 : i < ds.length := by rw [← t.1]; exact h
  exact ⟨ds[i], List.getElem?_eq_getElem h2, t.2 i v _ e (List.getElem?_eq_getElem h2)⟩
theorem TD.mk {a : Addr} {xs : List V} {ds : List PyData} (h : H a = some (.tup xs)) (t : TDs H xs ds) : TD H (.ref a) (.tuple ds) := .tup h t.1 t.2
theorem TD.un {v : V} {ds : List PyData} (t : TD H v (.tuple ds)) : ∃ a xs, v = .ref a ∧ H a = some (.tup xs) ∧ TDs H xs ds := by
  cases t with
  | tup h l all => exact ⟨_, _, rfl, h, l, all⟩
theorem TD.i {v : V} {i : Int} (t : TD H v (.int i)) : v = .int i := by cases t; rfl
theorem dp_of : ∀ {vs : List V} {ds : List PyData}, (∀ (i : Nat) (x : V) (d : PyData), vs[i]? = some x → ds[i]? = some d → Dp K H x d) → vs.length = ds.length → DpAll K H vs ds
  | [], [], _, _ => .nil
  | v :: vs, d :: ds, h, l => .cons (h 0 v d rfl rfl) (dp_of (fun i x e a b => h (i + 1) x e (by simpa using a) (by simpa using b)) (by simpa using l))
  | [], _ :: _, _, l => by simp at l
  | _ :: _, [], _, l => by simp at l
theorem TD.dp {v : V} {d : PyData} (t : TD H v d) : Dp K H v d := by
  induction t with
  | non => exact .non
  | bl b => exact .bl b
  | int i => exact .int i
  | str x => exact .str x
  | tup h l all ih => exact .tup (SqT.of h) (dp_of ih l)
theorem TDs.dp {vs : List V} {ds : List PyData} (t : TDs H vs ds) : DpAll K H vs ds := dp_of (fun i x d a b => (t.2 i x d a b).dp) t.1
end
/-- a state -/
abbrev S := List Int × List Int
def tI (ns : List Int) : PyData := .tuple (ns.map .int)
def stD (s : S) : PyData := .tuple [tI s.1, tI s.2]
section
variable {K : PySem.W.Frag} {H H' : Hp}
theorem TD.ints {v : V} {ns : List Int} (t : TD H v (tI ns)) : ∃ a, v = .ref a ∧ H a = some (.tup (ns.map V.int)) := by
  obtain ⟨a, xs, e, h, q⟩ := TD.un t
  rw [TDs.inv_ints q] at h
  exact ⟨a, e, h⟩
theorem TD.ofInts {a : Addr} {ns : List Int} (h : H a = some (.tup (ns.map V.int))) : TD H (.ref a) (tI ns) := TD.mk h (TDs.ints ns)
theorem TD.st {v : V} {s : S} (t : TD H v (stD s)) : ∃ a b c, v = .ref a ∧ H a = some (.tup [.ref b, .ref c]) ∧ H b = some (.tup (s.1.map V.int)) ∧ H c = some (.tup (s.2.map V.int)) := by
  obtain ⟨a, xs, e, h, q⟩ := TD.un t
  have l := q.1
  match xs, l with
  | [x, y], _ =>
    obtain ⟨b, rfl, hb⟩ := TD.ints q.head
    obtain ⟨c, rfl, hc⟩ := TD.ints q.tail.head
    exact ⟨a, b, c, e, h, hb, hc⟩
theorem TD.ofSt {a b c : Addr} {s : S} (h : H a = some (.tup [.ref b, .ref c])) (hb : H b = some (.tup (s.1.map V.int))) (hc : H c = some (.tup (s.2.map V.int))) : TD H (.ref a) (stD s) :=
  TD.mk h (.cons (TD.ofInts hb) (.cons (TD.ofInts hc) .nil))
end
/-! ### targets of names -/
section
variable {K : PySem.W.Frag} {σ : L2.St} {H : Hp} {k : L2.St → Hp → Prop}
theorem gp2 {T : Addr} {x y : V} {i j : Nat} (h : H T = some (.tup [x, y])) (q : k ((σ.set i (some x)).set j (some y)) H) : gTup K 2 (gCons (gName i) (gCons (gName j) gNil)) (.ref T) σ H k :=
  ⟨T, [x, y], rfl, SqT.of h, rfl, x, [y], rfl, y, [], rfl, rfl, q⟩
theorem gp3 {T : Addr} {x y z : V} {i j l : Nat} (h : H T = some (.tup [x, y, z])) (q : k (((σ.set i (some x)).set j (some y)).set l (some z)) H) : gTup K 3 (gCons (gName i) (gCons (gName j) (gCons (gName l) gNil))) (.ref T) σ H k :=
  ⟨T, [x, y, z], rfl, SqT.of h, rfl, x, [y, z], rfl, y, [z], rfl, z, [], rfl, rfl, q⟩
end
/-! ### what is walked -/
/-- n turns; at turn i a value v with R i v, the heap as it is; S: what must stand -/
structure Sng (J : It) (n : Nat) (R : Nat → V → Prop) (S : Hp → Prop) : Prop where
  go : ∀ i H, i < n → S H → J.go i H
  stop : ∀ H, S H → J.stop n H
  yld : ∀ i H v H', i < n → S H → J.yld i H v H' → H' = H ∧ R i v
/-- n turns; at turn i a new pair -/
structure Prs (J : It) (n : Nat) (R : Nat → V → V → Prop) (S : Hp → Prop) : Prop where
  go : ∀ i H, i < n → S H → J.go i H
  stop : ∀ H, S H → J.stop n H
  yld : ∀ i H v H', i < n → S H → J.yld i H v H' → ∃ T x y, v = .ref T ∧ H T = none ∧ H' = upd H T (.tup [x, y]) ∧ R i x y
section
variable {K : PySem.W.Frag}
theorem sng_list {a : Addr} {xs : List V} : Sng (Itl K a) xs.length (fun i v => xs[i]? = some v) (fun H => SqL K H a xs) where
  go := fun i H hi h => ⟨xs, xs[i], h, List.getElem?_eq_getElem hi⟩
  stop := fun H h => ⟨xs, h, Nat.le_refl _⟩
  yld := fun i H v H' _ h y => ⟨y.1, y.2 xs h⟩
theorem sng_tup {a : Addr} {xs : List V} : Sng (Itt K a) xs.length (fun i v => xs[i]? = some v) (fun H => SqT K H a xs) where
  go := fun i H hi h => ⟨xs, xs[i], h, List.getElem?_eq_getElem hi⟩
  stop := fun H h => ⟨xs, h, Nat.le_refl _⟩
  yld := fun i H v H' _ h y => ⟨y.1, y.2 xs h⟩
theorem sng_range {lo : Int} {n : Nat} : Sng (Itr lo n) n (fun i v => v = .int (lo + (i : Nat))) (fun _ => True) where
  go := fun i H hi _ => hi
  stop := fun H _ => Nat.le_refl _
  yld := fun i H v H' _ _ y => y
theorem sng_rangeC {lo c : Int} {n : Nat} : Sng (Itc lo c n) n (fun i v => v = .int (lo + (i : Nat) * c)) (fun _ => True) where
  go := fun i H hi _ => hi
  stop := fun H _ => Nat.le_refl _
  yld := fun i H v H' _ _ y => y
theorem prs_enum {a : Addr} {xs : List V} : Prs (Ite K a) xs.length (fun i x y => x = .int (i : Nat) ∧ xs[i]? = some y) (fun H => SqL K H a xs) where
  go := fun i H hi h => ⟨xs, xs[i], h, List.getElem?_eq_getElem hi⟩
  stop := fun H h => ⟨xs, h, Nat.le_refl _⟩
  yld := fun i H v H' _ h ⟨T, x, a, b, c, d⟩ => ⟨T, _, x, a, b, c, rfl, d xs h⟩
theorem prs_enumT {a : Addr} {xs : List V} : Prs (IteT K a) xs.length (fun i x y => x = .int (i : Nat) ∧ xs[i]? = some y) (fun H => SqT K H a xs) where
  go := fun i H hi h => ⟨xs, xs[i], h, List.getElem?_eq_getElem hi⟩
  stop := fun H h => ⟨xs, h, rfl⟩
  yld := fun i H v H' _ h ⟨T, x, a, b, c, d⟩ => ⟨T, _, x, a, b, c, rfl, d xs h⟩
theorem prs_zip {a b : Addr} {xs ys : List V} (hl : xs.length = ys.length) : Prs (Itz K a b) xs.length (fun i x y => xs[i]? = some x ∧ ys[i]? = some y) (fun H => SqL K H a xs ∧ SqL K H b ys) where
  go := fun i H hi h => ⟨xs, ys, xs[i], ys[i]'(by omega), h.1, h.2, List.getElem?_eq_getElem hi, List.getElem?_eq_getElem _⟩
  stop := fun H h => ⟨xs, ys, h.1, h.2, .inl (Nat.le_refl _)⟩
  yld := fun i H v H' _ h ⟨T, x, y, a, b, c, d, e⟩ => ⟨T, x, y, a, b, c, d xs h.1, e ys h.2⟩
theorem prs_zipT {a b : Addr} {xs ys : List V} (hl : xs.length = ys.length) : Prs (RZ.ItzT K a b) xs.length (fun i x y => xs[i]? = some x ∧ ys[i]? = some y) (fun H => SqT K H a xs ∧ SqT K H b ys) where
  go := fun i H hi h => ⟨xs, ys, xs[i], ys[i]'(by omega), h.1, h.2, List.getElem?_eq_getElem hi, List.getElem?_eq_getElem _⟩
  stop := fun H h => ⟨xs, ys, h.1, h.2, .inl (Nat.le_refl _)⟩
  yld := fun i H v H' _ h ⟨T, x, y, a, b, c, d, e⟩ => ⟨T, x, y, a, b, c, d xs h.1, e ys h.2⟩
theorem prs_items {d : Addr} {o : Obj} {kvs : List (Key × V)} : Prs (Iti d o kvs) kvs.length (fun i x y => ∃ k, kvs[i]? = some (k, y) ∧ x = kV k) (fun H => H d = some (.frz o (.dK kvs))) where
  go := fun i H hi h => ⟨h, hi⟩
  stop := fun H h => ⟨h, Nat.le_refl _⟩
  yld := fun i H v H' _ h ⟨T, k, v', a, b, c, e⟩ => ⟨T, _, v', b, c, e, k, a, rfl⟩
end
/-! ### loops -/
section
variable {J : It} {n : Nat} {S : Hp → Prop} {tb : TS} {D : Ends} {σ : L2.St} {H : Hp}
theorem for_sng {R : Nat → V → Prop} {g : TG} (P : Sng J n R S) (Pv : Nat → L2.St → Hp → Prop) (h0 : Pv 0 σ H) (hS : ∀ i σ H, i ≤ n → Pv i σ H → S H)
    (hs : ∀ i x σ H, i < n → R i x → Pv i σ H → g x σ H fun σ2 H2 => tb { D with nx := Pv (i + 1), ct := Pv (i + 1), bk := D.nx } σ2 H2) (hd : ∀ σ H, Pv n σ H → D.nx σ H) :
    ∃ W : Nat → Nat → L2.St → Hp → Prop, (∃ m, W 0 m σ H) ∧ ∀ i m σ H, W i m σ H →
      (J.stop i H ∧ D.nx σ H) ∨ (J.go i H ∧ ∃ N : L2.St → Hp → Prop, (∀ σ' H', N σ' H' → ∃ m', m' < m ∧ W (i + 1) m' σ' H') ∧ ∀ v H', J.yld i H v H' → g v σ H' fun σ2 H2 => tb { D with nx := N, ct := N, bk := D.nx } σ2 H2) := by
  refine ⟨fun i m σ H => m = n - i ∧ i ≤ n ∧ Pv i σ H, ⟨n, rfl, Nat.zero_le _, h0⟩, ?_⟩
  rintro i m σ H ⟨rfl, hi, p⟩
  have s := hS i σ H hi p
  by_cases hlt : i < n
  · refine .inr ⟨P.go i H hlt s, Pv (i + 1), fun σ' H' p' => ⟨n - (i + 1), by omega, rfl, hlt, p'⟩, fun v H' y => ?_⟩
    obtain ⟨rfl, r⟩ := P.yld i H v H' hlt s y
    exact hs i v σ H' hlt r p
  · have e : i = n := by omega
    subst e
    exact .inl ⟨P.stop H s, hd σ H p⟩
theorem for_prs {R : Nat → V → V → Prop} {K : PySem.W.Frag} {a b : Nat} (P : Prs J n R S) (Pv : Nat → L2.St → Hp → Prop) (h0 : Pv 0 σ H) (hS : ∀ i σ H, i ≤ n → Pv i σ H → S H)
    (hs : ∀ i x y σ H H', i < n → R i x y → Pv i σ H → Same H H' → tb { D with nx := Pv (i + 1), ct := Pv (i + 1), bk := D.nx } ((σ.set a (some x)).set b (some y)) H') (hd : ∀ σ H, Pv n σ H → D.nx σ H) :
    ∃ W : Nat → Nat → L2.St → Hp → Prop, (∃ m, W 0 m σ H) ∧ ∀ i m σ H, W i m σ H →
      (J.stop i H ∧ D.nx σ H) ∨ (J.go i H ∧ ∃ N : L2.St → Hp → Prop, (∀ σ' H', N σ' H' → ∃ m', m' < m ∧ W (i + 1) m' σ' H') ∧ ∀ v H', J.yld i H v H' → gTup K 2 (gCons (gName a) (gCons (gName b) gNil)) v σ H' fun σ2 H2 => tb { D with nx := N, ct := N, bk := D.nx } σ2 H2) := by
  refine ⟨fun i m σ H => m = n - i ∧ i ≤ n ∧ Pv i σ H, ⟨n, rfl, Nat.zero_le _, h0⟩, ?_⟩
  rintro i m σ H ⟨rfl, hi, p⟩
  have s := hS i σ H hi p
  by_cases hlt : i < n
  · refine .inr ⟨P.go i H hlt s, Pv (i + 1), fun σ' H' p' => ⟨n - (i + 1), by omega, rfl, hlt, p'⟩, fun v H' y => ?_⟩
    obtain ⟨T, x, y', rfl, hT, rfl, r⟩ := P.yld i H v H' hlt s y
    exact gp2 upd_same (hs i x y' σ H _ hlt r p (Same.new hT))
  · have e : i = n := by omega
    subst e
    exact .inl ⟨P.stop H s, hd σ H p⟩
end
/-! ### wiped slots -/
theorem wipe_get {σ : L2.St} {i : Nat} : ∀ {vs : List Nat}, (wipe σ vs)[i]? = if i ∈ vs then (σ[i]?).map (fun _ => none) else σ[i]?
  | [] => by simp [wipe]
  | v :: vs => by
    unfold wipe
    rw [List.getElem?_set, wipe_get (vs := vs), wipe_length]
    by_cases c : v = i
    · subst c
      rw [if_pos rfl, if_pos (List.mem_cons_self ..)]
      by_cases l : v < σ.length
      · rw [if_pos l, List.getElem?_eq_getElem l]; rfl
      · rw [if_neg l, List.getElem?_eq_none (by omega)]; rfl
    · rw [if_neg c]
      have e : (i ∈ v :: vs) ↔ i ∈ vs := by rw [List.mem_cons]; exact ⟨fun h => h.resolve_left fun z => c z.symm, .inr⟩
      by_cases m : i ∈ vs
      · rw [if_pos m, if_pos (e.mpr m)]
      · rw [if_neg m, if_neg fun z => m (e.mp z)]
theorem wipe_set {σ : L2.St} {a : Nat} {x : Option V} {vs : List Nat} (h : a ∈ vs) : wipe (σ.set a x) vs = wipe σ vs := by
  refine List.ext_getElem? fun i => ?_
  rw [wipe_get, wipe_get]
  by_cases m : i ∈ vs
  · rw [if_pos m, if_pos m, List.getElem?_set]
    by_cases c : a = i
    · subst c
      rw [if_pos rfl]
      by_cases l : a < σ.length
      · rw [if_pos l, List.getElem?_eq_getElem l]; rfl
      · rw [if_neg l, List.getElem?_eq_none (by omega)]
    · rw [if_neg c]
  · have c : ¬ a = i := fun c => m (by rw [← c]; exact h)
    rw [if_neg m, if_neg m, List.getElem?_set, if_neg c]
theorem wipe_wipe {σ : L2.St} {vs : List Nat} : wipe (wipe σ vs) vs = wipe σ vs := by
  refine List.ext_getElem? fun i => ?_
  rw [wipe_get, wipe_get]
  by_cases m : i ∈ vs
  · rw [if_pos m, if_pos m]
    cases σ[i]? <;> rfl
  · rw [if_neg m, if_neg m]
theorem wipe1 {σ : L2.St} {vs : List Nat} {a : Nat} {x : Option V} (h : a ∈ vs) : wipe ((wipe σ vs).set a x) vs = wipe σ vs := by rw [wipe_set h, wipe_wipe]
theorem wipe2 {σ : L2.St} {vs : List Nat} {a b : Nat} {x y : Option V} (h : a ∈ vs) (k : b ∈ vs) : wipe (((wipe σ vs).set a x).set b y) vs = wipe σ vs := by rw [wipe_set k, wipe1 h]
theorem wipe3 {σ : L2.St} {vs : List Nat} {a b c : Nat} {x y z : Option V} (h : a ∈ vs) (k : b ∈ vs) (l : c ∈ vs) : wipe ((((wipe σ vs).set a x).set b y).set c z) vs = wipe σ vs := by rw [wipe_set l, wipe2 h k]
/-! ### comprehensions whose items are data -/
section
variable {J : It} {n : Nat} {S : Hp → Prop} {tt : TT} {te : TE} {vs : List Nat} {σ : L2.St} {H1 : Hp} {D : Addr} {Qd : Hp → Prop}
/-- which turns give -/
def pick (p : Nat → Bool) (d : Nat → PyData) : Nat → List PyData
  | 0 => []
  | n + 1 => if p n = true then pick p d n ++ [d n] else pick p d n
theorem pick_len (p : Nat → Bool) (d : Nat → PyData) : ∀ n, (pick p d n).length ≤ n
  | 0 => Nat.le_refl _
  | n + 1 => by
    have ih := pick_len p d n
    unfold pick
    split
    · rw [List.length_append, List.length_singleton]; omega
    · omega
theorem pick_all {p : Nat → Bool} {d : Nat → PyData} : ∀ {n : Nat}, (∀ i, i < n → p i = true) → pick p d n = (List.range n).map d
  | 0, _ => rfl
  | n + 1, h => by
    unfold pick
    rw [if_pos (h n (Nat.lt_succ_self _)), pick_all fun i hi => h i (Nat.lt_succ_of_lt hi), List.range_succ, List.map_append]
    rfl
theorem pick_eq {p : Nat → Bool} {d : Nat → PyData} : ∀ {n : Nat}, pick p d n = ((List.range n).filter p).map d
  | 0 => rfl
  | n + 1 => by
    unfold pick
    rw [List.range_succ, List.filter_append, List.map_append, pick_eq]
    by_cases c : p n = true
    · rw [if_pos c]; simp [c]
    · rw [if_neg c]; simp [c]
def LcW (H1 : Hp) (p : Nat → Bool) (d : Nat → PyData) (D : Addr) (i : Nat) (H : Hp) : Prop := Same H1 H ∧ ∃ ys, H D = some (.lst ys) ∧ TDs H ys (pick p d i)
theorem lcw_step {p : Nat → Bool} {d : Nat → PyData} {D : Addr} {i : Nat} {σ2 : L2.St} {H H' : Hp} (hD : H1 D = none) (w : LcW H1 p d D i H) (s : Same H H') (hi : i < 100000)
    (ht : ∀ Q : Bool → Hp → Prop, (∀ H3, Same H' H3 → Q (p i) H3) → tt σ2 H' Q)
    (he : p i = true → ∀ H3, Same H' H3 → ∀ Q : VK, (∀ v H4, Same H3 H4 → TD H4 v (d i) → Q v H4) → te σ2 H3 Q) :
    tt σ2 H' fun b H3 => if b = true then te σ2 H3 fun y H4 => ∃ acc, H4 D = some (.lst acc) ∧ acc.length < sizeLine ∧ LcW H1 p d D (i + 1) (upd H4 D (.lst (acc ++ [y]))) else LcW H1 p d D (i + 1) H3 := by
  obtain ⟨w1, ys, w2, w3⟩ := w
  refine ht _ fun H3 s3 => iteB (fun c => ?_) (fun c => ?_)
  · refine he c H3 s3 _ fun v H4 s4 hv => ?_
    have sD := s4 _ _ (s3 _ _ (s _ _ w2))
    have len := pick_len p d i
    have z := sizeLine_eq
    have tu : Tups H4 (upd H4 D (.lst (ys ++ [v]))) := Kp.upd.tups sD
    have s5 : Tups H H4 := L2.Same.tups (s.trans (s3.trans s4))
    refine ⟨ys, sD, by rw [w3.1]; omega, L2.Same.mut (((w1.trans s).trans s3).trans s4) hD, ys ++ [v], upd_same, ?_⟩
    unfold pick
    rw [if_pos c]
    exact ((w3.mono s5).mono tu).snoc (hv.mono tu)
  · refine ⟨(w1.trans s).trans s3, ys, s3 _ _ (s _ _ w2), ?_⟩
    unfold pick
    rw [if_neg (by rw [c]; decide)]
    exact w3.mono (L2.Same.tups (s.trans s3))
theorem lc_sng {R : Nat → V → Prop} {j : Nat} (P : Sng J n R S) (p : Nat → Bool) (d : Nat → PyData) (hn : n ≤ 100000) (hS : ∀ H, Same H1 H → S H)
    (ht : ∀ i x H', i < n → R i x → Same H1 H' → ∀ Q : Bool → Hp → Prop, (∀ H3, Same H' H3 → Q (p i) H3) → tt ((wipe σ vs).set j (some x)) H' Q)
    (he : ∀ i x H', i < n → R i x → Same H1 H' → p i = true → ∀ Q : VK, (∀ v H4, Same H' H4 → TD H4 v (d i) → Q v H4) → te ((wipe σ vs).set j (some x)) H' Q)
    (hd : ∀ ys H', Same H1 H' → H' D = some (.lst ys) → TDs H' ys (pick p d n) → Qd H') (hD : H1 D = none) (hj : j ∈ vs := by decide) :
    ∃ W : Nat → Nat → Hp → Prop, (∃ m, W 0 m (upd H1 D (.lst []))) ∧ ∀ i m H, W i m H →
      (J.stop i H ∧ Qd H) ∨ (J.go i H ∧ ∃ Nx : Hp → Prop, (∀ H', Nx H' → ∃ m', m' < m ∧ W (i + 1) m' H') ∧ ∀ x H', J.yld i H x H' → gName j x (wipe σ vs) H' fun σ2 H2 => wipe σ2 vs = wipe σ vs ∧ tt σ2 H2 fun b H3 =>
        if b = true then te σ2 H3 fun y H4 => ∃ acc, H4 D = some (.lst acc) ∧ acc.length < sizeLine ∧ Nx (upd H4 D (.lst (acc ++ [y]))) else Nx H3) := by
  refine ⟨fun i m H => m = n - i ∧ i ≤ n ∧ LcW H1 p d D i H, ⟨n, rfl, Nat.zero_le _, Same.new hD, [], upd_same, .nil⟩, ?_⟩
  rintro i m H ⟨rfl, hi, w⟩
  have s := hS H w.1
  by_cases hlt : i < n
  · refine .inr ⟨P.go i H hlt s, LcW H1 p d D (i + 1), fun H' p' => ⟨n - (i + 1), by omega, rfl, hlt, p'⟩, fun v H' y => ?_⟩
    obtain ⟨rfl, r⟩ := P.yld i H v H' hlt s y
    refine ⟨wipe1 hj, lcw_step hD w (Same.refl _) (by omega) (ht i v H' hlt r w.1) fun c H3 s3 => ?_⟩
    exact he i v H3 hlt r (w.1.trans s3) c
  · have e : i = n := by omega
    subst e
    obtain ⟨w1, ys, w2, w3⟩ := w
    exact .inl ⟨P.stop H s, hd ys H w1 w2 w3⟩
theorem lc_prs {R : Nat → V → V → Prop} {K : PySem.W.Frag} {a b : Nat} (P : Prs J n R S) (p : Nat → Bool) (d : Nat → PyData) (hn : n ≤ 100000) (hS : ∀ H, Same H1 H → S H)
    (ht : ∀ i x y H', i < n → R i x y → Same H1 H' → ∀ Q : Bool → Hp → Prop, (∀ H3, Same H' H3 → Q (p i) H3) → tt (((wipe σ vs).set a (some x)).set b (some y)) H' Q)
    (he : ∀ i x y H', i < n → R i x y → Same H1 H' → p i = true → ∀ Q : VK, (∀ v H4, Same H' H4 → TD H4 v (d i) → Q v H4) → te (((wipe σ vs).set a (some x)).set b (some y)) H' Q)
    (hd : ∀ ys H', Same H1 H' → H' D = some (.lst ys) → TDs H' ys (pick p d n) → Qd H') (hD : H1 D = none) (hj : a ∈ vs := by decide) (hk : b ∈ vs := by decide) :
    ∃ W : Nat → Nat → Hp → Prop, (∃ m, W 0 m (upd H1 D (.lst []))) ∧ ∀ i m H, W i m H →
      (J.stop i H ∧ Qd H) ∨ (J.go i H ∧ ∃ Nx : Hp → Prop, (∀ H', Nx H' → ∃ m', m' < m ∧ W (i + 1) m' H') ∧ ∀ x H', J.yld i H x H' → gTup K 2 (gCons (gName a) (gCons (gName b) gNil)) x (wipe σ vs) H' fun σ2 H2 => wipe σ2 vs = wipe σ vs ∧ tt σ2 H2 fun b H3 =>
        if b = true then te σ2 H3 fun y H4 => ∃ acc, H4 D = some (.lst acc) ∧ acc.length < sizeLine ∧ Nx (upd H4 D (.lst (acc ++ [y]))) else Nx H3) := by
  refine ⟨fun i m H => m = n - i ∧ i ≤ n ∧ LcW H1 p d D i H, ⟨n, rfl, Nat.zero_le _, Same.new hD, [], upd_same, .nil⟩, ?_⟩
  rintro i m H ⟨rfl, hi, w⟩
  have s := hS H w.1
  by_cases hlt : i < n
  · refine .inr ⟨P.go i H hlt s, LcW H1 p d D (i + 1), fun H' p' => ⟨n - (i + 1), by omega, rfl, hlt, p'⟩, fun v H' y => ?_⟩
    obtain ⟨T, x, z, rfl, hT, rfl, r⟩ := P.yld i H v H' hlt s y
    refine gp2 upd_same ⟨wipe2 hj hk, lcw_step hD w (Same.new hT) (by omega) (ht i x z _ hlt r (w.1.trans (Same.new hT))) fun c H3 s3 => ?_⟩
    exact he i x z H3 hlt r ((w.1.trans (Same.new hT)).trans s3) c
  · have e : i = n := by omega
    subst e
    obtain ⟨w1, ys, w2, w3⟩ := w
    exact .inl ⟨P.stop H s, hd ys H w1 w2 w3⟩
end
end Tr
end
section
set_option Elab.async false
set_option linter.all false
set_option maxRecDepth 100000
set_option maxHeartbeats 4000000
namespace Tr
open PySem PySem.Spec PyProof.Rows L2
theorem bt_len : bootBuiltins "len" = some (.builtin "len") := by decide +kernel
theorem bt_sum : bootBuiltins "sum" = some (.builtin "sum") := by decide +kernel
theorem bt_abs : bootBuiltins "abs" = some (.builtin "abs") := by decide +kernel
theorem bt_max : bootBuiltins "max" = some (.builtin "max") := by decide +kernel
theorem bt_min : bootBuiltins "min" = some (.builtin "min") := by decide +kernel
theorem bt_sorted : bootBuiltins "sorted" = some (.builtin "sorted") := by decide +kernel
theorem bt_all : bootBuiltins "all" = some (.builtin "all") := by decide +kernel
theorem bt_divmod : bootBuiltins "divmod" = some (.builtin "divmod") := by decide +kernel
theorem bt_isinstance : bootBuiltins "isinstance" = some (.builtin "isinstance") := by decide +kernel
theorem bt_repr : bootBuiltins "repr" = some (.builtin "repr") := by decide +kernel
theorem bt_int : bootBuiltins "int" = some (.type "int") := by decide +kernel
theorem bt_tuple : bootBuiltins "tuple" = some (.type "tuple") := by decide +kernel
theorem bt_list : bootBuiltins "list" = some (.type "list") := by decide +kernel
theorem bt_dict : bootBuiltins "dict" = some (.type "dict") := by decide +kernel
theorem bt_set : bootBuiltins "set" = some (.type "set") := by decide +kernel
section
variable {X : Cx}
def ipIC (C : Int → Int → Prop) (f : Int → Int → Int) : TIp := fun x y H Q => ∃ i j, x = .int i ∧ y = .int j ∧ C i j ∧ Q (.int (f i j)) H
theorem iop_mulW : PIp X .Mult (ipIC CMulW fun i j => i * j) := by
  intro pins s σ H x y v u Q I r1 r2 h
  obtain ⟨i, j, e1, e2, c, q⟩ := h
  subst e1; subst e2
  obtain ⟨t, rfl⟩ := r1
  obtain ⟨t', rfl⟩ := r2
  exact imul_int ⟨.int _, H, I.tok _, ⟨_, rfl⟩, q⟩ c.ok
end
theorem _root_.L2.Same.none {H H' : Hp} {p : Addr} (e : Same H H') (h : H' p = none) : H p = none := by
  cases z : H p with
  | none => rfl
  | some o => rw [e p o z] at h; cases h
theorem ixN_nat {n j : Nat} (hj : j < n) : ixN n (j : Int) = some j := by
  unfold ixN
  rw [if_pos (by omega), if_pos (by omega)]
  simp
/-! ### sizes -/
def Sz (b : Nat) (x : Int) : Prop := x.natAbs < 2 ^ b
theorem Sz.mono {a b : Nat} {x : Int} (h : Sz a x) (l : a ≤ b) : Sz b x := Nat.lt_of_lt_of_le h (Nat.pow_le_pow_right (by decide) l)
theorem Sz.add {a b c : Nat} {x y : Int} (h : Sz a x) (k : Sz b y) (l : a < c) (m : b < c) : Sz c (x + y) := by
  have e : 2 ^ c = 2 ^ (c - 1) + 2 ^ (c - 1) := by
    rw [show c = (c - 1) + 1 by omega, Nat.pow_succ]
    simp only [Nat.add_sub_cancel]
    omega
  have h1 := h.mono (b := c - 1) (by omega)
  have h2 := k.mono (b := c - 1) (by omega)
  unfold Sz at *
  rw [e]
  omega
theorem Sz.neg {a : Nat} {x : Int} (h : Sz a x) : Sz a (-x) := by
  unfold Sz at *
  rw [Int.natAbs_neg]
  exact h
theorem Sz.sub {a b c : Nat} {x y : Int} (h : Sz a x) (k : Sz b y) (l : a < c) (m : b < c) : Sz c (x - y) := by
  rw [Int.sub_eq_add_neg]
  exact h.add k.neg l m
theorem Sz.mul {a b c : Nat} {x y : Int} (h : Sz a x) (k : Sz b y) (l : a + b ≤ c) : Sz c (x * y) := by
  refine Sz.mono (a := a + b) ?_ l
  unfold Sz at *
  rw [Int.natAbs_mul, Nat.pow_add]
  exact Nat.mul_lt_mul'' h k
theorem Sz.div {a : Nat} {x y : Int} (h : Sz a x) : Sz a (x / y) := Nat.lt_of_le_of_lt (Int.natAbs_ediv_le_natAbs x y) h
theorem Sz.of {a : Nat} {x : Int} (h : x.natAbs < 2 ^ a) : Sz a x := h
theorem Sz.le {a : Nat} {x y : Int} (h : Sz a y) (h0 : 0 ≤ x) (h1 : x ≤ y) : Sz a x := Nat.lt_of_le_of_lt (by omega) h
theorem Sz.bd {a : Nat} {x : Int} (h0 : 0 ≤ x) (h1 : x < 2 ^ a) : Sz a x := by
  unfold Sz
  have : ((2 ^ a : Nat) : Int) = 2 ^ a := by simp
  omega
theorem Sz.wide {a b : Nat} {x y : Int} (h : Sz a x) (k : Sz b y) (l : a + b ≤ 999998) : CMulW x y :=
  wide_mul (a := a + 1) (b := b + 1) (h.mono (Nat.le_succ a)) (k.mono (Nat.le_succ b)) (Nat.succ_pos a) (Nat.succ_pos b) (by omega)
theorem Sz.small {x : Int} (h0 : -256 < x) (h1 : x < 256) : Sz 8 x := by unfold Sz; omega
def Szs (b : Nat) (l : List Int) : Prop := ∀ x, x ∈ l → Sz b x
theorem Szs.mono {a b : Nat} {l : List Int} (h : Szs a l) (k : a ≤ b) : Szs b l := fun x hx => (h x hx).mono k
theorem Szs.get {b : Nat} {l : List Int} {i : Nat} {x : Int} (h : Szs b l) (e : l[i]? = some x) : Sz b x := h x (List.mem_of_getElem? e)
theorem Szs.set {b : Nat} {l : List Int} {i : Nat} {x : Int} (h : Szs b l) (k : Sz b x) : Szs b (l.set i x) := fun y hy => (List.mem_or_eq_of_mem_set hy).elim (h y) fun e => e ▸ k
theorem Szs.app {b : Nat} {l m : List Int} (h : Szs b l) (k : Szs b m) : Szs b (l ++ m) := fun y hy => (List.mem_append.mp hy).elim (h y) (k y)
theorem Szs.one {b : Nat} {x : Int} (k : Sz b x) : Szs b [x] := fun y hy => by rw [List.mem_singleton.mp hy]; exact k
theorem Szs.nil {b : Nat} : Szs b [] := fun y hy => by cases hy
theorem Sz.zero {b : Nat} : Sz b 0 := by unfold Sz; exact Nat.two_pow_pos b
theorem Sz.one : Sz 1 1 := by unfold Sz; decide
theorem Szs.sum {b c : Nat} : ∀ {l : List Int}, Szs b l → b + l.length ≤ c → Sz c l.sum
  | [], _, _ => Sz.zero
  | x :: l, h, k => by
    rw [List.sum_cons]
    rw [List.length_cons] at k
    exact (h x (List.mem_cons_self ..)).add (b := c - 1) (Szs.sum (fun y hy => h y (List.mem_cons_of_mem _ hy)) (by omega)) (by omega) (by omega)
theorem int_get {xs : List Int} {i : Nat} {v : V} (h : (xs.map V.int)[i]? = some v) : ∃ n, v = .int n ∧ xs[i]? = some n := by
  rw [List.getElem?_map] at h
  cases e : xs[i]? with
  | none => rw [e] at h; cases h
  | some n => rw [e] at h; cases h; exact ⟨n, rfl, rfl⟩
theorem get_int {xs : List Int} {i : Nat} {n : Int} (h : xs[i]? = some n) : (xs.map V.int)[i]? = some (.int n) := by rw [List.getElem?_map, h]; rfl
theorem get_lt {α : Type _} {xs : List α} {i : Nat} (h : i < xs.length) : ∃ x, xs[i]? = some x := ⟨xs[i], List.getElem?_eq_getElem h⟩
end Tr
end
section
set_option Elab.async false
set_option linter.all false
set_option maxRecDepth 100000
set_option maxHeartbeats 4000000
namespace Tr
open PySem PySem.Spec PyProof.Rows L2
/-! ### mirrors -/
def mx (a b : Int) : Int := if b > a then b else a
theorem mx_sz {b : Nat} {x y : Int} (h : Sz b x) (k : Sz b y) : Sz b (mx x y) := by unfold mx; split <;> assumption
def chL (m : Int) : Nat → Int
  | 0 => 1
  | t + 1 => chL m t * (m - t) / (t + 1)
def ch (m k : Int) : Int := if m < k then 0 else chL m k.toNat
theorem chL_sz {m : Int} {b : Nat} (hm : Sz b m) : ∀ t : Nat, t ≤ 100 → Sz ((b + 8) * t + 1) (chL m t)
  | 0, _ => Sz.one
  | t + 1, h => by
    have h1 := chL_sz hm t (by omega)
    have h2 : Sz (b + 8) (m - (t : Int)) := (hm.mono (b := b + 7) (by omega)).sub (b := 7) (Sz.bd (by omega) (by omega)) (by omega) (by omega)
    exact ((h1.mul h2 (Nat.le_refl _)).div).mono (by rw [Nat.mul_add]; omega)
theorem ch_sz {m k : Int} {b : Nat} (hm : Sz b m) (k1 : k ≤ 100) : Sz ((b + 8) * 100 + 1) (ch m k) := by
  unfold ch
  split
  · exact Sz.zero
  · exact (chL_sz hm k.toNat (by omega)).mono (Nat.add_le_add_right (Nat.mul_le_mul_left _ (by omega)) 1)
def plIn (step : Int) (f : List Int) : Nat → List Int
  | 0 => f ++ [0]
  | i + 1 => (plIn step f i).set (i + 1) ((plIn step f i).getD (i + 1) 0 + f.getD i 0 * mx 0 (step - i))
theorem plIn_len (step : Int) (f : List Int) : ∀ i, (plIn step f i).length = f.length + 1
  | 0 => by simp [plIn]
  | i + 1 => by simp [plIn, plIn_len step f i]
def plN (ns : List Int) : Nat → List Int
  | 0 => [1]
  | k + 1 => plIn (ns.getD k 0) (plN ns k) (plN ns k).length
theorem plN_len (ns : List Int) : ∀ k, (plN ns k).length = k + 1
  | 0 => rfl
  | k + 1 => by simp [plN, plIn_len, plN_len ns k]
def pl (ns : List Int) : List Int := plN ns ns.length
theorem getD_sz {b : Nat} {l : List Int} {i : Nat} (h : Szs b l) : Sz b (l.getD i 0) := by
  rw [List.getD_eq_getElem?_getD]
  cases e : l[i]? with
  | none => exact Sz.zero
  | some x => exact h.get e
theorem plIn_sz {b : Nat} {step : Int} {f : List Int} (hf : Szs b f) (hs : Sz 8 step) : ∀ i, i ≤ 20 → Szs (b + 11 * i) (plIn step f i)
  | 0, _ => (hf.app (Szs.one Sz.zero)).mono (by omega)
  | i + 1, h => by
    have ih := plIn_sz hf hs i (by omega)
    unfold plIn
    refine Szs.set (ih.mono (by omega)) ((getD_sz ih).add (b := b + 9) ?_ (by omega) (by omega))
    exact (getD_sz hf).mul (b := 9) (mx_sz Sz.zero (hs.sub (b := 8) (Sz.bd (by omega) (by omega)) (by omega) (by omega))) (Nat.le_refl _)
theorem plN_sz {ns : List Int} (h : Szs 8 ns) : ∀ k, k ≤ 16 → Szs (220 * k + 1) (plN ns k)
  | 0, _ => Szs.one Sz.one
  | k + 1, hk => by
    refine (plIn_sz (plN_sz h k (by omega)) (getD_sz h) _ (by rw [plN_len]; omega)).mono ?_
    rw [plN_len]
    omega
/-! ### walks -/
def spChoose : Sp := fun vs H Q _ => ∃ m k : Int, vs = [.int m, .int k] ∧ 0 ≤ k ∧ k ≤ 100 ∧ Sz 200 m ∧ Q (.int (ch m k)) H
def spPlacements : Sp := fun vs H Q _ => ∃ (a : Addr) (ns : List Int), vs = [.ref a] ∧ H a = some (.lst (ns.map V.int)) ∧ ns.length ≤ 16 ∧ Szs 8 ns ∧
  ∀ p H', H p = none → Same H H' → H' p = some (.lst ((pl ns).map V.int)) → Q (.ref p) H'
section
variable {P : Program} {w : World} {K : PySem.W.Frag} {mg : Str → Option Value} {base : Heap}
theorem sc_choose : FnScope ["many", "few", "found", "turn"] ["many", "few"] (defScope s_choose) := ⟨rfl, rfl, rfl, by decide +kernel, rfl, by decide +kernel, by decide +kernel⟩
theorem ok_choose (T : Tx K mg) : FnOk P w K mg base CX0 1 (He.ga K "choose") (fdOf K (He.ga K "choose")) ["many", "few"] spChoose := by
  refine T.F_choose.ok sc_choose (fun vs H Q E h => ?_) (fun cdv A outer s H vs Q E hr h => ?_)
  · obtain ⟨m, k, rfl, _⟩ := h
    rfl
  · obtain ⟨m, k, rfl, k0, k1, hm, q⟩ := h
    refine ⟨_, PSs.nox (pss_cons (ps_if (pt_cmpR op_lt (pv 0) (pv 1) (nomark _)) (pss_one (ps_ret pe_int)) pss_nil)
      (pss_cons (ps_set (i := 2) sc_choose.nd rfl (Or.inl rfl) pe_int)
      (pss_cons (ps_for PassesOwn.never rfl (pi_range1 rfl T.b_range (pa_cons (pv 1) pa_nil)) (pg_name (i := 3) sc_choose.nd rfl (Or.inl rfl))
        (pss_one (ps_set (i := 2) sc_choose.nd rfl (Or.inl rfl) (pe_op op_fdiv (pe_op op_mulW (pv 2) (pe_op op_sub (pv 0) (pv 3))) (pe_op op_add (pv 3) pe_int)))))
      (pss_one (ps_ret (pv 2)))))), ?_⟩
    refine ⟨_, rfl, _, rfl, _, _, rfl, rfl, _, rfl, iteD (fun c => ?_) fun c => ?_⟩
    · have e : ch m k = 0 := if_pos c
      rw [e] at q
      exact q
    · refine ⟨_, rfl, _, rfl, by omega, by omega, for_range (lo := 0) (n := k.toNat) (fun i σ H' => H' = H ∧ ∃ v, σ = [some (.int m), some (.int k), some (.int (chL m i)), v]) ⟨rfl, _, rfl⟩ ?_ ?_⟩
      · rintro i σ H' hi ⟨rfl, v, rfl⟩
        have h0 := chL_sz hm i (by omega)
        refine ⟨_, rfl, _, rfl, _, rfl, _, _, rfl, rfl, _, _, rfl, rfl, ?_, _, rfl, _, _, rfl, rfl, _, _, rfl, rfl, ?_, rfl, ?_, ?_⟩
        · exact h0.wide ((hm.mono (b := 207) (by omega)).sub (b := 8) (Sz.bd (by omega) (by omega)) (c := 208) (by omega) (by omega)) (by omega)
        · exact ⟨by omega, by omega⟩
        · exact some (.int (0 + (i : Int)))
        · show [some (V.int m), some (V.int k), some (V.int (chL m i * (m - (0 + (i : Int))) / (0 + (i : Int) + 1))), some (V.int (0 + (i : Int)))] = _
          rw [Int.zero_add]
          rfl
      · rintro σ H' ⟨rfl, v, rfl⟩
        have e : ch m k = chL m k.toNat := if_neg c
        rw [e] at q
        exact ⟨_, rfl, q⟩
theorem sc_placements : FnScope ["steps", "found", "step", "later", "many", "ways"] ["steps"] (defScope s_placements) := ⟨rfl, rfl, rfl, by decide +kernel, rfl, by decide +kernel, by decide +kernel⟩
theorem ok_placements (T : Tx K mg) : FnOk P w K mg base CX0 1 (He.ga K "placements") (fdOf K (He.ga K "placements")) ["steps"] spPlacements := by
  refine T.F_placements.ok sc_placements (fun vs H Q E h => ?_) (fun cdv A outer s H vs Q E hr h => ?_)
  · obtain ⟨a, ns, rfl, _⟩ := h
    rfl
  · obtain ⟨a, ns, rfl, ha, hl, hz, q⟩ := h
    refine ⟨_, PSs.nox (pss_cons (ps_set (i := 1) sc_placements.nd rfl (Or.inl rfl) (pe_lst (pa_cons pe_int pa_nil)))
      (pss_cons (ps_for PassesOwn.never rfl (pi_list (pv 0)) (pg_name (i := 2) sc_placements.nd rfl (Or.inl rfl))
        (pss_cons (ps_set (i := 3) sc_placements.nd rfl (Or.inl rfl) (pe_op op_cat (pv 1) (pe_lst (pa_cons pe_int pa_nil))))
      (pss_cons (ps_for PassesOwn.never rfl (pi_enum rfl T.b_enumerate (pa_cons (pv 1) pa_nil)) (pg_tup rfl (pgs_cons (pg_name (i := 4) sc_placements.nd rfl (Or.inl rfl)) (pgs_cons (pg_name (i := 5) sc_placements.nd rfl (Or.inl rfl)) pgs_nil)))
        (pss_one (ps_augS (pv 3) (pe_op op_add (pv 4) pe_int) pget_list (pe_op op_mulW (pv 5) (pe_callB (call_max2 rfl) rfl T.b_max bt_max (pa_cons pe_int (pa_cons (pe_op op_sub (pv 2) (pv 4)) pa_nil)))) ip_add set_list)))
      (pss_one (ps_set (i := 1) sc_placements.nd rfl (Or.inl rfl) (pv 3))))))
      (pss_one (ps_ret (pv 1))))), ?_⟩
    refine ⟨by decide, fun p hp => ?_⟩
    refine ⟨_, rfl, a, rfl, ⟨_, SqL.of (show upd H p _ a = _ from (upd_ne (ne_of_none ha hp)).trans ha)⟩, for_sng (sng_list (xs := ns.map V.int)) (fun i σ H' => Same H H' ∧ ∃ f x1 x2 x3 x4, H f = none ∧ H' f = some (.lst ((plN ns i).map V.int)) ∧ σ = [some (.ref a), some (.ref f), x1, x2, x3, x4])
      ⟨Same.new hp, p, _, _, _, _, hp, upd_same, rfl⟩ (fun i σ H' hi ⟨e, _⟩ => SqL.of (e _ _ ha)) ?_ ?_⟩
    · rintro i x σ H' hi hx ⟨e, f, x1, x2, x3, x4, hf, hf', rfl⟩
      obtain ⟨n, rfl, hn⟩ := int_get hx
      rw [List.length_map] at hi
      have ez := sizeLine_eq
      have hi1 : (plN ns i).length = i + 1 := plN_len ns i
      refine ⟨_, rfl, by decide, fun b hb => ?_⟩
      refine ⟨f, b, _, _, rfl, rfl, (upd_ne (ne_of_none hf' hb)).trans hf', upd_same, by simp [hi1]; omega, fun l hl => ?_⟩
      have hfl : f ≠ l := ne_of_none ((upd_ne (ne_of_none hf' hb)).trans hf') hl
      have hHl : H l = none := (e.trans (Same.new hb)).none hl
      refine ⟨_, rfl, f, _, rfl, SqL.of ((upd_ne hfl).trans ((upd_ne (ne_of_none hf' hb)).trans hf')), for_prs prs_enum (fun j σ H' => Same H H' ∧ ∃ y3 y4, H' f = some (.lst ((plN ns i).map V.int)) ∧ H' l = some (.lst ((plIn n (plN ns i) j).map V.int)) ∧ σ = [some (.ref a), some (.ref f), some (.int n), some (.ref l), y3, y4])
        ⟨(e.trans (Same.new hb)).trans (Same.new hl), _, _, (upd_ne hfl).trans ((upd_ne (ne_of_none hf' hb)).trans hf'), ?_, rfl⟩ (fun j σ H' hj ⟨_, _, _, z, _⟩ => SqL.of z) ?_ ?_⟩
      · rw [upd_same]
        simp [plIn]
      · rintro j x y σ H2 H3 hj ⟨rfl, hy⟩ ⟨e2, y3, y4, z1, z2, rfl⟩ e3
        obtain ⟨v, rfl, hv⟩ := int_get hy
        rw [List.length_map] at hj
        have hg : (plN ns i).getD j 0 = v := by rw [List.getD_eq_getElem?_getD, hv]; rfl
        have hlen := plIn_len n (plN ns i) j
        obtain ⟨u, hu⟩ := get_lt (xs := plIn n (plN ns i) j) (i := j + 1) (by omega)
        have hg2 : (plIn n (plN ns i) j).getD (j + 1) 0 = u := by rw [List.getD_eq_getElem?_getD, hu]; rfl
        have s1 : Sz _ v := (plN_sz hz i (by omega)).get hv
        have s2 : Sz 8 n := hz.get hn
        refine ⟨_, rfl, _, rfl, _, _, rfl, rfl, l, _, _, .int u, rfl, rfl, SqL.of (e3 _ _ z2), by omega, ?_, _, rfl, _, rfl, _, rfl, _, _, rfl, rfl, _, _, rfl, _, _, rfl, rfl, ?_, _, _, rfl, rfl, ?_⟩
        · exact get_int hu
        · refine s1.wide (b := 9) (mx_sz Sz.zero (s2.sub (b := 8) (Sz.bd (by omega) (by omega)) (by omega) (by omega))) (by omega)
        · refine ⟨l, _, _, j + 1, rfl, rfl, e3 _ _ z2, ?_, ?_⟩
          · rw [List.length_map]
            exact ixN_nat (j := j + 1) (by omega)
          · refine ⟨(e2.trans e3).mut hHl, _, _, (upd_ne hfl).trans (e3 _ _ z1), ?_, rfl⟩
            rw [upd_same]
            show some (HO.lst _) = some (HO.lst (((plIn n (plN ns i) j).set (j + 1) ((plIn n (plN ns i) j).getD (j + 1) 0 + (plN ns i).getD j 0 * mx 0 (n - j))).map V.int))
            rw [hg, hg2, List.map_set]
            rfl
      · rintro σ H2 ⟨e2, y3, y4, z1, z2, rfl⟩
        refine ⟨_, rfl, e2, l, _, _, _, _, hHl, ?_, rfl⟩
        rw [z2, List.length_map]
        have hg : ns.getD i 0 = n := by rw [List.getD_eq_getElem?_getD, hn]; rfl
        show _ = some (HO.lst ((plIn (ns.getD i 0) (plN ns i) (plN ns i).length).map V.int))
        rw [hg]
    · rintro σ H' ⟨e, f, x1, x2, x3, x4, hf, hf', rfl⟩
      refine ⟨_, rfl, q f H' hf e ?_⟩
      rw [hf', List.length_map]
      rfl
end
end Tr
end
section
set_option Elab.async false
set_option linter.all false
set_option maxRecDepth 100000
set_option maxHeartbeats 4000000
namespace Tr
open PySem PySem.Spec PyProof.Rows L2
theorem plain_ci : plainId "proto.contains_iter" = true := by decide +kernel
theorem entry_ci : entryFor table "proto.contains_iter" = some Builtin.«proto.contains_iter» := entryFor_of_fast (by kernel_rfl)
theorem dv_noct : typeLookup (.type "dict_values") "__contains__" = pure none := by rw [typeLookup_type, builtinLookup_eq_fast]; kernel_rfl
theorem ci_loop {prog : Program} {w : World} {κ : Type} [DecidableEq κ] {knd : KeyKind prog w κ} {A : Around} {R : Result → Shared → Prop} {kvs : List (κ × Value)} {it d : Addr} {ep : Nat} {x : Value} {e : Value → Bool} (hh : A.handled = none) (hn : d ≠ it)
    (he : ∀ (s : Shared) (k : κ) (y : Value), (k, y) ∈ kvs → SeqAt.EqAt A.in1 s y x (e y)) :
    ∀ (k i : Nat) (s : Shared), kvs.length - i = k → s.heap.IsValIter it d i kvs.length ep → s.heap.DictAt knd d kvs ep →
      (∀ h', Heap.ExtBut it s.heap h' → R (.ok (.ret (.bool ((kvs.drop i).any fun p => e p.2)))) { s with heap := h' }) →
      codeAny (model prog w) A (.builtin "proto.contains_iter" ⟨[.ref it, x], []⟩) R s := by
  intro k
  induction k with
  | zero =>
    intro i s hk hit hd h
    have hx : kvs[i]? = none := List.getElem?_eq_none (by omega)
    have hdr : kvs.drop i = [] := List.drop_eq_nil_of_le (by omega)
    rw [hdr] at h
    refine codeAny_builtin entry_ci ?_
    rw [Around.under_plainId plain_ci _]
    show wpAny _ A.in1 (pyNext (.ref it) >>= _) _ _ s
    refine wpAny_bind (wpAny_pyNext_values_end hh hit hd hx fun h' eb => ?_)
    refine wpAny_bind (wpAny_rule ?_)
    exact wpAny_pure (h h' eb)
  | succ k ih =>
    intro i s hk hit hd h
    have hlt : i < kvs.length := by omega
    obtain ⟨⟨kk, v⟩, hx⟩ := get_lt hlt
    have hdr : kvs.drop i = (kk, v) :: kvs.drop (i + 1) := by
      have hx' := hx
      rw [List.getElem?_eq_getElem hlt] at hx'
      rw [List.drop_eq_getElem_cons hlt, Option.some.inj hx']
    rw [hdr] at h
    refine codeAny_builtin entry_ci ?_
    rw [Around.under_plainId plain_ci _]
    show wpAny _ A.in1 (pyNext (.ref it) >>= _) _ _ s
    refine wpAny_bind (wpAny_pyNext_values_item hit hd hx fun h' hit' sb => ?_)
    have ext : Heap.ExtBut it s.heap h' := fun b o hb e' => (sb.2 b hb).trans e'
    show wpAny _ A.in1 (eqBool v x >>= _) _ _ _
    refine wpAny_bind (he _ kk v (List.mem_of_getElem? hx) prog w _ _ ?_)
    cases hb : e v with
    | true =>
      have h2 := h h' ext
      rw [List.any_cons] at h2
      simp only [hb, Bool.true_or] at h2
      refine wpAny_bind (wpAny_rule ?_)
      exact wpAny_pure h2
    | false =>
      refine wpAny_pure ⟨plainId_quiet plain_ci _, ih (i + 1) _ (by omega) hit' (hd.extBut ext hn) fun h'' eb' => ?_⟩
      have h2 := h h'' (fun b o hb e' => eb' b o hb (ext b o hb e'))
      rw [List.any_cons] at h2
      simp only [hb, Bool.false_or] at h2
      exact h2
section
variable {X : Cx}
/-- a view of a dict's values -/
def VwO (a d : Addr) : HO := .ext fun h => h.IsValuesView a d
def tVals (td : TE) : TE := fun σ H Q => td σ H fun x H1 => ∃ d kvs, x = .ref d ∧ H1 d = some (.dK kvs) ∧ ∀ p, H1 p = none → Q (.ref p) (upd H1 p (VwO p d))
theorem pe_vals {e : Expr} {td : TE} {apos cpos : Pos} (he : PE X e td) (hbase : attributeBase e "values" X.env (eval e X.env) = eval e X.env := by rfl) (hline : (apos.endLine == cpos.line) = true := by rfl) : PE X (.Call (.Attribute e "values" apos) [] [] cpos) (tVals td) := by
  refine ⟨fun pins s σ H Q I h => ?_⟩
  refine wpAny_Call_method (T := "dict") (id := "dict.values") hbase rfl hline F.plainAttrs_dict F.slot_dict_values F.type_dict_values (thn (he.run pins s σ H _ I h) fun u s1 ⟨x, H1, I1, rx, d, kvs, ex, hd, q⟩ => ?_)
  subst ex
  obtain rfl : u = Value.ref d := rx
  obtain ⟨hz, hs, vs', hkv, hm⟩ := I1.hok d _ hd
  refine ⟨hm.typeIs, hm.mapOf.noDict, ?_⟩
  have hp : H1 s1.heap.objs.size = none := I1.hok.fresh (Nat.le_refl _)
  have I2 : Inv X pins σ (upd H1 s1.heap.objs.size (VwO s1.heap.objs.size d)) { s1 with heap := s1.heap.push { cls := .type "dict_values", data := .fields #[.ref d] } } :=
    I1.laid (t' := s1.toks) (fun b ob q => Heap.get?_push_of_some _ q) (Nat.le_refl _) ⟨⟨_, Heap.get?_push_size _ rfl, rfl, rfl⟩, ⟨_, Heap.get?_push_size _ rfl⟩, fun h1 h2 ⟨o, a, b⟩ k => ⟨o, k _ a, b⟩⟩
  show wpAny _ _ (callWith cpos (.builtin "dict.values") [.ref d] [] []) _ X.xe s1
  exact method_meetsIn F.slot_dict_values F.entry_dict_values rfl (PySem.evalArgs_none ⟨rfl, hm.typeIs, F.args_dict_values_1 _, _, meets_dict_values (mixKind X.prog X.w) d hs, ⟨_, hm⟩, ⟨.ref s1.heap.objs.size, _, I2, rfl, q _ hp⟩⟩)
def rNotVals : R2 := fun x y H Q => ∃ p d kvs, y = .ref p ∧ H p = some (VwO p d) ∧ H d = some (.dK kvs) ∧ flatV x = true ∧ (kvs.map (·.2)).all flatV = true ∧ Q (.bl (!inV x (kvs.map (·.2)))) H
theorem kv_mem : ∀ {kvs : List (Key × V)} {vs : List (Key × Value)}, KV kvs vs → ∀ {k u}, (k, u) ∈ vs → ∃ v, (k, v) ∈ kvs ∧ RelV v u
  | _, _, .nil, _, _, h => by cases h
  | (k0, v0) :: kvs, (k1, u1) :: vs, .cons r t, k, u, h => by
    rcases List.mem_cons.mp h with e | h
    · cases e
      obtain ⟨r1, r2⟩ := r
      cases r1
      exact ⟨v0, List.mem_cons_self .., r2⟩
    · obtain ⟨v, a, b⟩ := kv_mem t h
      exact ⟨v, List.mem_cons_of_mem _ a, b⟩
theorem kv_any {x : V} : ∀ {kvs : List (Key × V)} {vs : List (Key × Value)}, KV kvs vs → (kvs.map (·.2)).all flatV = true → (vs.any fun p => eqU x p.2) = inV x (kvs.map (·.2))
  | _, _, .nil, _ => rfl
  | (k0, v0) :: kvs, (k1, u1) :: vs, .cons r t, h => by
    rw [List.map_cons, List.all_cons, Bool.and_eq_true] at h
    have ih := kv_any (x := x) t h.2
    rw [List.any_cons, ih, eqU_of r.2 h.1]
    rfl
theorem op_notInVals (hc : X.calm = true) : OpR X (compareOp .NotIn) rNotVals := by
  intro pins s σ H x y v u Q I rx ry h
  obtain ⟨p, d, kvs, rfl, hp, hd, fx, fs, q⟩ := h
  cases ry
  obtain ⟨hz, hs, vs, hkv, hm⟩ := I.hok d _ hd
  obtain ⟨hv, _, _⟩ := I.hok p _ hp
  obtain ⟨od, es, ep, hod, r⟩ := id hm
  have hat : s.heap.DictAt (mixKind X.prog X.w) d vs ep := ⟨od, es, hod, r⟩
  have hT : s.TypeIs (.ref p) "dict_values" := hv.typeIs
  show wpAny _ _ (contains (.ref p) v >>= _) _ _ s
  refine wpAny_bind ?_
  unfold contains
  refine wpAny_holding ?_
  show wpAny _ _ (specialOf (.ref p) "__contains__" >>= _) _ _ s
  refine wpAny_bind (wpAny_specialOf hT dv_noct ?_)
  show wpAny _ _ (callSpecialUnlessNone? (.ref p) "__contains__" [v] _ >>= _) _ _ s
  refine wpAny_bind (wpAny_callSpecialUnlessNone?_none hT dv_noct ?_)
  show wpAny _ _ ((tryCatch (pyIter (.ref p)) _) >>= _) _ _ s
  refine wpAny_bind (wpAny_tryCatch (wpAny_pyIter_values hv hat ?_))
  have hne : d ≠ s.heap.objs.size := Nat.ne_of_lt (Heap.lt_size hod)
  have hl : kvs.length = vs.length := Paired.length hkv
  refine wpAny_bind (wpAny_runValue ?_)
  refine ci_loop (knd := mixKind X.prog X.w) (kvs := vs) (d := d) (ep := ep) (e := eqU x) (I.ok.hd hc) hne (fun s' k y hy => ?_) vs.length 0 _ rfl ⟨_, Heap.get?_push_size _ rfl, rfl, rfl⟩ (hat.push _) fun h' eb => ?_
  · obtain ⟨z, hz1, hz2⟩ := kv_mem hkv hy
    have fz : flatV z = true := List.all_eq_true.mp fs z (List.mem_map.mpr ⟨_, hz1, rfl⟩)
    rw [eqU_of hz2 fz]
    exact eqAt_V hz2 rx fz fx
  · show wpAny _ _ _ _ _ _
    refine wpAny_pure (wpAny_pure ⟨.bl _, H, I.kept (t' := s.toks) fun b ob q => ?_, rfl, ?_⟩)
    · exact eb b ob (Nat.ne_of_lt (Heap.lt_size q)) (Heap.get?_push_of_some _ q)
    · rw [List.drop_zero, kv_any hkv fs]
      exact q
end
end Tr
end
section
set_option Elab.async false
set_option linter.all false
set_option maxRecDepth 100000
set_option maxHeartbeats 4000000
namespace Tr
open PySem PySem.Spec PyProof.Rows L2
/-! ### comprehensions of ints -/
def pickI (p : Nat → Bool) (f : Nat → Int) (n : Nat) : List Int := ((List.range n).filter p).map f
theorem pick_int {p : Nat → Bool} {f : Nat → Int} {n : Nat} : pick p (fun i => .int (f i)) n = (pickI p f n).map PyData.int := by
  rw [pick_eq, pickI, List.map_map]
  rfl
theorem pickI_len {p : Nat → Bool} {f : Nat → Int} {n : Nat} : (pickI p f n).length ≤ n := by
  unfold pickI
  rw [List.length_map]
  refine Nat.le_trans (List.length_filter_le _ _) ?_
  rw [List.length_range]
  exact Nat.le_refl _
theorem pickI_tt {f : Nat → Int} {n : Nat} : pickI (fun _ => true) f n = (List.range n).map f := by
  unfold pickI
  rw [List.filter_eq_self.mpr (fun _ _ => rfl)]
section
variable {J : It} {n : Nat} {S : Hp → Prop} {tt : TT} {te : TE} {vs : List Nat} {σ : L2.St} {H1 : Hp} {D : Addr} {Qd : Hp → Prop}
theorem lc_sngI {R : Nat → V → Prop} {j : Nat} (P : Sng J n R S) (p : Nat → Bool) (f : Nat → Int) (hn : n ≤ 100000) (hS : ∀ H, Same H1 H → S H)
    (ht : ∀ i x H', i < n → R i x → Same H1 H' → ∀ Q : Bool → Hp → Prop, (∀ H3, Same H' H3 → Q (p i) H3) → tt ((wipe σ vs).set j (some x)) H' Q)
    (he : ∀ i x H', i < n → R i x → Same H1 H' → p i = true → ∀ Q : VK, (∀ H4, Same H' H4 → Q (.int (f i)) H4) → te ((wipe σ vs).set j (some x)) H' Q)
    (hd : ∀ H', Same H1 H' → H' D = some (.lst ((pickI p f n).map V.int)) → Qd H') (hD : H1 D = none) (hj : j ∈ vs := by decide) :
    ∃ W : Nat → Nat → Hp → Prop, (∃ m, W 0 m (upd H1 D (.lst []))) ∧ ∀ i m H, W i m H →
      (J.stop i H ∧ Qd H) ∨ (J.go i H ∧ ∃ Nx : Hp → Prop, (∀ H', Nx H' → ∃ m', m' < m ∧ W (i + 1) m' H') ∧ ∀ x H', J.yld i H x H' → gName j x (wipe σ vs) H' fun σ2 H2 => wipe σ2 vs = wipe σ vs ∧ tt σ2 H2 fun b H3 =>
        if b = true then te σ2 H3 fun y H4 => ∃ acc, H4 D = some (.lst acc) ∧ acc.length < sizeLine ∧ Nx (upd H4 D (.lst (acc ++ [y]))) else Nx H3) :=
  lc_sng P p (fun i => .int (f i)) hn hS ht (fun i x H' a b c d Q q => he i x H' a b c d Q fun H4 s => q _ _ s (.int _)) (fun ys H' b c d => by
    rw [pick_int] at d
    exact hd H' b (by rw [c, TDs.inv_ints d])) hD hj
theorem lc_prsI {R : Nat → V → V → Prop} {K : PySem.W.Frag} {a b : Nat} (P : Prs J n R S) (p : Nat → Bool) (f : Nat → Int) (hn : n ≤ 100000) (hS : ∀ H, Same H1 H → S H)
    (ht : ∀ i x y H', i < n → R i x y → Same H1 H' → ∀ Q : Bool → Hp → Prop, (∀ H3, Same H' H3 → Q (p i) H3) → tt (((wipe σ vs).set a (some x)).set b (some y)) H' Q)
    (he : ∀ i x y H', i < n → R i x y → Same H1 H' → p i = true → ∀ Q : VK, (∀ H4, Same H' H4 → Q (.int (f i)) H4) → te (((wipe σ vs).set a (some x)).set b (some y)) H' Q)
    (hd : ∀ H', Same H1 H' → H' D = some (.lst ((pickI p f n).map V.int)) → Qd H') (hD : H1 D = none) (hj : a ∈ vs := by decide) (hk : b ∈ vs := by decide) :
    ∃ W : Nat → Nat → Hp → Prop, (∃ m, W 0 m (upd H1 D (.lst []))) ∧ ∀ i m H, W i m H →
      (J.stop i H ∧ Qd H) ∨ (J.go i H ∧ ∃ Nx : Hp → Prop, (∀ H', Nx H' → ∃ m', m' < m ∧ W (i + 1) m' H') ∧ ∀ x H', J.yld i H x H' → gTup K 2 (gCons (gName a) (gCons (gName b) gNil)) x (wipe σ vs) H' fun σ2 H2 => wipe σ2 vs = wipe σ vs ∧ tt σ2 H2 fun b H3 =>
        if b = true then te σ2 H3 fun y H4 => ∃ acc, H4 D = some (.lst acc) ∧ acc.length < sizeLine ∧ Nx (upd H4 D (.lst (acc ++ [y]))) else Nx H3) :=
  lc_prs P p (fun i => .int (f i)) hn hS ht (fun i x y H' a b c d Q q => he i x y H' a b c d Q fun H4 s => q _ _ s (.int _)) (fun ys H' b c d => by
    rw [pick_int] at d
    exact hd H' b (by rw [c, TDs.inv_ints d])) hD hj hk
end
theorem lock_same {H H' : Hp} {d : Addr} {od : Obj} {u : HO} (h : H d = some u) (e : Same (upd H d (.frz od u)) H') : Same H (upd H' d u) := fun b o q => by
  by_cases c : b = d
  · subst c
    rw [upd_same]
    rw [h] at q
    exact q
  · rw [upd_ne c]
    exact e b o ((upd_ne c).trans q)
theorem lock_in {H : Hp} {a d : Addr} {od : Obj} {u o : HO} (h : H d = some u) (ha : H a = some o) (n : a ≠ d) : upd H d (.frz od u) a = some o := (upd_ne n).trans ha
theorem kp1 {H : Hp} {a p : Addr} {o u : HO} (h : H a = some o) (n : H p = none) : upd H p u a = some o := (upd_ne (ne_of_none h n)).trans h
/-! ### seatings -/
def sgZ (f : List Int) : List Int := (List.range (f.length + 1)).map fun i => (0 :: f).getD i 0 - (f ++ [0]).getD i 0
def sgStep (i : Nat) (w : Int) (p : List Int × Int) : List Int × Int := ((sgZ p.1).set 0 ((sgZ p.1).getD 0 0 + w * (p.2 * mx 1 i)), p.2 * mx 1 i)
def sgN (ws : List Int) : Nat → List Int × Int
  | 0 => ([], 1)
  | i + 1 => sgStep i (ws.getD i 0) (sgN ws i)
def sg (ns : List Int) : List Int := (sgN (pl ns).reverse (pl ns).reverse.length).1
theorem sgZ_len (f : List Int) : (sgZ f).length = f.length + 1 := by simp [sgZ]
theorem sgN_len (ws : List Int) : ∀ k, (sgN ws k).1.length = k
  | 0 => rfl
  | k + 1 => by simp [sgN, sgStep, sgZ_len, sgN_len ws k]
theorem sgZ_sz {b : Nat} {f : List Int} (h : Szs b f) : Szs (b + 1) (sgZ f) := by
  intro x hx
  obtain ⟨i, _, rfl⟩ := List.mem_map.mp hx
  refine Sz.sub (a := b) (b := b) (getD_sz ?_) (getD_sz (h.app (Szs.one Sz.zero))) (by omega) (by omega)
  intro y hy
  rcases List.mem_cons.mp hy with rfl | hy
  · exact Sz.zero
  · exact h y hy
theorem sgN_sz {b : Nat} {ws : List Int} (h : Szs b ws) : ∀ k, k ≤ 32 → Szs (b + 20 * k + 1) (sgN ws k).1 ∧ Sz (9 * k + 1) (sgN ws k).2
  | 0, _ => ⟨Szs.nil, Sz.one⟩
  | k + 1, hk => by
    obtain ⟨h1, h2⟩ := sgN_sz h k (by omega)
    have h3 : Sz (9 * (k + 1) + 1) ((sgN ws k).2 * mx 1 k) := h2.mul (b := 9) (mx_sz (Sz.one.mono (by omega)) (Sz.bd (by omega) (by omega))) (by omega)
    refine ⟨Szs.set ((sgZ_sz h1).mono (by omega)) ((getD_sz (sgZ_sz h1)).add ((getD_sz h).mul h3 (Nat.le_refl _)) (by omega) (by omega)), h3⟩
theorem pl_sz {ns : List Int} (h : Szs 8 ns) (l : ns.length ≤ 16) : Szs 3600 (pl ns) := (plN_sz h _ l).mono (by omega)
theorem pl_len (ns : List Int) : (pl ns).length = ns.length + 1 := plN_len ns _
theorem sg_len (ns : List Int) : (sg ns).length = ns.length + 1 := by unfold sg; rw [sgN_len, List.length_reverse, pl_len]
theorem rev_sz {b : Nat} {l : List Int} (h : Szs b l) : Szs b l.reverse := fun x hx => h x (List.mem_reverse.mp hx)
theorem sg_sz {ns : List Int} (h : Szs 8 ns) (l : ns.length ≤ 16) : Szs 4600 (sg ns) := by
  refine ((sgN_sz (rev_sz (pl_sz h l)) _ ?_).1).mono ?_
  · rw [List.length_reverse, pl_len]; omega
  · rw [List.length_reverse, pl_len]; omega
def spSeatings : Sp := fun vs H Q _ => ∃ (a : Addr) (ns : List Int), vs = [.ref a] ∧ H a = some (.lst (ns.map V.int)) ∧ ns.length ≤ 16 ∧ Szs 8 ns ∧
  ∀ p H', H p = none → Same H H' → H' p = some (.lst ((sg ns).map V.int)) → Q (.ref p) H'
section
variable {P : Program} {w : World} {K : PySem.W.Frag} {mg : Str → Option Value} {base : Heap}
theorem sc_seatings : FnScope ["steps", "found", "orders", "others", "ways", "lower", "same"] ["steps"] (defScope s_seatings) := ⟨rfl, rfl, rfl, by decide +kernel, rfl, by decide +kernel, by decide +kernel⟩
theorem ok_seatings (T : Tx K mg) : FnOk P w K mg base CX0 2 (He.ga K "seatings") (fdOf K (He.ga K "seatings")) ["steps"] spSeatings := by
  refine T.F_seatings.ok sc_seatings (fun vs H Q E h => ?_) (fun cdv A outer s H vs Q E hr h => ?_)
  · obtain ⟨a, ns, rfl, _⟩ := h
    rfl
  · obtain ⟨a, ns, rfl, ha, hl, hz, q⟩ := h
    refine ⟨_, PSs.nox (pss_cons (ps_par (i := 1) (j := 2) rfl sc_seatings.nd rfl rfl (by decide) rfl rfl (pa_cons (pe_lst pa_nil) (pa_cons pe_int pa_nil)) (by rfl))
      (pss_cons (ps_for PassesOwn.never rfl (pi_enum rfl T.b_enumerate (pa_cons (pe_revL (pe_call (ok_placements T) (hr.mono (by decide)) rfl T.g_placements T.F_placements.kp T.b_f_placements .nil pass0 (pa_cons (pv 0) pa_nil))) pa_nil)) (pg_tup rfl (pgs_cons (pg_name (i := 3) sc_seatings.nd rfl (Or.inl rfl)) (pgs_cons (pg_name (i := 4) sc_seatings.nd rfl (Or.inl rfl)) pgs_nil)))
        (pss_cons (ps_aug (i := 2) sc_seatings.nd rfl (Or.inl rfl) (pe_callB (call_max2 rfl) rfl T.b_max bt_max (pa_cons pe_int (pa_cons (pv 3) pa_nil))) iop_mulW)
      (pss_cons (ps_setLc (i := 1) (own := [("lower", 5), ("same", 6)]) (g := gTup K 2 (gCons (gName 5) (gCons (gName 6) gNil))) rfl sc_seatings.nd rfl rfl (sw_true rfl rfl rfl (by kernel_rfl)) (RZ.pi_zipA rfl T.b_zip (pa_cons (pe_op op_cat (pe_lst (pa_cons pe_int pa_nil)) (pv 1)) (pa_cons (pe_op op_cat (pv 1) (pe_lst (pa_cons pe_int pa_nil))) pa_nil))) (blkOk_by (own := [("lower", 5), ("same", 6)]) (N := ["steps", "found", "orders", "others", "ways", "lower", "same"]) (by kernel_rfl)) (fun _ _ _ _ _ => (pg_tup rfl (pgs_cons (pg_name (i := 5) sc_seatings.nd rfl (Or.inl rfl)) (pgs_cons (pg_name (i := 6) sc_seatings.nd rfl (Or.inl rfl)) pgs_nil)))) (fun _ _ _ _ _ => pts_nil) (fun _ _ _ _ _ => (pe_op op_sub (pv 5) (pv 6))))
      (pss_one (ps_augS (pv 1) pe_int pget_list (pe_op op_mulW (pv 4) (pv 2)) ip_add set_list)))))
      (pss_one (ps_ret (pv 1))))), ?_⟩
    have ez := sizeLine_eq
    refine ⟨by decide, fun p hp => ⟨_, _, rfl, ?_⟩⟩
    refine ⟨_, rfl, a, ns, rfl, (upd_ne (ne_of_none ha hp)).trans ha, hl, hz, fun b H2 hb e2 hb2 => ?_⟩
    refine ⟨b, _, rfl, SqL.of hb2, fun c hc => ?_⟩
    have e3 : Same H (upd H2 c (.lst ((pl ns).map V.int).reverse)) := ((Same.new hp).trans e2).trans (Same.new hc)
    have hp3 : upd H2 c (.lst ((pl ns).map V.int).reverse) p = some (.lst []) := (Same.new hc) _ _ (e2 _ _ upd_same)
    have hHc : H c = none := ((Same.new hp).trans e2).none hc
    rw [← List.map_reverse] at *
    have lws : (pl ns).reverse.length ≤ 17 := by rw [List.length_reverse, pl_len]; omega
    have sws := rev_sz (pl_sz hz hl)
    generalize hws : (pl ns).reverse = ws at *
    refine ⟨c, _, rfl, SqL.of upd_same, for_prs prs_enum (fun i σ H' => Same H H' ∧ H' c = some (.lst (ws.map V.int)) ∧ ∃ f y3 y4 y5 y6, H f = none ∧ f ≠ c ∧ H' f = some (.lst ((sgN ws i).1.map V.int)) ∧ σ = [some (.ref a), some (.ref f), some (.int (sgN ws i).2), y3, y4, y5, y6])
      ⟨e3, upd_same, p, _, _, _, _, hp, ne_of_none (e2 _ _ upd_same) hc, hp3, rfl⟩ (fun i σ H' hi ⟨_, z, _⟩ => SqL.of z) ?_ ?_⟩
    · rintro i x y σ H5 H6 hi ⟨rfl, hy⟩ ⟨e5, h5c, f, y3, y4, y5, y6, hf, hfc, h5f, rfl⟩ e6
      obtain ⟨v, rfl, hv⟩ := int_get hy
      rw [List.length_map] at hi
      have hg : ws.getD i 0 = v := by rw [List.getD_eq_getElem?_getD, hv]; rfl
      have lf := sgN_len ws i
      obtain ⟨s1, s2⟩ := sgN_sz sws i (by omega)
      have h6f := e6 _ _ h5f
      have smx : Sz 9 (mx 1 (i : Int)) := mx_sz (Sz.one.mono (by omega)) (Sz.bd (by omega) (by omega))
      refine ⟨_, rfl, _, rfl, _, _, rfl, _, _, rfl, rfl, s2.wide smx (by omega), ?_⟩
      refine ⟨by decide, fun d1 hd1 => ⟨_, rfl, d1, f, _, _, rfl, rfl, upd_same, (upd_ne (ne_of_none h6f hd1)).trans h6f, by simp [lf]; omega, fun d2 hd2 => ?_⟩⟩
      refine ⟨_, rfl, by decide, fun d3 hd3 => ?_⟩
      refine ⟨f, d3, _, _, rfl, rfl, kp1 (kp1 (kp1 h6f hd1) hd2) hd3, upd_same, by simp [lf]; omega, fun d4 hd4 => ?_⟩
      refine ⟨d2, d4, _, _, rfl, .inl ⟨SqL.of (kp1 (kp1 upd_same hd3) hd4), SqL.of upd_same, ?_⟩⟩
      have e7 : Same H6 (upd (upd (upd (upd H6 d1 (.lst [.int 0])) d2 (.lst ([.int 0] ++ (sgN ws i).1.map V.int))) d3 (.lst [.int 0])) d4 (.lst ((sgN ws i).1.map V.int ++ [.int 0]))) := (((Same.new hd1).trans (Same.new hd2)).trans (Same.new hd3)).trans (Same.new hd4)
      intro D hD
      refine lc_prsI (prs_zip (xs := [.int 0] ++ (sgN ws i).1.map V.int) (ys := (sgN ws i).1.map V.int ++ [.int 0]) ?_) (fun _ => true) (fun j => (0 :: (sgN ws i).1).getD j 0 - ((sgN ws i).1 ++ [0]).getD j 0) ?_ ?_ ?_ ?_ ?_ hD
      · simp
      · simp [lf]; omega
      · exact fun H' e => ⟨SqL.of (e _ _ (kp1 (kp1 upd_same hd3) hd4)), SqL.of (e _ _ upd_same)⟩
      · exact fun j x y H' _ _ _ Q q => q _ (Same.refl _)
      · intro j x y H' hj hxy _ _ Q q
        obtain ⟨hx, hy⟩ := hxy
        have hx' : ((0 :: (sgN ws i).1).map V.int)[j]? = some x := hx
        have hy' : (((sgN ws i).1 ++ [0]).map V.int)[j]? = some y := by rw [List.map_append]; exact hy
        obtain ⟨x, rfl, hx2⟩ := int_get hx'
        obtain ⟨y, rfl, hy2⟩ := int_get hy'
        refine ⟨_, rfl, _, rfl, _, _, rfl, rfl, ?_⟩
        have := q H' (Same.refl _)
        rw [List.getD_eq_getElem?_getD, List.getD_eq_getElem?_getD, hx2, hy2] at this
        exact this
      · intro H' e hD'
        rw [pickI_tt] at hD'
        have hz' : H' D = some (.lst ((sgZ (sgN ws i).1).map V.int)) := by
          rw [hD']
          simp [sgZ, lf, Nat.add_comm]
        have eA : Same H H' := ((e5.trans e6).trans e7).trans e
        have hHD : H D = none := ((e5.trans e6).trans e7).none hD
        obtain ⟨u, hu⟩ := get_lt (xs := sgZ (sgN ws i).1) (i := 0) (by rw [sgZ_len]; omega)
        have hg2 : (sgZ (sgN ws i).1).getD 0 0 = u := by rw [List.getD_eq_getElem?_getD, hu]; rfl
        refine ⟨_, rfl, D, _, _, _, rfl, rfl, SqL.of hz', by decide, get_int hu, _, rfl, _, rfl, _, _, rfl, rfl, ?_, _, _, rfl, rfl, D, _, _, 0, rfl, rfl, hz', ?_, ?_⟩
        · exact (sws.get hv).wide (s2.mul smx (Nat.le_refl _)) (by omega)
        · rw [List.length_map, sgZ_len]
          exact ixN_nat (j := 0) (by omega)
        · have hDc : c ≠ D := ne_of_none (e7 _ _ (e6 _ _ h5c)) hD
          refine ⟨eA.mut hHD, (upd_ne hDc).trans (e _ _ (e7 _ _ (e6 _ _ h5c))), D, _, _, _, _, hHD, hDc.symm, ?_, rfl⟩
          rw [upd_same]
          show some (HO.lst _) = some (HO.lst (((sgZ (sgN ws i).1).set 0 ((sgZ (sgN ws i).1).getD 0 0 + ws.getD i 0 * ((sgN ws i).2 * mx 1 i))).map V.int))
          rw [hg, hg2, List.map_set]
          rfl
    · rintro σ H' ⟨e, _, f, y3, y4, y5, y6, hf, _, hf', rfl⟩
      refine ⟨_, rfl, q f H' hf e ?_⟩
      rw [hf', List.length_map]
      unfold sg
      rw [hws]
end
end Tr
end
section
set_option Elab.async false
set_option linter.all false
set_option maxRecDepth 100000
set_option maxHeartbeats 4000000
namespace Tr
open PySem PySem.Spec PyProof.Rows L2
/-! ### rules over a K given from outside (for use within comprehensions) -/
section
variable {X : Cx} {K : PySem.W.Frag}
theorem call_lenK (e : X.K = K) : CallR X (.builtin "len") (fun xs H Q => ∃ p ys, xs = [.ref p] ∧ (SqL K H p ys ∨ SqT K H p ys) ∧ Q (.int ys.length) H) := e ▸ call_len_seq
theorem ix_listK (e : X.K = K) : IxR X (rIxL K) := e ▸ ix_list
theorem ix_tupK (e : X.K = K) : IxR X (rIxT K) := e ▸ ix_tup
theorem pi_listK {tg l : Expr} {tl : TE} (e : X.K = K) (hl : PE X l tl) : PI X tg l (iList K tl) := e ▸ pi_list hl
theorem pi_tupK {tg l : Expr} {tl : TE} (e : X.K = K) (hl : PE X l tl) : PI X tg l (iTup K tl) := e ▸ pi_tup hl
theorem sl_listK (e : X.K = K) : SlR X (rSlL K) := e ▸ sl_list
theorem sl_tupAK (e : X.K = K) : SlR X (rSlA K) := e ▸ sl_tupA
theorem op_inK (e : X.K = K) : OpR X (compareOp .In) (rIn K false) := e ▸ op_in_seq
theorem op_notInK (e : X.K = K) : OpR X (compareOp .NotIn) (rIn K true) := e ▸ op_notIn_seq
theorem op_catAK (e : X.K = K) : OpR X (binaryOp .Add) (rCatA K) := e ▸ op_catA
theorem cr_sumK (e : X.K = K) (hc : X.calm = true) : CallR X (.builtin "sum") (rSum K) := e ▸ cr_sum hc
theorem cr_allK (e : X.K = K) (hc : X.calm = true) : CallR X (.builtin "all") (rAll K) := e ▸ cr_all hc
theorem call_sumTK (e : X.K = K) (hc : X.calm = true) : CallR X (.builtin "sum") (rSumT K) := e ▸ call_sumT hc
theorem call_tuple_ofK (e : X.K = K) : CallR X (.type "tuple") (fun xs H Q => ∃ p ys, xs = [.ref p] ∧ ((SqL K H p ys ∧ ∀ l, H l = none → Q (.ref l) (upd H l (.tup ys))) ∨ (SqT K H p ys ∧ Q (.ref p) H))) := e ▸ call_tuple_of
theorem call_list_ofK (e : X.K = K) : CallR X (.type "list") (fun xs H Q => ∃ p ys, xs = [.ref p] ∧ (SqL K H p ys ∨ SqT K H p ys) ∧ ∀ l, H l = none → Q (.ref l) (upd H l (.lst ys))) := e ▸ call_list_of
end
/-! ### comprehensions over lists of pairs, of triples -/
section
variable {J : It} {n : Nat} {S : Hp → Prop} {tt : TT} {te : TE} {vs : List Nat} {σ : L2.St} {H1 : Hp} {D : Addr} {Qd : Hp → Prop}
theorem lc_pair {R : Nat → V → Prop} {K : PySem.W.Frag} {a b : Nat} (P : Sng J n R S) (p : Nat → Bool) (d : Nat → PyData) (R2 : Nat → V → V → Prop) (hn : n ≤ 100000) (hS : ∀ H, Same H1 H → S H)
    (hp : ∀ i x H', i < n → R i x → Same H1 H' → ∃ T u v, x = .ref T ∧ H' T = some (.tup [u, v]) ∧ R2 i u v)
    (ht : ∀ i x y H', i < n → R2 i x y → Same H1 H' → ∀ Q : Bool → Hp → Prop, (∀ H3, Same H' H3 → Q (p i) H3) → tt (((wipe σ vs).set a (some x)).set b (some y)) H' Q)
    (he : ∀ i x y H', i < n → R2 i x y → Same H1 H' → p i = true → ∀ Q : VK, (∀ v H4, Same H' H4 → TD H4 v (d i) → Q v H4) → te (((wipe σ vs).set a (some x)).set b (some y)) H' Q)
    (hd : ∀ ys H', Same H1 H' → H' D = some (.lst ys) → TDs H' ys (pick p d n) → Qd H') (hD : H1 D = none) (hj : a ∈ vs := by decide) (hk : b ∈ vs := by decide) :
    ∃ W : Nat → Nat → Hp → Prop, (∃ m, W 0 m (upd H1 D (.lst []))) ∧ ∀ i m H, W i m H →
      (J.stop i H ∧ Qd H) ∨ (J.go i H ∧ ∃ Nx : Hp → Prop, (∀ H', Nx H' → ∃ m', m' < m ∧ W (i + 1) m' H') ∧ ∀ x H', J.yld i H x H' → gTup K 2 (gCons (gName a) (gCons (gName b) gNil)) x (wipe σ vs) H' fun σ2 H2 => wipe σ2 vs = wipe σ vs ∧ tt σ2 H2 fun b H3 =>
        if b = true then te σ2 H3 fun y H4 => ∃ acc, H4 D = some (.lst acc) ∧ acc.length < sizeLine ∧ Nx (upd H4 D (.lst (acc ++ [y]))) else Nx H3) := by
  refine ⟨fun i m H => m = n - i ∧ i ≤ n ∧ LcW H1 p d D i H, ⟨n, rfl, Nat.zero_le _, Same.new hD, [], upd_same, .nil⟩, ?_⟩
  rintro i m H ⟨rfl, hi, w⟩
  have s := hS H w.1
  by_cases hlt : i < n
  · refine .inr ⟨P.go i H hlt s, LcW H1 p d D (i + 1), fun H' p' => ⟨n - (i + 1), by omega, rfl, hlt, p'⟩, fun v H' y => ?_⟩
    obtain ⟨rfl, r⟩ := P.yld i H v H' hlt s y
    obtain ⟨T, u, v, rfl, hT, r2⟩ := hp i v H' hlt r w.1
    refine gp2 hT ⟨wipe2 hj hk, lcw_step hD w (Same.refl _) (by omega) (ht i u v H' hlt r2 w.1) fun c H3 s3 => ?_⟩
    exact he i u v H3 hlt r2 (w.1.trans s3) c
  · have e : i = n := by omega
    subst e
    obtain ⟨w1, ys, w2, w3⟩ := w
    exact .inl ⟨P.stop H s, hd ys H w1 w2 w3⟩
theorem lc_trip {R : Nat → V → Prop} {K : PySem.W.Frag} {a b c : Nat} (P : Sng J n R S) (p : Nat → Bool) (d : Nat → PyData) (R2 : Nat → V → V → V → Prop) (hn : n ≤ 100000) (hS : ∀ H, Same H1 H → S H)
    (hp : ∀ i x H', i < n → R i x → Same H1 H' → ∃ T u v w, x = .ref T ∧ H' T = some (.tup [u, v, w]) ∧ R2 i u v w)
    (ht : ∀ i x y z H', i < n → R2 i x y z → Same H1 H' → ∀ Q : Bool → Hp → Prop, (∀ H3, Same H' H3 → Q (p i) H3) → tt ((((wipe σ vs).set a (some x)).set b (some y)).set c (some z)) H' Q)
    (he : ∀ i x y z H', i < n → R2 i x y z → Same H1 H' → p i = true → ∀ Q : VK, (∀ v H4, Same H' H4 → TD H4 v (d i) → Q v H4) → te ((((wipe σ vs).set a (some x)).set b (some y)).set c (some z)) H' Q)
    (hd : ∀ ys H', Same H1 H' → H' D = some (.lst ys) → TDs H' ys (pick p d n) → Qd H') (hD : H1 D = none) (hj : a ∈ vs := by decide) (hk : b ∈ vs := by decide) (hl : c ∈ vs := by decide) :
    ∃ W : Nat → Nat → Hp → Prop, (∃ m, W 0 m (upd H1 D (.lst []))) ∧ ∀ i m H, W i m H →
      (J.stop i H ∧ Qd H) ∨ (J.go i H ∧ ∃ Nx : Hp → Prop, (∀ H', Nx H' → ∃ m', m' < m ∧ W (i + 1) m' H') ∧ ∀ x H', J.yld i H x H' → gTup K 3 (gCons (gName a) (gCons (gName b) (gCons (gName c) gNil))) x (wipe σ vs) H' fun σ2 H2 => wipe σ2 vs = wipe σ vs ∧ tt σ2 H2 fun b H3 =>
        if b = true then te σ2 H3 fun y H4 => ∃ acc, H4 D = some (.lst acc) ∧ acc.length < sizeLine ∧ Nx (upd H4 D (.lst (acc ++ [y]))) else Nx H3) := by
  refine ⟨fun i m H => m = n - i ∧ i ≤ n ∧ LcW H1 p d D i H, ⟨n, rfl, Nat.zero_le _, Same.new hD, [], upd_same, .nil⟩, ?_⟩
  rintro i m H ⟨rfl, hi, w⟩
  have s := hS H w.1
  by_cases hlt : i < n
  · refine .inr ⟨P.go i H hlt s, LcW H1 p d D (i + 1), fun H' p' => ⟨n - (i + 1), by omega, rfl, hlt, p'⟩, fun v H' y => ?_⟩
    obtain ⟨rfl, r⟩ := P.yld i H v H' hlt s y
    obtain ⟨T, u, v, z, rfl, hT, r2⟩ := hp i v H' hlt r w.1
    refine gp3 hT ⟨wipe3 hj hk hl, lcw_step hD w (Same.refl _) (by omega) (ht i u v z H' hlt r2 w.1) fun c H3 s3 => ?_⟩
    exact he i u v z H3 hlt r2 (w.1.trans s3) c
  · have e : i = n := by omega
    subst e
    obtain ⟨w1, ys, w2, w3⟩ := w
    exact .inl ⟨P.stop H s, hd ys H w1 w2 w3⟩
end
end Tr
end
section
set_option Elab.async false
set_option linter.all false
set_option maxRecDepth 100000
set_option maxHeartbeats 4000000
namespace Tr
open PySem PySem.Spec PyProof.Rows L2
theorem line0 : 0 ≤ sizeLine := by decide
theorem line1 : 1 ≤ sizeLine := by decide
theorem line2 : 2 ≤ sizeLine := by decide
theorem line3 : 3 ≤ sizeLine := by decide
/-! ### the dict of seats -/
def sdF (o : Int) : List Int → List (Key × V)
  | [] => []
  | s :: ss => (.inl o, .int s) :: sdF (o + 1) ss
def sd (ss : List Int) : List (Key × V) := sdF 0 ss
theorem sdF_vals : ∀ (ss : List Int) (o : Int), (sdF o ss).map (·.2) = ss.map V.int
  | [], _ => rfl
  | s :: ss, o => by simp [sdF, sdF_vals ss]
theorem sdF_len : ∀ (ss : List Int) (o : Int), (sdF o ss).length = ss.length
  | [], _ => rfl
  | s :: ss, o => by simp [sdF, sdF_len ss]
theorem sdF_get : ∀ (ss : List Int) (o : Int) (i : Nat), (sdF o ss)[i]? = (ss[i]?).map fun s => (Sum.inl (o + i), V.int s)
  | [], _, _ => rfl
  | s :: ss, o, 0 => by simp [sdF]
  | s :: ss, o, i + 1 => by
    simp only [sdF, List.getElem?_cons_succ, sdF_get ss]
    rw [show o + 1 + (i : Int) = o + ((i + 1 : Nat) : Int) by omega]
theorem sdF_val : ∀ (ss : List Int) (o : Int) (k : Nat), valV (sdF o ss) (Sum.inl (o + k)) = (ss[k]?).map V.int
  | [], _, _ => rfl
  | s :: ss, o, 0 => by
    unfold sdF
    rw [valV_pos (by simp)]
    rfl
  | s :: ss, o, k + 1 => by
    unfold sdF
    have n : (Sum.inl o : Key) ≠ Sum.inl (o + ((k + 1 : Nat) : Int)) := fun z => by injection z; omega
    rw [valV_neg n, show o + ((k + 1 : Nat) : Int) = o + 1 + (k : Int) by omega, sdF_val ss]
    rfl
theorem sdF_app : ∀ (ss : List Int) (o s : Int), sdF o (ss ++ [s]) = sdF o ss ++ [(Sum.inl (o + ss.length), V.int s)]
  | [], o, s => by simp [sdF]
  | t :: ss, o, s => by
    simp only [List.cons_append, sdF, sdF_app ss, List.length_cons]
    rw [show o + 1 + (ss.length : Int) = o + ((ss.length + 1 : Nat) : Int) by omega]
theorem sdF_any : ∀ (ss : List Int) (o k : Int), o + ss.length ≤ k → ((sdF o ss).any fun kv => decide (kv.1 = (Sum.inl k : Key))) = false
  | [], _, _, _ => rfl
  | s :: ss, o, k, h => by
    rw [List.length_cons] at h
    have n : (Sum.inl o : Key) ≠ Sum.inl k := fun z => by injection z; omega
    simp only [sdF, List.any_cons, sdF_any ss (o + 1) k (by omega), Bool.or_false]
    exact decide_eq_false n
theorem sd_put (ss : List Int) (s : Int) : putK (sd ss) (Sum.inl (ss.length : Int)) (.int s) = sd (ss ++ [s]) := by
  unfold putK sd
  rw [if_neg (by rw [sdF_any ss 0 _ (by omega)]; decide), sdF_app]
  simp
theorem sd_val (ss : List Int) (k : Nat) : valV (sd ss) (Sum.inl (k : Int)) = (ss[k]?).map V.int := by
  have := sdF_val ss 0 k
  rw [Int.zero_add] at this
  exact this
theorem sd_get (ss : List Int) (i : Nat) : (sd ss)[i]? = (ss[i]?).map fun s => (Sum.inl (i : Int), V.int s) := by
  have := sdF_get ss 0 i
  simp only [Int.zero_add] at this
  exact this
theorem sd_vals (ss : List Int) : (sd ss).map (·.2) = ss.map V.int := sdF_vals ss 0
theorem inV_ints {x : Int} : ∀ {xs : List Int}, inV (.int x) (xs.map V.int) = decide (x ∈ xs)
  | [] => rfl
  | y :: xs => by
    have ih := inV_ints (x := x) (xs := xs)
    unfold inV at *
    rw [List.map_cons, List.any_cons, ih]
    show ((y == x) || _) = _
    by_cases c : y = x
    · subst c; simp
    · have c' : x ≠ y := fun e => c e.symm
      simp [c, c']
theorem flat_ints (xs : List Int) : (xs.map V.int).all flatV = true := by
  rw [List.all_map, List.all_eq_true]
  intro x _
  rfl
theorem pick_list {α : Type} {l : List α} {d0 : α} (p : α → Bool) (D : α → PyData) : pick (fun i => p (l.getD i d0)) (fun i => D (l.getD i d0)) l.length = (l.filter p).map D := by
  rw [pick_eq]
  have e : l = (List.range l.length).map fun i => l.getD i d0 := by
    refine List.ext_getElem? fun i => ?_
    by_cases c : i < l.length
    · simp [c, List.getElem?_eq_getElem c, List.getD_eq_getElem?_getD]
    · simp [c]
  have e2 : l.filter p = ((List.range l.length).filter fun i => p (l.getD i d0)).map fun i => l.getD i d0 := by
    conv => lhs; rw [e]
    rw [List.filter_map]
    rfl
  rw [e2, List.map_map]
  rfl
theorem pickI_list {l : List Int} (p : Int → Bool) : pickI (fun i => p (l.getD i 0)) (fun i => l.getD i 0) l.length = l.filter p := by
  have h := pick_list (d0 := 0) (l := l) p PyData.int
  have h2 := pick_int (p := fun i => p (l.getD i 0)) (f := fun i => l.getD i 0) (n := l.length)
  rw [h2] at h
  exact (List.map_inj_right (fun a b e => by injection e)).mp h
/-! ### sorted -/
def insI (a : Int) : List Int → List Int
  | [] => [a]
  | b :: l => if a ≤ b then a :: b :: l else b :: insI a l
def srt : List Int → List Int
  | [] => []
  | a :: l => insI a (srt l)
theorem insI_perm (a : Int) : ∀ l, (insI a l).Perm (a :: l)
  | [] => .refl _
  | b :: l => by
    unfold insI
    split
    · exact .refl _
    · exact ((insI_perm a l).cons b).trans (.swap a b l)
theorem srt_perm : ∀ l, (srt l).Perm l
  | [] => .refl _
  | a :: l => (insI_perm a (srt l)).trans ((srt_perm l).cons a)
theorem insI_pw (a : Int) : ∀ {l : List Int}, l.Pairwise (· ≤ ·) → (insI a l).Pairwise (· ≤ ·)
  | [], _ => by simp [insI]
  | b :: l, h => by
    rw [List.pairwise_cons] at h
    unfold insI
    split
    · rename_i c
      refine List.pairwise_cons.mpr ⟨fun x hx => ?_, List.pairwise_cons.mpr h⟩
      rcases List.mem_cons.mp hx with rfl | hx
      · exact c
      · exact Int.le_trans c (h.1 x hx)
    · rename_i c
      refine List.pairwise_cons.mpr ⟨fun x hx => ?_, insI_pw a h.2⟩
      rcases List.mem_cons.mp ((insI_perm a l).mem_iff.mp hx) with rfl | hx
      · omega
      · exact h.1 x hx
theorem srt_pw : ∀ l, (srt l).Pairwise (· ≤ ·)
  | [] => .nil
  | a :: l => insI_pw a (srt_pw l)
theorem srt_eq {l m : List Int} (p : m.Perm l) (h : m.Pairwise (· ≤ ·)) : m = srt l :=
  (p.trans (srt_perm l).symm).eq_of_pairwise (fun a b _ _ h1 h2 => Int.le_antisymm h1 h2) h (srt_pw l)
/-! ### mirrors -/
def frees (n : Nat) (ss : List Int) : List Int := pickI (fun i => !decide ((i : Int) ∈ ss)) (fun i => (i : Int)) n
def badly (r ss : List Int) : Nat := (pickI (fun i => decide (ss.getD i 0 > r.getD i 0)) (fun i => (i : Int)) ss.length).length
def oths (n : Nat) (ss : List Int) : List Int := pickI (fun i => !(ss[i]?).isSome) (fun i => (i : Int)) n
def steps (r ss : List Int) : List Int := srt ((List.range (oths r.length ss).length).map fun j => (((frees r.length ss).filter fun s => decide (s ≤ r.getD ((oths r.length ss).getD j 0).toNat 0)).length : Int))
def sprA (r : List Int) (q : Int) (ss : List Int) : List (Int × Int) := (List.range (sg (steps r ss)).length).map fun (i : Nat) => (q - badly r ss - (oths r.length ss).length + (i : Nat), (sg (steps r ss)).getD i 0)
def spr (r : List Int) (q : Int) (ss : List Int) : List (Int × Int) := (sprA r q ss).filter fun p => decide (p.1 ≥ 0) && decide (p.2 > 0)
def ww (r : List Int) (q : Int) (ss : List Int) : Int := ((spr r q ss).map fun p => p.2 * ch (p.1 + r.length - 1) (r.length - 1)).sum
def prD (p : Int × Int) : PyData := .tuple [.int p.1, .int p.2]
theorem oths_len (n : Nat) (ss : List Int) : (oths n ss).length ≤ n := pickI_len
theorem steps_len (r ss : List Int) : (steps r ss).length ≤ r.length := by
  unfold steps
  rw [(srt_perm _).length_eq, List.length_map, List.length_range]
  exact oths_len _ _
theorem steps_sz {r ss : List Int} (h : r.length ≤ 16) : Szs 8 (steps r ss) := fun x hx => by
  obtain ⟨j, _, rfl⟩ := List.mem_map.mp ((srt_perm _).mem_iff.mp hx)
  have h1 : ((frees r.length ss).filter fun s => decide (s ≤ r.getD ((oths r.length ss).getD j 0).toNat 0)).length ≤ (frees r.length ss).length := List.length_filter_le _ _
  have h2 : (frees r.length ss).length ≤ r.length := pickI_len
  exact Sz.bd (by omega) (by omega)
/-! ### walks -/
def spSpread : Sp := fun vs H Q _ => ∃ (a d : Addr) (r : List Int) (q : Int) (ss : List Int), vs = [.ref a, .int q, .ref d] ∧ H a = some (.tup (r.map V.int)) ∧ H d = some (.dK (sd ss)) ∧ r.length ≤ 16 ∧ ss.length ≤ r.length ∧
  ∀ p ys H', H p = none → Same H H' → H' p = some (.lst ys) → TDs H' ys ((spr r q ss).map prD) → Q (.ref p) H'
def spWays : Sp := fun vs H Q _ => ∃ (a d : Addr) (r : List Int) (q : Int) (ss : List Int), vs = [.ref a, .int q, .ref d] ∧ H a = some (.tup (r.map V.int)) ∧ H d = some (.dK (sd ss)) ∧ r.length ≤ 16 ∧ 1 ≤ r.length ∧ ss.length ≤ r.length ∧ Sz 190 q ∧
  ∀ H', Same H H' → Q (.int (ww r q ss)) H'
def spSeated : Sp := fun vs H Q _ => ∃ (d : Addr) (ss : List Int) (s : Int), vs = [.ref d, .int ss.length, .int s] ∧ H d = some (.dK (sd ss)) ∧ ss.length ≤ 16 ∧ ∀ p H', H p = none → Same H H' → H' p = some (.dK (sd (ss ++ [s]))) → Q (.ref p) H'
section
variable {P : Program} {w : World} {K : PySem.W.Frag} {mg : Str → Option Value} {base : Heap}
theorem sc_spread : FnScope ["residues", "quota", "seated", "size", "free", "seat", "badly", "person", "others", "steps", "found", "well", "ways", "left"] ["residues", "quota", "seated"] (defScope s_spread) := ⟨rfl, rfl, rfl, by decide +kernel, rfl, by decide +kernel, by decide +kernel⟩
theorem ok_spread (T : Tx K mg) : FnOk P w K mg base CX0 3 (He.ga K "spread") (fdOf K (He.ga K "spread")) ["residues", "quota", "seated"] spSpread := by
  refine T.F_spread.ok sc_spread (fun vs H Q E h => ?_) (fun cdv A outer s H vs Q E hr h => ?_)
  · obtain ⟨a, d, r, q, ss, rfl, _⟩ := h
    rfl
  · obtain ⟨a, d, r, q, ss, rfl, ha, hd, hl, hs, h⟩ := h
    have hu := hu_of hr
    refine ⟨_, PSs.nox (pss_cons (ps_asg (pe_tup (pa_cons (pe_callB call_len_seq rfl T.b_len bt_len (pa_cons (pv 0) pa_nil)) (pa_cons (pe_lc (own := [("seat", 5)]) (g := gName 5) rfl sc_spread.nd (pi_range1 rfl T.b_range (pa_cons (pe_callB call_len_seq rfl T.b_len bt_len (pa_cons (pv 0) pa_nil)) pa_nil)) (blkOk_by (own := [("seat", 5)]) (N := ["residues", "quota", "seated", "size", "free", "seat", "badly", "person", "others", "steps", "found", "well", "ways", "left"]) (by kernel_rfl)) (fun _ _ _ _ _ => (pg_name (i := 5) sc_spread.nd rfl (Or.inl rfl))) (fun _ _ _ _ _ => (pts_one (pt_cmpR (op_notInVals rfl) (pv 5) (pe_vals (pv 2)) (by rfl)))) (fun _ _ _ _ _ => (pv 5))) pa_nil))) (pg_tup rfl (pgs_cons (pg_name (i := 3) sc_spread.nd rfl (Or.inl rfl)) (pgs_cons (pg_name (i := 4) sc_spread.nd rfl (Or.inr rfl)) pgs_nil))))
      (pss_cons (ps_set (i := 6) sc_spread.nd rfl (Or.inr rfl) (pe_callB call_len_seq rfl T.b_len bt_len (pa_cons (pe_lock (pe_lc (own := [("person", 7), ("seat", 5)]) (g := gTup K 2 (gCons (gName 7) (gCons (gName 5) gNil))) rfl sc_spread.nd (pi_items (pv 2)) (blkOk_by (own := [("person", 7), ("seat", 5)]) (N := ["residues", "quota", "seated", "size", "free", "seat", "badly", "person", "others", "steps", "found", "well", "ways", "left"]) (by kernel_rfl)) (fun _ _ _ _ _ => (pg_tup rfl (pgs_cons (pg_name (i := 7) sc_spread.nd rfl (Or.inl rfl)) (pgs_cons (pg_name (i := 5) sc_spread.nd rfl (Or.inl rfl)) pgs_nil)))) (fun _ _ _ _ _ => (pts_one (pt_cmpR op_gt (pv 5) (pe_ix (ix_tupK (K := K) rfl) (pv 0) (pv 7) (fun _ _ => rfl)) (nomark _)))) (fun _ _ _ _ _ => (pv 7)))) pa_nil)))
      (pss_cons (ps_set (i := 8) sc_spread.nd rfl (Or.inr rfl) (pe_lc (own := [("person", 7)]) (g := gName 7) rfl sc_spread.nd (pi_range1 rfl T.b_range (pa_cons (pv 3) pa_nil)) (blkOk_by (own := [("person", 7)]) (N := ["residues", "quota", "seated", "size", "free", "seat", "badly", "person", "others", "steps", "found", "well", "ways", "left"]) (by kernel_rfl)) (fun _ _ _ _ _ => (pg_name (i := 7) sc_spread.nd rfl (Or.inl rfl))) (fun _ _ _ _ _ => (pts_one (pt_cmp (pc_dnotin hu (pv 7) (pv 2))))) (fun _ _ _ _ _ => (pv 7))))
      (pss_cons (ps_set (i := 9) sc_spread.nd rfl (Or.inl rfl) (pe_callB cr_sorted rfl T.b_sorted bt_sorted (pa_cons (pe_lc (own := [("person", 7)]) (g := gName 7) rfl sc_spread.nd (pi_list (pv 8)) (blkOk_by (own := [("person", 7)]) (N := ["residues", "quota", "seated", "size", "free", "seat", "badly", "person", "others", "steps", "found", "well", "ways", "left"]) (by kernel_rfl)) (fun _ _ _ _ _ => (pg_name (i := 7) sc_spread.nd rfl (Or.inr rfl))) (fun _ _ _ _ _ => pts_nil) (fun _ _ _ _ _ => (pe_callB (call_lenK (K := K) rfl) rfl T.b_len bt_len (pa_cons (pe_lc (own := [("seat", 5)]) (g := gName 5) rfl sc_spread.nd (pi_listK (K := K) rfl (pv 4)) (blkOk_by (own := [("seat", 5)]) (N := ["residues", "quota", "seated", "size", "free", "seat", "badly", "person", "others", "steps", "found", "well", "ways", "left"]) (by kernel_rfl)) (fun _ _ _ _ _ => (pg_name (i := 5) sc_spread.nd rfl (Or.inl rfl))) (fun _ _ _ _ _ => (pts_one (pt_cmpR op_le (pv 5) (pe_ix (ix_tupK (K := K) rfl) (pv 0) (pv 7) (fun _ _ => rfl)) (nomark _)))) (fun _ _ _ _ _ => (pv 5))) pa_nil)))) pa_nil)))
      (pss_cons (ps_setLc (i := 10) (own := [("well", 11), ("ways", 12)]) (g := gTup K 2 (gCons (gName 11) (gCons (gName 12) gNil))) rfl sc_spread.nd rfl rfl (sw_true rfl rfl rfl (by kernel_rfl)) (pi_enum rfl T.b_enumerate (pa_cons (pe_call (ok_seatings T) (hr.mono (by decide)) rfl T.g_seatings T.F_seatings.kp T.b_f_seatings .nil pass0 (pa_cons (pv 9) pa_nil)) pa_nil)) (blkOk_by (own := [("well", 11), ("ways", 12)]) (N := ["residues", "quota", "seated", "size", "free", "seat", "badly", "person", "others", "steps", "found", "well", "ways", "left"]) (by kernel_rfl)) (fun _ _ _ _ _ => (pg_tup rfl (pgs_cons (pg_name (i := 11) sc_spread.nd rfl (Or.inl rfl)) (pgs_cons (pg_name (i := 12) sc_spread.nd rfl (Or.inl rfl)) pgs_nil)))) (fun _ _ _ _ _ => pts_nil) (fun _ _ _ _ _ => (pe_tup (pa_cons (pe_op op_add (pe_op op_sub (pe_op op_sub (pv 1) (pv 6)) (pe_callB (call_lenK (K := K) rfl) rfl T.b_len bt_len (pa_cons (pv 8) pa_nil))) (pv 11)) (pa_cons (pv 12) pa_nil)))))
      (pss_one (ps_ret (pe_lc (own := [("left", 13), ("ways", 12)]) (g := gTup K 2 (gCons (gName 13) (gCons (gName 12) gNil))) rfl sc_spread.nd (pi_list (pv 10)) (blkOk_by (own := [("left", 13), ("ways", 12)]) (N := ["residues", "quota", "seated", "size", "free", "seat", "badly", "person", "others", "steps", "found", "well", "ways", "left"]) (by kernel_rfl)) (fun _ _ _ _ _ => (pg_tup rfl (pgs_cons (pg_name (i := 13) sc_spread.nd rfl (Or.inl rfl)) (pgs_cons (pg_name (i := 12) sc_spread.nd rfl (Or.inl rfl)) pgs_nil)))) (fun _ _ _ _ _ => (pts_one (PW.pt (pw_and (pt_cmpR op_ge (pv 13) pe_int (nomark _)) (pw_and1 (pt_cmpR op_gt (pv 12) pe_int (nomark _))))))) (fun _ _ _ _ _ => (pe_tup (pa_cons (pv 13) (pa_cons (pv 12) pa_nil)))))))))))), ?_⟩
    have ez := sizeLine_eq
    refine ⟨_, rfl, a, _, rfl, .inr (SqT.of ha), _, rfl, a, _, rfl, .inr (SqT.of ha), _, rfl, ?_, ?_, ?_⟩
    · rw [List.length_map]; omega
    · rw [List.length_map]; omega
    rw [List.length_map, Int.toNat_natCast]
    intro D hD
    refine lc_sngI sng_range (fun i => !decide ((i : Int) ∈ ss)) (fun i => (i : Int)) ?_ (fun _ _ => trivial) ?_ ?_ ?_ hD
    · omega
    · rintro i x H' hi rfl e Q q
      refine ⟨_, rfl, _, rfl, d, _, rfl, e _ _ hd, fun p hp => ⟨p, d, _, rfl, upd_same, kp1 (e _ _ hd) hp, rfl, ?_, _, rfl, ?_⟩⟩
      · rw [sd_vals]; exact flat_ints ss
      · rw [sd_vals, inV_ints, Int.zero_add]
        exact q _ (Same.new hp)
    · rintro i x H' hi rfl e _ Q q
      refine ⟨_, rfl, ?_⟩
      rw [Int.zero_add]
      exact q _ (Same.refl _)
    intro H1 e1 hD1
    refine ⟨line2, fun t ht => gp2 upd_same ?_⟩
    have hF2 := kp1 (u := .tup [.int r.length, .ref D]) hD1 ht
    have e2 : Same H (upd H1 t (.tup [.int r.length, .ref D])) := e1.trans (Same.new ht)
    generalize upd H1 t (.tup [.int r.length, .ref D]) = H2 at *
    clear ht t e1 hD1 H1
    refine ⟨d, _, e2 _ _ hd, trivial, fun od => ?_⟩
    have hL := fun {b : Addr} {o : HO} (h : H2 b = some o) (n : b ≠ d) => lock_in (od := od) (e2 _ _ hd) h n
    have had : a ≠ d := ne_of ha hd (fun z => by cases z)
    refine ⟨_, rfl, d, od, sd ss, rfl, upd_same, fun D2 hD2 => ?_⟩
    refine lc_prsI prs_items (fun i => decide (ss.getD i 0 > r.getD i 0)) (fun i => (i : Int)) ?_ ?_ ?_ ?_ ?_ hD2
    · rw [sd, sdF_len]; omega
    · exact fun H' e => e _ _ upd_same
    · rintro i x y H' hi ⟨k, hk, rfl⟩ e Q q
      rw [sd_get] at hk
      rw [sd, sdF_len] at hi
      obtain ⟨n, hn⟩ := get_lt hi
      rw [hn] at hk
      cases hk
      obtain ⟨m, hm⟩ := get_lt (xs := r) (i := i) (by omega)
      refine ⟨_, rfl, _, rfl, _, rfl, a, _, _, _, rfl, rfl, SqT.of (e _ _ (hL (e2 _ _ ha) had)), atI_nat (get_int hm), _, _, rfl, rfl, _, rfl, ?_⟩
      have := q _ (Same.refl _)
      rw [List.getD_eq_getElem?_getD, List.getD_eq_getElem?_getD, hn, hm] at this
      exact this
    · rintro i x y H' hi ⟨k, hk, rfl⟩ e _ Q q
      rw [sd_get] at hk
      rw [sd, sdF_len] at hi
      obtain ⟨n, hn⟩ := get_lt hi
      rw [hn] at hk
      cases hk
      exact ⟨_, rfl, q _ (Same.refl _)⟩
    intro H3 e3 hD3
    refine ⟨e3 _ _ upd_same, ?_⟩
    have n1 : D2 ≠ d := fun z => by
      rw [z, upd_same] at hD2
      cases hD2
    have n2 : D ≠ d := fun z => by
      rw [z, hd] at hD
      cases hD
    have e4 : Same H (upd H3 d (.dK (sd ss))) := e2.trans (lock_same (e2 _ _ hd) e3)
    have hD4 : upd H3 d (.dK (sd ss)) D2 = _ := (upd_ne n1).trans hD3
    have hF4 : upd H3 d (.dK (sd ss)) D = _ := (upd_ne n2).trans (e3 _ _ (hL hF2 n2))
    generalize upd H3 d (.dK (sd ss)) = H4 at *
    refine ⟨D2, _, rfl, .inl (SqL.of hD4), ?_⟩
    have eb : ((List.map V.int (pickI (fun i => decide (ss.getD i 0 > r.getD i 0)) (fun i => (i : Int)) (sd ss).length)).length : Int) = badly r ss := by
      rw [List.length_map, sd, sdF_len]
      rfl
    rw [eb]
    clear hD4 hD3 eb
    refine ⟨_, rfl, _, rfl, by omega, by omega, ?_⟩
    intro D3 hD3
    rw [Int.toNat_natCast]
    refine lc_sngI sng_range (fun i => !(ss[i]?).isSome) (fun i => (i : Int)) ?_ (fun _ _ => trivial) ?_ ?_ ?_ hD3
    · omega
    · rintro i x H' hi rfl e Q q
      refine ⟨_, rfl, _, rfl, d, _, rfl, DGet.k (k := Sum.inl (0 + (i : Int))) (e _ _ (e4 _ _ hd)), _, rfl, ?_⟩
      rw [Int.zero_add, sd_val]
      have q2 := q H' (Same.refl _)
      cases h2 : ss[i]? with
      | none => rw [h2] at q2; exact q2
      | some n => rw [h2] at q2; exact q2
    · rintro i x H' hi rfl e _ Q q
      refine ⟨_, rfl, ?_⟩
      rw [Int.zero_add]
      exact q _ (Same.refl _)
    intro H5 e5 hO5
    have eO : pickI (fun i => !(ss[i]?).isSome) (fun i => (i : Int)) r.length = oths r.length ss := rfl
    have eF : pickI (fun i => !decide ((i : Int) ∈ ss)) (fun i => (i : Int)) r.length = frees r.length ss := rfl
    rw [eO] at hO5
    rw [eF] at hF4
    have hF5 := e5 _ _ hF4
    have e6 : Same H H5 := e4.trans e5
    clear hF4 e5 hD3 e4 H4 eO eF
    have lo := oths_len r.length ss
    refine ⟨_, rfl, D3, rfl, ⟨_, SqL.of hO5⟩, fun D4 hD4 => ?_⟩
    refine lc_sngI (sng_list (xs := (oths r.length ss).map V.int)) (fun _ => true) (fun j => (((frees r.length ss).filter fun s => decide (s ≤ r.getD ((oths r.length ss).getD j 0).toNat 0)).length : Int)) ?_ ?_ ?_ ?_ ?_ hD4
    · rw [List.length_map]; omega
    · exact fun H' e => SqL.of (e _ _ hO5)
    · exact fun i x H' _ _ _ Q q => q _ (Same.refl _)
    · rintro i x H' hi hx e _ Q q
      obtain ⟨n, rfl, hn⟩ := int_get hx
      have eg : (oths r.length ss).getD i 0 = n := by rw [List.getD_eq_getElem?_getD, hn]; rfl
      have hn2 : ∃ k : Nat, k < r.length ∧ n = k := by
        have hm := List.mem_of_getElem? hn
        obtain ⟨k, hk, rfl⟩ := List.mem_map.mp hm
        exact ⟨k, List.mem_range.mp (List.mem_filter.mp hk).1, rfl⟩
      obtain ⟨k, hk, rfl⟩ := hn2
      obtain ⟨m, hm⟩ := get_lt hk
      rw [eg] at q
      refine ⟨_, rfl, D, rfl, ⟨_, SqL.of (e _ _ hF5)⟩, fun D5 hD5 => ?_⟩
      refine lc_sngI (sng_list (xs := (frees r.length ss).map V.int)) (fun j => decide ((frees r.length ss).getD j 0 ≤ r.getD ((k : Int)).toNat 0)) (fun j => (frees r.length ss).getD j 0) ?_ ?_ ?_ ?_ ?_ hD5
      · rw [List.length_map]
        have : (frees r.length ss).length ≤ r.length := pickI_len
        omega
      · exact fun H' e' => SqL.of (e' _ _ (e _ _ hF5))
      · rintro j y H7 hj hy e7 Q q
        obtain ⟨f, rfl, hf⟩ := int_get hy
        refine ⟨_, rfl, _, rfl, _, rfl, a, _, _, _, rfl, rfl, SqT.of (e7 _ _ (e _ _ (e6 _ _ ha))), atI_nat (get_int hm), _, _, rfl, rfl, _, rfl, ?_⟩
        have := q _ (Same.refl _)
        rw [List.getD_eq_getElem?_getD, List.getD_eq_getElem?_getD, hf, Int.toNat_natCast, hm] at this
        exact this
      · rintro j y H7 hj hy e7 _ Q q
        obtain ⟨f, rfl, hf⟩ := int_get hy
        refine ⟨_, rfl, ?_⟩
        have := q _ (Same.refl _)
        rw [List.getD_eq_getElem?_getD, hf] at this
        exact this
      intro H7 e7 h7
      refine ⟨D5, _, rfl, .inl (SqL.of h7), ?_⟩
      have := q _ e7
      rw [List.length_map, List.length_map, pickI_list (l := frees r.length ss) fun s => decide (s ≤ r.getD ((k : Int)).toNat 0)]
      exact this
    intro H7 e7 h7
    rw [pickI_tt, List.length_map] at h7
    refine ⟨D4, _, rfl, SqL.of h7, ?_, fun ns' p hp hw hf => ?_⟩
    · rw [List.length_map, List.length_range]; omega
    have est : ns' = steps r ss := srt_eq hp hw
    subst est
    have e8 : Same H (upd H7 p (.lst ((steps r ss).map V.int))) := (e6.trans e7).trans (Same.new hf)
    have hO8 := kp1 (u := .lst ((steps r ss).map V.int)) (e7 _ _ hO5) hf
    refine ⟨_, rfl, p, _, rfl, upd_same, Nat.le_trans (steps_len r ss) hl, steps_sz hl, fun c H9 hc e9 h9 => ?_⟩
    have e9' := e8.trans e9
    have hO9 := e9 _ _ hO8
    refine ⟨c, _, rfl, SqL.of h9, fun D6 hD6 => ?_⟩
    have lst := steps_len r ss
    have lsg := sg_len (steps r ss)
    refine lc_prs (prs_enum (xs := (sg (steps r ss)).map V.int)) (fun _ => true) (fun i => prD (q - badly r ss - (oths r.length ss).length + (i : Nat), (sg (steps r ss)).getD i 0)) ?_ ?_ ?_ ?_ ?_ hD6
    · rw [List.length_map]; omega
    · exact fun H' e => SqL.of (e _ _ h9)
    · exact fun i x y H' _ _ _ Q q => q _ (Same.refl _)
    · rintro i x y H' hi ⟨rfl, hy⟩ e _ Q qq
      obtain ⟨n, rfl, hn⟩ := int_get hy
      have eg : (sg (steps r ss)).getD i 0 = n := by rw [List.getD_eq_getElem?_getD, hn]; rfl
      rw [eg] at qq
      refine ⟨_, rfl, _, rfl, _, _, rfl, rfl, _, rfl, D3, _, rfl, .inl (SqL.of (e _ _ hO9)), _, _, rfl, rfl, _, rfl, _, _, rfl, rfl, _, rfl, line2, fun t ht => ?_⟩
      refine qq _ _ (Same.new ht) (TD.mk upd_same (.cons ?_ (.cons (.int _) .nil)))
      rw [List.length_map]
      exact .int _
    intro ys H10 e10 h10 t10
    rw [pick_all (fun _ _ => rfl), List.length_map] at t10
    have t10' : TDs H10 ys ((sprA r q ss).map prD) := by
      unfold sprA
      rw [List.map_map]
      exact t10
    clear t10
    have e11 := e9'.trans e10
    refine ⟨_, rfl, D6, rfl, ⟨_, SqL.of h10⟩, fun D7 hD7 => ?_⟩
    have lys : ys.length = (sprA r q ss).length := by rw [t10'.1, List.length_map]
    have lsp : (sprA r q ss).length ≤ 100 := by unfold sprA; rw [List.length_map, List.length_range]; omega
    refine lc_pair (sng_list (xs := ys)) (fun i => decide (((sprA r q ss).getD i (0, 0)).1 ≥ 0) && decide (((sprA r q ss).getD i (0, 0)).2 > 0)) (fun i => prD ((sprA r q ss).getD i (0, 0)))
      (fun i u v => u = .int ((sprA r q ss).getD i (0, 0)).1 ∧ v = .int ((sprA r q ss).getD i (0, 0)).2) ?_ ?_ ?_ ?_ ?_ ?_ hD7
    · omega
    · exact fun H' e => SqL.of (e _ _ h10)
    · rintro i x H' hi hx e
      obtain ⟨pr, hp⟩ := get_lt (xs := sprA r q ss) (i := i) (by omega)
      have hpd : ((sprA r q ss).map prD)[i]? = some (prD pr) := by rw [List.getElem?_map, hp]; rfl
      obtain ⟨T, zs, rfl, hT, hz⟩ := TD.un ((t10'.2 i x _ hx hpd).mono e.tups)
      have hl2 := hz.1
      match zs, hl2 with
      | [u, v], _ =>
        refine ⟨T, u, v, rfl, hT, ?_⟩
        rw [List.getD_eq_getElem?_getD, hp]
        exact ⟨hz.head.i, hz.tail.head.i⟩
    · rintro i x y H' hi ⟨rfl, rfl⟩ e Q q
      refine ⟨_, rfl, _, _, rfl, rfl, _, rfl, iteD (fun c1 => ?_) fun c1 => ?_⟩
      · refine ⟨_, rfl, _, _, rfl, rfl, _, rfl, ?_⟩
        have := q _ (Same.refl _)
        rw [decide_eq_true c1, Bool.true_and] at this
        exact this
      · have := q _ (Same.refl _)
        rw [decide_eq_false c1, Bool.false_and] at this
        exact this
    · rintro i x y H' hi ⟨rfl, rfl⟩ e _ Q q
      exact ⟨_, rfl, _, rfl, line2, fun t ht => q _ _ (Same.new ht) (TD.mk upd_same (.cons (.int _) (.cons (.int _) .nil)))⟩
    intro zs H11 e12 h11 t11
    rw [lys, pick_list (l := sprA r q ss) (d0 := (0, 0)) (fun p => decide (p.1 ≥ 0) && decide (p.2 > 0)) prD] at t11
    exact h _ _ _ (e11.none hD7) (e11.trans e12) h11 t11
end
end Tr
end
section
set_option Elab.async false
set_option linter.all false
set_option maxRecDepth 100000
set_option maxHeartbeats 4000000
namespace Tr
open PySem PySem.Spec PyProof.Rows L2
theorem spr_sz {r ss : List Int} {q : Int} (hl : r.length ≤ 16) (hq : Sz 190 q) (hs : ss.length ≤ r.length) {p : Int × Int} (h : p ∈ spr r q ss) : Sz 195 p.1 ∧ Sz 4600 p.2 := by
  have h2 := (List.mem_filter.mp h).1
  obtain ⟨i, hi, rfl⟩ := List.mem_map.mp h2
  have lst := steps_len r ss
  have lsg := sg_len (steps r ss)
  have hi2 := List.mem_range.mp hi
  have lo := oths_len r.length ss
  have lb : badly r ss ≤ ss.length := pickI_len
  refine ⟨?_, getD_sz (sg_sz (steps_sz hl) (by omega))⟩
  refine Sz.add (a := 194) (b := 6) (Sz.sub (a := 193) (b := 5) (Sz.sub (a := 190) (b := 5) hq (Sz.bd (by omega) (by omega)) (by omega) (by omega)) (Sz.bd (by omega) (by omega)) (by omega) (by omega)) (Sz.bd (by omega) (by omega)) (by omega) (by omega)
section
variable {P : Program} {w : World} {K : PySem.W.Frag} {mg : Str → Option Value} {base : Heap}
theorem sc_seated_with : FnScope ["seated", "person", "seat", "found"] ["seated", "person", "seat"] (defScope s_seated_with) := ⟨rfl, rfl, rfl, by decide +kernel, rfl, by decide +kernel, by decide +kernel⟩
theorem ok_seated_with (T : Tx K mg) : FnOk P w K mg base CX0 1 (He.ga K "seated_with") (fdOf K (He.ga K "seated_with")) ["seated", "person", "seat"] spSeated := by
  refine T.F_seated_with.ok sc_seated_with (fun vs H Q E h => ?_) (fun cdv A outer s H vs Q E hr h => ?_)
  · obtain ⟨d, ss, s, rfl, _⟩ := h
    rfl
  · obtain ⟨d, ss, s, rfl, hd, hl, h⟩ := h
    have hu := hu_of hr
    refine ⟨_, PSs.nox (pss_cons (ps_set (i := 3) sc_seated_with.nd rfl (Or.inl rfl) (pe_callTy call_dictC rfl T.b_dict bt_dict (pa_cons (pv 0) pa_nil)))
      (pss_cons (ps_dput hu (pv 3) (pv 1) (pv 2) rfl)
      (pss_one (ps_ret (pv 3))))), ?_⟩
    have ez := sizeLine_eq
    refine ⟨_, rfl, d, _, rfl, hd, fun p hp => ?_⟩
    refine ⟨_, rfl, _, rfl, _, rfl, p, _, rfl, DPut.k (k := Sum.inl (ss.length : Int)) upd_same ?_, _, rfl, ?_⟩
    · rw [sd, sdF_len]; omega
    · refine h p _ hp ((Same.new hp).mut hp) ?_
      rw [upd_same, sd_put]
theorem sc_ways_with : FnScope ["residues", "quota", "seated", "size", "left", "ways"] ["residues", "quota", "seated"] (defScope s_ways_with) := ⟨rfl, rfl, rfl, by decide +kernel, rfl, by decide +kernel, by decide +kernel⟩
theorem ok_ways_with (T : Tx K mg) : FnOk P w K mg base CX0 4 (He.ga K "ways_with") (fdOf K (He.ga K "ways_with")) ["residues", "quota", "seated"] spWays := by
  refine T.F_ways_with.ok sc_ways_with (fun vs H Q E h => ?_) (fun cdv A outer s H vs Q E hr h => ?_)
  · obtain ⟨a, d, r, q, ss, rfl, _⟩ := h
    rfl
  · obtain ⟨a, d, r, q, ss, rfl, ha, hd, hl, hl1, hs, hq, h⟩ := h
    refine ⟨_, PSs.nox (pss_cons (ps_set (i := 3) sc_ways_with.nd rfl (Or.inr rfl) (pe_callB call_len_seq rfl T.b_len bt_len (pa_cons (pv 0) pa_nil)))
      (pss_one (ps_ret (pe_callB (cr_sum rfl) rfl T.b_sum bt_sum (pa_cons (pe_lc (own := [("left", 4), ("ways", 5)]) (g := gTup K 2 (gCons (gName 4) (gCons (gName 5) gNil))) rfl sc_ways_with.nd (pi_list (pe_call (ok_spread T) (hr.mono (by decide)) rfl T.g_spread T.F_spread.kp T.b_f_spread .nil pass0 (pa_cons (pv 0) (pa_cons (pv 1) (pa_cons (pv 2) pa_nil))))) (blkOk_by (own := [("left", 4), ("ways", 5)]) (N := ["residues", "quota", "seated", "size", "left", "ways"]) (by kernel_rfl)) (fun _ _ _ _ _ => (pg_tup rfl (pgs_cons (pg_name (i := 4) sc_ways_with.nd rfl (Or.inl rfl)) (pgs_cons (pg_name (i := 5) sc_ways_with.nd rfl (Or.inl rfl)) pgs_nil)))) (fun _ _ _ _ _ => pts_nil) (fun _ _ _ _ _ => (pe_op op_mulW (pv 5) (pe_call (ok_choose T) (hr.mono (by decide)) rfl T.g_choose T.F_choose.kp T.b_f_choose .nil pass0 (pa_cons (pe_op op_sub (pe_op op_add (pv 4) (pv 3)) pe_int) (pa_cons (pe_op op_sub (pv 3) pe_int) pa_nil)))))) pa_nil))))), ?_⟩
    refine ⟨_, rfl, a, _, rfl, .inr (SqT.of ha), ?_⟩
    rw [List.length_map]
    refine ⟨_, rfl, _, rfl, _, rfl, a, d, r, q, ss, rfl, ha, hd, hl, hs, fun p ys H1 hp e1 h1 t1 => ?_⟩
    refine ⟨p, rfl, ⟨_, SqL.of h1⟩, fun D hD => ?_⟩
    have lys : ys.length = (spr r q ss).length := by rw [t1.1, List.length_map]
    have lsp : (spr r q ss).length ≤ 100 := by
      have a1 : (spr r q ss).length ≤ (sprA r q ss).length := List.length_filter_le _ _
      have a2 : (sprA r q ss).length = (sg (steps r ss)).length := by unfold sprA; rw [List.length_map, List.length_range]
      have a3 := sg_len (steps r ss)
      have a4 := steps_len r ss
      omega
    refine lc_pair (sng_list (xs := ys)) (fun _ => true) (fun i => .int (((spr r q ss).getD i (0, 0)).2 * ch (((spr r q ss).getD i (0, 0)).1 + r.length - 1) (r.length - 1)))
      (fun i u v => ∃ p, p ∈ spr r q ss ∧ (spr r q ss).getD i (0, 0) = p ∧ u = .int p.1 ∧ v = .int p.2) ?_ ?_ ?_ ?_ ?_ ?_ hD
    · omega
    · exact fun H' e => SqL.of (e _ _ h1)
    · rintro i x H' hi hx e
      obtain ⟨pr, hp⟩ := get_lt (xs := spr r q ss) (i := i) (by omega)
      have hpd : ((spr r q ss).map prD)[i]? = some (prD pr) := by rw [List.getElem?_map, hp]; rfl
      obtain ⟨T, zs, rfl, hT, hz⟩ := TD.un ((t1.2 i x _ hx hpd).mono e.tups)
      have hl2 := hz.1
      match zs, hl2 with
      | [u, v], _ =>
        refine ⟨T, u, v, rfl, hT, pr, List.mem_of_getElem? hp, ?_, hz.head.i, hz.tail.head.i⟩
        rw [List.getD_eq_getElem?_getD, hp]
        rfl
    · exact fun i x y H' _ _ _ Q q => q _ (Same.refl _)
    · rintro i x y H' hi ⟨pr, hm, eg, rfl, rfl⟩ e _ Q qq
      obtain ⟨s1, s2⟩ := spr_sz hl hq hs hm
      have s3 : Sz 200 (pr.1 + r.length - 1) := (s1.add (b := 8) (c := 198) (Sz.bd (by omega) (by omega)) (by omega) (by omega)).sub (Sz.one) (by omega) (by omega)
      refine ⟨_, rfl, _, rfl, _, rfl, _, _, rfl, rfl, _, _, rfl, rfl, _, rfl, _, _, rfl, rfl, _, _, rfl, by omega, by omega, s3, ?_⟩
      refine ⟨_, _, rfl, rfl, s2.wide (ch_sz s3 (by omega)) (by omega), ?_⟩
      refine qq _ _ (Same.refl _) ?_
      rw [eg]
      exact .int _
    intro zs H2 e2 h2 t2
    rw [pick_all (fun _ _ => rfl), lys] at t2
    have e : (List.range (spr r q ss).length).map (fun i => PyData.int (((spr r q ss).getD i (0, 0)).2 * ch (((spr r q ss).getD i (0, 0)).1 + r.length - 1) (r.length - 1))) = ((spr r q ss).map fun p => p.2 * ch (p.1 + r.length - 1) (r.length - 1)).map PyData.int := by
      have := pick_list (l := spr r q ss) (d0 := (0, 0)) (fun _ => true) (fun p => PyData.int (p.2 * ch (p.1 + r.length - 1) (r.length - 1)))
      rw [pick_all (fun _ _ => rfl)] at this
      rw [this, List.filter_eq_self.mpr (fun _ _ => rfl), List.map_map]
      rfl
    rw [e] at t2
    refine ⟨D, _, rfl, SqL.of (h2.trans (by rw [TDs.inv_ints t2])), ?_⟩
    exact h _ (e1.trans ((Same.refl _).trans e2))
end
end Tr
end
section
set_option Elab.async false
set_option linter.all false
set_option maxRecDepth 100000
set_option maxHeartbeats 4000000
namespace Tr
open PySem PySem.Spec PyProof.Rows L2
/-! ### mirrors -/
def sitN (ss : List Int) : Nat → List Int
  | 0 => List.replicate ss.length 0
  | k + 1 => (sitN ss k).set (ss.getD k 0).toNat k
def sit (ss : List Int) : List Int := sitN ss ss.length
theorem sitN_len (ss : List Int) : ∀ k, (sitN ss k).length = ss.length
  | 0 => List.length_replicate
  | k + 1 => by simp [sitN, sitN_len ss k]
theorem sit_len (ss : List Int) : (sit ss).length = ss.length := sitN_len ss _
def kept (s : S) : List Int := (List.range s.1.length).map fun i => (s.1.getD i 0 + s.2.getD i 0) % (s.1.length : Int)
theorem kept_len (s : S) : (kept s).length = s.1.length := by simp [kept]
/-- n people, at seats of the ring -/
structure Rg (n : Nat) (s : S) : Prop where
  l1 : s.1.length = n
  l2 : s.2.length = n
  pos : 1 ≤ n
  top : n ≤ 16
  rg : ∀ x, x ∈ s.1 → 0 ≤ x ∧ x < n
theorem Rg.at {n : Nat} {s : S} (h : Rg n s) {i : Nat} (hi : i < n) : ∃ x : Nat, x < n ∧ s.1[i]? = some (x : Int) := by
  obtain ⟨x, hx⟩ := get_lt (xs := s.1) (i := i) (by rw [h.l1]; exact hi)
  obtain ⟨a, b⟩ := h.rg x (List.mem_of_getElem? hx)
  exact ⟨x.toNat, by omega, by rw [hx, Int.toNat_of_nonneg a]⟩
theorem getD_of {α : Type _} {xs : List α} {i : Nat} {x d : α} (h : xs[i]? = some x) : xs.getD i d = x := by rw [List.getD_eq_getElem?_getD, h]; rfl
theorem rep_flat {α : Type _} (n : Nat) (x : α) : (List.replicate n [x]).flatten = List.replicate n x := by
  induction n with
  | zero => rfl
  | succ n ih => rw [List.replicate_succ, List.flatten_cons, ih]; rfl
/-! ### promises -/
def spLen : Sp := fun vs H Q _ => ∃ (v : V) (s : S), vs = [v] ∧ TD H v (stD s) ∧ Q (.int s.1.length) H
def spSum : Sp := fun vs H Q _ => ∃ (v : V) (s : S), vs = [v] ∧ TD H v (stD s) ∧ Q (.int s.2.sum) H
def spSitting : Sp := fun vs H Q _ => ∃ (v : V) (s : S) (n : Nat), vs = [v] ∧ TD H v (stD s) ∧ Rg n s ∧ ∀ u H', Same H H' → TD H' u (tI (sit s.1)) → Q u H'
def spKept : Sp := fun vs H Q _ => ∃ (v : V) (s : S) (n : Nat), vs = [v] ∧ TD H v (stD s) ∧ Rg n s ∧ ∀ u H', Same H H' → TD H' u (tI (kept s)) → Q u H'
def spAs : Sp := fun vs H Q _ => ∃ (v : V) (s : S), vs = [v] ∧ TD H v (stD s) ∧ ∀ u H', Same H H' → TD H' u (stD s) → Q u H'
section
variable {P : Program} {w : World} {K : PySem.W.Frag} {mg : Str → Option Value} {base : Heap}
theorem sc_as_state : FnScope ["state"] ["state"] (defScope s_as_state) := ⟨rfl, rfl, rfl, by decide +kernel, rfl, by decide +kernel, by decide +kernel⟩
theorem ok_as_state (T : Tx K mg) : FnOk P w K mg base CX0 1 (He.ga K "as_state") (fdOf K (He.ga K "as_state")) ["state"] spAs := by
  refine T.F_as_state.ok sc_as_state (fun vs H Q E h => ?_) (fun cdv A outer s H vs Q E hr h => ?_)
  · obtain ⟨v, s, rfl, _⟩ := h
    rfl
  · obtain ⟨v, s, rfl, hv, h⟩ := h
    obtain ⟨a, b, c, rfl, ha, hb, hc⟩ := TD.st hv
    refine ⟨_, PSs.nox (pss_one (ps_ret (pe_tup (pa_cons (pe_callTy call_tuple_of rfl T.b_tuple bt_tuple (pa_cons (pe_ix ix_tup (pv 0) pe_int (fun _ _ => rfl)) pa_nil)) (pa_cons (pe_callTy call_tuple_of rfl T.b_tuple bt_tuple (pa_cons (pe_ix ix_tup (pv 0) pe_int (fun _ _ => rfl)) pa_nil)) pa_nil))))), ?_⟩
    refine ⟨_, rfl, a, _, _, _, rfl, rfl, SqT.of ha, atI_nat (j := 0) rfl, b, _, rfl, .inr ⟨SqT.of hb, ?_⟩⟩
    refine ⟨_, rfl, a, _, _, _, rfl, rfl, SqT.of ha, atI_nat (j := 1) rfl, c, _, rfl, .inr ⟨SqT.of hc, line2, fun t ht => ?_⟩⟩
    exact h _ _ (Same.new ht) (TD.ofSt upd_same (kp1 hb ht) (kp1 hc ht))
theorem sc_people_many : FnScope ["state"] ["state"] (defScope s_people_many) := ⟨rfl, rfl, rfl, by decide +kernel, rfl, by decide +kernel, by decide +kernel⟩
theorem ok_people_many (T : Tx K mg) : FnOk P w K mg base CX0 1 (He.ga K "people_many") (fdOf K (He.ga K "people_many")) ["state"] spLen := by
  refine T.F_people_many.ok sc_people_many (fun vs H Q E h => ?_) (fun cdv A outer s H vs Q E hr h => ?_)
  · obtain ⟨v, s, rfl, _⟩ := h
    rfl
  · obtain ⟨v, s, rfl, hv, h⟩ := h
    obtain ⟨a, b, c, rfl, ha, hb, hc⟩ := TD.st hv
    refine ⟨_, PSs.nox (pss_one (ps_ret (pe_callB call_len_seq rfl T.b_len bt_len (pa_cons (pe_ix ix_tup (pv 0) pe_int (fun _ _ => rfl)) pa_nil)))), ?_⟩
    refine ⟨_, rfl, a, _, _, _, rfl, rfl, SqT.of ha, atI_nat (j := 0) rfl, b, _, rfl, .inr (SqT.of hb), ?_⟩
    rw [List.length_map]
    exact h
theorem sc_coins_of : FnScope ["state"] ["state"] (defScope s_coins_of) := ⟨rfl, rfl, rfl, by decide +kernel, rfl, by decide +kernel, by decide +kernel⟩
theorem ok_coins_of (T : Tx K mg) : FnOk P w K mg base CX0 1 (He.ga K "coins_of") (fdOf K (He.ga K "coins_of")) ["state"] spSum := by
  refine T.F_coins_of.ok sc_coins_of (fun vs H Q E h => ?_) (fun cdv A outer s H vs Q E hr h => ?_)
  · obtain ⟨v, s, rfl, _⟩ := h
    rfl
  · obtain ⟨v, s, rfl, hv, h⟩ := h
    obtain ⟨a, b, c, rfl, ha, hb, hc⟩ := TD.st hv
    refine ⟨_, PSs.nox (pss_one (ps_ret (pe_callB (call_sumT rfl) rfl T.b_sum bt_sum (pa_cons (pe_ix ix_tup (pv 0) pe_int (fun _ _ => rfl)) pa_nil)))), ?_⟩
    exact ⟨_, rfl, a, _, _, _, rfl, rfl, SqT.of ha, atI_nat (j := 1) rfl, c, _, rfl, SqT.of hc, h⟩
theorem sc_total : FnScope ["state"] ["state"] (defScope s_total) := ⟨rfl, rfl, rfl, by decide +kernel, rfl, by decide +kernel, by decide +kernel⟩
theorem ok_total (T : Tx K mg) : FnOk P w K mg base CX0 2 (He.ga K "total") (fdOf K (He.ga K "total")) ["state"] spSum := by
  refine T.F_total.ok sc_total (fun vs H Q E h => ?_) (fun cdv A outer s H vs Q E hr h => ?_)
  · obtain ⟨v, s, rfl, _⟩ := h
    rfl
  · obtain ⟨v, s, rfl, hv, h⟩ := h
    refine ⟨_, PSs.nox (pss_one (ps_ret (pe_call (ok_coins_of T) (hr.mono (by decide)) rfl T.g_coins_of T.F_coins_of.kp T.b_f_coins_of .nil pass0 (pa_cons (pv 0) pa_nil)))), ?_⟩
    exact ⟨_, rfl, v, s, rfl, hv, h⟩
theorem sc_sitting : FnScope ["state", "found", "person", "seat"] ["state"] (defScope s_sitting) := ⟨rfl, rfl, rfl, by decide +kernel, rfl, by decide +kernel, by decide +kernel⟩
theorem ok_sitting (T : Tx K mg) : FnOk P w K mg base CX0 2 (He.ga K "sitting") (fdOf K (He.ga K "sitting")) ["state"] spSitting := by
  refine T.F_sitting.ok sc_sitting (fun vs H Q E h => ?_) (fun cdv A outer s H vs Q E hr h => ?_)
  · obtain ⟨v, s, n, rfl, _⟩ := h
    rfl
  · obtain ⟨v, s, n, rfl, hv, hn, h⟩ := h
    refine ⟨_, PSs.nox (pss_cons (ps_set (i := 1) sc_sitting.nd rfl (Or.inl rfl) (pe_op op_rep (pe_lst (pa_cons pe_int pa_nil)) (pe_call (ok_people_many T) (hr.mono (by decide)) rfl T.g_people_many T.F_people_many.kp T.b_f_people_many .nil pass0 (pa_cons (pv 0) pa_nil))))
      (pss_cons (ps_for PassesOwn.never rfl (pi_enumT rfl T.b_enumerate (pa_cons (pe_ix ix_tup (pv 0) pe_int (fun _ _ => rfl)) pa_nil)) (pg_tup rfl (pgs_cons (pg_name (i := 2) sc_sitting.nd rfl (Or.inl rfl)) (pgs_cons (pg_name (i := 3) sc_sitting.nd rfl (Or.inl rfl)) pgs_nil)))
        (pss_one (ps_asg (pv 2) (pg_sub (pv 1) (pv 3) set_list))))
      (pss_one (ps_ret (pe_callTy call_tuple_of rfl T.b_tuple bt_tuple (pa_cons (pv 1) pa_nil)))))), ?_⟩
    have ez := sizeLine_eq
    have l1 := hn.l1
    have n1 := hn.pos
    have n2 := hn.top
    refine ⟨line1, fun l hl => ⟨_, rfl, v, s, rfl, hv.mono (L2.Same.tups (Same.new hl)), l, _, _, rfl, rfl, upd_same, ?_, ?_, ?_, fun p hp => ?_⟩⟩
    · show -(2 ^ 63) ≤ (s.1.length : Int); omega
    · show (s.1.length : Int) < 2 ^ 63; omega
    · show 1 * ((s.1.length : Int)).toNat ≤ sizeLine
      omega
    rw [Int.toNat_natCast, rep_flat]
    have e1 : Same H (upd (upd H l (.lst [.int 0])) p (.lst (List.replicate s.1.length (.int 0)))) := (Same.new hl).trans (Same.new hp)
    have hHp : H p = none := (Same.new hl).none hp
    have h1 : upd (upd H l (.lst [.int 0])) p (.lst (List.replicate s.1.length (.int 0))) p = some (.lst ((sitN s.1 0).map .int)) := by rw [upd_same, sitN, List.map_replicate]
    generalize upd (upd H l (.lst [.int 0])) p (.lst (List.replicate s.1.length (.int 0))) = H1 at *
    obtain ⟨a, b, c, rfl, ha, hb, hc⟩ := TD.st hv
    refine ⟨_, rfl, a, _, _, _, rfl, rfl, SqT.of (e1 _ _ ha), atI_nat (j := 0) rfl, b, _, rfl, SqT.of (e1 _ _ hb), ?_⟩
    refine for_prs (prs_enumT (xs := s.1.map V.int)) (fun i σ H' => Same H H' ∧ H' p = some (.lst ((sitN s.1 i).map .int)) ∧ ∃ y z, σ = [some (.ref a), some (.ref p), y, z]) ⟨e1, h1, _, _, rfl⟩ (fun i σ H' _ q => SqT.of (q.1 _ _ hb)) ?_ ?_
    · rintro i x y σ H2 H3 hi ⟨rfl, hy⟩ ⟨e2, h2, y2, y3, rfl⟩ e3
      rw [List.length_map] at hi
      obtain ⟨m, hm, hm2⟩ := hn.at (i := i) (by omega)
      obtain ⟨m', rfl, hm'⟩ := int_get hy
      rw [hm2] at hm'
      cases hm'
      refine ⟨_, rfl, _, rfl, _, rfl, p, _, _, m, rfl, rfl, e3 _ _ h2, ?_, ?_⟩
      · rw [List.length_map, sitN_len]
        exact ixN_nat (by omega)
      · refine ⟨(e2.trans e3).mut hHp, ?_, _, _, rfl⟩
        rw [upd_same]
        show _ = some (HO.lst (((sitN s.1 i).set (s.1.getD i 0).toNat i).map V.int))
        rw [getD_of hm2, List.map_set, Int.toNat_natCast]
    · rintro σ H2 ⟨e2, h2, y2, y3, rfl⟩
      rw [List.length_map] at h2
      refine ⟨_, rfl, p, _, rfl, .inl ⟨SqL.of h2, fun q hq => ?_⟩⟩
      exact h _ _ (e2.trans (Same.new hq)) (TD.ofInts upd_same)
theorem sc_kept_of : FnScope ["state", "size", "seat", "coins"] ["state"] (defScope s_kept_of) := ⟨rfl, rfl, rfl, by decide +kernel, rfl, by decide +kernel, by decide +kernel⟩
theorem ok_kept_of (T : Tx K mg) : FnOk P w K mg base CX0 2 (He.ga K "kept_of") (fdOf K (He.ga K "kept_of")) ["state"] spKept := by
  refine T.F_kept_of.ok sc_kept_of (fun vs H Q E h => ?_) (fun cdv A outer s H vs Q E hr h => ?_)
  · obtain ⟨v, s, n, rfl, _⟩ := h
    rfl
  · obtain ⟨v, s, n, rfl, hv, hn, h⟩ := h
    refine ⟨_, PSs.nox (pss_cons (ps_set (i := 1) sc_kept_of.nd rfl (Or.inr rfl) (pe_call (ok_people_many T) (hr.mono (by decide)) rfl T.g_people_many T.F_people_many.kp T.b_f_people_many .nil pass0 (pa_cons (pv 0) pa_nil)))
      (pss_one (ps_ret (pe_callTy call_tuple_of rfl T.b_tuple bt_tuple (pa_cons (pe_lc (own := [("seat", 2), ("coins", 3)]) (g := gTup K 2 (gCons (gName 2) (gCons (gName 3) gNil))) rfl sc_kept_of.nd (RZ.pi_zipA rfl T.b_zip (pa_cons (pe_ix ix_tup (pv 0) pe_int (fun _ _ => rfl)) (pa_cons (pe_ix ix_tup (pv 0) pe_int (fun _ _ => rfl)) pa_nil))) (blkOk_by (own := [("seat", 2), ("coins", 3)]) (N := ["state", "size", "seat", "coins"]) (by kernel_rfl)) (fun _ _ _ _ _ => (pg_tup rfl (pgs_cons (pg_name (i := 2) sc_kept_of.nd rfl (Or.inl rfl)) (pgs_cons (pg_name (i := 3) sc_kept_of.nd rfl (Or.inl rfl)) pgs_nil)))) (fun _ _ _ _ _ => pts_nil) (fun _ _ _ _ _ => (pe_op op_mod (pe_op op_add (pv 2) (pv 3)) (pv 1)))) pa_nil))))), ?_⟩
    have l1 := hn.l1
    have l2 := hn.l2
    have n1 := hn.pos
    have n2 := hn.top
    refine ⟨_, rfl, v, s, rfl, hv, ?_⟩
    obtain ⟨a, b, c, rfl, ha, hb, hc⟩ := TD.st hv
    refine ⟨_, rfl, a, _, _, _, rfl, rfl, SqT.of ha, atI_nat (j := 0) rfl, _, rfl, a, _, _, _, rfl, rfl, SqT.of ha, atI_nat (j := 1) rfl, b, c, _, _, rfl, .inr ⟨SqT.of hb, SqT.of hc, fun D hD => ?_⟩⟩
    refine lc_prsI (prs_zipT (xs := s.1.map V.int) (ys := s.2.map V.int) ?_) (fun _ => true) (fun i => (s.1.getD i 0 + s.2.getD i 0) % (s.1.length : Int)) ?_ ?_ ?_ ?_ ?_ hD
    · rw [List.length_map, List.length_map, l1, l2]
    · rw [List.length_map]; omega
    · exact fun H' e => ⟨SqT.of (e _ _ hb), SqT.of (e _ _ hc)⟩
    · exact fun i x y H' _ _ _ Q q => q _ (Same.refl _)
    · rintro i x y H' hi ⟨hx, hy⟩ e _ Q q
      obtain ⟨x, rfl, hx2⟩ := int_get hx
      obtain ⟨y, rfl, hy2⟩ := int_get hy
      have q2 := q _ (Same.refl _)
      rw [getD_of hx2, getD_of hy2] at q2
      exact ⟨_, rfl, _, rfl, _, _, rfl, rfl, _, rfl, _, _, rfl, rfl, by show (0 : Int) < s.1.length; omega, q2⟩
    intro H1 e1 h1
    rw [pickI_tt, List.length_map] at h1
    exact ⟨D, _, rfl, .inl ⟨SqL.of h1, fun q hq => h _ _ (e1.trans (Same.new hq)) (TD.ofInts upd_same)⟩⟩
end
end Tr
end
section
set_option Elab.async false
set_option linter.all false
set_option maxRecDepth 100000
set_option maxHeartbeats 4000000
/-! own exception classes straight over a built-in one, whose __init__ is walked -/
namespace Tr
open PySem PySem.Spec PyProof.Rows L2 PySem.W PySem.Calls
section
open Builtin Builtin.ObjectAttr
variable {prog : Program} {w : World} {A : Around} {E : Value → Shared → Prop} {R : Result → Shared → Prop} {hp : Heap} {g : Array GenState} {d : Drawn} {t : Nat} {os : OsState}
theorem osaG {K : W.Frag} {name : Str} {tk : Tok} {v : Value} {x C : Addr} {fv : Array Value} {cd : ClassData} {bmB : List Value} {B : String} (SB : StoreFacts B bmB "object.__setattr__" "object")
    (X : K.In hp) (hx : hp.get? x = some { cls := .ref C, data := .fields fv }) (hcd : W.clsIn K C = some cd) (hm : cd.mro = .ref C :: bmB) (hh : cd.hasDict = true) (ha : W.findIn K (.ref C) name = some none)
    (hq : ∀ h' tk' dx, (∀ b o, b ≠ x → hp.get? b = some o → h'.get? b = some o) → hp.objs.size ≤ dx → dx ≠ x → h'.get? x = some { cls := .ref C, dict := some dx, data := .fields fv } →
      h'.Ns1 dx (fun y => if y = name then some v else none) → R (.ok (.ret .none)) ⟨h', g, d, tk', os⟩) :
    codeAny (model prog w) A (.call (.builtin "object.__setattr__") ⟨[.ref x, .str name tk, v], []⟩) R ⟨hp, g, d, t, os⟩ := by
  have I : W.InstAt hp x { cls := .ref C, data := .fields fv } C none := ⟨hx, rfl, rfl, trivial⟩
  have SF := F.store_object
  have ne : cd.mro.isEmpty = false := by rw [hm]; rfl
  have hob : cd.mro.contains (.type "object") = true := by rw [hm, List.contains_cons, SB.hasOwner, Bool.or_true]
  have hxs : x ≠ hp.objs.size := Nat.ne_of_lt (Heap.lt_size hx)
  have sub : W.Looks (model prog w) hp (isInstance (.ref x) (.type "object")) true := I.type.andThen (W.looks_mroIn X (by unfold W.mroIn; rw [hcd, Option.bind_some, if_neg (by rw [ne]; decide), hob]))
  refine codeAny_call_builtin SF.slot.plain SF.entry (@W.check_slot (model prog w) _ _ ⟨hp, g, d, t, os⟩ "object.__setattr__" "object" "__setattr__" (.ref x) [.str name tk, v] [] _ SF.kind SF.split sub (SF.args (.ref x) (.str name tk) v) ?_)
  have hmr : W.Looks (model prog w) hp (mroOf (.ref C)) cd.mro := (W.looks_clsIn X hcd).andThen .now
  have L3 : W.Looks (model prog w) hp (storeTaker? none) none := .now
  have hcls : W.Looks (model prog w) hp (classData C) cd := W.looks_clsIn X hcd
  rw [W.osa_eq, refuse_eq]
  refine wpAny_bind (wpAny_bind (I.type.at (wpAny_bind (hmr.at ?_))))
  rw [hm, refuseLoop_ref, SB.passes]
  refine wpAny_pure (wpAny_bind (I.type.at (wpAny_bind ((W.looks_findIn X ha).at (wpAny_bind (L3.at ?_))))))
  show wpAny _ _ (storeInOwnDict (.ref x) (.ref C) (.str name tk) name v false) _ _ _
  obtain ⟨nm, bs, mro, ns, qn, hd, sn, sb, ab, col, del⟩ := cd
  dsimp only at hh
  subst hh
  unfold storeInOwnDict ownDictForStores
  repeat (first | with_reducible refine HandSPX.store_in_new ?_ ?_ | with_reducible refine wpAny_loadPart_at hx ?_ | with_reducible refine hcls.at ?_ | wp_step)
  · exact ⟨_, #[], _, (Heap.get?_update_ne _ _ _ _ hxs.symm).trans (Heap.get?_push_at rfl rfl), rfl, fun e he => absurd he (by simp), fun _ => rfl⟩
  · intro h' tk' hn' hs
    have hx₁ : (hp.push { cls := .type "dict", data := .dict #[] }).get? x = some { cls := .ref C, data := .fields fv } := Heap.get?_push_of_some _ hx
    refine hq h' tk' hp.objs.size (fun b o hb ho => ?_) (Nat.le_refl _) hxs.symm ?_ hn'
    · exact (hs.2 b (Nat.ne_of_lt (Heap.lt_size ho))).trans ((Heap.get?_update_ne _ _ _ _ hb).trans (Heap.get?_push_of_some _ ho))
    · exact (hs.2 x hxs).trans (Heap.get?_update_self _ hx₁ rfl)
end
/-- the built-in class B -/
structure BaseX (B newId initId : String) (bmB : List Value) : Prop where
  FB : ExcBaseFacts B newId initId bmB
  SB : StoreFacts B bmB "object.__setattr__" "object"
  typ : typeOf (.type B) = pure (.type "type")
  stub : Manifest.isStub B = false
  hand : handedIn (.builtin initId) = true
  boot : bootBuiltins (Str.ofString B) = some (.type B)
  n1 : Str.ofString B ≠ "__name__"
  n2 : (Str.ofString B == ("__debug__" : Str)) = false
/-- what the written part says of the class at C -/
structure OxG (K : PySem.W.Frag) (C : Addr) (B newId initId : String) (bmB : List Value) : Prop where
  base : BaseX B newId initId bmB
  cls : ∃ nm q N bs sn sub ab col dd k0 k1 k2 k3 k5, K.lookup C = some (excClassObj nm q C N bs bmB true sn sub ab col dd k0 k1 k2 k3 k5 newId)
  sa : PySem.W.findIn K (.ref C) "__setattr__" = some (some (.builtin "object.__setattr__"))
  exC : PySem.W.subIn K (.ref C) (.type "BaseException") = some true
  tyC : PySem.W.typeIn K (.ref C) = some (.type "type")
  kC : PySem.W.keepIn K (.ref C) = true
section
variable {X : Cx} {pins : List (Addr × Obj)} {σ : L2.St} {H : Hp} {s : Shared} {a C dx : Addr} {f : Str} {y : V} {u : Value} {fs : List (Str × V)} {E : Value → Shared → Prop} {A : Around} {B newId initId : String} {bmB : List Value}
/-- self.f = y, the first one -/
theorem ostG {Q : Unit → Shared → Prop} (T : OxG X.K C B newId initId bmB) (I : Inv X pins σ H s) (e : H a = some (exo a C none)) (hno : PySem.W.findIn X.K (.ref C) f = some none) (ry : RelV y u)
    (h : ∀ dx s', H dx = none → dx ≠ a → Inv X pins σ (upd (upd H dx (exd dx [(f, y)])) a (exo a C (some dx))) s' → Q () s') : wpAny (model X.prog X.w) A (setAttr (.ref a) f u) Q E s := by
  obtain ⟨nm, q, N, bs, sn, sub, ab, col, dd, k0, k1, k2, k3, k5, hC⟩ := T.cls
  have hcl : PySem.W.clsIn X.K C = some { name := nm, bases := bs, mro := .ref C :: bmB, ns := N, qualname := q, hasDict := true, slotNames := sn, subclasses := sub, abstract := ab, collection := col, hasDel := false } := by unfold PySem.W.clsIn; rw [hC] <;> rfl
  obtain ⟨t1, ho⟩ := exo_at I.hok e
  obtain ⟨hp, g, d, t, os⟩ := s
  refine PySem.W.set_plain I.kIn (ox := { cls := .ref C, dict := none, data := .fields #[.ref t1, .none, .none, .none, .bool false, .none] }) (od := none) ⟨ho, rfl, rfl, trivial⟩ T.sa ?_
  refine osaG T.base.SB I.kIn ho hcl rfl rfl hno (fun h' tk' dx k dn dne hx hn => ?_)
  have hnd : H dx = none := I.hok.fresh dn
  have nd : ∀ {b : Addr} {o : Obj}, hp.get? b = some o → b ≠ dx := fun {b o} q => Nat.ne_of_lt (Nat.lt_of_lt_of_le (Heap.lt_size q) dn)
  have na : ∀ {b : Addr}, H b = none → b ≠ a := fun {b} n z => by
    rw [z, e] at n
    cases n
  have Un1 : Un X.fs [] H (upd (upd H dx (exd dx [(f, y)])) a (exo a C (some dx))) hp h' := {
    keep := fun b o q n _ _ => k b o (na n) q
    slot := fun b o q n _ _ => ⟨o.slots, k b o (na n) q⟩
    free := fun b o q n _ => by rw [upd_ne (na n), upd_ne (nd q)]; exact n
    there := fun b o q _ => by
      by_cases hb : b = a
      · exact ⟨_, by rw [hb]; exact hx⟩
      · exact ⟨o, k b o hb q⟩
    tups := fun b xs q => by rw [upd_ne (at_ne e q exo_tup), upd_ne (ne_of_none q hnd)]; exact q
    frzs := fun b o v q => by rw [upd_ne (at_ne e q exo_frz), upd_ne (ne_of_none q hnd)]; exact q
    tbls := fun b ps q => ⟨#[], by rw [upd_ne (at_ne e q exo_tbl), upd_ne (ne_of_none q hnd), q]; simp⟩ }
  refine h dx _ hnd dne (I.un (t' := tk') Un1 fun b o q => ?_)
  by_cases hb : b = a
  · subst hb
    rw [upd_same] at q
    cases q
    exact exo_ok hx
  · rw [upd_ne hb] at q
    by_cases hd : b = dx
    · subst hd
      rw [upd_same] at q
      cases q
      exact exd_ok hn (relO_put (fs := []) ry fun g => True.intro)
    · rw [upd_ne hd] at q
      exact (I.hok b o q).stay (fun c v hc z => k c v (by
          rcases hc with hc | hc
          · rw [hc]
            exact hb
          · exact at_ne e hc exo_own) z)
        (fun c hc => by rw [upd_ne (at_ne e hc exo_own), upd_ne (ne_of_none hc hnd)]; exact hc) (fun c xs hc => by rw [upd_ne (at_ne e hc exo_tup), upd_ne (ne_of_none hc hnd)]; exact hc)
/-- B.__init__(self, ..) -/
theorem oinitG {us : List Value} {Q : Value → Shared → Prop} (T : OxG X.K C B newId initId bmB) (I : Inv X pins σ H s) (e : H a = some (exo a C none)) (hl : us.length ≤ sizeLine) (h : ∀ s', Inv X pins σ H s' → Q .none s') :
    wpAny (model X.prog X.w) A (call (.builtin initId) (.ref a :: us)) Q E s := by
  obtain ⟨nm, q, N, bs, sn, sub, ab, col, dd, k0, k1, k2, k3, k5, hC⟩ := T.cls
  obtain ⟨t1, ho⟩ := exo_at I.hok e
  obtain ⟨hp, g, d, t, os⟩ := s
  refine wpAny_call (PySem.HandSPX.init_base T.base.FB (fun Y => rfl) (I.kIn _ _ hC) ho hl fun h' t2 k hx => ?_)
  have J := I.write (t' := t) (x := a) (e := a) (o := exo a C none) (by rw [e]; exact True.intro) (.inl rfl) k ⟨_, hx⟩ (exo_ok hx)
  have eu : upd H a (exo a C none) = H := by
    funext b
    by_cases hb : b = a
    · rw [hb, upd_same, e]
    · rw [upd_ne hb]
  rw [eu] at J
  exact h _ J
end
/-! ### readings and rules -/
/-- B.__init__(self, ..) -/
def tInitG (K : PySem.W.Frag) (B newId initId : String) (bmB : List Value) (ta : TA) : TE := fun σ H Q => ta σ H fun vs H1 => ∃ (a C : Addr) (ws : List V), vs = .ref a :: ws ∧ ws.length ≤ 1000 ∧ OxG K C B newId initId bmB ∧ H1 a = some (exo a C none) ∧ Q .non H1
/-- self.f = e -/
def tOstG (K : PySem.W.Frag) (B newId initId : String) (bmB : List Value) (f : Str) (to te : TE) : TS := fun D σ H => te σ H fun y H1 => to σ H1 fun x H2 => ∃ a C : Addr, x = .ref a ∧ OxG K C B newId initId bmB ∧ PySem.W.findIn K (.ref C) f = some none ∧
  H2 a = some (exo a C none) ∧ ∀ dx, H2 dx = none → dx ≠ a → D.nx σ (upd (upd H2 dx (exd dx [(f, y)])) a (exo a C (some dx)))
section
variable {X : Cx} {o e : Expr} {es : List Expr} {to te : TE} {ta : TA} {f : Str} {p p' p1 p2 pos : Pos} {B newId initId : String} {bmB : List Value}
theorem pe_initG {pl : Sem Bool} (Bs : BaseX B newId initId bmB) (hg : Gl X (Str.ofString B)) (hm : X.mg (Str.ofString B) = none) (vV : PySem.W.findCls X.K (.type B) (.type "type") "__init__" = some (.val (.builtin initId))) (ha : PA X (e :: es) ta)
    (hc : eval (.Call (.Attribute (.Name (Str.ofString B) p1) "__init__" p2) (e :: es) [] pos) X.env = (do
      let ov ← eval (.Name (Str.ofString B) p1) X.env
      standAt p2.atName
      let (f, first) ← holding [ov] (getMethod ov "__init__" pl)
      callWith pos f first (backTo pos (starEach (e :: es) X.env)) (backToKw pos (keywordEach [] X.env))) := by rfl)
    (he : starEach (e :: es) X.env = (false, eval e X.env) :: starEach es X.env := by rfl) (hpl : (backTo pos (starEach es X.env)).any (·.1) = false := by rfl) :
    PE X (.Call (.Attribute (.Name (Str.ofString B) p1) "__init__" p2) (e :: es) [] pos) (tInitG X.K B newId initId bmB ta) := by
  refine ⟨fun pins s σ H Q I h => ?_⟩
  refine PySem.W.methodCall_KW (ld_blt I hg hm Bs.boot ?_ Bs.n1 Bs.n2) hc
  obtain ⟨m, fr⟩ := I.fr
  refine PySem.W.method_type fr I.ok.mod.kin Bs.typ Bs.stub vV Bs.hand ?_
  show wpAny _ _ (callWith pos (Value.builtin initId) [] (backTo pos (starEach (e :: es) X.env)) []) _ _ _
  refine PyProof.Rows.callWith_method1 (thn (ha.run pos pins _ σ H _ (I.tok _) h) fun us s1 ⟨vs, H1, I1, r1, a, C, ws, ev, hl, T, ea, q⟩ => ?_) he hpl
  subst ev
  cases r1 with
  | @cons _ u0 _ ur ra rw' =>
    obtain rfl : u0 = Value.ref a := ra
    have hlen : ur.length ≤ sizeLine := by
      rw [← Paired.length rw', sizeLine_eq]
      omega
    exact oinitG T I1 ea hlen fun s' J => ⟨.non, H1, J, rfl, q⟩
theorem ps_ostG (ho : PE X o to) (he : PE X e te) (hs : swapsWith e (some (.Attribute o f p')) pos.line X.env = pure false := by rfl) : PS X (.Assign [.Attribute o f p'] e pos) (tOstG X.K B newId initId bmB f to te) := by
  refine ⟨fun pins s σ H D I h => ?_⟩
  refine plainObj_wpAny_Assign_Attribute (thn (he.run pins s σ H _ I h) fun v s1 ⟨y, H1, I1, r1, q1⟩ => thn (ho.run pins s1 σ H1 _ I1 q1) fun u s2 ⟨x, H2, I2, r2, a, C, ex, T, hno, ea, q⟩ => ?_) hs
  subst ex
  obtain rfl : u = Value.ref a := r2
  exact ostG T I2 ea hno r1 fun dx s' n ne J => ⟨σ, _, J, q dx n ne⟩
/-- C(e, ..), C's own __init__ keeping sp -/
def tMkG (C : Addr) (sp : Sp) (ta : TA) : L2.St → Hp → XK → Prop := fun σ H Q => ta σ H fun vs H1 => vs.length ≤ 1000 ∧ ∀ a, H1 a = none → sp (.ref a :: vs) (upd H1 a (exo a C none))
  (fun v H2 => v = .non ∧ ((∃ (d : Addr) (fs : List (Str × V)), H2 a = some (exo a C (some d)) ∧ H2 d = some (exd d fs) ∧ H1 d = none ∧ Q (.ref C) (some d) (upd (del H2 a) d (.xd fs))) ∨
    (H2 a = some (exo a C none) ∧ Q (.ref C) none (del H2 a)))) (fun _ _ _ => False)
theorem mk_endN {pins : List (Addr × Obj)} {σ : L2.St} {H1 H2 : Hp} {Q : XK} {hp hp2 h2 : Heap} {g1 g2 : Array GenState} {d1 d2 : Drawn} {t1 t2 : Nat} {os1 os2 : OsState} {a C : Addr} (T : Raises X (.ref C)) (I1 : Inv X pins σ H1 ⟨hp, g1, d1, t1, os1⟩)
    (ha : hp.objs.size ≤ a) (k : ∀ b o, hp.get? b = some o → hp2.get? b = some o) (un : Un (frs X.stack) [] (upd H1 a (exo a C none)) H2 hp2 h2) (hok : HOk X.prog X.w H2 h2) (ho : os2 = os1) (hb : AllBare g2)
    (ea : H2 a = some (exo a C none)) (q : Q (.ref C) none (del H2 a)) : MkP X pins σ Q (.ref a) ⟨h2, g2, d2, t2, os2⟩ := by
  obtain ⟨t0, hoe⟩ := exo_at hok ea
  have hn : H1 a = none := I1.hok.fresh ha
  obtain ⟨G, g1', g2'⟩ := restrict h2 fun b => decide (b ≠ a)
  have gk : ∀ b, b ≠ a → G.get? b = h2.get? b := fun b hb => g1' b (decide_eq_true hb)
  have ge : G.get? a = none := g2' a (by simp)
  have nha : ∀ {b : Addr} {o : Obj}, hp.get? b = some o → b ≠ a := fun {b o} z => Nat.ne_of_lt (Nat.lt_of_lt_of_le (Heap.lt_size z) ha)
  have up : ∀ {b : Addr}, b ≠ a → H1 b = none → upd H1 a (exo a C none) b = none := fun {b} hb n => by rw [upd_ne hb]; exact n
  have U : Un (frs X.stack) [] H1 (del H2 a) hp G := {
    keep := fun b o z n hf hx => by
      rw [gk b (nha z)]
      exact un.keep b o (k b o z) (up (nha z) n) hf hx
    slot := fun b o z n hf hx => by
      rw [gk b (nha z)]
      exact un.slot b o (k b o z) (up (nha z) n) hf hx
    free := fun b o z n hx => by
      rw [del_ne (nha z)]
      exact un.free b o (k b o z) (up (nha z) n) hx
    there := fun b o z hx => by
      rw [gk b (nha z)]
      exact un.there b o (k b o z) hx
    tups := fun b xs z => by
      rw [del_ne (ne_of_none z hn)]
      exact un.tups b xs (by rw [upd_ne (ne_of_none z hn)]; exact z)
    frzs := fun b o v z => by
      rw [del_ne (ne_of_none z hn)]
      exact un.frzs b o v (by rw [upd_ne (ne_of_none z hn)]; exact z)
    tbls := fun b ps z => by
      rw [del_ne (ne_of_none z hn)]
      exact un.tbls b ps (by rw [upd_ne (ne_of_none z hn)]; exact z) }
  have hok3 : HOk X.prog X.w (del H2 a) G := fun b o z => by
    have hba : b ≠ a := fun e => by
      rw [e, del_same] at z
      cases z
    rw [del_ne hba] at z
    have noa : ∀ {c : Addr}, H2 c = some (.own b) → c ≠ a := fun {c} hc => at_ne ea hc exo_own
    exact (hok b o z).stay (fun c v hc y => by
        have hca : c ≠ a := by
          rcases hc with hc | hc
          · rw [hc]
            exact hba
          · exact noa hc
        rw [gk c hca]
        exact y)
      (fun c hc => by rw [del_ne (noa hc)]; exact hc) (fun c xs hc => by rw [del_ne (at_ne ea hc exo_tup)]; exact hc)
  have J : Inv X pins σ (del H2 a) ⟨G, g2, d2, t2, os2⟩ := I1.call' (ch := []) ho U hok3 hb (fun b z => absurd z (by simp))
  refine ⟨a, _, _, ⟨G, g2, d2, t2, os2⟩, _, .ref C, none, rfl, J, fun b o z => ?_, ge, hoe, ⟨rfl, rfl⟩, rfl, rfl, del_same, rfl, hb, T, q⟩
  by_cases hba : b = a
  · rw [hba, ge] at z
    cases z
  · exact (gk b hba).symm.trans z
theorem pmk_runG {CX : CXT} {C fI : Addr} {k : Nat} {fd : FuncData} {ps : List Str} {sp : Sp} {pins : List (Addr × Obj)} {σ : L2.St} {H1 : Hp} {s1 : Shared} {vs : List V} {us : List Value} {Q : XK} (T : OxG X.K C B newId initId bmB) (iC : PySem.W.findIn X.K (.ref C) "__init__" = some (some (.ref fI))) (tI : PySem.W.typeIn X.K (.ref fI) = some (.type "function"))
    (F1 : FnOk X.prog X.w X.K X.mg X.base CX k fI fd ps sp) (hr : Room (k + 1) X.A) (hb : Binds X.K fd ps []) (hx : Passes CX X (fun _ _ _ => False)) (I1 : Inv X pins σ H1 s1) (r1 : Vals vs us) (hz : vs.length ≤ 1000)
    (q1 : ∀ a, H1 a = none → sp (.ref a :: vs) (upd H1 a (exo a C none))
      (fun v H2 => v = .non ∧ ((∃ (d : Addr) (fs : List (Str × V)), H2 a = some (exo a C (some d)) ∧ H2 d = some (exd d fs) ∧ H1 d = none ∧ Q (.ref C) (some d) (upd (del H2 a) d (.xd fs))) ∨ (H2 a = some (exo a C none) ∧ Q (.ref C) none (del H2 a)))) (fun _ _ _ => False)) :
    wpAny (model X.prog X.w) X.A (call (.ref C) us) (MkP X pins σ Q) X.xe s1 := by
  obtain ⟨nm, q, N, bs, sn, sub, ab, col, dd, k0, k1, k2, k3, k5, hC⟩ := T.cls
  obtain ⟨hp, g, dr, tk, os⟩ := s1
  have hsz : hp.objs.size ≤ hp.objs.size + 1 := Nat.le_succ _
  have hn : H1 (hp.objs.size + 1) = none := I1.hok.fresh hsz
  have hq := q1 (hp.objs.size + 1) hn
  have kk : ∀ b o, hp.get? b = some o → ((hp.push (PySem.W.kdv_tup us)).push (PySem.HandSPX.excO C hp.objs.size)).get? b = some o := fun b o e => Heap.get?_push_of_some _ (Heap.get?_push_of_some _ e)
  have hget : ((hp.push (PySem.W.kdv_tup us)).push (PySem.HandSPX.excO C hp.objs.size)).get? (hp.objs.size + 1) = some (PySem.HandSPX.excO C hp.objs.size) := by heap_get
  have I2 : Inv X pins σ (upd H1 (hp.objs.size + 1) (exo (hp.objs.size + 1) C none)) ⟨(hp.push (PySem.W.kdv_tup us)).push (PySem.HandSPX.excO C hp.objs.size), g, dr, tk, os⟩ :=
    I1.laid (t' := tk) (a := hp.objs.size + 1) (o := exo (hp.objs.size + 1) C none) (h' := (hp.push (PySem.W.kdv_tup us)).push (PySem.HandSPX.excO C hp.objs.size)) kk hsz (exo_ok hget)
  have r2 : Vals (V.ref (hp.objs.size + 1) :: vs) (Value.ref (hp.objs.size + 1) :: us) := .cons rfl r1
  have hl : (Value.ref (hp.objs.size + 1) :: us ++ ([] : List Value)).length = ps.length := by
    have e := r2.length
    rw [F1.len _ _ _ _ hq] at e
    rw [List.append_nil]
    exact e.symm
  have hus : us.length ≤ sizeLine := by
    rw [← Paired.length r1, sizeLine_eq]
    omega
  have hbb := hb _ (Value.ref (hp.objs.size + 1) :: us) I2.kIn hl
  rw [List.append_nil] at hbb
  refine wpAny_call (PySem.HandSPX.call_own T.base.FB (fun Y => rfl) (I1.kIn _ _ hC) (PySem.W.looks_findIn I1.kIn iC) (fun self => PySem.W.bind_fn I1.kIn self tI) hus
    (codeAny_mono (F1.run _ X.stack _ _ ⟨Value.ref (hp.objs.size + 1) :: us, []⟩ (Value.ref (hp.objs.size + 1) :: us) _ _ (fun _ _ _ => False) (hr.make C us []) (I2.env0.make C us []) hbb r2 hq) fun r s' hq' => ?_))
  cases r with
  | error er => exact hx pins σ _ _ er s' I2 hq'
  | ok fl =>
    cases fl with
    | ret u =>
      obtain ⟨v, H2, os2, bare2, un2, hok2, rv, ev, hh⟩ := hq'
      subst ev
      obtain ⟨h2, g2, d2, t2, os'⟩ := s'
      rcases hh with ⟨d, fs, ea, ed, hd1, q2⟩ | ⟨ea, q2⟩
      · exact ⟨rv, mk_end (raises_own T.exC T.tyC) I1 hsz kk un2 hok2 os2 bare2 ea ed hd1 q2⟩
      · exact ⟨rv, mk_endN (raises_own T.exC T.tyC) I1 hsz kk un2 hok2 os2 bare2 ea q2⟩
    | next => exact False.elim hq'
    | brk => exact False.elim hq'
    | cont => exact False.elim hq'
theorem pmkG {CX : CXT} {x : Str} {C fI : Addr} {k : Nat} {fd : FuncData} {ps : List Str} {sp : Sp} (T : OxG X.K C B newId initId bmB) (iC : PySem.W.findIn X.K (.ref C) "__init__" = some (some (.ref fI))) (tI : PySem.W.typeIn X.K (.ref fI) = some (.type "function"))
    (F1 : FnOk X.prog X.w X.K X.mg X.base CX k fI fd ps sp) (hr : Room (k + 1) X.A) (hb : Binds X.K fd ps []) (hx : Passes CX X (fun _ _ _ => False)) (hg : Gl X x) (hm : X.mg x = some (.ref C)) (ha : PA X (e :: es) ta)
    (hdb : (x == ("__debug__" : Str)) = false := by decide) (he : starEach (e :: es) X.env = (false, eval e X.env) :: starEach es X.env := by rfl) (hpl : (backTo pos (starEach es X.env)).any (·.1) = false := by rfl) :
    PMk X (.Call (.Name x p) (e :: es) [] pos) (tMkG C sp ta) := by
  intro pins s σ H Q I h
  refine wpAny_Call_Name_kw (ld_glob I hg hm ?_ hdb)
  refine PySem.W.callWith_K (h₀ := X.base) I.ok.mod.kin T.kC (thn (ha.run pos pins s σ H _ I h) fun us s1 ⟨vs, H1, I1, r1, hz, q1⟩ => ⟨I1.kIn, ?_⟩) he hpl
  exact pmk_runG T iC tI F1 hr hb hx I1 r1 hz q1
end
end Tr
end
section
set_option Elab.async false
set_option linter.all false
set_option maxRecDepth 100000
set_option maxHeartbeats 4000000
namespace Tr
open PySem PySem.Spec PyProof.Rows L2 PySem.W PySem.Calls
/-! ### the eight classes that are raised -/
def exN : Nat → Str
  | 0 => "OtherPeople"
  | 1 => "NoPerson"
  | 2 => "NoSeat"
  | 3 => "Empty"
  | 4 => "Barred"
  | 5 => "Stops"
  | 6 => "Few"
  | 7 => "Full"
  | _ => "Few"
def exF : Nat → Str
  | 0 => "many"
  | 1 => "person"
  | 2 => "seat"
  | 3 => "person"
  | 4 => "reason"
  | 5 => "many"
  | 6 => "many"
  | 7 => "many"
  | _ => "many"
abbrev mroB : String → List Value
  | "LookupError" => [.type "LookupError", .type "Exception", .type "BaseException", .type "object"]
  | "ValueError" => [.type "ValueError", .type "Exception", .type "BaseException", .type "object"]
  | "RuntimeError" => [.type "RuntimeError", .type "Exception", .type "BaseException", .type "object"]
  | "OverflowError" => [.type "OverflowError", .type "ArithmeticError", .type "Exception", .type "BaseException", .type "object"]
  | _ => []
theorem base_LookupError : BaseX "LookupError" "LookupError.__new__" "LookupError.__init__" [.type "LookupError", .type "Exception", .type "BaseException", .type "object"] where
  FB := F.excBase_LookupError
  SB := F.store_LookupError
  typ := by kernel_rfl
  stub := by decide +kernel
  hand := by decide +kernel
  boot := PyProof.Rows.Boot.«LookupError»
  n1 := by decide
  n2 := by decide
theorem base_ValueError : BaseX "ValueError" "ValueError.__new__" "ValueError.__init__" [.type "ValueError", .type "Exception", .type "BaseException", .type "object"] where
  FB := F.excBase_ValueError
  SB := F.store_ValueError
  typ := by kernel_rfl
  stub := by decide +kernel
  hand := by decide +kernel
  boot := PyProof.Rows.Boot.«ValueError»
  n1 := by decide
  n2 := by decide
theorem base_RuntimeError : BaseX "RuntimeError" "RuntimeError.__new__" "RuntimeError.__init__" [.type "RuntimeError", .type "Exception", .type "BaseException", .type "object"] where
  FB := F.excBase_RuntimeError
  SB := F.store_RuntimeError
  typ := by kernel_rfl
  stub := by decide +kernel
  hand := by decide +kernel
  boot := PyProof.Rows.Boot.«RuntimeError»
  n1 := by decide
  n2 := by decide
theorem base_OverflowError : BaseX "OverflowError" "OverflowError.__new__" "OverflowError.__init__" [.type "OverflowError", .type "ArithmeticError", .type "Exception", .type "BaseException", .type "object"] where
  FB := F.excBase_OverflowError
  SB := F.store_OverflowError
  typ := by kernel_rfl
  stub := by decide +kernel
  hand := by decide +kernel
  boot := PyProof.Rows.Boot.«OverflowError»
  n1 := by decide
  n2 := by decide
def clsB (K : Frag) (C : Addr) (bmB : List Value) (newId : String) : Bool := match K.lookup C with
  | some ⟨.type "type", _, .cls cd, sl⟩ => decide (cd.mro = .ref C :: bmB) && (cd.hasDict && (!cd.hasDel && (match sl.toList with
    | [_, _, _, _, some (.builtin n), _] => n == newId
    | _ => false)))
  | _ => false
theorem clsB_ok {K : Frag} {C : Addr} {bmB : List Value} {newId : String} (q : clsB K C bmB newId = true) :
    ∃ nm q N bs sn sub ab col dd k0 k1 k2 k3 k5, K.lookup C = some (excClassObj nm q C N bs bmB true sn sub ab col dd k0 k1 k2 k3 k5 newId) := by
  unfold clsB at q
  split at q
  · rename_i dd cd sl ho
    rw [Bool.and_eq_true, Bool.and_eq_true, Bool.and_eq_true] at q
    obtain ⟨q1, q2, q3, q4⟩ := q
    split at q4
    · rename_i k0 k1 k2 k3 n k5 hs
      have q1' := of_decide_eq_true q1
      have q4' := beq_iff_eq.mp q4
      obtain ⟨nm, bs, mro, ns, qn, hd, sn, sub, ab, col, del⟩ := cd
      dsimp only at q1' q2 q3
      have q3' : del = false := by cases del <;> simp_all
      subst q1' q2 q3' q4'
      have hsl : sl = #[k0, k1, k2, k3, some (.builtin n), k5] := by
        obtain ⟨l⟩ := sl
        simp only at hs
        rw [hs]
      subst hsl
      exact ⟨nm, qn, ns, bs, sn, sub, ab, col, dd, k0, k1, k2, k3, k5, ho⟩
    · cases q4
  · cases q
def valB (r : Option CFound) (v : Value) : Bool := match r with
  | some (.val u) => decide (u = v)
  | _ => false
theorem valB_ok {r : Option CFound} {v : Value} (h : valB r v = true) : r = some (.val v) := by
  unfold valB at h
  split at h
  · rw [of_decide_eq_true h]
  · cases h
/-- what is asked of the class x over B -/
def exB (K : Frag) (x f : Str) (bmB : List Value) (newId : String) : Bool :=
  clsB K (He.ga K x) bmB newId && (decide (findIn K (.ref (He.ga K x)) "__setattr__" = some (some (.builtin "object.__setattr__"))) && (decide (subIn K (.ref (He.ga K x)) (.type "BaseException") = some true) && (decide (typeIn K (.ref (He.ga K x)) = some (.type "type")) && (keepIn K (.ref (He.ga K x)) &&
  (decide (findIn K (.ref (He.ga K x)) "__init__" = some (some (.ref (He.ma K (He.ga K x) "__init__")))) && (decide (typeIn K (.ref (He.ma K (He.ga K x) "__init__")) = some (.type "function")) && (decide (findIn K (.ref (He.ga K x)) f = some none) &&
  (decide (findIn K (.ref (He.ga K x)) "__getattribute__" = some (some (.builtin "BaseException.__getattribute__"))) && (decide (findIn K (.ref (He.ga K x)) "__getattr__" = some none) && (hasDictIn K (He.ga K x) && (decide (findIn K (.ref (He.ga K x)) "__class__" = some (some (.builtin "object.__class__"))) &&
  decide (mroIn K (He.ga K x) (.type "object") = some true))))))))))))
structure ExX (K : Frag) (x f : Str) (B newId initId : String) (bmB : List Value) : Prop where
  ox : OxG K (He.ga K x) B newId initId bmB
  iC : findIn K (.ref (He.ga K x)) "__init__" = some (some (.ref (He.ma K (He.ga K x) "__init__")))
  tI : typeIn K (.ref (He.ma K (He.ga K x) "__init__")) = some (.type "function")
  no : findIn K (.ref (He.ga K x)) f = some none
  ga : findIn K (.ref (He.ga K x)) "__getattribute__" = some (some (.builtin "BaseException.__getattribute__"))
  gg : findIn K (.ref (He.ga K x)) "__getattr__" = some none
  hd : hasDictIn K (He.ga K x) = true
  cl : findIn K (.ref (He.ga K x)) "__class__" = some (some (.builtin "object.__class__"))
  mo : mroIn K (He.ga K x) (.type "object") = some true
theorem exB_ok {K : Frag} {x f : Str} {B newId initId : String} {bmB : List Value} (Bs : BaseX B newId initId bmB) (h : exB K x f bmB newId = true) : ExX K x f B newId initId bmB := by
  unfold exB at h
  simp only [Bool.and_eq_true] at h
  obtain ⟨h1, h2, h3, h4, h5, h6, h7, h8, h9, h10, h11, h12, h13⟩ := h
  exact ⟨⟨Bs, clsB_ok h1, of_decide_eq_true h2, of_decide_eq_true h3, of_decide_eq_true h4, h5⟩, of_decide_eq_true h6, of_decide_eq_true h7, of_decide_eq_true h8, of_decide_eq_true h9, of_decide_eq_true h10, h11, of_decide_eq_true h12, of_decide_eq_true h13⟩
/-- the classes that are asked for -/
def qC (K : Frag) : Nat → Value
  | 8 => .type "ValueError"
  | 9 => .type "LookupError"
  | 10 => .type "RuntimeError"
  | 11 => .type "OverflowError"
  | 12 => .type "KeyError"
  | 13 => .type "IndexError"
  | i => .ref (He.ga K (exN i))
def qB (i j : Nat) : Bool := if j < 8 then i == j else match j with
  | 8 => i == 0
  | 9 => i == 1 || i == 2
  | 10 => i == 3 || i == 4 || i == 5 || i == 6
  | 11 => i == 7
  | _ => false
def kitB (K : Frag) : Bool := (List.range 8).all fun i => (List.range 14).all fun j => decide (kitOne K (.ref (He.ga K (exN i))) (qC K j) = some (qB i j))
theorem kitB_ok {K : Frag} (h : kitB K = true) {i j : Nat} (hi : i < 8) (hj : j < 14) : kitOne K (.ref (He.ga K (exN i))) (qC K j) = some (qB i j) := by
  have h1 := List.all_eq_true.mp h i (List.mem_range.mpr hi)
  exact of_decide_eq_true (List.all_eq_true.mp h1 j (List.mem_range.mpr hj))
def nine (K : Frag) : List Value := [.ref (He.ga K "Barred"), .ref (He.ga K "Empty"), .ref (He.ga K "Few"), .ref (He.ga K "Full"), .ref (He.ga K "NoDeed"), .ref (He.ga K "NoPerson"), .ref (He.ga K "NoSeat"), .ref (He.ga K "OtherPeople"), .ref (He.ga K "Stops")]
def exmB (K : Frag) : Bool := (List.range 8).all fun i => decide (exmAny K (.ref (He.ga K (exN i))) (nine K) = some true)
theorem exmB_ok {K : Frag} (h : exmB K = true) {i : Nat} (hi : i < 8) : exmAny K (.ref (He.ga K (exN i))) (nine K) = some true := of_decide_eq_true (List.all_eq_true.mp h i (List.mem_range.mpr hi))
/-- all that is asked of the exceptions -/
def exAll (K : Frag) : Bool := exB K "OtherPeople" "many" [.type "ValueError", .type "Exception", .type "BaseException", .type "object"] "ValueError.__new__" && (exB K "NoPerson" "person" [.type "LookupError", .type "Exception", .type "BaseException", .type "object"] "LookupError.__new__" && (exB K "NoSeat" "seat" [.type "LookupError", .type "Exception", .type "BaseException", .type "object"] "LookupError.__new__" && (exB K "Empty" "person" [.type "RuntimeError", .type "Exception", .type "BaseException", .type "object"] "RuntimeError.__new__" && (exB K "Barred" "reason" [.type "RuntimeError", .type "Exception", .type "BaseException", .type "object"] "RuntimeError.__new__" && (exB K "Stops" "many" [.type "RuntimeError", .type "Exception", .type "BaseException", .type "object"] "RuntimeError.__new__" && (exB K "Few" "many" [.type "RuntimeError", .type "Exception", .type "BaseException", .type "object"] "RuntimeError.__new__" && (exB K "Full" "many" [.type "OverflowError", .type "ArithmeticError", .type "Exception", .type "BaseException", .type "object"] "OverflowError.__new__" && (valB (findCls K (.type "LookupError") (.type "type") "__init__") (.builtin "LookupError.__init__") && (valB (findCls K (.type "ValueError") (.type "type") "__init__") (.builtin "ValueError.__init__") && (valB (findCls K (.type "RuntimeError") (.type "type") "__init__") (.builtin "RuntimeError.__init__") && (valB (findCls K (.type "OverflowError") (.type "type") "__init__") (.builtin "OverflowError.__init__") && (kitB K && (exmB K && (decide (specialIn K (.builtin "object.__class__") "__get__" = some (some (.builtin "getset_descriptor.__get__"))) && (decide (takesIn K (.builtin "object.__class__") = some true) && (decide (findIn K (.ref (He.ga K "Party")) "__class__" = some (some (.builtin "object.__class__"))) && (decide (mroIn K (He.ga K "Party") (.type "object") = some true) && (decide (kitOne K (.ref (He.ga K "Party")) (.ref (He.ga K "Party")) = some true) && (He.valsB K (He.ga K "SIZES") [("exchange", .int 1)])))))))))))))))))))
structure Ex (K : Frag) : Prop where
  x_OtherPeople : ExX K "OtherPeople" "many" "ValueError" "ValueError.__new__" "ValueError.__init__" [.type "ValueError", .type "Exception", .type "BaseException", .type "object"]
  x_NoPerson : ExX K "NoPerson" "person" "LookupError" "LookupError.__new__" "LookupError.__init__" [.type "LookupError", .type "Exception", .type "BaseException", .type "object"]
  x_NoSeat : ExX K "NoSeat" "seat" "LookupError" "LookupError.__new__" "LookupError.__init__" [.type "LookupError", .type "Exception", .type "BaseException", .type "object"]
  x_Empty : ExX K "Empty" "person" "RuntimeError" "RuntimeError.__new__" "RuntimeError.__init__" [.type "RuntimeError", .type "Exception", .type "BaseException", .type "object"]
  x_Barred : ExX K "Barred" "reason" "RuntimeError" "RuntimeError.__new__" "RuntimeError.__init__" [.type "RuntimeError", .type "Exception", .type "BaseException", .type "object"]
  x_Stops : ExX K "Stops" "many" "RuntimeError" "RuntimeError.__new__" "RuntimeError.__init__" [.type "RuntimeError", .type "Exception", .type "BaseException", .type "object"]
  x_Few : ExX K "Few" "many" "RuntimeError" "RuntimeError.__new__" "RuntimeError.__init__" [.type "RuntimeError", .type "Exception", .type "BaseException", .type "object"]
  x_Full : ExX K "Full" "many" "OverflowError" "OverflowError.__new__" "OverflowError.__init__" [.type "OverflowError", .type "ArithmeticError", .type "Exception", .type "BaseException", .type "object"]
  v_LookupError : findCls K (.type "LookupError") (.type "type") "__init__" = some (.val (.builtin "LookupError.__init__"))
  v_ValueError : findCls K (.type "ValueError") (.type "type") "__init__" = some (.val (.builtin "ValueError.__init__"))
  v_RuntimeError : findCls K (.type "RuntimeError") (.type "type") "__init__" = some (.val (.builtin "RuntimeError.__init__"))
  v_OverflowError : findCls K (.type "OverflowError") (.type "type") "__init__" = some (.val (.builtin "OverflowError.__init__"))
  kit : ∀ {i j : Nat}, i < 8 → j < 14 → kitOne K (.ref (He.ga K (exN i))) (qC K j) = some (qB i j)
  exm : ∀ {i : Nat}, i < 8 → exmAny K (.ref (He.ga K (exN i))) (nine K) = some true
  sn : specialIn K (.builtin "object.__class__") "__get__" = some (some (.builtin "getset_descriptor.__get__"))
  st : takesIn K (.builtin "object.__class__") = some true
  pcl : findIn K (.ref (He.ga K "Party")) "__class__" = some (some (.builtin "object.__class__"))
  pmo : mroIn K (He.ga K "Party") (.type "object") = some true
  pkit : kitOne K (.ref (He.ga K "Party")) (.ref (He.ga K "Party")) = some true
  siz : ∃ u, nsIn K (He.ga K "SIZES") "exchange" = some (some u) ∧ RelV (.int 1) u
theorem ex_mk {K : Frag} (h : exAll K = true) : Ex K := by
  unfold exAll at h
  simp only [Bool.and_eq_true] at h
  obtain ⟨h0, h1, h2, h3, h4, h5, h6, h7, h8, h9, h10, h11, h12, h13, h14, h15, h16, h17, h18, h19⟩ := h
  exact ⟨exB_ok base_ValueError h0, exB_ok base_LookupError h1, exB_ok base_LookupError h2, exB_ok base_RuntimeError h3, exB_ok base_RuntimeError h4, exB_ok base_RuntimeError h5, exB_ok base_RuntimeError h6, exB_ok base_OverflowError h7, valB_ok h8, valB_ok h9, valB_ok h10, valB_ok h11, kitB_ok h12, exmB_ok h13, of_decide_eq_true h14, of_decide_eq_true h15, of_decide_eq_true h16, of_decide_eq_true h17, of_decide_eq_true h18, He.valsB_ok h19 (List.mem_singleton.mpr rfl)⟩
/-! ### promises of the inits -/
def spXi (C : Addr) (f : Str) : Sp := fun vs H Q _ => ∃ (a : Addr) (v : V), vs = [.ref a, v] ∧ H a = some (exo a C none) ∧ ∀ dx, H dx = none → dx ≠ a → Q .non (upd (upd H dx (exd dx [(f, v)])) a (exo a C (some dx)))
def spX0 (C : Addr) : Sp := fun vs H Q _ => ∃ (a : Addr), vs = [.ref a] ∧ H a = some (exo a C none) ∧ Q .non H
inductive Er
  | one (i : Nat) (v : V)
  | few
def ErrAt (K : Frag) (H : Hp) (cls : Value) (d : Option Addr) : Er → Prop
  | .one i v => cls = .ref (He.ga K (exN i)) ∧ ∃ dd, d = some dd ∧ H dd = some (.xd [(exF i, v)])
  | .few => cls = .ref (He.ga K (exN 6)) ∧ d = none
theorem mk1_of {C : Addr} {f : Str} {v : V} {H1 : Hp} {Q : XK} (h : ∀ d, H1 d = none → Q (.ref C) (some d) (upd H1 d (.xd [(f, v)]))) :
    [v].length ≤ 1000 ∧ ∀ a, H1 a = none → spXi C f (.ref a :: [v]) (upd H1 a (exo a C none))
      (fun u H2 => u = .non ∧ ((∃ (d : Addr) (fs : List (Str × V)), H2 a = some (exo a C (some d)) ∧ H2 d = some (exd d fs) ∧ H1 d = none ∧ Q (.ref C) (some d) (upd (L2.del H2 a) d (.xd fs))) ∨ (H2 a = some (exo a C none) ∧ Q (.ref C) none (L2.del H2 a)))) (fun _ _ _ => False) := by
  refine ⟨by show 1 ≤ 1000; decide, fun a ha => ⟨a, v, rfl, upd_same, fun dx hd hne => ⟨rfl, .inl ⟨dx, [(f, v)], upd_same, (upd_ne hne).trans upd_same, ?_, ?_⟩⟩⟩⟩
  · rw [← upd_ne hne (H := H1) (o := exo a C none)]
    exact hd
  · have h1 : H1 dx = none := by
      rw [← upd_ne hne (H := H1) (o := exo a C none)]
      exact hd
    have e : upd (L2.del (upd (upd (upd H1 a (exo a C none)) dx (exd dx [(f, v)])) a (exo a C (some dx))) a) dx (.xd [(f, v)]) = upd H1 dx (.xd [(f, v)]) := by
      funext b
      by_cases c : b = dx
      · subst c
        rw [upd_same, upd_same]
      · rw [upd_ne c, upd_ne c]
        by_cases c2 : b = a
        · subst c2
          rw [del_same, ha]
        · rw [del_ne c2, upd_ne c2, upd_ne c, upd_ne c2]
    rw [e]
    exact h dx h1
section
variable {P : Program} {w : World} {K : PySem.W.Frag} {mg : Str → Option Value} {base : Heap}
theorem sc_OtherPeople_init : FnScope ["self", "many"] ["self", "many"] (defScope s_OtherPeople_init) := ⟨rfl, rfl, rfl, by decide +kernel, rfl, by decide +kernel, by decide +kernel⟩
theorem ok_OtherPeople_init (T : Tx K mg) (Z : Ex K) : FnOk P w K mg base CX0 1 (He.ma K (He.ga K "OtherPeople") "__init__") (fdOf K (He.ma K (He.ga K "OtherPeople") "__init__")) ["self", "many"] (spXi (He.ga K "OtherPeople") "many") := by
  refine T.F_OtherPeople_init.ok sc_OtherPeople_init (fun vs H Q E h => ?_) (fun cdv A outer s H vs Q E hr h => ?_)
  · obtain ⟨a, v, rfl, _⟩ := h
    rfl
  · obtain ⟨a, v, rfl, ha, q⟩ := h
    refine ⟨_, PSs.nox (pss_cons (ps_expr (pe_initG base_ValueError rfl T.b_ValueError Z.v_ValueError (pa_cons (pv 0) (pa_cons (pv 1) pa_nil)))) (pss_one (ps_ostG (B := "ValueError") (newId := "ValueError.__new__") (initId := "ValueError.__init__") (bmB := [.type "ValueError", .type "Exception", .type "BaseException", .type "object"]) (pv 0) (pv 1)))), ?_⟩
    exact ⟨_, rfl, _, rfl, a, He.ga K "OtherPeople", [v], rfl, by show 1 ≤ 1000; decide, Z.x_OtherPeople.ox, ha, _, rfl, _, rfl, a, He.ga K "OtherPeople", rfl, Z.x_OtherPeople.ox, Z.x_OtherPeople.no, ha, q⟩
theorem sc_NoPerson_init : FnScope ["self", "person"] ["self", "person"] (defScope s_NoPerson_init) := ⟨rfl, rfl, rfl, by decide +kernel, rfl, by decide +kernel, by decide +kernel⟩
theorem ok_NoPerson_init (T : Tx K mg) (Z : Ex K) : FnOk P w K mg base CX0 1 (He.ma K (He.ga K "NoPerson") "__init__") (fdOf K (He.ma K (He.ga K "NoPerson") "__init__")) ["self", "person"] (spXi (He.ga K "NoPerson") "person") := by
  refine T.F_NoPerson_init.ok sc_NoPerson_init (fun vs H Q E h => ?_) (fun cdv A outer s H vs Q E hr h => ?_)
  · obtain ⟨a, v, rfl, _⟩ := h
    rfl
  · obtain ⟨a, v, rfl, ha, q⟩ := h
    refine ⟨_, PSs.nox (pss_cons (ps_expr (pe_initG base_LookupError rfl T.b_LookupError Z.v_LookupError (pa_cons (pv 0) (pa_cons (pv 1) pa_nil)))) (pss_one (ps_ostG (B := "LookupError") (newId := "LookupError.__new__") (initId := "LookupError.__init__") (bmB := [.type "LookupError", .type "Exception", .type "BaseException", .type "object"]) (pv 0) (pv 1)))), ?_⟩
    exact ⟨_, rfl, _, rfl, a, He.ga K "NoPerson", [v], rfl, by show 1 ≤ 1000; decide, Z.x_NoPerson.ox, ha, _, rfl, _, rfl, a, He.ga K "NoPerson", rfl, Z.x_NoPerson.ox, Z.x_NoPerson.no, ha, q⟩
theorem sc_NoSeat_init : FnScope ["self", "seat"] ["self", "seat"] (defScope s_NoSeat_init) := ⟨rfl, rfl, rfl, by decide +kernel, rfl, by decide +kernel, by decide +kernel⟩
theorem ok_NoSeat_init (T : Tx K mg) (Z : Ex K) : FnOk P w K mg base CX0 1 (He.ma K (He.ga K "NoSeat") "__init__") (fdOf K (He.ma K (He.ga K "NoSeat") "__init__")) ["self", "seat"] (spXi (He.ga K "NoSeat") "seat") := by
  refine T.F_NoSeat_init.ok sc_NoSeat_init (fun vs H Q E h => ?_) (fun cdv A outer s H vs Q E hr h => ?_)
  · obtain ⟨a, v, rfl, _⟩ := h
    rfl
  · obtain ⟨a, v, rfl, ha, q⟩ := h
    refine ⟨_, PSs.nox (pss_cons (ps_expr (pe_initG base_LookupError rfl T.b_LookupError Z.v_LookupError (pa_cons (pv 0) (pa_cons (pv 1) pa_nil)))) (pss_one (ps_ostG (B := "LookupError") (newId := "LookupError.__new__") (initId := "LookupError.__init__") (bmB := [.type "LookupError", .type "Exception", .type "BaseException", .type "object"]) (pv 0) (pv 1)))), ?_⟩
    exact ⟨_, rfl, _, rfl, a, He.ga K "NoSeat", [v], rfl, by show 1 ≤ 1000; decide, Z.x_NoSeat.ox, ha, _, rfl, _, rfl, a, He.ga K "NoSeat", rfl, Z.x_NoSeat.ox, Z.x_NoSeat.no, ha, q⟩
theorem sc_Empty_init : FnScope ["self", "person"] ["self", "person"] (defScope s_Empty_init) := ⟨rfl, rfl, rfl, by decide +kernel, rfl, by decide +kernel, by decide +kernel⟩
theorem ok_Empty_init (T : Tx K mg) (Z : Ex K) : FnOk P w K mg base CX0 1 (He.ma K (He.ga K "Empty") "__init__") (fdOf K (He.ma K (He.ga K "Empty") "__init__")) ["self", "person"] (spXi (He.ga K "Empty") "person") := by
  refine T.F_Empty_init.ok sc_Empty_init (fun vs H Q E h => ?_) (fun cdv A outer s H vs Q E hr h => ?_)
  · obtain ⟨a, v, rfl, _⟩ := h
    rfl
  · obtain ⟨a, v, rfl, ha, q⟩ := h
    refine ⟨_, PSs.nox (pss_cons (ps_expr (pe_initG base_RuntimeError rfl T.b_RuntimeError Z.v_RuntimeError (pa_cons (pv 0) (pa_cons (pv 1) pa_nil)))) (pss_one (ps_ostG (B := "RuntimeError") (newId := "RuntimeError.__new__") (initId := "RuntimeError.__init__") (bmB := [.type "RuntimeError", .type "Exception", .type "BaseException", .type "object"]) (pv 0) (pv 1)))), ?_⟩
    exact ⟨_, rfl, _, rfl, a, He.ga K "Empty", [v], rfl, by show 1 ≤ 1000; decide, Z.x_Empty.ox, ha, _, rfl, _, rfl, a, He.ga K "Empty", rfl, Z.x_Empty.ox, Z.x_Empty.no, ha, q⟩
theorem sc_Barred_init : FnScope ["self", "reason"] ["self", "reason"] (defScope s_Barred_init) := ⟨rfl, rfl, rfl, by decide +kernel, rfl, by decide +kernel, by decide +kernel⟩
theorem ok_Barred_init (T : Tx K mg) (Z : Ex K) : FnOk P w K mg base CX0 1 (He.ma K (He.ga K "Barred") "__init__") (fdOf K (He.ma K (He.ga K "Barred") "__init__")) ["self", "reason"] (spXi (He.ga K "Barred") "reason") := by
  refine T.F_Barred_init.ok sc_Barred_init (fun vs H Q E h => ?_) (fun cdv A outer s H vs Q E hr h => ?_)
  · obtain ⟨a, v, rfl, _⟩ := h
    rfl
  · obtain ⟨a, v, rfl, ha, q⟩ := h
    refine ⟨_, PSs.nox (pss_cons (ps_expr (pe_initG base_RuntimeError rfl T.b_RuntimeError Z.v_RuntimeError (pa_cons (pv 0) (pa_cons (pv 1) pa_nil)))) (pss_one (ps_ostG (B := "RuntimeError") (newId := "RuntimeError.__new__") (initId := "RuntimeError.__init__") (bmB := [.type "RuntimeError", .type "Exception", .type "BaseException", .type "object"]) (pv 0) (pv 1)))), ?_⟩
    exact ⟨_, rfl, _, rfl, a, He.ga K "Barred", [v], rfl, by show 1 ≤ 1000; decide, Z.x_Barred.ox, ha, _, rfl, _, rfl, a, He.ga K "Barred", rfl, Z.x_Barred.ox, Z.x_Barred.no, ha, q⟩
theorem sc_Stops_init : FnScope ["self", "many"] ["self", "many"] (defScope s_Stops_init) := ⟨rfl, rfl, rfl, by decide +kernel, rfl, by decide +kernel, by decide +kernel⟩
theorem ok_Stops_init (T : Tx K mg) (Z : Ex K) : FnOk P w K mg base CX0 1 (He.ma K (He.ga K "Stops") "__init__") (fdOf K (He.ma K (He.ga K "Stops") "__init__")) ["self", "many"] (spXi (He.ga K "Stops") "many") := by
  refine T.F_Stops_init.ok sc_Stops_init (fun vs H Q E h => ?_) (fun cdv A outer s H vs Q E hr h => ?_)
  · obtain ⟨a, v, rfl, _⟩ := h
    rfl
  · obtain ⟨a, v, rfl, ha, q⟩ := h
    refine ⟨_, PSs.nox (pss_cons (ps_expr (pe_initG base_RuntimeError rfl T.b_RuntimeError Z.v_RuntimeError (pa_cons (pv 0) (pa_cons (pv 1) pa_nil)))) (pss_one (ps_ostG (B := "RuntimeError") (newId := "RuntimeError.__new__") (initId := "RuntimeError.__init__") (bmB := [.type "RuntimeError", .type "Exception", .type "BaseException", .type "object"]) (pv 0) (pv 1)))), ?_⟩
    exact ⟨_, rfl, _, rfl, a, He.ga K "Stops", [v], rfl, by show 1 ≤ 1000; decide, Z.x_Stops.ox, ha, _, rfl, _, rfl, a, He.ga K "Stops", rfl, Z.x_Stops.ox, Z.x_Stops.no, ha, q⟩
theorem sc_Few_init : FnScope ["self"] ["self"] (defScope s_Few_init) := ⟨rfl, rfl, rfl, by decide +kernel, rfl, by decide +kernel, by decide +kernel⟩
theorem ok_Few_init (T : Tx K mg) (Z : Ex K) : FnOk P w K mg base CX0 1 (He.ma K (He.ga K "Few") "__init__") (fdOf K (He.ma K (He.ga K "Few") "__init__")) ["self"] (spX0 (He.ga K "Few")) := by
  refine T.F_Few_init.ok sc_Few_init (fun vs H Q E h => ?_) (fun cdv A outer s H vs Q E hr h => ?_)
  · obtain ⟨a, rfl, _⟩ := h
    rfl
  · obtain ⟨a, rfl, ha, q⟩ := h
    refine ⟨_, PSs.nox (pss_one (ps_expr (pe_initG base_RuntimeError rfl T.b_RuntimeError Z.v_RuntimeError (pa_cons (pv 0) pa_nil)))), ?_⟩
    exact ⟨_, rfl, a, He.ga K "Few", [], rfl, by show 0 ≤ 1000; decide, Z.x_Few.ox, ha, q⟩
theorem sc_Full_init : FnScope ["self", "many"] ["self", "many"] (defScope s_Full_init) := ⟨rfl, rfl, rfl, by decide +kernel, rfl, by decide +kernel, by decide +kernel⟩
theorem ok_Full_init (T : Tx K mg) (Z : Ex K) : FnOk P w K mg base CX0 1 (He.ma K (He.ga K "Full") "__init__") (fdOf K (He.ma K (He.ga K "Full") "__init__")) ["self", "many"] (spXi (He.ga K "Full") "many") := by
  refine T.F_Full_init.ok sc_Full_init (fun vs H Q E h => ?_) (fun cdv A outer s H vs Q E hr h => ?_)
  · obtain ⟨a, v, rfl, _⟩ := h
    rfl
  · obtain ⟨a, v, rfl, ha, q⟩ := h
    refine ⟨_, PSs.nox (pss_cons (ps_expr (pe_initG base_OverflowError rfl T.b_OverflowError Z.v_OverflowError (pa_cons (pv 0) (pa_cons (pv 1) pa_nil)))) (pss_one (ps_ostG (B := "OverflowError") (newId := "OverflowError.__new__") (initId := "OverflowError.__init__") (bmB := [.type "OverflowError", .type "ArithmeticError", .type "Exception", .type "BaseException", .type "object"]) (pv 0) (pv 1)))), ?_⟩
    exact ⟨_, rfl, _, rfl, a, He.ga K "Full", [v], rfl, by show 1 ≤ 1000; decide, Z.x_Full.ox, ha, _, rfl, _, rfl, a, He.ga K "Full", rfl, Z.x_Full.ox, Z.x_Full.no, ha, q⟩
end
section
variable {X : Cx} {e : Expr} {ta : TA} {p pos : Pos} {CX : CXT}
theorem mk_OtherPeople (T : Tx X.K X.mg) (Z : Ex X.K) (hr : Room 2 X.A) (hg : Gl X "OtherPeople") (ha : PA X [e] ta) (hs : starEach [e] X.env = (false, eval e X.env) :: starEach [] X.env := by rfl) : PMk X (.Call (.Name "OtherPeople" p) [e] [] pos) (tMkG (He.ga X.K "OtherPeople") (spXi (He.ga X.K "OtherPeople") "many") ta) :=
  pmkG Z.x_OtherPeople.ox Z.x_OtherPeople.iC Z.x_OtherPeople.tI (ok_OtherPeople_init T Z) hr T.b_f_OtherPeople_init pass0 hg T.g_OtherPeople ha (by decide) hs
theorem mk_NoPerson (T : Tx X.K X.mg) (Z : Ex X.K) (hr : Room 2 X.A) (hg : Gl X "NoPerson") (ha : PA X [e] ta) (hs : starEach [e] X.env = (false, eval e X.env) :: starEach [] X.env := by rfl) : PMk X (.Call (.Name "NoPerson" p) [e] [] pos) (tMkG (He.ga X.K "NoPerson") (spXi (He.ga X.K "NoPerson") "person") ta) :=
  pmkG Z.x_NoPerson.ox Z.x_NoPerson.iC Z.x_NoPerson.tI (ok_NoPerson_init T Z) hr T.b_f_NoPerson_init pass0 hg T.g_NoPerson ha (by decide) hs
theorem mk_NoSeat (T : Tx X.K X.mg) (Z : Ex X.K) (hr : Room 2 X.A) (hg : Gl X "NoSeat") (ha : PA X [e] ta) (hs : starEach [e] X.env = (false, eval e X.env) :: starEach [] X.env := by rfl) : PMk X (.Call (.Name "NoSeat" p) [e] [] pos) (tMkG (He.ga X.K "NoSeat") (spXi (He.ga X.K "NoSeat") "seat") ta) :=
  pmkG Z.x_NoSeat.ox Z.x_NoSeat.iC Z.x_NoSeat.tI (ok_NoSeat_init T Z) hr T.b_f_NoSeat_init pass0 hg T.g_NoSeat ha (by decide) hs
theorem mk_Empty (T : Tx X.K X.mg) (Z : Ex X.K) (hr : Room 2 X.A) (hg : Gl X "Empty") (ha : PA X [e] ta) (hs : starEach [e] X.env = (false, eval e X.env) :: starEach [] X.env := by rfl) : PMk X (.Call (.Name "Empty" p) [e] [] pos) (tMkG (He.ga X.K "Empty") (spXi (He.ga X.K "Empty") "person") ta) :=
  pmkG Z.x_Empty.ox Z.x_Empty.iC Z.x_Empty.tI (ok_Empty_init T Z) hr T.b_f_Empty_init pass0 hg T.g_Empty ha (by decide) hs
theorem mk_Barred (T : Tx X.K X.mg) (Z : Ex X.K) (hr : Room 2 X.A) (hg : Gl X "Barred") (ha : PA X [e] ta) (hs : starEach [e] X.env = (false, eval e X.env) :: starEach [] X.env := by rfl) : PMk X (.Call (.Name "Barred" p) [e] [] pos) (tMkG (He.ga X.K "Barred") (spXi (He.ga X.K "Barred") "reason") ta) :=
  pmkG Z.x_Barred.ox Z.x_Barred.iC Z.x_Barred.tI (ok_Barred_init T Z) hr T.b_f_Barred_init pass0 hg T.g_Barred ha (by decide) hs
theorem mk_Stops (T : Tx X.K X.mg) (Z : Ex X.K) (hr : Room 2 X.A) (hg : Gl X "Stops") (ha : PA X [e] ta) (hs : starEach [e] X.env = (false, eval e X.env) :: starEach [] X.env := by rfl) : PMk X (.Call (.Name "Stops" p) [e] [] pos) (tMkG (He.ga X.K "Stops") (spXi (He.ga X.K "Stops") "many") ta) :=
  pmkG Z.x_Stops.ox Z.x_Stops.iC Z.x_Stops.tI (ok_Stops_init T Z) hr T.b_f_Stops_init pass0 hg T.g_Stops ha (by decide) hs
theorem mk_Full (T : Tx X.K X.mg) (Z : Ex X.K) (hr : Room 2 X.A) (hg : Gl X "Full") (ha : PA X [e] ta) (hs : starEach [e] X.env = (false, eval e X.env) :: starEach [] X.env := by rfl) : PMk X (.Call (.Name "Full" p) [e] [] pos) (tMkG (He.ga X.K "Full") (spXi (He.ga X.K "Full") "many") ta) :=
  pmkG Z.x_Full.ox Z.x_Full.iC Z.x_Full.tI (ok_Full_init T Z) hr T.b_f_Full_init pass0 hg T.g_Full ha (by decide) hs
/-- Few() -/
theorem mk_Few (T : Tx X.K X.mg) (Z : Ex X.K) (hr : Room 2 X.A) (hg : Gl X "Few") : PMk X (.Call (.Name "Few" p) [] [] pos) (fun σ H Q => ∀ a, H a = none → Q (.ref (He.ga X.K "Few")) none H) := by
  intro pins s σ H Q I h
  refine wpAny_Call_Name_kw (ld_glob I hg T.g_Few ?_ (by decide))
  refine PySem.W.callWith_K0 I.kIn Z.x_Few.ox.kC (pmk_runG (us := []) (vs := []) Z.x_Few.ox Z.x_Few.iC Z.x_Few.tI (ok_Few_init T Z) hr T.b_f_Few_init pass0 I .nil (by show 0 ≤ 1000; decide) fun a ha => ?_)
  refine ⟨a, rfl, upd_same, rfl, .inr ⟨upd_same, ?_⟩⟩
  have e : L2.del (upd H a (exo a (He.ga X.K "Few") none)) a = H := by
    funext b
    by_cases c : b = a
    · subst c
      rw [del_same, ha]
    · rw [del_ne c, upd_ne c]
  rw [e]
  exact h a ha
end
end Tr
end
section
set_option Elab.async false
set_option linter.all false
set_option maxRecDepth 100000
set_option maxHeartbeats 4000000
namespace Tr
open PySem PySem.Spec PyProof.Rows L2
theorem atI_of {α : Type} {xs : List α} {x : Int} {v : α} (h0 : 0 ≤ x) (h : xs[x.toNat]? = some v) : atI xs x = some v := by
  have := atI_nat h
  rw [Int.toNat_of_nonneg h0] at this
  exact this
/-! ### mirrors -/
theorem sitN_rg {ss : List Int} : ∀ k, k ≤ ss.length → ∀ x, x ∈ sitN ss k → 0 ≤ x ∧ (x < ss.length ∨ x = 0)
  | 0, _, x, h => by
    have := List.eq_of_mem_replicate h
    subst this
    exact ⟨Int.le_refl _, .inr rfl⟩
  | k + 1, hk, x, h => by
    rcases List.mem_or_eq_of_mem_set h with h | rfl
    · exact sitN_rg k (by omega) x h
    · exact ⟨by omega, .inl (by omega)⟩
theorem sit_at {n : Nat} {s : S} (hn : Rg n s) {x : Int} (h0 : 0 ≤ x) (h1 : x < n) : ∃ p : Nat, p < n ∧ (sit s.1)[x.toNat]? = some (p : Int) := by
  have l1 := hn.l1
  have ls := sit_len s.1
  have np := hn.pos
  obtain ⟨y, hy⟩ := get_lt (xs := sit s.1) (i := x.toNat) (by omega)
  obtain ⟨a, b⟩ := sitN_rg s.1.length (Nat.le_refl _) y (List.mem_of_getElem? hy)
  exact ⟨y.toNat, by omega, by rw [hy, Int.toNat_of_nonneg a]⟩
/-- one exchange -/
def swp (s : S) (p o : Nat) : S := ((s.1.set p (s.1.getD o 0)).set o (s.1.getD p 0), (s.2.set p (s.2.getD p 0 - 1)).set o ((s.2.set p (s.2.getD p 0 - 1)).getD o 0 + 1))
def pay (s : S) (x : Int) : Nat := ((sit s.1).getD x.toNat 0).toNat
def oth (s : S) (x : Int) : Nat := ((sit s.1).getD ((x + 1) % (s.1.length : Int)).toNat 0).toNat
def exq (s : S) (x : Int) : Except Er S :=
  if 0 ≤ x ∧ x < s.1.length then
    if s.2.getD (pay s x) 0 = 0 then .error (.one 3 (.int (pay s x))) else .ok (swp s (pay s x) (oth s x))
  else .error (.one 2 (.int x))
def runq (s : S) : List Int → Except Er S
  | [] => .ok s
  | x :: r => match exq s x with
    | .ok t => runq t r
    | .error e => .error e
theorem runq_cons {s : S} {x : Int} {r : List Int} : runq s (x :: r) = match exq s x with
    | .ok t => runq t r
    | .error e => .error e := rfl
theorem swp_rg {n : Nat} {s : S} (hn : Rg n s) {p o : Nat} (hp : p < n) (ho : o < n) : Rg n (swp s p o) where
  l1 := by simp [swp, hn.l1]
  l2 := by simp [swp, hn.l2]
  pos := hn.pos
  top := hn.top
  rg := fun x hx => by
    have l1 := hn.l1
    rcases List.mem_or_eq_of_mem_set hx with hx | rfl
    · rcases List.mem_or_eq_of_mem_set hx with hx | rfl
      · exact hn.rg x hx
      · obtain ⟨y, hy, e⟩ := hn.at ho
        rw [getD_of e]
        omega
    · obtain ⟨y, hy, e⟩ := hn.at hp
      rw [getD_of e]
      omega
theorem pay_lt {n : Nat} {s : S} (hn : Rg n s) {x : Int} (h0 : 0 ≤ x) (h1 : x < n) : pay s x < n ∧ (sit s.1)[x.toNat]? = some (pay s x : Int) := by
  obtain ⟨p, hp, e⟩ := sit_at hn h0 h1
  unfold pay
  rw [getD_of e]
  exact ⟨by omega, e⟩
theorem oth_lt {n : Nat} {s : S} (hn : Rg n s) (x : Int) : oth s x < n ∧ (sit s.1)[((x + 1) % (s.1.length : Int)).toNat]? = some (oth s x : Int) := by
  have l1 := hn.l1
  have np := hn.pos
  have a := Int.emod_nonneg (x + 1) (b := (s.1.length : Int)) (by omega)
  have b := Int.emod_lt_of_pos (x + 1) (b := (s.1.length : Int)) (by omega)
  obtain ⟨p, hp, e⟩ := sit_at hn a (by omega)
  unfold oth
  rw [getD_of e]
  exact ⟨by omega, e⟩
theorem exq_rg {n : Nat} {s t : S} (hn : Rg n s) {x : Int} (h : exq s x = .ok t) : Rg n t := by
  have l1 := hn.l1
  unfold exq at h
  split at h
  · rename_i c
    split at h
    · cases h
    · cases h
      exact swp_rg hn (pay_lt hn c.1 (by omega)).1 (oth_lt hn x).1
  · cases h
theorem runq_rg {n : Nat} : ∀ {row : List Int} {s t : S}, Rg n s → runq s row = .ok t → Rg n t
  | [], s, t, hn, h => by cases h; exact hn
  | x :: r, s, t, hn, h => by
    unfold runq at h
    split at h
    · rename_i u e
      exact runq_rg (exq_rg hn e) h
    · cases h
/-! ### promises -/
def Gives {α : Type} (K : PySem.W.Frag) (H : Hp) (E : XK) (r : Except Er α) (ok : α → Prop) : Prop := match r with
  | .ok a => ok a
  | .error e => ∀ cls d H', Same H H' → ErrAt K H' cls d e → E cls d H'
def spExq (K : PySem.W.Frag) : Sp := fun vs H Q E => ∃ (v : V) (s : S) (n : Nat) (x : Int), vs = [v, .int x] ∧ TD H v (stD s) ∧ Rg n s ∧ Gives K H E (exq s x) fun t => ∀ u H', Same H H' → TD H' u (stD t) → Q u H'
def spAlong (K : PySem.W.Frag) : Sp := fun vs H Q E => ∃ (v : V) (s : S) (n : Nat) (a : Addr) (row : List Int), vs = [v, .ref a] ∧ TD H v (stD s) ∧ Rg n s ∧ H a = some (.lst (row.map .int)) ∧ row.length ≤ 1000 ∧
  Gives K H E (runq s row) fun t => ∀ p ys y H', H p = none → Same H H' → H' p = some (.lst (ys ++ [y])) → TD H' y (stD t) → ys.length ≤ 1000 → Q (.ref p) H'
def spRun (K : PySem.W.Frag) : Sp := fun vs H Q E => ∃ (v : V) (s : S) (n : Nat) (a : Addr) (row : List Int), vs = [v, .ref a] ∧ TD H v (stD s) ∧ Rg n s ∧ H a = some (.lst (row.map .int)) ∧ row.length ≤ 1000 ∧
  Gives K H E (runq s row) fun t => ∀ u H', Same H H' → TD H' u (stD t) → Q u H'
def spLookP (K : PySem.W.Frag) : Sp := fun vs H Q E => ∃ (i j : Int), vs = [.int i, .int j] ∧ Gives K H E (if i = j then .ok () else .error (.one 0 (.int j))) fun _ => Q .non H
def exs (s : S) : List Int := pickI (fun i => decide (s.2.getD ((sit s.1).getD i 0).toNat 0 > 0)) (fun i => (i : Int)) s.1.length
def spExs : Sp := fun vs H Q _ => ∃ (v : V) (s : S) (n : Nat), vs = [v] ∧ TD H v (stD s) ∧ Rg n s ∧ ∀ p H', H p = none → Same H H' → H' p = some (.lst ((exs s).map .int)) → Q (.ref p) H'
section
variable {P : Program} {w : World} {K : PySem.W.Frag} {mg : Str → Option Value} {base : Heap}
theorem sc_look_people : FnScope ["size", "many"] ["size", "many"] (defScope s_look_people) := ⟨rfl, rfl, rfl, by decide +kernel, rfl, by decide +kernel, by decide +kernel⟩
theorem ok_look_people (T : Tx K mg) (Z : Ex K) : FnOk P w K mg base (L2.CX P w) 4 (He.ga K "look_people") (fdOf K (He.ga K "look_people")) ["size", "many"] (spLookP K) := by
  refine T.F_look_people.ok sc_look_people (fun vs H Q E h => ?_) (fun cdv A outer s H vs Q E hr h => ?_)
  · obtain ⟨i, j, rfl, _⟩ := h
    rfl
  · obtain ⟨i, j, rfl, h⟩ := h
    refine ⟨_, (pss_one (ps_if (pt_cmpR op_ne (pv 0) (pv 1) (nomark _)) (pss_one (ps_raise rfl (takes_of rfl rfl rfl rfl) (mk_OtherPeople T Z (hr.mono (by decide)) rfl (pa_cons (pv 1) pa_nil)))) pss_nil)), ?_⟩
    refine ⟨_, rfl, _, rfl, rfl, _, rfl, ?_⟩
    by_cases c : i = j
    · subst c
      rw [if_pos rfl] at h
      exact iteZ (by simp) h
    · rw [if_neg c] at h
      refine iteY (by simpa using c) ?_
      exact ⟨_, rfl, mk1_of fun d hd => h _ _ _ (Same.new hd) ⟨rfl, d, rfl, upd_same⟩⟩
theorem sc_exchanged : FnScope ["state", "seat", "size", "people", "payer", "other", "seats", "purses"] ["state", "seat"] (defScope s_exchanged) := ⟨rfl, rfl, rfl, by decide +kernel, rfl, by decide +kernel, by decide +kernel⟩
theorem ok_exchanged (T : Tx K mg) (Z : Ex K) : FnOk P w K mg base (L2.CX P w) 4 (He.ga K "exchanged") (fdOf K (He.ga K "exchanged")) ["state", "seat"] (spExq K) := by
  refine T.F_exchanged.ok sc_exchanged (fun vs H Q E h => ?_) (fun cdv A outer s H vs Q E hr h => ?_)
  · obtain ⟨v, s, n, x, rfl, _⟩ := h
    rfl
  · obtain ⟨v, s, n, x, rfl, hv, hn, h⟩ := h
    refine ⟨_, (pss_cons (ps_set (i := 2) sc_exchanged.nd rfl (Or.inl rfl) (pe_call (ok_people_many T) (hr.mono (by decide)) rfl T.g_people_many T.F_people_many.kp T.b_f_people_many .nil pass0 (pa_cons (pv 0) pa_nil)))
      (pss_cons (ps_if (pt_not (pt_chain op_le op_lt pe_int (pv 1) (pv 2))) (pss_one (ps_raise rfl (takes_of rfl rfl rfl rfl) (mk_NoSeat T Z (hr.mono (by decide)) rfl (pa_cons (pv 1) pa_nil)))) pss_nil)
      (pss_cons (ps_set (i := 3) sc_exchanged.nd rfl (Or.inl rfl) (pe_call (ok_sitting T) (hr.mono (by decide)) rfl T.g_sitting T.F_sitting.kp T.b_f_sitting .nil pass0 (pa_cons (pv 0) pa_nil)))
      (pss_cons (ps_par (i := 4) (j := 5) rfl sc_exchanged.nd rfl rfl (by decide) rfl rfl (pa_cons (pe_ix ix_tup (pv 3) (pv 1) (fun _ _ => rfl)) (pa_cons (pe_ix ix_tup (pv 3) (pe_op op_mod (pe_op op_add (pv 1) pe_int) (pv 2)) (fun _ _ => rfl)) pa_nil)) (by rfl))
      (pss_cons (ps_if (pt_cmpR op_eq (pe_ix ix_tup (pe_ix ix_tup (pv 0) pe_int (fun _ _ => rfl)) (pv 4) (fun _ _ => rfl)) pe_int (nomark _)) (pss_one (ps_raise rfl (takes_of rfl rfl rfl rfl) (mk_Empty T Z (hr.mono (by decide)) rfl (pa_cons (pv 4) pa_nil)))) pss_nil)
      (pss_cons (ps_par (i := 6) (j := 7) rfl sc_exchanged.nd rfl rfl (by decide) rfl rfl (pa_cons (pe_callTy call_list_of rfl T.b_list bt_list (pa_cons (pe_ix ix_tup (pv 0) pe_int (fun _ _ => rfl)) pa_nil)) (pa_cons (pe_callTy call_list_of rfl T.b_list bt_list (pa_cons (pe_ix ix_tup (pv 0) pe_int (fun _ _ => rfl)) pa_nil)) pa_nil)) (by rfl))
      (pss_cons (ps_asg (pe_tup (pa_cons (pe_ix ix_list (pv 6) (pv 5) (fun _ _ => rfl)) (pa_cons (pe_ix ix_list (pv 6) (pv 4) (fun _ _ => rfl)) pa_nil))) (pg_tup rfl (pgs_cons (pg_sub (pv 6) (pv 4) set_list) (pgs_cons (pg_sub (pv 6) (pv 5) set_list) pgs_nil))))
      (pss_cons (ps_augS (pv 7) (pv 4) pget_list pe_int ip_sub set_list)
      (pss_cons (ps_augS (pv 7) (pv 5) pget_list pe_int ip_add set_list)
      (pss_one (ps_ret (pe_tup (pa_cons (pe_callTy call_tuple_of rfl T.b_tuple bt_tuple (pa_cons (pv 6) pa_nil)) (pa_cons (pe_callTy call_tuple_of rfl T.b_tuple bt_tuple (pa_cons (pv 7) pa_nil)) pa_nil)))))))))))))), ?_⟩
    refine ⟨_, rfl, v, s, rfl, hv, ?_⟩
    have l1 := hn.l1
    have l2 := hn.l2
    have np := hn.pos
    have bad : ¬ (0 ≤ x ∧ x < s.1.length) → ∀ d, H d = none → E (.ref (He.ga K (exN 2))) (some d) (upd H d (.xd [("seat", .int x)])) := fun c d hd => by
      have e : exq s x = .error (.one 2 (.int x)) := by unfold exq; rw [if_neg c]
      rw [e] at h
      exact h _ _ _ (Same.new hd) ⟨rfl, d, rfl, upd_same⟩
    refine ⟨_, rfl, _, _, rfl, rfl, _, rfl, iteD (fun c1 => ?_) fun c1 => ?_⟩
    case refine_2 => exact ⟨_, rfl, _, rfl, mk1_of (bad fun c => c1 c.1)⟩
    refine ⟨_, rfl, _, _, rfl, rfl, _, rfl, ?_⟩
    by_cases c2 : x < s.1.length
    case neg =>
      refine iteY (by simpa using c2) ?_
      exact ⟨_, rfl, mk1_of (bad fun c => c2 c.2)⟩
    refine iteZ (by simpa using c2) ?_
    obtain ⟨a1, a2⟩ := pay_lt hn c1 (by omega)
    obtain ⟨b1, b2⟩ := oth_lt hn x
    refine ⟨_, rfl, v, s, n, rfl, hv, hn, fun u H1 e1 hu => ?_⟩
    obtain ⟨t, rfl, ht⟩ := TD.ints hu
    have m0 := Int.emod_nonneg (x + 1) (b := (s.1.length : Int)) (by omega)
    refine ⟨_, rfl, _, rfl, t, _, _, _, rfl, rfl, SqT.of ht, atI_of c1 (get_int a2), _, rfl, _, rfl, _, _, rfl, rfl, _, rfl, _, _, rfl, rfl, by show (0 : Int) < s.1.length; omega, t, _, _, _, rfl, rfl, SqT.of ht, atI_of m0 (get_int b2), _, _, rfl, ?_⟩
    obtain ⟨va, vb, vc, rfl, ha, hb, hc⟩ := TD.st hv
    obtain ⟨z, hz⟩ := get_lt (xs := s.2) (i := pay s x) (by omega)
    refine ⟨_, rfl, va, _, _, _, rfl, rfl, SqT.of (e1 _ _ ha), atI_nat (j := 1) rfl, _, rfl, vc, _, _, _, rfl, rfl, SqT.of (e1 _ _ hc), atI_nat (get_int hz), rfl, _, rfl, iteD (fun c3 => ?_) fun c3 => ?_⟩
    · have e : exq s x = .error (.one 3 (.int (pay s x))) := by
        unfold exq
        rw [if_pos ⟨c1, c2⟩, if_pos (by rw [getD_of hz]; exact V.int.inj c3)]
      rw [e] at h
      exact ⟨_, rfl, mk1_of fun d hd => h _ _ _ (e1.trans (Same.new hd)) ⟨rfl, d, rfl, upd_same⟩⟩
    · have e : exq s x = .ok (swp s (pay s x) (oth s x)) := by
        unfold exq
        rw [if_pos ⟨c1, c2⟩, if_neg (by rw [getD_of hz]; exact fun q => c3 (by rw [q]))]
      rw [e] at h
      have c3' : (pay s x) < s.2.length := by omega
      have o3' : (oth s x) < s.2.length := by omega
      obtain ⟨x1, hx1⟩ := get_lt (xs := s.1) (i := pay s x) (by omega)
      obtain ⟨x2, hx2⟩ := get_lt (xs := s.1) (i := oth s x) (by omega)
      refine ⟨_, rfl, va, _, _, _, rfl, rfl, SqT.of (e1 _ _ ha), atI_nat (j := 0) rfl, vb, _, rfl, .inr (SqT.of (e1 _ _ hb)), fun p hp => ?_⟩
      refine ⟨_, rfl, va, _, _, _, rfl, rfl, SqT.of (kp1 (e1 _ _ ha) hp), atI_nat (j := 1) rfl, vc, _, rfl, .inr (SqT.of (kp1 (e1 _ _ hc) hp)), fun q hq => ⟨_, _, rfl, ?_⟩⟩
      have hpq : p ≠ q := ne_of_none upd_same hq
      have hHp : H p = none := e1.none hp
      have hHq : H q = none := (e1.trans (Same.new hp)).none hq
      refine ⟨_, rfl, _, rfl, p, _, _, _, rfl, rfl, SqL.of (kp1 upd_same hq), atI_nat (get_int hx2), _, rfl, _, rfl, p, _, _, _, rfl, rfl, SqL.of (kp1 upd_same hq), atI_nat (get_int hx1), line2, fun t2 ht2 => ?_⟩
      have htp : p ≠ t2 := ne_of_none (kp1 upd_same hq) ht2
      have htq : q ≠ t2 := ne_of_none upd_same ht2
      refine ⟨t2, _, rfl, SqT.of upd_same, rfl, _, _, rfl, _, rfl, _, rfl, p, _, _, pay s x, rfl, rfl, kp1 (kp1 upd_same hq) ht2, ixN_nat (by rw [List.length_map]; omega), ?_⟩
      refine ⟨_, _, rfl, _, rfl, _, rfl, p, _, _, oth s x, rfl, rfl, upd_same, ixN_nat (by rw [List.length_set, List.length_map]; omega), rfl, ?_⟩
      rw [← List.map_set, ← List.map_set]
      have hq5 : ∀ (o1 o2 : HO), upd (upd (upd (upd (upd H1 p (.lst (s.1.map V.int))) q (.lst (s.2.map V.int))) t2 (.tup [.int x2, .int x1])) p o1) p o2 q = some (.lst (s.2.map V.int)) := fun o1 o2 => (upd_ne hpq.symm).trans ((upd_ne hpq.symm).trans (kp1 upd_same ht2))
      refine ⟨_, rfl, _, rfl, q, _, _, .int z, rfl, rfl, SqL.of (hq5 _ _), by omega, get_int hz, _, _, rfl, rfl, q, _, _, pay s x, rfl, rfl, hq5 _ _, ixN_nat (by rw [List.length_map]; omega), ?_⟩
      rw [← List.map_set]
      obtain ⟨z2, hz2⟩ := get_lt (xs := s.2.set (pay s x) (z - 1)) (i := oth s x) (by rw [List.length_set]; omega)
      refine ⟨_, rfl, _, rfl, q, _, _, .int z2, rfl, rfl, SqL.of upd_same, by omega, get_int hz2, _, _, rfl, rfl, q, _, _, oth s x, rfl, rfl, upd_same, ixN_nat (by rw [List.length_map, List.length_set]; omega), ?_⟩
      rw [← List.map_set]
      refine ⟨_, rfl, p, _, rfl, .inl ⟨SqL.of ((upd_ne hpq).trans ((upd_ne hpq).trans upd_same)), fun r1 hr1 => ?_⟩⟩
      refine ⟨_, rfl, q, _, rfl, .inl ⟨SqL.of (kp1 upd_same hr1), fun r2 hr2 => ⟨line2, fun r3 hr3 => ?_⟩⟩⟩
      have e2 : Same H (upd (upd (upd (upd (upd (upd (upd H1 p (.lst (s.1.map V.int))) q (.lst (s.2.map V.int))) t2 (.tup [.int x2, .int x1])) p (.lst ((s.1.set (pay s x) x2).map V.int))) p (.lst (((s.1.set (pay s x) x2).set (oth s x) x1).map V.int))) q (.lst ((s.2.set (pay s x) (z - 1)).map V.int))) q (.lst (((s.2.set (pay s x) (z - 1)).set (oth s x) (z2 + 1)).map V.int))) :=
        ((((((((e1.trans (Same.new hp)).trans (Same.new hq)).trans (Same.new ht2)).mut hHp).mut hHp).mut hHq).mut hHq))
      have es : swp s (pay s x) (oth s x) = ((s.1.set (pay s x) x2).set (oth s x) x1, (s.2.set (pay s x) (z - 1)).set (oth s x) (z2 + 1)) := by
        unfold swp
        rw [getD_of hx1, getD_of hx2, getD_of hz, getD_of hz2]
      rw [es] at h
      refine h _ _ (((e2.trans (Same.new hr1)).trans (Same.new hr2)).trans (Same.new hr3)) (TD.ofSt upd_same ?_ ?_)
      · exact kp1 (kp1 upd_same hr2) hr3
      · exact kp1 upd_same hr3
theorem sc_states_along : FnScope ["state", "row", "found", "seat"] ["state", "row"] (defScope s_states_along) := ⟨rfl, rfl, rfl, by decide +kernel, rfl, by decide +kernel, by decide +kernel⟩
theorem ok_states_along (T : Tx K mg) (Z : Ex K) : FnOk P w K mg base (L2.CX P w) 5 (He.ga K "states_along") (fdOf K (He.ga K "states_along")) ["state", "row"] (spAlong K) := by
  refine T.F_states_along.ok sc_states_along (fun vs H Q E h => ?_) (fun cdv A outer s H vs Q E hr h => ?_)
  · obtain ⟨v, s, n, a, row, rfl, _⟩ := h
    rfl
  · obtain ⟨v, s, n, a, row, rfl, hv, hn, ha, hl, h⟩ := h
    refine ⟨_, (pss_cons (ps_set (i := 2) sc_states_along.nd rfl (Or.inl rfl) (pe_lst (pa_cons (pe_call (ok_as_state T) (hr.mono (by decide)) rfl T.g_as_state T.F_as_state.kp T.b_f_as_state .nil pass0 (pa_cons (pv 0) pa_nil)) pa_nil)))
      (pss_cons (ps_for (passes_of rfl) rfl (pi_list (pv 1)) (pg_name (i := 3) sc_states_along.nd rfl (Or.inl rfl))
        (pss_one (ps_expr (pe_bm PySem.F.plainAttrs_list PySem.F.slot_list_append PySem.F.type_list_append mt_append (pv 2) (pa_cons (pe_call (ok_exchanged T Z) (hr.mono (by decide)) rfl T.g_exchanged T.F_exchanged.kp T.b_f_exchanged .nil (passes_call (takes_of rfl rfl rfl rfl) fun _ _ _ _ h => h) (pa_cons (pe_ix ix_list (pv 2) (pe_un un_neg pe_int) (fun _ _ => rfl)) (pa_cons (pv 3) pa_nil))) pa_nil)))))
      (pss_one (ps_ret (pv 2))))), ?_⟩
    refine ⟨_, rfl, v, s, rfl, hv, fun u H1 e1 hu => ⟨line1, fun p hp => ?_⟩⟩
    have ez := sizeLine_eq
    have hHp : H p = none := e1.none hp
    refine ⟨_, rfl, a, rfl, ⟨_, SqL.of (kp1 (e1 _ _ ha) hp)⟩, for_sng (sng_list (xs := row.map V.int)) (fun i σ H' => Same H H' ∧ ∃ ys y t x3, H' p = some (.lst (ys ++ [y])) ∧ ys.length = i ∧ TD H' y (stD t) ∧ Rg n t ∧ runq s row = runq t (row.drop i) ∧ σ = [some v, some (.ref a), some (.ref p), x3])
      ⟨e1.trans (Same.new hp), [], u, s, _, upd_same, rfl, hu.mono (L2.Same.tups (Same.new hp)), hn, rfl, rfl⟩ (fun i σ H' hi ⟨e, _⟩ => SqL.of (e _ _ ha)) ?_ ?_⟩
    · rintro i x σ H2 hi hx ⟨e2, ys, y, t, x3, hp2, hy, ht, hnt, hrun, rfl⟩
      obtain ⟨m, rfl, hm⟩ := int_get hx
      rw [List.length_map] at hi
      have hdr : row.drop i = m :: row.drop (i + 1) := by
        rw [List.drop_eq_getElem_cons hi]
        rw [List.getElem?_eq_getElem hi] at hm
        rw [Option.some.inj hm]
      rw [hdr, runq_cons] at hrun
      refine ⟨_, rfl, .inl ⟨rfl, _, SqL.of hp2⟩, ?_⟩
      refine ⟨_, rfl, _, rfl, p, _, _, _, rfl, rfl, SqL.of hp2, atI_last ys y, _, rfl, ?_⟩
      refine ⟨y, t, n, m, rfl, ht, hnt, ?_⟩
      cases he : exq t m with
      | error er =>
        rw [he] at hrun
        rw [show runq s row = .error er from hrun] at h
        exact fun cls d H' e er' => h cls d H' (e2.trans e) er'
      | ok t2 =>
        rw [he] at hrun
        refine fun u2 H3 e3 hu2 => ?_
        have hp3 := e3 _ _ hp2
        refine ⟨p, _, _, rfl, rfl, hp3, by rw [List.length_append, List.length_singleton, hy]; omega, ?_⟩
        refine ⟨(e2.trans e3).mut hHp, ys ++ [y], u2, t2, _, upd_same, by rw [List.length_append, List.length_singleton, hy], hu2.mono (Kp.upd.tups hp3), exq_rg hnt he, hrun, rfl⟩
    · rintro σ H2 ⟨e2, ys, y, t, x3, hp2, hy, ht, hnt, hrun, rfl⟩
      rw [List.length_map] at hy hrun
      rw [List.drop_length] at hrun
      rw [show runq s row = .ok t from hrun] at h
      exact ⟨_, rfl, h p ys y H2 hHp e2 hp2 ht (by omega)⟩
theorem sc_run : FnScope ["state", "row"] ["state", "row"] (defScope s_run) := ⟨rfl, rfl, rfl, by decide +kernel, rfl, by decide +kernel, by decide +kernel⟩
theorem ok_run (T : Tx K mg) (Z : Ex K) : FnOk P w K mg base (L2.CX P w) 6 (He.ga K "run") (fdOf K (He.ga K "run")) ["state", "row"] (spRun K) := by
  refine T.F_run.ok sc_run (fun vs H Q E h => ?_) (fun cdv A outer s H vs Q E hr h => ?_)
  · obtain ⟨v, s, n, a, row, rfl, _⟩ := h
    rfl
  · obtain ⟨v, s, n, a, row, rfl, hv, hn, ha, hl, h⟩ := h
    refine ⟨_, (pss_one (ps_ret (pe_ix ix_list (pe_call (ok_states_along T Z) (hr.mono (by decide)) rfl T.g_states_along T.F_states_along.kp T.b_f_states_along .nil (passes_call (takes_of rfl rfl rfl rfl) fun _ _ _ _ h => h) (pa_cons (pv 0) (pa_cons (pv 1) pa_nil))) (pe_un un_neg pe_int) (fun _ _ => rfl)))), ?_⟩
    refine ⟨_, rfl, _, rfl, v, s, n, a, row, rfl, hv, hn, ha, hl, ?_⟩
    cases he : runq s row with
    | error er =>
      rw [he] at h
      exact h
    | ok t =>
      rw [he] at h
      exact fun p ys y H1 hp e1 h1 hy hlen => ⟨_, rfl, p, _, _, _, rfl, rfl, SqL.of h1, atI_last ys y, h _ _ e1 hy⟩
theorem ok_run_moves (T : Tx K mg) (Z : Ex K) : FnOk P w K mg base (L2.CX P w) 6 (He.ga K "run_moves") (fdOf K (He.ga K "run_moves")) ["state", "row"] (spRun K) := by
  refine T.F_run_moves.ok sc_run (fun vs H Q E h => ?_) (fun cdv A outer s H vs Q E hr h => ?_)
  · obtain ⟨v, s, n, a, row, rfl, _⟩ := h
    rfl
  · obtain ⟨v, s, n, a, row, rfl, hv, hn, ha, hl, h⟩ := h
    refine ⟨_, (pss_one (ps_ret (pe_ix ix_list (pe_call (ok_states_along T Z) (hr.mono (by decide)) rfl T.g_states_along T.F_states_along.kp T.b_f_states_along .nil (passes_call (takes_of rfl rfl rfl rfl) fun _ _ _ _ h => h) (pa_cons (pv 0) (pa_cons (pv 1) pa_nil))) (pe_un un_neg pe_int) (fun _ _ => rfl)))), ?_⟩
    refine ⟨_, rfl, _, rfl, v, s, n, a, row, rfl, hv, hn, ha, hl, ?_⟩
    cases he : runq s row with
    | error er =>
      rw [he] at h
      exact h
    | ok t =>
      rw [he] at h
      exact fun p ys y H1 hp e1 h1 hy hlen => ⟨_, rfl, p, _, _, _, rfl, rfl, SqL.of h1, atI_last ys y, h _ _ e1 hy⟩
end
end Tr
end
section
set_option Elab.async false
set_option linter.all false
set_option maxRecDepth 100000
set_option maxHeartbeats 4000000
/-! enumerate(zip(t, u)) -/
namespace Tr
open PySem PySem.Spec PyProof.Rows L2 RZ
abbrev ZR (old : Value) (b : Bool) (TI TO : Addr) : Obj := { cls := .type "zip", data := .fields #[old, .bool b, .bool false, .ref TI, .ref TO] }
def IsZ (h : Heap) (z TI TO : Addr) : Prop := ∃ (old : Value) (b : Bool), h.get? z = some (ZR old b TI TO) ∧ (old = .none ∨ ∃ a : Nat, old = rawInt a)
section
variable {prog : Program} {w : World} {A : Around} {E : Value → Shared → Prop} {s : Shared}
theorem wpAny_loadIfAlive {M : Model} {a : Addr} {Q : Option Obj → Shared → Prop} (h : Q (s.heap.get? a) s) : wpAny M A (loadIfAlive a) Q E s := fun Γ p hΓ => by
  show PySem.Sem.wp M Γ (.loadIfAlive a .pure) _ _ p s
  rw [Sem.wp_loadIfAlive]
  exact h
theorem owned_free {z TI TO : Addr} {old : Value} {b : Bool} {Q : Bool → Shared → Prop} (hz : s.heap.get? z = some (ZR old b TI TO)) (ho : old = .none ∨ ∃ a : Nat, old = rawInt a)
    (hT : Q true s) (hF : ∀ h', h'.get? z = some (ZR old true TI TO) → Heap.SameBut z s.heap h' → Q false { s with heap := h' }) :
    wpAny (model prog w) A (Builtin.SmallTypes.ownedTupleIsFree (.ref z)) Q E s := by
  unfold Builtin.SmallTypes.ownedTupleIsFree
  rcases ho with rfl | ⟨a, rfl⟩
  · exact wpAny_bind (wpAny_field hz rfl (x := .none) rfl (wpAny_pure hT))
  · refine wpAny_bind (wpAny_field hz rfl (x := rawInt a) rfl ?_)
    show wpAny _ _ (loadIfAlive (a : Int).toNat >>= _) _ _ s
    refine wpAny_bind (wpAny_loadIfAlive ?_)
    rw [Int.toNat_natCast]
    cases s.heap.get? a with
    | none => exact wpAny_pure hT
    | some o =>
      refine wpAny_bind (wpAny_field hz rfl (x := .bool b) rfl ?_)
      cases b with
      | true =>
        refine wpAny_pure ?_
        exact hF s.heap hz ⟨rfl, fun _ _ => rfl⟩
      | false =>
        refine wpAny_bind (wpAny_setField_rec hz (by simp) fun h₁ hz₁ hs₁ => ?_)
        exact wpAny_pure (hF h₁ hz₁ hs₁)
theorem zipZ_item {z TI TO i1 i2 l1 l2 : Addr} {k1 k2 : Nat} {xs ys : Array Value} {x y a b : Value} {Q : Value → Shared → Prop} (D : ZipApart z TI TO i1 i2 l1 l2)
    (hz : IsZ s.heap z TI TO) (hTI : IsPair s.heap TI (.ref i1) (.ref i2)) (hTO : IsPair s.heap TO a b)
    (h1 : s.heap.IsTupleIter i1 l1 k1) (h2 : s.heap.IsTupleIter i2 l2 k2) (hl1 : s.heap.IsTuple l1 xs) (hl2 : s.heap.IsTuple l2 ys) (hx : xs[k1]? = some x) (hy : ys[k2]? = some y)
    (hQ : ∀ h', IsZ h' z TI TO → (∃ a b, IsPair h' TO a b) → h'.IsTupleIter i1 l1 (k1 + 1) → h'.IsTupleIter i2 l2 (k2 + 1) → IsPair h' s.heap.objs.size x y → h'.objs.size = s.heap.objs.size + 1 →
      (∀ c o, c ≠ z → c ≠ TO → c ≠ i1 → c ≠ i2 → s.heap.get? c = some o → h'.get? c = some o) → Q (.ref s.heap.objs.size) { s with heap := h' }) :
    wpAny (model prog w) A (Builtin.«zip.__next__» ⟨[.ref z], []⟩) (fun fin s' => ∃ v, fin = .done (.ret v) ∧ Q v s') E s := by
  obtain ⟨old, bb, hz, ho⟩ := hz
  show wpAny _ _ (field (.ref z) 2 >>= _) _ _ _
  refine wpAny_bind (wpAny_field hz rfl (x := .bool false) rfl ?_)
  show wpAny _ _ (field (.ref z) 3 >>= _) _ _ _
  refine wpAny_bind (wpAny_field hz rfl (x := .ref TI) rfl ?_)
  refine wpAny_bind (wpAny_seqItems hTI rfl ?_)
  show wpAny _ _ (Builtin.SmallTypes.ownedTupleIsFree (.ref z) >>= _) _ _ _
  refine wpAny_bind (owned_free hz ho ?_ fun h₁ hz₁ hs₁ => ?_)
  · simp only [if_true]
    refine wpAny_bind (wpAny_rule ?_)
    refine wpAny_bind (wpAny_field hz rfl (x := .ref TO) rfl ?_)
    refine wpAny_bind (wpAny_setField_rec hz (by simp) fun h₁ hz₁ hs₁ => ?_)
    replace hz₁ : h₁.get? z = some (ZR .ellipsis bb TI TO) := hz₁
    refine wpAny_bind ?_
    simp only [List.zipIdx_cons, List.zipIdx_nil, List.forIn_cons, List.forIn_nil]
    refine wpAny_bind (wpAny_bind (wpAny_onRaise ?_))
    show wpAny _ _ (Builtin.SmallTypes.nextOf (.ref i1) >>= _) _ _ _
    refine wpAny_bind (nextOf_tuple_item (h1.extBut hs₁.extBut D.i1z) (hl1.extBut hs₁.extBut D.l1z) hx fun h₂ h1₂ hs₂ => wpAny_pure ?_)
    have hTO₂ : IsPair h₂ TO a b := hs₂.extBut _ _ D.TOi1 (hs₁.extBut _ _ D.TOz hTO)
    refine wpAny_bind (wpAny_seqItems hTO₂ rfl ?_)
    refine wpAny_bind (wpAny_updateSeq_pair hTO₂ fun h₃ hTO₃ hs₃ => ?_)
    replace hTO₃ : IsPair h₃ TO x b := hTO₃
    refine wpAny_bind (wpAny_letGo (wpAny_pure ?_))
    refine wpAny_bind (wpAny_bind (wpAny_onRaise ?_))
    show wpAny _ _ (Builtin.SmallTypes.nextOf (.ref i2) >>= _) _ _ _
    refine wpAny_bind (nextOf_tuple_item (((h2.extBut hs₁.extBut D.i2z).extBut hs₂.extBut D.i12.symm).extBut hs₃.extBut D.TOi2.symm)
      (((hl2.extBut hs₁.extBut D.l2z).extBut hs₂.extBut D.l2i1).extBut hs₃.extBut D.l2TO) hy fun h₄ h2₄ hs₄ => wpAny_pure ?_)
    have hTO₄ : IsPair h₄ TO x b := hs₄.extBut _ _ D.TOi2 hTO₃
    refine wpAny_bind (wpAny_seqItems hTO₄ rfl ?_)
    refine wpAny_bind (wpAny_updateSeq_pair hTO₄ fun h₅ hTO₅ hs₅ => ?_)
    replace hTO₅ : IsPair h₅ TO x y := hTO₅
    refine wpAny_bind (wpAny_letGo (wpAny_pure (wpAny_pure ?_)))
    refine wpAny_bind (wpAny_seqItems hTO₅ rfl ?_)
    refine wpAny_bind (wpAny_newTuple ?_)
    have hsz : h₅.objs.size = s.heap.objs.size := by rw [hs₅.1, hs₄.1, hs₃.1, hs₂.1, hs₁.1]
    have hz₅ : h₅.get? z = some (ZR .ellipsis bb TI TO) := hs₅.extBut _ _ D.TOz.symm (hs₄.extBut _ _ D.i2z.symm (hs₃.extBut _ _ D.TOz.symm (hs₂.extBut _ _ D.i1z.symm hz₁)))
    have hk₅ : ∀ c o, c ≠ z → c ≠ TO → c ≠ i1 → c ≠ i2 → s.heap.get? c = some o → h₅.get? c = some o := fun c o c1 c2 c3 c4 e =>
      hs₅.extBut _ _ c2 (hs₄.extBut _ _ c4 (hs₃.extBut _ _ c2 (hs₂.extBut _ _ c3 (hs₁.extBut _ _ c1 e))))
    have h1₅ : h₅.IsTupleIter i1 l1 (k1 + 1) := ((h1₂.extBut hs₃.extBut D.TOi1.symm).extBut hs₄.extBut D.i12).extBut hs₅.extBut D.TOi1.symm
    have h2₅ : h₅.IsTupleIter i2 l2 (k2 + 1) := h2₄.extBut hs₅.extBut D.TOi2.symm
    have hzlt : z < h₅.objs.size := Heap.lt_size hz₅
    show wpAny _ _ (Builtin.SmallTypes.ownedTupleHandOut (.ref z) (.ref h₅.objs.size) >>= _) _ _ _
    refine wpAny_bind ?_
    unfold Builtin.SmallTypes.ownedTupleHandOut
    have hz₆ : (h₅.push { cls := .type "tuple", data := .seq #[x, y] }).get? z = some (ZR .ellipsis bb TI TO) := Heap.get?_push_of_some _ hz₅
    refine wpAny_bind (wpAny_setField_rec hz₆ (by simp) fun h₇ hz₇ hs₇ => ?_)
    replace hz₇ : h₇.get? z = some (ZR (rawInt h₅.objs.size) bb TI TO) := hz₇
    refine wpAny_setField_rec hz₇ (by simp) fun h₈ hz₈ hs₈ => ?_
    replace hz₈ : h₈.get? z = some (ZR (rawInt h₅.objs.size) false TI TO) := hz₈
    have up : ∀ c o, c ≠ z → h₅.get? c = some o → h₈.get? c = some o := fun c o c1 e => hs₈.extBut _ _ c1 (hs₇.extBut _ _ c1 (Heap.get?_push_of_some _ e))
    have hT₈ : IsPair h₈ h₅.objs.size x y := hs₈.extBut _ _ (Nat.ne_of_gt hzlt) (hs₇.extBut _ _ (Nat.ne_of_gt hzlt) (Heap.get?_push_size _ rfl))
    have hz8 : h₈.objs.size = h₅.objs.size + 1 := by rw [hs₈.1, hs₇.1, Heap.size_push]
    rw [hsz] at hz₈ hT₈ hz8
    refine wpAny_pure ⟨_, rfl, ?_⟩
    show Q (.ref h₅.objs.size) _
    rw [hsz]
    exact hQ h₈ ⟨_, _, hz₈, .inr ⟨_, rfl⟩⟩ ⟨x, y, up _ _ D.TOz hTO₅⟩ (h1₅.at fun o e => up _ o D.i1z e) (h2₅.at fun o e => up _ o D.i2z e) hT₈ hz8 fun c o c1 c2 c3 c4 e => up c o c1 (hk₅ c o c1 c2 c3 c4 e)
  · simp only [Bool.false_eq_true, if_false]
    rw [← Array.forIn_toList]
    simp only [List.forIn_cons, List.forIn_nil]
    refine wpAny_bind ?_
    refine wpAny_bind (wpAny_bind (wpAny_holding ?_))
    show wpAny _ _ (Builtin.SmallTypes.nextOf (.ref i1) >>= _) _ _ _
    refine wpAny_bind (nextOf_tuple_item (h1.extBut hs₁.extBut D.i1z) (hl1.extBut hs₁.extBut D.l1z) hx fun h₂ h1₂ hs₂ => wpAny_pure (wpAny_pure ?_))
    refine wpAny_bind (wpAny_bind (wpAny_holding ?_))
    show wpAny _ _ (Builtin.SmallTypes.nextOf (.ref i2) >>= _) _ _ _
    refine wpAny_bind (nextOf_tuple_item ((h2.extBut hs₁.extBut D.i2z).extBut hs₂.extBut D.i12.symm) ((hl2.extBut hs₁.extBut D.l2z).extBut hs₂.extBut D.l2i1) hy fun h₃ h2₃ hs₃ => wpAny_pure (wpAny_pure (wpAny_pure ?_)))
    refine wpAny_bind (wpAny_newTuple ?_ (by show 2 ≤ sizeLine; decide))
    have hsz : h₃.objs.size = s.heap.objs.size := by rw [hs₃.1, hs₂.1, hs₁.1]
    have hk₃ : ∀ c o, c ≠ z → c ≠ i1 → c ≠ i2 → s.heap.get? c = some o → h₃.get? c = some o := fun c o c1 c3 c4 e => hs₃.extBut _ _ c4 (hs₂.extBut _ _ c3 (hs₁.extBut _ _ c1 e))
    have hz₃ : h₃.get? z = some (ZR old true TI TO) := hs₃.extBut _ _ D.i2z.symm (hs₂.extBut _ _ D.i1z.symm hz₁)
    have pu : ∀ c o, h₃.get? c = some o → (h₃.push { cls := .type "tuple", data := .seq #[x, y] }).get? c = some o := fun c o e => Heap.get?_push_of_some _ e
    refine wpAny_pure ⟨_, rfl, ?_⟩
    show Q (.ref h₃.objs.size) _
    have hT : IsPair (h₃.push { cls := .type "tuple", data := .seq #[x, y] }) h₃.objs.size x y := Heap.get?_push_size _ rfl
    rw [hsz] at hT ⊢
    exact hQ (h₃.push { cls := .type "tuple", data := .seq #[x, y] }) ⟨_, _, pu _ _ hz₃, ho⟩ ⟨a, b, pu _ _ (hk₃ _ _ D.TOz D.TOi1 D.TOi2 hTO)⟩ ((h1₂.extBut hs₃.extBut D.i12).at fun o e => pu _ o e) (h2₃.at fun o e => pu _ o e) hT (by rw [Heap.size_push, hsz]) fun c o c1 c2 c3 c4 e => pu _ _ (hk₃ c o c1 c3 c4 e)
theorem zipZ_end {z TI TO i1 i2 l1 l2 : Addr} {k1 : Nat} {xs : Array Value} {a b : Value} {Q : Fin → Shared → Prop} (hh : A.handled = none) (D : ZipApart z TI TO i1 i2 l1 l2)
    (hz : IsZ s.heap z TI TO) (hTI : IsPair s.heap TI (.ref i1) (.ref i2)) (hTO : IsPair s.heap TO a b)
    (h1 : s.heap.IsTupleIter i1 l1 k1) (hl1 : s.heap.IsTuple l1 xs) (hx : xs[k1]? = none)
    (hE : ∀ h' e, (∀ c o, c ≠ z → c ≠ TO → c ≠ i1 → c ≠ i2 → s.heap.get? c = some o → h'.get? c = some o) → (∃ o, h'.get? e = some o ∧ o.cls = .type "StopIteration") → E (.ref e) { s with heap := h' }) :
    wpAny (model prog w) A (Builtin.«zip.__next__» ⟨[.ref z], []⟩) Q E s := by
  obtain ⟨old, bb, hz, ho⟩ := hz
  show wpAny _ _ (field (.ref z) 2 >>= _) _ _ _
  refine wpAny_bind (wpAny_field hz rfl (x := .bool false) rfl ?_)
  show wpAny _ _ (field (.ref z) 3 >>= _) _ _ _
  refine wpAny_bind (wpAny_field hz rfl (x := .ref TI) rfl ?_)
  refine wpAny_bind (wpAny_seqItems hTI rfl ?_)
  show wpAny _ _ (Builtin.SmallTypes.ownedTupleIsFree (.ref z) >>= _) _ _ _
  refine wpAny_bind (owned_free hz ho ?_ fun h₁ hz₁ hs₁ => ?_)
  · simp only [if_true]
    refine wpAny_bind (wpAny_rule ?_)
    refine wpAny_bind (wpAny_field hz rfl (x := .ref TO) rfl ?_)
    refine wpAny_bind (wpAny_setField_rec hz (by simp) fun h₁ hz₁ hs₁ => ?_)
    replace hz₁ : h₁.get? z = some (ZR .ellipsis bb TI TO) := hz₁
    refine wpAny_bind ?_
    simp only [List.zipIdx_cons, List.zipIdx_nil, List.forIn_cons, List.forIn_nil]
    refine wpAny_bind (wpAny_bind (wpAny_onRaise ?_))
    show wpAny _ _ (Builtin.SmallTypes.nextOf (.ref i1) >>= _) _ _ _
    refine wpAny_bind (nextOf_tuple_end hh (h1.extBut hs₁.extBut D.i1z) (hl1.extBut hs₁.extBut D.l1z) hx fun h₂ e hs₂ he => ?_)
    obtain ⟨oe, hoe, hce⟩ := he
    have hz₂ : h₂.get? z = some (ZR .ellipsis bb TI TO) := hs₂ _ _ D.i1z.symm hz₁
    have hez : e ≠ z := fun x => by subst x; rw [hz₂] at hoe; cases hoe; simp at hce
    refine wpAny_setField_rec hz₂ (by simp) fun h₃ _ hs₃ => hE h₃ e (fun c o c1 _ c3 _ x => hs₃.extBut _ _ c1 (hs₂ _ _ c3 (hs₁.extBut _ _ c1 x))) ⟨oe, hs₃.extBut _ _ hez hoe, hce⟩
  · simp only [Bool.false_eq_true, if_false]
    rw [← Array.forIn_toList]
    simp only [List.forIn_cons, List.forIn_nil]
    refine wpAny_bind ?_
    refine wpAny_bind (wpAny_bind (wpAny_holding ?_))
    show wpAny _ _ (Builtin.SmallTypes.nextOf (.ref i1) >>= _) _ _ _
    refine wpAny_bind (nextOf_tuple_end hh (h1.extBut hs₁.extBut D.i1z) (hl1.extBut hs₁.extBut D.l1z) hx fun h₂ e hs₂ he => ?_)
    exact hE h₂ e (fun c o c1 _ c3 _ x => hs₂ _ _ c3 (hs₁.extBut _ _ c1 x)) he
theorem nextOf_zip {z : Addr} {Q : Value → Shared → Prop} (hT : s.TypeIs (.ref z) "zip") (h : wpAny (model prog w) A.in1 (Builtin.«zip.__next__» ⟨[.ref z], []⟩) (fun fin s' => ∃ v, fin = .done (.ret v) ∧ Q v s') E s) :
    wpAny (model prog w) A (Builtin.SmallTypes.nextOf (.ref z)) Q E s := by
  unfold Builtin.SmallTypes.nextOf
  refine wpAny_bind (wpAny_callSpecial?_slot (name := Str.ofString "__next__") hT F.slot_zip_next (wpAny_call_entry F.slot_zip_next hT F.entry_zip_next ?_ (F.args_zip_next_1 _)))
  refine wpAny_mono h (fun fin s' hq => ?_) fun _ _ x => x
  obtain ⟨v, e, q⟩ := hq
  exact ⟨v, e, wpAny_pure q⟩
/-- e's zip and its parts, apart -/
structure EZ (e z TI TO i1 i2 a b : Addr) : Prop where
  d : ZipApart z TI TO i1 i2 a b
  ez : e ≠ z
  eTI : e ≠ TI
  eTO : e ≠ TO
  e1 : e ≠ i1
  e2 : e ≠ i2
theorem enumZ_item {e z TI TO i1 i2 l1 l2 : Addr} {i : Nat} {xs ys : Array Value} {x y a b old : Value} {Q : Option Value → Shared → Prop} (D : EZ e z TI TO i1 i2 l1 l2)
    (he : IsEnum s.heap e z i old) (hz : IsZ s.heap z TI TO) (hTI : IsPair s.heap TI (.ref i1) (.ref i2)) (hTO : IsPair s.heap TO a b)
    (h1 : s.heap.IsTupleIter i1 l1 i) (h2 : s.heap.IsTupleIter i2 l2 i) (hl1 : s.heap.IsTuple l1 xs) (hl2 : s.heap.IsTuple l2 ys) (hx : xs[i]? = some x) (hy : ys[i]? = some y)
    (hQ : ∀ h' tk, IsEnumOut h' e z ((i : Int) + 1) (.ref s.heap.objs.size) (s.heap.objs.size + 1) → IsZ h' z TI TO → (∃ a b, IsPair h' TO a b) → h'.IsTupleIter i1 l1 (i + 1) → h'.IsTupleIter i2 l2 (i + 1) → IsPair h' s.heap.objs.size x y →
      h'.get? (s.heap.objs.size + 1) = some { cls := .type "tuple", data := .seq #[.int i tk, .ref s.heap.objs.size] } → 
      (∀ c o, c ≠ e → c ≠ z → c ≠ TO → c ≠ i1 → c ≠ i2 → s.heap.get? c = some o → h'.get? c = some o) → Q (some (.ref (s.heap.objs.size + 1))) { s with heap := h', toks := tk + 1 }) :
    wpAny (model prog w) A (pyNext (.ref e)) Q E s := by
  have hT : s.TypeIs (.ref e) "enumerate" := ⟨_, he, rfl⟩
  unfold pyNext
  refine wpAny_bind (wpAny_attempt (wpAny_callSpecial?_slot (name := Str.ofString "__next__") hT F.slot_enumerate_next
    (wpAny_call_entry F.slot_enumerate_next hT F.entry_enumerate_next ?_ (F.args_enumerate_next_1 _))))
  obtain ⟨hp, g, d, tk, os⟩ := s
  show wpAny _ _ (field (.ref e) 2 >>= _) _ _ _
  refine wpAny_bind (wpAny_field he rfl (x := .ref z) rfl ?_)
  have hzT : (⟨hp, g, d, tk, os⟩ : Shared).TypeIs (.ref z) "zip" := by
    obtain ⟨o, b, q, _⟩ := hz
    exact ⟨_, q, rfl⟩
  refine wpAny_bind (nextOf_zip hzT (zipZ_item D.d hz hTI hTO h1 h2 hl1 hl2 hx hy fun h₁ hz₁ hTO₁ h1₁ h2₁ hP₁ hs₁ hk₁ => ?_))
  have hel : e < hp.objs.size := Heap.lt_size he
  have he₁ : IsEnum h₁ e z i old := hk₁ _ _ D.ez D.eTO D.e1 D.e2 he
  show wpAny _ _ (field (.ref e) 3 >>= _) _ _ ⟨h₁, g, d, tk, os⟩
  refine wpAny_bind (wpAny_field he₁ rfl (x := rawInt i) rfl ?_)
  show wpAny _ _ (field (.ref e) 4 >>= _) _ _ ⟨h₁, g, d, tk, os⟩
  refine wpAny_bind (wpAny_field he₁ rfl (x := .none) rfl ?_)
  show wpAny _ _ (mkInt i >>= _) _ _ ⟨h₁, g, d, tk, os⟩
  refine wpAny_bind (wpAny_mkInt ?_)
  show wpAny _ _ (setField (.ref e) 3 (rawInt ((i : Int) + 1)) >>= _) _ _ ⟨h₁, g, d, tk + 1, os⟩
  refine wpAny_bind (wpAny_setField_rec he₁ (by simp) fun h₂ he₂ hs₂ => ?_)
  replace hs₂ : Heap.SameBut e h₁ h₂ := hs₂
  replace he₂ : IsEnum h₂ e z ((i : Int) + 1) old := he₂
  show wpAny _ _ (setField (.ref e) 4 .none >>= _) _ _ ⟨h₂, g, d, tk + 1, os⟩
  refine wpAny_bind (wpAny_setField_rec he₂ (by simp) fun h₃ he₃ hs₃ => ?_)
  replace hs₃ : Heap.SameBut e h₂ h₃ := hs₃
  replace he₃ : IsEnum h₃ e z ((i : Int) + 1) old := he₃
  show wpAny _ _ (newTuple [.int i tk, .ref hp.objs.size] >>= _) _ _ ⟨h₃, g, d, tk + 1, os⟩
  refine wpAny_bind (wpAny_newTuple ?_)
  have he₄ : IsEnum (h₃.push { cls := .type "tuple", data := .seq #[.int i tk, .ref hp.objs.size] }) e z ((i : Int) + 1) old := Heap.get?_push_of_some _ he₃
  have hsz : h₃.objs.size = hp.objs.size + 1 := by rw [hs₃.1, hs₂.1, hs₁]
  have ht₄ : (h₃.push { cls := .type "tuple", data := .seq #[.int i tk, .ref hp.objs.size] }).get? (hp.objs.size + 1) = some { cls := .type "tuple", data := .seq #[.int i tk, .ref hp.objs.size] } := by rw [← hsz]; exact Heap.get?_push_size _ rfl
  have hk₄ : ∀ c o, c ≠ e → h₁.get? c = some o → (h₃.push { cls := .type "tuple", data := .seq #[.int i tk, .ref hp.objs.size] }).get? c = some o := fun c o c1 q => Heap.get?_push_of_some _ (hs₃.extBut _ _ c1 (hs₂.extBut _ _ c1 q))
  generalize h₃.push { cls := .type "tuple", data := .seq #[.int i tk, .ref hp.objs.size] } = h₄ at he₄ ht₄ hk₄
  show wpAny _ _ (Builtin.SmallTypes.ownedTupleIsFree (.ref e) >>= _) _ _ ⟨h₄, g, d, tk + 1, os⟩
  rw [hsz]
  refine wpAny_bind ?_
  unfold Builtin.SmallTypes.ownedTupleIsFree
  refine wpAny_bind (wpAny_field he₄ rfl (x := .none) rfl (wpAny_pure ?_))
  simp only [if_true]
  refine wpAny_bind (wpAny_rule ?_)
  refine wpAny_bind (wpAny_field he₄ rfl (x := old) rfl ?_)
  refine wpAny_bind (wpAny_setField_rec he₄ (by simp) fun h₅ he₅ hs₅ => ?_)
  replace hs₅ : Heap.SameBut e h₄ h₅ := hs₅
  replace he₅ : IsEnum h₅ e z ((i : Int) + 1) (.ref hp.objs.size) := he₅
  show wpAny _ _ (Builtin.SmallTypes.ownedTupleHandOut (.ref e) (.ref (hp.objs.size + 1)) >>= _) _ _ ⟨h₅, g, d, tk + 1, os⟩
  refine wpAny_bind ?_
  unfold Builtin.SmallTypes.ownedTupleHandOut
  refine wpAny_bind (wpAny_setField_rec he₅ (by simp) fun h₆ he₆ hs₆ => ?_)
  replace hs₆ : Heap.SameBut e h₅ h₆ := hs₆
  replace he₆ : IsEnumOut h₆ e z ((i : Int) + 1) (.ref hp.objs.size) (hp.objs.size + 1) := he₆
  refine wpAny_setField_rec he₆ (by simp) fun h₇ he₇ hs₇ => ?_
  replace hs₇ : Heap.SameBut e h₆ h₇ := hs₇
  replace he₇ : IsEnumOut h₇ e z ((i : Int) + 1) (.ref hp.objs.size) (hp.objs.size + 1) := he₇
  have up : ∀ c o, c ≠ e → h₄.get? c = some o → h₇.get? c = some o := fun c o c1 q => hs₇.extBut _ _ c1 (hs₆.extBut _ _ c1 (hs₅.extBut _ _ c1 q))
  have up1 : ∀ c o, c ≠ e → h₁.get? c = some o → h₇.get? c = some o := fun c o c1 q => up c o c1 (hk₄ c o c1 q)
  refine wpAny_bind (wpAny_letGo (wpAny_pure ⟨_, rfl, wpAny_pure (hQ h₇ tk he₇ ?_ ?_ ?_ ?_ ?_ ?_ ?_)⟩))
  · obtain ⟨o, bb, q, r⟩ := hz₁
    exact ⟨o, bb, up1 _ _ D.ez.symm q, r⟩
  · obtain ⟨x', y', q⟩ := hTO₁
    exact ⟨x', y', up1 _ _ D.eTO.symm q⟩
  · exact h1₁.at fun o q => up1 _ o D.e1.symm q
  · exact h2₁.at fun o q => up1 _ o D.e2.symm q
  · exact up1 _ _ (Nat.ne_of_gt hel) hP₁
  · exact up _ _ (Nat.ne_of_gt (Nat.lt_succ_of_lt hel)) ht₄
  · exact fun c o c1 c2 c3 c4 c5 q => up1 c o c1 (hk₁ c o c2 c3 c4 c5 q)
theorem enumZ_end {e z TI TO i1 i2 l1 l2 : Addr} {i : Nat} {j : Int} {xs : Array Value} {a b old : Value} {Q : Option Value → Shared → Prop} (hh : A.handled = none) (D : EZ e z TI TO i1 i2 l1 l2)
    (he : IsEnum s.heap e z j old) (hz : IsZ s.heap z TI TO) (hTI : IsPair s.heap TI (.ref i1) (.ref i2)) (hTO : IsPair s.heap TO a b)
    (h1 : s.heap.IsTupleIter i1 l1 i) (hl1 : s.heap.IsTuple l1 xs) (hx : xs[i]? = none)
    (hQ : ∀ h', (∀ c o, c ≠ z → c ≠ TO → c ≠ i1 → c ≠ i2 → s.heap.get? c = some o → h'.get? c = some o) → Q none { s with heap := h' }) : wpAny (model prog w) A (pyNext (.ref e)) Q E s := by
  have hT : s.TypeIs (.ref e) "enumerate" := ⟨_, he, rfl⟩
  unfold pyNext
  refine wpAny_bind (wpAny_attempt (wpAny_callSpecial?_slot (name := Str.ofString "__next__") hT F.slot_enumerate_next
    (wpAny_call_entry F.slot_enumerate_next hT F.entry_enumerate_next ?_ (F.args_enumerate_next_1 _))))
  show wpAny _ _ (field (.ref e) 2 >>= _) _ _ _
  refine wpAny_bind (wpAny_field he rfl (x := .ref z) rfl ?_)
  have hzT : s.TypeIs (.ref z) "zip" := by
    obtain ⟨o, b, q, _⟩ := hz
    exact ⟨_, q, rfl⟩
  refine wpAny_bind (nextOf_zip hzT (zipZ_end hh D.d hz hTI hTO h1 hl1 hx fun h' x he' hx' => ?_))
  obtain ⟨o, ho, hc⟩ := hx'
  refine wpAny_bind (wpAny_isInstance (T := "StopIteration") (b := true) ⟨o, ho, hc⟩ isSubtype_stop ?_)
  exact wpAny_pure (hQ _ he')
end
end Tr
end
section
set_option Elab.async false
set_option linter.all false
set_option maxRecDepth 100000
set_option maxHeartbeats 4000000
/-! enumerate(zip(t, u)), the rule -/
namespace Tr
open PySem PySem.Spec PyProof.Rows L2 RZ
theorem ne_add (x : Nat) {i j : Nat} (h : i ≠ j) : x + i ≠ x + j := fun q => h (Nat.add_left_cancel q)
set_option maxHeartbeats 1000000 in
theorem meets_enumZ {z TI TO : Addr} :
    Meets (Builtin.«enumerate.__new__» ⟨[.type "enumerate", .ref z], []⟩) (fun _ R s => IsZip s.heap z TI TO .none ∧
      R (.ok (.ret (.ref s.heap.objs.size))) { s with heap := s.heap.push { cls := .type "enumerate", data := .fields #[.none, .bool false, .ref z, rawInt 0, .none, .none] } }) :=
  .of_wp fun prog w A R s h => by
    obtain ⟨hp, g, d, tk, os⟩ := s
    obtain ⟨h1, h⟩ := h
    have hsub := sub_enumerate
    have q1 : ∀ {A' : Around} {E : Value → Shared → Prop} {Q : Value → Shared → Prop}, Q (.ref z) ⟨hp, g, d, tk, os⟩ → wpAny (model prog w) A' (pyIter (.ref z)) Q E ⟨hp, g, d, tk, os⟩ :=
      fun q => wpAny_pyIter_zip h1 q
    wp_walk using q1
    refine wpAny_stack_any fun st => wpAny_pure ?_
    split
    · rename_i c _ _ _ _ _
      cases (c == Value.type "enumerate")
      · wp_walk using q1
        exact ⟨_, rfl, h⟩
      · wp_walk using q1
        exact ⟨_, rfl, h⟩
    · wp_walk using q1
      exact ⟨_, rfl, h⟩
theorem enumZ {prog : Program} {w : World} {A : Around} {E : Value → Shared → Prop} {s : Shared} {z TI TO : Addr} {Q : Value → Shared → Prop} (h1 : IsZip s.heap z TI TO .none)
    (h : ∀ h', IsEnum h' s.heap.objs.size z 0 .none → (∀ b o, s.heap.get? b = some o → h'.get? b = some o) → Q (.ref s.heap.objs.size) { s with heap := h' }) :
    wpAny (model prog w) A (call (.type "enumerate") [.ref z]) Q E s := by
  refine callType_new F.called_enumerate (by decide) (F.typeCall_enumerate_1 _) (F.newCall_enumerate_1 _) (fun obj => F.args_object_init_2 obj _) F.entry_enumerate_new
    (meets_enumZ (TI := TI) (TO := TO)) ⟨h1, ?_⟩
  show _ ∧ _
  have he : IsEnum (s.heap.push { cls := .type "enumerate", data := .fields #[.none, .bool false, .ref z, rawInt 0, .none, .none] }) s.heap.objs.size z 0 .none := Heap.get?_push_size _ rfl
  exact ⟨⟨_, he, rfl⟩, h _ he fun b o x => Heap.get?_push_of_some _ x⟩
/-- the tuples at a and b, item by item in new pairs, each in a new pair with its number -/
def IteZ (K : PySem.W.Frag) (a b : Addr) : It :=
  ⟨fun i H => ∃ (xs ys : List V) (x y : V), SqT K H a xs ∧ SqT K H b ys ∧ xs[i]? = some x ∧ ys[i]? = some y,
    fun i H v H' => ∃ T p x y, v = .ref T ∧ H T = none ∧ H p = none ∧ p ≠ T ∧ H' = upd (upd H p (.tup [x, y])) T (.tup [.int (i : Nat), .ref p]) ∧ (∀ xs, SqT K H a xs → xs[i]? = some x) ∧ ∀ ys, SqT K H b ys → ys[i]? = some y,
    fun i H => ∃ xs : List V, SqT K H a xs ∧ xs.length ≤ i⟩
theorem turn_enumZ {P : Program} {w : World} {K : PySem.W.Frag} {elts : List Expr} {kk : Nat} {tpos : Pos} {a b e z TI TO i1 i2 : Addr} (D : EZ e z TI TO i1 i2 a b) :
    Turn P w K (.Tuple elts kk tpos) (IteZ K a b) [e, z, TI, TO, i1, i2] e (fun i h => (∃ old, IsEnum h e z ((i : Nat) : Int) old) ∧ IsZ h z TI TO ∧ IsPair h TI (.ref i1) (.ref i2) ∧ (∃ x y, IsPair h TO x y) ∧ h.IsTupleIter i1 a i ∧ h.IsTupleIter i2 b i) where
  mem := by simp
  obj := fun i h st c hc => by
    obtain ⟨⟨old, he⟩, ⟨o0, b0, hz, _⟩, hTI, ⟨x, y, hTO⟩, ⟨o1, e1, _, d1⟩, ⟨o2, e2, _, d2⟩⟩ := st
    have e' : c = e ∨ c = z ∨ c = TI ∨ c = TO ∨ c = i1 ∨ c = i2 := by simpa using hc
    rcases e' with q | q | q | q | q | q
    · rw [q]; exact ⟨_, he, fun v q => nomatch q⟩
    · rw [q]; exact ⟨_, hz, fun v q => nomatch q⟩
    · rw [q]; exact ⟨_, hTI, fun v q => nomatch q⟩
    · rw [q]; exact ⟨_, hTO, fun v q => nomatch q⟩
    · rw [q]; exact ⟨o1, e1, fun v q => by rw [d1] at q; cases q⟩
    · rw [q]; exact ⟨o2, e2, fun v q => by rw [d2] at q; cases q⟩
  keep := fun i h h' st k => by
    obtain ⟨⟨old, he⟩, ⟨o0, b0, hz, r⟩, hTI, ⟨x, y, hTO⟩, h1, h2⟩ := st
    exact ⟨⟨old, k e (by simp) _ he⟩, ⟨o0, b0, k z (by simp) _ hz, r⟩, k TI (by simp) _ hTI, ⟨x, y, k TO (by simp) _ hTO⟩, h1.at fun o q => k i1 (by simp) o q, h2.at fun o q => k i2 (by simp) o q⟩
  item := by
    intro X hP hw hK hc i pins s σ H E I hf st hg
    subst hP hw hK
    obtain ⟨⟨old, he⟩, hz, hTI, ⟨x0, y0, hTO⟩, h1, h2⟩ := st
    obtain ⟨xs, ys, x, y, hqx, hqy, hx, hy⟩ := hg
    obtain ⟨its, rv, p, _⟩ := I.tuple hqx
    obtain ⟨its2, rv2, p2, _⟩ := I.tuple hqy
    obtain ⟨u, hu, ru⟩ := rv.get hx
    obtain ⟨u2, hu2, ru2⟩ := rv2.get hy
    have hel : e < s.heap.objs.size := Heap.lt_size he
    refine enumZ_item D he hz hTI hTO h1 h2 p p2 (x := u) (y := u2) (by simpa using hu) (by simpa using hu2) fun h' tk ho z' TO' h1' h2' hP hT hk => ?_
    refine ⟨_, rfl, wpAny_letOwnedTupleGo_enum (s := { s with heap := h', toks := tk + 1 }) ho fun h'' he'' sb => ?_⟩
    replace sb : Heap.SameBut e h' h'' := sb
    have hP2 : IsPair h'' s.heap.objs.size u u2 := (sb.2 _ (Nat.ne_of_gt hel)).trans hP
    have hT2 : h''.get? (s.heap.objs.size + 1) = some { cls := .type "tuple", data := .seq #[.int i tk, .ref s.heap.objs.size] } := (sb.2 _ (Nat.ne_of_gt (Nat.lt_succ_of_lt hel))).trans hT
    obtain ⟨G, g1, g2⟩ := restrict h'' fun c => decide (c ≠ s.heap.objs.size + 1)
    have gk : ∀ c, c ≠ s.heap.objs.size + 1 → G.get? c = h''.get? c := fun c hc => g1 c (decide_eq_true hc)
    have gn : G.get? (s.heap.objs.size + 1) = none := g2 _ (by simp)
    have keep : ∀ c o, c ∉ [e, z, TI, TO, i1, i2] → s.heap.get? c = some o → h''.get? c = some o := fun c o hb q =>
      (sb.2 c (fun q' => hb (by simp [q']))).trans (hk c o (fun q' => hb (by simp [q'])) (fun q' => hb (by simp [q'])) (fun q' => hb (by simp [q'])) (fun q' => hb (by simp [q'])) (fun q' => hb (by simp [q'])) q)
    have new1 : ObjOk X.prog X.w (upd H s.heap.objs.size (.tup [x, y])) G s.heap.objs.size (.tup [x, y]) :=
      ⟨by show 2 ≤ sizeLine; decide, [u, u2], .cons ru (.cons ru2 .nil), ⟨_, (gk _ (Nat.ne_of_lt (Nat.lt_succ_self _))).trans hP2, rfl, _, rfl⟩⟩
    have I1 : Inv X pins σ (upd H s.heap.objs.size (.tup [x, y])) { s with heap := G, toks := tk + 1 } :=
      I.turnedNew (t' := tk + 1) (ch := [e, z, TI, TO, i1, i2]) (fun c o hb q => (gk c (Nat.ne_of_lt (Nat.lt_succ_of_lt (Heap.lt_size q)))).trans (keep c o hb q)) hf (Nat.le_refl _) new1
    have hn2 : upd H s.heap.objs.size (.tup [x, y]) (s.heap.objs.size + 1) = none := by
      rw [upd_ne (Nat.succ_ne_self _)]
      exact I.hok.fresh (Nat.le_succ _)
    have new2 : ObjOk X.prog X.w (upd (upd H s.heap.objs.size (.tup [x, y])) (s.heap.objs.size + 1) (.tup [.int (i : Nat), .ref s.heap.objs.size])) h'' (s.heap.objs.size + 1) (.tup [.int (i : Nat), .ref s.heap.objs.size]) :=
      ⟨by show 2 ≤ sizeLine; decide, [.int i tk, .ref s.heap.objs.size], .cons ⟨_, rfl⟩ (.cons rfl .nil), ⟨_, hT2, rfl, _, rfl⟩⟩
    have I2 := I1.laidN (h' := h'') (t' := tk + 1) (fun c o q => by
      by_cases c1 : c = s.heap.objs.size + 1
      · rw [c1] at q
        have q2 : G.get? (s.heap.objs.size + 1) = some o := q
        rw [gn] at q2
        cases q2
      · exact (gk c c1).symm.trans q) gn hn2 new2
    refine ⟨.ref (s.heap.objs.size + 1), _, I2, rfl, ⟨_, s.heap.objs.size, x, y, rfl, I.hok.fresh (Nat.le_succ _), I.hok.fresh (Nat.le_refl _), Nat.ne_of_lt (Nat.lt_succ_self _), rfl, fun l hl => by rw [I.tuple_inj hl hqx]; exact hx, fun l hl => by rw [I.tuple_inj hl hqy]; exact hy⟩, ⟨⟨.ref s.heap.objs.size, ?_⟩, ?_, ?_, ?_, ?_, ?_⟩, fun c hcm => ?_⟩
    · have e1 : ((i + 1 : Nat) : Int) = (i : Int) + 1 := by omega
      rw [e1]; exact he''
    · obtain ⟨o0, b0, q, r⟩ := z'
      exact ⟨o0, b0, (sb.2 _ D.ez.symm).trans q, r⟩
    · exact (sb.2 _ D.eTI.symm).trans (hk _ _ D.eTI.symm D.d.TIz D.d.TITO D.d.TIi1 D.d.TIi2 hTI)
    · obtain ⟨x', y', q⟩ := TO'
      exact ⟨x', y', (sb.2 _ D.eTO.symm).trans q⟩
    · exact h1'.at fun o q => (sb.2 _ D.e1.symm).trans q
    · exact h2'.at fun o q => (sb.2 _ D.e2.symm).trans q
    · have hlt : c < s.heap.objs.size := by
        have e' : c = e ∨ c = z ∨ c = TI ∨ c = TO ∨ c = i1 ∨ c = i2 := by simpa using hcm
        rcases e' with q | q | q | q | q | q
        · rw [q]; exact hel
        · rw [q]; obtain ⟨_, _, q2, _⟩ := hz; exact Heap.lt_size q2
        · rw [q]; exact Heap.lt_size hTI
        · rw [q]; exact Heap.lt_size hTO
        · rw [q]; obtain ⟨_, e1, _⟩ := h1; exact Heap.lt_size e1
        · rw [q]; obtain ⟨_, e2, _⟩ := h2; exact Heap.lt_size e2
      rw [upd_ne (Nat.ne_of_lt (Nat.lt_succ_of_lt hlt)), upd_ne (Nat.ne_of_lt hlt)]
      exact (hf c hcm).1
  done := by
    intro X hP hw hK hc i pins s σ H E I hf st hg
    subst hP hw hK
    obtain ⟨⟨old, he⟩, hz, hTI, ⟨x0, y0, hTO⟩, h1, h2⟩ := st
    obtain ⟨xs, hqx, hend⟩ := hg
    obtain ⟨its, rv, p, _⟩ := I.tuple hqx
    have l1 := rv.length
    have he' : its.toArray[i]? = none := by simp; omega
    exact enumZ_end (I.ok.hd hc) D he hz hTI hTO h1 p he' fun h' hk => ⟨rfl, I.turnedL (t' := s.toks) (ch := [e, z, TI, TO, i1, i2]) (fun c o hb q =>
      hk c o (fun q' => hb (by simp [q'])) (fun q' => hb (by simp [q'])) (fun q' => hb (by simp [q'])) (fun q' => hb (by simp [q'])) q) hf⟩
  self := fun A i s Q E st h => let ⟨⟨_, he⟩, _⟩ := st; wpAny_pyIter_enum he h
def iEnumZ (K : PySem.W.Frag) (ta : TA) : TI := fun σ H R => ta σ H fun vs H1 => ∃ a b xs ys, vs = [.ref a, .ref b] ∧ SqT K H1 a xs ∧ SqT K H1 b ys ∧ R (IteZ K a b) H1
theorem pi_enumZ {X : Cx} {e e2 : Expr} {ta : TA} {p p2 pos pos2 tpos : Pos} {elts : List Expr} {kk : Nat} (hg : Gl X "enumerate") (hg2 : Gl X "zip") (hm : X.mg "enumerate" = none) (hm2 : X.mg "zip" = none) (ha : PA X [e, e2] ta)
    (hs : starEach [e, e2] X.env = (false, eval e X.env) :: starEach [e2] X.env := by rfl) (hpl : (backTo pos2 (starEach [e2] X.env)).any (·.1) = false := by rfl)
    (hs2 : starEach [.Call (.Name "zip" p2) [e, e2] [] pos2] X.env = (false, eval (.Call (.Name "zip" p2) [e, e2] [] pos2) X.env) :: starEach [] X.env := by rfl) :
    PI X (.Tuple elts kk tpos) (.Call (.Name "enumerate" p) [.Call (.Name "zip" p2) [e, e2] [] pos2] [] pos) (iEnumZ X.K ta) := by
  refine ⟨fun pins s σ H R I h => ?_⟩
  refine Call_ (ld_blt I hg hm boot_enumerate (PyProof.Rows.callWith_type1 (wpAny_items_cons (Call_ (ld_blt I hg2 hm2 PyProof.Rows.boot_zip (PyProof.Rows.callWith_type1 (thn (ha.run pos2 pins s σ H _ I h) fun us s1 ⟨vs, H1, I1, r1, q1⟩ => ?_) hs hpl))) hs2) hs2 rfl))
  obtain ⟨a, b, xs, ys, ex, hqx, hqy, q⟩ := q1
  subst ex
  cases r1 with
  | cons r rr =>
    cases rr with
    | cons r' rr =>
      cases rr
      cases r
      cases r'
      obtain ⟨its, rv, p1, _⟩ := I1.tuple hqx
      obtain ⟨its2, rv2, p2', _⟩ := I1.tuple hqy
      obtain ⟨o1, ho1, _⟩ := id p1
      obtain ⟨o2, ho2, _⟩ := id p2'
      refine call_zipT (show s1.heap.IsTuple a its.toArray from p1) (show s1.heap.IsTuple b its2.toArray from p2') fun h' hz hTI hTO h1 h2 hsz hk => wpAny_items_nil ?_
      refine enumZ hz fun h'' he hk2 => wpAny_pyIter_enum he ?_
      have hsz' : (Shared.heap { s1 with heap := h' }).objs.size = s1.heap.objs.size + 5 := hsz
      rw [hsz'] at he ⊢
      have I2 : Inv X pins σ H1 { s1 with heap := h'' } := I1.kept (t' := s1.toks) fun b o q => hk2 b o (hk b o q)
      have al := Heap.lt_size ho1
      have bl := Heap.lt_size ho2
      have D : EZ (s1.heap.objs.size + 5) (s1.heap.objs.size + 4) (s1.heap.objs.size + 2) (s1.heap.objs.size + 3) s1.heap.objs.size (s1.heap.objs.size + 1) a b :=
        ⟨PySem.W.ktu_apart s1.heap.objs.size a b al bl, ne_add _ (by decide), ne_add _ (by decide), ne_add _ (by decide), ne_add _ (j := 0) (by decide), ne_add _ (by decide)⟩
      refine ⟨s1.heap.objs.size + 5, [s1.heap.objs.size + 5, s1.heap.objs.size + 4, s1.heap.objs.size + 2, s1.heap.objs.size + 3, s1.heap.objs.size, s1.heap.objs.size + 1], _, _, H1, rfl, I2, turn_enumZ D,
        ⟨⟨.none, he⟩, ⟨.none, false, hk2 _ _ hz, .inl rfl⟩, hk2 _ _ hTI, ⟨_, _, hk2 _ _ hTO⟩, h1.at fun o q => hk2 _ o q, h2.at fun o q => hk2 _ o q⟩, fun c hcm => ?_, q⟩
      have e' : c = s1.heap.objs.size + 5 ∨ c = s1.heap.objs.size + 4 ∨ c = s1.heap.objs.size + 2 ∨ c = s1.heap.objs.size + 3 ∨ c = s1.heap.objs.size ∨ c = s1.heap.objs.size + 1 := by simpa using hcm
      have hle : s1.heap.objs.size ≤ c := by
        rcases e' with z | z | z | z | z | z
        · rw [z]; exact Nat.le_add_right _ _
        · rw [z]; exact Nat.le_add_right _ _
        · rw [z]; exact Nat.le_add_right _ _
        · rw [z]; exact Nat.le_add_right _ _
        · rw [z]; exact Nat.le_refl _
        · rw [z]; exact Nat.le_add_right _ _
      exact I1.fpOk hle (I1.hok.fresh hle)
end Tr
end
section
set_option Elab.async false
set_option linter.all false
set_option maxRecDepth 100000
set_option maxHeartbeats 4000000
namespace Tr
open PySem PySem.Spec PyProof.Rows L2
section
variable {tt : TT} {te : TE} {vs : List Nat} {σ : L2.St} {H1 : Hp} {D : Addr} {Qd : Hp → Prop}
theorem lc_enumZ {K : PySem.W.Frag} {a b : Addr} {xs ys : List V} {j k : Nat} (hl : xs.length = ys.length) (p : Nat → Bool) (f : Nat → Int) (hn : xs.length ≤ 100000) (hS : ∀ H, Same H1 H → SqT K H a xs ∧ SqT K H b ys)
    (ht : ∀ (i : Nat) (x y : V) (q : Addr) H', xs[i]? = some x → ys[i]? = some y → Same H1 H' → H' q = some (.tup [x, y]) → ∀ Q : Bool → Hp → Prop, (∀ H3, Same H' H3 → Q (p i) H3) → tt (((wipe σ vs).set j (some (.int (i : Nat)))).set k (some (.ref q))) H' Q)
    (he : ∀ (i : Nat) (x y : V) (q : Addr) H', xs[i]? = some x → ys[i]? = some y → Same H1 H' → p i = true → ∀ Q : VK, (∀ H4, Same H' H4 → Q (.int (f i)) H4) → te (((wipe σ vs).set j (some (.int (i : Nat)))).set k (some (.ref q))) H' Q)
    (hd : ∀ H', Same H1 H' → H' D = some (.lst ((pickI p f xs.length).map V.int)) → Qd H') (hD : H1 D = none) (hj : j ∈ vs := by decide) (hk : k ∈ vs := by decide) :
    ∃ W : Nat → Nat → Hp → Prop, (∃ m, W 0 m (upd H1 D (.lst []))) ∧ ∀ i m H, W i m H →
      ((IteZ K a b).stop i H ∧ Qd H) ∨ ((IteZ K a b).go i H ∧ ∃ Nx : Hp → Prop, (∀ H', Nx H' → ∃ m', m' < m ∧ W (i + 1) m' H') ∧ ∀ x H', (IteZ K a b).yld i H x H' → gTup K 2 (gCons (gName j) (gCons (gName k) gNil)) x (wipe σ vs) H' fun σ2 H2 => wipe σ2 vs = wipe σ vs ∧ tt σ2 H2 fun b H3 =>
        if b = true then te σ2 H3 fun y H4 => ∃ acc, H4 D = some (.lst acc) ∧ acc.length < sizeLine ∧ Nx (upd H4 D (.lst (acc ++ [y]))) else Nx H3) := by
  refine ⟨fun i m H => m = xs.length - i ∧ i ≤ xs.length ∧ LcW H1 p (fun i => .int (f i)) D i H, ⟨xs.length, rfl, Nat.zero_le _, Same.new hD, [], upd_same, .nil⟩, ?_⟩
  rintro i m H ⟨rfl, hi, w⟩
  obtain ⟨s1, s2⟩ := hS H w.1
  by_cases hlt : i < xs.length
  · obtain ⟨x, hx⟩ := get_lt hlt
    obtain ⟨y, hy⟩ := get_lt (xs := ys) (i := i) (by omega)
    refine .inr ⟨⟨xs, ys, x, y, s1, s2, hx, hy⟩, LcW H1 p (fun i => .int (f i)) D (i + 1), fun H' p' => ⟨xs.length - (i + 1), by omega, rfl, hlt, p'⟩, fun v H' yl => ?_⟩
    obtain ⟨T, q, x', y', rfl, hT, hq, hne, rfl, hx', hy'⟩ := yl
    obtain rfl : x' = x := Option.some.inj ((hx' xs s1).symm.trans hx)
    obtain rfl : y' = y := Option.some.inj ((hy' ys s2).symm.trans hy)
    have hT2 : upd H q (.tup [x', y']) T = none := by rw [upd_ne hne.symm]; exact hT
    have s : Same H (upd (upd H q (.tup [x', y'])) T (.tup [.int (i : Nat), .ref q])) := (Same.new hq).trans (Same.new hT2)
    have hq2 : upd (upd H q (.tup [x', y'])) T (.tup [.int (i : Nat), .ref q]) q = some (.tup [x', y']) := kp1 upd_same hT2
    refine gp2 upd_same ⟨wipe2 hj hk, lcw_step hD w s (by omega) (ht i x' y' q _ hx hy (w.1.trans s) hq2) fun c H3 s3 => ?_⟩
    intro Q hQ
    exact he i x' y' q H3 hx hy ((w.1.trans s).trans s3) c Q fun H4 s4 => hQ _ _ s4 (.int _)
  · have e : i = xs.length := by omega
    subst e
    obtain ⟨w1, zs, w2, w3⟩ := w
    rw [pick_int] at w3
    exact .inl ⟨⟨xs, s1, Nat.le_refl _⟩, hd H w1 (by rw [w2, TDs.inv_ints w3])⟩
end
/-! ### mirrors -/
def unlike (s t : S) : List Int := pickI (fun i => !decide ((kept s).getD i 0 = (kept t).getD i 0)) (fun i => (i : Int)) (kept s).length
def rsn (s t : S) : V := if s.2.sum = t.2.sum then (match (unlike s t).head? with
  | some i => .int i
  | none => .non) else .str "total"
def lenq (s t : S) : Except Er Unit := if s.1.length = t.1.length then .ok () else .error (.one 0 (.int t.1.length))
def leadq (s t : S) : Except Er Unit := if s.1.length = t.1.length then (if rsn s t = .non then .ok () else .error (.one 4 (rsn s t))) else .error (.one 0 (.int t.1.length))
def ab (x : Int) : Int := if x < 0 then -x else x
def stp (s t : S) : List Int := (List.range s.2.length).map fun i => s.2.getD i 0 - t.2.getD i 0
def mtg (s : S) (st : List Int) (l r : Nat) : Int :=
  ab ((s.1.getD r 0 - s.1.getD l 0 + st.getD r 0 - st.getD l 0) / (s.1.length : Int) - (s.1.getD r 0 - s.1.getD l 0) / (s.1.length : Int))
def crsN (s : S) (st : List Int) : Nat → List (Int × Int × Int)
  | 0 => []
  | k + 1 => crsN s st k ++ (List.range (st.length - (k + 1))).map fun j => ((k : Int), ((k + 1 + j : Nat) : Int), mtg s st k (k + 1 + j))
def dst (s t : S) : Int := (((crsN s (stp s t) (stp s t).length).filter fun p => decide (p.2.2 > 0)).map fun p => p.2.2).sum
def distq (s t : S) : Except Er Int := match leadq s t with
  | .ok _ => .ok (dst s t)
  | .error e => .error e
theorem stp_len (s t : S) : (stp s t).length = s.2.length := by simp [stp]
/-! ### promises -/
def spReason : Sp := fun vs H Q _ => ∃ (v u : V) (s t : S) (n : Nat), vs = [v, u] ∧ TD H v (stD s) ∧ TD H u (stD t) ∧ Rg n s ∧ Rg n t ∧ ∀ H', Same H H' → Q (rsn s t) H'
def spLead (K : PySem.W.Frag) (out : S → S → V) (f : S → S → Except Er Unit) : Sp := fun vs H Q E => ∃ (v u : V) (s t : S) (n m : Nat), vs = [v, u] ∧ TD H v (stD s) ∧ TD H u (stD t) ∧ Rg n s ∧ Rg m t ∧ Gives K H E (f s t) fun _ => ∀ H', Same H H' → Q (out s t) H'
def spSteps : Sp := fun vs H Q _ => ∃ (v u : V) (s t : S) (n : Nat), vs = [v, u] ∧ TD H v (stD s) ∧ TD H u (stD t) ∧ Rg n s ∧ Rg n t ∧ ∀ p H', H p = none → Same H H' → H' p = some (.lst ((stp s t).map .int)) → Q (.ref p) H'
def spMeet : Sp := fun vs H Q _ => ∃ (v : V) (a : Addr) (s : S) (st : List Int) (n l r : Nat), vs = [v, .ref a, .int l, .int r] ∧ TD H v (stD s) ∧ Rg n s ∧ H a = some (.lst (st.map .int)) ∧ st.length = n ∧ l < n ∧ r < n ∧ Q (.int (mtg s st l r)) H
def tr3 (p : Int × Int × Int) : PyData := .tuple [.int p.1, .int p.2.1, .int p.2.2]
def spCross (K : PySem.W.Frag) : Sp := fun vs H Q E => ∃ (v u : V) (s t : S) (n m : Nat), vs = [v, u] ∧ TD H v (stD s) ∧ TD H u (stD t) ∧ Rg n s ∧ Rg m t ∧
  Gives K H E (leadq s t) fun _ => ∀ p ys H', H p = none → Same H H' → H' p = some (.lst ys) → TDs H' ys (((crsN s (stp s t) (stp s t).length).filter fun p => decide (p.2.2 > 0)).map tr3) → Q (.ref p) H'
def spDist (K : PySem.W.Frag) : Sp := fun vs H Q E => ∃ (v u : V) (s t : S) (n m : Nat), vs = [v, u] ∧ TD H v (stD s) ∧ TD H u (stD t) ∧ Rg n s ∧ Rg m t ∧ Gives K H E (distq s t) fun d => ∀ H', Same H H' → Q (.int d) H'
section
variable {P : Program} {w : World} {K : PySem.W.Frag} {mg : Str → Option Value} {base : Heap}
theorem sc_reason_of : FnScope ["one", "other", "unlike", "person", "pair"] ["one", "other"] (defScope s_reason_of) := ⟨rfl, rfl, rfl, by decide +kernel, rfl, by decide +kernel, by decide +kernel⟩
theorem ok_reason_of (T : Tx K mg) : FnOk P w K mg base CX0 3 (He.ga K "reason_of") (fdOf K (He.ga K "reason_of")) ["one", "other"] spReason := by
  refine T.F_reason_of.ok sc_reason_of (fun vs H Q E h => ?_) (fun cdv A outer s H vs Q E hr h => ?_)
  · obtain ⟨v, u, s, t, n, rfl, _⟩ := h
    rfl
  · obtain ⟨v, u, s, t, n, rfl, hv, hu, hs, ht, h⟩ := h
    refine ⟨_, PSs.nox (pss_cons (ps_if (pt_cmpR op_ne (pe_call (ok_coins_of T) (hr.mono (by decide)) rfl T.g_coins_of T.F_coins_of.kp T.b_f_coins_of .nil pass0 (pa_cons (pv 0) pa_nil)) (pe_call (ok_coins_of T) (hr.mono (by decide)) rfl T.g_coins_of T.F_coins_of.kp T.b_f_coins_of .nil pass0 (pa_cons (pv 1) pa_nil)) (nomark _)) (pss_one (ps_ret (pe_globS rfl T.c_TOTAL))) pss_nil)
      (pss_cons (ps_setLc (i := 2) (own := [("person", 3), ("pair", 4)]) (g := gTup K 2 (gCons (gName 3) (gCons (gName 4) gNil))) rfl sc_reason_of.nd rfl rfl (sw_true rfl rfl rfl (by kernel_rfl)) (pi_enumZ rfl rfl T.b_enumerate T.b_zip (pa_cons (pe_call (ok_kept_of T) (hr.mono (by decide)) rfl T.g_kept_of T.F_kept_of.kp T.b_f_kept_of .nil pass0 (pa_cons (pv 0) pa_nil)) (pa_cons (pe_call (ok_kept_of T) (hr.mono (by decide)) rfl T.g_kept_of T.F_kept_of.kp T.b_f_kept_of .nil pass0 (pa_cons (pv 1) pa_nil)) pa_nil))) (blkOk_by (own := [("person", 3), ("pair", 4)]) (N := ["one", "other", "unlike", "person", "pair"]) (by kernel_rfl)) (fun _ _ _ _ _ => (pg_tup rfl (pgs_cons (pg_name (i := 3) sc_reason_of.nd rfl (Or.inl rfl)) (pgs_cons (pg_name (i := 4) sc_reason_of.nd rfl (Or.inl rfl)) pgs_nil)))) (fun _ _ _ _ _ => (pts_one (pt_cmpR op_ne (pe_ix (ix_tupK (K := K) rfl) (pv 4) pe_int (fun _ _ => rfl)) (pe_ix (ix_tupK (K := K) rfl) (pv 4) pe_int (fun _ _ => rfl)) (nomark _)))) (fun _ _ _ _ _ => (pv 3)))
      (pss_one (ps_ret (pe_ifExp (pt_cmpR op_gt (pe_callB call_len_seq rfl T.b_len bt_len (pa_cons (pv 2) pa_nil)) pe_int (nomark _)) (pe_ix ix_list (pv 2) pe_int (fun _ _ => rfl)) pe_non))))), ?_⟩
    refine ⟨_, rfl, v, s, rfl, hv, _, rfl, u, t, rfl, hu, rfl, _, rfl, ?_⟩
    by_cases c : s.2.sum = t.2.sum
    · refine iteZ (by show (!decide (V.int s.2.sum = V.int t.2.sum)) = false; rw [c]; simp) ?_
      refine ⟨_, rfl, v, s, n, rfl, hv, hs, fun v1 H1 e1 hv1 => ?_⟩
      refine ⟨_, rfl, u, t, n, rfl, hu.mono e1.tups, ht, fun v2 H2 e2 hv2 => ?_⟩
      obtain ⟨a1, rfl, ha1⟩ := TD.ints hv1
      obtain ⟨a2, rfl, ha2⟩ := TD.ints hv2
      have l1 := hs.l1
      have l2 := ht.l1
      have n2 := hs.top
      refine ⟨a1, a2, _, _, rfl, SqT.of (e2 _ _ ha1), SqT.of ha2, fun D hD => ?_⟩
      refine lc_enumZ (xs := (kept s).map V.int) (ys := (kept t).map V.int) ?_ (fun i => !decide ((kept s).getD i 0 = (kept t).getD i 0)) (fun i => (i : Int)) ?_ ?_ ?_ ?_ ?_ hD
      · rw [List.length_map, List.length_map, kept_len, kept_len, l1, l2]
      · rw [List.length_map, kept_len]; omega
      · exact fun H' e => ⟨SqT.of (e _ _ (e2 _ _ ha1)), SqT.of (e _ _ ha2)⟩
      · rintro i x y q H' hx hy e hq Q qq
        obtain ⟨x, rfl, hx2⟩ := int_get hx
        obtain ⟨y, rfl, hy2⟩ := int_get hy
        have q2 := qq _ (Same.refl _)
        rw [getD_of hx2, getD_of hy2] at q2
        refine ⟨_, rfl, q, _, _, _, rfl, rfl, SqT.of hq, atI_nat (j := 0) rfl, _, rfl, q, _, _, _, rfl, rfl, SqT.of hq, atI_nat (j := 1) rfl, rfl, _, rfl, ?_⟩
        have ee : decide (V.int x = V.int y) = decide (x = y) := by simp
        rw [ee]
        exact q2
      · rintro i x y q H' hx hy e _ Q qq
        exact ⟨_, rfl, qq _ (Same.refl _)⟩
      intro H3 e3 h3
      rw [List.length_map] at h3
      have e4 := (e1.trans e2).trans e3
      have h3' : H3 D = some (.lst ((unlike s t).map .int)) := h3
      have er : rsn s t = (match (unlike s t).head? with
        | some i => .int i
        | none => .non) := if_pos c
      rw [er] at h
      refine ⟨_, rfl, D, _, rfl, .inl (SqL.of h3'), _, _, rfl, rfl, _, rfl, ?_⟩
      rw [List.length_map]
      cases hu2 : unlike s t with
      | nil =>
        rw [hu2] at h
        exact iteZ (by simp) (h _ e4)
      | cons i r =>
        rw [hu2] at h h3'
        refine iteY (by simp) ?_
        exact ⟨_, rfl, D, _, _, _, rfl, rfl, SqL.of h3', atI_nat (j := 0) rfl, h _ e4⟩
    · refine iteY (by simpa using c) ?_
      have er : rsn s t = .str "total" := if_neg c
      rw [er] at h
      exact h _ (Same.refl _)
theorem sc_bar : FnScope ["one", "other"] ["one", "other"] (defScope s_bar) := ⟨rfl, rfl, rfl, by decide +kernel, rfl, by decide +kernel, by decide +kernel⟩
theorem ok_bar (T : Tx K mg) (Z : Ex K) : FnOk P w K mg base (L2.CX P w) 5 (He.ga K "bar") (fdOf K (He.ga K "bar")) ["one", "other"] (spLead K rsn lenq) := by
  refine T.F_bar.ok sc_bar (fun vs H Q E h => ?_) (fun cdv A outer s H vs Q E hr h => ?_)
  · obtain ⟨v, u, s, t, n, m, rfl, _⟩ := h
    rfl
  · obtain ⟨v, u, s, t, n, m, rfl, hv, hu, hs, ht, h⟩ := h
    refine ⟨_, (pss_cons (ps_expr (pe_call (ok_look_people T Z) (hr.mono (by decide)) rfl T.g_look_people T.F_look_people.kp T.b_f_look_people .nil (passes_call (takes_of rfl rfl rfl rfl) fun _ _ _ _ h => h) (pa_cons (pe_call (ok_people_many T) (hr.mono (by decide)) rfl T.g_people_many T.F_people_many.kp T.b_f_people_many .nil pass0 (pa_cons (pv 0) pa_nil)) (pa_cons (pe_call (ok_people_many T) (hr.mono (by decide)) rfl T.g_people_many T.F_people_many.kp T.b_f_people_many .nil pass0 (pa_cons (pv 1) pa_nil)) pa_nil))))
      (pss_one (ps_ret (pe_call (ok_reason_of T) (hr.mono (by decide)) rfl T.g_reason_of T.F_reason_of.kp T.b_f_reason_of .nil pass0 (pa_cons (pv 0) (pa_cons (pv 1) pa_nil)))))), ?_⟩
    refine ⟨_, rfl, v, s, rfl, hv, _, rfl, u, t, rfl, hu, _, _, rfl, ?_⟩
    unfold lenq at h
    by_cases c : s.1.length = t.1.length
    · rw [if_pos c] at h
      have c2 : ((s.1.length : Nat) : Int) = (t.1.length : Nat) := by omega
      show Gives K H E (if ((s.1.length : Nat) : Int) = (t.1.length : Nat) then .ok () else _) _
      rw [if_pos c2]
      have hm : n = m := by rw [← hs.l1, ← ht.l1, c]
      subst hm
      exact ⟨_, rfl, _, rfl, v, u, s, t, n, rfl, hv, hu, hs, ht, fun H' e => h H' e⟩
    · rw [if_neg c] at h
      have c2 : ¬ ((s.1.length : Nat) : Int) = (t.1.length : Nat) := by omega
      show Gives K H E (if ((s.1.length : Nat) : Int) = (t.1.length : Nat) then .ok () else _) _
      rw [if_neg c2]
      exact h
theorem sc_look_leads : FnScope ["one", "other", "reason"] ["one", "other"] (defScope s_look_leads) := ⟨rfl, rfl, rfl, by decide +kernel, rfl, by decide +kernel, by decide +kernel⟩
theorem ok_look_leads (T : Tx K mg) (Z : Ex K) : FnOk P w K mg base (L2.CX P w) 6 (He.ga K "look_leads") (fdOf K (He.ga K "look_leads")) ["one", "other"] (spLead K (fun _ _ => .non) leadq) := by
  refine T.F_look_leads.ok sc_look_leads (fun vs H Q E h => ?_) (fun cdv A outer s H vs Q E hr h => ?_)
  · obtain ⟨v, u, s, t, n, m, rfl, _⟩ := h
    rfl
  · obtain ⟨v, u, s, t, n, m, rfl, hv, hu, hs, ht, h⟩ := h
    refine ⟨_, (pss_cons (ps_set (i := 2) sc_look_leads.nd rfl (Or.inl rfl) (pe_call (ok_bar T Z) (hr.mono (by decide)) rfl T.g_bar T.F_bar.kp T.b_f_bar .nil (passes_call (takes_of rfl rfl rfl rfl) fun _ _ _ _ h => h) (pa_cons (pv 0) (pa_cons (pv 1) pa_nil))))
      (pss_one (ps_if (pt_cmpR op_notN (pv 2) pe_non (nomark _)) (pss_one (ps_raise rfl (takes_of rfl rfl rfl rfl) (mk_Barred T Z (hr.mono (by decide)) rfl (pa_cons (pv 2) pa_nil)))) pss_nil))), ?_⟩
    refine ⟨_, rfl, _, rfl, v, u, s, t, n, m, rfl, hv, hu, hs, ht, ?_⟩
    unfold leadq at h
    by_cases c : s.1.length = t.1.length
    · rw [if_pos c] at h
      unfold lenq
      rw [if_pos c]
      refine fun H1 e1 => ⟨_, rfl, rfl, _, rfl, ?_⟩
      by_cases c3 : rsn s t = .non
      · rw [if_pos c3] at h
        exact iteZ (by rw [c3]; simp) (h _ e1)
      · rw [if_neg c3] at h
        refine iteY (by simpa using c3) ?_
        exact ⟨_, rfl, mk1_of fun d hd => h _ _ _ (e1.trans (Same.new hd)) ⟨rfl, d, rfl, upd_same⟩⟩
    · rw [if_neg c] at h
      unfold lenq
      rw [if_neg c]
      exact h
theorem sc_steps_of : FnScope ["one", "other", "before", "after"] ["one", "other"] (defScope s_steps_of) := ⟨rfl, rfl, rfl, by decide +kernel, rfl, by decide +kernel, by decide +kernel⟩
theorem ok_steps_of (T : Tx K mg) : FnOk P w K mg base CX0 1 (He.ga K "steps_of") (fdOf K (He.ga K "steps_of")) ["one", "other"] spSteps := by
  refine T.F_steps_of.ok sc_steps_of (fun vs H Q E h => ?_) (fun cdv A outer s H vs Q E hr h => ?_)
  · obtain ⟨v, u, s, t, n, rfl, _⟩ := h
    rfl
  · obtain ⟨v, u, s, t, n, rfl, hv, hu, hs, ht, h⟩ := h
    refine ⟨_, PSs.nox (pss_one (ps_ret (pe_lc (own := [("before", 2), ("after", 3)]) (g := gTup K 2 (gCons (gName 2) (gCons (gName 3) gNil))) rfl sc_steps_of.nd (RZ.pi_zipA rfl T.b_zip (pa_cons (pe_ix ix_tup (pv 0) pe_int (fun _ _ => rfl)) (pa_cons (pe_ix ix_tup (pv 1) pe_int (fun _ _ => rfl)) pa_nil))) (blkOk_by (own := [("before", 2), ("after", 3)]) (N := ["one", "other", "before", "after"]) (by kernel_rfl)) (fun _ _ _ _ _ => (pg_tup rfl (pgs_cons (pg_name (i := 2) sc_steps_of.nd rfl (Or.inl rfl)) (pgs_cons (pg_name (i := 3) sc_steps_of.nd rfl (Or.inl rfl)) pgs_nil)))) (fun _ _ _ _ _ => pts_nil) (fun _ _ _ _ _ => (pe_op op_sub (pv 2) (pv 3)))))), ?_⟩
    obtain ⟨a, b, c, rfl, ha, hb, hc⟩ := TD.st hv
    obtain ⟨a', b', c', rfl, ha', hb', hc'⟩ := TD.st hu
    have l1 := hs.l2
    have l2 := ht.l2
    have n2 := hs.top
    refine ⟨_, rfl, a, _, _, _, rfl, rfl, SqT.of ha, atI_nat (j := 1) rfl, _, rfl, a', _, _, _, rfl, rfl, SqT.of ha', atI_nat (j := 1) rfl, c, c', _, _, rfl, .inr ⟨SqT.of hc, SqT.of hc', fun D hD => ?_⟩⟩
    refine lc_prsI (prs_zipT (xs := s.2.map V.int) (ys := t.2.map V.int) ?_) (fun _ => true) (fun i => s.2.getD i 0 - t.2.getD i 0) ?_ ?_ ?_ ?_ ?_ hD
    · rw [List.length_map, List.length_map, l1, l2]
    · rw [List.length_map]; omega
    · exact fun H' e => ⟨SqT.of (e _ _ hc), SqT.of (e _ _ hc')⟩
    · exact fun i x y H' _ _ _ Q q => q _ (Same.refl _)
    · rintro i x y H' hi ⟨hx, hy⟩ e _ Q q
      obtain ⟨x, rfl, hx2⟩ := int_get hx
      obtain ⟨y, rfl, hy2⟩ := int_get hy
      have q2 := q _ (Same.refl _)
      rw [getD_of hx2, getD_of hy2] at q2
      exact ⟨_, rfl, _, rfl, _, _, rfl, rfl, q2⟩
    intro H1 e1 h1
    rw [pickI_tt, List.length_map] at h1
    exact h D _ hD e1 h1
theorem sc_meetings : FnScope ["one", "steps", "left", "right", "size", "apart"] ["one", "steps", "left", "right"] (defScope s_meetings) := ⟨rfl, rfl, rfl, by decide +kernel, rfl, by decide +kernel, by decide +kernel⟩
theorem ok_meetings (T : Tx K mg) : FnOk P w K mg base CX0 2 (He.ga K "meetings") (fdOf K (He.ga K "meetings")) ["one", "steps", "left", "right"] spMeet := by
  refine T.F_meetings.ok sc_meetings (fun vs H Q E h => ?_) (fun cdv A outer s H vs Q E hr h => ?_)
  · obtain ⟨v, a, s, st, n, l, r, rfl, _⟩ := h
    rfl
  · obtain ⟨v, a, s, st, n, l, r, rfl, hv, hn, ha, hst, hl, hr', h⟩ := h
    refine ⟨_, PSs.nox (pss_cons (ps_par (i := 4) (j := 5) rfl sc_meetings.nd rfl rfl (by decide) rfl rfl (pa_cons (pe_call (ok_people_many T) (hr.mono (by decide)) rfl T.g_people_many T.F_people_many.kp T.b_f_people_many .nil pass0 (pa_cons (pv 0) pa_nil)) (pa_cons (pe_op op_sub (pe_ix ix_tup (pe_ix ix_tup (pv 0) pe_int (fun _ _ => rfl)) (pv 3) (fun _ _ => rfl)) (pe_ix ix_tup (pe_ix ix_tup (pv 0) pe_int (fun _ _ => rfl)) (pv 2) (fun _ _ => rfl))) pa_nil)) (by rfl))
      (pss_one (ps_ret (pe_callB call_abs rfl T.b_abs bt_abs (pa_cons (pe_op op_sub (pe_op op_fdiv (pe_op op_sub (pe_op op_add (pv 5) (pe_ix ix_list (pv 1) (pv 3) (fun _ _ => rfl))) (pe_ix ix_list (pv 1) (pv 2) (fun _ _ => rfl))) (pv 4)) (pe_op op_fdiv (pv 5) (pv 4))) pa_nil))))), ?_⟩
    have l1 := hn.l1
    have np := hn.pos
    have nt := hn.top
    obtain ⟨va, vb, vc, rfl, hva, hvb, hvc⟩ := TD.st hv
    obtain ⟨x1, hx1⟩ := get_lt (xs := s.1) (i := r) (by omega)
    obtain ⟨x2, hx2⟩ := get_lt (xs := s.1) (i := l) (by omega)
    obtain ⟨y1, hy1⟩ := get_lt (xs := st) (i := r) (by omega)
    obtain ⟨y2, hy2⟩ := get_lt (xs := st) (i := l) (by omega)
    have e : mtg s st l r = ab ((x1 - x2 + y1 - y2) / (s.1.length : Int) - (x1 - x2) / (s.1.length : Int)) := by
      unfold mtg
      rw [getD_of hx1, getD_of hx2, getD_of hy1, getD_of hy2]
    rw [e] at h
    have bd : CDiv (x1 - x2 + y1 - y2) (s.1.length : Int) := ⟨by omega, by omega⟩
    have bd2 : CDiv (x1 - x2) (s.1.length : Int) := ⟨by omega, by omega⟩
    refine ⟨_, rfl, _, s, rfl, hv, _, rfl, va, _, _, _, rfl, rfl, SqT.of hva, atI_nat (j := 0) rfl, _, rfl, vb, _, _, _, rfl, rfl, SqT.of hvb, atI_nat (get_int hx1), _, rfl, va, _, _, _, rfl, rfl, SqT.of hva, atI_nat (j := 0) rfl, _, rfl, vb, _, _, _, rfl, rfl, SqT.of hvb, atI_nat (get_int hx2), _, _, rfl, rfl, _, _, rfl, ?_⟩
    exact ⟨_, rfl, _, rfl, _, rfl, a, _, _, _, rfl, rfl, SqL.of ha, atI_nat (get_int hy1), _, _, rfl, rfl, _, rfl, _, rfl, a, _, _, _, rfl, rfl, SqL.of ha, atI_nat (get_int hy2), _, _, rfl, rfl, _, rfl, _, _, rfl, rfl, bd, _, rfl, _, rfl, _, _, rfl, rfl, bd2, _, _, rfl, rfl, _, rfl, h⟩
theorem sc_crossings : FnScope ["one", "other", "steps", "found", "left", "right", "many"] ["one", "other"] (defScope s_crossings) := ⟨rfl, rfl, rfl, by decide +kernel, rfl, by decide +kernel, by decide +kernel⟩
theorem crsN_len (s : S) (st : List Int) : ∀ k, (crsN s st k).length ≤ k * st.length
  | 0 => by simp [crsN]
  | k + 1 => by
    have ih := crsN_len s st k
    unfold crsN
    rw [List.length_append, List.length_map, List.length_range, Nat.succ_mul]
    omega
theorem ok_crossings (T : Tx K mg) (Z : Ex K) : FnOk P w K mg base (L2.CX P w) 7 (He.ga K "crossings") (fdOf K (He.ga K "crossings")) ["one", "other"] (spCross K) := by
  refine T.F_crossings.ok sc_crossings (fun vs H Q E h => ?_) (fun cdv A outer s H vs Q E hr h => ?_)
  · obtain ⟨v, u, s, t, n, m, rfl, _⟩ := h
    rfl
  · obtain ⟨v, u, s, t, n, m, rfl, hv, hu, hs, ht, h⟩ := h
    refine ⟨_, (pss_cons (ps_expr (pe_call (ok_look_leads T Z) (hr.mono (by decide)) rfl T.g_look_leads T.F_look_leads.kp T.b_f_look_leads .nil (passes_call (takes_of rfl rfl rfl rfl) fun _ _ _ _ h => h) (pa_cons (pv 0) (pa_cons (pv 1) pa_nil))))
      (pss_cons (ps_asg (pe_tup (pa_cons (pe_call (ok_steps_of T) (hr.mono (by decide)) rfl T.g_steps_of T.F_steps_of.kp T.b_f_steps_of .nil pass0 (pa_cons (pv 0) (pa_cons (pv 1) pa_nil))) (pa_cons (pe_lst pa_nil) pa_nil))) (pg_tup rfl (pgs_cons (pg_name (i := 2) sc_crossings.nd rfl (Or.inr rfl)) (pgs_cons (pg_name (i := 3) sc_crossings.nd rfl (Or.inl rfl)) pgs_nil))))
      (pss_cons (ps_for (passes_of rfl) rfl (pi_range1 rfl T.b_range (pa_cons (pe_callB call_len_seq rfl T.b_len bt_len (pa_cons (pv 2) pa_nil)) pa_nil)) (pg_name (i := 4) sc_crossings.nd rfl (Or.inr rfl))
        (pss_one (ps_expr (pe_bm PySem.F.plainAttrs_list PySem.F.slot_list_extend PySem.F.type_list_extend mt_extend (pv 3) (pa_cons (pe_lc (own := [("right", 5)]) (g := gName 5) rfl sc_crossings.nd (pi_range2 rfl T.b_range (pa_cons (pe_op op_add (pv 4) pe_int) (pa_cons (pe_callB call_len_seq rfl T.b_len bt_len (pa_cons (pv 2) pa_nil)) pa_nil))) (blkOk_by (own := [("right", 5)]) (N := ["one", "other", "steps", "found", "left", "right", "many"]) (by kernel_rfl)) (fun _ _ _ _ _ => (pg_name (i := 5) sc_crossings.nd rfl (Or.inl rfl))) (fun _ _ _ _ _ => pts_nil) (fun _ _ _ _ _ => (pe_tup (pa_cons (pv 4) (pa_cons (pv 5) (pa_cons (pe_call (ok_meetings T) (hr.mono (by decide)) rfl T.g_meetings T.F_meetings.kp T.b_f_meetings .nil pass0 (pa_cons (pv 0) (pa_cons (pv 2) (pa_cons (pv 4) (pa_cons (pv 5) pa_nil))))) pa_nil)))))) pa_nil)))))
      (pss_one (ps_ret (pe_lc (own := [("left", 4), ("right", 5), ("many", 6)]) (g := gTup K 3 (gCons (gName 4) (gCons (gName 5) (gCons (gName 6) gNil)))) rfl sc_crossings.nd (pi_list (pv 3)) (blkOk_by (own := [("left", 4), ("right", 5), ("many", 6)]) (N := ["one", "other", "steps", "found", "left", "right", "many"]) (by kernel_rfl)) (fun _ _ _ _ _ => (pg_tup rfl (pgs_cons (pg_name (i := 4) sc_crossings.nd rfl (Or.inl rfl)) (pgs_cons (pg_name (i := 5) sc_crossings.nd rfl (Or.inl rfl)) (pgs_cons (pg_name (i := 6) sc_crossings.nd rfl (Or.inl rfl)) pgs_nil))))) (fun _ _ _ _ _ => (pts_one (pt_cmpR op_gt (pv 6) pe_int (nomark _)))) (fun _ _ _ _ _ => (pe_tup (pa_cons (pv 4) (pa_cons (pv 5) (pa_cons (pv 6) pa_nil))))))))))), ?_⟩
    refine ⟨_, rfl, _, rfl, v, u, s, t, n, m, rfl, hv, hu, hs, ht, ?_⟩
    cases hld : leadq s t with
    | error er =>
      rw [hld] at h
      exact h
    | ok un =>
      rw [hld] at h
      have hnm : n = m := by
        unfold leadq at hld
        rw [← hs.l1, ← ht.l1]
        split at hld
        · assumption
        · cases hld
      subst hnm
      intro H1 e1
      have ez := sizeLine_eq
      have np := hs.top
      have lst : (stp s t).length = n := by rw [stp_len, hs.l2]
      refine ⟨_, rfl, _, rfl, v, u, s, t, n, rfl, hv.mono e1.tups, hu.mono e1.tups, hs, ht, fun p H2 hp e2 h2 => ?_⟩
      refine ⟨line0, fun f hf => ⟨line2, fun z hz => gp2 upd_same ?_⟩⟩
      have hp3 := kp1 (u := .tup [.ref p, .ref f]) (kp1 (u := .lst []) h2 hf) hz
      have hf3 : upd (upd H2 f (.lst [])) z (.tup [.ref p, .ref f]) f = some (.lst []) := kp1 upd_same hz
      have e3 : Same H (upd (upd H2 f (.lst [])) z (.tup [.ref p, .ref f])) := ((e1.trans e2).trans (Same.new hf)).trans (Same.new hz)
      have hHf : H f = none := (e1.trans e2).none hf
      have hHp : H p = none := e1.none hp
      have hpf : p ≠ f := ne_of_none h2 hf
      generalize upd (upd H2 f (.lst [])) z (.tup [.ref p, .ref f]) = H3 at *
      refine ⟨_, rfl, p, _, rfl, .inl (SqL.of hp3), _, rfl, ?_, ?_, ?_⟩
      · rw [List.length_map]; omega
      · rw [List.length_map]; omega
      rw [List.length_map, Int.toNat_natCast, lst]
      refine for_sng sng_range (fun i σ H' => Same H H' ∧ H' p = some (.lst ((stp s t).map .int)) ∧ ∃ ys y4 y5 y6, H' f = some (.lst ys) ∧ TDs H' ys ((crsN s (stp s t) i).map tr3) ∧ σ = [some v, some u, some (.ref p), some (.ref f), y4, y5, y6])
        ⟨e3, hp3, [], _, _, _, hf3, .nil, rfl⟩ (fun _ _ _ _ _ => trivial) ?_ ?_
      · rintro i x σ H4 hi rfl ⟨e4, hp4, ys, y4, y5, y6, hf4, ty, rfl⟩
        have lys : ys.length ≤ n * n := by
          rw [ty.1, List.length_map]
          have a := crsN_len s (stp s t) i
          rw [lst] at a
          exact Nat.le_trans a (Nat.mul_le_mul_right n (by omega))
        have lnn : n * n ≤ 16 * 16 := Nat.mul_le_mul np np
        refine ⟨_, rfl, .inl ⟨rfl, _, SqL.of hf4⟩, ?_⟩
        refine ⟨_, rfl, _, _, rfl, rfl, _, rfl, p, _, rfl, .inl (SqL.of hp4), _, _, rfl, ?_, ?_⟩
        · rw [List.length_map]; omega
        intro D hD
        have en : ((((List.map V.int (stp s t)).length : Nat) : Int) - (0 + (i : Int) + 1)).toNat = n - (i + 1) := by
          rw [List.length_map]; omega
        rw [en]
        refine lc_sng sng_range (fun _ => true) (fun j => tr3 ((i : Int), ((i + 1 + j : Nat) : Int), mtg s (stp s t) i (i + 1 + j))) ?_ (fun _ _ => trivial) ?_ ?_ ?_ hD
        · omega
        · exact fun j x H' _ _ _ Q q => q _ (Same.refl _)
        · rintro j x H' hj rfl e _ Q q
          refine ⟨_, rfl, _, rfl, _, rfl, _, rfl, _, rfl, _, rfl, v, p, s, stp s t, n, i, i + 1 + j, ?_, (hv.mono (e4.trans e).tups), hs, e _ _ hp4, lst, by omega, by omega, line3, fun T hT => ?_⟩
          · rw [show (0 : Int) + (i : Int) = ((i : Nat) : Int) by omega, show ((i : Int) + 1 + (j : Nat)) = ((i + 1 + j : Nat) : Int) by omega]
            rfl
          · refine q _ _ (Same.new hT) (TD.mk upd_same (.cons ?_ (.cons ?_ (.cons (.int _) .nil))))
            · rw [show (0 : Int) + (i : Int) = ((i : Nat) : Int) by omega]
              exact .int _
            · rw [show ((0 : Int) + (i : Int) + 1 + (j : Nat)) = ((i + 1 + j : Nat) : Int) by omega]
              exact .int _
        intro zs H5 e5 h5 t5
        rw [pick_all (fun _ _ => rfl)] at t5
        have lzs : zs.length ≤ n := by rw [t5.1, List.length_map, List.length_range]; omega
        refine ⟨f, D, _, _, rfl, rfl, e5 _ _ hf4, h5, by omega, ?_⟩
        refine ⟨(e4.trans e5).mut hHf, (upd_ne hpf).trans (e5 _ _ hp4), ys ++ zs, _, _, _, upd_same, ?_, rfl⟩
        have tu : Tups H5 (upd H5 f (.lst (ys ++ zs))) := Kp.upd.tups (e5 _ _ hf4)
        have e6 : (crsN s (stp s t) (i + 1)).map tr3 = (crsN s (stp s t) i).map tr3 ++ (List.range (n - (i + 1))).map (fun j => tr3 ((i : Int), ((i + 1 + j : Nat) : Int), mtg s (stp s t) i (i + 1 + j))) := by
          show (crsN s (stp s t) i ++ _).map tr3 = _
          rw [List.map_append, List.map_map, lst]
          rfl
        rw [e6]
        exact ((ty.mono e5.tups).mono tu).append (t5.mono tu)
      · rintro σ H4 ⟨e4, hp4, ys, y4, y5, y6, hf4, ty, rfl⟩
        have lys : ys.length = (crsN s (stp s t) n).length := by rw [ty.1, List.length_map]
        have lnn : n * n ≤ 16 * 16 := Nat.mul_le_mul np np
        have lcr : (crsN s (stp s t) n).length ≤ n * n := by
          have a := crsN_len s (stp s t) n
          rw [lst] at a
          exact a
        refine ⟨_, rfl, f, rfl, ⟨_, SqL.of hf4⟩, fun D hD => ?_⟩
        refine lc_trip (sng_list (xs := ys)) (fun i => decide (((crsN s (stp s t) n).getD i (0, 0, 0)).2.2 > 0)) (fun i => tr3 ((crsN s (stp s t) n).getD i (0, 0, 0)))
          (fun i u v w => u = .int ((crsN s (stp s t) n).getD i (0, 0, 0)).1 ∧ v = .int ((crsN s (stp s t) n).getD i (0, 0, 0)).2.1 ∧ w = .int ((crsN s (stp s t) n).getD i (0, 0, 0)).2.2) ?_ ?_ ?_ ?_ ?_ ?_ hD
        · omega
        · exact fun H' e => SqL.of (e _ _ hf4)
        · rintro i x H' hi hx e
          obtain ⟨pr, hp⟩ := get_lt (xs := crsN s (stp s t) n) (i := i) (by omega)
          have hpd : ((crsN s (stp s t) n).map tr3)[i]? = some (tr3 pr) := by rw [List.getElem?_map, hp]; rfl
          obtain ⟨T, zs, rfl, hT, hz⟩ := TD.un ((ty.2 i x _ hx hpd).mono e.tups)
          have hl2 := hz.1
          match zs, hl2 with
          | [u, v, w], _ =>
            refine ⟨T, u, v, w, rfl, hT, ?_⟩
            rw [getD_of hp]
            exact ⟨hz.head.i, hz.tail.head.i, hz.tail.tail.head.i⟩
        · rintro i x y z H' hi ⟨rfl, rfl, rfl⟩ e Q q
          exact ⟨_, rfl, _, _, rfl, rfl, _, rfl, q _ (Same.refl _)⟩
        · rintro i x y z H' hi ⟨rfl, rfl, rfl⟩ e _ Q q
          exact ⟨_, rfl, _, rfl, _, rfl, line3, fun T hT => q _ _ (Same.new hT) (TD.mk upd_same (.cons (.int _) (.cons (.int _) (.cons (.int _) .nil))))⟩
        intro zs H5 e5 h5 t5
        rw [lys, pick_list (l := crsN s (stp s t) n) (d0 := (0, 0, 0)) (fun p => decide (p.2.2 > 0)) tr3] at t5
        refine h _ _ _ (e4.none hD) (e4.trans e5) h5 ?_
        rw [lst]
        exact t5
theorem sc_distance : FnScope ["one", "other", "left", "right", "many"] ["one", "other"] (defScope s_distance) := ⟨rfl, rfl, rfl, by decide +kernel, rfl, by decide +kernel, by decide +kernel⟩
theorem ok_distance (T : Tx K mg) (Z : Ex K) : FnOk P w K mg base (L2.CX P w) 8 (He.ga K "distance") (fdOf K (He.ga K "distance")) ["one", "other"] (spDist K) := by
  refine T.F_distance.ok sc_distance (fun vs H Q E h => ?_) (fun cdv A outer s H vs Q E hr h => ?_)
  · obtain ⟨v, u, s, t, n, m, rfl, _⟩ := h
    rfl
  · obtain ⟨v, u, s, t, n, m, rfl, hv, hu, hs, ht, h⟩ := h
    refine ⟨_, (pss_one (ps_ret (pe_callB (cr_sum rfl) rfl T.b_sum bt_sum (pa_cons (pe_lc (own := [("left", 2), ("right", 3), ("many", 4)]) (g := gTup K 3 (gCons (gName 2) (gCons (gName 3) (gCons (gName 4) gNil)))) rfl sc_distance.nd (pi_list (pe_call (ok_crossings T Z) (hr.mono (by decide)) rfl T.g_crossings T.F_crossings.kp T.b_f_crossings .nil (passes_call (takes_of rfl rfl rfl rfl) fun _ _ _ _ h => h) (pa_cons (pv 0) (pa_cons (pv 1) pa_nil)))) (blkOk_by (own := [("left", 2), ("right", 3), ("many", 4)]) (N := ["one", "other", "left", "right", "many"]) (by kernel_rfl)) (fun _ _ _ _ _ => (pg_tup rfl (pgs_cons (pg_name (i := 2) sc_distance.nd rfl (Or.inl rfl)) (pgs_cons (pg_name (i := 3) sc_distance.nd rfl (Or.inl rfl)) (pgs_cons (pg_name (i := 4) sc_distance.nd rfl (Or.inl rfl)) pgs_nil))))) (fun _ _ _ _ _ => pts_nil) (fun _ _ _ _ _ => (pv 4))) pa_nil)))), ?_⟩
    refine ⟨_, rfl, _, rfl, v, u, s, t, n, m, rfl, hv, hu, hs, ht, ?_⟩
    unfold distq at h
    cases hld : leadq s t with
    | error er =>
      rw [hld] at h
      exact h
    | ok un =>
      rw [hld] at h
      intro p ys H1 hp e1 h1 t1
      have lst : (stp s t).length = n := by rw [stp_len, hs.l2]
      have np := hs.top
      have lnn : n * n ≤ 16 * 16 := Nat.mul_le_mul np np
      have hds : dst s t = (((crsN s (stp s t) (stp s t).length).filter fun p => decide (p.2.2 > 0)).map fun p => p.2.2).sum := rfl
      have lys : ys.length = ((crsN s (stp s t) (stp s t).length).filter fun p => decide (p.2.2 > 0)).length := by rw [t1.1, List.length_map]
      have lcr : ((crsN s (stp s t) (stp s t).length).filter fun p => decide (p.2.2 > 0)).length ≤ n * n := by
        have a := crsN_len s (stp s t) (stp s t).length
        rw [lst] at a
        rw [lst]
        exact Nat.le_trans (List.length_filter_le _ _) a
      generalize hL : (crsN s (stp s t) (stp s t).length).filter (fun p => decide (p.2.2 > 0)) = L at *
      refine ⟨p, rfl, ⟨_, SqL.of h1⟩, fun D hD => ?_⟩
      refine lc_trip (sng_list (xs := ys)) (fun _ => true) (fun i => .int (L.getD i (0, 0, 0)).2.2) (fun i u v w => w = .int (L.getD i (0, 0, 0)).2.2) ?_ ?_ ?_ ?_ ?_ ?_ hD
      · omega
      · exact fun H' e => SqL.of (e _ _ h1)
      · rintro i x H' hi hx e
        obtain ⟨pr, hp⟩ := get_lt (xs := L) (i := i) (by omega)
        have hpd : (L.map tr3)[i]? = some (tr3 pr) := by rw [List.getElem?_map, hp]; rfl
        obtain ⟨T, zs, rfl, hT, hz⟩ := TD.un ((t1.2 i x _ hx hpd).mono e.tups)
        have hl2 := hz.1
        match zs, hl2 with
        | [u, v, w], _ =>
          refine ⟨T, u, v, w, rfl, hT, ?_⟩
          rw [getD_of hp]
          exact hz.tail.tail.head.i
      · exact fun i x y z H' _ _ _ Q q => q _ (Same.refl _)
      · rintro i x y z H' hi rfl e _ Q q
        exact ⟨_, rfl, q _ _ (Same.refl _) (.int _)⟩
      intro zs H2 e2 h2 t2
      rw [lys, pick_list (l := L) (d0 := (0, 0, 0)) (fun _ => true) (fun p => .int p.2.2), List.filter_eq_self.mpr (fun _ _ => rfl)] at t2
      have t3 : TDs H2 zs ((L.map fun p => p.2.2).map .int) := by rw [List.map_map]; exact t2
      refine ⟨D, _, rfl, SqL.of (h2.trans (by rw [TDs.inv_ints t3])), ?_⟩
      rw [← hds]
      exact h _ (e1.trans e2)
end
end Tr
end
section
set_option Elab.async false
set_option linter.all false
set_option maxRecDepth 100000
set_option maxHeartbeats 4000000
/-! zip(t, l), a tuple and a list -/
namespace Tr
open PySem PySem.Spec PyProof.Rows L2 RZ
section
variable {prog : Program} {w : World} {A : Around} {E : Value → Shared → Prop} {s : Shared}
/-- zip's turn over a tuple and a list -/
theorem zipM_item {z TI TO i1 i2 l1 l2 : Addr} {k1 k2 : Nat} {xs ys : Array Value} {x y a b : Value} {Q : Value → Shared → Prop} (D : ZipApart z TI TO i1 i2 l1 l2)
    (hz : IsZ s.heap z TI TO) (hTI : IsPair s.heap TI (.ref i1) (.ref i2)) (hTO : IsPair s.heap TO a b)
    (h1 : s.heap.IsTupleIter i1 l1 k1) (h2 : s.heap.IsListIter i2 l2 k2) (hl1 : s.heap.IsTuple l1 xs) (hl2 : s.heap.IsList l2 ys) (hx : xs[k1]? = some x) (hy : ys[k2]? = some y)
    (hQ : ∀ h', IsZ h' z TI TO → (∃ a b, IsPair h' TO a b) → h'.IsTupleIter i1 l1 (k1 + 1) → h'.IsListIter i2 l2 (k2 + 1) → IsPair h' s.heap.objs.size x y → h'.objs.size = s.heap.objs.size + 1 →
      (∀ c o, c ≠ z → c ≠ TO → c ≠ i1 → c ≠ i2 → s.heap.get? c = some o → h'.get? c = some o) → Q (.ref s.heap.objs.size) { s with heap := h' }) :
    wpAny (model prog w) A (Builtin.«zip.__next__» ⟨[.ref z], []⟩) (fun fin s' => ∃ v, fin = .done (.ret v) ∧ Q v s') E s := by
  obtain ⟨old, bb, hz, ho⟩ := hz
  show wpAny _ _ (field (.ref z) 2 >>= _) _ _ _
  refine wpAny_bind (wpAny_field hz rfl (x := .bool false) rfl ?_)
  show wpAny _ _ (field (.ref z) 3 >>= _) _ _ _
  refine wpAny_bind (wpAny_field hz rfl (x := .ref TI) rfl ?_)
  refine wpAny_bind (wpAny_seqItems hTI rfl ?_)
  show wpAny _ _ (Builtin.SmallTypes.ownedTupleIsFree (.ref z) >>= _) _ _ _
  refine wpAny_bind (owned_free hz ho ?_ fun h₁ hz₁ hs₁ => ?_)
  · simp only [if_true]
    refine wpAny_bind (wpAny_rule ?_)
    refine wpAny_bind (wpAny_field hz rfl (x := .ref TO) rfl ?_)
    refine wpAny_bind (wpAny_setField_rec hz (by simp) fun h₁ hz₁ hs₁ => ?_)
    replace hz₁ : h₁.get? z = some (ZR .ellipsis bb TI TO) := hz₁
    refine wpAny_bind ?_
    simp only [List.zipIdx_cons, List.zipIdx_nil, List.forIn_cons, List.forIn_nil]
    refine wpAny_bind (wpAny_bind (wpAny_onRaise ?_))
    show wpAny _ _ (Builtin.SmallTypes.nextOf (.ref i1) >>= _) _ _ _
    refine wpAny_bind (nextOf_tuple_item (h1.extBut hs₁.extBut D.i1z) (hl1.extBut hs₁.extBut D.l1z) hx fun h₂ h1₂ hs₂ => wpAny_pure ?_)
    have hTO₂ : IsPair h₂ TO a b := hs₂.extBut _ _ D.TOi1 (hs₁.extBut _ _ D.TOz hTO)
    refine wpAny_bind (wpAny_seqItems hTO₂ rfl ?_)
    refine wpAny_bind (wpAny_updateSeq_pair hTO₂ fun h₃ hTO₃ hs₃ => ?_)
    replace hTO₃ : IsPair h₃ TO x b := hTO₃
    refine wpAny_bind (wpAny_letGo (wpAny_pure ?_))
    refine wpAny_bind (wpAny_bind (wpAny_onRaise ?_))
    show wpAny _ _ (Builtin.SmallTypes.nextOf (.ref i2) >>= _) _ _ _
    refine wpAny_bind (wpAny_nextOf_list_item (((h2.extBut hs₁.extBut D.i2z).extBut hs₂.extBut D.i12.symm).extBut hs₃.extBut D.TOi2.symm)
      (((hl2.extBut hs₁.extBut D.l2z).extBut hs₂.extBut D.l2i1).extBut hs₃.extBut D.l2TO) hy fun h₄ h2₄ hs₄ => wpAny_pure ?_)
    have hTO₄ : IsPair h₄ TO x b := hs₄.extBut _ _ D.TOi2 hTO₃
    refine wpAny_bind (wpAny_seqItems hTO₄ rfl ?_)
    refine wpAny_bind (wpAny_updateSeq_pair hTO₄ fun h₅ hTO₅ hs₅ => ?_)
    replace hTO₅ : IsPair h₅ TO x y := hTO₅
    refine wpAny_bind (wpAny_letGo (wpAny_pure (wpAny_pure ?_)))
    refine wpAny_bind (wpAny_seqItems hTO₅ rfl ?_)
    refine wpAny_bind (wpAny_newTuple ?_)
    have hsz : h₅.objs.size = s.heap.objs.size := by rw [hs₅.1, hs₄.1, hs₃.1, hs₂.1, hs₁.1]
    have hz₅ : h₅.get? z = some (ZR .ellipsis bb TI TO) := hs₅.extBut _ _ D.TOz.symm (hs₄.extBut _ _ D.i2z.symm (hs₃.extBut _ _ D.TOz.symm (hs₂.extBut _ _ D.i1z.symm hz₁)))
    have hk₅ : ∀ c o, c ≠ z → c ≠ TO → c ≠ i1 → c ≠ i2 → s.heap.get? c = some o → h₅.get? c = some o := fun c o c1 c2 c3 c4 e =>
      hs₅.extBut _ _ c2 (hs₄.extBut _ _ c4 (hs₃.extBut _ _ c2 (hs₂.extBut _ _ c3 (hs₁.extBut _ _ c1 e))))
    have h1₅ : h₅.IsTupleIter i1 l1 (k1 + 1) := ((h1₂.extBut hs₃.extBut D.TOi1.symm).extBut hs₄.extBut D.i12).extBut hs₅.extBut D.TOi1.symm
    have h2₅ : h₅.IsListIter i2 l2 (k2 + 1) := h2₄.extBut hs₅.extBut D.TOi2.symm
    have hzlt : z < h₅.objs.size := Heap.lt_size hz₅
    show wpAny _ _ (Builtin.SmallTypes.ownedTupleHandOut (.ref z) (.ref h₅.objs.size) >>= _) _ _ _
    refine wpAny_bind ?_
    unfold Builtin.SmallTypes.ownedTupleHandOut
    have hz₆ : (h₅.push { cls := .type "tuple", data := .seq #[x, y] }).get? z = some (ZR .ellipsis bb TI TO) := Heap.get?_push_of_some _ hz₅
    refine wpAny_bind (wpAny_setField_rec hz₆ (by simp) fun h₇ hz₇ hs₇ => ?_)
    replace hz₇ : h₇.get? z = some (ZR (rawInt h₅.objs.size) bb TI TO) := hz₇
    refine wpAny_setField_rec hz₇ (by simp) fun h₈ hz₈ hs₈ => ?_
    replace hz₈ : h₈.get? z = some (ZR (rawInt h₅.objs.size) false TI TO) := hz₈
    have up : ∀ c o, c ≠ z → h₅.get? c = some o → h₈.get? c = some o := fun c o c1 e => hs₈.extBut _ _ c1 (hs₇.extBut _ _ c1 (Heap.get?_push_of_some _ e))
    have hT₈ : IsPair h₈ h₅.objs.size x y := hs₈.extBut _ _ (Nat.ne_of_gt hzlt) (hs₇.extBut _ _ (Nat.ne_of_gt hzlt) (Heap.get?_push_size _ rfl))
    have hz8 : h₈.objs.size = h₅.objs.size + 1 := by rw [hs₈.1, hs₇.1, Heap.size_push]
    rw [hsz] at hz₈ hT₈ hz8
    refine wpAny_pure ⟨_, rfl, ?_⟩
    show Q (.ref h₅.objs.size) _
    rw [hsz]
    exact hQ h₈ ⟨_, _, hz₈, .inr ⟨_, rfl⟩⟩ ⟨x, y, up _ _ D.TOz hTO₅⟩ (h1₅.at fun o e => up _ o D.i1z e) (h2₅.at fun o e => up _ o D.i2z e) hT₈ hz8 fun c o c1 c2 c3 c4 e => up c o c1 (hk₅ c o c1 c2 c3 c4 e)
  · simp only [Bool.false_eq_true, if_false]
    rw [← Array.forIn_toList]
    simp only [List.forIn_cons, List.forIn_nil]
    refine wpAny_bind ?_
    refine wpAny_bind (wpAny_bind (wpAny_holding ?_))
    show wpAny _ _ (Builtin.SmallTypes.nextOf (.ref i1) >>= _) _ _ _
    refine wpAny_bind (nextOf_tuple_item (h1.extBut hs₁.extBut D.i1z) (hl1.extBut hs₁.extBut D.l1z) hx fun h₂ h1₂ hs₂ => wpAny_pure (wpAny_pure ?_))
    refine wpAny_bind (wpAny_bind (wpAny_holding ?_))
    show wpAny _ _ (Builtin.SmallTypes.nextOf (.ref i2) >>= _) _ _ _
    refine wpAny_bind (wpAny_nextOf_list_item ((h2.extBut hs₁.extBut D.i2z).extBut hs₂.extBut D.i12.symm) ((hl2.extBut hs₁.extBut D.l2z).extBut hs₂.extBut D.l2i1) hy fun h₃ h2₃ hs₃ => wpAny_pure (wpAny_pure (wpAny_pure ?_)))
    refine wpAny_bind (wpAny_newTuple ?_ (by show 2 ≤ sizeLine; decide))
    have hsz : h₃.objs.size = s.heap.objs.size := by rw [hs₃.1, hs₂.1, hs₁.1]
    have hk₃ : ∀ c o, c ≠ z → c ≠ i1 → c ≠ i2 → s.heap.get? c = some o → h₃.get? c = some o := fun c o c1 c3 c4 e => hs₃.extBut _ _ c4 (hs₂.extBut _ _ c3 (hs₁.extBut _ _ c1 e))
    have hz₃ : h₃.get? z = some (ZR old true TI TO) := hs₃.extBut _ _ D.i2z.symm (hs₂.extBut _ _ D.i1z.symm hz₁)
    have pu : ∀ c o, h₃.get? c = some o → (h₃.push { cls := .type "tuple", data := .seq #[x, y] }).get? c = some o := fun c o e => Heap.get?_push_of_some _ e
    refine wpAny_pure ⟨_, rfl, ?_⟩
    show Q (.ref h₃.objs.size) _
    have hT : IsPair (h₃.push { cls := .type "tuple", data := .seq #[x, y] }) h₃.objs.size x y := Heap.get?_push_size _ rfl
    rw [hsz] at hT ⊢
    exact hQ (h₃.push { cls := .type "tuple", data := .seq #[x, y] }) ⟨_, _, pu _ _ hz₃, ho⟩ ⟨a, b, pu _ _ (hk₃ _ _ D.TOz D.TOi1 D.TOi2 hTO)⟩ ((h1₂.extBut hs₃.extBut D.i12).at fun o e => pu _ o e) (h2₃.at fun o e => pu _ o e) hT (by rw [Heap.size_push, hsz]) fun c o c1 c2 c3 c4 e => pu _ _ (hk₃ c o c1 c3 c4 e)
theorem letGo_zipZ {elts : List Expr} {kk : Nat} {tpos : Pos} {z TI TO T : Addr} {Q : Unit → Shared → Prop} (hz : IsZ s.heap z TI TO) (h : ∀ h', IsZ h' z TI TO → Heap.SameBut z s.heap h' → Q () { s with heap := h' }) :
    wpAny (model prog w) A (letOwnedTupleGo (.Tuple elts kk tpos) (.ref z) (.ref T)) Q E s := by
  obtain ⟨old, b, hz, ho⟩ := hz
  unfold letOwnedTupleGo
  refine wpAny_bind (wpAny_load hz ?_)
  dsimp only
  split
  · refine wpAny_bind (wpAny_rule ?_)
    refine wpAny_setField_rec hz (by simp) fun h₁ hz₁ hs₁ => ?_
    exact h h₁ ⟨_, _, hz₁, .inl rfl⟩ hs₁
  · exact wpAny_pure (h s.heap ⟨old, b, hz, ho⟩ ⟨rfl, fun _ _ => rfl⟩)
theorem zipM_end {z TI TO i1 i2 l1 l2 : Addr} {k1 : Nat} {xs : Array Value} {a b : Value} {Q : Fin → Shared → Prop} (hh : A.handled = none) (D : ZipApart z TI TO i1 i2 l1 l2)
    (hz : IsZ s.heap z TI TO) (hTI : IsPair s.heap TI (.ref i1) (.ref i2)) (hTO : IsPair s.heap TO a b)
    (h1 : s.heap.IsTupleIter i1 l1 k1) (hl1 : s.heap.IsTuple l1 xs) (hx : xs[k1]? = none)
    (hE : ∀ h' e, (∀ c o, c ≠ z → c ≠ TO → c ≠ i1 → c ≠ i2 → s.heap.get? c = some o → h'.get? c = some o) → (∃ o, h'.get? e = some o ∧ o.cls = .type "StopIteration") → E (.ref e) { s with heap := h' }) :
    wpAny (model prog w) A (Builtin.«zip.__next__» ⟨[.ref z], []⟩) Q E s := zipZ_end hh D hz hTI hTO h1 hl1 hx hE
theorem isZ_ty {z TI TO : Addr} (hz : IsZ s.heap z TI TO) : s.TypeIs (.ref z) "zip" := by
  obtain ⟨o, b, q, _⟩ := hz
  exact ⟨_, q, rfl⟩
theorem pyIter_zipZ {z TI TO : Addr} {Q : Value → Shared → Prop} (hz : IsZ s.heap z TI TO) (h : Q (.ref z) s) : wpAny (model prog w) A (pyIter (.ref z)) Q E s := by
  have hT := isZ_ty hz
  refine wpAny_pyIter_slot hT F.slot_zip_iter (wpAny_call_entry F.slot_zip_iter hT F.entry_zip_iter ?_ (F.args_zip_iter_1 _))
  show wpAny _ _ (ret (.ref z)) _ _ s
  exact wpAny_pure ⟨_, rfl, "zip", _, hT, F.slot_zip_next.lookup, h⟩
theorem pyNext_zipM_item {z TI TO i1 i2 l1 l2 : Addr} {k1 k2 : Nat} {xs ys : Array Value} {x y a b : Value} {Q : Option Value → Shared → Prop} (D : ZipApart z TI TO i1 i2 l1 l2)
    (hz : IsZ s.heap z TI TO) (hTI : IsPair s.heap TI (.ref i1) (.ref i2)) (hTO : IsPair s.heap TO a b)
    (h1 : s.heap.IsTupleIter i1 l1 k1) (h2 : s.heap.IsListIter i2 l2 k2) (hl1 : s.heap.IsTuple l1 xs) (hl2 : s.heap.IsList l2 ys) (hx : xs[k1]? = some x) (hy : ys[k2]? = some y)
    (hQ : ∀ h', IsZ h' z TI TO → (∃ a b, IsPair h' TO a b) → h'.IsTupleIter i1 l1 (k1 + 1) → h'.IsListIter i2 l2 (k2 + 1) → IsPair h' s.heap.objs.size x y → h'.objs.size = s.heap.objs.size + 1 →
      (∀ c o, c ≠ z → c ≠ TO → c ≠ i1 → c ≠ i2 → s.heap.get? c = some o → h'.get? c = some o) → Q (some (.ref s.heap.objs.size)) { s with heap := h' }) :
    wpAny (model prog w) A (pyNext (.ref z)) Q E s := by
  have hT := isZ_ty hz
  unfold pyNext
  exact wpAny_bind (wpAny_attempt (wpAny_callSpecial?_slot (name := Str.ofString "__next__") hT F.slot_zip_next
    (wpAny_call_entry F.slot_zip_next hT F.entry_zip_next
      (zipM_item D hz hTI hTO h1 h2 hl1 hl2 hx hy fun h' a1 a2 a3 a4 a5 a6 a7 => wpAny_pure (hQ h' a1 a2 a3 a4 a5 a6 a7)) (F.args_zip_next_1 _))))
theorem pyNext_zipM_end {z TI TO i1 i2 l1 l2 : Addr} {k1 : Nat} {xs : Array Value} {a b : Value} {Q : Option Value → Shared → Prop} (hh : A.handled = none) (D : ZipApart z TI TO i1 i2 l1 l2)
    (hz : IsZ s.heap z TI TO) (hTI : IsPair s.heap TI (.ref i1) (.ref i2)) (hTO : IsPair s.heap TO a b)
    (h1 : s.heap.IsTupleIter i1 l1 k1) (hl1 : s.heap.IsTuple l1 xs) (hx : xs[k1]? = none)
    (hQ : ∀ h', (∀ c o, c ≠ z → c ≠ TO → c ≠ i1 → c ≠ i2 → s.heap.get? c = some o → h'.get? c = some o) → Q none { s with heap := h' }) : wpAny (model prog w) A (pyNext (.ref z)) Q E s := by
  have hT := isZ_ty hz
  unfold pyNext
  refine wpAny_bind (wpAny_attempt (wpAny_callSpecial?_slot (name := Str.ofString "__next__") hT F.slot_zip_next
    (wpAny_call_entry F.slot_zip_next hT F.entry_zip_next (zipZ_end hh D hz hTI hTO h1 hl1 hx fun h' e hk he => ?_) (F.args_zip_next_1 _))))
  obtain ⟨o, ho, hc⟩ := he
  refine wpAny_bind (wpAny_isInstance (T := "StopIteration") (b := true) ⟨o, ho, hc⟩ isSubtype_stop ?_)
  exact wpAny_pure (hQ _ hk)
end
/-- the tuple at a and the list at b, item by item in new pairs -/
def ItzM (K : PySem.W.Frag) (a b : Addr) : It :=
  ⟨fun i H => ∃ (xs ys : List V) (x y : V), SqT K H a xs ∧ SqL K H b ys ∧ xs[i]? = some x ∧ ys[i]? = some y,
    fun i H v H' => ∃ T x y, v = .ref T ∧ H T = none ∧ H' = upd H T (.tup [x, y]) ∧ (∀ xs, SqT K H a xs → xs[i]? = some x) ∧ ∀ ys, SqL K H b ys → ys[i]? = some y,
    fun i H => ∃ xs : List V, SqT K H a xs ∧ xs.length ≤ i⟩
theorem turn_zipM {P : Program} {w : World} {K : PySem.W.Frag} {elts : List Expr} {kk : Nat} {tpos : Pos} {a b z TI TO i1 i2 : Addr} (D : ZipApart z TI TO i1 i2 a b) :
    Turn P w K (.Tuple elts kk tpos) (ItzM K a b) [z, TI, TO, i1, i2] z (fun i h => IsZ h z TI TO ∧ IsPair h TI (.ref i1) (.ref i2) ∧ (∃ x y, IsPair h TO x y) ∧ h.IsTupleIter i1 a i ∧ h.IsListIter i2 b i) where
  mem := by simp
  obj := fun i h st c hc => by
    obtain ⟨⟨o0, b0, hz, _⟩, hTI, ⟨x, y, hTO⟩, ⟨o1, e1, _, d1⟩, ⟨o2, e2, _, d2⟩⟩ := st
    have e' : c = z ∨ c = TI ∨ c = TO ∨ c = i1 ∨ c = i2 := by simpa using hc
    rcases e' with q | q | q | q | q
    · rw [q]; exact ⟨_, hz, fun v q => nomatch q⟩
    · rw [q]; exact ⟨_, hTI, fun v q => nomatch q⟩
    · rw [q]; exact ⟨_, hTO, fun v q => nomatch q⟩
    · rw [q]; exact ⟨o1, e1, fun v q => by rw [d1] at q; cases q⟩
    · rw [q]; exact ⟨o2, e2, fun v q => by rw [d2] at q; cases q⟩
  keep := fun i h h' st k => by
    obtain ⟨⟨o0, b0, hz, r⟩, hTI, ⟨x, y, hTO⟩, h1, h2⟩ := st
    exact ⟨⟨o0, b0, k z (by simp) _ hz, r⟩, k TI (by simp) _ hTI, ⟨x, y, k TO (by simp) _ hTO⟩, h1.at fun o q => k i1 (by simp) o q, h2.at fun o q => k i2 (by simp) o q⟩
  item := by
    intro X hP hw hK hc i pins s σ H E I hf st hg
    subst hP hw hK
    obtain ⟨hz, hTI, ⟨x0, y0, hTO⟩, h1, h2⟩ := st
    obtain ⟨xs, ys, x, y, hqx, hqy, hx, hy⟩ := hg
    obtain ⟨its, rv, p, _⟩ := I.tuple hqx
    obtain ⟨its2, rv2, p2, _⟩ := I.list hqy
    obtain ⟨u, hu, ru⟩ := rv.get hx
    obtain ⟨u2, hu2, ru2⟩ := rv2.get hy
    have hzl : z < s.heap.objs.size := by obtain ⟨_, _, q, _⟩ := hz; exact Heap.lt_size q
    refine pyNext_zipM_item D hz hTI hTO h1 h2 p p2.isList (x := u) (y := u2) (by simpa using hu) (by simpa using hu2) fun h' z' TO' h1' h2' hT hsz hk => ?_
    refine ⟨_, rfl, letGo_zipZ (s := { s with heap := h' }) z' fun h'' z'' sb => ?_⟩
    replace sb : Heap.SameBut z h' h'' := sb
    have hT2 : h''.get? s.heap.objs.size = some { cls := .type "tuple", data := .seq #[u, u2] } := (sb.2 _ (Nat.ne_of_gt hzl)).trans hT
    have new : ObjOk X.prog X.w (upd H s.heap.objs.size (.tup [x, y])) h'' s.heap.objs.size (.tup [x, y]) :=
      ⟨by show 2 ≤ sizeLine; decide, [u, u2], .cons ru (.cons ru2 .nil), ⟨_, hT2, rfl, _, rfl⟩⟩
    have I1 : Inv X pins σ (upd H s.heap.objs.size (.tup [x, y])) { s with heap := h'' } :=
      I.turnedNew (t' := s.toks) (ch := [z, TI, TO, i1, i2]) (fun c o hb q => (sb.2 c (fun q' => hb (by simp [q']))).trans (hk c o (fun q' => hb (by simp [q'])) (fun q' => hb (by simp [q'])) (fun q' => hb (by simp [q'])) (fun q' => hb (by simp [q'])) q)) hf (Nat.le_refl _) new
    refine ⟨.ref s.heap.objs.size, _, I1, rfl, ⟨_, x, y, rfl, I.hok.fresh (Nat.le_refl _), rfl, fun l hl => by rw [I.tuple_inj hl hqx]; exact hx, fun l hl => by rw [I.list_inj hl hqy]; exact hy⟩, ⟨z'', ?_, ?_, ?_, ?_⟩, fun c hcm => ?_⟩
    · exact (sb.2 _ D.TIz).trans (hk _ _ D.TIz D.TITO D.TIi1 D.TIi2 hTI)
    · obtain ⟨x', y', q⟩ := TO'
      exact ⟨x', y', (sb.2 _ D.TOz).trans q⟩
    · exact h1'.at fun o q => (sb.2 _ D.i1z).trans q
    · exact h2'.at fun o q => (sb.2 _ D.i2z).trans q
    · have hlt : c < s.heap.objs.size := by
        have e' : c = z ∨ c = TI ∨ c = TO ∨ c = i1 ∨ c = i2 := by simpa using hcm
        rcases e' with q | q | q | q | q
        · rw [q]; exact hzl
        · rw [q]; exact Heap.lt_size hTI
        · rw [q]; exact Heap.lt_size hTO
        · rw [q]; obtain ⟨_, e1, _⟩ := h1; exact Heap.lt_size e1
        · rw [q]; obtain ⟨_, e2, _⟩ := h2; exact Heap.lt_size e2
      rw [upd_ne (Nat.ne_of_lt hlt)]
      exact (hf c hcm).1
  done := by
    intro X hP hw hK hc i pins s σ H E I hf st hg
    subst hP hw hK
    obtain ⟨hz, hTI, ⟨x0, y0, hTO⟩, h1, h2⟩ := st
    obtain ⟨xs, hqx, hend⟩ := hg
    obtain ⟨its, rv, p, _⟩ := I.tuple hqx
    have l1 := rv.length
    have he : its.toArray[i]? = none := by simp; omega
    exact pyNext_zipM_end (I.ok.hd hc) D hz hTI hTO h1 p he fun h' hk => ⟨rfl, I.turnedL (t' := s.toks) (ch := [z, TI, TO, i1, i2]) (fun c o hb q =>
      hk c o (fun q' => hb (by simp [q'])) (fun q' => hb (by simp [q'])) (fun q' => hb (by simp [q'])) (fun q' => hb (by simp [q'])) q) hf⟩
  self := fun A i s Q E st h => pyIter_zipZ st.1 h
def iZipM (K : PySem.W.Frag) (ta : TA) : TI := fun σ H R => ta σ H fun vs H1 => ∃ a b xs ys, vs = [.ref a, .ref b] ∧ SqT K H1 a xs ∧ SqL K H1 b ys ∧ R (ItzM K a b) H1
theorem pi_zipM {X : Cx} {e e2 : Expr} {ta : TA} {p pos tpos : Pos} {elts : List Expr} {kk : Nat} (hg : Gl X "zip") (hm : X.mg "zip" = none) (ha : PA X [e, e2] ta)
    (hs : starEach [e, e2] X.env = (false, eval e X.env) :: starEach [e2] X.env := by rfl) (hpl : (backTo pos (starEach [e2] X.env)).any (·.1) = false := by rfl) :
    PI X (.Tuple elts kk tpos) (.Call (.Name "zip" p) [e, e2] [] pos) (iZipM X.K ta) := by
  refine ⟨fun pins s σ H R I h => ?_⟩
  refine Call_ (ld_blt I hg hm PyProof.Rows.boot_zip (PyProof.Rows.callWith_type1 (thn (ha.run pos pins s σ H _ I h) fun us s1 ⟨vs, H1, I1, r1, q1⟩ => ?_) hs hpl))
  obtain ⟨a, b, xs, ys, ex, hqx, hqy, q⟩ := q1
  subst ex
  cases r1 with
  | cons r rr =>
    cases rr with
    | cons r' rr =>
      cases rr
      cases r
      cases r'
      obtain ⟨its, rv, p1, _⟩ := I1.tuple hqx
      obtain ⟨its2, rv2, p2, _⟩ := I1.list hqy
      obtain ⟨o1, ho1, _⟩ := id p1
      refine zip_begins2 (begins_tuple a its.toArray) (begins_list b its2.toArray) p1 p2.isList fun h' hz hTI hTO h1 h2 hsz hk => wpAny_pyIter_zip hz ?_
      have I2 : Inv X pins σ H1 { s1 with heap := h' } := I1.kept (t' := s1.toks) hk
      refine ⟨s1.heap.objs.size + 4, [s1.heap.objs.size + 4, s1.heap.objs.size + 2, s1.heap.objs.size + 3, s1.heap.objs.size, s1.heap.objs.size + 1], _, _, H1, rfl, I2, turn_zipM (PySem.W.ktu_apart s1.heap.objs.size a b (Heap.lt_size ho1) p2.lt), ⟨⟨.none, false, hz, .inl rfl⟩, hTI, ⟨_, _, hTO⟩, ⟨_, h1, rfl, rfl⟩, ⟨_, h2, rfl, rfl⟩⟩, fun c hcm => ?_, q⟩
      have e' : c = s1.heap.objs.size + 4 ∨ c = s1.heap.objs.size + 2 ∨ c = s1.heap.objs.size + 3 ∨ c = s1.heap.objs.size ∨ c = s1.heap.objs.size + 1 := by simpa using hcm
      have hle : s1.heap.objs.size ≤ c := by
        rcases e' with z | z | z | z | z
        · rw [z]; exact Nat.le_add_right _ _
        · rw [z]; exact Nat.le_add_right _ _
        · rw [z]; exact Nat.le_add_right _ _
        · rw [z]; exact Nat.le_refl _
        · rw [z]; exact Nat.le_add_right _ _
      exact I1.fpOk hle (I1.hok.fresh hle)
theorem prs_zipM {K : PySem.W.Frag} {a b : Addr} {xs ys : List V} (hl : xs.length = ys.length) : Prs (ItzM K a b) xs.length (fun i x y => xs[i]? = some x ∧ ys[i]? = some y) (fun H => SqT K H a xs ∧ SqL K H b ys) where
  go := fun i H hi h => ⟨xs, ys, xs[i], ys[i]'(by omega), h.1, h.2, List.getElem?_eq_getElem hi, List.getElem?_eq_getElem _⟩
  stop := fun H h => ⟨xs, h.1, Nat.le_refl _⟩
  yld := fun i H v H' _ h ⟨T, x, y, a, b, c, d, e⟩ => ⟨T, x, y, a, b, c, d xs h.1, e ys h.2⟩
theorem ps_dead {X : Cx} {st : Stmt} : PS X st (fun _ _ _ => False) := ⟨fun _ _ _ _ _ _ h => h.elim⟩
end Tr
end
section
set_option Elab.async false
set_option linter.all false
set_option maxRecDepth 100000
set_option maxHeartbeats 4000000
namespace Tr
open PySem PySem.Spec PyProof.Rows L2
/-! ### mirrors -/
def quX (r : List Int) (c : Int) : Int := c - r.sum + (r.length : Int) * ((r.length : Int) - 1) / 2
def quo (r : List Int) (c : Int) : Option Int := if quX r c % (r.length : Int) = 0 ∧ 0 ≤ quX r c / (r.length : Int) then some (quX r c / (r.length : Int)) else none
def quV (r : List Int) (c : Int) : V := match quo r c with
  | some i => .int i
  | none => .non
def mny (r : List Int) (c : Int) : Int := match quo r c with
  | some q => ww r q []
  | none => 0
def lot (s : S) : Int := mny (kept s) s.2.sum
def lsp (r ss : List Int) : List Int := (List.range r.length).map fun i => (r.getD i 0 - ss.getD i 0) % (ss.length : Int)
def shb (ro p sh : Int) : Int := ch (ro + p - 1) (p - 1) - ch (ro - sh + p - 1) (p - 1)
def lpw (r t sh : List Int) : List Int := (List.range t.length).map fun i => (lsp r t).getD i 0 + (t.length : Int) * sh.getD i 0
theorem lsp_len (r ss : List Int) : (lsp r ss).length = r.length := by simp [lsp]
theorem quX_sz {r : List Int} {c : Int} (hr : Szs 8 r) (hl : r.length ≤ 16) (hc : Sz 180 c) : Sz 185 (quX r c) := by
  unfold quX
  refine Sz.add (a := 182) (b := 20) (Sz.sub (a := 180) (b := 24) hc (Szs.sum hr (by omega)) (by omega) (by omega)) ?_ (by omega) (by omega)
  refine Sz.div ?_
  refine Sz.mul (a := 8) (b := 8) (Sz.bd (by omega) (by omega)) (Sz.small (by omega) (by omega)) (by omega)
theorem quo_sz {r : List Int} {c q : Int} (hr : Szs 8 r) (hl : r.length ≤ 16) (hc : Sz 180 c) (h : quo r c = some q) : Sz 190 q := by
  unfold quo at h
  split at h
  · cases h
    exact ((quX_sz hr hl hc).div).mono (by omega)
  · cases h
theorem kept_rg {n : Nat} {s : S} (h : Rg n s) {x : Int} (hx : x ∈ kept s) : 0 ≤ x ∧ x < n := by
  have l1 := h.l1
  have np := h.pos
  obtain ⟨i, _, rfl⟩ := List.mem_map.mp hx
  rw [l1]
  exact ⟨Int.emod_nonneg _ (by omega), Int.emod_lt_of_pos _ (by omega)⟩
theorem kept_sz {n : Nat} {s : S} (h : Rg n s) : Szs 8 (kept s) := fun x hx => by
  obtain ⟨a, b⟩ := kept_rg h hx
  have := h.top
  exact Sz.bd a (by omega)
/-! ### promises -/
def spQuota : Sp := fun vs H Q _ => ∃ (a : Addr) (r : List Int) (c : Int), vs = [.ref a, .int c] ∧ H a = some (.tup (r.map .int)) ∧ r.length ≤ 16 ∧ 1 ≤ r.length ∧ ∀ H', Same H H' → Q (quV r c) H'
def spMany : Sp := fun vs H Q _ => ∃ (a : Addr) (r : List Int) (c : Int), vs = [.ref a, .int c] ∧ H a = some (.tup (r.map .int)) ∧ r.length ≤ 16 ∧ 1 ≤ r.length ∧ Szs 8 r ∧ Sz 180 c ∧ ∀ H', Same H H' → Q (.int (mny r c)) H'
def spLot : Sp := fun vs H Q _ => ∃ (v : V) (s : S) (n : Nat), vs = [v] ∧ TD H v (stD s) ∧ Rg n s ∧ Sz 180 s.2.sum ∧ ∀ H', Same H H' → Q (.int (lot s)) H'
def spLeast : Sp := fun vs H Q _ => ∃ (a b : Addr) (r ss : List Int), vs = [.ref a, .ref b] ∧ H a = some (.tup (r.map .int)) ∧ H b = some (.lst (ss.map .int)) ∧ r.length ≤ 16 ∧ 1 ≤ r.length ∧ ss.length = r.length ∧ ∀ p H', H p = none → Same H H' → H' p = some (.lst ((lsp r ss).map .int)) → Q (.ref p) H'
def spShB : Sp := fun vs H Q _ => ∃ ro p sh : Int, vs = [.int ro, .int p, .int sh] ∧ 1 ≤ p ∧ p ≤ 16 ∧ Sz 190 ro ∧ Sz 190 sh ∧ Q (.int (shb ro p sh)) H
def spShAt : Sp := fun vs H Q _ => ∃ ro p nu : Int, vs = [.int ro, .int p, .int nu] ∧ 1 ≤ p ∧ p ≤ 16 ∧ Sz 190 ro ∧ ∀ r, 0 ≤ r → (r ≤ ro ∨ r = 0) → Q (.int r) H
def spShs : Sp := fun vs H Q _ => ∃ (ro : Int) (p : Nat) (nu : Int), vs = [.int ro, .int p, .int nu] ∧ 1 ≤ p ∧ p ≤ 16 ∧ Sz 190 ro ∧ ∀ l sh H', H l = none → Same H H' → H' l = some (.lst (sh.map .int)) → sh.length = p → sh.sum = ro → Szs 190 sh → Q (.ref l) H'
def spRoL : Sp := fun vs H Q _ => ∃ (a b : Addr) (r ss : List Int) (c : Int), vs = [.ref a, .int c, .ref b] ∧ H a = some (.tup (r.map .int)) ∧ H b = some (.lst (ss.map .int)) ∧ r.length ≤ 16 ∧ 1 ≤ r.length ∧ ss.length = r.length ∧ ∀ H', Same H H' → Q (.int ((c - (lsp r ss).sum) / (ss.length : Int))) H'
def spStW : Sp := fun vs H Q _ => ∃ (a b : Addr) (r t : List Int) (c nu : Int), vs = [.ref a, .int c, .ref b, .int nu] ∧ H a = some (.tup (r.map .int)) ∧ H b = some (.lst (t.map .int)) ∧ r.length ≤ 16 ∧ 1 ≤ r.length ∧ t.length = r.length ∧ Sz 180 c ∧
  ∀ sh u H', sh.length = t.length → sh.sum = (c - (lsp r t).sum) / (t.length : Int) → Same H H' → TD H' u (stD (t, lpw r t sh)) → Q u H'
theorem lsp_rg {r ss : List Int} (hp : 1 ≤ ss.length) {x : Int} (hx : x ∈ lsp r ss) : 0 ≤ x ∧ x < ss.length := by
  obtain ⟨i, _, rfl⟩ := List.mem_map.mp hx
  exact ⟨Int.emod_nonneg _ (by omega), Int.emod_lt_of_pos _ (by omega)⟩
section
variable {P : Program} {w : World} {K : PySem.W.Frag} {mg : Str → Option Value} {base : Heap}
theorem sc_quota_of : FnScope ["kept", "coins", "size", "rounds", "rest"] ["kept", "coins"] (defScope s_quota_of) := ⟨rfl, rfl, rfl, by decide +kernel, rfl, by decide +kernel, by decide +kernel⟩
theorem ok_quota_of (T : Tx K mg) : FnOk P w K mg base CX0 1 (He.ga K "quota_of") (fdOf K (He.ga K "quota_of")) ["kept", "coins"] spQuota := by
  refine T.F_quota_of.ok sc_quota_of (fun vs H Q E h => ?_) (fun cdv A outer s H vs Q E hr h => ?_)
  · obtain ⟨a, r, c, rfl, _⟩ := h
    rfl
  · obtain ⟨a, r, c, rfl, ha, hl, hl1, h⟩ := h
    refine ⟨_, PSs.nox (pss_cons (ps_set (i := 2) sc_quota_of.nd rfl (Or.inl rfl) (pe_callB call_len_seq rfl T.b_len bt_len (pa_cons (pv 0) pa_nil)))
      (pss_cons (ps_asg (pe_callB call_divmod rfl T.b_divmod bt_divmod (pa_cons (pe_op op_add (pe_op op_sub (pv 1) (pe_callB (call_sumT rfl) rfl T.b_sum bt_sum (pa_cons (pv 0) pa_nil))) (pe_op op_fdiv (pe_op op_mulW (pv 2) (pe_op op_sub (pv 2) pe_int)) pe_int)) (pa_cons (pv 2) pa_nil))) (pg_tup rfl (pgs_cons (pg_name (i := 3) sc_quota_of.nd rfl (Or.inl rfl)) (pgs_cons (pg_name (i := 4) sc_quota_of.nd rfl (Or.inl rfl)) pgs_nil))))
      (pss_one (ps_ret (pe_ifExp (PW.pt (pw_and (pt_cmpR op_eq (pv 4) pe_int (nomark _)) (pw_and1 (pt_cmpR op_ge (pv 3) pe_int (nomark _))))) (pv 3) pe_non))))), ?_⟩
    refine ⟨_, rfl, a, _, rfl, .inr (SqT.of ha), ?_⟩
    rw [List.length_map]
    refine ⟨_, rfl, _, rfl, a, _, rfl, SqT.of ha, _, _, rfl, rfl, _, rfl, _, rfl, _, _, rfl, rfl, _, _, rfl, rfl, ?_, _, _, rfl, rfl, ⟨by decide, by decide⟩, _, _, rfl, rfl, _, rfl, _, _, rfl, ⟨by omega, by omega⟩, fun p hp => gp2 upd_same ?_⟩
    · exact (Sz.bd (a := 8) (by omega) (by omega)).wide (Sz.small (by omega) (by omega)) (by omega)
    show _
    by_cases c1 : quX r c % (r.length : Int) = 0
    · refine ⟨_, rfl, rfl, _, rfl, iteD (fun _ => ?_) (fun z => (z (by rw [show (c - r.sum + (r.length : Int) * ((r.length : Int) - 1) / 2) = quX r c from rfl, c1])).elim)⟩
      by_cases c2 : 0 ≤ quX r c / (r.length : Int)
      · have e : quV r c = .int (quX r c / (r.length : Int)) := by unfold quV quo; rw [if_pos ⟨c1, c2⟩]
        rw [e] at h
        exact ⟨_, rfl, _, _, rfl, rfl, _, rfl, iteD (fun _ => ⟨_, rfl, h _ (Same.new hp)⟩) fun z => (z c2).elim⟩
      · have e : quV r c = .non := by unfold quV quo; rw [if_neg fun z => c2 z.2]
        rw [e] at h
        exact ⟨_, rfl, _, _, rfl, rfl, _, rfl, iteD (fun z => (c2 z).elim) fun _ => h _ (Same.new hp)⟩
    · have e : quV r c = .non := by unfold quV quo; rw [if_neg fun z => c1 z.1]
      rw [e] at h
      exact ⟨_, rfl, rfl, _, rfl, iteD (fun z => (c1 (V.int.inj z)).elim) fun _ => h _ (Same.new hp)⟩
theorem sc_many_with : FnScope ["residues", "total", "quota"] ["residues", "total"] (defScope s_many_with) := ⟨rfl, rfl, rfl, by decide +kernel, rfl, by decide +kernel, by decide +kernel⟩
theorem ok_many_with (T : Tx K mg) : FnOk P w K mg base CX0 5 (He.ga K "many_with") (fdOf K (He.ga K "many_with")) ["residues", "total"] spMany := by
  refine T.F_many_with.ok sc_many_with (fun vs H Q E h => ?_) (fun cdv A outer s H vs Q E hr h => ?_)
  · obtain ⟨a, r, c, rfl, _⟩ := h
    rfl
  · obtain ⟨a, r, c, rfl, ha, hl, hl1, hrs, hc, h⟩ := h
    refine ⟨_, PSs.nox (pss_cons (ps_set (i := 2) sc_many_with.nd rfl (Or.inl rfl) (pe_call (ok_quota_of T) (hr.mono (by decide)) rfl T.g_quota_of T.F_quota_of.kp T.b_f_quota_of .nil pass0 (pa_cons (pv 0) (pa_cons (pv 1) pa_nil))))
      (pss_one (ps_ret (pe_ifExp (pt_cmpR op_isN (pv 2) pe_non (nomark _)) pe_int (pe_call (ok_ways_with T) (hr.mono (by decide)) rfl T.g_ways_with T.F_ways_with.kp T.b_f_ways_with .nil pass0 (pa_cons (pv 0) (pa_cons (pv 2) (pa_cons pe_dnewK pa_nil)))))))), ?_⟩
    refine ⟨_, rfl, _, rfl, a, r, c, rfl, ha, hl, hl1, fun H1 e1 => ?_⟩
    cases hq : quo r c with
    | none =>
      have e : mny r c = 0 := by unfold mny; rw [hq]
      have ev : quV r c = .non := by unfold quV; rw [hq]
      rw [e] at h
      rw [ev]
      exact ⟨_, rfl, rfl, _, rfl, iteY (by simp) (h _ e1)⟩
    | some q =>
      have e : mny r c = ww r q [] := by unfold mny; rw [hq]
      have ev : quV r c = .int q := by unfold quV; rw [hq]
      rw [e] at h
      rw [ev]
      refine ⟨_, rfl, rfl, _, rfl, iteZ (by simp) ?_⟩
      exact ⟨_, rfl, _, rfl, fun d hd => ⟨a, d, r, q, [], rfl, kp1 (e1 _ _ ha) hd, upd_same, hl, hl1, Nat.zero_le _, quo_sz hrs hl hc hq, fun H2 e2 => h _ ((e1.trans (Same.new hd)).trans e2)⟩⟩
theorem sc_lot_many : FnScope ["state"] ["state"] (defScope s_lot_many) := ⟨rfl, rfl, rfl, by decide +kernel, rfl, by decide +kernel, by decide +kernel⟩
theorem ok_lot_many (T : Tx K mg) : FnOk P w K mg base CX0 6 (He.ga K "lot_many") (fdOf K (He.ga K "lot_many")) ["state"] spLot := by
  refine T.F_lot_many.ok sc_lot_many (fun vs H Q E h => ?_) (fun cdv A outer s H vs Q E hr h => ?_)
  · obtain ⟨v, s, n, rfl, _⟩ := h
    rfl
  · obtain ⟨v, s, n, rfl, hv, hn, hc, h⟩ := h
    refine ⟨_, PSs.nox (pss_one (ps_ret (pe_call (ok_many_with T) (hr.mono (by decide)) rfl T.g_many_with T.F_many_with.kp T.b_f_many_with .nil pass0 (pa_cons (pe_call (ok_kept_of T) (hr.mono (by decide)) rfl T.g_kept_of T.F_kept_of.kp T.b_f_kept_of .nil pass0 (pa_cons (pv 0) pa_nil)) (pa_cons (pe_call (ok_coins_of T) (hr.mono (by decide)) rfl T.g_coins_of T.F_coins_of.kp T.b_f_coins_of .nil pass0 (pa_cons (pv 0) pa_nil)) pa_nil))))), ?_⟩
    have l1 := hn.l1
    have np := hn.pos
    have nt := hn.top
    refine ⟨_, rfl, v, s, n, rfl, hv, hn, fun u H1 e1 hu => ?_⟩
    obtain ⟨a, rfl, ha⟩ := TD.ints hu
    exact ⟨_, rfl, v, s, rfl, hv.mono e1.tups, a, kept s, _, rfl, ha, by rw [kept_len]; omega, by rw [kept_len]; omega, kept_sz hn, hc, fun H2 e2 => h _ (e1.trans e2)⟩
theorem sc_least_purses : FnScope ["kept", "seats", "residue", "seat"] ["kept", "seats"] (defScope s_least_purses) := ⟨rfl, rfl, rfl, by decide +kernel, rfl, by decide +kernel, by decide +kernel⟩
theorem ok_least_purses (T : Tx K mg) : FnOk P w K mg base CX0 1 (He.ga K "least_purses") (fdOf K (He.ga K "least_purses")) ["kept", "seats"] spLeast := by
  refine T.F_least_purses.ok sc_least_purses (fun vs H Q E h => ?_) (fun cdv A outer s H vs Q E hr h => ?_)
  · obtain ⟨a, b, r, ss, rfl, _⟩ := h
    rfl
  · obtain ⟨a, b, r, ss, rfl, ha, hb, hl, hl1, hss, h⟩ := h
    refine ⟨_, PSs.nox (pss_one (ps_ret (pe_lc (own := [("residue", 2), ("seat", 3)]) (g := gTup K 2 (gCons (gName 2) (gCons (gName 3) gNil))) rfl sc_least_purses.nd (pi_zipM rfl T.b_zip (pa_cons (pv 0) (pa_cons (pv 1) pa_nil))) (blkOk_by (own := [("residue", 2), ("seat", 3)]) (N := ["kept", "seats", "residue", "seat"]) (by kernel_rfl)) (fun _ _ _ _ _ => (pg_tup rfl (pgs_cons (pg_name (i := 2) sc_least_purses.nd rfl (Or.inl rfl)) (pgs_cons (pg_name (i := 3) sc_least_purses.nd rfl (Or.inl rfl)) pgs_nil)))) (fun _ _ _ _ _ => pts_nil) (fun _ _ _ _ _ => (pe_op op_mod (pe_op op_sub (pv 2) (pv 3)) (pe_callB (call_lenK (K := K) rfl) rfl T.b_len bt_len (pa_cons (pv 1) pa_nil))))))), ?_⟩
    refine ⟨_, rfl, _, rfl, a, b, _, _, rfl, SqT.of ha, SqL.of hb, fun D hD => ?_⟩
    refine lc_prsI (prs_zipM (xs := r.map V.int) (ys := ss.map V.int) ?_) (fun _ => true) (fun i => (r.getD i 0 - ss.getD i 0) % (ss.length : Int)) ?_ ?_ ?_ ?_ ?_ hD
    · rw [List.length_map, List.length_map, hss]
    · rw [List.length_map]; omega
    · exact fun H' e => ⟨SqT.of (e _ _ ha), SqL.of (e _ _ hb)⟩
    · exact fun i x y H' _ _ _ Q q => q _ (Same.refl _)
    · rintro i x y H' hi ⟨hx, hy⟩ e _ Q q
      obtain ⟨x, rfl, hx2⟩ := int_get hx
      obtain ⟨y, rfl, hy2⟩ := int_get hy
      have q2 := q _ (Same.refl _)
      rw [getD_of hx2, getD_of hy2] at q2
      refine ⟨_, rfl, _, rfl, _, _, rfl, rfl, _, rfl, b, _, rfl, .inl (SqL.of (e _ _ hb)), _, _, rfl, rfl, ?_, ?_⟩
      · show (0 : Int) < ((List.map V.int ss).length : Nat)
        rw [List.length_map]; omega
      · rw [List.length_map]
        exact q2
    intro H1 e1 h1
    rw [pickI_tt, List.length_map] at h1
    exact h D _ hD e1 h1
theorem sc_shares_before : FnScope ["rounds", "people", "share"] ["rounds", "people", "share"] (defScope s_shares_before) := ⟨rfl, rfl, rfl, by decide +kernel, rfl, by decide +kernel, by decide +kernel⟩
theorem ok_shares_before (T : Tx K mg) : FnOk P w K mg base CX0 2 (He.ga K "shares_before") (fdOf K (He.ga K "shares_before")) ["rounds", "people", "share"] spShB := by
  refine T.F_shares_before.ok sc_shares_before (fun vs H Q E h => ?_) (fun cdv A outer s H vs Q E hr h => ?_)
  · obtain ⟨ro, p, sh, rfl, _⟩ := h
    rfl
  · obtain ⟨ro, p, sh, rfl, h1, h2, sr, ss, h⟩ := h
    refine ⟨_, PSs.nox (pss_one (ps_ret (pe_op op_sub (pe_call (ok_choose T) (hr.mono (by decide)) rfl T.g_choose T.F_choose.kp T.b_f_choose .nil pass0 (pa_cons (pe_op op_sub (pe_op op_add (pv 0) (pv 1)) pe_int) (pa_cons (pe_op op_sub (pv 1) pe_int) pa_nil))) (pe_call (ok_choose T) (hr.mono (by decide)) rfl T.g_choose T.F_choose.kp T.b_f_choose .nil pass0 (pa_cons (pe_op op_sub (pe_op op_add (pe_op op_sub (pv 0) (pv 2)) (pv 1)) pe_int) (pa_cons (pe_op op_sub (pv 1) pe_int) pa_nil)))))), ?_⟩
    have s1 : Sz 200 (ro + p - 1) := Sz.sub (a := 195) (b := 1) (Sz.add (b := 8) sr (Sz.bd (by omega) (by omega)) (by omega) (by omega)) Sz.one (by omega) (by omega)
    have s2 : Sz 200 (ro - sh + p - 1) := Sz.sub (a := 196) (b := 1) (Sz.add (a := 192) (b := 8) (Sz.sub sr ss (by omega) (by omega)) (Sz.bd (by omega) (by omega)) (by omega) (by omega)) Sz.one (by omega) (by omega)
    exact ⟨_, rfl, _, rfl, _, _, rfl, rfl, _, _, rfl, rfl, _, rfl, _, _, rfl, rfl, _, _, rfl, by omega, by omega, s1, _, rfl, _, rfl, _, _, rfl, rfl, _, rfl, _, _, rfl, rfl, _, _, rfl, rfl, _, rfl, _, _, rfl, rfl, _, _, rfl, by omega, by omega, s2, _, _, rfl, rfl, h⟩
theorem sc_share_at : FnScope ["rounds", "people", "number", "low", "high", "middle"] ["rounds", "people", "number"] (defScope s_share_at) := ⟨rfl, rfl, rfl, by decide +kernel, rfl, by decide +kernel, by decide +kernel⟩
theorem ok_share_at (T : Tx K mg) : FnOk P w K mg base CX0 3 (He.ga K "share_at") (fdOf K (He.ga K "share_at")) ["rounds", "people", "number"] spShAt := by
  refine T.F_share_at.ok sc_share_at (fun vs H Q E h => ?_) (fun cdv A outer s H vs Q E hr h => ?_)
  · obtain ⟨ro, p, nu, rfl, _⟩ := h
    rfl
  · obtain ⟨ro, p, nu, rfl, h1, h2, sr, h⟩ := h
    refine ⟨_, PSs.nox (pss_cons (ps_par (i := 3) (j := 4) rfl sc_share_at.nd rfl rfl (by decide) rfl rfl (pa_cons pe_int (pa_cons (pv 0) pa_nil)) (by rfl))
      (pss_cons (ps_while PassesOwn.never (pt_cmpR op_lt (pv 3) (pv 4) (nomark _)) (pss_cons (ps_set (i := 5) sc_share_at.nd rfl (Or.inl rfl) (pe_op op_fdiv (pe_op op_add (pe_op op_add (pv 3) (pv 4)) pe_int) pe_int))
      (pss_one (ps_if (pt_cmpR op_le (pe_call (ok_shares_before T) (hr.mono (by decide)) rfl T.g_shares_before T.F_shares_before.kp T.b_f_shares_before .nil pass0 (pa_cons (pv 0) (pa_cons (pv 1) (pa_cons (pv 5) pa_nil)))) (pv 2) (nomark _)) (pss_one (ps_set (i := 3) sc_share_at.nd rfl (Or.inl rfl) (pv 5))) (pss_one (ps_set (i := 4) sc_share_at.nd rfl (Or.inl rfl) (pe_op op_sub (pv 5) pe_int)))))))
      (pss_one (ps_ret (pv 3))))), ?_⟩
    refine ⟨_, rfl, _, _, rfl, ?_⟩
    refine while_by (fun σ H' => H' = H ∧ ∃ lo hi m, σ = [some (.int ro), some (.int p), some (.int nu), some (.int lo), some (.int hi), m] ∧ 0 ≤ lo ∧ (lo ≤ hi ∨ lo = 0) ∧ hi ≤ ro) (fun σ H' => match σ with
      | [_, _, _, some (.int lo), some (.int hi), _] => (hi - lo).toNat
      | _ => 0) ⟨rfl, 0, ro, _, rfl, Int.le_refl _, .inr rfl, Int.le_refl _⟩ ?_ ?_
    · rintro σ H' ⟨rfl, lo, hi, m, rfl, h3, h4, h5⟩
      refine ⟨_, rfl, _, rfl, _, _, rfl, rfl, _, rfl, iteD (fun c => ?_) fun c => ?_⟩
      · have m1 : (lo + hi + 1) / 2 ≤ hi := by omega
        have m2 : lo < (lo + hi + 1) / 2 := by omega
        refine ⟨_, rfl, _, rfl, _, _, rfl, rfl, _, _, rfl, rfl, _, _, rfl, rfl, ⟨by decide, by decide⟩, ?_⟩
        refine ⟨_, rfl, _, rfl, _, rfl, ro, p, _, rfl, h1, h2, sr, Sz.le sr (by omega) (by omega), _, rfl, _, _, rfl, rfl, _, rfl, iteD (fun c2 => ?_) fun c2 => ?_⟩
        · refine ⟨_, rfl, ⟨rfl, _, hi, _, rfl, by omega, .inl m1, h5⟩, ?_⟩
          show (hi - (lo + hi + 1) / 2).toNat < (hi - lo).toNat
          omega
        · refine ⟨_, rfl, _, _, rfl, rfl, ⟨rfl, lo, _, _, rfl, h3, .inl ?_, ?_⟩, ?_⟩
          · omega
          · omega
          · show ((lo + hi + 1) / 2 - 1 - lo).toNat < (hi - lo).toNat
            omega
      · refine ⟨_, rfl, h lo h3 ?_⟩
        omega
    · rintro σ H' Q1 Q2 hm ⟨x, e1, y, e2, i, j, e3, e4, k, e5, q⟩
      exact ⟨x, e1, y, e2, i, j, e3, e4, k, e5, hm _ _ q⟩
end
end Tr
end
section
set_option Elab.async false
set_option linter.all false
set_option maxRecDepth 100000
set_option maxHeartbeats 4000000
namespace Tr
open PySem PySem.Spec PyProof.Rows L2
theorem sum_app (l m : List Int) : (l ++ m).sum = l.sum + m.sum := by
  induction l with
  | nil => simp
  | cons a l ih => simp only [List.cons_append, List.sum_cons, ih]; omega
theorem Sz.wd {a : Nat} {x y : Int} (h : Sz a y) (h1 : (0 ≤ x ∧ x ≤ y) ∨ x = 0 ∨ x = y) : Sz a x := by
  rcases h1 with ⟨a1, a2⟩ | rfl | rfl
  · exact Sz.le h a1 a2
  · exact Sz.zero
  · exact h
/-- seats taken, no two the same -/
def VS (n : Nat) (t : List Int) : Prop := t.Nodup ∧ ∀ x, x ∈ t → 0 ≤ x ∧ x < n
theorem frees_mem {n : Nat} {t : List Int} {x : Int} (h : x ∈ frees n t) : 0 ≤ x ∧ x < n ∧ x ∉ t := by
  obtain ⟨i, hi, rfl⟩ := List.mem_map.mp h
  obtain ⟨h1, h2⟩ := List.mem_filter.mp hi
  have h3 := List.mem_range.mp h1
  exact ⟨by omega, by omega, by simpa using h2⟩
theorem VS.snoc {n : Nat} {t : List Int} {x : Int} (h : VS n t) (hx : x ∈ frees n t) : VS n (t ++ [x]) := by
  obtain ⟨a, b, c⟩ := frees_mem hx
  refine ⟨List.nodup_append.mpr ⟨h.1, by simp, ?_⟩, fun y hy => ?_⟩
  · intro y hy z hz e
    rw [List.mem_singleton.mp hz] at e
    rw [e] at hy
    exact c hy
  · rcases List.mem_append.mp hy with hy | hy
    · exact h.2 y hy
    · rw [List.mem_singleton.mp hy]
      exact ⟨a, b⟩
def spStAt : Sp := fun vs H Q _ => ∃ (v : V) (s : S) (n : Nat) (q nu : Int), vs = [v, .int nu] ∧ TD H v (stD s) ∧ Rg n s ∧ quo (kept s) s.2.sum = some q ∧ Sz 180 s.2.sum ∧ 0 ≤ nu ∧ nu < ww (kept s) q [] ∧
  (∀ t, VS n t → t.length < n → ww (kept s) q t = ((frees n t).map fun x => ww (kept s) q (t ++ [x])).sum) ∧
  ∀ t sh u H', VS n t → t.length = n → sh.length = n → sh.sum = (s.2.sum - (lsp (kept s) t).sum) / (n : Int) → Same H H' → TD H' u (stD (t, lpw (kept s) t sh)) → Q u H'
section
variable {P : Program} {w : World} {K : PySem.W.Frag} {mg : Str → Option Value} {base : Heap}
theorem sc_shares_at : FnScope ["rounds", "people", "number", "found", "left", "rest", "others"] ["rounds", "people", "number"] (defScope s_shares_at) := ⟨rfl, rfl, rfl, by decide +kernel, rfl, by decide +kernel, by decide +kernel⟩
theorem ok_shares_at (T : Tx K mg) : FnOk P w K mg base CX0 4 (He.ga K "shares_at") (fdOf K (He.ga K "shares_at")) ["rounds", "people", "number"] spShs := by
  refine T.F_shares_at.ok sc_shares_at (fun vs H Q E h => ?_) (fun cdv A outer s H vs Q E hr h => ?_)
  · obtain ⟨ro, p, nu, rfl, _⟩ := h
    rfl
  · obtain ⟨ro, p, nu, rfl, h1, h2, sr, h⟩ := h
    refine ⟨_, PSs.nox (pss_cons (ps_par3 (i := 3) (j := 4) (l := 5) rfl sc_shares_at.nd rfl rfl rfl (by decide) (by decide) (by decide) rfl rfl rfl (pa_cons (pe_lst pa_nil) (pa_cons (pv 0) (pa_cons (pv 2) pa_nil))) (by rfl))
      (pss_cons (ps_for PassesOwn.never rfl (pi_range3 rfl T.b_range (pa_cons (pv 1) (pa_cons pe_int (pa_cons (pe_un un_neg pe_int) pa_nil)))) (pg_name (i := 6) sc_shares_at.nd rfl (Or.inl rfl))
        (pss_cons (ps_expr (pe_bm PySem.F.plainAttrs_list PySem.F.slot_list_append PySem.F.type_list_append mt_append (pv 3) (pa_cons (pe_call (ok_share_at T) (hr.mono (by decide)) rfl T.g_share_at T.F_share_at.kp T.b_f_share_at .nil pass0 (pa_cons (pv 4) (pa_cons (pv 6) (pa_cons (pv 5) pa_nil)))) pa_nil)))
      (pss_cons (ps_aug (i := 5) sc_shares_at.nd rfl (Or.inl rfl) (pe_call (ok_shares_before T) (hr.mono (by decide)) rfl T.g_shares_before T.F_shares_before.kp T.b_f_shares_before .nil pass0 (pa_cons (pv 4) (pa_cons (pv 6) (pa_cons (pe_ix ix_list (pv 3) (pe_un un_neg pe_int) (fun _ _ => rfl)) pa_nil)))) ip_sub)
      (pss_one (ps_aug (i := 4) sc_shares_at.nd rfl (Or.inl rfl) (pe_ix ix_list (pv 3) (pe_un un_neg pe_int) (fun _ _ => rfl)) ip_sub)))))
      (pss_one (ps_ret (pe_op op_cat (pv 3) (pe_lst (pa_cons (pv 4) pa_nil))))))), ?_⟩
    have ez := sizeLine_eq
    refine ⟨line0, fun l hl => ⟨_, rfl, _, rfl, _, _, _, rfl, ?_⟩⟩
    refine ⟨_, rfl, _, rfl, _, _, (-1), (p - 1), rfl, ?_, ?_⟩
    · have := RgC.neg (i := (p : Int)) (j := 1) (by omega) (by omega) (by decide) (by decide)
      have e : ((p : Int) - 1).toNat = p - 1 := by omega
      rw [e] at this
      exact this
    refine for_sng sng_rangeC (fun i σ H' => Same H H' ∧ ∃ sh left rest y, H' l = some (.lst (sh.map V.int)) ∧ sh.length = i ∧ sh.sum + left = ro ∧ Szs 190 sh ∧ ((0 ≤ left ∧ left ≤ ro) ∨ left = 0 ∨ left = ro) ∧ σ = [some (.int ro), some (.int p), some (.int nu), some (.ref l), some (.int left), some (.int rest), y])
      ⟨Same.new hl, [], ro, nu, _, upd_same, rfl, by simp, Szs.nil, .inr (.inr rfl), rfl⟩ (fun _ _ _ _ _ => trivial) ?_ ?_
    · rintro i x σ H1 hi rfl ⟨e1, sh, left, rest, y, h3, h4, h5, h6, h7, rfl⟩
      have sl : Sz 190 left := sr.wd h7
      refine ⟨_, rfl, .inl ⟨rfl, _, SqL.of h3⟩, ?_⟩
      refine ⟨_, rfl, _, rfl, _, rfl, left, _, rest, rfl, by omega, by omega, sl, fun r r0 r1 => ?_⟩
      have sr2 : Sz 190 r := sl.wd (r1.elim (fun q => .inl ⟨r0, q⟩) fun q => .inr (.inl q))
      refine ⟨l, _, _, rfl, rfl, h3, by rw [List.length_map]; omega, ?_⟩
      have eL : sh.map V.int ++ [V.int r] = (sh ++ [r]).map V.int := by rw [List.map_append]; rfl
      rw [eL]
      have at1 : atI ((sh ++ [r]).map V.int) (-1) = some (V.int r) := by rw [← eL]; exact atI_last _ _
      refine ⟨_, rfl, _, rfl, _, rfl, _, rfl, _, rfl, l, _, _, _, rfl, rfl, SqL.of upd_same, at1, left, _, r, rfl, by omega, by omega, sl, sr2, _, _, rfl, rfl, ?_⟩
      refine ⟨_, rfl, _, rfl, _, rfl, l, _, _, _, rfl, rfl, SqL.of upd_same, at1, _, _, rfl, rfl, ?_⟩
      refine ⟨e1.mut hl, sh ++ [r], left - r, _, _, upd_same, by rw [List.length_append, h4]; rfl, ?_, h6.app (Szs.one sr2), ?_, rfl⟩
      · rw [sum_app]
        simp only [List.sum_cons, List.sum_nil]
        omega
      · omega
    · rintro σ H1 ⟨e1, sh, left, rest, y, h3, h4, h5, h6, h7, rfl⟩
      refine ⟨_, rfl, _, rfl, line1, fun q hq => ⟨l, q, _, _, rfl, rfl, kp1 h3 hq, upd_same, by rw [List.length_map]; show sh.length + 1 ≤ sizeLine; omega, fun z hz => ?_⟩⟩
      have eL : sh.map V.int ++ [V.int left] = (sh ++ [left]).map V.int := by rw [List.map_append]; rfl
      rw [eL]
      refine h z (sh ++ [left]) _ ((e1.trans (Same.new hq)).none hz) ((e1.trans (Same.new hq)).trans (Same.new hz)) upd_same ?_ ?_ (h6.app (Szs.one (sr.wd h7)))
      · rw [List.length_append, h4, List.length_singleton]; omega
      · rw [sum_app]
        simp only [List.sum_cons, List.sum_nil]
        omega
theorem sc_rounds_left : FnScope ["kept", "coins", "seats"] ["kept", "coins", "seats"] (defScope s_rounds_left) := ⟨rfl, rfl, rfl, by decide +kernel, rfl, by decide +kernel, by decide +kernel⟩
theorem ok_rounds_left (T : Tx K mg) : FnOk P w K mg base CX0 2 (He.ga K "rounds_left") (fdOf K (He.ga K "rounds_left")) ["kept", "coins", "seats"] spRoL := by
  refine T.F_rounds_left.ok sc_rounds_left (fun vs H Q E h => ?_) (fun cdv A outer s H vs Q E hr h => ?_)
  · obtain ⟨a, b, r, ss, c, rfl, _⟩ := h
    rfl
  · obtain ⟨a, b, r, ss, c, rfl, ha, hb, hl, hl1, hss, h⟩ := h
    refine ⟨_, PSs.nox (pss_one (ps_ret (pe_op op_fdiv (pe_op op_sub (pv 1) (pe_callB (cr_sum rfl) rfl T.b_sum bt_sum (pa_cons (pe_call (ok_least_purses T) (hr.mono (by decide)) rfl T.g_least_purses T.F_least_purses.kp T.b_f_least_purses .nil pass0 (pa_cons (pv 0) (pa_cons (pv 2) pa_nil))) pa_nil))) (pe_callB call_len_seq rfl T.b_len bt_len (pa_cons (pv 2) pa_nil))))), ?_⟩
    refine ⟨_, rfl, _, rfl, _, rfl, a, b, r, ss, rfl, ha, hb, hl, hl1, hss, fun p H1 hp e1 h1 => ?_⟩
    refine ⟨p, _, rfl, SqL.of h1, _, _, rfl, rfl, _, rfl, b, _, rfl, .inl (SqL.of (e1 _ _ hb)), _, _, rfl, rfl, ?_, ?_⟩
    · rw [List.length_map]; exact ⟨by omega, by omega⟩
    · rw [List.length_map]; exact h _ e1
theorem sc_state_with : FnScope ["kept", "coins", "seats", "number", "least", "size", "shares", "few", "share"] ["kept", "coins", "seats", "number"] (defScope s_state_with) := ⟨rfl, rfl, rfl, by decide +kernel, rfl, by decide +kernel, by decide +kernel⟩
theorem ok_state_with (T : Tx K mg) : FnOk P w K mg base CX0 5 (He.ga K "state_with") (fdOf K (He.ga K "state_with")) ["kept", "coins", "seats", "number"] spStW := by
  refine T.F_state_with.ok sc_state_with (fun vs H Q E h => ?_) (fun cdv A outer s H vs Q E hr h => ?_)
  · obtain ⟨a, b, r, t, c, nu, rfl, _⟩ := h
    rfl
  · obtain ⟨a, b, r, t, c, nu, rfl, ha, hb, hl, hl1, ht, hc, h⟩ := h
    refine ⟨_, PSs.nox (pss_cons (ps_asg (pe_tup (pa_cons (pe_call (ok_least_purses T) (hr.mono (by decide)) rfl T.g_least_purses T.F_least_purses.kp T.b_f_least_purses .nil pass0 (pa_cons (pv 0) (pa_cons (pv 2) pa_nil))) (pa_cons (pe_callB call_len_seq rfl T.b_len bt_len (pa_cons (pv 2) pa_nil)) pa_nil))) (pg_tup rfl (pgs_cons (pg_name (i := 4) sc_state_with.nd rfl (Or.inl rfl)) (pgs_cons (pg_name (i := 5) sc_state_with.nd rfl (Or.inr rfl)) pgs_nil))))
      (pss_cons (ps_set (i := 6) sc_state_with.nd rfl (Or.inl rfl) (pe_call (ok_shares_at T) (hr.mono (by decide)) rfl T.g_shares_at T.F_shares_at.kp T.b_f_shares_at .nil pass0 (pa_cons (pe_call (ok_rounds_left T) (hr.mono (by decide)) rfl T.g_rounds_left T.F_rounds_left.kp T.b_f_rounds_left .nil pass0 (pa_cons (pv 0) (pa_cons (pv 1) (pa_cons (pv 2) pa_nil)))) (pa_cons (pv 5) (pa_cons (pv 3) pa_nil)))))
      (pss_one (ps_ret (pe_tup (pa_cons (pe_callTy call_tuple_of rfl T.b_tuple bt_tuple (pa_cons (pv 2) pa_nil)) (pa_cons (pe_callTy call_tuple_of rfl T.b_tuple bt_tuple (pa_cons (pe_lc (own := [("few", 7), ("share", 8)]) (g := gTup K 2 (gCons (gName 7) (gCons (gName 8) gNil))) rfl sc_state_with.nd (RZ.pi_zipA rfl T.b_zip (pa_cons (pv 4) (pa_cons (pv 6) pa_nil))) (blkOk_by (own := [("few", 7), ("share", 8)]) (N := ["kept", "coins", "seats", "number", "least", "size", "shares", "few", "share"]) (by kernel_rfl)) (fun _ _ _ _ _ => (pg_tup rfl (pgs_cons (pg_name (i := 7) sc_state_with.nd rfl (Or.inl rfl)) (pgs_cons (pg_name (i := 8) sc_state_with.nd rfl (Or.inl rfl)) pgs_nil)))) (fun _ _ _ _ _ => pts_nil) (fun _ _ _ _ _ => (pe_op op_add (pv 7) (pe_op op_mulW (pv 5) (pv 8))))) pa_nil)) pa_nil))))))), ?_⟩
    refine ⟨_, rfl, _, rfl, a, b, r, t, rfl, ha, hb, hl, hl1, ht, fun p H1 hp e1 h1 => ?_⟩
    refine ⟨_, rfl, b, _, rfl, .inl (SqL.of (e1 _ _ hb)), line2, fun z hz => gp2 upd_same ?_⟩
    have h2 := kp1 (u := .tup [.ref p, .int (List.map V.int t).length]) h1 hz
    have e2 : Same H (upd H1 z (.tup [.ref p, .int (List.map V.int t).length])) := e1.trans (Same.new hz)
    generalize upd H1 z (.tup [.ref p, .int (List.map V.int t).length]) = H2 at *
    rw [List.length_map]
    have np : 1 ≤ t.length := by omega
    have sR : Sz 190 ((c - (lsp r t).sum) / (t.length : Int)) := by
      refine Sz.div ?_
      refine Sz.sub (a := 180) (b := 24) (c := 190) hc (Szs.sum (b := 8) (fun x hx => ?_) ?_) (by omega) (by omega)
      · obtain ⟨a1, a2⟩ := lsp_rg np hx
        exact Sz.bd a1 (by omega)
      · rw [lsp_len]; omega
    refine ⟨_, rfl, _, rfl, _, rfl, a, b, r, t, c, rfl, e2 _ _ ha, e2 _ _ hb, hl, hl1, ht, fun H3 e3 => ?_⟩
    refine ⟨_, rfl, _, rfl, _, t.length, nu, rfl, np, by omega, sR, fun l sh H4 hl4 e4 h4 hsl hsum hsz => ?_⟩
    have e5 : Same H H4 := (e2.trans e3).trans e4
    have h5 := e4 _ _ (e3 _ _ h2)
    refine ⟨_, rfl, b, _, rfl, .inl ⟨SqL.of (e5 _ _ hb), fun q hq => ?_⟩⟩
    have h4' := kp1 (u := .tup (t.map V.int)) h4 hq
    have h5' := kp1 (u := .tup (t.map V.int)) h5 hq
    refine ⟨_, rfl, _, rfl, p, l, _, _, rfl, .inl ⟨SqL.of h5', SqL.of h4', fun D hD => ?_⟩⟩
    refine lc_prsI (prs_zip (xs := (lsp r t).map V.int) (ys := sh.map V.int) ?_) (fun _ => true) (fun i => (lsp r t).getD i 0 + (t.length : Int) * sh.getD i 0) ?_ ?_ ?_ ?_ ?_ hD
    · rw [List.length_map, List.length_map, lsp_len, hsl, ht]
    · rw [List.length_map, lsp_len]; omega
    · exact fun H' e => ⟨SqL.of (e _ _ h5'), SqL.of (e _ _ h4')⟩
    · exact fun i x y H' _ _ _ Q q => q _ (Same.refl _)
    · rintro i x y H' hi ⟨hx, hy⟩ e _ Q q
      obtain ⟨x, rfl, hx2⟩ := int_get hx
      obtain ⟨y, rfl, hy2⟩ := int_get hy
      have q2 := q _ (Same.refl _)
      rw [getD_of hx2, getD_of hy2] at q2
      refine ⟨_, rfl, _, rfl, _, rfl, _, _, rfl, rfl, ?_, _, _, rfl, rfl, q2⟩
      exact (Sz.bd (a := 8) (by omega) (by omega)).wide (hsz.get hy2) (by omega)
    intro H6 e6 h6
    rw [pickI_tt, List.length_map, lsp_len] at h6
    refine ⟨D, _, rfl, .inl ⟨SqL.of h6, fun q2 hq2 => ⟨line2, fun q3 hq3 => ?_⟩⟩⟩
    refine h sh _ _ hsl hsum ((((e5.trans (Same.new hq)).trans e6).trans (Same.new hq2)).trans (Same.new hq3)) (TD.ofSt upd_same ?_ ?_)
    · exact kp1 (kp1 (e6 _ _ upd_same) hq2) hq3
    · refine kp1 ?_ hq3
      rw [upd_same]
      unfold lpw
      rw [ht]
end
end Tr
end
section
set_option Elab.async false
set_option linter.all false
set_option maxRecDepth 100000
set_option maxHeartbeats 4000000
namespace Tr
open PySem PySem.Spec PyProof.Rows L2
section
variable {P : Program} {w : World} {K : PySem.W.Frag} {mg : Str → Option Value} {base : Heap}
theorem sc_state_at : FnScope ["state", "number", "size", "kept", "coins", "quota", "seated", "left", "person", "seat", "ways"] ["state", "number"] (defScope s_state_at) := ⟨rfl, rfl, rfl, by decide +kernel, rfl, by decide +kernel, by decide +kernel⟩
theorem ok_state_at (T : Tx K mg) : FnOk P w K mg base CX0 6 (He.ga K "state_at") (fdOf K (He.ga K "state_at")) ["state", "number"] spStAt := by
  refine T.F_state_at.ok sc_state_at (fun vs H Q E h => ?_) (fun cdv A outer s H vs Q E hr h => ?_)
  · obtain ⟨v, s, n, q, nu, rfl, _⟩ := h
    rfl
  · obtain ⟨v, s, n, q, nu, rfl, hv, hn, hq, hc, n0, n1, hsplit, h⟩ := h
    have hu := hu_of hr
    refine ⟨_, PSs.nox (pss_cons (ps_par3 (i := 2) (j := 3) (l := 4) rfl sc_state_at.nd rfl rfl rfl (by decide) (by decide) (by decide) rfl rfl rfl (pa_cons (pe_call (ok_people_many T) (hr.mono (by decide)) rfl T.g_people_many T.F_people_many.kp T.b_f_people_many .nil pass0 (pa_cons (pv 0) pa_nil)) (pa_cons (pe_call (ok_kept_of T) (hr.mono (by decide)) rfl T.g_kept_of T.F_kept_of.kp T.b_f_kept_of .nil pass0 (pa_cons (pv 0) pa_nil)) (pa_cons (pe_call (ok_coins_of T) (hr.mono (by decide)) rfl T.g_coins_of T.F_coins_of.kp T.b_f_coins_of .nil pass0 (pa_cons (pv 0) pa_nil)) pa_nil))) (by rfl))
      (pss_cons (ps_asg (pe_tup (pa_cons (pe_call (ok_quota_of T) (hr.mono (by decide)) rfl T.g_quota_of T.F_quota_of.kp T.b_f_quota_of .nil pass0 (pa_cons (pv 3) (pa_cons (pv 4) pa_nil))) (pa_cons pe_dnewK (pa_cons (pv 1) pa_nil)))) (pg_tup rfl (pgs_cons (pg_name (i := 5) sc_state_at.nd rfl (Or.inl rfl)) (pgs_cons (pg_name (i := 6) sc_state_at.nd rfl (Or.inr rfl)) (pgs_cons (pg_name (i := 7) sc_state_at.nd rfl (Or.inl rfl)) pgs_nil)))))
      (pss_cons (ps_if (pt_not (pt_chain op_le op_lt pe_int (pv 1) (pe_call (ok_ways_with T) (hr.mono (by decide)) rfl T.g_ways_with T.F_ways_with.kp T.b_f_ways_with .nil pass0 (pa_cons (pv 3) (pa_cons (pv 5) (pa_cons pe_dnewK pa_nil)))))) (pss_one ps_dead) pss_nil)
      (pss_cons (ps_for PassesOwn.never rfl (pi_range1 rfl T.b_range (pa_cons (pv 2) pa_nil)) (pg_name (i := 8) sc_state_at.nd rfl (Or.inl rfl))
        (pss_one (ps_for PassesOwn.never rfl (pi_list (pe_lc (own := [("seat", 9)]) (g := gName 9) rfl sc_state_at.nd (pi_range1 rfl T.b_range (pa_cons (pv 2) pa_nil)) (blkOk_by (own := [("seat", 9)]) (N := ["state", "number", "size", "kept", "coins", "quota", "seated", "left", "person", "seat", "ways"]) (by kernel_rfl)) (fun _ _ _ _ _ => (pg_name (i := 9) sc_state_at.nd rfl (Or.inl rfl))) (fun _ _ _ _ _ => (pts_one (pt_cmpR (op_notInVals rfl) (pv 9) (pe_vals (pv 6)) (by rfl)))) (fun _ _ _ _ _ => (pv 9)))) (pg_name (i := 9) sc_state_at.nd rfl (Or.inl rfl))
        (pss_cons (ps_set (i := 10) sc_state_at.nd rfl (Or.inl rfl) (pe_call (ok_ways_with T) (hr.mono (by decide)) rfl T.g_ways_with T.F_ways_with.kp T.b_f_ways_with .nil pass0 (pa_cons (pv 3) (pa_cons (pv 5) (pa_cons (pe_call (ok_seated_with T) (hr.mono (by decide)) rfl T.g_seated_with T.F_seated_with.kp T.b_f_seated_with .nil pass0 (pa_cons (pv 6) (pa_cons (pv 8) (pa_cons (pv 9) pa_nil)))) pa_nil)))))
      (pss_cons (ps_if (pt_cmpR op_lt (pv 7) (pv 10) (nomark _)) (pss_cons (ps_dput hu (pv 6) (pv 8) (pv 9) rfl)
      (pss_one ps_break)) pss_nil)
      (pss_one (ps_aug (i := 7) sc_state_at.nd rfl (Or.inl rfl) (pv 10) ip_sub)))))))
      (pss_one (ps_ret (pe_call (ok_state_with T) (hr.mono (by decide)) rfl T.g_state_with T.F_state_with.kp T.b_f_state_with .nil pass0 (pa_cons (pv 3) (pa_cons (pv 4) (pa_cons (pe_lc (own := [("person", 8)]) (g := gName 8) rfl sc_state_at.nd (pi_range1 rfl T.b_range (pa_cons (pv 2) pa_nil)) (blkOk_by (own := [("person", 8)]) (N := ["state", "number", "size", "kept", "coins", "quota", "seated", "left", "person", "seat", "ways"]) (by kernel_rfl)) (fun _ _ _ _ _ => (pg_name (i := 8) sc_state_at.nd rfl (Or.inl rfl))) (fun _ _ _ _ _ => pts_nil) (fun _ _ _ _ _ => (pe_dget hu (pv 6) (pv 8) (fun _ _ => rfl)))) (pa_cons (pv 7) pa_nil))))))))))), ?_⟩
    have l1 := hn.l1
    have np := hn.pos
    have nt := hn.top
    have lk : (kept s).length = n := by rw [kept_len, l1]
    refine ⟨_, rfl, v, s, rfl, hv, _, rfl, v, s, n, rfl, hv, hn, fun u H1 e1 hu1 => ?_⟩
    obtain ⟨k, rfl, hk⟩ := TD.ints hu1
    refine ⟨_, rfl, v, s, rfl, hv.mono e1.tups, _, _, _, rfl, ?_⟩
    refine ⟨_, rfl, _, rfl, k, kept s, _, rfl, hk, by omega, by omega, fun H2 e2 => fun d hd => ?_⟩
    have ev : quV (kept s) s.2.sum = .int q := by unfold quV; rw [hq]
    rw [ev]
    refine ⟨_, rfl, line3, fun z hz => gp3 upd_same ?_⟩
    have hk2 : H2 k = some (.tup ((kept s).map V.int)) := e2 _ _ hk
    have hk3 := kp1 (u := .tup [.int q, .ref d, .int nu]) (kp1 (u := .dK []) hk2 hd) hz
    have hd3 : upd (upd H2 d (.dK [])) z (.tup [.int q, .ref d, .int nu]) d = some (.dK (sd [])) := kp1 upd_same hz
    have e3 : Same H (upd (upd H2 d (.dK [])) z (.tup [.int q, .ref d, .int nu])) := ((e1.trans e2).trans (Same.new hd)).trans (Same.new hz)
    have hHd : H d = none := (e1.trans e2).none hd
    have hkd : k ≠ d := ne_of_none hk2 hd
    generalize upd (upd H2 d (.dK [])) z (.tup [.int q, .ref d, .int nu]) = H3 at *
    have sq := quo_sz (kept_sz hn) (by omega) hc hq
    refine ⟨_, rfl, _, _, rfl, rfl, _, rfl, iteD (fun _ => ?_) (fun c => (c n0).elim)⟩
    refine ⟨_, rfl, _, rfl, fun d2 hd2 => ⟨k, d2, kept s, q, [], rfl, kp1 hk3 hd2, upd_same, by omega, by omega, Nat.zero_le _, sq, fun H4 e4 => ?_⟩⟩
    have n1' := n1
    generalize ww (kept s) q [] = W0 at n1' ⊢
    refine ⟨_, _, rfl, rfl, _, rfl, iteZ (by simpa using n1') ?_⟩
    have e5 : Same H3 H4 := (Same.new hd2).trans e4
    have hk4 := e5 _ _ hk3
    have hd4 := e5 _ _ hd3
    refine ⟨_, rfl, _, rfl, ?_⟩
    rw [l1]
    refine ⟨by omega, by omega, ?_⟩
    rw [Int.toNat_natCast]
    refine for_sng sng_range (fun i σ H' => Same H H' ∧ H' k = some (.tup ((kept s).map V.int)) ∧ ∃ t left y8 y9 y10, H' d = some (.dK (sd t)) ∧ t.length = i ∧ VS n t ∧ 0 ≤ left ∧ left < ww (kept s) q t ∧ σ = [some v, some (.int nu), some (.int n), some (.ref k), some (.int s.2.sum), some (.int q), some (.ref d), some (.int left), y8, y9, y10])
      ⟨e3.trans e5, hk4, [], nu, _, _, _, hd4, rfl, ⟨List.nodup_nil, fun x hx => by cases hx⟩, n0, n1, rfl⟩ (fun _ _ _ _ _ => trivial) ?_ ?_
    · rintro i x σ H5 hi rfl ⟨e6, hk5, t, left, y8, y9, y10, hd5, ht, vt, p0, p1, rfl⟩
      refine ⟨_, rfl, _, rfl, by omega, by omega, ?_⟩
      rw [Int.toNat_natCast]
      intro D hD
      refine lc_sngI sng_range (fun i => !decide ((i : Int) ∈ t)) (fun i => (i : Int)) ?_ (fun _ _ => trivial) ?_ ?_ ?_ hD
      · omega
      · rintro j x H' hj rfl e Q qq
        refine ⟨_, rfl, _, rfl, d, _, rfl, e _ _ hd5, fun p hp => ⟨p, d, _, rfl, upd_same, kp1 (e _ _ hd5) hp, rfl, ?_, _, rfl, ?_⟩⟩
        · rw [sd_vals]; exact flat_ints t
        · rw [sd_vals, inV_ints, Int.zero_add]
          exact qq _ (Same.new hp)
      · rintro j x H' hj rfl e _ Q qq
        refine ⟨_, rfl, ?_⟩
        rw [Int.zero_add]
        exact qq _ (Same.refl _)
      intro H6 e7 h6
      have hF : H6 D = some (.lst ((frees n t).map V.int)) := h6
      have hsp := hsplit t vt (by omega)
      refine ⟨D, rfl, ⟨_, SqL.of hF⟩, ?_⟩
      refine for_sng (sng_list (xs := (frees n t).map V.int)) (fun j σ H' => Same H6 H' ∧ ∃ y9 y10, 0 ≤ left - (((frees n t).take j).map fun x => ww (kept s) q (t ++ [x])).sum ∧
          σ = [some v, some (.int nu), some (.int n), some (.ref k), some (.int s.2.sum), some (.int q), some (.ref d), some (.int (left - (((frees n t).take j).map fun x => ww (kept s) q (t ++ [x])).sum)), some (.int (i : Nat)), y9, y10])
        ⟨Same.refl _, y9, y10, by simpa using p0, ?_⟩ (fun j σ H' _ qq => SqL.of (qq.1 _ _ hF)) ?_ ?_
      · simp only [List.take_zero, List.map_nil, List.sum_nil, Int.sub_zero]
        show [_, _, _, _, _, _, _, _, some (V.int (0 + (i : Int))), _, _] = _
        rw [Int.zero_add]
      · rintro j x σ H7 hj hx ⟨e8, z9, z10, p2, rfl⟩
        obtain ⟨m, rfl, hm⟩ := int_get hx
        have e9 := e7.trans e8
        have hd7 := e9 _ _ hd5
        have hk7 := e9 _ _ hk5
        refine ⟨_, rfl, _, rfl, _, rfl, _, rfl, _, rfl, d, t, m, by rw [ht]; rfl, hd7, by omega, fun d3 H8 hd3 e10 h8 => ?_⟩
        refine ⟨k, d3, kept s, q, t ++ [m], rfl, e10 _ _ hk7, h8, by omega, by omega, by rw [List.length_append, List.length_singleton]; omega, sq, fun H9 e11 => ?_⟩
        have e12 := (e9.trans e10).trans e11
        generalize hW : ww (kept s) q (t ++ [m]) = W1
        refine ⟨_, rfl, _, rfl, _, _, rfl, rfl, _, rfl, iteD (fun c => ?_) fun c => ?_⟩
        · refine ⟨_, rfl, _, rfl, _, rfl, d, _, rfl, DPut.k (k := Sum.inl (i : Int)) (e12 _ _ hd5) ?_, ?_⟩
          · rw [sd, sdF_len, sizeLine_eq]; omega
          refine ⟨(e6.trans e12).mut hHd, (upd_ne hkd).trans (e12 _ _ hk5), t ++ [m], _, _, _, _, ?_, by rw [List.length_append, ht]; rfl, vt.snoc (List.mem_of_getElem? hm), p2, by rw [hW]; exact c, rfl⟩
          rw [upd_same, ← ht, sd_put]
        · refine ⟨_, rfl, _, rfl, _, _, rfl, rfl, (e8.trans e10).trans e11, some (.int m), some (.int W1), ?_, ?_⟩
          · rw [List.take_add_one, hm]
            rw [Option.toList_some, List.map_append, sum_app]
            simp only [List.map_cons, List.map_nil, List.sum_cons, List.sum_nil, hW]
            omega
          · rw [List.take_add_one, hm]
            rw [Option.toList_some, List.map_append, sum_app]
            simp only [List.map_cons, List.map_nil, List.sum_cons, List.sum_nil, Int.add_zero, hW]
            rw [← Int.sub_sub]
            rfl
      · rintro σ H7 ⟨e8, z9, z10, p2, rfl⟩
        rw [List.length_map, List.take_length, ← hsp] at p2
        omega
    · rintro σ H5 ⟨e6, hk5, t, left, y8, y9, y10, hd5, ht, vt, p0, p1, rfl⟩
      refine ⟨_, rfl, _, rfl, _, rfl, _, rfl, by omega, by omega, ?_⟩
      rw [Int.toNat_natCast]
      intro D hD
      refine lc_sngI sng_range (fun _ => true) (fun i => t.getD i 0) ?_ (fun _ _ => trivial) ?_ ?_ ?_ hD
      · omega
      · exact fun i x H' _ _ _ Q q => q _ (Same.refl _)
      · rintro j x H' hj rfl e _ Q qq
        obtain ⟨m, hm⟩ := get_lt (xs := t) (i := j) (by omega)
        have q2 := qq _ (Same.refl _)
        rw [getD_of hm] at q2
        refine ⟨_, rfl, _, rfl, d, .int m, rfl, ?_, q2⟩
        have := DGet.k (k := Sum.inl (0 + (j : Int))) (e _ _ hd5)
        rw [Int.zero_add, sd_val, hm] at this
        rw [Int.zero_add]
        exact this
      intro H6 e7 h6
      rw [pickI_tt] at h6
      have h6' : H6 D = some (.lst (t.map V.int)) := by
        rw [h6]
        congr 3
        refine List.ext_getElem? fun j => ?_
        by_cases c : j < t.length
        · rw [List.getElem?_map, List.getElem?_range (by omega), List.getElem?_eq_getElem c]
          simp [List.getD_eq_getElem?_getD, List.getElem?_eq_getElem c]
        · rw [List.getElem?_eq_none (by rw [List.length_map, List.length_range]; omega), List.getElem?_eq_none (by omega)]
      refine ⟨_, rfl, k, D, kept s, t, _, _, rfl, e7 _ _ hk5, h6', by omega, by omega, by omega, hc, fun sh u H7 hsl hsum e8 hu2 => ?_⟩
      refine h t sh u H7 vt ht (by omega) ?_ ((e6.trans e7).trans e8) hu2
      rw [hsum, ht]
end
end Tr
end
section
set_option Elab.async false
set_option linter.all false
set_option maxRecDepth 100000
set_option maxHeartbeats 4000000
namespace Tr
open PySem PySem.Spec PyProof.Rows L2
/-! ### mirrors -/
abbrev Pays := List (List (Int × Int))
def app (pa : Pays) (k : Nat) (e : Int × Int) : Pays := pa.set k (pa.getD k [] ++ [e])
def nx (n : Nat) (x : Int) : Nat := ((x + 1) % (n : Int)).toNat
def flN (n : Nat) (row : List Int) : Nat → List Int × Pays
  | 0 => ((List.range n).map fun (i : Nat) => (i : Int), List.replicate n [])
  | i + 1 =>
    let q := flN n row i
    let x := row.getD i 0
    let p := (q.1.getD x.toNat 0).toNat
    let o := (q.1.getD (nx n x) 0).toNat
    ((q.1.set x.toNat o).set (nx n x) p, app (app q.2 p (i, -1)) o (i, 1))
def flow (n : Nat) (row : List Int) : List Int × Pays := flN n row row.length
def endsOf (n : Nat) (row : List Int) : List Int := sit (flow n row).1
theorem app_len (pa : Pays) (k : Nat) (e : Int × Int) : (app pa k e).length = pa.length := by simp [app]
theorem flN_len (n : Nat) (row : List Int) : ∀ i, (flN n row i).1.length = n ∧ (flN n row i).2.length = n
  | 0 => by simp [flN]
  | i + 1 => by simp [flN, app_len, flN_len n row i]
theorem nx_lt {n : Nat} (h : 1 ≤ n) (x : Int) : nx n x < n := by
  have a := Int.emod_nonneg (x + 1) (b := (n : Int)) (by omega)
  have b := Int.emod_lt_of_pos (x + 1) (b := (n : Int)) (by omega)
  unfold nx
  omega
theorem flN_rg {n : Nat} (hn : 1 ≤ n) (row : List Int) : ∀ i, ∀ x, x ∈ (flN n row i).1 → 0 ≤ x ∧ x < n
  | 0, x, h => by
    obtain ⟨j, hj, rfl⟩ := List.mem_map.mp h
    have := List.mem_range.mp hj
    omega
  | i + 1, x, h => by
    have ih := flN_rg hn row i
    have hl := (flN_len n row i).1
    have key : ∀ k : Nat, 0 ≤ (((flN n row i).1.getD k 0).toNat : Int) ∧ (((flN n row i).1.getD k 0).toNat : Int) < n := fun k => by
      rw [List.getD_eq_getElem?_getD]
      cases e : (flN n row i).1[k]? with
      | none => show 0 ≤ (((0 : Int)).toNat : Int) ∧ (((0 : Int)).toNat : Int) < n; omega
      | some y =>
        have := ih y (List.mem_of_getElem? e)
        show 0 ≤ ((y.toNat : Nat) : Int) ∧ ((y.toNat : Nat) : Int) < n
        omega
    rcases List.mem_or_eq_of_mem_set h with h | rfl
    · rcases List.mem_or_eq_of_mem_set h with h | rfl
      · exact ih x h
      · exact key _
    · exact key _
theorem flN_at {n : Nat} (hn : 1 ≤ n) (row : List Int) (i : Nat) {k : Nat} (hk : k < n) : ∃ p : Nat, p < n ∧ (flN n row i).1[k]? = some (p : Int) ∧ ((flN n row i).1.getD k 0).toNat = p := by
  obtain ⟨y, hy⟩ := get_lt (xs := (flN n row i).1) (i := k) (by rw [(flN_len n row i).1]; exact hk)
  obtain ⟨a, b⟩ := flN_rg hn row i y (List.mem_of_getElem? hy)
  refine ⟨y.toNat, by omega, by rw [hy, Int.toNat_of_nonneg a], by rw [getD_of hy]⟩
theorem app_plen {pa : Pays} {k b : Nat} {e : Int × Int} (h : ∀ p, p ∈ pa → p.length ≤ b) : ∀ p, p ∈ app pa k e → p.length ≤ b + 1 := fun p hp => by
  rcases List.mem_or_eq_of_mem_set hp with hp | rfl
  · have := h p hp; omega
  · rw [List.length_append, List.length_singleton, List.getD_eq_getElem?_getD]
    cases e2 : pa[k]? with
    | none => show 0 + 1 ≤ b + 1; omega
    | some q =>
      have := h q (List.mem_of_getElem? e2)
      show q.length + 1 ≤ b + 1
      omega
theorem flN_plen (n : Nat) (row : List Int) : ∀ i, ∀ p, p ∈ (flN n row i).2 → p.length ≤ 2 * i
  | 0, p, h => by
    have := List.eq_of_mem_replicate h
    subst this
    simp
  | i + 1, p, h => app_plen (app_plen (flN_plen n row i)) p h
/-! ### payments in the heap -/
def Py (as : List Addr) (H : Hp) (pm : Addr) (pa : Pays) : Prop := H pm = some (.lst (as.map V.ref)) ∧ as.length = pa.length ∧ ∀ (i : Nat) (a : Addr) (p : List (Int × Int)), as[i]? = some a → pa[i]? = some p → ∃ ys, H a = some (.lst ys) ∧ TDs H ys (p.map prD)
theorem Py.mono {as : List Addr} {H H' : Hp} {pm : Addr} {pa : Pays} (h : Py as H pm pa) (e : Same H H') : Py as H' pm pa :=
  ⟨e _ _ h.1, h.2.1, fun i a p ha hp => by
    obtain ⟨ys, h1, h2⟩ := h.2.2 i a p ha hp
    exact ⟨ys, e _ _ h1, h2.mono e.tups⟩⟩
/-- another list changes -/
theorem Py.other {as : List Addr} {H : Hp} {pm b : Addr} {pa : Pays} {xs : List V} {o : HO} (h : Py as H pm pa) (hb : H b = some (.lst xs)) (h1 : b ≠ pm) (h2 : b ∉ as) : Py as (upd H b o) pm pa :=
  ⟨(upd_ne h1.symm).trans h.1, h.2.1, fun i a p ha hp => by
    obtain ⟨ys, e1, e2⟩ := h.2.2 i a p ha hp
    have hne : a ≠ b := fun e => h2 (e ▸ List.mem_of_getElem? ha)
    exact ⟨ys, (upd_ne hne).trans e1, e2.mono (Kp.upd.tups hb)⟩⟩
theorem Py.app {as : List Addr} {H : Hp} {pm a : Addr} {pa : Pays} {k : Nat} {ys : List V} {v : V} {e : Int × Int} {p : List (Int × Int)} (h : Py as H pm pa) (nd : as.Nodup) (hk : as[k]? = some a) (hp : pa[k]? = some p) (ha : H a = some (.lst ys)) (ht : TDs H ys (p.map prD)) (hv : TD H v (prD e)) (hm : a ≠ pm) :
    Py as (upd H a (.lst (ys ++ [v]))) pm (Tr.app pa k e) := by
  have tu : Tups H (upd H a (.lst (ys ++ [v]))) := Kp.upd.tups ha
  refine ⟨(upd_ne hm.symm).trans h.1, by rw [app_len]; exact h.2.1, fun i b q hb hq => ?_⟩
  unfold Tr.app at hq
  by_cases c : k = i
  · subst c
    rw [hk] at hb
    cases hb
    rw [List.getElem?_set_self (List.getElem?_eq_some_iff.mp hp).1] at hq
    cases hq
    rw [getD_of hp]
    refine ⟨_, upd_same, ?_⟩
    rw [List.map_append]
    exact (ht.mono tu).snoc (hv.mono tu)
  · rw [List.getElem?_set_ne c] at hq
    obtain ⟨zs, e1, e2⟩ := h.2.2 i b q hb hq
    have hne : b ≠ a := fun e' => by
      subst e'
      exact c ((List.getElem?_inj (List.getElem?_eq_some_iff.mp hk).1 nd).mp (hk.trans hb.symm))
    exact ⟨zs, (upd_ne hne).trans e1, e2.mono tu⟩
def RPay (H : Hp) (pm : Addr) (pa : Pays) : Prop := ∃ as, Py as H pm pa
theorem RPay.mono {H H' : Hp} {pm : Addr} {pa : Pays} (h : RPay H pm pa) (e : Same H H') : RPay H' pm pa := let ⟨as, p⟩ := h; ⟨as, p.mono e⟩
section
variable {n : Nat} {σ : L2.St} {vs : List Nat} {H1 : Hp} {D : Addr} {Qd : Hp → Prop}
/-- [[] for x in range(n)] -/
theorem lc_lists {j : Nat} (hn : n ≤ 1000)
    (hd : ∀ (as : List Addr) H', Same H1 H' → H' D = some (.lst (as.map V.ref)) → as.length = n → as.Nodup → (∀ a, a ∈ as → a ≠ D ∧ H1 a = none ∧ H' a = some (.lst [])) → Qd H') (hD : H1 D = none) (hj : j ∈ vs := by decide) :
    ∃ W : Nat → Nat → Hp → Prop, (∃ m, W 0 m (upd H1 D (.lst []))) ∧ ∀ i m H, W i m H →
      ((Itr 0 n).stop i H ∧ Qd H) ∨ ((Itr 0 n).go i H ∧ ∃ Nx : Hp → Prop, (∀ H', Nx H' → ∃ m', m' < m ∧ W (i + 1) m' H') ∧ ∀ x H', (Itr 0 n).yld i H x H' → gName j x (wipe σ vs) H' fun σ2 H2 => wipe σ2 vs = wipe σ vs ∧ tYes σ2 H2 fun b H3 =>
        if b = true then tLst tNil σ2 H3 fun y H4 => ∃ acc, H4 D = some (.lst acc) ∧ acc.length < sizeLine ∧ Nx (upd H4 D (.lst (acc ++ [y]))) else Nx H3) := by
  refine ⟨fun i m H => m = n - i ∧ i ≤ n ∧ Same H1 H ∧ ∃ as : List Addr, H D = some (.lst (as.map V.ref)) ∧ as.length = i ∧ as.Nodup ∧ ∀ a, a ∈ as → a ≠ D ∧ H1 a = none ∧ H a = some (.lst []), ⟨n, rfl, Nat.zero_le _, Same.new hD, [], upd_same, rfl, .nil, fun a h => by cases h⟩, ?_⟩
  rintro i m H ⟨rfl, hi, s, as, h1, h2, h3, h4⟩
  by_cases hlt : i < n
  · refine .inr ⟨hlt, fun H' => i + 1 ≤ n ∧ Same H1 H' ∧ ∃ as : List Addr, H' D = some (.lst (as.map V.ref)) ∧ as.length = i + 1 ∧ as.Nodup ∧ ∀ a, a ∈ as → a ≠ D ∧ H1 a = none ∧ H' a = some (.lst []), fun H' p' => ⟨n - (i + 1), by omega, rfl, p'⟩, fun v H' y => ?_⟩
    obtain ⟨rfl, rfl⟩ := y
    refine ⟨wipe1 hj, ?_⟩
    simp only [tYes, if_true]
    refine ⟨line0, fun p hp => ⟨_, kp1 h1 hp, by rw [List.length_map, sizeLine_eq]; omega, hlt, ?_⟩⟩
    have hDp : D ≠ p := ne_of_none h1 hp
    refine ⟨(s.trans (Same.new hp)).mut hD, as ++ [p], by rw [upd_same, List.map_append]; rfl, by rw [List.length_append, h2]; rfl, ?_, fun a ha => ?_⟩
    · refine List.nodup_append.mpr ⟨h3, by simp, ?_⟩
      intro b hb c hc e
      rw [List.mem_singleton.mp hc] at e
      subst e
      have := (h4 b hb).2.2
      rw [hp] at this
      cases this
    · rcases List.mem_append.mp ha with ha | ha
      · obtain ⟨c1, c2, c3⟩ := h4 a ha
        exact ⟨c1, c2, (upd_ne c1).trans (kp1 c3 hp)⟩
      · rw [List.mem_singleton.mp ha]
        exact ⟨hDp.symm, s.none hp, (upd_ne hDp.symm).trans upd_same⟩
  · have e : i = n := by omega
    subst e
    exact .inl ⟨Nat.le_refl _, hd as H s h1 h2 h3 h4⟩
end
def spFlows : Sp := fun vs H Q _ => ∃ (a : Addr) (row : List Int) (n : Nat), vs = [.ref a, .int n] ∧ H a = some (.lst (row.map .int)) ∧ 1 ≤ n ∧ n ≤ 16 ∧ row.length ≤ 1000 ∧ (∀ x, x ∈ row → 0 ≤ x ∧ x < n) ∧
  ∀ t pm en H', H t = none → Same H H' → H' t = some (.tup [.ref pm, .ref en]) → RPay H' pm (flow n row).2 → H' en = some (.lst ((endsOf n row).map .int)) → Q (.ref t) H'
section
variable {P : Program} {w : World} {K : PySem.W.Frag} {mg : Str → Option Value} {base : Heap}
theorem sc_flows : FnScope ["row", "size", "people", "payments", "ends", "seat", "index", "payer", "other", "person"] ["row", "size"] (defScope s_flows) := ⟨rfl, rfl, rfl, by decide +kernel, rfl, by decide +kernel, by decide +kernel⟩
theorem ok_flows (T : Tx K mg) : FnOk P w K mg base CX0 1 (He.ga K "flows") (fdOf K (He.ga K "flows")) ["row", "size"] spFlows := by
  refine T.F_flows.ok sc_flows (fun vs H Q E h => ?_) (fun cdv A outer s H vs Q E hr h => ?_)
  · obtain ⟨a, row, n, rfl, _⟩ := h
    rfl
  · obtain ⟨a, row, n, rfl, ha, np, nt, hl, hrg, h⟩ := h
    refine ⟨_, PSs.nox (pss_cons (ps_par3 (i := 2) (j := 3) (l := 4) rfl sc_flows.nd rfl rfl rfl (by decide) (by decide) (by decide) rfl rfl rfl (pa_cons (pe_listRg rfl rfl T.b_list (prg_1 rfl T.b_range (pv 1))) (pa_cons (pe_lc (own := [("seat", 5)]) (g := gName 5) rfl sc_flows.nd (pi_range1 rfl T.b_range (pa_cons (pv 1) pa_nil)) (blkOk_by (own := [("seat", 5)]) (N := ["row", "size", "people", "payments", "ends", "seat", "index", "payer", "other", "person"]) (by kernel_rfl)) (fun _ _ _ _ _ => (pg_name (i := 5) sc_flows.nd rfl (Or.inl rfl))) (fun _ _ _ _ _ => pts_nil) (fun _ _ _ _ _ => (pe_lst pa_nil))) (pa_cons (pe_op op_rep (pe_lst (pa_cons pe_int pa_nil)) (pv 1)) pa_nil))) (by rfl))
      (pss_cons (ps_for PassesOwn.never rfl (pi_enum rfl T.b_enumerate (pa_cons (pv 0) pa_nil)) (pg_tup rfl (pgs_cons (pg_name (i := 6) sc_flows.nd rfl (Or.inl rfl)) (pgs_cons (pg_name (i := 5) sc_flows.nd rfl (Or.inl rfl)) pgs_nil)))
        (pss_cons (ps_par (i := 7) (j := 8) rfl sc_flows.nd rfl rfl (by decide) rfl rfl (pa_cons (pe_ix ix_list (pv 2) (pv 5) (fun _ _ => rfl)) (pa_cons (pe_ix ix_list (pv 2) (pe_op op_mod (pe_op op_add (pv 5) pe_int) (pv 1)) (fun _ _ => rfl)) pa_nil)) (by rfl))
      (pss_cons (ps_expr (pe_bm PySem.F.plainAttrs_list PySem.F.slot_list_append PySem.F.type_list_append mt_append (pe_ix ix_list (pv 3) (pv 7) (fun _ _ => rfl)) (pa_cons (pe_tup (pa_cons (pv 6) (pa_cons (pe_un un_neg pe_int) pa_nil))) pa_nil)))
      (pss_cons (ps_expr (pe_bm PySem.F.plainAttrs_list PySem.F.slot_list_append PySem.F.type_list_append mt_append (pe_ix ix_list (pv 3) (pv 8) (fun _ _ => rfl)) (pa_cons (pe_tup (pa_cons (pv 6) (pa_cons pe_int pa_nil))) pa_nil)))
      (pss_one (ps_asg (pe_tup (pa_cons (pv 8) (pa_cons (pv 7) pa_nil))) (pg_tup rfl (pgs_cons (pg_sub (pv 2) (pv 5) set_list) (pgs_cons (pg_sub (pv 2) (pe_op op_mod (pe_op op_add (pv 5) pe_int) (pv 1)) set_list) pgs_nil)))))))))
      (pss_cons (ps_for PassesOwn.never rfl (pi_enum rfl T.b_enumerate (pa_cons (pv 2) pa_nil)) (pg_tup rfl (pgs_cons (pg_name (i := 5) sc_flows.nd rfl (Or.inl rfl)) (pgs_cons (pg_name (i := 9) sc_flows.nd rfl (Or.inl rfl)) pgs_nil)))
        (pss_one (ps_asg (pv 5) (pg_sub (pv 4) (pv 9) set_list))))
      (pss_one (ps_ret (pe_tup (pa_cons (pv 3) (pa_cons (pv 4) pa_nil)))))))), ?_⟩
    have ez := sizeLine_eq
    refine ⟨_, rfl, _, rfl, RgOk.of_le (Int.le_refl _) (by omega) (by omega) (by omega), fun pe hpe => ?_⟩
    have e1 : Same H (upd H pe (.lst (rgV 0 n))) := Same.new hpe
    have hr1 : upd H pe (.lst (rgV 0 n)) pe = some (.lst ((flN n row 0).1.map V.int)) := by
      rw [upd_same]
      have e : (((n : Int)) - 0).toNat = n := by omega
      unfold rgV
      rw [e]
      show _ = some (HO.lst (((List.range n).map fun (i : Nat) => (i : Int)).map V.int))
      rw [List.map_map]
      congr 3
      funext i
      show V.int (0 + (i : Int)) = V.int (i : Int)
      rw [Int.zero_add]
    have hHpe := hpe
    generalize upd H pe (.lst (rgV 0 n)) = H1 at *
    refine ⟨_, rfl, _, rfl, by omega, by omega, ?_⟩
    rw [Int.toNat_natCast]
    intro pm hpm
    refine lc_lists (by omega) ?_ hpm
    intro as H2 e2 hpm2 has nd has2
    have hpe2 := e2 _ _ hr1
    have hnpe : ∀ a, a ∈ as → a ≠ pe := fun a ha z => by
      have := (has2 a ha).2.1
      rw [z, hr1] at this
      cases this
    have npm : pe ≠ pm := ne_of_none hr1 hpm
    have hHpm : H pm = none := e1.none hpm
    have hHas : ∀ a, a ∈ as → H a = none := fun a ha => e1.none (has2 a ha).2.1
    refine ⟨line1, fun l0 hl0 => ⟨_, rfl, l0, _, _, rfl, rfl, upd_same, by omega, by omega, ?_, fun en hen => ?_⟩⟩
    · show 1 * ((n : Int)).toNat ≤ sizeLine
      omega
    rw [Int.toNat_natCast, rep_flat]
    have e3 : Same H (upd (upd H2 l0 (.lst [.int 0])) en (.lst (List.replicate n (.int 0)))) := ((e1.trans e2).trans (Same.new hl0)).trans (Same.new hen)
    have hen3 : upd (upd H2 l0 (.lst [.int 0])) en (.lst (List.replicate n (.int 0))) en = some (.lst (List.replicate n (.int 0))) := upd_same
    have k3 : ∀ {b : Addr} {o : HO}, H2 b = some o → upd (upd H2 l0 (.lst [.int 0])) en (.lst (List.replicate n (.int 0))) b = some o := fun h => kp1 (kp1 h hl0) hen
    have hpe3 := k3 hpe2
    have hpm3 := k3 hpm2
    have has3 : ∀ a, a ∈ as → upd (upd H2 l0 (.lst [.int 0])) en (.lst (List.replicate n (.int 0))) a = some (.lst []) := fun a ha => k3 (has2 a ha).2.2
    have nen : ∀ {b : Addr} {o : HO}, H2 b = some o → b ≠ en := fun h => ne_of_none (kp1 h hl0) hen
    have nen1 := nen hpe2
    have nen2 := nen hpm2
    have nen3 : ∀ a, a ∈ as → a ≠ en := fun a ha => nen (has2 a ha).2.2
    have hHen : H en = none := ((e1.trans e2).trans (Same.new hl0)).none hen
    have npm3 : ∀ a, a ∈ as → a ≠ pm := fun a ha => (has2 a ha).1
    clear k3 nen has2 hpe2 hpm2 hl0
    generalize upd (upd H2 l0 (.lst [.int 0])) en (.lst (List.replicate n (.int 0))) = H3 at *
    refine ⟨_, _, _, rfl, ?_⟩
    have py0 : Py as H3 pm (flN n row 0).2 := by
      refine ⟨hpm3, by rw [has]; simp [flN], fun i b p hb hp => ?_⟩
      have hp' : (List.replicate n ([] : List (Int × Int)))[i]? = some p := hp
      rw [List.getElem?_replicate] at hp'
      split at hp'
      · cases hp'
        exact ⟨[], has3 b (List.mem_of_getElem? hb), .nil⟩
      · cases hp'
    refine ⟨_, rfl, a, _, rfl, SqL.of (e3 _ _ ha), ?_⟩
    refine for_prs (prs_enum (xs := row.map V.int)) (fun i σ H' => Same H H' ∧ H' pe = some (.lst ((flN n row i).1.map V.int)) ∧ Py as H' pm (flN n row i).2 ∧ H' en = some (.lst (List.replicate n (.int 0))) ∧ ∃ y5 y6 y7 y8 y9, σ = [some (.ref a), some (.int n), some (.ref pe), some (.ref pm), some (.ref en), y5, y6, y7, y8, y9])
      ⟨e3, hpe3, py0, hen3, _, _, _, _, _, rfl⟩ (fun i σ H' _ q => SqL.of (q.1 _ _ ha)) ?_ ?_
    · rintro i x y σ H4 H5 hi ⟨rfl, hy⟩ ⟨e4, hpe4, py4, hen4, y5, y6, y7, y8, y9, rfl⟩ e5
      obtain ⟨m, rfl, hm⟩ := int_get hy
      rw [List.length_map] at hi
      obtain ⟨m0, m1⟩ := hrg m (List.mem_of_getElem? hm)
      have hg : row.getD i 0 = m := getD_of hm
      obtain ⟨p, hp, hp2, hp3⟩ := flN_at np row i (k := m.toNat) (by omega)
      obtain ⟨o, ho, ho2, ho3⟩ := flN_at np row i (nx_lt np m)
      have hpe5 := e5 _ _ hpe4
      have hen5 := e5 _ _ hen4
      have py5 := py4.mono e5
      have mm := Int.emod_nonneg (m + 1) (b := (n : Int)) (by omega)
      have ll := flN_len n row i
      refine ⟨_, rfl, _, rfl, pe, _, _, _, rfl, rfl, SqL.of hpe5, atI_of m0 (get_int hp2), _, rfl, _, rfl, _, _, rfl, rfl, _, rfl, _, _, rfl, rfl, by show (0 : Int) < n; omega, pe, _, _, _, rfl, rfl, SqL.of hpe5, atI_of mm (get_int ho2), _, _, rfl, ?_⟩
      obtain ⟨ap, hap⟩ := get_lt (xs := as) (i := p) (by omega)
      obtain ⟨ao, hao⟩ := get_lt (xs := as) (i := o) (by omega)
      obtain ⟨pp, hpp⟩ := get_lt (xs := (flN n row i).2) (i := p) (by omega)
      have hapm := List.mem_of_getElem? hap
      have haom := List.mem_of_getElem? hao
      obtain ⟨ys, hys, tys⟩ := py5.2.2 p ap pp hap hpp
      have lens : ys.length = pp.length := by rw [tys.1, List.length_map]
      have lpp : pp.length ≤ 2 * i := flN_plen n row i pp (List.mem_of_getElem? hpp)
      refine ⟨_, rfl, _, rfl, pm, _, _, .ref ap, rfl, rfl, SqL.of py5.1, atI_nat (by rw [List.getElem?_map, hap]; rfl), .inl ⟨rfl, _, SqL.of hys⟩, ?_⟩
      refine ⟨_, rfl, _, rfl, line2, fun t1 ht1 => ⟨ap, _, _, rfl, rfl, kp1 hys ht1, by omega, ?_⟩⟩
      have py6 := ((py5.mono (Same.new ht1)).app nd hap hpp (kp1 hys ht1) (tys.mono (L2.Same.tups (Same.new ht1))) (v := .ref t1) (e := ((i : Int), -1)) (TD.mk upd_same (.cons (.int _) (.cons (.int _) .nil))) (npm3 ap hapm))
      have e6 : Same H (upd (upd H5 t1 (.tup [.int (i : Nat), .int (-1)])) ap (.lst (ys ++ [.ref t1]))) := ((e4.trans e5).trans (Same.new ht1)).mut (hHas ap hapm)
      have hpe6 : upd (upd H5 t1 (.tup [.int (i : Nat), .int (-1)])) ap (.lst (ys ++ [.ref t1])) pe = _ := (upd_ne (hnpe ap hapm).symm).trans (kp1 hpe5 ht1)
      have hen6 : upd (upd H5 t1 (.tup [.int (i : Nat), .int (-1)])) ap (.lst (ys ++ [.ref t1])) en = _ := (upd_ne (nen3 ap hapm).symm).trans (kp1 hen5 ht1)
      generalize upd (upd H5 t1 (.tup [.int (i : Nat), .int (-1)])) ap (.lst (ys ++ [.ref t1])) = H6 at *
      have la := app_len (flN n row i).2 p ((i : Int), -1)
      obtain ⟨po, hpo⟩ := get_lt (xs := app (flN n row i).2 p ((i : Int), -1)) (i := o) (by omega)
      obtain ⟨zs, hzs, tzs⟩ := py6.2.2 o ao po hao hpo
      have lens2 : zs.length = po.length := by rw [tzs.1, List.length_map]
      have lpo : po.length ≤ 2 * i + 1 := app_plen (flN_plen n row i) po (List.mem_of_getElem? hpo)
      refine ⟨_, rfl, _, rfl, pm, _, _, .ref ao, rfl, rfl, SqL.of py6.1, atI_nat (by rw [List.getElem?_map, hao]; rfl), .inl ⟨rfl, _, SqL.of hzs⟩, ?_⟩
      refine ⟨_, rfl, line2, fun t2 ht2 => ⟨ao, _, _, rfl, rfl, kp1 hzs ht2, by omega, ?_⟩⟩
      have py7 := ((py6.mono (Same.new ht2)).app nd hao hpo (kp1 hzs ht2) (tzs.mono (L2.Same.tups (Same.new ht2))) (v := .ref t2) (e := ((i : Int), 1)) (TD.mk upd_same (.cons (.int _) (.cons (.int _) .nil))) (npm3 ao haom))
      have e7 : Same H (upd (upd H6 t2 (.tup [.int (i : Nat), .int 1])) ao (.lst (zs ++ [.ref t2]))) := (e6.trans (Same.new ht2)).mut (hHas ao haom)
      have hpe7 : upd (upd H6 t2 (.tup [.int (i : Nat), .int 1])) ao (.lst (zs ++ [.ref t2])) pe = _ := (upd_ne (hnpe ao haom).symm).trans (kp1 hpe6 ht2)
      have hen7 : upd (upd H6 t2 (.tup [.int (i : Nat), .int 1])) ao (.lst (zs ++ [.ref t2])) en = _ := (upd_ne (nen3 ao haom).symm).trans (kp1 hen6 ht2)
      generalize upd (upd H6 t2 (.tup [.int (i : Nat), .int 1])) ao (.lst (zs ++ [.ref t2])) = H7 at *
      refine ⟨_, rfl, _, rfl, line2, fun t3 ht3 => ?_⟩
      have hpt : pe ≠ t3 := ne_of_none hpe7 ht3
      refine ⟨t3, _, rfl, SqT.of upd_same, rfl, _, _, rfl, _, rfl, _, rfl, pe, _, _, m.toNat, rfl, rfl, kp1 hpe7 ht3, ?_, ?_⟩
      · have := ixN_nat (n := ((flN n row i).1.map V.int).length) (j := m.toNat) (by rw [List.length_map]; omega)
        rw [Int.toNat_of_nonneg m0] at this
        exact this
      have hnx : (nx n m : Int) = (m + 1) % (n : Int) := Int.toNat_of_nonneg mm
      have hlt := nx_lt np m
      refine ⟨_, _, rfl, _, rfl, _, rfl, _, _, rfl, rfl, _, rfl, _, _, rfl, rfl, by show (0 : Int) < n; omega, pe, _, _, nx n m, rfl, rfl, upd_same, ?_, rfl, ?_⟩
      · have := ixN_nat (n := (((flN n row i).1.map V.int).set m.toNat (.int o)).length) (j := nx n m) (by rw [List.length_set, List.length_map]; omega)
        rw [hnx] at this
        exact this
      have npt : ∀ a, a ∈ as → a ≠ pe := hnpe
      have pe_as : pe ∉ as := fun q => hnpe pe q rfl
      have hstep : flN n row (i + 1) = (((flN n row i).1.set m.toNat (o : Int)).set (nx n m) (p : Int), app (app (flN n row i).2 p ((i : Int), -1)) o ((i : Int), 1)) := by
        show ((((flN n row i).1.set (row.getD i 0).toNat (((flN n row i).1.getD (nx n (row.getD i 0)) 0).toNat : Int)).set (nx n (row.getD i 0)) (((flN n row i).1.getD (row.getD i 0).toNat 0).toNat : Int)), app (app (flN n row i).2 (((flN n row i).1.getD (row.getD i 0).toNat 0).toNat) ((i : Int), -1)) (((flN n row i).1.getD (nx n (row.getD i 0)) 0).toNat) ((i : Int), 1)) = _
        rw [hg, hp3, ho3]
      refine ⟨((e7.trans (Same.new ht3)).mut hHpe).mut hHpe, ?_, ?_, ?_, _, _, _, _, _, rfl⟩
      · rw [upd_same, hstep, List.map_set, List.map_set]
      · rw [hstep]
        exact ((py7.mono (Same.new ht3)).other (kp1 hpe7 ht3) npm pe_as).other upd_same npm pe_as
      · exact (upd_ne nen1.symm).trans ((upd_ne nen1.symm).trans (kp1 hen7 ht3))
    · rintro σ H4 ⟨e4, hpe4, py4, hen4, y5, y6, y7, y8, y9, rfl⟩
      rw [List.length_map] at hpe4 py4
      have lP : (flow n row).1.length = n := (flN_len n row _).1
      have hpe4' : H4 pe = some (.lst ((flow n row).1.map V.int)) := hpe4
      have py4' : Py as H4 pm (flow n row).2 := py4
      have rgP : ∀ x, x ∈ (flow n row).1 → 0 ≤ x ∧ x < n := flN_rg np row _
      have en_as : en ∉ as := fun q => nen3 en q rfl
      generalize hP : flow n row = PP at *
      refine ⟨_, rfl, pe, _, rfl, SqL.of hpe4', ?_⟩
      refine for_prs (prs_enum (xs := PP.1.map V.int)) (fun i σ H' => Same H H' ∧ H' pe = some (.lst (PP.1.map V.int)) ∧ Py as H' pm PP.2 ∧ H' en = some (.lst ((sitN PP.1 i).map .int)) ∧ ∃ y5 y6 y7 y8 y9, σ = [some (.ref a), some (.int n), some (.ref pe), some (.ref pm), some (.ref en), y5, y6, y7, y8, y9])
        ⟨e4, hpe4', py4', ?_, _, _, _, _, _, rfl⟩ (fun i σ H' _ q => SqL.of q.2.1) ?_ ?_
      · rw [hen4, sitN, lP, List.map_replicate]
      · rintro i x y σ H5 H6 hi ⟨rfl, hy⟩ ⟨e5, hpe5, py5, hen5, y5, y6, y7, y8, y9, rfl⟩ e6
        obtain ⟨m, rfl, hm⟩ := int_get hy
        rw [List.length_map] at hi
        obtain ⟨m0, m1⟩ := rgP m (List.mem_of_getElem? hm)
        refine ⟨_, rfl, _, rfl, _, rfl, en, _, _, m.toNat, rfl, rfl, e6 _ _ hen5, ?_, ?_⟩
        · have := ixN_nat (n := ((sitN PP.1 i).map V.int).length) (j := m.toNat) (by rw [List.length_map, sitN_len]; omega)
          rw [Int.toNat_of_nonneg m0] at this
          exact this
        · refine ⟨(e5.trans e6).mut hHen, (upd_ne nen1).trans (e6 _ _ hpe5), (py5.mono e6).other (e6 _ _ hen5) nen2.symm en_as, ?_, _, _, _, _, _, rfl⟩
          rw [upd_same]
          show _ = some (HO.lst (((sitN PP.1 i).set (PP.1.getD i 0).toNat i).map V.int))
          rw [getD_of hm, List.map_set]
      · rintro σ H5 ⟨e5, hpe5, py5, hen5, y5, y6, y7, y8, y9, rfl⟩
        rw [List.length_map] at hen5
        refine ⟨_, rfl, _, rfl, line2, fun t ht => ?_⟩
        refine h t pm en _ (e5.none ht) (e5.trans (Same.new ht)) upd_same ⟨as, py5.mono (Same.new ht)⟩ ?_
        unfold endsOf
        rw [hP]
        exact kp1 hen5 ht
end
end Tr
end
section
set_option Elab.async false
set_option linter.all false
set_option maxRecDepth 100000
set_option maxHeartbeats 4000000
namespace Tr
open PySem PySem.Spec PyProof.Rows L2
/-! ### mirrors -/
def itr (e : List Int) (q : Int) : Nat → Int
  | 0 => q
  | j + 1 => e.getD (itr e q j).toNat 0
def orb (e : List Int) (q : Int) (L : Nat) : List Int := (List.range L).map (itr e q)
def per (e : List Int) (q : Int) : Nat := ((List.range 16).find? fun j => decide (itr e q (j + 1) = q)).getD 0 + 1
def turnOf (e : List Int) (q : Int) : List Int := orb e q (per e q)
def Per (e : List Int) (q : Int) : Prop := ∃ j, j < 16 ∧ itr e q (j + 1) = q
theorem per_ok {e : List Int} {q : Int} (h : Per e q) : 1 ≤ per e q ∧ per e q ≤ 16 ∧ itr e q (per e q) = q ∧ ∀ j, 0 < j → j < per e q → itr e q j ≠ q := by
  obtain ⟨j, hj, he⟩ := h
  unfold per
  cases hf : (List.range 16).find? fun j => decide (itr e q (j + 1) = q) with
  | none =>
    have := List.find?_eq_none.mp hf j (List.mem_range.mpr hj)
    exact absurd he (by simpa using this)
  | some k =>
    obtain ⟨h1, as, bs, h2, h3⟩ := List.find?_eq_some_iff_append.mp hf
    have hk : k < 16 := List.mem_range.mp (by rw [h2]; simp)
    have h1' : itr e q (k + 1) = q := by simpa using h1
    refine ⟨by simp, by simp only [Option.getD_some]; omega, h1', fun i i0 i1 => ?_⟩
    simp only [Option.getD_some] at i1
    have hlen : as.length = k := by
      have a1 : (List.range 16)[as.length]? = some k := by rw [h2]; simp
      rw [List.getElem?_range] at a1
      · exact Option.some.inj a1
      · have : (List.range 16).length = 16 := List.length_range
        rw [h2] at this
        simp at this
        omega
    have hm : i - 1 ∈ as := by
      have a1 : (List.range 16)[i - 1]? = some (i - 1) := List.getElem?_range (by omega)
      rw [h2, List.getElem?_append_left (by omega)] at a1
      exact List.mem_of_getElem? a1
    have := h3 (i - 1) hm
    rw [show i - 1 + 1 = i by omega] at this
    simpa using this
theorem orb_len (e : List Int) (q : Int) (L : Nat) : (orb e q L).length = L := by simp [orb]
theorem orb_succ (e : List Int) (q : Int) (L : Nat) : orb e q (L + 1) = orb e q L ++ [itr e q L] := by simp [orb, List.range_succ]
theorem itr_rg {e : List Int} {n : Nat} (hl : e.length = n) (he : ∀ x, x ∈ e → 0 ≤ x ∧ x < n) {q : Int} (h0 : 0 ≤ q) (h1 : q < n) : ∀ j, 0 ≤ itr e q j ∧ itr e q j < n
  | 0 => ⟨h0, h1⟩
  | j + 1 => by
    obtain ⟨a, b⟩ := itr_rg hl he h0 h1 j
    obtain ⟨y, hy⟩ := get_lt (xs := e) (i := (itr e q j).toNat) (by omega)
    have : itr e q (j + 1) = y := getD_of hy
    rw [this]
    exact he y (List.mem_of_getElem? hy)
def gsum (pa : Pays) (q : Int) : Int := ((pa.getD q.toNat []).map (·.2)).sum
def gn (pa : Pays) (turn : List Int) : List Int := turn.map (gsum pa)
def fstep (loss : Int) (L place : Nat) (st : Int × List (Int × Int)) (e : Int × Int) : Int × List (Int × Int) :=
  (st.1 + e.2, if e.2 < 0 ∧ (st.1 < 1 ∨ loss > 0) then st.2 ++ [((if st.1 < 1 then 0 else (st.1 - 1) / loss + 1) * (L : Int) + place, e.1)] else st.2)
def fgo (pa : Pays) (loss : Int) (L : Nat) (st : Int × List (Int × Int)) (z : Int × Nat) : Int × List (Int × Int) := (pa.getD z.1.toNat []).foldl (fstep loss L z.2) st
def fails (pa : Pays) (turn : List Int) (purse : Int) : List (Int × Int) := (turn.zipIdx.foldl (fgo pa (-(gn pa turn).sum) turn.length) (purse, [])).2
/-! ### promises -/
def spTurn : Sp := fun vs H Q _ => ∃ (a : Addr) (e : List Int) (q : Int) (n : Nat), vs = [.ref a, .int q] ∧ H a = some (.lst (e.map .int)) ∧ e.length = n ∧ (∀ x, x ∈ e → 0 ≤ x ∧ x < n) ∧ 0 ≤ q ∧ q < n ∧ Per e q ∧
  ∀ p H', H p = none → Same H H' → H' p = some (.lst ((turnOf e q).map .int)) → Q (.ref p) H'
def spGains : Sp := fun vs H Q _ => ∃ (a b : Addr) (pa : Pays) (turn : List Int), vs = [.ref a, .ref b] ∧ RPay H a pa ∧ H b = some (.lst (turn.map .int)) ∧ turn.length ≤ 16 ∧ (∀ x, x ∈ turn → 0 ≤ x ∧ x < pa.length) ∧ (∀ p, p ∈ pa → p.length ≤ 2000) ∧
  ∀ p H', H p = none → Same H H' → H' p = some (.lst ((gn pa turn).map .int)) → Q (.ref p) H'
def spFails : Sp := fun vs H Q _ => ∃ (a b : Addr) (pa : Pays) (turn : List Int) (purse : Int), vs = [.ref a, .ref b, .int purse] ∧ RPay H a pa ∧ H b = some (.lst (turn.map .int)) ∧ turn.length ≤ 16 ∧ (∀ x, x ∈ turn → 0 ≤ x ∧ x < pa.length) ∧ (∀ p, p ∈ pa → p.length ≤ 2000 ∧ ∀ e, e ∈ p → -1 ≤ e.2 ∧ e.2 ≤ 1) ∧ Sz 180 purse ∧
  ∀ p ys H', H p = none → Same H H' → H' p = some (.lst ys) → TDs H' ys ((fails pa turn purse).map prD) → ys.length ≤ 32000 → Q (.ref p) H'
section
variable {P : Program} {w : World} {K : PySem.W.Frag} {mg : Str → Option Value} {base : Heap}
theorem sc_turn_from : FnScope ["ends", "seat", "found"] ["ends", "seat"] (defScope s_turn_from) := ⟨rfl, rfl, rfl, by decide +kernel, rfl, by decide +kernel, by decide +kernel⟩
theorem ok_turn_from (T : Tx K mg) : FnOk P w K mg base CX0 1 (He.ga K "turn_from") (fdOf K (He.ga K "turn_from")) ["ends", "seat"] spTurn := by
  refine T.F_turn_from.ok sc_turn_from (fun vs H Q E h => ?_) (fun cdv A outer s H vs Q E hr h => ?_)
  · obtain ⟨a, e, q, n, rfl, _⟩ := h
    rfl
  · obtain ⟨a, e, q, n, rfl, ha, hl, hrg, q0, q1, hper, h⟩ := h
    obtain ⟨p1, p2, p3, p4⟩ := per_ok hper
    refine ⟨_, PSs.nox (pss_cons (ps_set (i := 2) sc_turn_from.nd rfl (Or.inl rfl) (pe_lst (pa_cons (pv 1) pa_nil)))
      (pss_cons (ps_while PassesOwn.never (pt_cmpR op_ne (pe_ix ix_list (pv 0) (pe_ix ix_list (pv 2) (pe_un un_neg pe_int) (fun _ _ => rfl)) (fun _ _ => rfl)) (pv 1) (nomark _)) (pss_one (ps_expr (pe_bm PySem.F.plainAttrs_list PySem.F.slot_list_append PySem.F.type_list_append mt_append (pv 2) (pa_cons (pe_ix ix_list (pv 0) (pe_ix ix_list (pv 2) (pe_un un_neg pe_int) (fun _ _ => rfl)) (fun _ _ => rfl)) pa_nil)))))
      (pss_one (ps_ret (pv 2))))), ?_⟩
    have ez := sizeLine_eq
    refine ⟨_, rfl, line1, fun p hp => ?_⟩
    refine while_by (fun σ H' => σ = [some (.ref a), some (.int q), some (.ref p)] ∧ Same H H' ∧ ∃ j, j < per e q ∧ H' p = some (.lst ((orb e q (j + 1)).map .int))) (fun σ H' => match H' p with
      | some (.lst xs) => 16 - xs.length
      | _ => 0) ⟨rfl, Same.new hp, 0, by omega, upd_same⟩ ?_ ?_
    · rintro σ H1 ⟨rfl, e1, j, hj, h1⟩
      obtain ⟨r0, r1⟩ := itr_rg hl hrg q0 q1 j
      have ea := e1 _ _ ha
      obtain ⟨y, hy⟩ := get_lt (xs := e) (i := (itr e q j).toNat) (by omega)
      have hy' : itr e q (j + 1) = y := getD_of hy
      have hlast : atI ((orb e q (j + 1)).map V.int) (-1) = some (.int (itr e q j)) := by
        rw [orb_succ, List.map_append]
        exact atI_last _ _
      refine ⟨_, rfl, _, rfl, _, rfl, p, _, _, _, rfl, rfl, SqL.of h1, hlast, a, _, _, _, rfl, rfl, SqL.of ea, atI_of r0 (get_int hy), _, rfl, rfl, _, rfl, ?_⟩
      by_cases c : y = q
      · refine iteZ (by rw [c]; simp) ?_
        have hj2 : j + 1 = per e q := by
          by_cases c2 : j + 1 < per e q
          · exact absurd (hy'.trans c) (p4 (j + 1) (by omega) c2)
          · omega
        refine ⟨_, rfl, h p H1 hp e1 ?_⟩
        rw [h1, hj2]
        rfl
      · refine iteY (by simpa using c) ?_
        have hj2 : j + 1 < per e q := by
          by_cases c2 : j + 1 < per e q
          · exact c2
          · have : j + 1 = per e q := by omega
            rw [this, p3] at hy'
            exact absurd hy'.symm c
        refine ⟨_, rfl, .inl ⟨rfl, _, SqL.of h1⟩, _, rfl, _, rfl, _, rfl, p, _, _, _, rfl, rfl, SqL.of h1, hlast, a, _, _, _, rfl, rfl, SqL.of ea, atI_of r0 (get_int hy), p, _, _, rfl, rfl, h1, by rw [List.length_map, orb_len]; omega, ⟨rfl, e1.mut hp, j + 1, hj2, ?_⟩, ?_⟩
        · rw [upd_same, orb_succ e q (j + 1), List.map_append, hy']
          rfl
        · show (match upd H1 p _ p with
            | some (.lst xs) => 16 - xs.length
            | _ => 0) < (match H1 p with
            | some (.lst xs) => 16 - xs.length
            | _ => 0)
          rw [upd_same, h1]
          show 16 - _ < 16 - _
          rw [List.length_append, List.length_map, orb_len, List.length_singleton]
          omega
    · rintro σ H1 Q1 Q2 hm ⟨x0, e0, x2, e2, i, ei, p', xs, k, v, a1, a2, a3, a4, p'', xs', k', v', b1, b2, b3, b4, y, ey, f, kk, ek, qq⟩
      exact ⟨x0, e0, x2, e2, i, ei, p', xs, k, v, a1, a2, a3, a4, p'', xs', k', v', b1, b2, b3, b4, y, ey, f, kk, ek, hm _ _ qq⟩
theorem sc_gains : FnScope ["payments", "turn", "seat", "index", "coins"] ["payments", "turn"] (defScope s_gains) := ⟨rfl, rfl, rfl, by decide +kernel, rfl, by decide +kernel, by decide +kernel⟩
theorem ok_gains (T : Tx K mg) : FnOk P w K mg base CX0 1 (He.ga K "gains") (fdOf K (He.ga K "gains")) ["payments", "turn"] spGains := by
  refine T.F_gains.ok sc_gains (fun vs H Q E h => ?_) (fun cdv A outer s H vs Q E hr h => ?_)
  · obtain ⟨a, b, pa, turn, rfl, _⟩ := h
    rfl
  · obtain ⟨a, b, pa, turn, rfl, ⟨as, py⟩, hb, hl, hrg, hpl, h⟩ := h
    refine ⟨_, PSs.nox (pss_one (ps_ret (pe_lc (own := [("seat", 2)]) (g := gName 2) rfl sc_gains.nd (pi_list (pv 1)) (blkOk_by (own := [("seat", 2)]) (N := ["payments", "turn", "seat", "index", "coins"]) (by kernel_rfl)) (fun _ _ _ _ _ => (pg_name (i := 2) sc_gains.nd rfl (Or.inl rfl))) (fun _ _ _ _ _ => pts_nil) (fun _ _ _ _ _ => (pe_callB (cr_sumK (K := K) rfl rfl) rfl T.b_sum bt_sum (pa_cons (pe_lc (own := [("index", 3), ("coins", 4)]) (g := gTup K 2 (gCons (gName 3) (gCons (gName 4) gNil))) rfl sc_gains.nd (pi_listK (K := K) rfl (pe_ix (ix_listK (K := K) rfl) (pv 0) (pv 2) (fun _ _ => rfl))) (blkOk_by (own := [("index", 3), ("coins", 4)]) (N := ["payments", "turn", "seat", "index", "coins"]) (by kernel_rfl)) (fun _ _ _ _ _ => (pg_tup rfl (pgs_cons (pg_name (i := 3) sc_gains.nd rfl (Or.inl rfl)) (pgs_cons (pg_name (i := 4) sc_gains.nd rfl (Or.inl rfl)) pgs_nil)))) (fun _ _ _ _ _ => pts_nil) (fun _ _ _ _ _ => (pv 4))) pa_nil)))))), ?_⟩
    refine ⟨_, rfl, b, rfl, ⟨_, SqL.of hb⟩, fun D hD => ?_⟩
    refine lc_sngI (sng_list (xs := turn.map V.int)) (fun _ => true) (fun i => gsum pa (turn.getD i 0)) ?_ ?_ ?_ ?_ ?_ hD
    · rw [List.length_map]; omega
    · exact fun H' e => SqL.of (e _ _ hb)
    · exact fun i x H' _ _ _ Q q => q _ (Same.refl _)
    · rintro i x H' hi hx e _ Q q
      obtain ⟨m, rfl, hm⟩ := int_get hx
      obtain ⟨m0, m1⟩ := hrg m (List.mem_of_getElem? hm)
      rw [getD_of hm] at q
      have py' := py.mono e
      obtain ⟨ap, hap⟩ := get_lt (xs := as) (i := m.toNat) (by have := py.2.1; omega)
      obtain ⟨pp, hpp⟩ := get_lt (xs := pa) (i := m.toNat) (by omega)
      obtain ⟨ys, hys, tys⟩ := py'.2.2 _ ap pp hap hpp
      have lpp := hpl pp (List.mem_of_getElem? hpp)
      have lys : ys.length = pp.length := by rw [tys.1, List.length_map]
      refine ⟨_, rfl, _, rfl, a, _, _, .ref ap, rfl, rfl, SqL.of py'.1, atI_of m0 (by rw [List.getElem?_map, hap]; rfl), ap, rfl, ⟨_, SqL.of hys⟩, fun D2 hD2 => ?_⟩
      refine lc_pair (sng_list (xs := ys)) (fun _ => true) (fun i => .int (pp.getD i (0, 0)).2) (fun i u v => v = .int (pp.getD i (0, 0)).2) ?_ ?_ ?_ ?_ ?_ ?_ hD2
      · omega
      · exact fun H2 e2 => SqL.of (e2 _ _ hys)
      · rintro i x H2 hi2 hx2 e2
        obtain ⟨pr, hpr⟩ := get_lt (xs := pp) (i := i) (by omega)
        have hpd : (pp.map prD)[i]? = some (prD pr) := by rw [List.getElem?_map, hpr]; rfl
        obtain ⟨T2, zs, rfl, hT, hz⟩ := TD.un ((tys.2 i x _ hx2 hpd).mono e2.tups)
        have hl2 := hz.1
        match zs, hl2 with
        | [u, v], _ =>
          refine ⟨T2, u, v, rfl, hT, ?_⟩
          rw [getD_of hpr]
          exact hz.tail.head.i
      · exact fun i x y H2 _ _ _ Q q => q _ (Same.refl _)
      · rintro i x y H2 hi2 rfl e2 _ Q q
        exact ⟨_, rfl, q _ _ (Same.refl _) (.int _)⟩
      intro zs H3 e3 h3 t3
      rw [lys, pick_list (l := pp) (d0 := (0, 0)) (fun _ => true) (fun p => .int p.2), List.filter_eq_self.mpr (fun _ _ => rfl)] at t3
      have t4 : TDs H3 zs ((pp.map (·.2)).map .int) := by rw [List.map_map]; exact t3
      refine ⟨D2, _, rfl, SqL.of (h3.trans (by rw [TDs.inv_ints t4])), ?_⟩
      have e4 : gsum pa m = (pp.map (·.2)).sum := by unfold gsum; rw [getD_of hpp]
      rw [e4] at q
      exact q _ e3
    intro H1 e1 h1
    rw [pickI_tt, List.length_map] at h1
    refine h D _ hD e1 ?_
    rw [h1]
    congr 2
    refine List.ext_getElem? fun i => ?_
    unfold gn
    by_cases c : i < turn.length
    · simp [c, List.getElem?_eq_getElem c, List.getD_eq_getElem?_getD]
    · simp [c]
end
end Tr
end
section
set_option Elab.async false
set_option linter.all false
set_option maxRecDepth 100000
set_option maxHeartbeats 4000000
namespace Tr
open PySem PySem.Spec PyProof.Rows L2
section
variable {J : It} {n : Nat} {S : Hp → Prop} {tb : TS} {D : Ends} {σ : L2.St} {H : Hp}
theorem for_pair {R : Nat → V → Prop} {R2 : Nat → V → V → Prop} {K : PySem.W.Frag} {a b : Nat} (P : Sng J n R S) (Pv : Nat → L2.St → Hp → Prop) (h0 : Pv 0 σ H) (hS : ∀ i σ H, i ≤ n → Pv i σ H → S H)
    (hp : ∀ i x σ H, i < n → R i x → Pv i σ H → ∃ T u v, x = .ref T ∧ H T = some (.tup [u, v]) ∧ R2 i u v)
    (hs : ∀ i u v σ H, i < n → R2 i u v → Pv i σ H → tb { D with nx := Pv (i + 1), ct := Pv (i + 1), bk := D.nx } ((σ.set a (some u)).set b (some v)) H) (hd : ∀ σ H, Pv n σ H → D.nx σ H) :
    ∃ W : Nat → Nat → L2.St → Hp → Prop, (∃ m, W 0 m σ H) ∧ ∀ i m σ H, W i m σ H →
      (J.stop i H ∧ D.nx σ H) ∨ (J.go i H ∧ ∃ N : L2.St → Hp → Prop, (∀ σ' H', N σ' H' → ∃ m', m' < m ∧ W (i + 1) m' σ' H') ∧ ∀ v H', J.yld i H v H' → gTup K 2 (gCons (gName a) (gCons (gName b) gNil)) v σ H' fun σ2 H2 => tb { D with nx := N, ct := N, bk := D.nx } σ2 H2) :=
  for_sng P Pv h0 hS (fun i x σ H hi r p => by
    obtain ⟨T, u, v, rfl, hT, r2⟩ := hp i x σ H hi r p
    exact gp2 hT (hs i u v σ H hi r2 p)) hd
end
theorem szB {x : Int} (h : x.natAbs ≤ 2 ^ 180 + 40000) : Sz 190 x := Nat.lt_of_le_of_lt h (by decide)
theorem gsum_sz {pa : Pays} (h : ∀ p, p ∈ pa → p.length ≤ 2000 ∧ ∀ e, e ∈ p → -1 ≤ e.2 ∧ e.2 ≤ 1) (q : Int) : Sz 2010 (gsum pa q) := by
  unfold gsum
  rw [List.getD_eq_getElem?_getD]
  cases e : pa[q.toNat]? with
  | none => exact Sz.zero
  | some p =>
    obtain ⟨a, b⟩ := h p (List.mem_of_getElem? e)
    refine Szs.sum (b := 1) (fun x hx => ?_) (by rw [List.length_map]; show 1 + p.length ≤ 2010; omega)
    obtain ⟨y, hy, rfl⟩ := List.mem_map.mp hx
    have := b y hy
    unfold Sz
    omega
theorem gn_sz {pa : Pays} (h : ∀ p, p ∈ pa → p.length ≤ 2000 ∧ ∀ e, e ∈ p → -1 ≤ e.2 ∧ e.2 ≤ 1) (turn : List Int) : Szs 2010 (gn pa turn) := fun x hx => by
  obtain ⟨q, _, rfl⟩ := List.mem_map.mp hx
  exact gsum_sz h q
section
variable {P : Program} {w : World} {K : PySem.W.Frag} {mg : Str → Option Value} {base : Heap}
theorem sc_failures : FnScope ["payments", "turn", "purse", "loss", "coins", "found", "place", "seat", "index", "change", "times"] ["payments", "turn", "purse"] (defScope s_failures) := ⟨rfl, rfl, rfl, by decide +kernel, rfl, by decide +kernel, by decide +kernel⟩
theorem ok_failures (T : Tx K mg) : FnOk P w K mg base CX0 2 (He.ga K "failures") (fdOf K (He.ga K "failures")) ["payments", "turn", "purse"] spFails := by
  refine T.F_failures.ok sc_failures (fun vs H Q E h => ?_) (fun cdv A outer s H vs Q E hr h => ?_)
  · obtain ⟨a, b, pa, turn, purse, rfl, _⟩ := h
    rfl
  · obtain ⟨a, b, pa, turn, purse, rfl, hpy, hb, hl, hrg, hpl, hsz, h⟩ := h
    refine ⟨_, PSs.nox (pss_cons (ps_par3 (i := 3) (j := 4) (l := 5) rfl sc_failures.nd rfl rfl rfl (by decide) (by decide) (by decide) rfl rfl rfl (pa_cons (pe_un un_neg (pe_callB (cr_sum rfl) rfl T.b_sum bt_sum (pa_cons (pe_call (ok_gains T) (hr.mono (by decide)) rfl T.g_gains T.F_gains.kp T.b_f_gains .nil pass0 (pa_cons (pv 0) (pa_cons (pv 1) pa_nil))) pa_nil))) (pa_cons (pv 2) (pa_cons (pe_lst pa_nil) pa_nil))) (by rfl))
      (pss_cons (ps_for PassesOwn.never rfl (pi_enum rfl T.b_enumerate (pa_cons (pv 1) pa_nil)) (pg_tup rfl (pgs_cons (pg_name (i := 6) sc_failures.nd rfl (Or.inl rfl)) (pgs_cons (pg_name (i := 7) sc_failures.nd rfl (Or.inl rfl)) pgs_nil)))
        (pss_one (ps_for PassesOwn.never rfl (pi_list (pe_ix ix_list (pv 0) (pv 7) (fun _ _ => rfl))) (pg_tup rfl (pgs_cons (pg_name (i := 8) sc_failures.nd rfl (Or.inl rfl)) (pgs_cons (pg_name (i := 9) sc_failures.nd rfl (Or.inl rfl)) pgs_nil)))
        (pss_cons (ps_if (PW.pt (pw_and (pt_cmpR op_lt (pv 9) pe_int (nomark _)) (pw_and1 (PW.pt (pw_or (pt_cmpR op_lt (pv 4) pe_int (nomark _)) (pw_or1 (pt_cmpR op_gt (pv 3) pe_int (nomark _)))))))) (pss_cons (ps_set (i := 10) sc_failures.nd rfl (Or.inl rfl) (pe_ifExp (pt_cmpR op_lt (pv 4) pe_int (nomark _)) pe_int (pe_op op_add (pe_op op_fdivW (pe_op op_sub (pv 4) pe_int) (pv 3)) pe_int)))
      (pss_one (ps_expr (pe_bm PySem.F.plainAttrs_list PySem.F.slot_list_append PySem.F.type_list_append mt_append (pv 5) (pa_cons (pe_tup (pa_cons (pe_op op_add (pe_op op_mulW (pv 10) (pe_callB call_len_seq rfl T.b_len bt_len (pa_cons (pv 1) pa_nil))) (pv 6)) (pa_cons (pv 8) pa_nil))) pa_nil))))) pss_nil)
      (pss_one (ps_aug (i := 4) sc_failures.nd rfl (Or.inl rfl) (pv 9) ip_add))))))
      (pss_one (ps_ret (pv 5))))), ?_⟩
    obtain ⟨as, py0⟩ := id hpy
    have ez := sizeLine_eq
    refine ⟨_, rfl, _, rfl, a, b, pa, turn, rfl, hpy, hb, hl, hrg, fun p hp => (hpl p hp).1, fun g H1 hg e1 h1 => ?_⟩
    refine ⟨g, _, rfl, SqL.of h1, _, rfl, _, rfl, line0, fun l hl1 => ⟨_, _, _, rfl, ?_⟩⟩
    have e2 : Same H (upd H1 l (.lst [])) := e1.trans (Same.new hl1)
    have hHl : H l = none := e1.none hl1
    have h2 : upd H1 l (.lst []) l = some (.lst []) := upd_same
    generalize upd H1 l (.lst []) = H2 at *
    have sls : Sz 2100 (-(gn pa turn).sum) := Sz.neg (Szs.sum (gn_sz hpl turn) (by unfold gn; rw [List.length_map]; omega))
    generalize hloss : -(gn pa turn).sum = loss at *
    have hF : fails pa turn purse = (turn.zipIdx.foldl (fgo pa loss turn.length) (purse, [])).2 := by rw [← hloss]; rfl
    refine ⟨_, rfl, b, _, rfl, SqL.of (e2 _ _ hb), ?_⟩
    refine for_prs (prs_enum (xs := turn.map V.int)) (fun i σ H' => Same H H' ∧ ∃ st ys y6 y7 y8 y9 y10, st = (turn.zipIdx.take i).foldl (fgo pa loss turn.length) (purse, []) ∧ H' l = some (.lst ys) ∧ TDs H' ys (st.2.map prD) ∧ st.2.length ≤ i * 2000 ∧ st.1.natAbs ≤ 2 ^ 180 + i * 2000 ∧
      σ = [some (.ref a), some (.ref b), some (.int purse), some (.int loss), some (.int st.1), some (.ref l), y6, y7, y8, y9, y10])
      ⟨e2, (purse, []), [], none, none, none, none, none, rfl, h2, .nil, Nat.zero_le _, ?_, by rw [← hloss]; rfl⟩ (fun i σ H' _ q => SqL.of (q.1 _ _ hb)) ?_ ?_
    · have : purse.natAbs < 2 ^ 180 := hsz
      show purse.natAbs ≤ _
      omega
    · rintro i x y σ H3 H4 hi ⟨rfl, hy⟩ ⟨e3, st, ys, y6, y7, y8, y9, y10, hst, h3, t3, l3, b3, rfl⟩ e4
      obtain ⟨m, rfl, hm⟩ := int_get hy
      rw [List.length_map] at hi
      obtain ⟨m0, m1⟩ := hrg m (List.mem_of_getElem? hm)
      have py := py0.mono (e3.trans e4)
      obtain ⟨ap, hap⟩ := get_lt (xs := as) (i := m.toNat) (by have := py.2.1; omega)
      obtain ⟨pp, hpp⟩ := get_lt (xs := pa) (i := m.toNat) (by omega)
      obtain ⟨zs, hzs, tzs⟩ := py.2.2 _ ap pp hap hpp
      obtain ⟨lpp, bpp⟩ := hpl pp (List.mem_of_getElem? hpp)
      have lzs : zs.length = pp.length := by rw [tzs.1, List.length_map]
      have hzi : turn.zipIdx[i]? = some (m, i) := by rw [List.getElem?_zipIdx, hm]; simp
      have hst2 : (turn.zipIdx.take (i + 1)).foldl (fgo pa loss turn.length) (purse, []) = pp.foldl (fstep loss turn.length i) st := by
        rw [List.take_add_one, hzi, Option.toList_some, List.foldl_append, ← hst]
        show (pa.getD m.toNat []).foldl _ _ = _
        rw [getD_of hpp]
      have hil : i * 2000 ≤ 15 * 2000 := Nat.mul_le_mul_right _ (by omega)
      have hapl : ap ≠ l := fun z => by
        obtain ⟨_, q1, _⟩ := py0.2.2 _ ap pp hap hpp
        rw [z, hHl] at q1
        cases q1
      refine ⟨_, rfl, _, rfl, a, _, _, .ref ap, rfl, rfl, SqL.of py.1, atI_of m0 (by rw [List.getElem?_map, hap]; rfl), ap, rfl, ⟨_, SqL.of hzs⟩, ?_⟩
      refine for_pair (sng_list (xs := zs)) (fun j σ H' => Same H H' ∧ ∃ st2 ys y8 y9 y10, st2 = (pp.take j).foldl (fstep loss turn.length i) st ∧ H' l = some (.lst ys) ∧ TDs H' ys (st2.2.map prD) ∧ st2.2.length ≤ i * 2000 + j ∧ st2.1.natAbs ≤ 2 ^ 180 + i * 2000 + j ∧
        σ = [some (.ref a), some (.ref b), some (.int purse), some (.int loss), some (.int st2.1), some (.ref l), some (.int (i : Nat)), some (.int m), y8, y9, y10])
        (R2 := fun j u v => ∃ e, pp[j]? = some e ∧ u = .int e.1 ∧ v = .int e.2)
        ⟨e3.trans e4, st, ys, y8, y9, y10, rfl, e4 _ _ h3, t3.mono e4.tups, by omega, by omega, rfl⟩ (fun j σ H' _ q => SqL.of ((py0.mono q.1).2.2 _ ap pp hap hpp |> fun z => by
          have q2 : Same H H' := q.1
          obtain ⟨ws, hws, _⟩ := py0.2.2 _ ap pp hap hpp
          have e5 := (e3.trans e4) _ _ hws
          rw [hzs] at e5
          cases e5
          exact q2 _ _ hws)) ?_ ?_ ?_
      · rintro j x σ H5 hj hx ⟨e5, st2, ys2, y8, y9, y10, hst3, h5, t5, l5, b5, rfl⟩
        obtain ⟨pr, hpr⟩ := get_lt (xs := pp) (i := j) (by omega)
        have hpd : (pp.map prD)[j]? = some (prD pr) := by rw [List.getElem?_map, hpr]; rfl
        obtain ⟨ws, hws, tws⟩ := py0.2.2 _ ap pp hap hpp
        have e6 := (e3.trans e4) _ _ hws
        rw [hzs] at e6
        cases e6
        obtain ⟨T2, vs2, rfl, hT, hz⟩ := TD.un ((tws.2 j x _ hx hpd).mono e5.tups)
        have hl2 := hz.1
        match vs2, hl2 with
        | [u, v], _ => exact ⟨T2, u, v, rfl, hT, pr, hpr, hz.head.i, hz.tail.head.i⟩
      · rintro j u v σ H5 hj ⟨e, hpe, rfl, rfl⟩ ⟨e5, st2, ys2, y8, y9, y10, hst3, h5, t5, l5, b5, rfl⟩
        obtain ⟨ea, eb⟩ := bpp e (List.mem_of_getElem? hpe)
        have hnext : (pp.take (j + 1)).foldl (fstep loss turn.length i) st = fstep loss turn.length i st2 e := by
          rw [List.take_add_one, hpe, Option.toList_some, List.foldl_append, ← hst3]
          rfl
        have scoin : Sz 190 st2.1 := szB (by omega)
        have jl : j < pp.length := (List.getElem?_eq_some_iff.mp hpe).1
        -- the tail: coins += change
        have fin : ∀ (H6 : Hp) (ys3 : List V) (y10 : Option V), Same H H6 → H6 l = some (.lst ys3) → TDs H6 ys3 ((fstep loss turn.length i st2 e).2.map prD) → (fstep loss turn.length i st2 e).2.length ≤ i * 2000 + (j + 1) →
            Same H H6 ∧ ∃ st3 ys y8 y9 y10', st3 = (pp.take (j + 1)).foldl (fstep loss turn.length i) st ∧ H6 l = some (.lst ys) ∧ TDs H6 ys (st3.2.map prD) ∧ st3.2.length ≤ i * 2000 + (j + 1) ∧ st3.1.natAbs ≤ 2 ^ 180 + i * 2000 + (j + 1) ∧
              [some (V.ref a), some (.ref b), some (.int purse), some (.int loss), some (.int (st2.1 + e.2)), some (.ref l), some (.int (i : Nat)), some (.int m), some (.int e.1), some (.int e.2), y10] = [some (.ref a), some (.ref b), some (.int purse), some (.int loss), some (.int st3.1), some (.ref l), some (.int (i : Nat)), some (.int m), y8, y9, y10'] :=
          fun H6 ys3 y10 e6 h6 t6 l6 => ⟨e6, fstep loss turn.length i st2 e, ys3, _, _, _, hnext.symm, h6, t6, l6, by show (st2.1 + e.2).natAbs ≤ _; omega, rfl⟩
        have skip : ¬ (e.2 < 0 ∧ (st2.1 < 1 ∨ loss > 0)) → (fstep loss turn.length i st2 e).2 = st2.2 := fun c => by unfold fstep; rw [if_neg c]
        have nope : ¬ (e.2 < 0 ∧ (st2.1 < 1 ∨ loss > 0)) → TDs H5 ys2 ((fstep loss turn.length i st2 e).2.map prD) ∧ (fstep loss turn.length i st2 e).2.length ≤ i * 2000 + (j + 1) := fun c => by rw [skip c]; exact ⟨t5, by omega⟩
        have yes : ∀ tm : Int, e.2 < 0 ∧ (st2.1 < 1 ∨ loss > 0) → tm = (if st2.1 < 1 then 0 else (st2.1 - 1) / loss + 1) → ∀ t, H5 t = none → 
            TDs (upd (upd H5 t (.tup [.int (tm * (turn.length : Int) + (i : Nat)), .int e.1])) l (.lst (ys2 ++ [.ref t]))) (ys2 ++ [.ref t]) ((fstep loss turn.length i st2 e).2.map prD) ∧ (fstep loss turn.length i st2 e).2.length ≤ i * 2000 + (j + 1) := fun tm c htm t ht => by
          have e0 : (fstep loss turn.length i st2 e).2 = st2.2 ++ [(tm * (turn.length : Int) + (i : Nat), e.1)] := by unfold fstep; rw [if_pos c, htm]
          rw [e0, List.map_append, List.length_append, List.length_singleton]
          have tu : Tups (upd H5 t (.tup [.int (tm * (turn.length : Int) + (i : Nat)), .int e.1])) (upd (upd H5 t (.tup [.int (tm * (turn.length : Int) + (i : Nat)), .int e.1])) l (.lst (ys2 ++ [.ref t]))) := Kp.upd.tups (kp1 h5 ht)
          exact ⟨((t5.mono (L2.Same.tups (Same.new ht))).mono tu).snoc ((TD.mk upd_same (.cons (.int _) (.cons (.int _) .nil))).mono tu), by omega⟩
        have lys2 : ys2.length ≤ 40000 := by rw [t5.1, List.length_map]; omega
        have tail : ∀ (tm : Int), e.2 < 0 ∧ (st2.1 < 1 ∨ loss > 0) → tm = (if st2.1 < 1 then 0 else (st2.1 - 1) / loss + 1) → Sz 195 tm := fun tm c htm => by
          rw [htm]
          split
          · exact Sz.zero
          · exact Sz.add (a := 192) (b := 1) (Sz.div (Sz.sub scoin Sz.one (by omega) (by omega))) Sz.one (by omega) (by omega)
        refine ⟨_, rfl, _, _, rfl, rfl, _, rfl, iteD (fun c1 => ?_) fun c1 => ?_⟩
        case refine_2 =>
          obtain ⟨n1, n2⟩ := nope fun z => c1 z.1
          exact ⟨_, rfl, _, rfl, _, _, rfl, rfl, fin H5 ys2 y10 e5 h5 n1 n2⟩
        refine ⟨_, rfl, _, _, rfl, rfl, _, rfl, iteD (fun c2 => ?_) fun c2 => ?_⟩
        · have cc : e.2 < 0 ∧ (st2.1 < 1 ∨ loss > 0) := ⟨c1, .inl c2⟩
          have htm : (0 : Int) = (if st2.1 < 1 then 0 else (st2.1 - 1) / loss + 1) := by rw [if_pos c2]
          refine ⟨_, rfl, _, _, rfl, rfl, _, rfl, iteD (fun _ => ?_) (fun z => (z c2).elim)⟩
          refine ⟨_, rfl, .inl ⟨rfl, _, SqL.of h5⟩, _, rfl, _, rfl, b, _, rfl, .inl (SqL.of (e5 _ _ hb)), ?_⟩
          rw [List.length_map]
          refine ⟨_, _, rfl, rfl, (tail 0 cc htm).wide (Sz.bd (a := 8) (by omega) (by omega)) (by omega), _, rfl, _, _, rfl, rfl, _, rfl, line2, fun t ht => ⟨l, _, _, rfl, rfl, kp1 h5 ht, by omega, ?_⟩⟩
          obtain ⟨n1, n2⟩ := yes 0 cc htm t ht
          exact ⟨_, rfl, _, rfl, _, _, rfl, rfl, fin _ _ _ ((e5.trans (Same.new ht)).mut hHl) upd_same n1 n2⟩
        · refine ⟨_, rfl, _, _, rfl, rfl, _, rfl, ?_⟩
          by_cases c3 : loss > 0
          · refine iteY (by simpa using c3) ?_
            have cc : e.2 < 0 ∧ (st2.1 < 1 ∨ loss > 0) := ⟨c1, .inr c3⟩
            have htm : (st2.1 - 1) / loss + 1 = (if st2.1 < 1 then 0 else (st2.1 - 1) / loss + 1) := by rw [if_neg c2]
            refine ⟨_, rfl, _, _, rfl, rfl, _, rfl, iteD (fun z => (c2 z).elim) (fun _ => ?_)⟩
            refine ⟨_, rfl, _, _, rfl, rfl, _, rfl, _, _, rfl, rfl, wide_div c3 sls (by omega) (by omega), _, _, rfl, rfl, ?_⟩
            refine ⟨_, rfl, .inl ⟨rfl, _, SqL.of h5⟩, _, rfl, _, rfl, b, _, rfl, .inl (SqL.of (e5 _ _ hb)), ?_⟩
            rw [List.length_map]
            refine ⟨_, _, rfl, rfl, (tail _ cc htm).wide (Sz.bd (a := 8) (by omega) (by omega)) (by omega), _, rfl, _, _, rfl, rfl, _, rfl, line2, fun t ht => ⟨l, _, _, rfl, rfl, kp1 h5 ht, by omega, ?_⟩⟩
            obtain ⟨n1, n2⟩ := yes _ cc htm t ht
            exact ⟨_, rfl, _, rfl, _, _, rfl, rfl, fin _ _ _ ((e5.trans (Same.new ht)).mut hHl) upd_same n1 n2⟩
          · refine iteZ (by simpa using c3) ?_
            obtain ⟨n1, n2⟩ := nope fun z => z.2.elim c2 c3
            exact ⟨_, rfl, _, rfl, _, _, rfl, rfl, fin H5 ys2 y10 e5 h5 n1 n2⟩
      · rintro σ H5 ⟨e5, st2, ys2, y8, y9, y10, hst3, h5, t5, l5, b5, rfl⟩
        rw [lzs, List.take_length] at hst3
        rw [lzs] at l5 b5
        refine ⟨e5, st2, ys2, _, _, _, _, _, ?_, h5, t5, ?_, ?_, rfl⟩
        · rw [hst2, hst3]
        · rw [Nat.succ_mul]; omega
        · rw [Nat.succ_mul]; omega
    · rintro σ H3 ⟨e3, st, ys, y6, y7, y8, y9, y10, hst, h3, t3, l3, b3, rfl⟩
      rw [List.length_map] at hst l3
      refine ⟨_, rfl, h l ys H3 hHl e3 h3 ?_ (by rw [t3.1, List.length_map]; omega)⟩
      rw [hF, ← List.take_length (l := turn.zipIdx), List.length_zipIdx, ← hst]
      exact t3
end
end Tr
end
section
set_option Elab.async false
set_option linter.all false
set_option maxRecDepth 100000
set_option maxHeartbeats 4000000
namespace Tr
open PySem PySem.Spec PyProof.Rows L2
/-! ### mirrors -/
def ffl (pa : Pays) (e : List Int) (s : S) (l : List (Int × Nat)) : List (Int × Int × Int) := l.flatMap fun z => (fails pa (turnOf e z.1) (s.2.getD z.2 0)).map fun t => (t.1, t.2, (z.2 : Int))
def ff (s : S) (row : List Int) : List (Int × Int × Int) := ffl (flow s.1.length row).2 (endsOf s.1.length row) s s.1.zipIdx
def pmq (s : S) (row : List Int) : Option Int := match ff s row with
  | [] => none
  | p :: ps => some (min3 p ps).1
def pmV (s : S) (row : List Int) : V := match pmq s row with
  | none => .non
  | some m => .int m
def aft (pa : Pays) (e : List Int) (s : S) (k : Int) : S :=
  ((List.range s.1.length).map fun i => (turnOf e (s.1.getD i 0)).getD (k % ((turnOf e (s.1.getD i 0)).length : Int)).toNat 0,
   (List.range s.1.length).map fun i => s.2.getD i 0 + k / ((turnOf e (s.1.getD i 0)).length : Int) * (gn pa (turnOf e (s.1.getD i 0))).sum + ((gn pa (turnOf e (s.1.getD i 0))).take (k % ((turnOf e (s.1.getD i 0)).length : Int)).toNat).sum)
def afq (s : S) (row : List Int) (k : Int) : Except Er S := match pmq s row with
  | none => .ok (aft (flow s.1.length row).2 (endsOf s.1.length row) s k)
  | some m => if k > m then .error (.one 5 (.int m)) else .ok (aft (flow s.1.length row).2 (endsOf s.1.length row) s k)
theorem app_pm {pa : Pays} {k : Nat} {e : Int × Int} (h : ∀ p, p ∈ pa → ∀ x, x ∈ p → -1 ≤ x.2 ∧ x.2 ≤ 1) (he : -1 ≤ e.2 ∧ e.2 ≤ 1) : ∀ p, p ∈ app pa k e → ∀ x, x ∈ p → -1 ≤ x.2 ∧ x.2 ≤ 1 := fun p hp x hx => by
  rcases List.mem_or_eq_of_mem_set hp with hp | rfl
  · exact h p hp x hx
  · rcases List.mem_append.mp hx with hx | hx
    · rw [List.getD_eq_getElem?_getD] at hx
      cases e2 : pa[k]? with
      | none => rw [e2] at hx; cases hx
      | some q => rw [e2] at hx; exact h q (List.mem_of_getElem? e2) x hx
    · rw [List.mem_singleton.mp hx]
      exact he
theorem flN_pm (n : Nat) (row : List Int) : ∀ i, ∀ p, p ∈ (flN n row i).2 → ∀ x, x ∈ p → -1 ≤ x.2 ∧ x.2 ≤ 1
  | 0, p, h, x, hx => by
    have := List.eq_of_mem_replicate h
    subst this
    cases hx
  | i + 1, p, h, x, hx => app_pm (app_pm (flN_pm n row i) ⟨by show (-1 : Int) ≤ -1; decide, by show (-1 : Int) ≤ 1; decide⟩) ⟨by show (-1 : Int) ≤ 1; decide, by show (1 : Int) ≤ 1; decide⟩ p h x hx
theorem flow_pl {n : Nat} {row : List Int} (hl : row.length ≤ 1000) : ∀ p, p ∈ (flow n row).2 → p.length ≤ 2000 ∧ ∀ e, e ∈ p → -1 ≤ e.2 ∧ e.2 ≤ 1 := fun p hp =>
  ⟨Nat.le_trans (flN_plen n row _ p hp) (by omega), flN_pm n row _ p hp⟩
theorem flow_len (n : Nat) (row : List Int) : (flow n row).1.length = n ∧ (flow n row).2.length = n := flN_len n row _
theorem ends_len (n : Nat) (row : List Int) : (endsOf n row).length = n := by unfold endsOf; rw [sit_len, (flow_len n row).1]
theorem ends_rg {n : Nat} (hn : 1 ≤ n) (row : List Int) : ∀ x, x ∈ endsOf n row → 0 ≤ x ∧ x < n := fun x hx => by
  obtain ⟨a, b⟩ := sitN_rg (ss := (flow n row).1) _ (Nat.le_refl _) x hx
  rw [(flow_len n row).1] at b
  exact ⟨a, by omega⟩
theorem turn_mem {e : List Int} {n : Nat} (hl : e.length = n) (he : ∀ x, x ∈ e → 0 ≤ x ∧ x < n) {q : Int} (h0 : 0 ≤ q) (h1 : q < n) : ∀ x, x ∈ turnOf e q → 0 ≤ x ∧ x < n := fun x hx => by
  obtain ⟨j, _, rfl⟩ := List.mem_map.mp hx
  exact itr_rg hl he h0 h1 j
theorem turn_len {e : List Int} {q : Int} (h : Per e q) : 1 ≤ (turnOf e q).length ∧ (turnOf e q).length ≤ 16 := by
  obtain ⟨a, b, _⟩ := per_ok h
  unfold turnOf
  rw [orb_len]
  exact ⟨a, b⟩
/-- a row for n people; the purses below the line -/
structure Rw (n : Nat) (s : S) (row : List Int) : Prop where
  st : Rg n s
  len : row.length ≤ 1000
  rg : ∀ x, x ∈ row → 0 ≤ x ∧ x < n
  sz : Szs 180 s.2
  per : ∀ q : Int, 0 ≤ q → q < n → Per (endsOf n row) q
/-! ### promises -/
def spFirst (K : PySem.W.Frag) : Sp := fun vs H Q _ => ∃ (v : V) (a : Addr) (s : S) (row : List Int) (n : Nat), vs = [v, .ref a] ∧ TD H v (stD s) ∧ H a = some (.lst (row.map .int)) ∧ Rw n s row ∧
  match ff s row with
  | [] => ∀ H', Same H H' → Q .non H'
  | p :: ps => ∀ u H', Same H H' → Dp K H' u (t3 (min3 p ps)) → Q u H'
def spPM : Sp := fun vs H Q _ => ∃ (v : V) (a : Addr) (s : S) (row : List Int) (n : Nat), vs = [v, .ref a] ∧ TD H v (stD s) ∧ H a = some (.lst (row.map .int)) ∧ Rw n s row ∧ ∀ H', Same H H' → Q (pmV s row) H'
def spAft (K : PySem.W.Frag) : Sp := fun vs H Q E => ∃ (v : V) (a : Addr) (s : S) (row : List Int) (n : Nat) (k : Int), vs = [v, .ref a, .int k] ∧ TD H v (stD s) ∧ H a = some (.lst (row.map .int)) ∧ Rw n s row ∧ 0 ≤ k ∧ Sz 210 k ∧
  Gives K H E (afq s row k) fun t => ∀ u H', Same H H' → TD H' u (stD t) → Q u H'
section
variable {P : Program} {w : World} {K : PySem.W.Frag} {mg : Str → Option Value} {base : Heap}
theorem sc_first_failure : FnScope ["state", "row", "payments", "ends", "found", "person", "seat", "some", "times", "index"] ["state", "row"] (defScope s_first_failure) := ⟨rfl, rfl, rfl, by decide +kernel, rfl, by decide +kernel, by decide +kernel⟩
theorem ok_first_failure (T : Tx K mg) : FnOk P w K mg base CX0 3 (He.ga K "first_failure") (fdOf K (He.ga K "first_failure")) ["state", "row"] (spFirst K) := by
  refine T.F_first_failure.ok sc_first_failure (fun vs H Q E h => ?_) (fun cdv A outer s H vs Q E hr h => ?_)
  · obtain ⟨v, a, s, row, n, rfl, _⟩ := h
    rfl
  · obtain ⟨v, a, s, row, n, rfl, hv, ha, hw, h⟩ := h
    refine ⟨_, PSs.nox (pss_cons (ps_asg (pe_call (ok_flows T) (hr.mono (by decide)) rfl T.g_flows T.F_flows.kp T.b_f_flows .nil pass0 (pa_cons (pv 1) (pa_cons (pe_call (ok_people_many T) (hr.mono (by decide)) rfl T.g_people_many T.F_people_many.kp T.b_f_people_many .nil pass0 (pa_cons (pv 0) pa_nil)) pa_nil))) (pg_tup rfl (pgs_cons (pg_name (i := 2) sc_first_failure.nd rfl (Or.inl rfl)) (pgs_cons (pg_name (i := 3) sc_first_failure.nd rfl (Or.inl rfl)) pgs_nil))))
      (pss_cons (ps_set (i := 4) sc_first_failure.nd rfl (Or.inl rfl) (pe_lst pa_nil))
      (pss_cons (ps_for PassesOwn.never rfl (pi_enumT rfl T.b_enumerate (pa_cons (pe_ix ix_tup (pv 0) pe_int (fun _ _ => rfl)) pa_nil)) (pg_tup rfl (pgs_cons (pg_name (i := 5) sc_first_failure.nd rfl (Or.inr rfl)) (pgs_cons (pg_name (i := 6) sc_first_failure.nd rfl (Or.inl rfl)) pgs_nil)))
        (pss_cons (ps_set (i := 7) sc_first_failure.nd rfl (Or.inl rfl) (pe_call (ok_failures T) (hr.mono (by decide)) rfl T.g_failures T.F_failures.kp T.b_f_failures .nil pass0 (pa_cons (pv 2) (pa_cons (pe_call (ok_turn_from T) (hr.mono (by decide)) rfl T.g_turn_from T.F_turn_from.kp T.b_f_turn_from .nil pass0 (pa_cons (pv 3) (pa_cons (pv 6) pa_nil))) (pa_cons (pe_ix ix_tup (pe_ix ix_tup (pv 0) pe_int (fun _ _ => rfl)) (pv 5) (fun _ _ => rfl)) pa_nil)))))
      (pss_one (ps_expr (pe_bm PySem.F.plainAttrs_list PySem.F.slot_list_extend PySem.F.type_list_extend mt_extend (pv 4) (pa_cons (pe_lc (own := [("times", 8), ("index", 9)]) (g := gTup K 2 (gCons (gName 8) (gCons (gName 9) gNil))) rfl sc_first_failure.nd (pi_list (pv 7)) (blkOk_by (own := [("times", 8), ("index", 9)]) (N := ["state", "row", "payments", "ends", "found", "person", "seat", "some", "times", "index"]) (by kernel_rfl)) (fun _ _ _ _ _ => (pg_tup rfl (pgs_cons (pg_name (i := 8) sc_first_failure.nd rfl (Or.inl rfl)) (pgs_cons (pg_name (i := 9) sc_first_failure.nd rfl (Or.inl rfl)) pgs_nil)))) (fun _ _ _ _ _ => pts_nil) (fun _ _ _ _ _ => (pe_tup (pa_cons (pv 8) (pa_cons (pv 9) (pa_cons (pv 5) pa_nil)))))) pa_nil))))))
      (pss_one (ps_ret (pe_ifExp (pt_cmpR op_gt (pe_callB call_len_seq rfl T.b_len bt_len (pa_cons (pv 4) pa_nil)) pe_int (nomark _)) (pe_callB (call_minT rfl hr.units) rfl T.b_min bt_min (pa_cons (pv 4) pa_nil)) pe_non)))))), ?_⟩
    have ez := sizeLine_eq
    have hn := hw.st
    have l1 := hn.l1
    have l2 := hn.l2
    have np := hn.pos
    have nt := hn.top
    refine ⟨_, rfl, _, rfl, v, s, rfl, hv, a, row, n, by rw [← l1]; rfl, ha, np, nt, hw.len, hw.rg, fun t pm en H1 ht e1 h1 hpy hen => gp2 h1 ?_⟩
    refine ⟨line0, fun l hl => ?_⟩
    have e2 : Same H (upd H1 l (.lst [])) := e1.trans (Same.new hl)
    have hHl : H l = none := e1.none hl
    have h2 : upd H1 l (.lst []) l = some (.lst []) := upd_same
    have hpy2 := hpy.mono (Same.new (o := .lst []) hl)
    have hen2 := kp1 (u := .lst []) hen hl
    have enl : en ≠ l := ne_of_none hen hl
    have H2s : Same H1 (upd H1 l (.lst [])) := Same.new hl
    generalize upd H1 l (.lst []) = H2 at *
    obtain ⟨va, vb, vc, rfl, hva, hvb, hvc⟩ := TD.st hv
    refine ⟨_, rfl, va, _, _, _, rfl, rfl, SqT.of (e2 _ _ hva), atI_nat (j := 0) rfl, vb, _, rfl, SqT.of (e2 _ _ hvb), ?_⟩
    refine for_prs (prs_enumT (xs := s.1.map V.int)) (fun i σ H' => Same H1 H' ∧ ∃ ys y5 y6 y7 y8 y9, H' l = some (.lst ys) ∧ TDs H' ys ((ffl (flow n row).2 (endsOf n row) s (s.1.zipIdx.take i)).map t3) ∧ ys.length ≤ i * 32000 ∧
      σ = [some (.ref va), some (.ref a), some (.ref pm), some (.ref en), some (.ref l), y5, y6, y7, y8, y9])
      ⟨H2s, [], _, _, _, _, _, h2, .nil, Nat.zero_le _, rfl⟩ (fun i σ H' _ q => SqT.of (q.1 _ _ (e1 _ _ hvb))) ?_ ?_
    · rintro i x y σ H3 H4 hi ⟨rfl, hy⟩ ⟨e3, ys, y5, y6, y7, y8, y9, h3, t3', l3, rfl⟩ e4
      obtain ⟨m, rfl, hm⟩ := int_get hy
      rw [List.length_map] at hi
      obtain ⟨m0, m1⟩ := hn.rg m (List.mem_of_getElem? hm)
      have e5 := e3.trans e4
      have e6 := e1.trans e5
      obtain ⟨pu, hpu⟩ := get_lt (xs := s.2) (i := i) (by omega)
      refine ⟨_, rfl, _, rfl, _, rfl, en, endsOf n row, m, n, rfl, e5 _ _ hen, ends_len n row, ends_rg np row, m0, m1, hw.per m m0 m1, fun tu H5 htu e7 h5 => ?_⟩
      have e8 := e6.trans e7
      refine ⟨_, rfl, va, _, _, _, rfl, rfl, SqT.of (e8 _ _ hva), atI_nat (j := 1) rfl, _, rfl, vc, _, _, _, rfl, rfl, SqT.of (e8 _ _ hvc), atI_nat (get_int hpu), ?_⟩
      refine ⟨pm, tu, (flow n row).2, turnOf (endsOf n row) m, pu, rfl, hpy.mono (e5.trans e7), h5, (turn_len (hw.per m m0 m1)).2, ?_, flow_pl hw.len, hw.sz.get hpu, fun p zs H6 hp e9 h6 t6 lz => ?_⟩
      · rw [(flow_len n row).2]
        exact turn_mem (ends_len n row) (ends_rg np row) m0 m1
      have e10 := (e5.trans e7).trans e9
      have h3' := e9 _ _ (e7 _ _ (e4 _ _ h3))
      have t3'' := ((t3'.mono e4.tups).mono e7.tups).mono e9.tups
      have hzi : s.1.zipIdx[i]? = some (m, i) := by rw [List.getElem?_zipIdx, hm]; simp
      refine ⟨_, rfl, .inl ⟨rfl, _, SqL.of h3'⟩, _, rfl, p, rfl, ⟨_, SqL.of h6⟩, fun D hD => ?_⟩
      have lzf : zs.length = (fails (flow n row).2 (turnOf (endsOf n row) m) pu).length := by rw [t6.1, List.length_map]
      generalize hF : fails (flow n row).2 (turnOf (endsOf n row) m) pu = F at *
      refine lc_pair (sng_list (xs := zs)) (fun _ => true) (fun j => t3 ((F.getD j (0, 0)).1, (F.getD j (0, 0)).2, (i : Int))) (fun j u v => u = .int (F.getD j (0, 0)).1 ∧ v = .int (F.getD j (0, 0)).2) ?_ ?_ ?_ ?_ ?_ ?_ hD
      · omega
      · exact fun H' e => SqL.of (e _ _ h6)
      · rintro j x H' hj hx e
        obtain ⟨pr, hpr⟩ := get_lt (xs := F) (i := j) (by omega)
        have hpd : (F.map prD)[j]? = some (prD pr) := by rw [List.getElem?_map, hpr]; rfl
        obtain ⟨T2, vs2, rfl, hT, hz⟩ := TD.un ((t6.2 j x _ hx hpd).mono e.tups)
        have hl2 := hz.1
        match vs2, hl2 with
        | [u, v], _ =>
          refine ⟨T2, u, v, rfl, hT, ?_⟩
          rw [getD_of hpr]
          exact ⟨hz.head.i, hz.tail.head.i⟩
      · exact fun j x y H' _ _ _ Q q => q _ (Same.refl _)
      · rintro j x y H' hj ⟨rfl, rfl⟩ e _ Q q
        exact ⟨_, rfl, _, rfl, _, rfl, line3, fun t ht => q _ _ (Same.new ht) (TD.mk upd_same (.cons (.int _) (.cons (.int _) (.cons (.int _) .nil))))⟩
      intro ws H7 e11 h7 t7
      rw [lzf, pick_list (l := F) (d0 := (0, 0)) (fun _ => true) (fun p => t3 (p.1, p.2, (i : Int))), List.filter_eq_self.mpr (fun _ _ => rfl)] at t7
      have lws : ws.length ≤ 32000 := by rw [t7.1, List.length_map]; omega
      have il : i * 32000 ≤ 15 * 32000 := Nat.mul_le_mul_right _ (by omega)
      refine ⟨l, D, _, _, rfl, rfl, e11 _ _ h3', h7, by omega, ?_⟩
      have tu : Tups H7 (upd H7 l (.lst (ys ++ ws))) := Kp.upd.tups (e11 _ _ h3')
      have hl1 : H1 l = none := hl
      refine ⟨(e10.trans e11).mut hl1, ys ++ ws, _, _, _, _, _, upd_same, ?_, by rw [List.length_append, Nat.succ_mul]; omega, rfl⟩
      rw [List.take_add_one, hzi, Option.toList_some]
      have ea : ffl (flow n row).2 (endsOf n row) s (s.1.zipIdx.take i ++ [(m, i)]) = ffl (flow n row).2 (endsOf n row) s (s.1.zipIdx.take i) ++ F.map fun t => (t.1, t.2, (i : Int)) := by
        unfold ffl
        rw [List.flatMap_append]
        congr 1
        rw [List.flatMap_singleton]
        show (fails _ _ (s.2.getD i 0)).map _ = _
        rw [getD_of hpu, hF]
      rw [ea, List.map_append, List.map_map]
      exact ((t3''.mono e11.tups).mono tu).append (t7.mono tu)
    · rintro σ H3 ⟨e3, ys, y5, y6, y7, y8, y9, h3, t3', l3, rfl⟩
      have eff : ffl (flow n row).2 (endsOf n row) s (s.1.zipIdx.take (s.1.map V.int).length) = ff s row := by
        unfold ff
        rw [List.length_map, l1, List.take_of_length_le (by rw [List.length_zipIdx]; omega)]
      rw [eff] at t3'
      have e4 := e1.trans e3
      have lys : ys.length = (ff s row).length := by rw [t3'.1, List.length_map]
      refine ⟨_, rfl, l, _, rfl, .inl (SqL.of h3), _, _, rfl, rfl, _, rfl, ?_⟩
      cases hff : ff s row with
      | nil =>
        rw [hff] at h lys
        exact iteZ (by rw [lys]; rfl) (h _ e4)
      | cons p ps =>
        rw [hff] at h lys t3'
        refine iteY (by rw [lys]; simp) ?_
        exact ⟨_, rfl, l, ys, p, ps, rfl, SqL.of h3, t3'.dp, fun u hu => h u _ e4 hu⟩
theorem sc_passes_many : FnScope ["state", "row", "found"] ["state", "row"] (defScope s_passes_many) := ⟨rfl, rfl, rfl, by decide +kernel, rfl, by decide +kernel, by decide +kernel⟩
theorem ok_passes_many (T : Tx K mg) : FnOk P w K mg base CX0 4 (He.ga K "passes_many") (fdOf K (He.ga K "passes_many")) ["state", "row"] spPM := by
  refine T.F_passes_many.ok sc_passes_many (fun vs H Q E h => ?_) (fun cdv A outer s H vs Q E hr h => ?_)
  · obtain ⟨v, a, s, row, n, rfl, _⟩ := h
    rfl
  · obtain ⟨v, a, s, row, n, rfl, hv, ha, hw, h⟩ := h
    refine ⟨_, PSs.nox (pss_cons (ps_set (i := 2) sc_passes_many.nd rfl (Or.inl rfl) (pe_call (ok_first_failure T) (hr.mono (by decide)) rfl T.g_first_failure T.F_first_failure.kp T.b_f_first_failure .nil pass0 (pa_cons (pv 0) (pa_cons (pv 1) pa_nil))))
      (pss_one (ps_ret (pe_ifExp (pt_cmpR op_isN (pv 2) pe_non (nomark _)) pe_non (pe_ix ix_tup (pv 2) pe_int (fun _ _ => rfl)))))), ?_⟩
    refine ⟨_, rfl, _, rfl, v, a, s, row, n, rfl, hv, ha, hw, ?_⟩
    unfold pmV pmq at h
    cases hff : ff s row with
    | nil =>
      rw [hff] at h
      exact fun H1 e1 => ⟨_, rfl, rfl, _, rfl, iteY (by simp) (h _ e1)⟩
    | cons p ps =>
      rw [hff] at h
      intro u H1 e1 hu
      obtain ⟨b, xs, rfl, hb, hx⟩ : ∃ b xs, u = .ref b ∧ SqT K H1 b xs ∧ xs[0]? = some (.int (min3 p ps).1) := by
        cases hu with
        | tup hs hd =>
          cases hd with
          | cons d0 _ =>
            cases d0
            exact ⟨_, _, rfl, hs, rfl⟩
      exact ⟨_, rfl, rfl, _, rfl, iteZ (by simp) ⟨_, rfl, b, xs, _, _, rfl, rfl, hb, atI_nat (j := 0) hx, h _ e1⟩⟩
theorem cut_take {xs : List V} {j : Int} (h0 : 0 ≤ j) : cutV xs none (some j) = xs.take j.toNat := by
  unfold cutV
  have e : HT.sIx xs.length xs.length (some j) = min j.toNat xs.length := by
    have := HT.sIx_nat xs.length xs.length j.toNat
    rw [Int.toNat_of_nonneg h0] at this
    exact this
  rw [e, HT.sIx_none, List.drop_zero, Nat.sub_zero]
  by_cases c : j.toNat ≤ xs.length
  · rw [Nat.min_eq_left c]
  · rw [Nat.min_eq_right (by omega), List.take_of_length_le (Nat.le_refl _), List.take_of_length_le (by omega)]
theorem sc_after_passes : FnScope ["state", "row", "many", "most", "payments", "ends", "seats", "purses", "seat", "purse", "turn", "won", "rounds", "rest"] ["state", "row", "many"] (defScope s_after_passes) := ⟨rfl, rfl, rfl, by decide +kernel, rfl, by decide +kernel, by decide +kernel⟩
theorem ok_after_passes (T : Tx K mg) (Z : Ex K) : FnOk P w K mg base (L2.CX P w) 5 (He.ga K "after_passes") (fdOf K (He.ga K "after_passes")) ["state", "row", "many"] (spAft K) := by
  refine T.F_after_passes.ok sc_after_passes (fun vs H Q E h => ?_) (fun cdv A outer s H vs Q E hr h => ?_)
  · obtain ⟨v, a, s, row, n, k, rfl, _⟩ := h
    rfl
  · obtain ⟨v, a, s, row, n, k, rfl, hv, ha, hw, hk, sk, h⟩ := h
    refine ⟨_, (pss_cons (ps_set (i := 3) sc_after_passes.nd rfl (Or.inl rfl) (pe_call (ok_passes_many T) (hr.mono (by decide)) rfl T.g_passes_many T.F_passes_many.kp T.b_f_passes_many .nil pass0 (pa_cons (pv 0) (pa_cons (pv 1) pa_nil))))
      (pss_cons (ps_if (PW.pt (pw_and (pt_cmpR op_notN (pv 3) pe_non (nomark _)) (pw_and1 (pt_cmpR op_gt (pv 2) (pv 3) (nomark _))))) (pss_one (ps_raise rfl (takes_of rfl rfl rfl rfl) (mk_Stops T Z (hr.mono (by decide)) rfl (pa_cons (pv 3) pa_nil)))) pss_nil)
      (pss_cons (ps_asg (pe_call (ok_flows T) (hr.mono (by decide)) rfl T.g_flows T.F_flows.kp T.b_f_flows .nil pass0 (pa_cons (pv 1) (pa_cons (pe_call (ok_people_many T) (hr.mono (by decide)) rfl T.g_people_many T.F_people_many.kp T.b_f_people_many .nil pass0 (pa_cons (pv 0) pa_nil)) pa_nil))) (pg_tup rfl (pgs_cons (pg_name (i := 4) sc_after_passes.nd rfl (Or.inl rfl)) (pgs_cons (pg_name (i := 5) sc_after_passes.nd rfl (Or.inl rfl)) pgs_nil))))
      (pss_cons (ps_par (i := 6) (j := 7) rfl sc_after_passes.nd rfl rfl (by decide) rfl rfl (pa_cons (pe_lst pa_nil) (pa_cons (pe_lst pa_nil) pa_nil)) (by rfl))
      (pss_cons (ps_for (passes_of rfl) rfl (RZ.pi_zipA rfl T.b_zip (pa_cons (pe_ix ix_tup (pv 0) pe_int (fun _ _ => rfl)) (pa_cons (pe_ix ix_tup (pv 0) pe_int (fun _ _ => rfl)) pa_nil))) (pg_tup rfl (pgs_cons (pg_name (i := 8) sc_after_passes.nd rfl (Or.inl rfl)) (pgs_cons (pg_name (i := 9) sc_after_passes.nd rfl (Or.inl rfl)) pgs_nil)))
        (pss_cons (ps_set (i := 10) sc_after_passes.nd rfl (Or.inl rfl) (pe_call (ok_turn_from T) (hr.mono (by decide)) rfl T.g_turn_from T.F_turn_from.kp T.b_f_turn_from .nil pass0 (pa_cons (pv 5) (pa_cons (pv 8) pa_nil))))
      (pss_cons (ps_asg (pe_tup (pa_cons (pe_call (ok_gains T) (hr.mono (by decide)) rfl T.g_gains T.F_gains.kp T.b_f_gains .nil pass0 (pa_cons (pv 4) (pa_cons (pv 10) pa_nil))) (pa_cons (pe_callB call_divmod rfl T.b_divmod bt_divmod (pa_cons (pv 2) (pa_cons (pe_callB call_len_seq rfl T.b_len bt_len (pa_cons (pv 10) pa_nil)) pa_nil))) pa_nil))) (pg_tup rfl (pgs_cons (pg_name (i := 11) sc_after_passes.nd rfl (Or.inl rfl)) (pgs_cons (pg_tup rfl (pgs_cons (pg_name (i := 12) sc_after_passes.nd rfl (Or.inl rfl)) (pgs_cons (pg_name (i := 13) sc_after_passes.nd rfl (Or.inl rfl)) pgs_nil))) pgs_nil))))
      (pss_cons (ps_expr (pe_bm PySem.F.plainAttrs_list PySem.F.slot_list_append PySem.F.type_list_append mt_append (pv 6) (pa_cons (pe_ix ix_list (pv 10) (pv 13) (fun _ _ => rfl)) pa_nil)))
      (pss_one (ps_expr (pe_bm PySem.F.plainAttrs_list PySem.F.slot_list_append PySem.F.type_list_append mt_append (pv 7) (pa_cons (pe_op op_add (pe_op op_add (pv 9) (pe_op op_mulW (pv 12) (pe_callB (cr_sum rfl) rfl T.b_sum bt_sum (pa_cons (pv 11) pa_nil)))) (pe_callB (cr_sum rfl) rfl T.b_sum bt_sum (pa_cons (pe_slice sl_list (pv 11) po_none (po_some (pv 13))) pa_nil))) pa_nil))))))))
      (pss_one (ps_ret (pe_tup (pa_cons (pe_callTy call_tuple_of rfl T.b_tuple bt_tuple (pa_cons (pv 6) pa_nil)) (pa_cons (pe_callTy call_tuple_of rfl T.b_tuple bt_tuple (pa_cons (pv 7) pa_nil)) pa_nil)))))))))), ?_⟩
    have ez := sizeLine_eq
    have hn := hw.st
    have l1 := hn.l1
    have l2 := hn.l2
    have np := hn.pos
    have nt := hn.top
    refine ⟨_, rfl, _, rfl, v, a, s, row, n, rfl, hv, ha, hw, fun H1 e1 => ?_⟩
    -- the rest, where nothing stops it
    have key : afq s row k = .ok (aft (flow s.1.length row).2 (endsOf s.1.length row) s k) → ∀ u H', Same H H' → TD H' u (stD (aft (flow n row).2 (endsOf n row) s k)) → Q u H' := fun e => by
      rw [e] at h
      rw [← l1]
      exact h
    have hS : ∀ m, pmq s row = some m → k > m → ∀ d, H1 d = none → E (.ref (He.ga K (exN 5))) (some d) (upd H1 d (.xd [("many", .int m)])) := fun m hm hk2 d hd => by
      have e : afq s row k = .error (.one 5 (.int m)) := by unfold afq; rw [hm]; exact if_pos hk2
      rw [e] at h
      exact h _ _ _ (e1.trans (Same.new hd)) ⟨rfl, d, rfl, upd_same⟩
    refine ⟨_, rfl, rfl, _, rfl, ?_⟩
    have go : afq s row k = .ok (aft (flow s.1.length row).2 (endsOf s.1.length row) s k) → True := fun _ => trivial
    cases hpm : pmq s row with
    | none =>
      have hpv : pmV s row = .non := by unfold pmV; rw [hpm]
      have hok : afq s row k = .ok (aft (flow s.1.length row).2 (endsOf s.1.length row) s k) := by unfold afq; rw [hpm]
      rw [hpv]
      refine iteZ (by simp) ?_
      have key2 := key hok
      refine ⟨_, rfl, _, rfl, v, s, rfl, hv.mono e1.tups, a, row, n, by rw [← l1]; rfl, e1 _ _ ha, np, nt, hw.len, hw.rg, fun t pm en H2 ht e2 h2 hpy hen => gp2 h2 ?_⟩
      refine ⟨line0, fun ls hls => ⟨line0, fun lp hlp => ⟨_, _, rfl, ?_⟩⟩⟩
      have e3 : Same H (upd (upd H2 ls (.lst [])) lp (.lst [])) := ((e1.trans e2).trans (Same.new hls)).trans (Same.new hlp)
      have hHls : H ls = none := (e1.trans e2).none hls
      have hHlp : H lp = none := ((e1.trans e2).trans (Same.new hls)).none hlp
      have hs3 : upd (upd H2 ls (.lst [])) lp (.lst []) ls = some (.lst []) := kp1 upd_same hlp
      have hp3 : upd (upd H2 ls (.lst [])) lp (.lst []) lp = some (.lst []) := upd_same
      have nlp : ls ≠ lp := ne_of_none upd_same hlp
      have s23 : Same H2 (upd (upd H2 ls (.lst [])) lp (.lst [])) := (Same.new hls).trans (Same.new hlp)
      have h2ls : H2 ls = none := hls
      have h2lp : H2 lp = none := (Same.new hls).none hlp
      generalize upd (upd H2 ls (.lst [])) lp (.lst []) = H3 at *
      obtain ⟨va, vb, vc, rfl, hva, hvb, hvc⟩ := TD.st hv
      refine ⟨_, rfl, va, _, _, _, rfl, rfl, SqT.of (e3 _ _ hva), atI_nat (j := 0) rfl, _, rfl, va, _, _, _, rfl, rfl, SqT.of (e3 _ _ hva), atI_nat (j := 1) rfl, vb, vc, _, _, rfl, .inr ⟨SqT.of (e3 _ _ hvb), SqT.of (e3 _ _ hvc), ?_⟩⟩
      have e12 := e1.trans e2
      refine for_prs (prs_zipT (xs := s.1.map V.int) (ys := s.2.map V.int) (by rw [List.length_map, List.length_map, l1, l2])) (fun i σ H' => Same H2 H' ∧ ∃ y8 y9 y10 y11 y12 y13, H' ls = some (.lst (((aft (flow n row).2 (endsOf n row) s k).1.take i).map .int)) ∧ H' lp = some (.lst (((aft (flow n row).2 (endsOf n row) s k).2.take i).map .int)) ∧
          σ = [some (.ref va), some (.ref a), some (.int k), some (pmV s row), some (.ref pm), some (.ref en), some (.ref ls), some (.ref lp), y8, y9, y10, y11, y12, y13])
        ⟨s23, none, none, none, none, none, none, hs3, hp3, by rw [hpv]; rfl⟩ (fun i σ H' _ q => ⟨SqT.of ((e12.trans q.1) _ _ hvb), SqT.of ((e12.trans q.1) _ _ hvc)⟩) ?_ ?_
      · rintro i x y σ H4 H5 hi ⟨hx, hy⟩ ⟨e4, y8, y9, y10, y11, y12, y13, hs4, hp4, rfl⟩ e5
        obtain ⟨m', rfl, hm'⟩ := int_get hx
        obtain ⟨pu, rfl, hpu⟩ := int_get hy
        rw [List.length_map] at hi
        obtain ⟨m0, m1⟩ := hn.rg m' (List.mem_of_getElem? hm')
        have e6 := e4.trans e5
        have hper := hw.per m' m0 m1
        obtain ⟨tl1, tl2⟩ := turn_len hper
        refine ⟨_, rfl, _, rfl, en, endsOf n row, m', n, rfl, e6 _ _ hen, ends_len n row, ends_rg np row, m0, m1, hper, fun tu H6 htu e7 h6 => ?_⟩
        refine ⟨_, rfl, _, rfl, pm, tu, (flow n row).2, turnOf (endsOf n row) m', rfl, hpy.mono (e6.trans e7), h6, tl2, ?_, fun p hp => (flow_pl hw.len p hp).1, fun wn H7 hwn e8 h7 => ?_⟩
        · rw [(flow_len n row).2]
          exact turn_mem (ends_len n row) (ends_rg np row) m0 m1
        have h6' := e8 _ _ h6
        have nlw : ls ≠ wn := ne_of_none (e7 _ _ (e5 _ _ hs4)) hwn
        have eaft1 : (aft (flow n row).2 (endsOf n row) s k).1[i]? = some ((turnOf (endsOf n row) m').getD (k % ((turnOf (endsOf n row) m').length : Int)).toNat 0) := by
          unfold aft
          rw [List.getElem?_map, List.getElem?_range (by omega), Option.map_some, getD_of hm']
        have eaft2 : (aft (flow n row).2 (endsOf n row) s k).2[i]? = some (pu + k / ((turnOf (endsOf n row) m').length : Int) * (gn (flow n row).2 (turnOf (endsOf n row) m')).sum + ((gn (flow n row).2 (turnOf (endsOf n row) m')).take (k % ((turnOf (endsOf n row) m').length : Int)).toNat).sum) := by
          unfold aft
          rw [List.getElem?_map, List.getElem?_range (by omega), Option.map_some, getD_of hm', getD_of hpu]
        generalize hTU : turnOf (endsOf n row) m' = TU at *
        have sgn := gn_sz (pa := (flow n row).2) (flow_pl hw.len) TU
        generalize hWN : gn (flow n row).2 TU = WN at *
        have lWN : WN.length = TU.length := by rw [← hWN]; unfold gn; rw [List.length_map]
        have r0 := Int.emod_nonneg k (b := (TU.length : Int)) (by omega)
        have r1 := Int.emod_lt_of_pos k (b := (TU.length : Int)) (by omega)
        refine ⟨_, rfl, _, rfl, tu, _, rfl, .inl (SqL.of h6'), ?_⟩
        rw [List.length_map]
        refine ⟨_, _, rfl, ⟨by omega, by omega⟩, fun dm hdm => ⟨line2, fun z hz => ?_⟩⟩
        refine ⟨z, _, rfl, SqT.of upd_same, rfl, _, _, rfl, _, _, rfl, dm, _, rfl, SqT.of (kp1 upd_same hz), rfl, _, _, rfl, _, _, rfl, rfl, rfl, ?_⟩
        have e9 : Same H2 (upd (upd H7 dm (.tup [.int (k / (TU.length : Int)), .int (k % (TU.length : Int))])) z (.tup [.ref wn, .ref dm])) := (((e6.trans e7).trans e8).trans (Same.new hdm)).trans (Same.new hz)
        have hs9 := kp1 (u := .tup [.ref wn, .ref dm]) (kp1 (u := .tup [.int (k / (TU.length : Int)), .int (k % (TU.length : Int))]) (e8 _ _ (e7 _ _ (e5 _ _ hs4))) hdm) hz
        have hp9 := kp1 (u := .tup [.ref wn, .ref dm]) (kp1 (u := .tup [.int (k / (TU.length : Int)), .int (k % (TU.length : Int))]) (e8 _ _ (e7 _ _ (e5 _ _ hp4))) hdm) hz
        have ht9 := kp1 (u := .tup [.ref wn, .ref dm]) (kp1 (u := .tup [.int (k / (TU.length : Int)), .int (k % (TU.length : Int))]) h6' hdm) hz
        have hw9 := kp1 (u := .tup [.ref wn, .ref dm]) (kp1 (u := .tup [.int (k / (TU.length : Int)), .int (k % (TU.length : Int))]) h7 hdm) hz
        generalize upd (upd H7 dm (.tup [.int (k / (TU.length : Int)), .int (k % (TU.length : Int))])) z (.tup [.ref wn, .ref dm]) = H9 at *
        obtain ⟨sq, hsq⟩ := get_lt (xs := TU) (i := (k % (TU.length : Int)).toNat) (by omega)
        rw [getD_of hsq] at eaft1
        refine ⟨_, rfl, .inl ⟨rfl, _, SqL.of hs9⟩, _, rfl, _, rfl, tu, _, _, _, rfl, rfl, SqL.of ht9, atI_of r0 (get_int hsq), ls, _, _, rfl, rfl, hs9, ?_, ?_⟩
        · rw [List.length_map, List.length_take]; omega
        have e10 := e9.mut (o := .lst (((aft (flow n row).2 (endsOf n row) s k).1.take i).map V.int ++ [.int sq])) h2ls
        have hw10 := (upd_ne (H := H9) (o := .lst (((aft (flow n row).2 (endsOf n row) s k).1.take i).map V.int ++ [.int sq])) nlw.symm).trans hw9
        have hp10 := (upd_ne (H := H9) (o := .lst (((aft (flow n row).2 (endsOf n row) s k).1.take i).map V.int ++ [.int sq])) nlp.symm).trans hp9
        have hs10 : upd H9 ls (.lst (((aft (flow n row).2 (endsOf n row) s k).1.take i).map V.int ++ [.int sq])) ls = some (.lst (((aft (flow n row).2 (endsOf n row) s k).1.take (i + 1)).map V.int)) := by
          rw [upd_same, List.take_add_one, eaft1, Option.toList_some, List.map_append]
          rfl
        generalize upd H9 ls (.lst (((aft (flow n row).2 (endsOf n row) s k).1.take i).map V.int ++ [.int sq])) = H10 at *
        refine ⟨_, rfl, .inl ⟨rfl, _, SqL.of hp10⟩, _, rfl, _, rfl, _, rfl, wn, _, rfl, SqL.of hw10, _, _, rfl, rfl, ?_, _, _, rfl, rfl, _, rfl, _, rfl, _, rfl, wn, _, rfl, SqL.of hw10, fun c hc => ?_⟩
        · refine Sz.wide (a := 210) (b := 2040) (Sz.div sk) (Szs.sum sgn (by omega)) (by omega)
        rw [cut_take r0, ← List.map_take]
        refine ⟨c, _, rfl, SqL.of upd_same, _, _, rfl, rfl, lp, _, _, rfl, rfl, kp1 hp10 hc, ?_, ?_⟩
        · rw [List.length_map, List.length_take]; omega
        refine ⟨(e10.trans (Same.new hc)).mut h2lp, _, _, _, _, _, _, (upd_ne nlp).trans (kp1 hs10 hc), ?_, rfl⟩
        rw [upd_same, List.take_add_one, eaft2, Option.toList_some, List.map_append]
        rfl
      · rintro σ H4 ⟨e4, y8, y9, y10, y11, y12, y13, hs4, hp4, rfl⟩
        rw [List.length_map, List.take_of_length_le (by unfold aft; rw [List.length_map, List.length_range]; omega)] at hs4 hp4
        refine ⟨_, rfl, ls, _, rfl, .inl ⟨SqL.of hs4, fun q1 hq1 => ?_⟩⟩
        refine ⟨_, rfl, lp, _, rfl, .inl ⟨SqL.of (kp1 hp4 hq1), fun q2 hq2 => ⟨line2, fun q3 hq3 => ?_⟩⟩⟩
        refine key2 _ _ (((((e12).trans e4).trans (Same.new hq1)).trans (Same.new hq2)).trans (Same.new hq3)) (TD.ofSt upd_same ?_ ?_)
        · exact kp1 (kp1 upd_same hq2) hq3
        · exact kp1 upd_same hq3
    | some m =>
      have hpv : pmV s row = .int m := by unfold pmV; rw [hpm]
      rw [hpv]
      refine iteY (by simp) ⟨_, rfl, _, rfl, _, _, rfl, rfl, _, rfl, iteD (fun c => ?_) fun c => ?_⟩
      · exact ⟨_, rfl, mk1_of (hS m hpm c)⟩
      · have hok : afq s row k = .ok (aft (flow s.1.length row).2 (endsOf s.1.length row) s k) := by unfold afq; rw [hpm]; exact if_neg c
        have key2 := key hok
        refine ⟨_, rfl, _, rfl, v, s, rfl, hv.mono e1.tups, a, row, n, by rw [← l1]; rfl, e1 _ _ ha, np, nt, hw.len, hw.rg, fun t pm en H2 ht e2 h2 hpy hen => gp2 h2 ?_⟩
        refine ⟨line0, fun ls hls => ⟨line0, fun lp hlp => ⟨_, _, rfl, ?_⟩⟩⟩
        have e3 : Same H (upd (upd H2 ls (.lst [])) lp (.lst [])) := ((e1.trans e2).trans (Same.new hls)).trans (Same.new hlp)
        have hHls : H ls = none := (e1.trans e2).none hls
        have hHlp : H lp = none := ((e1.trans e2).trans (Same.new hls)).none hlp
        have hs3 : upd (upd H2 ls (.lst [])) lp (.lst []) ls = some (.lst []) := kp1 upd_same hlp
        have hp3 : upd (upd H2 ls (.lst [])) lp (.lst []) lp = some (.lst []) := upd_same
        have nlp : ls ≠ lp := ne_of_none upd_same hlp
        have s23 : Same H2 (upd (upd H2 ls (.lst [])) lp (.lst [])) := (Same.new hls).trans (Same.new hlp)
        have h2ls : H2 ls = none := hls
        have h2lp : H2 lp = none := (Same.new hls).none hlp
        generalize upd (upd H2 ls (.lst [])) lp (.lst []) = H3 at *
        obtain ⟨va, vb, vc, rfl, hva, hvb, hvc⟩ := TD.st hv
        refine ⟨_, rfl, va, _, _, _, rfl, rfl, SqT.of (e3 _ _ hva), atI_nat (j := 0) rfl, _, rfl, va, _, _, _, rfl, rfl, SqT.of (e3 _ _ hva), atI_nat (j := 1) rfl, vb, vc, _, _, rfl, .inr ⟨SqT.of (e3 _ _ hvb), SqT.of (e3 _ _ hvc), ?_⟩⟩
        have e12 := e1.trans e2
        refine for_prs (prs_zipT (xs := s.1.map V.int) (ys := s.2.map V.int) (by rw [List.length_map, List.length_map, l1, l2])) (fun i σ H' => Same H2 H' ∧ ∃ y8 y9 y10 y11 y12 y13, H' ls = some (.lst (((aft (flow n row).2 (endsOf n row) s k).1.take i).map .int)) ∧ H' lp = some (.lst (((aft (flow n row).2 (endsOf n row) s k).2.take i).map .int)) ∧
            σ = [some (.ref va), some (.ref a), some (.int k), some (pmV s row), some (.ref pm), some (.ref en), some (.ref ls), some (.ref lp), y8, y9, y10, y11, y12, y13])
          ⟨s23, none, none, none, none, none, none, hs3, hp3, by rw [hpv]; rfl⟩ (fun i σ H' _ q => ⟨SqT.of ((e12.trans q.1) _ _ hvb), SqT.of ((e12.trans q.1) _ _ hvc)⟩) ?_ ?_
        · rintro i x y σ H4 H5 hi ⟨hx, hy⟩ ⟨e4, y8, y9, y10, y11, y12, y13, hs4, hp4, rfl⟩ e5
          obtain ⟨m', rfl, hm'⟩ := int_get hx
          obtain ⟨pu, rfl, hpu⟩ := int_get hy
          rw [List.length_map] at hi
          obtain ⟨m0, m1⟩ := hn.rg m' (List.mem_of_getElem? hm')
          have e6 := e4.trans e5
          have hper := hw.per m' m0 m1
          obtain ⟨tl1, tl2⟩ := turn_len hper
          refine ⟨_, rfl, _, rfl, en, endsOf n row, m', n, rfl, e6 _ _ hen, ends_len n row, ends_rg np row, m0, m1, hper, fun tu H6 htu e7 h6 => ?_⟩
          refine ⟨_, rfl, _, rfl, pm, tu, (flow n row).2, turnOf (endsOf n row) m', rfl, hpy.mono (e6.trans e7), h6, tl2, ?_, fun p hp => (flow_pl hw.len p hp).1, fun wn H7 hwn e8 h7 => ?_⟩
          · rw [(flow_len n row).2]
            exact turn_mem (ends_len n row) (ends_rg np row) m0 m1
          have h6' := e8 _ _ h6
          have nlw : ls ≠ wn := ne_of_none (e7 _ _ (e5 _ _ hs4)) hwn
          have eaft1 : (aft (flow n row).2 (endsOf n row) s k).1[i]? = some ((turnOf (endsOf n row) m').getD (k % ((turnOf (endsOf n row) m').length : Int)).toNat 0) := by
            unfold aft
            rw [List.getElem?_map, List.getElem?_range (by omega), Option.map_some, getD_of hm']
          have eaft2 : (aft (flow n row).2 (endsOf n row) s k).2[i]? = some (pu + k / ((turnOf (endsOf n row) m').length : Int) * (gn (flow n row).2 (turnOf (endsOf n row) m')).sum + ((gn (flow n row).2 (turnOf (endsOf n row) m')).take (k % ((turnOf (endsOf n row) m').length : Int)).toNat).sum) := by
            unfold aft
            rw [List.getElem?_map, List.getElem?_range (by omega), Option.map_some, getD_of hm', getD_of hpu]
          generalize hTU : turnOf (endsOf n row) m' = TU at *
          have sgn := gn_sz (pa := (flow n row).2) (flow_pl hw.len) TU
          generalize hWN : gn (flow n row).2 TU = WN at *
          have lWN : WN.length = TU.length := by rw [← hWN]; unfold gn; rw [List.length_map]
          have r0 := Int.emod_nonneg k (b := (TU.length : Int)) (by omega)
          have r1 := Int.emod_lt_of_pos k (b := (TU.length : Int)) (by omega)
          refine ⟨_, rfl, _, rfl, tu, _, rfl, .inl (SqL.of h6'), ?_⟩
          rw [List.length_map]
          refine ⟨_, _, rfl, ⟨by omega, by omega⟩, fun dm hdm => ⟨line2, fun z hz => ?_⟩⟩
          refine ⟨z, _, rfl, SqT.of upd_same, rfl, _, _, rfl, _, _, rfl, dm, _, rfl, SqT.of (kp1 upd_same hz), rfl, _, _, rfl, _, _, rfl, rfl, rfl, ?_⟩
          have e9 : Same H2 (upd (upd H7 dm (.tup [.int (k / (TU.length : Int)), .int (k % (TU.length : Int))])) z (.tup [.ref wn, .ref dm])) := (((e6.trans e7).trans e8).trans (Same.new hdm)).trans (Same.new hz)
          have hs9 := kp1 (u := .tup [.ref wn, .ref dm]) (kp1 (u := .tup [.int (k / (TU.length : Int)), .int (k % (TU.length : Int))]) (e8 _ _ (e7 _ _ (e5 _ _ hs4))) hdm) hz
          have hp9 := kp1 (u := .tup [.ref wn, .ref dm]) (kp1 (u := .tup [.int (k / (TU.length : Int)), .int (k % (TU.length : Int))]) (e8 _ _ (e7 _ _ (e5 _ _ hp4))) hdm) hz
          have ht9 := kp1 (u := .tup [.ref wn, .ref dm]) (kp1 (u := .tup [.int (k / (TU.length : Int)), .int (k % (TU.length : Int))]) h6' hdm) hz
          have hw9 := kp1 (u := .tup [.ref wn, .ref dm]) (kp1 (u := .tup [.int (k / (TU.length : Int)), .int (k % (TU.length : Int))]) h7 hdm) hz
          generalize upd (upd H7 dm (.tup [.int (k / (TU.length : Int)), .int (k % (TU.length : Int))])) z (.tup [.ref wn, .ref dm]) = H9 at *
          obtain ⟨sq, hsq⟩ := get_lt (xs := TU) (i := (k % (TU.length : Int)).toNat) (by omega)
          rw [getD_of hsq] at eaft1
          refine ⟨_, rfl, .inl ⟨rfl, _, SqL.of hs9⟩, _, rfl, _, rfl, tu, _, _, _, rfl, rfl, SqL.of ht9, atI_of r0 (get_int hsq), ls, _, _, rfl, rfl, hs9, ?_, ?_⟩
          · rw [List.length_map, List.length_take]; omega
          have e10 := e9.mut (o := .lst (((aft (flow n row).2 (endsOf n row) s k).1.take i).map V.int ++ [.int sq])) h2ls
          have hw10 := (upd_ne (H := H9) (o := .lst (((aft (flow n row).2 (endsOf n row) s k).1.take i).map V.int ++ [.int sq])) nlw.symm).trans hw9
          have hp10 := (upd_ne (H := H9) (o := .lst (((aft (flow n row).2 (endsOf n row) s k).1.take i).map V.int ++ [.int sq])) nlp.symm).trans hp9
          have hs10 : upd H9 ls (.lst (((aft (flow n row).2 (endsOf n row) s k).1.take i).map V.int ++ [.int sq])) ls = some (.lst (((aft (flow n row).2 (endsOf n row) s k).1.take (i + 1)).map V.int)) := by
            rw [upd_same, List.take_add_one, eaft1, Option.toList_some, List.map_append]
            rfl
          generalize upd H9 ls (.lst (((aft (flow n row).2 (endsOf n row) s k).1.take i).map V.int ++ [.int sq])) = H10 at *
          refine ⟨_, rfl, .inl ⟨rfl, _, SqL.of hp10⟩, _, rfl, _, rfl, _, rfl, wn, _, rfl, SqL.of hw10, _, _, rfl, rfl, ?_, _, _, rfl, rfl, _, rfl, _, rfl, _, rfl, wn, _, rfl, SqL.of hw10, fun c hc => ?_⟩
          · refine Sz.wide (a := 210) (b := 2040) (Sz.div sk) (Szs.sum sgn (by omega)) (by omega)
          rw [cut_take r0, ← List.map_take]
          refine ⟨c, _, rfl, SqL.of upd_same, _, _, rfl, rfl, lp, _, _, rfl, rfl, kp1 hp10 hc, ?_, ?_⟩
          · rw [List.length_map, List.length_take]; omega
          refine ⟨(e10.trans (Same.new hc)).mut h2lp, _, _, _, _, _, _, (upd_ne nlp).trans (kp1 hs10 hc), ?_, rfl⟩
          rw [upd_same, List.take_add_one, eaft2, Option.toList_some, List.map_append]
          rfl
        · rintro σ H4 ⟨e4, y8, y9, y10, y11, y12, y13, hs4, hp4, rfl⟩
          rw [List.length_map, List.take_of_length_le (by unfold aft; rw [List.length_map, List.length_range]; omega)] at hs4 hp4
          refine ⟨_, rfl, ls, _, rfl, .inl ⟨SqL.of hs4, fun q1 hq1 => ?_⟩⟩
          refine ⟨_, rfl, lp, _, rfl, .inl ⟨SqL.of (kp1 hp4 hq1), fun q2 hq2 => ⟨line2, fun q3 hq3 => ?_⟩⟩⟩
          refine key2 _ _ (((((e12).trans e4).trans (Same.new hq1)).trans (Same.new hq2)).trans (Same.new hq3)) (TD.ofSt upd_same ?_ ?_)
          · exact kp1 (kp1 upd_same hq2) hq3
          · exact kp1 upd_same hq3
end
end Tr
end
section
set_option Elab.async false
set_option linter.all false
set_option maxRecDepth 100000
set_option maxHeartbeats 4000000
namespace Tr
open PySem PySem.Spec PyProof.Rows L2
/-! ### mirrors -/
def wo (s : S) (p : Nat) : S := (pickI (fun i => decide (i ≠ p)) (fun i => s.1.getD i 0 - (if s.1.getD i 0 > s.1.getD p 0 then 1 else 0)) s.1.length, s.2.take p ++ s.2.drop (p + 1))
def spWp : Sp := fun vs H Q _ => ∃ (v : V) (s : S) (n p : Nat) (c : Int), vs = [v, .int p, .int c] ∧ TD H v (stD s) ∧ Rg n s ∧ p < n ∧ ∀ u H', Same H H' → TD H' u (stD (s.1, s.2.set p c)) → Q u H'
def spWo : Sp := fun vs H Q _ => ∃ (v : V) (s : S) (n p : Nat), vs = [v, .int p] ∧ TD H v (stD s) ∧ Rg n s ∧ p < n ∧ ∀ u H', Same H H' → TD H' u (stD (wo s p)) → Q u H'
section
variable {K : PySem.W.Frag}
theorem slA_take {H : Hp} {a : Addr} {xs : List V} {j : Nat} {Q : VK} (h : H a = some (.tup xs)) (q : ∀ p H', Same H H' → H' p = some (.tup (xs.take j)) → Q (.ref p) H') : rSlA K (.ref a) none (some (j : Int)) H Q := by
  refine ⟨a, xs, rfl, SqT.of h, fun hw => q a H (Same.refl _) ?_, fun _ p hp => q p _ (Same.new hp) ?_⟩
  · have := hw.2
    rw [HT.sIx_nat] at this
    rw [h, List.take_of_length_le (by omega)]
  · rw [upd_same, cut_take (by omega), Int.toNat_natCast]
theorem cut_drop {xs : List V} {j : Nat} : cutV xs (some (j : Int)) none = xs.drop j := by
  unfold cutV
  rw [HT.sIx_nat, HT.sIx_none]
  by_cases c : j ≤ xs.length
  · rw [Nat.min_eq_left c, List.take_of_length_le (by rw [List.length_drop]; omega)]
  · rw [Nat.min_eq_right (by omega), Nat.sub_self, List.take_zero, List.drop_eq_nil_of_le (by omega)]
theorem slA_drop {H : Hp} {a : Addr} {xs : List V} {j : Int} {m : Nat} {Q : VK} (e : j = (m : Nat)) (h : H a = some (.tup xs)) (q : ∀ p H', Same H H' → H' p = some (.tup (xs.drop m)) → Q (.ref p) H') : rSlA K (.ref a) (some j) none H Q := by
  subst e
  refine ⟨a, xs, rfl, SqT.of h, fun hw => q a H (Same.refl _) ?_, fun _ p hp => q p _ (Same.new hp) ?_⟩
  · have := hw.1
    rw [HT.sIx_nat] at this
    by_cases c : m = 0
    · rw [h, c, List.drop_zero]
    · rw [h, List.eq_nil_of_length_eq_zero (l := xs) (by omega), List.drop_nil]
  · rw [upd_same, cut_drop]
theorem slA_dropN {σ : L2.St} {H : Hp} {a : Addr} {xs : List V} {j : Int} {m : Nat} {Q : VK} (e : j = (m : Nat)) (h : H a = some (.tup xs)) (q : ∀ p H', Same H H' → H' p = some (.tup (xs.drop m)) → Q (.ref p) H') : tNoPart σ H fun u H3 => rSlA K (.ref a) (some j) u H3 Q := slA_drop e h q
theorem catA_any {H : Hp} {a b : Addr} {xs ys : List V} {Q : VK} (h : H a = some (.tup xs)) (k : H b = some (.tup ys)) (z : xs.length + ys.length ≤ 100000) (q : ∀ p H', Same H H' → H' p = some (.tup (xs ++ ys)) → Q (.ref p) H') : rCatA K (.ref a) (.ref b) H Q := by
  have ez := sizeLine_eq
  refine ⟨a, b, xs, ys, rfl, rfl, SqT.of h, SqT.of k, by omega, fun e => q b H (Same.refl _) ?_, fun _ e => q a H (Same.refl _) ?_, fun _ _ p hp => q p _ (Same.new hp) upd_same⟩
  · rw [k, e]; rfl
  · rw [h, e, List.append_nil]
end
section
variable {P : Program} {w : World} {K : PySem.W.Frag} {mg : Str → Option Value} {base : Heap}
theorem sc_with_purse : FnScope ["state", "person", "coins", "seats", "purses"] ["state", "person", "coins"] (defScope s_with_purse) := ⟨rfl, rfl, rfl, by decide +kernel, rfl, by decide +kernel, by decide +kernel⟩
theorem ok_with_purse (T : Tx K mg) : FnOk P w K mg base CX0 1 (He.ga K "with_purse") (fdOf K (He.ga K "with_purse")) ["state", "person", "coins"] spWp := by
  refine T.F_with_purse.ok sc_with_purse (fun vs H Q E h => ?_) (fun cdv A outer s H vs Q E hr h => ?_)
  · obtain ⟨v, s, n, p, c, rfl, _⟩ := h
    rfl
  · obtain ⟨v, s, n, p, c, rfl, hv, hn, hp, h⟩ := h
    refine ⟨_, PSs.nox (pss_cons (ps_asg (pv 0) (pg_tup rfl (pgs_cons (pg_name (i := 3) sc_with_purse.nd rfl (Or.inl rfl)) (pgs_cons (pg_name (i := 4) sc_with_purse.nd rfl (Or.inl rfl)) pgs_nil))))
      (pss_one (ps_ret (pe_tup (pa_cons (pe_callTy call_tuple_of rfl T.b_tuple bt_tuple (pa_cons (pv 3) pa_nil)) (pa_cons (pe_op op_catA (pe_op op_catA (pe_callTy call_tuple_of rfl T.b_tuple bt_tuple (pa_cons (pe_slice sl_tupA (pv 4) po_none (po_some (pv 1))) pa_nil)) (pe_tup (pa_cons (pv 2) pa_nil))) (pe_callTy call_tuple_of rfl T.b_tuple bt_tuple (pa_cons (pe_slice sl_tupA (pv 4) (po_some (pe_op op_add (pv 1) pe_int)) po_none) pa_nil))) pa_nil)))))), ?_⟩
    obtain ⟨va, vb, vc, rfl, hva, hvb, hvc⟩ := TD.st hv
    have l1 := hn.l1
    have l2 := hn.l2
    have nt := hn.top
    have e0 : Same H H := Same.refl _
    refine ⟨_, rfl, gp2 hva ?_⟩
    refine ⟨_, rfl, vb, _, rfl, .inr ⟨SqT.of hvb, ?_⟩⟩
    refine ⟨_, rfl, _, rfl, _, rfl, slA_take hvc fun p1 H1 e1 h1 => ?_⟩
    refine ⟨p1, _, rfl, .inr ⟨SqT.of h1, ?_⟩⟩
    refine ⟨_, rfl, line1, fun p2 h2 => ?_⟩
    have e2 := e1.trans (Same.new (o := .tup [.int c]) h2)
    have h21 := (Same.new (o := .tup [.int c]) h2) _ _ h1
    have h22 : upd H1 p2 (.tup [.int c]) p2 = some (.tup [.int c]) := upd_same
    generalize upd H1 p2 (.tup [.int c]) = H2 at *
    refine catA_any h21 h22 (by simp; omega) fun p3 H3 e3 h3 => ?_
    have e3' := e2.trans e3
    refine ⟨_, rfl, _, rfl, _, _, rfl, rfl, _, rfl, slA_dropN (m := p + 1) (Int.natCast_succ p).symm (e3' _ _ hvc) fun p4 H4 e4 h4 => ?_⟩
    refine ⟨p4, _, rfl, .inr ⟨SqT.of h4, ?_⟩⟩
    refine catA_any (e4 _ _ h3) h4 (by simp; omega) fun p5 H5 e5 h5 => ?_
    refine ⟨line2, fun p6 h6 => ?_⟩
    have e6 := ((e3'.trans e4).trans e5).trans (Same.new (o := .tup [.ref vb, .ref p5]) h6)
    refine h _ _ e6 (TD.ofSt upd_same (e6 _ _ hvb) ?_)
    rw [upd_ne (ne_of_none h5 h6), h5]
    show some (HO.tup ((List.map V.int s.2).take p ++ [V.int c] ++ (List.map V.int s.2).drop (p + 1))) = some (HO.tup ((s.2.set p c).map V.int))
    rw [← List.map_take, ← List.map_drop, List.set_eq_take_append_cons_drop, if_pos (by omega), List.map_append, List.map_cons, List.append_assoc]
    rfl
theorem sc_without : FnScope ["state", "person", "seats", "purses", "gone", "left", "other", "seat"] ["state", "person"] (defScope s_without) := ⟨rfl, rfl, rfl, by decide +kernel, rfl, by decide +kernel, by decide +kernel⟩
theorem ok_without (T : Tx K mg) : FnOk P w K mg base CX0 1 (He.ga K "without") (fdOf K (He.ga K "without")) ["state", "person"] spWo := by
  refine T.F_without.ok sc_without (fun vs H Q E h => ?_) (fun cdv A outer s H vs Q E hr h => ?_)
  · obtain ⟨v, s, n, p, rfl, _⟩ := h
    rfl
  · obtain ⟨v, s, n, p, rfl, hv, hn, hp, h⟩ := h
    refine ⟨_, PSs.nox (pss_cons (ps_asg (pv 0) (pg_tup rfl (pgs_cons (pg_name (i := 2) sc_without.nd rfl (Or.inl rfl)) (pgs_cons (pg_name (i := 3) sc_without.nd rfl (Or.inl rfl)) pgs_nil))))
      (pss_cons (ps_set (i := 4) sc_without.nd rfl (Or.inr rfl) (pe_ix ix_tup (pv 2) (pv 1) (fun _ _ => rfl)))
      (pss_cons (ps_setLc (i := 5) (own := [("other", 6), ("seat", 7)]) (g := gTup K 2 (gCons (gName 6) (gCons (gName 7) gNil))) rfl sc_without.nd rfl rfl (sw_true rfl rfl rfl (by kernel_rfl)) (pi_enumT rfl T.b_enumerate (pa_cons (pv 2) pa_nil)) (blkOk_by (own := [("other", 6), ("seat", 7)]) (N := ["state", "person", "seats", "purses", "gone", "left", "other", "seat"]) (by kernel_rfl)) (fun _ _ _ _ _ => (pg_tup rfl (pgs_cons (pg_name (i := 6) sc_without.nd rfl (Or.inl rfl)) (pgs_cons (pg_name (i := 7) sc_without.nd rfl (Or.inl rfl)) pgs_nil)))) (fun _ _ _ _ _ => (pts_one (pt_cmpR op_ne (pv 6) (pv 1) (nomark _)))) (fun _ _ _ _ _ => (pe_op op_sub (pv 7) (pe_callTy call_int1 rfl T.b_int bt_int (pa_cons (pe_cmpR op_gt (pv 7) (pv 4) (nomark _)) pa_nil)))))
      (pss_one (ps_ret (pe_tup (pa_cons (pe_callTy call_tuple_of rfl T.b_tuple bt_tuple (pa_cons (pv 5) pa_nil)) (pa_cons (pe_op op_catA (pe_callTy call_tuple_of rfl T.b_tuple bt_tuple (pa_cons (pe_slice sl_tupA (pv 3) po_none (po_some (pv 1))) pa_nil)) (pe_callTy call_tuple_of rfl T.b_tuple bt_tuple (pa_cons (pe_slice sl_tupA (pv 3) (po_some (pe_op op_add (pv 1) pe_int)) po_none) pa_nil))) pa_nil)))))))), ?_⟩
    obtain ⟨va, vb, vc, rfl, hva, hvb, hvc⟩ := TD.st hv
    have l1 := hn.l1
    have l2 := hn.l2
    have nt := hn.top
    obtain ⟨g, hg⟩ := get_lt (xs := s.1) (i := p) (by omega)
    refine ⟨_, rfl, gp2 hva ?_⟩
    refine ⟨_, rfl, _, rfl, vb, _, _, _, rfl, rfl, SqT.of hvb, atI_nat (get_int hg), ?_⟩
    refine ⟨_, rfl, vb, _, rfl, SqT.of hvb, fun D hD => ?_⟩
    refine lc_prsI (prs_enumT (xs := s.1.map V.int)) (fun i => decide (i ≠ p)) (fun i => s.1.getD i 0 - (if s.1.getD i 0 > s.1.getD p 0 then 1 else 0)) (by simp; omega) (fun H' e => SqT.of (e _ _ hvb)) ?_ ?_ ?_ hD
    · rintro i x y H' hi ⟨rfl, hy⟩ e Q' q
      have q2 := q _ (Same.refl _)
      refine ⟨_, rfl, _, rfl, rfl, _, rfl, ?_⟩
      rw [show (!decide (V.int (i : Int) = V.int (p : Int))) = decide (i ≠ p) from by
        by_cases c : i = p
        · subst c; simp
        · have : ¬ V.int (i : Int) = V.int (p : Int) := fun z => by injection z; omega
          rw [decide_eq_false this, decide_eq_true c]; rfl]
      exact q2
    · rintro i x y H' hi ⟨rfl, hy⟩ e hne Q' q
      obtain ⟨m, rfl, hm⟩ := int_get hy
      have q2 := q _ (Same.refl _)
      rw [getD_of hm, getD_of hg] at q2
      refine ⟨_, rfl, _, rfl, _, rfl, _, _, rfl, rfl, .inr ⟨_, rfl, _, _, rfl, rfl, ?_⟩⟩
      by_cases c : g < m
      · rw [if_pos c] at q2
        rw [if_pos (decide_eq_true c)]
        exact q2
      · rw [if_neg c] at q2
        rw [if_neg (by simpa using c)]
        exact q2
    · intro H1 e1 h1
      have hws : (wo s p).1 = pickI (fun i => decide (i ≠ p)) (fun i => s.1.getD i 0 - (if s.1.getD i 0 > s.1.getD p 0 then 1 else 0)) (List.map V.int s.1).length := by rw [List.length_map]; rfl
      rw [← hws] at h1
      generalize hw2 : (wo s p).1 = ws at *
      refine ⟨_, rfl, D, _, rfl, .inl ⟨SqL.of h1, fun p1 hp1 => ?_⟩⟩
      have e2 := e1.trans (Same.new (o := .tup (ws.map V.int)) hp1)
      have h2 : upd H1 p1 (.tup (ws.map V.int)) p1 = some (.tup (ws.map V.int)) := upd_same
      generalize upd H1 p1 (.tup (ws.map V.int)) = H2 at *
      refine ⟨_, rfl, _, rfl, _, rfl, slA_take (e2 _ _ hvc) fun p3 H3 e3 h3 => ?_⟩
      refine ⟨p3, _, rfl, .inr ⟨SqT.of h3, ?_⟩⟩
      refine ⟨_, rfl, _, rfl, _, _, rfl, rfl, _, rfl, slA_dropN (m := p + 1) (Int.natCast_succ p).symm (e3 _ _ (e2 _ _ hvc)) fun p4 H4 e4 h4 => ?_⟩
      refine ⟨p4, _, rfl, .inr ⟨SqT.of h4, ?_⟩⟩
      refine catA_any (e4 _ _ h3) h4 (by simp; omega) fun p5 H5 e5 h5 => ?_
      refine ⟨line2, fun p6 h6 => ?_⟩
      have e6 := ((((e2.trans e3).trans e4).trans e5).trans (Same.new (o := .tup [.ref p1, .ref p5]) h6))
      refine h _ _ e6 (TD.ofSt upd_same ?_ ?_)
      · rw [hw2]; exact (((Same.trans e3 e4).trans e5).trans (Same.new h6)) _ _ h2
      · rw [upd_ne (ne_of_none h5 h6), h5]
        show some (HO.tup ((List.map V.int s.2).take p ++ (List.map V.int s.2).drop (p + 1))) = some (HO.tup ((s.2.take p ++ s.2.drop (p + 1)).map V.int))
        rw [← List.map_take, ← List.map_drop, List.map_append]
end
end Tr
end
section
set_option Elab.async false
set_option linter.all false
set_option maxRecDepth 100000
set_option maxHeartbeats 4000000
namespace Tr
open PySem PySem.Spec PyProof.Rows L2
section
variable {prog : Program} {w : World} {A : Around} {E : Value → Shared → Prop} {s : Shared} {K : PySem.W.Frag} {x C D f : Addr} {ox od : Obj} {odd : Option Obj}
/-- len(x), the class with its own __len__ -/
theorem len_own {Q : Value → Shared → Prop} (X : K.In s.heap) (I : PySem.W.InstAt s.heap x ox C odd) (hs : PySem.W.findIn K (.ref C) "__len__" = some (some (.ref f))) (hf : PySem.W.isFn K (.ref f) = true)
    (h : wpAny (model prog w) A.in1 (call (.ref f) [.ref x]) (fun r s₁ => ∃ (k : Nat) (t : Tok), r = Value.int k t ∧ k ≤ 1000000 ∧ ∀ t' s', (∃ tk, s' = { s₁ with toks := tk }) → Q (.int k t') s') E s) : wpAny (model prog w) A (call (.builtin "len") [.ref x]) Q E s := by
  refine Calls.call_function_entry kind_len plain_len entry_len (args_len1 _) ?_
  unfold Builtin.«len»
  refine wpAny_bind (m := oneArg "len" _) (wpAny_pure ?_)
  refine wpAny_bind (m := callSpecial? (.ref x) (PySem.Str.ofString "__len__")) (PySem.W.special_fn X I hs (beq_iff_eq.mp hf) (wpAny_mono h (fun r s' hr => ?_) fun _ _ y => y))
  obtain ⟨k, t, rfl, hk, q⟩ := hr
  refine wpAny_bind (wpAny_holding (wpAny_pure ?_))
  refine wpAny_bind (wpAny_letGo ?_)
  show wpAny _ _ (if ((k : Nat) : Int) < 0 then _ else _) _ _ _
  rw [if_neg (by omega)]
  show wpAny _ _ (if ((k : Nat) : Int) ≥ 2 ^ 63 then _ else _) _ _ _
  rw [if_neg (by omega)]
  exact wpAny_bind (wpAny_mkInt (wpAny_pure ⟨_, rfl, q _ _ ⟨_, rfl⟩⟩))
open Builtin in
/-- repr(x), the class with its own __repr__ -/
theorem repr_own {Q : Value → Shared → Prop} (hu : A.in1.units < cLine) (X : K.In s.heap) (I : PySem.W.InstAt s.heap x ox C odd) (hs : PySem.W.findIn K (.ref C) "__repr__" = some (some (.ref f))) (hf : PySem.W.isFn K (.ref f) = true)
    (h : wpAny (model prog w) A.in1 (call (.ref f) [.ref x]) (fun r s₁ => ∃ (y : Str) (t : Tok), r = Value.str y t ∧ Q r s₁) E s) : wpAny (model prog w) A (call (.builtin "repr") [.ref x]) Q E s := by
  refine Calls.call_function_entry PySem.F.kind_repr PySem.F.plain_repr PySem.F.entry_repr (PySem.F.args_repr1 _) ?_
  unfold Builtin.«repr»
  refine wpAny_bind (m := oneArg "repr" _) (wpAny_pure ?_)
  refine wpAny_bind (m := cRoomFor _ _) (wpAny_cRoomFor hu ?_)
  have hsp : ∀ {Q' : Option Value → Shared → Prop}, Q' (some (.ref f)) s → wpAny (model prog w) A.in1 (specialOf (.ref x) "__repr__") Q' E s := fun q => by
    unfold specialOf
    exact wpAny_bind (I.type.here ((PySem.W.looks_findIn X hs).here q))
  refine wpAny_bind (m := specialOf _ _) (hsp ?_)
  refine wpAny_bind (m := callSpecialIfBound? (.ref x) (Str.ofString "__repr__") _) (PySem.W.ifBound_K X I hs hf (wpAny_mono h (fun r s' hq => ?_) fun _ _ y => y))
  obtain ⟨y, t, rfl, q⟩ := hq
  refine wpAny_bind (wpAny_isInstance (T := "str") (b := true) (typeIs_str _ _ _) isSubtype_str_str ?_)
  exact wpAny_pure ⟨_, rfl, q⟩
end
section
variable {X : Cx} {CX : CXT} {pins : List (Addr × Obj)} {σ : L2.St} {H : Hp} {s : Shared} {C g : Addr} {n : Nat} {sp : Sp} {E : XK}
/-- len(x) of an instance with its own __len__ -/
def rLenOwn (C : Addr) (sp : Sp) (E : XK) : List V → Hp → VK → Prop := fun xs H Q => ∃ a dx fs, xs = [V.ref a] ∧ H a = some (.ins C dx fs) ∧ sp [.ref a] H (fun z H' => ∃ k : Nat, z = .int k ∧ k ≤ 1000000 ∧ Q z H') E
theorem call_lenOwn (M : Meth X.K C "__len__" g) (F : FnR X.prog X.w X.K X.mg X.base CX n g sp) (hr : Room (n + 1) X.A) (hx : Passes CX X E) : CallR X (.builtin "len") (rLenOwn C sp E) := by
  intro pins s σ H xs us Q I r h
  obtain ⟨a, dx, fs, rfl, hi, q⟩ := h
  obtain ⟨u, rfl, ru⟩ := r.one
  cases (show u = Value.ref a from ru)
  obtain ⟨mA, O, _⟩ := ins_get I.hok hi
  obtain ⟨od, J, _⟩ := O.look
  have hr2 : Room n X.A.in1 := hr.in1
  refine len_own I.kIn J M.at_ M.fn (wpAny_mono (wpAny_call (SlX.run_at (us := [.ref a]) (ws := [.ref a]) F hr2 I.env0.in1 hx I (.cons rfl .nil) q)) (fun w s' z => ?_) fun _ _ x => x)
  obtain ⟨z', H', I', rz, k, ek, hk, qz⟩ := z
  subst ek
  obtain ⟨t, e⟩ := (show ∃ t, w = Value.int k t from rz)
  cases e
  refine ⟨k, t, rfl, hk, fun t' s'' hs => ?_⟩
  obtain ⟨tk, rfl⟩ := hs
  exact ⟨.int k, H', I'.tok _, ⟨t', rfl⟩, qz⟩
/-- repr(x) of an instance with its own __repr__ -/
def rReprOwn (C : Addr) (sp : Sp) (E : XK) : List V → Hp → VK → Prop := fun xs H Q => ∃ a dx fs, xs = [V.ref a] ∧ H a = some (.ins C dx fs) ∧ sp [.ref a] H (fun z H' => ∃ y : Str, z = .str y ∧ Q z H') E
theorem call_reprOwn (M : Meth X.K C "__repr__" g) (F : FnR X.prog X.w X.K X.mg X.base CX n g sp) (hr : Room (n + 1) X.A) (hx : Passes CX X E) : CallR X (.builtin "repr") (rReprOwn C sp E) := by
  intro pins s σ H xs us Q I r h
  obtain ⟨a, dx, fs, rfl, hi, q⟩ := h
  obtain ⟨u, rfl, ru⟩ := r.one
  cases (show u = Value.ref a from ru)
  obtain ⟨mA, O, _⟩ := ins_get I.hok hi
  obtain ⟨od, J, _⟩ := O.look
  have hr2 : Room n X.A.in1 := hr.in1
  refine repr_own hr2.units0 I.kIn J M.at_ M.fn (wpAny_mono (wpAny_call (SlX.run_at (us := [.ref a]) (ws := [.ref a]) F hr2 I.env0.in1 hx I (.cons rfl .nil) q)) (fun w s' z => ?_) fun _ _ x => x)
  obtain ⟨z', H', I', rz, y, ey, qz⟩ := z
  subst ey
  obtain ⟨t, e⟩ := (show ∃ t, w = Value.str y t from rz)
  cases e
  exact ⟨y, t, rfl, .str y, H', I', ⟨t, rfl⟩, qz⟩
/-- x op y, both of the class at C, whose def for op is at g -/
def rOwnI (C : Addr) (sp : Sp) (E : XK) : R2 := fun x y H Q => ∃ a dx fs b dy gs, x = .ref a ∧ y = .ref b ∧ H a = some (.ins C dx fs) ∧ H b = some (.ins C dy gs) ∧ sp [x, y] H Q E
theorem op_ownI {op : CmpOp} (hop : ∀ a b, compareOp op a b = richCompare op a b) (M : Meth X.K C (cmpInfo op).2.1 g) (F : FnR X.prog X.w X.K X.mg X.base CX n g sp)
    (hr : Room n X.A) (hx : Passes CX X E) : OpR X (compareOp op) (rOwnI C sp E) := by
  intro pins s σ H x y v u Q I rx ry h
  obtain ⟨a, dx, fs, b, dy, gs, rfl, rfl, ha, hb, q⟩ := h
  cases (show v = Value.ref a from rx)
  cases (show u = Value.ref b from ry)
  obtain ⟨mA, O, _⟩ := ins_get I.hok ha
  obtain ⟨od, J, _⟩ := O.look
  obtain ⟨mB, O', _⟩ := ins_get I.hok hb
  obtain ⟨od', J', _⟩ := O'.look
  obtain ⟨m, hF⟩ := I.fr
  rw [hop]
  refine PySem.W.cmp_K (op := op) (tb := .ref C) hr.units0 hF I.ok.mod.kin J J'.type (by simp [PySem.W.notFirst]) M.at_ M.fn ?_
  refine wpAny_mono (wpAny_call (run_fnR (us := [.ref a, .ref b]) (vs := [.ref a, .ref b]) F hr hx I (.cons rfl (.cons rfl .nil)) q)) (fun w s' z => ?_) fun _ _ x => x
  obtain ⟨z', H', I', rz, qz⟩ := z
  exact SlX.cmpback rz ⟨z', H', I', rz, qz⟩
end
end Tr
end
section
set_option Elab.async false
set_option linter.all false
set_option maxRecDepth 100000
set_option maxHeartbeats 4000000
namespace Tr
open PySem PySem.Spec PyProof.Rows L2
/-- a party: its object p, its list q of states us ++ [u], its log lg -/
structure Pty (K : PySem.W.Frag) (H : Hp) (p q lg : Addr) (us : List V) (u : V) (ss : List S) (t : S) (ls : List V) : Prop where
  ins : ∃ dx, H p = some (.ins (He.ga K "Party") dx [("own_states", .ref q), ("own_log", .ref lg)])
  st : H q = some (.lst (us ++ [u]))
  td : TDs H us (ss.map stD)
  tu : TD H u (stD t)
  lo : H lg = some (.lst ls)
  nq : q ≠ lg
  len : ss.length ≤ 1000
/-- the new state -/
def Grows (K : PySem.W.Frag) (H : Hp) (E : XK) (q : Addr) (us : List V) (u : V) (Q : VK) (r : Except Er (PyData × S)) : Prop :=
  Gives K H E r fun a => ∀ u' rv H', Kp q H H' → H' q = some (.lst (us ++ [u] ++ [u'])) → TD H' u' (stD a.2) → TD H' rv a.1 → Q rv H'
def spInit (K : PySem.W.Frag) : Sp := fun vs H Q _ => ∃ (x dx : Addr) (v : V) (s : S), vs = [.ref x, v] ∧ H x = some (.ins (He.ga K "Party") dx []) ∧ TD H v (stD s) ∧
  ∀ q lg u H', Kp x H H' → H q = none → H lg = none → Pty K H' x q lg [] u [] s [] → Q .non H'
def spState (K : PySem.W.Frag) : Sp := fun vs H Q _ => ∃ (p q lg dx : Addr) (us : List V) (u : V), vs = [.ref p] ∧ H p = some (.ins (He.ga K "Party") dx [("own_states", .ref q), ("own_log", .ref lg)]) ∧ H q = some (.lst (us ++ [u])) ∧ Q u H
def spDeeds (K : PySem.W.Frag) : Sp := fun vs H Q _ => ∃ (p q lg : Addr) (us : List V) (u : V) (ss : List S) (t : S) (ls : List V), vs = [.ref p] ∧ Pty K H p q lg us u ss t ls ∧ Q (.int (ss.length : Nat)) H
def spLenP (K : PySem.W.Frag) : Sp := fun vs H Q _ => ∃ (p q lg dx : Addr) (us : List V) (u : V) (t : S), vs = [.ref p] ∧ H p = some (.ins (He.ga K "Party") dx [("own_states", .ref q), ("own_log", .ref lg)]) ∧ H q = some (.lst (us ++ [u])) ∧ TD H u (stD t) ∧ Q (.int (t.1.length : Nat)) H
section
variable {P : Program} {w : World} {K : PySem.W.Frag} {mg : Str → Option Value} {base : Heap}
theorem sc_Party_init : FnScope ["self", "state"] ["self", "state"] (defScope s_Party_init) := ⟨rfl, rfl, rfl, by decide +kernel, rfl, by decide +kernel, by decide +kernel⟩
theorem ok_Party_init (T : Tx K mg) : FnOk P w K mg base CX0 1 (He.ma K (He.ga K "Party") "__init__") (fdOf K (He.ma K (He.ga K "Party") "__init__")) ["self", "state"] (spInit K) := by
  refine T.F_Party_init.ok sc_Party_init (fun vs H Q E h => ?_) (fun cdv A outer s H vs Q E hr h => ?_)
  · obtain ⟨x, dx, v, s, rfl, _⟩ := h
    rfl
  · obtain ⟨x, dx, v, s, rfl, hx, hv, h⟩ := h
    refine ⟨_, PSs.nox (pss_cons (ps_fld (pv 0) (pe_lst (pa_cons (pe_tup (pa_cons (pe_callTy call_tuple_of rfl T.b_tuple bt_tuple (pa_cons (pe_ix ix_tup (pv 1) pe_int (fun _ _ => rfl)) pa_nil)) (pa_cons (pe_callTy call_tuple_of rfl T.b_tuple bt_tuple (pa_cons (pe_ix ix_tup (pv 1) pe_int (fun _ _ => rfl)) pa_nil)) pa_nil))) pa_nil)) rfl)
      (pss_one (ps_fld (pv 0) (pe_lst pa_nil) rfl))), ?_⟩
    obtain ⟨va, vb, vc, rfl, hva, hvb, hvc⟩ := TD.st hv
    refine ⟨_, rfl, va, _, _, _, rfl, rfl, SqT.of hva, atI_nat (j := 0) rfl, vb, _, rfl, .inr ⟨SqT.of hvb, ?_⟩⟩
    refine ⟨_, rfl, va, _, _, _, rfl, rfl, SqT.of hva, atI_nat (j := 1) rfl, vc, _, rfl, .inr ⟨SqT.of hvc, ?_⟩⟩
    refine ⟨line2, fun p1 h1 => ⟨line1, fun q hq => ?_⟩⟩
    have s1 : Same H (upd H p1 (.tup [.ref vb, .ref vc])) := Same.new h1
    have s2 := s1.trans (Same.new (o := .lst [.ref p1]) hq)
    have hHq : H q = none := s1.none hq
    have t2 : TD (upd (upd H p1 (.tup [.ref vb, .ref vc])) q (.lst [.ref p1])) (.ref p1) (stD s) :=
      TD.ofSt (by rw [upd_ne (ne_of_none upd_same hq), upd_same]) (s2 _ _ hvb) (s2 _ _ hvc)
    have q2 : upd (upd H p1 (.tup [.ref vb, .ref vc])) q (.lst [.ref p1]) q = some (.lst [.ref p1]) := upd_same
    generalize upd (upd H p1 (.tup [.ref vb, .ref vc])) q (.lst [.ref p1]) = H2 at *
    refine ⟨_, rfl, x, _, dx, [], rfl, s2 _ _ hx, T.clP, T.n_own_states, by decide, ?_⟩
    have xq : q ≠ x := (ne_of_none hx hHq).symm
    have k3 : Kp x H2 (upd H2 x (.ins (He.ga K "Party") dx (putF "own_states" (.ref q) []))) := Kp.upd
    have x3 : upd H2 x (.ins (He.ga K "Party") dx (putF "own_states" (.ref q) [])) x = some (.ins (He.ga K "Party") dx [("own_states", .ref q)]) := upd_same
    have q3 := k3 _ _ xq q2
    have t3 := t2.mono (k3.tupsI (s2 _ _ hx))
    refine ⟨line0, fun lg hlg => ⟨_, rfl, x, _, dx, [("own_states", .ref q)], rfl, ?_, T.clP, T.n_own_log, by show 1 < 1000; decide, ?_⟩⟩
    · exact (upd_ne (ne_of_none x3 hlg)).trans x3
    have lx : lg ≠ x := (ne_of_none x3 hlg).symm
    have l4 : Same (upd H2 x (.ins (He.ga K "Party") dx (putF "own_states" (.ref q) []))) (upd (upd H2 x (.ins (He.ga K "Party") dx (putF "own_states" (.ref q) []))) lg (.lst [])) := Same.new hlg
    have lq : q ≠ lg := ne_of_none q3 hlg
    have hHl : H lg = none := by
      cases e : H lg with
      | none => rfl
      | some o => have := k3 _ _ lx (s2 _ _ e); rw [hlg] at this; cases this
    have k5 : Kp x (upd (upd H2 x (.ins (He.ga K "Party") dx (putF "own_states" (.ref q) []))) lg (.lst [])) (upd (upd (upd H2 x (.ins (He.ga K "Party") dx (putF "own_states" (.ref q) []))) lg (.lst [])) x (.ins (He.ga K "Party") dx (putF "own_log" (.ref lg) [("own_states", .ref q)]))) := Kp.upd
    have x4 := l4 _ _ x3
    refine h q lg (.ref p1) _ (((Kp.of s2).trans k3).trans ((Kp.of l4).trans k5)) hHq hHl ⟨⟨dx, ?_⟩, ?_, .nil, ?_, ?_, lq, by simp⟩
    · exact upd_same
    · exact k5 _ _ xq (l4 _ _ q3)
    · exact (t3.mono l4.tups).mono (k5.tupsI x4)
    · exact k5 _ _ lx upd_same
theorem sc_Party_state : FnScope ["self"] ["self"] (defScope s_Party_state) := ⟨rfl, rfl, rfl, by decide +kernel, rfl, by decide +kernel, by decide +kernel⟩
theorem ok_Party_state (T : Tx K mg) : FnOk P w K mg base CX0 1 (He.ma K (He.ga K "Party") "state") (fdOf K (He.ma K (He.ga K "Party") "state")) ["self"] (spState K) := by
  refine T.F_Party_state.ok sc_Party_state (fun vs H Q E h => ?_) (fun cdv A outer s H vs Q E hr h => ?_)
  · obtain ⟨p, q, lg, dx, us, u, rfl, _⟩ := h
    rfl
  · obtain ⟨p, q, lg, dx, us, u, rfl, hi, hq, h⟩ := h
    refine ⟨_, PSs.nox (pss_one (ps_ret (pe_ix ix_list (pe_fld (pv 0) rfl) (pe_un un_neg pe_int) (fun _ _ => rfl)))), ?_⟩
    refine ⟨_, rfl, p, _, dx, _, .ref q, rfl, hi, T.clP, T.n_own_states, rfl, _, rfl, q, _, _, _, rfl, rfl, SqL.of hq, atI_last us u, h⟩
theorem sc_Party_deeds : FnScope ["self"] ["self"] (defScope s_Party_deeds) := ⟨rfl, rfl, rfl, by decide +kernel, rfl, by decide +kernel, by decide +kernel⟩
theorem ok_Party_deeds (T : Tx K mg) : FnOk P w K mg base CX0 1 (He.ma K (He.ga K "Party") "deeds") (fdOf K (He.ma K (He.ga K "Party") "deeds")) ["self"] (spDeeds K) := by
  refine T.F_Party_deeds.ok sc_Party_deeds (fun vs H Q E h => ?_) (fun cdv A outer s H vs Q E hr h => ?_)
  · obtain ⟨p, q, lg, us, u, ss, t, ls, rfl, _⟩ := h
    rfl
  · obtain ⟨p, q, lg, us, u, ss, t, ls, rfl, hp, h⟩ := h
    refine ⟨_, PSs.nox (pss_one (ps_ret (pe_op op_sub (pe_callB call_len_seq rfl T.b_len bt_len (pa_cons (pe_fld (pv 0) rfl) pa_nil)) pe_int))), ?_⟩
    obtain ⟨dx, hi⟩ := hp.ins
    refine ⟨_, rfl, p, _, dx, _, .ref q, rfl, hi, T.clP, T.n_own_states, rfl, q, _, rfl, .inl (SqL.of hp.st), ?_⟩
    refine ⟨_, _, rfl, rfl, ?_⟩
    have e : (((us ++ [u]).length : Nat) : Int) - 1 = (ss.length : Nat) := by
      have := hp.td.1
      rw [List.length_map] at this
      rw [List.length_append, List.length_singleton]; omega
    show Q (.int ((((us ++ [u]).length : Nat) : Int) - 1)) H
    rw [e]
    exact h
theorem sc_Party_len : FnScope ["self"] ["self"] (defScope s_Party_len) := ⟨rfl, rfl, rfl, by decide +kernel, rfl, by decide +kernel, by decide +kernel⟩
theorem ok_Party_len (T : Tx K mg) : FnOk P w K mg base CX0 1 (He.ma K (He.ga K "Party") "__len__") (fdOf K (He.ma K (He.ga K "Party") "__len__")) ["self"] (spLenP K) := by
  refine T.F_Party_len.ok sc_Party_len (fun vs H Q E h => ?_) (fun cdv A outer s H vs Q E hr h => ?_)
  · obtain ⟨p, q, lg, dx, us, u, t, rfl, _⟩ := h
    rfl
  · obtain ⟨p, q, lg, dx, us, u, t, rfl, hi, hq, hu, h⟩ := h
    refine ⟨_, PSs.nox (pss_one (ps_ret (pe_callB call_len_seq rfl T.b_len bt_len (pa_cons (pe_ix ix_tup (pe_ix ix_list (pe_fld (pv 0) rfl) (pe_un un_neg pe_int) (fun _ _ => rfl)) pe_int (fun _ _ => rfl)) pa_nil)))), ?_⟩
    obtain ⟨va, vb, vc, rfl, hva, hvb, hvc⟩ := TD.st hu
    refine ⟨_, rfl, p, _, dx, _, .ref q, rfl, hi, T.clP, T.n_own_states, rfl, _, rfl, q, _, _, _, rfl, rfl, SqL.of hq, atI_last us _, ?_⟩
    refine ⟨va, _, _, _, rfl, rfl, SqT.of hva, atI_nat (j := 0) rfl, vb, _, rfl, .inr (SqT.of hvb), ?_⟩
    rw [List.length_map]
    exact h
theorem call_lenP {X : Cx} (T : Tx X.K X.mg) (hr : Room 2 X.A) : CallR X (.builtin "len") (rLenOwn (He.ga X.K "Party") (fun vs H Q E => spLenP X.K vs H Q E) (fun _ _ _ => False)) :=
  call_lenOwn T.m_len (((ok_Party_len T).raw T.b_f_Party_len .nil).imp fun vs H Q E h => by rw [List.append_nil]; exact h) hr pass0
end
end Tr
end
section
set_option Elab.async false
set_option linter.all false
set_option maxRecDepth 100000
set_option maxHeartbeats 4000000
namespace Tr
open PySem PySem.Spec PyProof.Rows L2
/-! ### mirrors -/
def lookq (s : S) (i : Int) : Except Er Unit := if 0 ≤ i ∧ i < s.1.length then .ok () else .error (.one 1 (.int i))
def exchq (s : S) (x : Int) : Except Er (PyData × S) := match exq s x with
  | .ok t => .ok (.int (pay s x), t)
  | .error e => .error e
def rowq (s : S) (row : List Int) : Except Er (PyData × S) := match runq s row with
  | .ok t => .ok (.int (row.length : Nat), t)
  | .error e => .error e
def againq (s : S) (row : List Int) (k : Int) : Except Er (PyData × S) := match afq s row k with
  | .ok t => .ok (tI t.2, t)
  | .error e => .error e
def goq (s g : S) : Except Er (PyData × S) := match distq s g with
  | .ok d => .ok (.int d, g)
  | .error e => .error e
section
variable {K : PySem.W.Frag} {H H' : Hp} {p q lg : Addr} {us : List V} {u : V} {ss : List S} {t : S} {ls : List V}
theorem Pty.ne_row (h : Pty K H p q lg us u ss t ls) {a : Addr} {row : List Int} (ha : H a = some (.lst (row.map .int))) : a ≠ q := fun e => by
  subst e
  obtain ⟨va, vb, vc, rfl, _⟩ := TD.st h.tu
  have := h.st
  rw [ha] at this
  injection this with this
  injection this with this
  have hm : V.ref va ∈ row.map V.int := by rw [this]; simp
  obtain ⟨z, _, hz⟩ := List.mem_map.mp hm
  cases hz
theorem Pty.ulen (h : Pty K H p q lg us u ss t ls) : us.length ≤ 1000 := by
  have := h.td.1
  rw [List.length_map] at this
  rw [this]; exact h.len
theorem Pty.same (h : Pty K H p q lg us u ss t ls) (e : Same H H') : Pty K H' p q lg us u ss t ls :=
  ⟨h.ins.imp fun _ x => e _ _ x, e _ _ h.st, h.td.mono e.tups, h.tu.mono e.tups, e _ _ h.lo, h.nq, h.len⟩
/-- another object changed -/
theorem Pty.kp {l : Addr} (h : Pty K H p q lg us u ss t ls) (k : Kp l H H') (tu : Tups H H') (h1 : p ≠ l) (h2 : q ≠ l) (h3 : lg ≠ l) : Pty K H' p q lg us u ss t ls :=
  ⟨h.ins.imp fun _ x => k _ _ h1 x, k _ _ h2 h.st, h.td.mono tu, h.tu.mono tu, k _ _ h3 h.lo, h.nq, h.len⟩
theorem Pty.pq (h : Pty K H p q lg us u ss t ls) : p ≠ q := by
  obtain ⟨dx, hi⟩ := h.ins
  exact ne_of hi h.st fun z => by cases z
/-- one more state -/
theorem Pty.push (h : Pty K H p q lg us u ss t ls) (k : Kp q H H') {u' : V} {t' : S} (hq : H' q = some (.lst (us ++ [u] ++ [u']))) (hu : TD H' u' (stD t')) (hl : ss.length < 1000) : Pty K H' p q lg (us ++ [u]) u' (ss ++ [t]) t' ls :=
  ⟨h.ins.imp fun _ x => k _ _ h.pq x, hq, by rw [List.map_append]; exact (h.td.mono (k.tups h.st)).snoc (h.tu.mono (k.tups h.st)), hu, k _ _ h.nq.symm h.lo, h.nq, by rw [List.length_append, List.length_singleton]; omega⟩
end
/-! ### promises -/
def spLotP (K : PySem.W.Frag) : Sp := fun vs H Q _ => ∃ (p q lg : Addr) (us : List V) (u : V) (ss : List S) (t : S) (ls : List V), vs = [.ref p] ∧ Pty K H p q lg us u ss t ls ∧ spLot [u] H Q (fun _ _ _ => False)
def spLook (K : PySem.W.Frag) : Sp := fun vs H Q E => ∃ (p q lg : Addr) (us : List V) (u : V) (ss : List S) (t : S) (ls : List V) (i : Int), vs = [.ref p, .int i] ∧ Pty K H p q lg us u ss t ls ∧ t.1.length ≤ 1000 ∧ Gives K H E (lookq t i) fun _ => Q .non H
def spExch (K : PySem.W.Frag) : Sp := fun vs H Q E => ∃ (p q lg : Addr) (us : List V) (u : V) (ss : List S) (t : S) (ls : List V) (n : Nat) (x : Int), vs = [.ref p, .int x] ∧ Pty K H p q lg us u ss t ls ∧ Rg n t ∧ Grows K H E q us u Q (exchq t x)
def spRow (K : PySem.W.Frag) : Sp := fun vs H Q E => ∃ (p q lg : Addr) (us : List V) (u : V) (ss : List S) (t : S) (ls : List V) (n : Nat) (a : Addr) (row : List Int), vs = [.ref p, .ref a] ∧ Pty K H p q lg us u ss t ls ∧ Rg n t ∧
  H a = some (.lst (row.map .int)) ∧ row.length ≤ 1000 ∧ Grows K H E q us u Q (rowq t row)
def spAgain (K : PySem.W.Frag) : Sp := fun vs H Q E => ∃ (p q lg : Addr) (us : List V) (u : V) (ss : List S) (t : S) (ls : List V) (n : Nat) (a : Addr) (row : List Int) (k : Int), vs = [.ref p, .ref a, .int k] ∧ Pty K H p q lg us u ss t ls ∧ Rw n t row ∧
  H a = some (.lst (row.map .int)) ∧ 0 ≤ k ∧ Sz 210 k ∧ Grows K H E q us u Q (againq t row k)
def spGo (K : PySem.W.Frag) : Sp := fun vs H Q E => ∃ (p q lg : Addr) (us : List V) (u : V) (ss : List S) (t : S) (ls : List V) (n m : Nat) (g : V) (d : S), vs = [.ref p, g] ∧ Pty K H p q lg us u ss t ls ∧ Rg n t ∧ Rg m d ∧ TD H g (stD d) ∧ Grows K H E q us u Q (goq t d)
section
variable {P : Program} {w : World} {K : PySem.W.Frag} {mg : Str → Option Value} {base : Heap}
theorem sc_Party_lot : FnScope ["self"] ["self"] (defScope s_Party_lot) := ⟨rfl, rfl, rfl, by decide +kernel, rfl, by decide +kernel, by decide +kernel⟩
theorem ok_Party_lot (T : Tx K mg) : FnOk P w K mg base CX0 7 (He.ma K (He.ga K "Party") "lot") (fdOf K (He.ma K (He.ga K "Party") "lot")) ["self"] (spLotP K) := by
  refine T.F_Party_lot.ok sc_Party_lot (fun vs H Q E h => ?_) (fun cdv A outer s H vs Q E hr h => ?_)
  · obtain ⟨p, q, lg, us, u, ss, t, ls, rfl, _⟩ := h
    rfl
  · obtain ⟨p, q, lg, us, u, ss, t, ls, rfl, hp, h⟩ := h
    refine ⟨_, PSs.nox (pss_one (ps_ret (pe_call (ok_lot_many T) (hr.mono (by decide)) rfl T.g_lot_many T.F_lot_many.kp T.b_f_lot_many .nil pass0 (pa_cons (pe_meth0 (pv 0) T.clP T.m_state (ok_Party_state T) (hr.mono (by decide)) T.b_f_Party_state .nil pass0) pa_nil)))), ?_⟩
    obtain ⟨dx, hi⟩ := hp.ins
    refine ⟨_, rfl, p, dx, _, rfl, hi, rfl, p, q, lg, dx, us, u, rfl, hi, hp.st, h⟩
theorem sc_Party_look_person : FnScope ["self", "person"] ["self", "person"] (defScope s_Party_look_person) := ⟨rfl, rfl, rfl, by decide +kernel, rfl, by decide +kernel, by decide +kernel⟩
theorem ok_Party_look_person (T : Tx K mg) (Z : Ex K) : FnOk P w K mg base (L2.CX P w) 3 (He.ma K (He.ga K "Party") "look_person") (fdOf K (He.ma K (He.ga K "Party") "look_person")) ["self", "person"] (spLook K) := by
  refine T.F_Party_look_person.ok sc_Party_look_person (fun vs H Q E h => ?_) (fun cdv A outer s H vs Q E hr h => ?_)
  · obtain ⟨p, q, lg, us, u, ss, t, ls, i, rfl, _⟩ := h
    rfl
  · obtain ⟨p, q, lg, us, u, ss, t, ls, i, rfl, hp, hl, h⟩ := h
    refine ⟨_, (pss_one (ps_if (pt_not (pt_chain op_le op_lt pe_int (pv 1) (pe_callB (call_lenP T (hr.mono (by decide))) rfl T.b_len bt_len (pa_cons (pv 0) pa_nil)))) (pss_one (ps_raise rfl (takes_of rfl rfl rfl rfl) (mk_NoPerson T Z (hr.mono (by decide)) rfl (pa_cons (pv 1) pa_nil)))) pss_nil)), ?_⟩
    obtain ⟨dx, hi⟩ := hp.ins
    have bad : ¬ (0 ≤ i ∧ i < t.1.length) → ∀ d, H d = none → E (.ref (He.ga K (exN 1))) (some d) (upd H d (.xd [("person", .int i)])) := fun c d hd => by
      have e : lookq t i = .error (.one 1 (.int i)) := by unfold lookq; rw [if_neg c]
      rw [e] at h
      exact h _ _ _ (Same.new hd) ⟨rfl, d, rfl, upd_same⟩
    refine ⟨_, rfl, _, _, rfl, rfl, _, rfl, iteD (fun c1 => ?_) fun c1 => ?_⟩
    case refine_2 => exact ⟨_, rfl, _, rfl, mk1_of (bad fun c => c1 c.1)⟩
    refine ⟨_, rfl, p, dx, _, rfl, hi, p, q, lg, dx, us, u, t, rfl, hi, hp.st, hp.tu, _, rfl, by omega, _, _, rfl, rfl, _, rfl, ?_⟩
    by_cases c2 : i < t.1.length
    case neg =>
      refine iteY (by simpa using c2) ?_
      exact ⟨_, rfl, mk1_of (bad fun c => c2 c.2)⟩
    refine iteZ (by simpa using c2) ?_
    have e : lookq t i = .ok () := by unfold lookq; rw [if_pos ⟨c1, c2⟩]
    rw [e] at h
    exact h
theorem sc_Party_exchange : FnScope ["self", "seat", "before"] ["self", "seat"] (defScope s_Party_exchange) := ⟨rfl, rfl, rfl, by decide +kernel, rfl, by decide +kernel, by decide +kernel⟩
theorem ok_Party_exchange (T : Tx K mg) (Z : Ex K) : FnOk P w K mg base (L2.CX P w) 5 (He.ma K (He.ga K "Party") "exchange") (fdOf K (He.ma K (He.ga K "Party") "exchange")) ["self", "seat"] (spExch K) := by
  refine T.F_Party_exchange.ok sc_Party_exchange (fun vs H Q E h => ?_) (fun cdv A outer s H vs Q E hr h => ?_)
  · obtain ⟨p, q, lg, us, u, ss, t, ls, n, x, rfl, _⟩ := h
    rfl
  · obtain ⟨p, q, lg, us, u, ss, t, ls, n, x, rfl, hp, hn, h⟩ := h
    refine ⟨_, (pss_cons (ps_set (i := 2) sc_Party_exchange.nd rfl (Or.inl rfl) (pe_meth0 (pv 0) T.clP T.m_state (ok_Party_state T) (hr.mono (by decide)) T.b_f_Party_state .nil pass0))
      (pss_cons (ps_expr (pe_bm PySem.F.plainAttrs_list PySem.F.slot_list_append PySem.F.type_list_append mt_append (pe_fld (pv 0) rfl) (pa_cons (pe_call (ok_exchanged T Z) (hr.mono (by decide)) rfl T.g_exchanged T.F_exchanged.kp T.b_f_exchanged .nil (passes_call (takes_of rfl rfl rfl rfl) fun _ _ _ _ h => h) (pa_cons (pv 2) (pa_cons (pv 1) pa_nil))) pa_nil)))
      (pss_one (ps_ret (pe_ix ix_tup (pe_call (ok_sitting T) (hr.mono (by decide)) rfl T.g_sitting T.F_sitting.kp T.b_f_sitting .nil pass0 (pa_cons (pv 2) pa_nil)) (pv 1) (fun _ _ => rfl)))))), ?_⟩
    obtain ⟨dx, hi⟩ := hp.ins
    refine ⟨_, rfl, p, dx, _, rfl, hi, rfl, p, q, lg, dx, us, u, rfl, hi, hp.st, ?_⟩
    refine ⟨_, rfl, p, _, dx, _, .ref q, rfl, hi, T.clP, T.n_own_states, rfl, .inl ⟨rfl, _, SqL.of hp.st⟩, _, rfl, _, rfl, u, t, n, x, rfl, hp.tu, hn, ?_⟩
    have hul := hp.ulen
    have ez := sizeLine_eq
    cases he : exq t x with
    | error er =>
      rw [show exchq t x = .error er by unfold exchq; rw [he]] at h
      exact h
    | ok t2 =>
      rw [show exchq t x = .ok (.int (pay t x), t2) by unfold exchq; rw [he]] at h
      intro u2 H1 e1 hu2
      have l1 := hn.l1
      have hx : 0 ≤ x ∧ x < t.1.length := by
        by_cases c : 0 ≤ x ∧ x < t.1.length
        · exact c
        · unfold exq at he; rw [if_neg c] at he; cases he
      obtain ⟨a1, a2⟩ := pay_lt hn hx.1 (by omega)
      refine ⟨q, _, _, rfl, rfl, e1 _ _ hp.st, by rw [List.length_append, List.length_singleton]; omega, ?_⟩
      have k2 : Kp q H (upd H1 q (.lst (us ++ [u] ++ [u2]))) := (Kp.of e1).trans Kp.upd
      have tu2 : Tups H1 (upd H1 q (.lst (us ++ [u] ++ [u2]))) := Kp.upd.tups (e1 _ _ hp.st)
      have q2 : upd H1 q (.lst (us ++ [u] ++ [u2])) q = some (.lst (us ++ [u] ++ [u2])) := upd_same
      have hu3 := hu2.mono tu2
      have hu0 := (hp.tu.mono e1.tups).mono tu2
      generalize upd H1 q (.lst (us ++ [u] ++ [u2])) = H2 at *
      refine ⟨_, rfl, u, t, n, rfl, hu0, hn, fun v H3 e3 hv => ?_⟩
      obtain ⟨b, rfl, hb⟩ := TD.ints hv
      refine ⟨_, rfl, b, _, _, _, rfl, rfl, SqT.of hb, atI_of hx.1 (get_int a2), ?_⟩
      exact h u2 _ H3 (k2.trans (Kp.of e3)) (e3 _ _ q2) (hu3.mono e3.tups) (.int _)
theorem sc_Party_run : FnScope ["self", "row"] ["self", "row"] (defScope s_Party_run) := ⟨rfl, rfl, rfl, by decide +kernel, rfl, by decide +kernel, by decide +kernel⟩
theorem ok_Party_run (T : Tx K mg) (Z : Ex K) : FnOk P w K mg base (L2.CX P w) 7 (He.ma K (He.ga K "Party") "run") (fdOf K (He.ma K (He.ga K "Party") "run")) ["self", "row"] (spRow K) := by
  refine T.F_Party_run.ok sc_Party_run (fun vs H Q E h => ?_) (fun cdv A outer s H vs Q E hr h => ?_)
  · obtain ⟨p, q, lg, us, u, ss, t, ls, n, a, row, rfl, _⟩ := h
    rfl
  · obtain ⟨p, q, lg, us, u, ss, t, ls, n, a, row, rfl, hp, hn, ha, hl, h⟩ := h
    refine ⟨_, (pss_cons (ps_expr (pe_bm PySem.F.plainAttrs_list PySem.F.slot_list_append PySem.F.type_list_append mt_append (pe_fld (pv 0) rfl) (pa_cons (pe_call (ok_run_moves T Z) (hr.mono (by decide)) rfl T.g_run_moves T.F_run_moves.kp T.b_f_run_moves .nil (passes_call (takes_of rfl rfl rfl rfl) fun _ _ _ _ h => h) (pa_cons (pe_meth0 (pv 0) T.clP T.m_state (ok_Party_state T) (hr.mono (by decide)) T.b_f_Party_state .nil pass0) (pa_cons (pv 1) pa_nil))) pa_nil)))
      (pss_one (ps_ret (pe_callB call_len_seq rfl T.b_len bt_len (pa_cons (pv 1) pa_nil))))), ?_⟩
    obtain ⟨dx, hi⟩ := hp.ins
    have hul := hp.ulen
    have ez := sizeLine_eq
    refine ⟨_, rfl, p, _, dx, _, .ref q, rfl, hi, T.clP, T.n_own_states, rfl, .inl ⟨rfl, _, SqL.of hp.st⟩, _, rfl, p, dx, _, rfl, hi, rfl, p, q, lg, dx, us, u, rfl, hi, hp.st, _, rfl, u, t, n, a, row, rfl, hp.tu, hn, ha, hl, ?_⟩
    cases he : runq t row with
    | error er =>
      rw [show rowq t row = .error er by unfold rowq; rw [he]] at h
      exact h
    | ok t2 =>
      rw [show rowq t row = .ok (.int (row.length : Nat), t2) by unfold rowq; rw [he]] at h
      intro u2 H1 e1 hu2
      refine ⟨q, _, _, rfl, rfl, e1 _ _ hp.st, by rw [List.length_append, List.length_singleton]; omega, ?_⟩
      have k2 : Kp q H (upd H1 q (.lst (us ++ [u] ++ [u2]))) := (Kp.of e1).trans Kp.upd
      have tu2 : Tups H1 (upd H1 q (.lst (us ++ [u] ++ [u2]))) := Kp.upd.tups (e1 _ _ hp.st)
      have q2 : upd H1 q (.lst (us ++ [u] ++ [u2])) q = some (.lst (us ++ [u] ++ [u2])) := upd_same
      have hu3 := hu2.mono tu2
      have ha2 := k2 _ _ (hp.ne_row ha) ha
      generalize upd H1 q (.lst (us ++ [u] ++ [u2])) = H2 at *
      refine ⟨_, rfl, a, _, rfl, .inl (SqL.of ha2), ?_⟩
      rw [List.length_map]
      exact h u2 _ H2 k2 q2 hu3 (.int _)
theorem sc_Party_again : FnScope ["self", "row", "many"] ["self", "row", "many"] (defScope s_Party_again) := ⟨rfl, rfl, rfl, by decide +kernel, rfl, by decide +kernel, by decide +kernel⟩
theorem ok_Party_again (T : Tx K mg) (Z : Ex K) : FnOk P w K mg base (L2.CX P w) 6 (He.ma K (He.ga K "Party") "again") (fdOf K (He.ma K (He.ga K "Party") "again")) ["self", "row", "many"] (spAgain K) := by
  refine T.F_Party_again.ok sc_Party_again (fun vs H Q E h => ?_) (fun cdv A outer s H vs Q E hr h => ?_)
  · obtain ⟨p, q, lg, us, u, ss, t, ls, n, a, row, k, rfl, _⟩ := h
    rfl
  · obtain ⟨p, q, lg, us, u, ss, t, ls, n, a, row, k, rfl, hp, hw, ha, hk, hz, h⟩ := h
    refine ⟨_, (pss_cons (ps_expr (pe_bm PySem.F.plainAttrs_list PySem.F.slot_list_append PySem.F.type_list_append mt_append (pe_fld (pv 0) rfl) (pa_cons (pe_call (ok_after_passes T Z) (hr.mono (by decide)) rfl T.g_after_passes T.F_after_passes.kp T.b_f_after_passes .nil (passes_call (takes_of rfl rfl rfl rfl) fun _ _ _ _ h => h) (pa_cons (pe_meth0 (pv 0) T.clP T.m_state (ok_Party_state T) (hr.mono (by decide)) T.b_f_Party_state .nil pass0) (pa_cons (pv 1) (pa_cons (pv 2) pa_nil)))) pa_nil)))
      (pss_one (ps_ret (pe_ix ix_tup (pe_meth0 (pv 0) T.clP T.m_state (ok_Party_state T) (hr.mono (by decide)) T.b_f_Party_state .nil pass0) pe_int (fun _ _ => rfl))))), ?_⟩
    obtain ⟨dx, hi⟩ := hp.ins
    have hul := hp.ulen
    have ez := sizeLine_eq
    refine ⟨_, rfl, p, _, dx, _, .ref q, rfl, hi, T.clP, T.n_own_states, rfl, .inl ⟨rfl, _, SqL.of hp.st⟩, _, rfl, p, dx, _, rfl, hi, rfl, p, q, lg, dx, us, u, rfl, hi, hp.st, _, rfl, _, rfl, u, a, t, row, n, k, rfl, hp.tu, ha, hw, hk, hz, ?_⟩
    cases he : afq t row k with
    | error er =>
      rw [show againq t row k = .error er by unfold againq; rw [he]] at h
      exact h
    | ok t2 =>
      rw [show againq t row k = .ok (tI t2.2, t2) by unfold againq; rw [he]] at h
      intro u2 H1 e1 hu2
      refine ⟨q, _, _, rfl, rfl, e1 _ _ hp.st, by rw [List.length_append, List.length_singleton]; omega, ?_⟩
      have k2 : Kp q H (upd H1 q (.lst (us ++ [u] ++ [u2]))) := (Kp.of e1).trans Kp.upd
      have tu2 : Tups H1 (upd H1 q (.lst (us ++ [u] ++ [u2]))) := Kp.upd.tups (e1 _ _ hp.st)
      have q2 : upd H1 q (.lst (us ++ [u] ++ [u2])) q = some (.lst (us ++ [u] ++ [u2])) := upd_same
      have hu3 := hu2.mono tu2
      have hi2 := k2 _ _ hp.pq hi
      generalize upd H1 q (.lst (us ++ [u] ++ [u2])) = H2 at *
      obtain ⟨va, vb, vc, rfl, hva, hvb, hvc⟩ := TD.st hu3
      refine ⟨_, rfl, p, dx, _, rfl, hi2, rfl, p, q, lg, dx, _, _, rfl, hi2, q2, va, _, _, _, rfl, rfl, SqT.of hva, atI_nat (j := 1) rfl, ?_⟩
      exact h _ _ H2 k2 q2 hu3 (TD.ofInts hvc)
theorem sc_Party_go : FnScope ["self", "goal", "far"] ["self", "goal"] (defScope s_Party_go) := ⟨rfl, rfl, rfl, by decide +kernel, rfl, by decide +kernel, by decide +kernel⟩
theorem ok_Party_go (T : Tx K mg) (Z : Ex K) : FnOk P w K mg base (L2.CX P w) 9 (He.ma K (He.ga K "Party") "go") (fdOf K (He.ma K (He.ga K "Party") "go")) ["self", "goal"] (spGo K) := by
  refine T.F_Party_go.ok sc_Party_go (fun vs H Q E h => ?_) (fun cdv A outer s H vs Q E hr h => ?_)
  · obtain ⟨p, q, lg, us, u, ss, t, ls, n, m, g, d, rfl, _⟩ := h
    rfl
  · obtain ⟨p, q, lg, us, u, ss, t, ls, n, m, g, d, rfl, hp, hn, hm, hg, h⟩ := h
    refine ⟨_, (pss_cons (ps_set (i := 2) sc_Party_go.nd rfl (Or.inl rfl) (pe_call (ok_distance T Z) (hr.mono (by decide)) rfl T.g_distance T.F_distance.kp T.b_f_distance .nil (passes_call (takes_of rfl rfl rfl rfl) fun _ _ _ _ h => h) (pa_cons (pe_meth0 (pv 0) T.clP T.m_state (ok_Party_state T) (hr.mono (by decide)) T.b_f_Party_state .nil pass0) (pa_cons (pv 1) pa_nil))))
      (pss_cons (ps_expr (pe_bm PySem.F.plainAttrs_list PySem.F.slot_list_append PySem.F.type_list_append mt_append (pe_fld (pv 0) rfl) (pa_cons (pe_tup (pa_cons (pe_callTy call_tuple_of rfl T.b_tuple bt_tuple (pa_cons (pe_ix ix_tup (pv 1) pe_int (fun _ _ => rfl)) pa_nil)) (pa_cons (pe_callTy call_tuple_of rfl T.b_tuple bt_tuple (pa_cons (pe_ix ix_tup (pv 1) pe_int (fun _ _ => rfl)) pa_nil)) pa_nil))) pa_nil)))
      (pss_one (ps_ret (pv 2))))), ?_⟩
    obtain ⟨dx, hi⟩ := hp.ins
    have hul := hp.ulen
    have ez := sizeLine_eq
    refine ⟨_, rfl, p, dx, _, rfl, hi, rfl, p, q, lg, dx, us, u, rfl, hi, hp.st, _, rfl, u, g, t, d, n, m, rfl, hp.tu, hg, hn, hm, ?_⟩
    cases he : distq t d with
    | error er =>
      rw [show goq t d = .error er by unfold goq; rw [he]] at h
      exact h
    | ok z =>
      rw [show goq t d = .ok (.int z, d) by unfold goq; rw [he]] at h
      intro H1 e1
      obtain ⟨va, vb, vc, rfl, hva, hvb, hvc⟩ := TD.st hg
      refine ⟨_, rfl, p, _, dx, _, .ref q, rfl, e1 _ _ hi, T.clP, T.n_own_states, rfl, .inl ⟨rfl, _, SqL.of (e1 _ _ hp.st)⟩, ?_⟩
      refine ⟨_, rfl, va, _, _, _, rfl, rfl, SqT.of (e1 _ _ hva), atI_nat (j := 0) rfl, vb, _, rfl, .inr ⟨SqT.of (e1 _ _ hvb), ?_⟩⟩
      refine ⟨_, rfl, va, _, _, _, rfl, rfl, SqT.of (e1 _ _ hva), atI_nat (j := 1) rfl, vc, _, rfl, .inr ⟨SqT.of (e1 _ _ hvc), ?_⟩⟩
      refine ⟨line2, fun p1 h1 => ?_⟩
      have e2 := e1.trans (Same.new (o := .tup [.ref vb, .ref vc]) h1)
      have hu2 : TD (upd H1 p1 (.tup [.ref vb, .ref vc])) (.ref p1) (stD d) := TD.ofSt upd_same (e2 _ _ hvb) (e2 _ _ hvc)
      generalize upd H1 p1 (.tup [.ref vb, .ref vc]) = H2 at *
      refine ⟨q, _, _, rfl, rfl, e2 _ _ hp.st, by rw [List.length_append, List.length_singleton]; omega, ?_⟩
      exact ⟨_, rfl, h _ _ _ ((Kp.of e2).trans Kp.upd) upd_same (hu2.mono (Kp.upd.tups (e2 _ _ hp.st))) (.int _)⟩
end
end Tr
end
section
set_option Elab.async false
set_option linter.all false
set_option maxRecDepth 100000
set_option maxHeartbeats 4000000
namespace Tr
open PySem PySem.Spec PyProof.Rows L2
/-! ### mirrors -/
def giveq (s : S) (i c : Int) : Except Er (PyData × S) := if 0 ≤ i ∧ i < s.1.length then .ok (.int (s.2.getD i.toNat 0 + c), (s.1, s.2.set i.toNat (s.2.getD i.toNat 0 + c))) else .error (.one 1 (.int i))
def takeq (s : S) (i c : Int) : Except Er (PyData × S) := if 0 ≤ i ∧ i < s.1.length then
    if s.2.getD i.toNat 0 - c < 0 then .error (.one 3 (.int i)) else .ok (.int (s.2.getD i.toNat 0 - c), (s.1, s.2.set i.toNat (s.2.getD i.toNat 0 - c)))
  else .error (.one 1 (.int i))
def comeq (s : S) (c : Int) : Except Er (PyData × S) := if 12 ≤ s.1.length then .error (.one 7 (.int 12)) else .ok (.int ((s.1.length : Nat) + 1), (s.1 ++ [((s.1.length : Nat) : Int)], s.2 ++ [c]))
def leaveq (s : S) (i : Int) : Except Er (PyData × S) := if 0 ≤ i ∧ i < s.1.length then
    if s.1.length ≤ 2 then .error .few else .ok (.int (s.2.getD i.toNat 0), wo s i.toNat)
  else .error (.one 1 (.int i))
theorem lookq_ok {s : S} {i : Int} (h : 0 ≤ i ∧ i < s.1.length) : lookq s i = .ok () := by unfold lookq; rw [if_pos h]
theorem lookq_no {s : S} {i : Int} (h : ¬ (0 ≤ i ∧ i < s.1.length)) : lookq s i = .error (.one 1 (.int i)) := by unfold lookq; rw [if_neg h]
/-! ### promises -/
def spGive (K : PySem.W.Frag) (f : S → Int → Int → Except Er (PyData × S)) : Sp := fun vs H Q E => ∃ (p q lg : Addr) (us : List V) (u : V) (ss : List S) (t : S) (ls : List V) (n : Nat) (i c : Int), vs = [.ref p, .int i, .int c] ∧ Pty K H p q lg us u ss t ls ∧ Rg n t ∧ Grows K H E q us u Q (f t i c)
def spCome (K : PySem.W.Frag) : Sp := fun vs H Q E => ∃ (p q lg : Addr) (us : List V) (u : V) (ss : List S) (t : S) (ls : List V) (n : Nat) (c : Int), vs = [.ref p, .int c] ∧ Pty K H p q lg us u ss t ls ∧ Rg n t ∧ Grows K H E q us u Q (comeq t c)
def spLeave (K : PySem.W.Frag) : Sp := fun vs H Q E => ∃ (p q lg : Addr) (us : List V) (u : V) (ss : List S) (t : S) (ls : List V) (n : Nat) (i : Int), vs = [.ref p, .int i] ∧ Pty K H p q lg us u ss t ls ∧ Rg n t ∧ Grows K H E q us u Q (leaveq t i)
def spUndo (K : PySem.W.Frag) : Sp := fun vs H Q _ => ∃ (p q lg : Addr) (us : List V) (u : V) (ss : List S) (t : S) (ls : List V), vs = [.ref p] ∧ Pty K H p q lg us u ss t ls ∧ (if ss = [] then Q (.bl false) H else ∀ H', Kp q H H' → H' q = some (.lst us) → Q (.bl true) H')
section
variable {P : Program} {w : World} {K : PySem.W.Frag} {mg : Str → Option Value} {base : Heap}
theorem sc_Party_give : FnScope ["self", "person", "coins", "found"] ["self", "person", "coins"] (defScope s_Party_give) := ⟨rfl, rfl, rfl, by decide +kernel, rfl, by decide +kernel, by decide +kernel⟩
theorem ok_Party_give (T : Tx K mg) (Z : Ex K) : FnOk P w K mg base (L2.CX P w) 4 (He.ma K (He.ga K "Party") "give") (fdOf K (He.ma K (He.ga K "Party") "give")) ["self", "person", "coins"] (spGive K giveq) := by
  refine T.F_Party_give.ok sc_Party_give (fun vs H Q E h => ?_) (fun cdv A outer s H vs Q E hr h => ?_)
  · obtain ⟨p, q, lg, us, u, ss, t, ls, n, i, c, rfl, _⟩ := h
    rfl
  · obtain ⟨p, q, lg, us, u, ss, t, ls, n, i, c, rfl, hp, hn, h⟩ := h
    refine ⟨_, (pss_cons (ps_expr (pe_meth (pv 0) T.clP T.m_look_person (ok_Party_look_person T Z) (hr.mono (by decide)) T.b_f_Party_look_person .nil (passes_call (takes_of rfl rfl rfl rfl) fun _ _ _ _ h => h) (pa_cons (pv 1) pa_nil)))
      (pss_cons (ps_set (i := 3) sc_Party_give.nd rfl (Or.inl rfl) (pe_op op_add (pe_ix ix_tup (pe_ix ix_tup (pe_meth0 (pv 0) T.clP T.m_state (ok_Party_state T) (hr.mono (by decide)) T.b_f_Party_state .nil pass0) pe_int (fun _ _ => rfl)) (pv 1) (fun _ _ => rfl)) (pv 2)))
      (pss_cons (ps_expr (pe_bm PySem.F.plainAttrs_list PySem.F.slot_list_append PySem.F.type_list_append mt_append (pe_fld (pv 0) rfl) (pa_cons (pe_call (ok_with_purse T) (hr.mono (by decide)) rfl T.g_with_purse T.F_with_purse.kp T.b_f_with_purse .nil pass0 (pa_cons (pe_meth0 (pv 0) T.clP T.m_state (ok_Party_state T) (hr.mono (by decide)) T.b_f_Party_state .nil pass0) (pa_cons (pv 1) (pa_cons (pv 3) pa_nil)))) pa_nil)))
      (pss_one (ps_ret (pv 3)))))), ?_⟩
    obtain ⟨dx, hi⟩ := hp.ins
    have hul := hp.ulen
    have ez := sizeLine_eq
    have l1 := hn.l1
    have l2 := hn.l2
    have nt := hn.top
    refine ⟨_, rfl, p, dx, _, rfl, hi, rfl, _, rfl, p, q, lg, us, u, ss, t, ls, i, rfl, hp, by omega, ?_⟩
    by_cases c1 : 0 ≤ i ∧ i < t.1.length
    case neg =>
      rw [lookq_no c1]
      rw [show giveq t i c = .error (.one 1 (.int i)) by unfold giveq; rw [if_neg c1]] at h
      exact h
    rw [lookq_ok c1]
    rw [show giveq t i c = .ok (.int (t.2.getD i.toNat 0 + c), (t.1, t.2.set i.toNat (t.2.getD i.toNat 0 + c))) by unfold giveq; rw [if_pos c1]] at h
    obtain ⟨va, vb, vc, rfl, hva, hvb, hvc⟩ := TD.st hp.tu
    obtain ⟨j, rfl⟩ : ∃ j : Nat, i = (j : Int) := ⟨i.toNat, (Int.toNat_of_nonneg c1.1).symm⟩
    obtain ⟨z, hz⟩ := get_lt (xs := t.2) (i := j) (by omega)
    rw [Int.toNat_natCast, getD_of hz] at h
    refine ⟨_, rfl, p, dx, _, rfl, hi, rfl, p, q, lg, dx, us, _, rfl, hi, hp.st, va, _, _, _, rfl, rfl, SqT.of hva, atI_nat (j := 1) rfl, _, rfl, vc, _, _, _, rfl, rfl, SqT.of hvc, atI_nat (get_int hz), _, rfl, _, _, rfl, rfl, ?_⟩
    refine ⟨_, rfl, p, _, dx, _, .ref q, rfl, hi, T.clP, T.n_own_states, rfl, .inl ⟨rfl, _, SqL.of hp.st⟩, _, rfl, p, dx, _, rfl, hi, rfl, p, q, lg, dx, us, _, rfl, hi, hp.st, _, rfl, _, rfl, ?_⟩
    refine ⟨.ref va, t, n, j, z + c, rfl, hp.tu, hn, by omega, fun u2 H1 e1 hu2 => ?_⟩
    exact ⟨q, _, _, rfl, rfl, e1 _ _ hp.st, by rw [List.length_append, List.length_singleton]; omega, _, rfl, h _ _ _ ((Kp.of e1).trans Kp.upd) upd_same (hu2.mono (Kp.upd.tups (e1 _ _ hp.st))) (.int _)⟩
theorem sc_Party_take : FnScope ["self", "person", "coins", "found"] ["self", "person", "coins"] (defScope s_Party_take) := ⟨rfl, rfl, rfl, by decide +kernel, rfl, by decide +kernel, by decide +kernel⟩
theorem ok_Party_take (T : Tx K mg) (Z : Ex K) : FnOk P w K mg base (L2.CX P w) 4 (He.ma K (He.ga K "Party") "take") (fdOf K (He.ma K (He.ga K "Party") "take")) ["self", "person", "coins"] (spGive K takeq) := by
  refine T.F_Party_take.ok sc_Party_take (fun vs H Q E h => ?_) (fun cdv A outer s H vs Q E hr h => ?_)
  · obtain ⟨p, q, lg, us, u, ss, t, ls, n, i, c, rfl, _⟩ := h
    rfl
  · obtain ⟨p, q, lg, us, u, ss, t, ls, n, i, c, rfl, hp, hn, h⟩ := h
    refine ⟨_, (pss_cons (ps_expr (pe_meth (pv 0) T.clP T.m_look_person (ok_Party_look_person T Z) (hr.mono (by decide)) T.b_f_Party_look_person .nil (passes_call (takes_of rfl rfl rfl rfl) fun _ _ _ _ h => h) (pa_cons (pv 1) pa_nil)))
      (pss_cons (ps_set (i := 3) sc_Party_take.nd rfl (Or.inl rfl) (pe_op op_sub (pe_ix ix_tup (pe_ix ix_tup (pe_meth0 (pv 0) T.clP T.m_state (ok_Party_state T) (hr.mono (by decide)) T.b_f_Party_state .nil pass0) pe_int (fun _ _ => rfl)) (pv 1) (fun _ _ => rfl)) (pv 2)))
      (pss_cons (ps_if (pt_cmpR op_lt (pv 3) pe_int (nomark _)) (pss_one (ps_raise rfl (takes_of rfl rfl rfl rfl) (mk_Empty T Z (hr.mono (by decide)) rfl (pa_cons (pv 1) pa_nil)))) pss_nil)
      (pss_cons (ps_expr (pe_bm PySem.F.plainAttrs_list PySem.F.slot_list_append PySem.F.type_list_append mt_append (pe_fld (pv 0) rfl) (pa_cons (pe_call (ok_with_purse T) (hr.mono (by decide)) rfl T.g_with_purse T.F_with_purse.kp T.b_f_with_purse .nil pass0 (pa_cons (pe_meth0 (pv 0) T.clP T.m_state (ok_Party_state T) (hr.mono (by decide)) T.b_f_Party_state .nil pass0) (pa_cons (pv 1) (pa_cons (pv 3) pa_nil)))) pa_nil)))
      (pss_one (ps_ret (pv 3))))))), ?_⟩
    obtain ⟨dx, hi⟩ := hp.ins
    have hul := hp.ulen
    have ez := sizeLine_eq
    have l1 := hn.l1
    have l2 := hn.l2
    have nt := hn.top
    refine ⟨_, rfl, p, dx, _, rfl, hi, rfl, _, rfl, p, q, lg, us, u, ss, t, ls, i, rfl, hp, by omega, ?_⟩
    by_cases c1 : 0 ≤ i ∧ i < t.1.length
    case neg =>
      rw [lookq_no c1]
      rw [show takeq t i c = .error (.one 1 (.int i)) by unfold takeq; rw [if_neg c1]] at h
      exact h
    rw [lookq_ok c1]
    rw [show takeq t i c = if t.2.getD i.toNat 0 - c < 0 then .error (.one 3 (.int i)) else .ok (.int (t.2.getD i.toNat 0 - c), (t.1, t.2.set i.toNat (t.2.getD i.toNat 0 - c))) by unfold takeq; rw [if_pos c1]] at h
    obtain ⟨va, vb, vc, rfl, hva, hvb, hvc⟩ := TD.st hp.tu
    obtain ⟨j, rfl⟩ : ∃ j : Nat, i = (j : Int) := ⟨i.toNat, (Int.toNat_of_nonneg c1.1).symm⟩
    obtain ⟨z, hz⟩ := get_lt (xs := t.2) (i := j) (by omega)
    rw [Int.toNat_natCast, getD_of hz] at h
    refine ⟨_, rfl, p, dx, _, rfl, hi, rfl, p, q, lg, dx, us, _, rfl, hi, hp.st, va, _, _, _, rfl, rfl, SqT.of hva, atI_nat (j := 1) rfl, _, rfl, vc, _, _, _, rfl, rfl, SqT.of hvc, atI_nat (get_int hz), _, rfl, _, _, rfl, rfl, ?_⟩
    refine ⟨_, rfl, _, _, rfl, rfl, _, rfl, iteD (fun c2 => ?_) fun c2 => ?_⟩
    · rw [if_pos c2] at h
      exact ⟨_, rfl, mk1_of fun d hd => h _ _ _ (Same.new hd) ⟨rfl, d, rfl, upd_same⟩⟩
    rw [if_neg c2] at h
    refine ⟨_, rfl, p, _, dx, _, .ref q, rfl, hi, T.clP, T.n_own_states, rfl, .inl ⟨rfl, _, SqL.of hp.st⟩, _, rfl, p, dx, _, rfl, hi, rfl, p, q, lg, dx, us, _, rfl, hi, hp.st, _, rfl, _, rfl, ?_⟩
    refine ⟨.ref va, t, n, j, z - c, rfl, hp.tu, hn, by omega, fun u2 H1 e1 hu2 => ?_⟩
    exact ⟨q, _, _, rfl, rfl, e1 _ _ hp.st, by rw [List.length_append, List.length_singleton]; omega, _, rfl, h _ _ _ ((Kp.of e1).trans Kp.upd) upd_same (hu2.mono (Kp.upd.tups (e1 _ _ hp.st))) (.int _)⟩
theorem sc_Party_come : FnScope ["self", "coins", "seats", "purses"] ["self", "coins"] (defScope s_Party_come) := ⟨rfl, rfl, rfl, by decide +kernel, rfl, by decide +kernel, by decide +kernel⟩
theorem ok_Party_come (T : Tx K mg) (Z : Ex K) : FnOk P w K mg base (L2.CX P w) 4 (He.ma K (He.ga K "Party") "come") (fdOf K (He.ma K (He.ga K "Party") "come")) ["self", "coins"] (spCome K) := by
  refine T.F_Party_come.ok sc_Party_come (fun vs H Q E h => ?_) (fun cdv A outer s H vs Q E hr h => ?_)
  · obtain ⟨p, q, lg, us, u, ss, t, ls, n, c, rfl, _⟩ := h
    rfl
  · obtain ⟨p, q, lg, us, u, ss, t, ls, n, c, rfl, hp, hn, h⟩ := h
    refine ⟨_, (pss_cons (ps_if (pt_cmpR op_ge (pe_callB (call_lenP T (hr.mono (by decide))) rfl T.b_len bt_len (pa_cons (pv 0) pa_nil)) (pe_globI rfl T.i_MOST_PEOPLE) (nomark _)) (pss_one (ps_raise rfl (takes_of rfl rfl rfl rfl) (mk_Full T Z (hr.mono (by decide)) rfl (pa_cons (pe_globI rfl T.i_MOST_PEOPLE) pa_nil)))) pss_nil)
      (pss_cons (ps_asg (pe_meth0 (pv 0) T.clP T.m_state (ok_Party_state T) (hr.mono (by decide)) T.b_f_Party_state .nil pass0) (pg_tup rfl (pgs_cons (pg_name (i := 2) sc_Party_come.nd rfl (Or.inl rfl)) (pgs_cons (pg_name (i := 3) sc_Party_come.nd rfl (Or.inl rfl)) pgs_nil))))
      (pss_cons (ps_expr (pe_bm PySem.F.plainAttrs_list PySem.F.slot_list_append PySem.F.type_list_append mt_append (pe_fld (pv 0) rfl) (pa_cons (pe_tup (pa_cons (pe_op op_catA (pv 2) (pe_tup (pa_cons (pe_callB call_len_seq rfl T.b_len bt_len (pa_cons (pv 2) pa_nil)) pa_nil))) (pa_cons (pe_op op_catA (pv 3) (pe_tup (pa_cons (pv 1) pa_nil))) pa_nil))) pa_nil)))
      (pss_one (ps_ret (pe_callB (call_lenP T (hr.mono (by decide))) rfl T.b_len bt_len (pa_cons (pv 0) pa_nil))))))), ?_⟩
    obtain ⟨dx, hi⟩ := hp.ins
    have hul := hp.ulen
    have ez := sizeLine_eq
    have l1 := hn.l1
    have l2 := hn.l2
    have nt := hn.top
    refine ⟨_, rfl, p, dx, _, rfl, hi, p, q, lg, dx, us, u, t, rfl, hi, hp.st, hp.tu, _, rfl, by omega, ?_⟩
    refine ⟨_, _, rfl, rfl, _, rfl, iteD (fun c1 => ?_) fun c1 => ?_⟩
    · rw [show comeq t c = .error (.one 7 (.int 12)) by unfold comeq; rw [if_pos (by omega)]] at h
      exact mk1_of fun d hd => h _ _ _ (Same.new hd) ⟨rfl, d, rfl, upd_same⟩
    rw [show comeq t c = .ok (.int ((t.1.length : Nat) + 1), (t.1 ++ [((t.1.length : Nat) : Int)], t.2 ++ [c])) by unfold comeq; rw [if_neg (by omega)]] at h
    obtain ⟨va, vb, vc, rfl, hva, hvb, hvc⟩ := TD.st hp.tu
    refine ⟨_, rfl, p, dx, _, rfl, hi, rfl, p, q, lg, dx, us, _, rfl, hi, hp.st, gp2 hva ?_⟩
    refine ⟨_, rfl, p, _, dx, _, .ref q, rfl, hi, T.clP, T.n_own_states, rfl, .inl ⟨rfl, _, SqL.of hp.st⟩, _, rfl, _, rfl, vb, _, rfl, .inr (SqT.of hvb), line1, fun p1 h1 => ?_⟩
    have e1 : Same H (upd H p1 (.tup [.int ((t.1.map V.int).length : Nat)])) := Same.new h1
    have h11 : upd H p1 (.tup [.int ((t.1.map V.int).length : Nat)]) p1 = some (.tup [.int ((t.1.map V.int).length : Nat)]) := upd_same
    generalize upd H p1 (.tup [.int ((t.1.map V.int).length : Nat)]) = H1 at *
    refine catA_any (e1 _ _ hvb) h11 (by simp; omega) fun p2 H2 e2 h2 => ?_
    have e12 := e1.trans e2
    refine ⟨_, rfl, _, rfl, line1, fun p3 h3 => ?_⟩
    have e3 := e12.trans (Same.new (o := .tup [.int c]) h3)
    have h32 := (Same.new (o := .tup [.int c]) h3) _ _ h2
    have h33 : upd H2 p3 (.tup [.int c]) p3 = some (.tup [.int c]) := upd_same
    generalize upd H2 p3 (.tup [.int c]) = H3 at *
    refine catA_any (e3 _ _ hvc) h33 (by simp; omega) fun p4 H4 e4 h4 => ?_
    refine ⟨line2, fun p5 h5 => ?_⟩
    have e5 := (e3.trans e4).trans (Same.new (o := .tup [.ref p2, .ref p4]) h5)
    have hu5 : TD (upd H4 p5 (.tup [.ref p2, .ref p4])) (.ref p5) (stD (t.1 ++ [((t.1.length : Nat) : Int)], t.2 ++ [c])) := by
      refine TD.ofSt upd_same ?_ ?_
      · have := (e4.trans (Same.new (o := .tup [.ref p2, .ref p4]) h5)) _ _ h32
        rw [this]
        simp
      · have := (Same.new (o := .tup [.ref p2, .ref p4]) h5) _ _ h4
        rw [this]
        simp
    generalize upd H4 p5 (.tup [.ref p2, .ref p4]) = H5 at *
    refine ⟨q, _, _, rfl, rfl, e5 _ _ hp.st, by rw [List.length_append, List.length_singleton]; omega, ?_⟩
    have k6 : Kp q H (upd H5 q (.lst (us ++ [.ref va] ++ [.ref p5]))) := (Kp.of e5).trans Kp.upd
    have q6 : upd H5 q (.lst (us ++ [.ref va] ++ [.ref p5])) q = some (.lst (us ++ [.ref va] ++ [.ref p5])) := upd_same
    have tu6 : Tups H5 (upd H5 q (.lst (us ++ [.ref va] ++ [.ref p5]))) := Kp.upd.tups (e5 _ _ hp.st)
    have hu6 := hu5.mono tu6
    generalize upd H5 q (.lst (us ++ [.ref va] ++ [.ref p5])) = H6 at *
    refine ⟨_, rfl, p, dx, _, rfl, k6 _ _ hp.pq hi, p, q, lg, dx, _, _, _, rfl, k6 _ _ hp.pq hi, q6, hu6, _, rfl, by simp; omega, ?_⟩
    refine h _ _ _ k6 q6 hu6 ?_
    rw [List.length_append, List.length_singleton, Int.natCast_add]
    exact .int _
theorem sc_Party_leave : FnScope ["self", "person", "coins"] ["self", "person"] (defScope s_Party_leave) := ⟨rfl, rfl, rfl, by decide +kernel, rfl, by decide +kernel, by decide +kernel⟩
theorem ok_Party_leave (T : Tx K mg) (Z : Ex K) : FnOk P w K mg base (L2.CX P w) 4 (He.ma K (He.ga K "Party") "leave") (fdOf K (He.ma K (He.ga K "Party") "leave")) ["self", "person"] (spLeave K) := by
  refine T.F_Party_leave.ok sc_Party_leave (fun vs H Q E h => ?_) (fun cdv A outer s H vs Q E hr h => ?_)
  · obtain ⟨p, q, lg, us, u, ss, t, ls, n, i, rfl, _⟩ := h
    rfl
  · obtain ⟨p, q, lg, us, u, ss, t, ls, n, i, rfl, hp, hn, h⟩ := h
    refine ⟨_, (pss_cons (ps_expr (pe_meth (pv 0) T.clP T.m_look_person (ok_Party_look_person T Z) (hr.mono (by decide)) T.b_f_Party_look_person .nil (passes_call (takes_of rfl rfl rfl rfl) fun _ _ _ _ h => h) (pa_cons (pv 1) pa_nil)))
      (pss_cons (ps_if (pt_cmpR op_le (pe_callB (call_lenP T (hr.mono (by decide))) rfl T.b_len bt_len (pa_cons (pv 0) pa_nil)) (pe_globI rfl T.i_LEAST_PEOPLE) (nomark _)) (pss_one (ps_raise rfl (takes_of rfl rfl rfl rfl) (mk_Few T Z (hr.mono (by decide)) rfl))) pss_nil)
      (pss_cons (ps_set (i := 2) sc_Party_leave.nd rfl (Or.inl rfl) (pe_ix ix_tup (pe_ix ix_tup (pe_meth0 (pv 0) T.clP T.m_state (ok_Party_state T) (hr.mono (by decide)) T.b_f_Party_state .nil pass0) pe_int (fun _ _ => rfl)) (pv 1) (fun _ _ => rfl)))
      (pss_cons (ps_expr (pe_bm PySem.F.plainAttrs_list PySem.F.slot_list_append PySem.F.type_list_append mt_append (pe_fld (pv 0) rfl) (pa_cons (pe_call (ok_without T) (hr.mono (by decide)) rfl T.g_without T.F_without.kp T.b_f_without .nil pass0 (pa_cons (pe_meth0 (pv 0) T.clP T.m_state (ok_Party_state T) (hr.mono (by decide)) T.b_f_Party_state .nil pass0) (pa_cons (pv 1) pa_nil))) pa_nil)))
      (pss_one (ps_ret (pv 2))))))), ?_⟩
    obtain ⟨dx, hi⟩ := hp.ins
    have hul := hp.ulen
    have ez := sizeLine_eq
    have l1 := hn.l1
    have l2 := hn.l2
    have nt := hn.top
    refine ⟨_, rfl, p, dx, _, rfl, hi, rfl, _, rfl, p, q, lg, us, u, ss, t, ls, i, rfl, hp, by omega, ?_⟩
    by_cases c1 : 0 ≤ i ∧ i < t.1.length
    case neg =>
      rw [lookq_no c1]
      rw [show leaveq t i = .error (.one 1 (.int i)) by unfold leaveq; rw [if_neg c1]] at h
      exact h
    rw [lookq_ok c1]
    rw [show leaveq t i = if t.1.length ≤ 2 then .error .few else .ok (.int (t.2.getD i.toNat 0), wo t i.toNat) by unfold leaveq; rw [if_pos c1]] at h
    obtain ⟨va, vb, vc, rfl, hva, hvb, hvc⟩ := TD.st hp.tu
    obtain ⟨j, rfl⟩ : ∃ j : Nat, i = (j : Int) := ⟨i.toNat, (Int.toNat_of_nonneg c1.1).symm⟩
    obtain ⟨z, hz⟩ := get_lt (xs := t.2) (i := j) (by omega)
    rw [Int.toNat_natCast, getD_of hz] at h
    refine ⟨_, rfl, p, dx, _, rfl, hi, p, q, lg, dx, us, _, t, rfl, hi, hp.st, hp.tu, _, rfl, by omega, ?_⟩
    refine ⟨_, _, rfl, rfl, _, rfl, iteD (fun c2 => ?_) fun c2 => ?_⟩
    · rw [if_pos (by omega)] at h
      intro a ha
      exact h _ _ _ (Same.refl _) ⟨rfl, rfl⟩
    rw [if_neg (by omega)] at h
    refine ⟨_, rfl, p, dx, _, rfl, hi, rfl, p, q, lg, dx, us, _, rfl, hi, hp.st, va, _, _, _, rfl, rfl, SqT.of hva, atI_nat (j := 1) rfl, _, rfl, vc, _, _, _, rfl, rfl, SqT.of hvc, atI_nat (get_int hz), ?_⟩
    refine ⟨_, rfl, p, _, dx, _, .ref q, rfl, hi, T.clP, T.n_own_states, rfl, .inl ⟨rfl, _, SqL.of hp.st⟩, _, rfl, p, dx, _, rfl, hi, rfl, p, q, lg, dx, us, _, rfl, hi, hp.st, _, rfl, .ref va, t, n, j, rfl, hp.tu, hn, by omega, fun u2 H1 e1 hu2 => ?_⟩
    exact ⟨q, _, _, rfl, rfl, e1 _ _ hp.st, by rw [List.length_append, List.length_singleton]; omega, _, rfl, h _ _ _ ((Kp.of e1).trans Kp.upd) upd_same (hu2.mono (Kp.upd.tups (e1 _ _ hp.st))) (.int _)⟩
theorem sc_Party_undo : FnScope ["self"] ["self"] (defScope s_Party_undo) := ⟨rfl, rfl, rfl, by decide +kernel, rfl, by decide +kernel, by decide +kernel⟩
theorem ok_Party_undo (T : Tx K mg) : FnOk P w K mg base CX0 2 (He.ma K (He.ga K "Party") "undo") (fdOf K (He.ma K (He.ga K "Party") "undo")) ["self"] (spUndo K) := by
  refine T.F_Party_undo.ok sc_Party_undo (fun vs H Q E h => ?_) (fun cdv A outer s H vs Q E hr h => ?_)
  · obtain ⟨p, q, lg, us, u, ss, t, ls, rfl, _⟩ := h
    rfl
  · obtain ⟨p, q, lg, us, u, ss, t, ls, rfl, hp, h⟩ := h
    refine ⟨_, PSs.nox (pss_cons (ps_if (pt_cmpR op_eq (pe_meth0 (pv 0) T.clP T.m_deeds (ok_Party_deeds T) (hr.mono (by decide)) T.b_f_Party_deeds .nil pass0) pe_int (nomark _)) (pss_one (ps_ret pe_bl)) pss_nil)
      (pss_cons (ps_expr (pe_bm0 PySem.F.plainAttrs_list PySem.F.slot_list_pop PySem.F.type_list_pop mt_pop (pe_fld (pv 0) rfl)))
      (pss_one (ps_ret pe_bl)))), ?_⟩
    obtain ⟨dx, hi⟩ := hp.ins
    refine ⟨_, rfl, p, dx, _, rfl, hi, rfl, p, q, lg, us, u, ss, t, ls, rfl, hp, rfl, _, rfl, iteD (fun c1 => ?_) fun c1 => ?_⟩
    · have c2 : ((ss.length : Nat) : Int) = 0 := V.int.inj c1
      rw [if_pos (List.eq_nil_of_length_eq_zero (by omega))] at h
      exact h
    rw [if_neg (fun e => c1 (by rw [e]; rfl))] at h
    refine ⟨_, rfl, p, _, dx, _, .ref q, rfl, hi, T.clP, T.n_own_states, rfl, .inl ⟨rfl, _, SqL.of hp.st⟩, q, _, u, rfl, rfl, hp.st, ?_, ?_⟩
    · rw [List.length_append, List.length_singleton, Nat.add_sub_cancel, List.getElem?_append_right (Nat.le_refl _), Nat.sub_self]; rfl
    · rw [List.dropLast_concat]
      exact h _ Kp.upd upd_same
end
end Tr
end
section
set_option Elab.async false
set_option linter.all false
set_option maxRecDepth 100000
set_option maxHeartbeats 4000000
namespace Tr
open PySem PySem.Spec PyProof.Rows L2
/-! ### data -/
theorem lay_ints (ns : List Int) : PyData.canLayAll0 (ns.map PyData.int) = true := by
  induction ns with
  | nil => rfl
  | cons x xs ih => show (true && PyData.canLayAll0 (xs.map PyData.int)) = true; rw [ih]; rfl
theorem dep_ints (ns : List Int) : PyData.depthAll (ns.map PyData.int) ≤ 1 := by
  induction ns with
  | nil => show 0 ≤ 1; omega
  | cons x xs ih => show max (PyData.depth (.int x)) (PyData.depthAll (xs.map PyData.int)) ≤ 1; exact Nat.max_le.mpr ⟨by show PyData.depth (.int x) ≤ 1; simp [PyData.depth], ih⟩
theorem eqv_ints (xs ys : List Int) : PyData.eqvAll (xs.map PyData.int) (ys.map PyData.int) = decide (xs = ys) := by
  induction xs generalizing ys with
  | nil => cases ys <;> rfl
  | cons x xs ih =>
    cases ys with
    | nil => rfl
    | cons y ys =>
      show (decide (x = y) && PyData.eqvAll (xs.map PyData.int) (ys.map PyData.int)) = decide (x :: xs = y :: ys)
      rw [ih]
      simp
theorem dep_tup (xs : List PyData) : PyData.depth (.tuple xs) = PyData.depthAll xs + 1 := rfl
theorem shaped_tI (ns : List Int) : SeqAt.shaped (tI ns) = true := by
  have h1 : (tI ns).canLay0 = true := lay_ints ns
  have h2 : (tI ns).depth ≤ 64 := by
    show PyData.depthAll (ns.map PyData.int) + 1 ≤ 64
    have := dep_ints ns
    omega
  unfold SeqAt.shaped
  rw [h1, decide_eq_true h2]
  rfl
theorem shaped_st (s : S) : SeqAt.shaped (stD s) = true := by
  have h1 : (stD s).canLay0 = true := by
    show (PyData.canLayAll0 (s.1.map PyData.int) && (PyData.canLayAll0 (s.2.map PyData.int) && true)) = true
    rw [lay_ints, lay_ints]
    rfl
  have h2 : (stD s).depth ≤ 64 := by
    show max (PyData.depthAll (s.1.map PyData.int) + 1) (max (PyData.depthAll (s.2.map PyData.int) + 1) 0) + 1 ≤ 64
    have := dep_ints s.1
    have := dep_ints s.2
    omega
  unfold SeqAt.shaped
  rw [h1, decide_eq_true h2]
  rfl
theorem eqv_st (s t : S) : PyData.eqv (stD s) (stD t) = decide (s = t) := by
  show (PyData.eqvAll (s.1.map PyData.int) (t.1.map PyData.int) && (PyData.eqvAll (s.2.map PyData.int) (t.2.map PyData.int) && true)) = decide (s = t)
  rw [eqv_ints, eqv_ints, Bool.and_true]
  obtain ⟨a, b⟩ := s
  obtain ⟨c, d⟩ := t
  simp
/-! ### promises -/
/-- a new party -/
def News (K : PySem.W.Frag) (H : Hp) (us : List V) (u : V) (ss : List S) (t : S) (Q : VK) : Prop :=
  ∀ p q lg H', Same H H' → H p = none → H q = none → H lg = none → Pty K H' p q lg us u ss t [] → Q (.ref p) H'
def spAsOf (K : PySem.W.Frag) : Sp := fun vs H Q _ => ∃ (p q lg : Addr) (us : List V) (u : V) (ss : List S) (t : S) (ls : List V), vs = [.ref p, .int (ss.length : Nat)] ∧ Pty K H p q lg us u ss t ls ∧ News K H us u ss t Q
def spTwin (K : PySem.W.Frag) : Sp := fun vs H Q _ => ∃ (p q lg : Addr) (us : List V) (u : V) (ss : List S) (t : S) (ls : List V), vs = [.ref p] ∧ Pty K H p q lg us u ss t ls ∧ News K H us u ss t Q
def spEqP (K : PySem.W.Frag) : Sp := fun vs H Q _ => ∃ (p q lg : Addr) (us : List V) (u : V) (ss : List S) (t : S) (ls : List V) (p' q' lg' : Addr) (us' : List V) (u' : V) (ss' : List S) (t' : S) (ls' : List V), vs = [.ref p, .ref p'] ∧
  Pty K H p q lg us u ss t ls ∧ Pty K H p' q' lg' us' u' ss' t' ls' ∧ t.1.length ≤ 1000 ∧ t'.1.length ≤ 1000 ∧ t.2.length ≤ 1000 ∧ t'.2.length ≤ 1000 ∧ Q (.bl (decide (t = t'))) H
theorem made_same {H : Hp} {x dy C : Addr} (hx : H x = none) (hdy : H dy = none) (hxy : dy ≠ x) : Same H (upd (upd H dy (.own x)) x (.ins C dy [])) :=
  (Same.new hdy).trans (Same.new ((upd_ne hxy.symm).trans hx))
theorem made_kp {H H0 : Hp} {x dy C : Addr} (hx : H x = none) (hdy : H dy = none) (hxy : dy ≠ x) (k : Kp x (upd (upd H dy (.own x)) x (.ins C dy [])) H0) : Same H H0 :=
  k.same (made_same hx hdy hxy) hx
section
variable {P : Program} {w : World} {K : PySem.W.Frag} {mg : Str → Option Value} {base : Heap}
theorem sc_Party_as_of : FnScope ["self", "many", "other"] ["self", "many"] (defScope s_Party_as_of) := ⟨rfl, rfl, rfl, by decide +kernel, rfl, by decide +kernel, by decide +kernel⟩
theorem ok_Party_as_of (T : Tx K mg) : FnOk P w K mg base CX0 3 (He.ma K (He.ga K "Party") "as_of") (fdOf K (He.ma K (He.ga K "Party") "as_of")) ["self", "many"] (spAsOf K) := by
  refine T.F_Party_as_of.ok sc_Party_as_of (fun vs H Q E h => ?_) (fun cdv A outer s H vs Q E hr h => ?_)
  · obtain ⟨p, q, lg, us, u, ss, t, ls, rfl, _⟩ := h
    rfl
  · obtain ⟨p, q, lg, us, u, ss, t, ls, rfl, hp, h⟩ := h
    refine ⟨_, PSs.nox (pss_cons (ps_if (pt_not (pt_chain op_le op_le pe_int (pv 1) (pe_meth0 (pv 0) T.clP T.m_deeds (ok_Party_deeds T) (hr.mono (by decide)) T.b_f_Party_deeds .nil pass0))) (pss_one ps_dead) pss_nil)
      (pss_cons (ps_set (i := 2) sc_Party_as_of.nd rfl (Or.inl rfl) (pe_make T.mkP (ok_Party_init T) (hr.mono (by decide)) rfl T.g_Party T.b_f_Party_init .nil pass0 (pa_cons (pe_meth0 (pv 0) T.clP T.m_state (ok_Party_state T) (hr.mono (by decide)) T.b_f_Party_state .nil pass0) pa_nil)))
      (pss_cons (ps_fld (pv 2) (pe_slice sl_list (pe_fld (pv 0) rfl) po_none (po_some (pe_op op_add (pv 1) pe_int))) rfl)
      (pss_one (ps_ret (pv 2)))))), ?_⟩
    obtain ⟨dx, hi⟩ := hp.ins
    refine ⟨_, rfl, _, _, rfl, rfl, _, rfl, iteD (fun c1 => ?_) fun c1 => absurd (Int.natCast_nonneg _) c1⟩
    refine ⟨_, rfl, p, dx, _, rfl, hi, rfl, p, q, lg, us, u, ss, t, ls, rfl, hp, _, _, rfl, rfl, _, rfl, iteZ (by simp) ?_⟩
    refine ⟨_, rfl, p, dx, _, rfl, hi, rfl, p, q, lg, dx, us, u, rfl, hi, hp.st, fun x dy hx hdy hxy => ⟨x, dy, u, t, rfl, upd_same, ?_, fun q0 lg0 u0 H0 k0 hq0 hlg0 hp0 => ⟨rfl, ?_⟩⟩⟩
    · exact hp.tu.mono (made_same hx hdy hxy).tups
    have s0 := made_kp hx hdy hxy k0
    obtain ⟨dx0, hi0⟩ := hp0.ins
    have lu : us.length = ss.length := by have := hp.td.1; rwa [List.length_map] at this
    refine ⟨_, rfl, p, _, dx, _, .ref q, rfl, s0 _ _ hi, T.clP, T.n_own_states, rfl, _, rfl, _, _, rfl, rfl, _, rfl, q, _, rfl, SqL.of (s0 _ _ hp.st), fun q1 hq1 => ?_⟩
    rw [show cutV (us ++ [u]) none (some ((fun i j => i + j) (ss.length : Int) 1)) = us ++ [u] by
      show cutV (us ++ [u]) none (some ((ss.length : Int) + 1)) = us ++ [u]
      rw [cut_take (by omega), List.take_of_length_le (by rw [List.length_append, List.length_singleton]; omega)]]
    have s1 : Same H0 (upd H0 q1 (.lst (us ++ [u]))) := Same.new hq1
    have q11 : upd H0 q1 (.lst (us ++ [u])) q1 = some (.lst (us ++ [u])) := upd_same
    have xq : q1 ≠ x := (ne_of_none hi0 hq1).symm
    have lq : q1 ≠ lg0 := (ne_of_none hp0.lo hq1).symm
    have lx : lg0 ≠ x := (ne_of hi0 hp0.lo fun z => by cases z).symm
    generalize upd H0 q1 (.lst (us ++ [u])) = H1 at *
    refine ⟨_, rfl, x, _, dx0, _, rfl, s1 _ _ hi0, T.clP, T.n_own_states, by show 2 < 1000; decide, ?_⟩
    have s2 : Kp x H1 (upd H1 x (.ins (He.ga K "Party") dx0 (putF "own_states" (.ref q1) [("own_states", .ref q0), ("own_log", .ref lg0)]))) := Kp.upd
    have tu2 := s2.tupsI (s1 _ _ hi0)
    have s3 := s0.trans s1
    refine ⟨_, rfl, h x q1 lg0 _ (s2.same s3 hx) hx (s0.none hq1) ((made_same hx hdy hxy).none hlg0) ⟨⟨dx0, upd_same⟩, s2 _ _ xq q11, (hp.td.mono s3.tups).mono tu2, (hp.tu.mono s3.tups).mono tu2, s2 _ _ lx (s1 _ _ hp0.lo), lq, hp.len⟩⟩
theorem sc_Party_twin : FnScope ["self"] ["self"] (defScope s_Party_twin) := ⟨rfl, rfl, rfl, by decide +kernel, rfl, by decide +kernel, by decide +kernel⟩
theorem ok_Party_twin (T : Tx K mg) : FnOk P w K mg base CX0 4 (He.ma K (He.ga K "Party") "twin") (fdOf K (He.ma K (He.ga K "Party") "twin")) ["self"] (spTwin K) := by
  refine T.F_Party_twin.ok sc_Party_twin (fun vs H Q E h => ?_) (fun cdv A outer s H vs Q E hr h => ?_)
  · obtain ⟨p, q, lg, us, u, ss, t, ls, rfl, _⟩ := h
    rfl
  · obtain ⟨p, q, lg, us, u, ss, t, ls, rfl, hp, h⟩ := h
    refine ⟨_, PSs.nox (pss_one (ps_ret (pe_meth (pv 0) T.clP T.m_as_of (ok_Party_as_of T) (hr.mono (by decide)) T.b_f_Party_as_of .nil pass0 (pa_cons (pe_meth0 (pv 0) T.clP T.m_deeds (ok_Party_deeds T) (hr.mono (by decide)) T.b_f_Party_deeds .nil pass0) pa_nil)))), ?_⟩
    obtain ⟨dx, hi⟩ := hp.ins
    exact ⟨_, rfl, p, dx, _, rfl, hi, rfl, _, rfl, p, dx, _, rfl, hi, rfl, p, q, lg, us, u, ss, t, ls, rfl, hp, p, q, lg, us, u, ss, t, ls, rfl, hp, h⟩
theorem sc_Party_eq : FnScope ["self", "other"] ["self", "other"] (defScope s_Party_eq) := ⟨rfl, rfl, rfl, by decide +kernel, rfl, by decide +kernel, by decide +kernel⟩
theorem ok_Party_eq (T : Tx K mg) (Z : Ex K) : FnOk P w K mg base CX0 3 (He.ma K (He.ga K "Party") "__eq__") (fdOf K (He.ma K (He.ga K "Party") "__eq__")) ["self", "other"] (spEqP K) := by
  refine T.F_Party_eq.ok sc_Party_eq (fun vs H Q E h => ?_) (fun cdv A outer s H vs Q E hr h => ?_)
  · obtain ⟨p, q, lg, us, u, ss, t, ls, p', q', lg', us', u', ss', t', ls', rfl, _⟩ := h
    rfl
  · obtain ⟨p, q, lg, us, u, ss, t, ls, p', q', lg', us', u', ss', t', ls', rfl, hp, hp', a1, a2, a3, a4, h⟩ := h
    refine ⟨_, PSs.nox (pss_one (ps_ret (pe_and (pe_callB call_isi rfl T.b_isinstance bt_isinstance (pa_cons (pv 1) (pa_cons (pe_glob (v := .ref (He.ga K "Party")) rfl T.g_Party rfl) pa_nil))) (pe_one (pe_cmpR (op_eqD hr.units) (pe_meth0 (pv 0) T.clP T.m_state (ok_Party_state T) (hr.mono (by decide)) T.b_f_Party_state .nil pass0) (pe_meth0 (pv 1) T.clP T.m_state (ok_Party_state T) (hr.mono (by decide)) T.b_f_Party_state .nil pass0) (nomark _)))))), ?_⟩
    obtain ⟨dx, hi⟩ := hp.ins
    obtain ⟨dx', hi'⟩ := hp'.ins
    refine ⟨_, rfl, .ref p', .ref (He.ga K "Party"), _, _, true, rfl, .own _, .base (.ins hi' T.clP Z.pcl Z.sn Z.st Z.pmo), Z.pkit, true, rfl, iteY rfl ?_⟩
    refine ⟨_, rfl, p, dx, _, rfl, hi, rfl, p, q, lg, dx, us, u, rfl, hi, hp.st, _, rfl, p', dx', _, rfl, hi', rfl, p', q', lg', dx', us', u', rfl, hi', hp'.st, ?_⟩
    refine ⟨_, _, hp.tu.dp, hp'.tu.dp, shaped_st t, shaped_st t', ?_⟩
    rw [eqv_st]
    exact h
end
end Tr
end
section
set_option Elab.async false
set_option linter.all false
set_option maxRecDepth 100000
set_option maxHeartbeats 4000000
namespace Tr
open PySem PySem.Spec PyProof.Rows L2
def repT (n : Nat) (c : Int) : Str := Str.empty ++ ("Party(" : Str) ++ ((toString (n : Int) : String) : Str) ++ (" people, " : Str) ++ ((toString c : String) : Str) ++ (" coins)" : Str)
theorem lenA {a b : Str} {m n : Nat} (ha : a.length ≤ m) (hb : b.length ≤ n) : (a ++ b).length ≤ m + n := by rw [PySem.Str.length_append]; omega
def spRepr (K : PySem.W.Frag) : Sp := fun vs H Q _ => ∃ (p q lg : Addr) (us : List V) (u : V) (ss : List S) (t : S) (ls : List V) (n : Nat), vs = [.ref p] ∧ Pty K H p q lg us u ss t ls ∧ Rg n t ∧ t.2.sum.natAbs.log2 < 1920 ∧ Q (.str (repT n t.2.sum)) H
section
variable {P : Program} {w : World} {K : PySem.W.Frag} {mg : Str → Option Value} {base : Heap}
theorem sc_Party_repr : FnScope ["self"] ["self"] (defScope s_Party_repr) := ⟨rfl, rfl, rfl, by decide +kernel, rfl, by decide +kernel, by decide +kernel⟩
theorem ok_Party_repr (T : Tx K mg) : FnOk P w K mg base CX0 3 (He.ma K (He.ga K "Party") "__repr__") (fdOf K (He.ma K (He.ga K "Party") "__repr__")) ["self"] (spRepr K) := by
  refine T.F_Party_repr.ok sc_Party_repr (fun vs H Q E h => ?_) (fun cdv A outer s H vs Q E hr h => ?_)
  · obtain ⟨p, q, lg, us, u, ss, t, ls, n, rfl, _⟩ := h
    rfl
  · obtain ⟨p, q, lg, us, u, ss, t, ls, n, rfl, hp, hn, hz, h⟩ := h
    refine ⟨_, PSs.nox (pss_one (ps_ret (pe_joined (PJ.cons pe_str (PJ.cons (pe_fmt (pe_callB (call_lenP T (hr.mono (by decide))) rfl T.b_len bt_len (pa_cons (pv 0) pa_nil))) (PJ.cons pe_str (PJ.cons (pe_fmt (pe_call (ok_total T) (hr.mono (by decide)) rfl T.g_total T.F_total.kp T.b_f_total .nil pass0 (pa_cons (pe_meth0 (pv 0) T.clP T.m_state (ok_Party_state T) (hr.mono (by decide)) T.b_f_Party_state .nil pass0) pa_nil))) (PJ.cons pe_str PJ.nil)))))))), ?_⟩
    obtain ⟨dx, hi⟩ := hp.ins
    have l1 := hn.l1
    have nt := hn.top
    have ez := sizeLine_eq
    have z0 : (Str.empty ++ ("Party(" : Str)).length ≤ 6 := by decide +kernel
    have z2 : (" people, " : Str).length ≤ 9 := by decide +kernel
    have z4 : (" coins)" : Str).length ≤ 7 := by decide +kernel
    have zn : ((n : Int)).natAbs.log2 < 1920 := Nat.lt_of_le_of_lt (Nat.log2_le_self _) (by omega)
    have z1 := lenA z0 (int_text_len_1921 zn)
    have z12 := lenA z1 z2
    have z123 := lenA z12 (int_text_len_1921 hz)
    have z1234 := lenA z123 z4
    refine ⟨_, rfl, by omega, _, rfl, p, dx, _, rfl, hi, p, q, lg, dx, us, u, t, rfl, hi, hp.st, hp.tu, _, rfl, by omega, .inr ⟨_, rfl, by rw [l1]; exact zn, _, rfl, ?_⟩⟩
    rw [l1]
    refine ⟨by omega, _, rfl, by omega, ?_⟩
    refine ⟨_, rfl, p, dx, _, rfl, hi, rfl, p, q, lg, dx, us, u, rfl, hi, hp.st, u, t, rfl, hp.tu, .inr ⟨_, rfl, hz, _, rfl, by omega, _, rfl, by omega, ?_⟩⟩
    exact h
end
end Tr
end
section
set_option Elab.async false
set_option linter.all false
set_option maxRecDepth 100000
set_option maxHeartbeats 4000000
namespace Tr
open PySem PySem.Spec PyProof.Rows L2
/-- D.get(key, dflt), D a written dict, the key is there -/
def tKGet2 (K : PySem.W.Frag) (w : World) (td ty tx : TE) : TE := fun σ H Q => td σ H fun x H1 => ∃ (a : Addr) (es : Array DictEntry) (n : Nat), x = .ref a ∧ KDict K w a es n ∧ ty σ H1 fun y H2 => tx σ H2 fun _ H3 => ∃ (z : Str) (u : Value) (v : V), y = .str z ∧ PySem.W.nsIn K a z = some (some u) ∧ RelV v u ∧ Q v H3
section
variable {X : Cx} {o e f : Expr} {apos cpos : Pos} {td ty tx : TE}
theorem pe_kget2 (ho : PE X o td) (he : PE X e ty) (hf : PE X f tx) (m : M2 X o "get" apos e f cpos) : PE X (.Call (.Attribute o "get" apos) [e, f] [] cpos) (tKGet2 X.K X.w td ty tx) := by
  refine ⟨fun pins s σ H Q I h => ?_⟩
  refine wpAny_Call_method m.base m.few m.line PySem.F.plainAttrs_dict PySem.F.slot_dict_get PySem.F.type_dict_get (thn (ho.run pins s σ H _ I h) fun u s1 ⟨x, H1, I1, rx, a, es, n, ex, D, q1⟩ => ?_)
  subst ex
  obtain rfl : u = Value.ref a := rx
  have hm1 := PySem.W.mapOf_K (prog := X.prog) (w := X.w) I1.kIn D.at_ D.lit
  refine ⟨hm1.typeIs, ?_, ?_⟩
  · intro b q
    cases q
    exact ⟨_, I1.kIn _ _ D.at_, rfl⟩
  rw [m.trees]
  refine Calls.callWith_builtin rfl (Calls.evalArgs_plain (Calls.spliced_cons (thn (he.run pins s1 σ H1 _ I1 q1) fun iv s2 ⟨y, H2, I2, ry, q2⟩ =>
    Calls.spliced_cons (thn (hf.run pins s2 σ H2 _ I2 q2) fun fv s3 ⟨z, H3, I3, rz, kz, ku, kv, ey, hn, rv, q3⟩ => Calls.spliced_nil ?_))))
  subst ey
  obtain ⟨t, rfl⟩ := (show ∃ t, iv = Value.str kz t from ry)
  have hm3 := PySem.W.mapOf_K (prog := X.prog) (w := X.w) I3.kIn D.at_ D.lit
  refine call_meetsIn PySem.F.slot_dict_get hm3.typeIs PySem.F.entry_dict_get (PySem.F.args_dict_get_3 _ _ _) (meets_dict_get_default (strKind X.prog X.w) a (strKind_is X.prog X.w kz t) D.low fv) ⟨_, hm3, kv, H3, I3.tok _, ?_, q3⟩
  rw [PySem.W.find_K D.at_ hn]
  exact rv
end
end Tr
end
section
set_option Elab.async false
set_option linter.all false
set_option maxRecDepth 100000
set_option maxHeartbeats 4000000
namespace Tr
open PySem PySem.Spec PyProof.Rows L2 PySem.Calls
section
variable {prog : Program} {w : World} {A : Around} {E : Value → Shared → Prop} {s : Shared}
/-- x, *y = a tuple: what is unpacked -/
theorem unpack_hd {l : Addr} {x : Value} {r : List Value} {Q : List Value → Shared → Prop} (hl : IsTup s.heap l (x :: r).toArray) (hh : A.handled = none) (hz : r.length ≤ 16000)
    (h : ∀ (h' : Heap) (tk : Nat), (∀ b o, s.heap.get? b = some o → h'.get? b = some o) → Q [x, .ref h'.objs.size] { s with heap := h'.push { cls := .type "list", data := .seq r.toArray }, toks := tk }) :
    wpAny (model prog w) A (unpackItems (.ref l) 2 (some 1)) Q E s := by
  have hll : l < s.heap.objs.size := by obtain ⟨o, ho, _⟩ := hl; exact Heap.lt_size ho
  have hlt : l ≠ s.heap.objs.size := Nat.ne_of_lt hll
  have hsz : (x :: r).toArray.size = r.length + 1 := by rw [List.size_toArray, List.length_cons]
  unfold unpackItems
  have h0 : wpAny (model prog w) A (notIterableAtAll (.ref l)) (fun b s' => b = false ∧ s = s') E s := by
    unfold notIterableAtAll
    refine wpAny_bind (wpAny_specialOf hl.typeIs slot_tuple_iter.lookup ?_)
    exact wpAny_pure ⟨rfl, rfl⟩
  refine wpAny_bind (wpAny_mono h0 (fun b s' hb => ?_) fun _ _ y => y)
  obtain ⟨rfl, rfl⟩ := hb
  simp only [Bool.false_eq_true, if_false]
  refine wpAny_bind (wpAny_holding (iter_tuple hl ?_))
  refine wpAny_bind (wpAny_holding (draw_tuple hlt 1 0 _ _ ⟨_, Heap.get?_push_size _ rfl, rfl, rfl⟩ (hl.push _) (by omega) fun h₁ hit₁ hs₁ => ?_))
  have hl₁ : IsTup h₁ l (x :: r).toArray := (hl.push _).extBut hs₁.extBut hlt
  rw [Nat.zero_add] at hit₁
  have hI : s.heap.objs.size < h₁.objs.size := by obtain ⟨oi, hoi, _⟩ := hit₁; exact Heap.lt_size hoi
  have hx : l < h₁.objs.size := by obtain ⟨ol, hol, _⟩ := hl₁; exact Heap.lt_size hol
  rw [if_neg (by show ¬ (1 < 1); omega)]
  refine wpAny_bind (wpAny_holding (PySem.W.kun_collect (s := { s with heap := h₁ }) (T := "tuple_iterator") (.inr (.inr (.inr rfl))) (Walks.tuple (A := A.in1) hh s.heap.objs.size l hlt (x :: r).toArray) (fun j u st => st.1.typeIs) (k := 1) (by omega) ⟨hit₁, hl₁⟩ hI hx (fun h₂ tk hk => ?_) (by rw [sizeLine_eq]; omega)))
  show wpAny _ _ (if r.length < 0 then _ else _) _ _ _
  rw [if_neg (by omega)]
  show wpAny _ _ (newList (r.take (r.length - 0)) >>= fun d => pure ([x] ++ [d] ++ r.drop (r.length - 0))) _ _ _
  rw [Nat.sub_zero, List.take_length, List.drop_length]
  have he : ∀ b o, s.heap.get? b = some o → h₂.get? b = some o := fun b o e =>
    have hb : b ≠ s.heap.objs.size := Nat.ne_of_lt (Heap.lt_size e)
    hk b o hb (hs₁.extBut b o hb (Heap.get?_push_of_some _ e))
  refine wpAny_bind (wpAny_newList (s := { s with heap := h₂, toks := tk }) (wpAny_pure ?_) (by rw [sizeLine_eq]; omega))
  exact h h₂ tk he
end
/-- x, *y = a tuple -/
def gStar2 (K : PySem.W.Frag) (t : TGs) : TG := fun v σ H Q => ∃ a x xs, v = .ref a ∧ SqT K H a (x :: xs) ∧ xs.length ≤ 16000 ∧ ∀ D, H D = none → t [x, .ref D] σ (upd H D (.lst xs)) Q
section
variable {X : Cx}
theorem pg_star2 {es : List Expr} {k : Nat} {t : TGs} {pos : Pos} (hc : X.calm = true) (h : PGs X es t) (hn : (assignEach es X.env).length = 2 := by rfl) (hst : (assignEach es X.env).findIdx? (·.1) = some 1 := by rfl) : PG X (.Tuple es k pos) (gStar2 X.K t) := by
  refine ⟨fun pins s σ H v u Q I r hw => ?_⟩
  obtain ⟨a, x, xs, e1, hq, hl, hw⟩ := hw
  subst e1
  cases (show u = Value.ref a from r)
  obtain ⟨its, rv, ht, hz⟩ := I.tuple hq
  cases rv with
  | cons rx rr =>
    rename_i vx vr
    rw [assign_Tuple]
    refine wpAny_bind (wpAny_standAt ?_)
    unfold unpack
    rw [hn, hst]
    refine wpAny_bind (wpAny_holding (unpack_hd ht (I.ok.hd hc) (by rw [← rr.length]; exact hl) fun h' tk he => ?_))
    have I1 : Inv X pins σ H { s with heap := h', toks := tk } := I.kept (t' := tk) he
    have hD : H h'.objs.size = none := I1.hok.fresh (Nat.le_refl _)
    have I2 : Inv X pins σ (upd H h'.objs.size (.lst xs)) { s with heap := h'.push { cls := .type "list", data := .seq vr.toArray }, toks := tk } :=
      I1.laid (t' := tk) (fun b u e => Heap.get?_push_of_some _ e) (Nat.le_refl _) ⟨by rw [sizeLine_eq]; omega, vr, 0, rr, Heap.get?_push_size _ rfl⟩
    exact h.run pins _ σ _ _ _ Q I2 (.cons rx (.cons (show RelV (.ref h'.objs.size) (.ref h'.objs.size) from rfl) .nil)) (hw _ hD)
theorem pgs_star {e : Expr} {p : Pos} {es : List Expr} {t : TG} {u : TGs} (h1 : PG X e t) (h2 : PGs X es u) : PGs X (.Starred e p :: es) (gCons t u) := by
  refine ⟨fun pins s σ H vs us Q I r h => ?_⟩
  obtain ⟨v, vr, e1, h⟩ := h
  subst e1
  cases r with
  | cons r rr =>
    refine assignInOrder_cons (thn (h1.run pins s σ H _ _ _ I r h) fun _ s1 ⟨σ1, H1, I1, q1⟩ => ?_)
    exact h2.run pins s1 σ1 H1 _ _ Q I1 rr q1
end
end Tr
end
section
set_option Elab.async false
set_option linter.all false
set_option maxRecDepth 100000
set_option maxHeartbeats 4000000
namespace Tr
open PySem PySem.Spec PyProof.Rows L2
section
variable {X : Cx} {body fs : List Stmt} {f₀ : Stmt} {pos : Pos} {tb tf : TS}
/-- try: body / finally: suite where nothing is raised -/
theorem ps_finN (hn : ∀ e s, X.xe e s → False) (hb : PSs X body tb) (hf : PSs X (f₀ :: fs) tf) : PS X (.Try body [] [] (f₀ :: fs) pos) (fun D σ H => tb { nx := fun σ1 H1 => tf D σ1 H1, rt := fun _ _ => False } σ H) := by
  refine ⟨fun pins s σ H D I h => ?_⟩
  refine wpAny_Try_finally ?_
  refine wpAny_mono (hb.run pins s σ H { nx := fun σ1 H1 => tf D σ1 H1, rt := fun _ _ => False } I h) (fun g s1 z => ?_) (fun x s1 hx => (hn _ _ hx).elim)
  cases g with
  | ret u =>
    obtain ⟨_, _, _, _, _, q⟩ := z
    exact False.elim q
  | brk =>
    obtain ⟨_, _, _, q⟩ := z
    exact False.elim q
  | cont =>
    obtain ⟨_, _, _, q⟩ := z
    exact False.elim q
  | next =>
    obtain ⟨σ1, H1, J1, q1⟩ := z
    refine wpAny_execs_nil ?_
    refine wpAny_mono (hf.run pins s1 σ1 H1 D J1 q1) (fun g2 s2 q2 => ?_) fun e s2 q => (hn _ _ q).elim
    cases g2 <;> exact q2
end
/-! ### promises -/
abbrev Dz (K : PySem.W.Frag) (w : World) : Prop := ∃ es n, KDict K w (He.ga K "SIZES") es n
def exD (x : Int) : PyData := .tuple [.str "exchange", .int x]
def spIsDeed : Sp := fun vs H Q _ => ∃ (v : V) (x : Int), vs = [v] ∧ TD H v (exD x) ∧ Q (.bl true) H
def spDone (K : PySem.W.Frag) : Sp := fun vs H Q _ => ∃ (p q lg : Addr) (us : List V) (u : V) (ss : List S) (t : S) (ls : List V) (n : Nat) (v : V) (x : Int) (t2 : S), vs = [.ref p, v] ∧ Pty K H p q lg us u ss t ls ∧ Rg n t ∧ TD H v (exD x) ∧ exq t x = .ok t2 ∧
  ∀ u' H', Kp q H H' → H' q = some (.lst (us ++ [u] ++ [u'])) → TD H' u' (stD t2) → Q (.int (pay t x)) H'
theorem exD_un {H : Hp} {v : V} {x : Int} (h : TD H v (exD x)) : ∃ a, v = .ref a ∧ H a = some (.tup [.str "exchange", .int x]) := by
  obtain ⟨a, xs, rfl, ha, hxs⟩ := TD.un h
  have l := hxs.1
  match xs, l with
  | [u, w], _ =>
    have h1 := hxs.head
    have h2 := hxs.tail.head
    cases h1
    cases h2
    exact ⟨a, rfl, ha⟩
section
variable {P : Program} {w : World} {K : PySem.W.Frag} {mg : Str → Option Value} {base : Heap}
theorem sc_is_deed : FnScope ["value"] ["value"] (defScope s_is_deed) := ⟨rfl, rfl, rfl, by decide +kernel, rfl, by decide +kernel, by decide +kernel⟩
theorem ok_is_deed (T : Tx K mg) (Z : Ex K) (D : Dz K w) : FnOk P w K mg base CX0 1 (He.ga K "is_deed") (fdOf K (He.ga K "is_deed")) ["value"] spIsDeed := by
  refine T.F_is_deed.ok sc_is_deed (fun vs H Q E h => ?_) (fun cdv A outer s H vs Q E hr h => ?_)
  · obtain ⟨v, x, rfl, _⟩ := h
    rfl
  · obtain ⟨v, x, rfl, hv, h⟩ := h
    refine ⟨_, PSs.nox (pss_cons (ps_if (PW.pt (pw_or (pt_not (pt_val (pe_callB call_isi rfl T.b_isinstance bt_isinstance (pa_cons (pv 0) (pa_cons (pe_bltn (v := .ty "tuple") rfl T.b_tuple PyProof.Rows.Boot.«tuple» rfl) pa_nil))))) (pw_or (pt_cmpR op_eq (pe_callB call_len_seq rfl T.b_len bt_len (pa_cons (pv 0) pa_nil)) pe_int (nomark _)) (pw_or1 (pt_not (pt_val (pe_callB call_isi rfl T.b_isinstance bt_isinstance (pa_cons (pe_ix ix_tup (pv 0) pe_int (fun _ _ => rfl)) (pa_cons (pe_bltn (v := .ty "str") rfl T.b_str PyProof.Rows.Boot.«str» rfl) pa_nil))))))))) (pss_one (ps_ret pe_bl)) pss_nil)
      (pss_one (ps_ret (pe_cmpR op_eq (pe_kget2 (pe_glob (v := .ref (He.ga K "SIZES")) rfl T.g_SIZES rfl) (pe_ix ix_tup (pv 0) pe_int (fun _ _ => rfl)) (pe_un un_neg pe_int) ⟨rfl, rfl, rfl, rfl⟩) (pe_op op_sub (pe_callB call_len_seq rfl T.b_len bt_len (pa_cons (pv 0) pa_nil)) pe_int) (nomark _))))), ?_⟩
    obtain ⟨a, rfl, ha⟩ := exD_un hv
    obtain ⟨es, m, D⟩ := D
    obtain ⟨su, hsu, hsr⟩ := Z.siz
    refine ⟨_, rfl, .ref a, .ty "tuple", _, _, true, rfl, .ty _, .base (.tup ha), rfl, true, rfl, ?_⟩
    refine iteZ rfl ⟨_, rfl, a, _, rfl, .inr (SqT.of ha), rfl, false, rfl, iteZ rfl ?_⟩
    refine ⟨_, rfl, a, _, _, _, rfl, rfl, SqT.of ha, atI_nat (j := 0) rfl, .str "exchange", .ty "str", _, _, true, rfl, .ty _, .base (.str _), rfl, true, rfl, iteZ rfl ?_⟩
    exact ⟨_, es, m, rfl, D, _, rfl, a, _, _, _, rfl, rfl, SqT.of ha, atI_nat (j := 0) rfl, ⟨_, rfl, "exchange", su, .int 1, rfl, hsu, hsr, _, rfl, a, _, rfl, .inr (SqT.of ha), _, _, rfl, rfl, rfl, h⟩⟩
theorem sc_Party_done : FnScope ["self", "deed", "name", "things"] ["self", "deed"] (defScope s_Party_done) := ⟨rfl, rfl, rfl, by decide +kernel, rfl, by decide +kernel, by decide +kernel⟩
theorem ok_Party_done (T : Tx K mg) (Z : Ex K) : FnOk P w K mg base CX0 10 (He.ma K (He.ga K "Party") "done") (fdOf K (He.ma K (He.ga K "Party") "done")) ["self", "deed"] (spDone K) := by
  refine T.F_Party_done.ok sc_Party_done (fun vs H Q E h => ?_) (fun cdv A outer s H vs Q E hr h => ?_)
  · obtain ⟨p, q, lg, us, u, ss, t, ls, n, v, x, t2, rfl, _⟩ := h
    rfl
  · obtain ⟨p, q, lg, us, u, ss, t, ls, n, v, x, t2, rfl, hp, hn, hv, he, h⟩ := h
    refine ⟨_, PSs.nox (pss_cons (ps_asg (pv 1) (pg_star2 rfl (pgs_cons (pg_name (i := 2) sc_Party_done.nd rfl (Or.inl rfl)) (pgs_star (pg_name (i := 3) sc_Party_done.nd rfl (Or.inl rfl)) pgs_nil))))
      (pss_cons (ps_if (pt_cmpR op_eq (pv 2) pe_str (nomark _)) (pss_one (ps_ret (pe_meth (pv 0) T.clP T.m_exchange (ok_Party_exchange T Z) (hr.mono (by decide)) T.b_f_Party_exchange .nil passL (pa_cons (pe_ix ix_list (pv 3) pe_int (fun _ _ => rfl)) pa_nil)))) pss_nil)
      (pss_cons (ps_if (pt_cmpR op_eq (pv 2) pe_str (nomark _)) (pss_one (ps_ret (pe_meth (pv 0) T.clP T.m_run (ok_Party_run T Z) (hr.mono (by decide)) T.b_f_Party_run .nil passL (pa_cons (pe_ix ix_list (pv 3) pe_int (fun _ _ => rfl)) pa_nil)))) pss_nil)
      (pss_cons (ps_if (pt_cmpR op_eq (pv 2) pe_str (nomark _)) (pss_one (ps_ret (pe_meth (pv 0) T.clP T.m_again (ok_Party_again T Z) (hr.mono (by decide)) T.b_f_Party_again .nil passL (pa_cons (pe_ix ix_list (pv 3) pe_int (fun _ _ => rfl)) (pa_cons (pe_ix ix_list (pv 3) pe_int (fun _ _ => rfl)) pa_nil))))) pss_nil)
      (pss_cons (ps_if (pt_cmpR op_eq (pv 2) pe_str (nomark _)) (pss_one (ps_ret (pe_meth (pv 0) T.clP T.m_go (ok_Party_go T Z) (hr.mono (by decide)) T.b_f_Party_go .nil passL (pa_cons (pe_ix ix_list (pv 3) pe_int (fun _ _ => rfl)) pa_nil)))) pss_nil)
      (pss_cons (ps_if (pt_cmpR op_eq (pv 2) pe_str (nomark _)) (pss_one (ps_ret (pe_meth (pv 0) T.clP T.m_give (ok_Party_give T Z) (hr.mono (by decide)) T.b_f_Party_give .nil passL (pa_cons (pe_ix ix_list (pv 3) pe_int (fun _ _ => rfl)) (pa_cons (pe_ix ix_list (pv 3) pe_int (fun _ _ => rfl)) pa_nil))))) pss_nil)
      (pss_cons (ps_if (pt_cmpR op_eq (pv 2) pe_str (nomark _)) (pss_one (ps_ret (pe_meth (pv 0) T.clP T.m_take (ok_Party_take T Z) (hr.mono (by decide)) T.b_f_Party_take .nil passL (pa_cons (pe_ix ix_list (pv 3) pe_int (fun _ _ => rfl)) (pa_cons (pe_ix ix_list (pv 3) pe_int (fun _ _ => rfl)) pa_nil))))) pss_nil)
      (pss_one (ps_ret (pe_ifExp (pt_cmpR op_eq (pv 2) pe_str (nomark _)) (pe_meth (pv 0) T.clP T.m_come (ok_Party_come T Z) (hr.mono (by decide)) T.b_f_Party_come .nil passL (pa_cons (pe_ix ix_list (pv 3) pe_int (fun _ _ => rfl)) pa_nil)) (pe_meth (pv 0) T.clP T.m_leave (ok_Party_leave T Z) (hr.mono (by decide)) T.b_f_Party_leave .nil passL (pa_cons (pe_ix ix_list (pv 3) pe_int (fun _ _ => rfl)) pa_nil)))))))))))), ?_⟩
    obtain ⟨a, rfl, ha⟩ := exD_un hv
    refine ⟨_, rfl, a, .str "exchange", [.int x], rfl, SqT.of ha, by show 1 ≤ 16000; decide, fun D hD => ⟨_, _, rfl, _, _, rfl, rfl, ?_⟩⟩
    have s1 : Same H (upd H D (.lst [.int x])) := Same.new hD
    have hD1 : upd H D (.lst [.int x]) D = some (.lst [.int x]) := upd_same
    generalize upd H D (.lst [.int x]) = H1 at *
    have hp1 := hp.same s1
    obtain ⟨dx, hi⟩ := hp1.ins
    refine ⟨_, rfl, rfl, _, rfl, iteY (by decide +kernel) ?_⟩
    refine ⟨_, rfl, p, dx, _, rfl, hi, rfl, _, rfl, D, _, _, _, rfl, rfl, SqL.of hD1, atI_nat (j := 0) rfl, p, q, lg, us, u, ss, t, ls, n, x, rfl, hp1, hn, ?_⟩
    show Gives _ _ _ (exchq t x) _
    rw [show exchq t x = .ok (.int (pay t x), t2) by unfold exchq; rw [he]]
    intro u' rv H' k hq hu hrv
    cases hrv
    exact h u' H' ((Kp.of s1).trans k) hq hu
end
end Tr
end
section
set_option Elab.async false
set_option linter.all false
set_option maxRecDepth 100000
set_option maxHeartbeats 4000000
namespace Tr
open PySem PySem.Spec PyProof.Rows L2
/-- all but some stands -/
def Kps (l : List Addr) (H H' : Hp) : Prop := ∀ b o, b ∉ l → H b = some o → H' b = some o
theorem Kps.refl {l : List Addr} {H : Hp} : Kps l H H := fun _ _ _ e => e
theorem Kps.trans {l : List Addr} {H H1 H2 : Hp} (a : Kps l H H1) (b : Kps l H1 H2) : Kps l H H2 := fun c o n e => b c o n (a c o n e)
theorem Kps.of {l : List Addr} {H H' : Hp} (s : Same H H') : Kps l H H' := fun b o _ e => s b o e
theorem Kps.kp {l : List Addr} {q : Addr} {H H' : Hp} (k : Kp q H H') (h : q ∈ l) : Kps l H H' := fun b o n e => k b o (fun z => n (by rw [z]; exact h)) e
theorem Kps.mono {l m : List Addr} {H H' : Hp} (k : Kps l H H') (h : ∀ b, b ∈ l → b ∈ m) : Kps m H H' := fun b o n e => k b o (fun z => n (h b z)) e
/-- an object that was not there may change -/
theorem Kps.mut {l : List Addr} {H H' : Hp} {p : Addr} {o : HO} (k : Kps l H H') (h : H p = none) : Kps l H (upd H' p o) := fun b u n e => by
  rw [upd_ne (ne_of_none e h)]
  exact k b u n e
theorem Kps.tups2 {q lg : Addr} {H H' : Hp} {xs ys : List V} (k : Kps [q, lg] H H') (h1 : H q = some (.lst xs)) (h2 : H lg = some (.lst ys)) : Tups H H' := fun a zs e =>
  k a _ (fun z => by
    simp only [List.mem_cons, List.not_mem_nil, or_false] at z
    rcases z with rfl | rfl
    · rw [h1] at e; cases e
    · rw [h2] at e; cases e) e
theorem Pty.logged {K : PySem.W.Frag} {H : Hp} {p q lg : Addr} {us : List V} {u : V} {ss : List S} {t : S} {ls : List V} (h : Pty K H p q lg us u ss t ls) (v : V) : Pty K (upd H lg (.lst (ls ++ [v]))) p q lg us u ss t (ls ++ [v]) := by
  have k : Kp lg H (upd H lg (.lst (ls ++ [v]))) := Kp.upd
  have tu : Tups H (upd H lg (.lst (ls ++ [v]))) := k.tups h.lo
  obtain ⟨dx, hi⟩ := h.ins
  have pl : p ≠ lg := ne_of hi h.lo fun z => by cases z
  exact ⟨⟨dx, k _ _ pl hi⟩, k _ _ h.nq h.st, h.td.mono tu, h.tu.mono tu, upd_same, h.nq, h.len⟩
theorem runq_step {s t : S} {x : Int} {r : List Int} (h : runq s (x :: r) = .ok t) : ∃ s2, exq s x = .ok s2 ∧ runq s2 r = .ok t := by
  unfold runq at h
  split at h
  · rename_i u e
    exact ⟨u, e, h⟩
  · cases h
def spDo (K : PySem.W.Frag) : Sp := fun vs H Q _ => ∃ (p q lg : Addr) (us : List V) (u : V) (ss : List S) (t : S) (ls : List V) (n : Nat) (da : Addr) (dvs : List V) (row : List Int) (t2 : S), vs = [.ref p, .ref da, .bl true] ∧ Pty K H p q lg us u ss t ls ∧ Rg n t ∧
  H da = some (.lst dvs) ∧ TDs H dvs (row.map exD) ∧ row.length ≤ 100 ∧ ss.length ≤ 500 ∧ ls.length ≤ 500 ∧ da ≠ q ∧ da ≠ lg ∧ runq t row = .ok t2 ∧
  ∀ rp us2 u2 ss2 ls2 H', Kps [q, lg] H H' → Pty K H' p q lg us2 u2 ss2 t2 ls2 → Q (.ref rp) H'
section
variable {P : Program} {w : World} {K : PySem.W.Frag} {mg : Str → Option Value} {base : Heap}
theorem sc_Party_do : FnScope ["self", "deeds", "whole", "place", "deed", "kept", "results", "done"] ["self", "deeds", "whole"] (defScope s_Party_do) := ⟨rfl, rfl, rfl, by decide +kernel, rfl, by decide +kernel, by decide +kernel⟩
theorem ok_Party_do (T : Tx K mg) (Z : Ex K) (D : Dz K w) : FnOk P w K mg base CX0 11 (He.ma K (He.ga K "Party") "do") (fdOf K (He.ma K (He.ga K "Party") "do")) ["self", "deeds", "whole"] (spDo K) := by
  refine T.F_Party_do.ok sc_Party_do (fun vs H Q E h => ?_) (fun cdv A outer s H vs Q E hr h => ?_)
  · obtain ⟨p, q, lg, us, u, ss, t, ls, n, da, dvs, row, t2, rfl, _⟩ := h
    rfl
  · obtain ⟨p, q, lg, us, u, ss, t, ls, n, da, dvs, row, t2, rfl, hp, hn, hda, hdv, hrl, hsl, hll, dq, dlg, hrun, h⟩ := h
    refine ⟨_, PSs.nox (pss_cons (ps_for PassesOwn.never rfl (pi_enum rfl T.b_enumerate (pa_cons (pv 1) pa_nil)) (pg_tup rfl (pgs_cons (pg_name (i := 3) sc_Party_do.nd rfl (Or.inl rfl)) (pgs_cons (pg_name (i := 4) sc_Party_do.nd rfl (Or.inl rfl)) pgs_nil)))
        (pss_one (ps_if (pt_not (pt_val (pe_call (ok_is_deed T Z D) (hr.mono (by decide)) rfl T.g_is_deed T.F_is_deed.kp T.b_f_is_deed .nil pass0 (pa_cons (pv 4) pa_nil)))) (pss_one ps_dead) pss_nil)))
      (pss_cons (ps_par3 (i := 5) (j := 6) (l := 7) rfl sc_Party_do.nd rfl rfl rfl (by decide) (by decide) (by decide) rfl rfl rfl (pa_cons (pe_ifExp (pt_val (pv 2)) (pe_callTy call_list_of rfl T.b_list bt_list (pa_cons (pe_fld (pv 0) rfl) pa_nil)) pe_non) (pa_cons (pe_lst pa_nil) (pa_cons pe_int pa_nil))) (by rfl))
      (pss_cons (ps_expr (pe_bm PySem.F.plainAttrs_list PySem.F.slot_list_append PySem.F.type_list_append mt_append (pe_fld (pv 0) rfl) (pa_cons (pe_tup (pa_cons (pe_globS rfl T.c_IN) (pa_cons (pe_callB call_len_seq rfl T.b_len bt_len (pa_cons (pv 1) pa_nil)) pa_nil))) pa_nil)))
      (pss_cons (ps_finN (fun _ _ h => h) (pss_cons (ps_for PassesOwn.never rfl (pi_list (pv 1)) (pg_name (i := 4) sc_Party_do.nd rfl (Or.inl rfl))
        (pss_cons (ps_expr (pe_bm PySem.F.plainAttrs_list PySem.F.slot_list_append PySem.F.type_list_append mt_append (pv 6) (pa_cons (pe_meth (pv 0) T.clP T.m_done (ok_Party_done T Z) (hr.mono (by decide)) T.b_f_Party_done .nil pass0 (pa_cons (pv 4) pa_nil)) pa_nil)))
      (pss_cons (ps_expr (pe_bm PySem.F.plainAttrs_list PySem.F.slot_list_append PySem.F.type_list_append mt_append (pe_fld (pv 0) rfl) (pa_cons (pe_ix ix_tup (pv 4) pe_int (fun _ _ => rfl)) pa_nil)))
      (pss_one (ps_aug (i := 7) sc_Party_do.nd rfl (Or.inl rfl) pe_int ip_add)))))
      (pss_one (ps_set (i := 5) sc_Party_do.nd rfl (Or.inl rfl) pe_non)))
        (pss_cons (ps_expr (pe_bm PySem.F.plainAttrs_list PySem.F.slot_list_append PySem.F.type_list_append mt_append (pe_fld (pv 0) rfl) (pa_cons (pe_tup (pa_cons (pe_globS rfl T.c_OUT) (pa_cons (pv 7) pa_nil))) pa_nil)))
      (pss_one (ps_if (pt_cmpR op_notN (pv 5) pe_non (nomark _)) (pss_one (ps_fld (pv 0) (pv 5) rfl)) pss_nil))))
      (pss_one (ps_ret (pv 6))))))), ?_⟩
    have ldv : dvs.length = row.length := by have := hdv.1; rwa [List.length_map] at this
    refine ⟨_, rfl, da, _, rfl, SqL.of hda, ?_⟩
    refine for_prs (prs_enum (xs := dvs)) (fun i σ H' => Same H H' ∧ ∃ y3 y4, σ = [some (.ref p), some (.ref da), some (.bl true), y3, y4, none, none, none]) ⟨Same.refl _, _, _, rfl⟩ (fun i σ H' _ e => SqL.of (e.1 _ _ hda)) ?_ ?_
    · rintro i x y σ H1 H2 hi ⟨rfl, hy⟩ ⟨e1, y3, y4, rfl⟩ e2
      obtain ⟨m, hm⟩ := get_lt (xs := row) (i := i) (by omega)
      have hx := hdv.2 i y (exD m) hy (by rw [List.getElem?_map, hm]; rfl)
      exact ⟨_, rfl, y, m, rfl, hx.mono (e1.trans e2).tups, true, rfl, iteZ rfl ⟨e1.trans e2, _, _, rfl⟩⟩
    · rintro σ H1 ⟨e1, y3, y4, rfl⟩
      obtain ⟨dx, hi⟩ := hp.ins
      have ez := sizeLine_eq
      have hul := hp.ulen
      refine ⟨_, rfl, true, rfl, iteY rfl ⟨_, rfl, p, _, dx, _, .ref q, rfl, e1 _ _ hi, T.clP, T.n_own_states, rfl, q, _, rfl, .inl (SqL.of (e1 _ _ hp.st)), fun kl hkl => ⟨line0, fun rl hrl' => ?_⟩⟩⟩
      have e2 := (e1.trans (Same.new (o := .lst (us ++ [u])) hkl)).trans (Same.new (o := .lst []) hrl')
      have hrl0 : upd (upd H1 kl (.lst (us ++ [u]))) rl (.lst []) rl = some (.lst []) := upd_same
      have nrl : H rl = none := (e1.trans (Same.new (o := .lst (us ++ [u])) hkl)).none hrl'
      generalize upd (upd H1 kl (.lst (us ++ [u]))) rl (.lst []) = H2 at *
      have hp2 := hp.same e2
      have hi2 := e2 _ _ hi
      refine ⟨_, _, _, rfl, ?_⟩
      refine ⟨_, rfl, p, _, dx, _, .ref lg, rfl, hi2, T.clP, T.n_own_log, rfl, .inl ⟨rfl, _, SqL.of hp2.lo⟩, _, rfl, da, _, rfl, .inl (SqL.of (e2 _ _ hda)), line2, fun tp htp => ?_⟩
      have e3 := e2.trans (Same.new (o := .tup [.str "in", .int (dvs.length : Nat)]) htp)
      have hp3 := hp2.same (Same.new (o := .tup [.str "in", .int (dvs.length : Nat)]) htp)
      have hrl1 := (Same.new (o := .tup [.str "in", .int (dvs.length : Nat)]) htp) _ _ hrl0
      generalize upd H2 tp (.tup [.str "in", .int (dvs.length : Nat)]) = H3 at *
      refine ⟨lg, _, _, rfl, rfl, hp3.lo, by omega, ?_⟩
      have k4 : Kps [q, lg] H (upd H3 lg (.lst (ls ++ [.ref tp]))) := (Kps.of e3).trans (Kps.kp Kp.upd (by simp))
      have hp4 := hp3.logged (.ref tp)
      have rlg : rl ≠ lg := (ne_of_none hp.lo nrl).symm
      have rlq : rl ≠ q := (ne_of_none hp.st nrl).symm
      have hrl2 : upd H3 lg (.lst (ls ++ [.ref tp])) rl = some (.lst []) := (upd_ne rlg).trans hrl1
      generalize upd H3 lg (.lst (ls ++ [.ref tp])) = H4 at *
      have cda : ∀ H', Kps [q, lg] H H' → H' da = some (.lst dvs) := fun H' k => k _ _ (by simp [dq, dlg]) hda
      refine ⟨_, rfl, da, rfl, ⟨_, SqL.of (cda _ k4)⟩, ?_⟩
      refine for_sng (sng_list (xs := dvs)) (fun i σ H' => Kps [q, lg] H H' ∧ ∃ us' u' ss' t' ls' rs y3 y4, Pty K H' p q lg us' u' ss' t' ls' ∧ Rg n t' ∧ runq t' (row.drop i) = .ok t2 ∧ ss'.length = ss.length + i ∧ ls'.length = ls.length + 1 + i ∧ H' rl = some (.lst rs) ∧ rs.length = i ∧
        σ = [some (.ref p), some (.ref da), some (.bl true), y3, y4, some (.ref kl), some (.ref rl), some (.int (i : Nat))])
        ⟨k4, us, u, ss, t, _, [], y3, y4, hp4, hn, hrun, rfl, by rw [List.length_append, List.length_singleton], hrl2, rfl, rfl⟩ (fun i σ H' _ e => SqL.of (cda _ e.1)) ?_ ?_
      · rintro i y σ H5 hi5 hy ⟨k5, us', u', ss', t', ls', rs, z3, z4, hp5, hn5, hr5, hs5, hl5, hrs, lrs, rfl⟩
        obtain ⟨m, hm⟩ := get_lt (xs := row) (i := i) (by omega)
        have hx0 := hdv.2 i y (exD m) hy (by rw [List.getElem?_map, hm]; rfl)
        have hx := hx0.mono (k5.tups2 hp.st hp.lo)
        obtain ⟨ya, rfl, hya⟩ := exD_un hx
        rw [List.drop_eq_getElem_cons (by omega : i < row.length), show row[i]'(by omega) = m from (List.getElem?_eq_some_iff.mp hm).2] at hr5
        obtain ⟨t6, he6, hr6⟩ := runq_step hr5
        obtain ⟨dx5, hi5'⟩ := hp5.ins
        have hul5 := hp5.ulen
        refine ⟨_, rfl, .inl ⟨rfl, _, SqL.of hrs⟩, _, rfl, p, dx5, _, rfl, hi5', rfl, _, rfl, p, q, lg, us', u', ss', t', ls', n, _, m, t6, rfl, hp5, hn5, hx, he6, fun u6 H6 k6 hq6 hu6 => ?_⟩
        have hp6 := hp5.push k6 hq6 hu6 (by omega)
        have k06 := k5.trans (Kps.kp (l := [q, lg]) k6 (by simp))
        have hrs6 := k6 _ _ rlq hrs
        refine ⟨rl, rs, _, rfl, rfl, hrs6, by omega, ?_⟩
        have s7 : Kp rl H6 (upd H6 rl (.lst (rs ++ [.int (pay t' m)]))) := Kp.upd
        have tu7 : Tups H6 (upd H6 rl (.lst (rs ++ [.int (pay t' m)]))) := s7.tups hrs6
        have rlp : rl ≠ p := (ne_of_none hi nrl).symm
        have hp7 := hp6.kp s7 tu7 rlp.symm rlq.symm rlg.symm
        have k07 := k06.mut (o := .lst (rs ++ [.int (pay t' m)])) nrl
        have hrs7 : upd H6 rl (.lst (rs ++ [.int (pay t' m)])) rl = some (.lst (rs ++ [.int (pay t' m)])) := upd_same
        have hya7 := tu7 _ _ (k6.tups hp5.st _ _ hya)
        generalize upd H6 rl (.lst (rs ++ [.int (pay t' m)])) = H7 at *
        obtain ⟨dx7, hi7⟩ := hp7.ins
        refine ⟨_, rfl, p, _, dx7, _, .ref lg, rfl, hi7, T.clP, T.n_own_log, rfl, .inl ⟨rfl, _, SqL.of hp7.lo⟩, _, rfl, ya, _, _, _, rfl, rfl, SqT.of hya7, atI_nat (j := 0) rfl, lg, _, _, rfl, rfl, hp7.lo, by omega, ?_⟩
        have hp8 := hp7.logged (.str "exchange")
        have k08 := k07.trans (Kps.kp (l := [q, lg]) (Kp.upd (l := lg) (o := .lst (ls' ++ [.str "exchange"]))) (by simp))
        have hrs8 : upd H7 lg (.lst (ls' ++ [.str "exchange"])) rl = some (.lst (rs ++ [.int (pay t' m)])) := (upd_ne rlg).trans hrs7
        generalize upd H7 lg (.lst (ls' ++ [.str "exchange"])) = H8 at *
        refine ⟨_, rfl, _, _, rfl, rfl, ?_⟩
        exact ⟨k08, _, _, _, _, _, _, _, _, hp8, exq_rg hn5 he6, hr6, by rw [List.length_append, List.length_singleton]; omega, by rw [List.length_append, List.length_singleton]; omega, hrs8, by rw [List.length_append, List.length_singleton]; omega, rfl⟩
      · rintro σ H5 ⟨k5, us', u', ss', t', ls', rs, z3, z4, hp5, hn5, hr5, hs5, hl5, hrs, lrs, rfl⟩
        rw [ldv, List.drop_length] at hr5
        cases hr5
        obtain ⟨dx5, hi5⟩ := hp5.ins
        refine ⟨_, rfl, p, _, dx5, _, .ref lg, rfl, hi5, T.clP, T.n_own_log, rfl, .inl ⟨rfl, _, SqL.of hp5.lo⟩, _, rfl, line2, fun tp2 htp2 => ?_⟩
        have k6 := k5.trans (Kps.of (l := [q, lg]) (Same.new (o := .tup [.str "out", .int (dvs.length : Nat)]) htp2))
        have hp6 := hp5.same (Same.new (o := .tup [.str "out", .int (dvs.length : Nat)]) htp2)
        generalize upd H5 tp2 (.tup [.str "out", .int (dvs.length : Nat)]) = H6 at *
        refine ⟨lg, _, _, rfl, rfl, hp6.lo, by omega, _, rfl, rfl, _, rfl, iteZ (by decide +kernel) ⟨_, rfl, h rl _ _ _ _ _ ?_ (hp6.logged (.ref tp2))⟩⟩
        exact k6.trans (Kps.kp (Kp.upd (l := lg) (o := .lst (ls' ++ [.ref tp2]))) (by simp))
end
end Tr
end
section
set_option Elab.async false
set_option linter.all false
set_option maxRecDepth 100000
set_option maxHeartbeats 4000000
namespace Tr
/-! ### sums -/
def sm : Nat → (Nat → Int) → Int
  | 0, _ => 0
  | m + 1, h => sm m h + h m
theorem sm_congr {m : Nat} {h k : Nat → Int} (e : ∀ i, i < m → h i = k i) : sm m h = sm m k := by
  induction m with
  | zero => rfl
  | succ m ih => rw [sm, sm, ih (fun i hi => e i (by omega)), e m (by omega)]
theorem sm_front (m : Nat) (h : Nat → Int) : sm (m + 1) h = h 0 + sm m (fun i => h (i + 1)) := by
  induction m with
  | zero => simp [sm]
  | succ m ih => rw [sm, ih, sm]; omega
theorem sm_add (m : Nat) (h k : Nat → Int) : sm m (fun i => h i + k i) = sm m h + sm m k := by
  induction m with
  | zero => rfl
  | succ m ih => simp only [sm]; rw [ih]; omega
theorem sm_sub (m : Nat) (h k : Nat → Int) : sm m (fun i => h i - k i) = sm m h - sm m k := by
  induction m with
  | zero => rfl
  | succ m ih => simp only [sm]; rw [ih]; omega
theorem sm_zero (m : Nat) {h : Nat → Int} (e : ∀ i, i < m → h i = 0) : sm m h = 0 := by
  induction m with
  | zero => rfl
  | succ m ih => rw [sm, ih (fun i hi => e i (by omega)), e m (by omega)]; rfl
theorem sm_range (m : Nat) (h : Nat → Int) : ((List.range m).map h).sum = sm m h := by
  induction m with
  | zero => rfl
  | succ m ih => rw [List.range_succ, List.map_append, sum_app, ih, sm]; simp
section
variable {α β : Type}
theorem ls_add (l : List α) (f g : α → Int) : (l.map fun x => f x + g x).sum = (l.map f).sum + (l.map g).sum := by
  induction l with
  | nil => rfl
  | cons a l ih => simp only [List.map_cons, List.sum_cons]; rw [ih]; omega
theorem ls_sub (l : List α) (f g : α → Int) : (l.map fun x => f x - g x).sum = (l.map f).sum - (l.map g).sum := by
  induction l with
  | nil => rfl
  | cons a l ih => simp only [List.map_cons, List.sum_cons]; rw [ih]; omega
theorem ls_mul (l : List α) (c : Int) (f : α → Int) : (l.map fun x => c * f x).sum = c * (l.map f).sum := by
  induction l with
  | nil => simp
  | cons a l ih => simp only [List.map_cons, List.sum_cons]; rw [ih, Int.mul_add]
theorem ls_mulR (l : List α) (c : Int) (f : α → Int) : (l.map fun x => f x * c).sum = (l.map f).sum * c := by
  induction l with
  | nil => simp
  | cons a l ih => simp only [List.map_cons, List.sum_cons]; rw [ih, Int.add_mul]
theorem ls_const (l : List α) (c : Int) : (l.map fun _ => c).sum = l.length * c := by
  induction l with
  | nil => simp
  | cons a l ih => simp only [List.map_cons, List.sum_cons, List.length_cons]; rw [ih, Int.natCast_add, Int.add_mul]; simp; omega
theorem ls_zero {l : List α} {f : α → Int} (e : ∀ x, x ∈ l → f x = 0) : (l.map f).sum = 0 := by
  induction l with
  | nil => rfl
  | cons a l ih => simp only [List.map_cons, List.sum_cons]; rw [e a (by simp), ih fun x hx => e x (by simp [hx])]; rfl
theorem ls_congr {l : List α} {f g : α → Int} (e : ∀ x, x ∈ l → f x = g x) : (l.map f).sum = (l.map g).sum := by
  rw [List.map_congr_left e]
theorem ls_swap (l : List α) (m : List β) (f : α → β → Int) : (l.map fun x => (m.map fun y => f x y).sum).sum = (m.map fun y => (l.map fun x => f x y).sum).sum := by
  induction l with
  | nil => simp only [List.map_nil, List.sum_nil]; rw [ls_zero]; intro _ _; rfl
  | cons a l ih => simp only [List.map_cons, List.sum_cons]; rw [ih, ls_add]
theorem ls_filter (l : List α) (p : α → Bool) (f : α → Int) : ((l.filter p).map f).sum = (l.map fun x => if p x = true then f x else 0).sum := by
  induction l with
  | nil => rfl
  | cons a l ih =>
    rw [List.filter_cons]
    by_cases h : p a = true
    · rw [if_pos h, List.map_cons, List.map_cons, List.sum_cons, List.sum_cons, ih, if_pos h]
    · rw [if_neg h, List.map_cons, List.sum_cons, ih, if_neg h]; omega
theorem ls_nonneg {l : List α} {f : α → Int} (e : ∀ x, x ∈ l → 0 ≤ f x) : 0 ≤ (l.map f).sum := by
  induction l with
  | nil => simp
  | cons a l ih => simp only [List.map_cons, List.sum_cons]; have := e a (by simp); have := ih fun x hx => e x (by simp [hx]); omega
theorem ls_le {l : List α} {f : α → Int} {M : Int} (e : ∀ x, x ∈ l → f x ≤ M) : (l.map f).sum ≤ l.length * M := by
  rw [← ls_const]
  induction l with
  | nil => simp
  | cons a l ih => simp only [List.map_cons, List.sum_cons]; have := e a (by simp); have := ih fun x hx => e x (by simp [hx]); omega
theorem ls_ge {l : List α} {f : α → Int} (e : ∀ x, x ∈ l → 0 ≤ f x) {a : α} (h : a ∈ l) : f a ≤ (l.map f).sum := by
  induction l with
  | nil => cases h
  | cons b l ih =>
    simp only [List.map_cons, List.sum_cons]
    have h1 := ls_nonneg (l := l) (f := f) fun x hx => e x (by simp [hx])
    rcases List.mem_cons.mp h with rfl | h
    · omega
    · have := e b (by simp); have := ih (fun x hx => e x (by simp [hx])) h; omega
theorem sm_ls (m : Nat) (l : List α) (f : Nat → α → Int) : sm m (fun i => (l.map (f i)).sum) = (l.map fun x => sm m (fun i => f i x)).sum := by
  induction m with
  | zero => simp only [sm]; rw [ls_zero]; intro _ _; rfl
  | succ m ih => simp only [sm]; rw [ih, ls_add]
theorem sub_len [BEq α] [LawfulBEq α] [DecidableEq α] : ∀ {V L : List α}, V.Nodup → L.Nodup → (∀ x, x ∈ V → x ∈ L) → V.length + (L.filter fun x => !decide (x ∈ V)).length = L.length := by
  intro V
  induction V with
  | nil => intro L _ _ _; simp
  | cons v V ih =>
    intro L hV hL hs
    obtain ⟨hv, hV⟩ := List.nodup_cons.mp hV
    have h1 := ih (L := L.erase v) hV (hL.erase v) (fun x hx => (List.mem_erase_of_ne (fun (e : x = v) => hv (by rw [← e]; exact hx))).mpr (hs x (by simp [hx])))
    have h2 := List.length_erase_of_mem (hs v (by simp))
    have h3 : 0 < L.length := List.length_pos_of_mem (hs v (by simp))
    have h4 : (L.erase v).filter (fun x => !decide (x ∈ V)) = L.filter fun x => !decide (x ∈ v :: V) := by
      rw [hL.erase_eq_filter, List.filter_filter]
      apply List.filter_congr
      intro x _
      by_cases e : x = v
      · simp [e]
      · simp [e]
    rw [h4] at h1
    rw [List.length_cons]
    omega
end
/-! ### lists of coefficients -/
def dt (f : List Int) (φ : Nat → Int) : Int := sm f.length fun i => f.getD i 0 * φ i
theorem dt_cons (a : Int) (f : List Int) (φ : Nat → Int) : dt (a :: f) φ = a * φ 0 + dt f (fun w => φ (w + 1)) := by
  unfold dt
  rw [List.length_cons, sm_front]
  rfl
theorem dt_sgZ (f : List Int) (φ : Nat → Int) : dt (sgZ f) φ = dt f (fun w => φ (w + 1) - φ w) := by
  unfold dt
  rw [sgZ_len]
  have e : ∀ i, i < f.length + 1 → (sgZ f).getD i 0 * φ i = (0 :: f).getD i 0 * φ i - (f ++ [0]).getD i 0 * φ i := fun i hi => by
    unfold sgZ
    rw [List.getD_eq_getElem?_getD, List.getElem?_map, List.getElem?_range hi, Option.map_some, Option.getD_some, Int.sub_mul]
  rw [sm_congr e, sm_sub, sm_front, sm]
  have z : (f ++ [0]).getD f.length 0 = 0 := by rw [List.getD_eq_getElem?_getD, List.getElem?_append_right (Nat.le_refl _), Nat.sub_self]; rfl
  have y : sm f.length (fun i => (f ++ [0]).getD i 0 * φ i) = sm f.length (fun i => f.getD i 0 * φ i) := sm_congr fun i hi => by
    rw [List.getD_eq_getElem?_getD, List.getElem?_append_left hi, ← List.getD_eq_getElem?_getD]
  have x : sm f.length (fun i => f.getD i 0 * (φ (i + 1) - φ i)) = sm f.length (fun i => f.getD i 0 * φ (i + 1)) - sm f.length (fun i => f.getD i 0 * φ i) := by
    rw [← sm_sub]
    exact sm_congr fun i _ => Int.mul_sub _ _ _
  rw [z, y, x]
  have w : (0 :: f).getD 0 0 = (0 : Int) := rfl
  have v : (fun i => (0 :: f).getD (i + 1) 0 * φ (i + 1)) = fun i => f.getD i 0 * φ (i + 1) := rfl
  rw [w, v]
  omega
theorem dt_set (f : List Int) (v : Int) (φ : Nat → Int) (h : 1 ≤ f.length) : dt (f.set 0 (f.getD 0 0 + v)) φ = dt f φ + v * φ 0 := by
  match f, h with
  | a :: f, _ =>
    show dt ((a + v) :: f) φ = _
    rw [dt_cons, dt_cons, Int.add_mul]
    omega
def dl : Nat → (Nat → Int) → Nat → Int
  | 0, φ => φ
  | m + 1, φ => dl m (fun w => φ (w + 1) - φ w)
def fct : Nat → Int
  | 0 => 1
  | n + 1 => ((n : Nat) + 1 : Int) * fct n
theorem mx1 (k : Nat) : mx 1 (k : Int) = if k = 0 then 1 else (k : Int) := by
  unfold mx
  split <;> split <;> omega
theorem sgN_fct (ws : List Int) : ∀ k, (sgN ws (k + 1)).2 = fct k
  | 0 => rfl
  | k + 1 => by
    rw [sgN]
    unfold sgStep
    show (sgN ws (k + 1)).2 * mx 1 ((k + 1 : Nat) : Int) = _
    rw [sgN_fct ws k, mx1, if_neg (by omega), fct, Int.mul_comm]
    rfl
theorem dt_sgN (ws : List Int) : ∀ (k : Nat) (φ : Nat → Int), dt (sgN ws k).1 φ = sm k (fun m => ws.getD (k - 1 - m) 0 * fct (k - 1 - m) * dl m φ 0)
  | 0, φ => rfl
  | k + 1, φ => by
    have e : (sgN ws (k + 1)).1 = (sgZ (sgN ws k).1).set 0 ((sgZ (sgN ws k).1).getD 0 0 + ws.getD k 0 * fct k) := by
      rw [← sgN_fct ws k]
      rfl
    rw [e, dt_set _ _ _ (by rw [sgZ_len]; omega), dt_sgZ, dt_sgN ws k, sm_front]
    have e2 : sm k (fun m => ws.getD (k - 1 - m) 0 * fct (k - 1 - m) * dl m (fun w => φ (w + 1) - φ w) 0) = sm k (fun i => ws.getD (k + 1 - 1 - (i + 1)) 0 * fct (k + 1 - 1 - (i + 1)) * dl (i + 1) φ 0) := sm_congr fun i hi => by
      rw [show k + 1 - 1 - (i + 1) = k - 1 - i by omega]
      rfl
    rw [e2]
    show _ + ws.getD k 0 * fct k * φ 0 = ws.getD k 0 * fct k * φ 0 + _
    omega
theorem dt_sg (ns : List Int) (φ : Nat → Int) : dt (sg ns) φ = sm (ns.length + 1) (fun m => (pl ns).getD m 0 * fct (ns.length - m) * dl m φ 0) := by
  unfold sg
  rw [dt_sgN, List.length_reverse, pl_len]
  refine sm_congr fun m hm => ?_
  have e : (pl ns).reverse.getD (ns.length + 1 - 1 - m) 0 = (pl ns).getD m 0 := by
    rw [List.getD_eq_getElem?_getD, List.getElem?_reverse (by rw [pl_len]; omega), List.getD_eq_getElem?_getD, pl_len]
    congr 2
    omega
  rw [e]
  rfl
/-! ### the products -/
def dpf : List Int → Nat → Nat → Int
  | [], _, m => if m = 0 then 1 else 0
  | _ :: cs, v, 0 => dpf cs v 0
  | c :: cs, v, m + 1 => dpf cs v (m + 1) + mx 0 (c - (v : Int)) * dpf cs (v + 1) m
theorem plIn_get (step : Int) (f : List Int) : ∀ i, i ≤ f.length → ∀ j, (plIn step f i).getD j 0 = f.getD j 0 + (if 1 ≤ j ∧ j ≤ i then f.getD (j - 1) 0 * mx 0 (step - ((j - 1 : Nat) : Int)) else 0)
  | 0, _, j => by
    rw [plIn, if_neg (by omega), Int.add_zero, List.getD_eq_getElem?_getD, List.getD_eq_getElem?_getD]
    by_cases h : j < f.length
    · rw [List.getElem?_append_left h]
    · rw [List.getElem?_append_right (by omega), List.getElem?_eq_none (l := f) (by omega)]
      by_cases e : j - f.length = 0
      · rw [e]; rfl
      · rw [List.getElem?_eq_none (by rw [List.length_singleton]; omega)]
  | i + 1, hi, j => by
    rw [plIn, List.getD_eq_getElem?_getD, List.getElem?_set, plIn_len]
    by_cases e : i + 1 = j
    · subst e
      rw [if_pos rfl, if_pos (by omega), Option.getD_some, plIn_get step f i (by omega), if_neg (by omega), if_pos (by omega), Nat.add_sub_cancel]
      omega
    · rw [if_neg e, ← List.getD_eq_getElem?_getD, plIn_get step f i (by omega)]
      congr 1
      by_cases h : 1 ≤ j ∧ j ≤ i
      · rw [if_pos h, if_pos (by omega)]
      · rw [if_neg h, if_neg (by omega)]
theorem plN_get0 (ns : List Int) (k : Nat) : (plN ns (k + 1)).getD 0 0 = (plN ns k).getD 0 0 := by
  rw [plN, plIn_get _ _ _ (Nat.le_refl _), if_neg (by omega), Int.add_zero]
theorem plN_getS (ns : List Int) (k j : Nat) : (plN ns (k + 1)).getD (j + 1) 0 = (plN ns k).getD (j + 1) 0 + (plN ns k).getD j 0 * mx 0 (ns.getD k 0 - (j : Int)) := by
  rw [plN, plIn_get _ _ _ (Nat.le_refl _), Nat.add_sub_cancel]
  congr 1
  by_cases h : 1 ≤ j + 1 ∧ j + 1 ≤ (plN ns k).length
  · rw [if_pos h]
  · rw [if_neg h]
    have : (plN ns k).getD j 0 = 0 := by rw [List.getD_eq_getElem?_getD, List.getElem?_eq_none (by omega)]; rfl
    rw [this, Int.zero_mul]
theorem dpf_pl (ns : List Int) (m : Nat) : ∀ k, k ≤ ns.length → dpf ns 0 m = sm (m + 1) (fun v => (plN ns k).getD v 0 * dpf (ns.drop k) v (m - v))
  | 0, _ => by
    rw [sm_front, sm_zero]
    · show _ = (1 : Int) * dpf ns 0 m + 0
      omega
    · intro i _
      show (0 : Int) * _ = 0
      exact Int.zero_mul _
  | k + 1, hk => by
    rw [dpf_pl ns m k (by omega), List.drop_eq_getElem_cons (by omega : k < ns.length)]
    have hc : ns.getD k 0 = ns[k]'(by omega) := by rw [List.getD_eq_getElem?_getD, List.getElem?_eq_getElem (by omega), Option.getD_some]
    rw [← hc]
    generalize ns.drop (k + 1) = rest
    have e1 : sm (m + 1) (fun v => (plN ns k).getD v 0 * dpf (ns.getD k 0 :: rest) v (m - v)) = sm (m + 1) (fun v => (plN ns k).getD v 0 * dpf rest v (m - v)) + sm m (fun v => (plN ns k).getD v 0 * mx 0 (ns.getD k 0 - (v : Int)) * dpf rest (v + 1) (m - (v + 1))) := by
      rw [sm, sm, Nat.sub_self, dpf]
      have : sm m (fun v => (plN ns k).getD v 0 * dpf (ns.getD k 0 :: rest) v (m - v)) = sm m (fun v => (plN ns k).getD v 0 * dpf rest v (m - v) + (plN ns k).getD v 0 * mx 0 (ns.getD k 0 - (v : Int)) * dpf rest (v + 1) (m - (v + 1))) := sm_congr fun v hv => by
        obtain ⟨z, hz⟩ : ∃ z, m - v = z + 1 := ⟨m - v - 1, by omega⟩
        rw [hz, dpf, show m - (v + 1) = z by omega, Int.mul_add, Int.mul_assoc]
      rw [this, sm_add]
      omega
    rw [e1, sm_front m (fun v => (plN ns k).getD v 0 * dpf rest v (m - v)), sm_front m (fun v => (plN ns (k + 1)).getD v 0 * dpf rest v (m - v)), plN_get0]
    have e2 : sm m (fun i => (plN ns (k + 1)).getD (i + 1) 0 * dpf rest (i + 1) (m - (i + 1))) = sm m (fun i => (plN ns k).getD (i + 1) 0 * dpf rest (i + 1) (m - (i + 1))) + sm m (fun v => (plN ns k).getD v 0 * mx 0 (ns.getD k 0 - (v : Int)) * dpf rest (v + 1) (m - (v + 1))) := by
      rw [← sm_add]
      exact sm_congr fun i _ => by rw [plN_getS, Int.add_mul]
    rw [e2]
    omega
theorem pl_dpf (ns : List Int) (m : Nat) : (pl ns).getD m 0 = dpf ns 0 m := by
  rw [dpf_pl ns m ns.length (Nat.le_refl _), List.drop_length, sm, sm_zero]
  · rw [Nat.sub_self]
    show _ = 0 + _ * (1 : Int)
    unfold pl
    omega
  · intro i hi
    rw [dpf, if_neg (by omega), Int.mul_zero]
end Tr
end
section
set_option Elab.async false
set_option linter.all false
set_option maxRecDepth 100000
set_option maxHeartbeats 4000000
namespace Tr
/-! ### free seats -/
def sq (n : Nat) : List Int := (List.range n).map fun (i : Nat) => (i : Int)
theorem sq_len (n : Nat) : (sq n).length = n := by unfold sq; rw [List.length_map, List.length_range]
theorem sq_mem {n : Nat} {x : Int} : x ∈ sq n ↔ 0 ≤ x ∧ x < n := by
  unfold sq
  rw [List.mem_map]
  constructor
  · rintro ⟨i, hi, rfl⟩
    have := List.mem_range.mp hi
    omega
  · rintro ⟨h0, h1⟩
    exact ⟨x.toNat, List.mem_range.mpr (by omega), by omega⟩
theorem sq_nd (n : Nat) : (sq n).Nodup := by
  exact List.pairwise_map.mpr (List.nodup_range.imp fun h e => h (by omega))
theorem frees_eq (n : Nat) (U : List Int) : frees n U = (sq n).filter fun x => !decide (x ∈ U) := by
  unfold frees pickI sq
  rw [List.filter_map]
  rfl
theorem frees_memI {n : Nat} {U : List Int} {x : Int} : x ∈ frees n U ↔ (0 ≤ x ∧ x < n) ∧ x ∉ U := by
  rw [frees_eq, List.mem_filter, sq_mem]
  simp
theorem frees_nd (n : Nat) (U : List Int) : (frees n U).Nodup := by
  rw [frees_eq]
  exact (sq_nd n).filter _
theorem frees_cong {n : Nat} {U W : List Int} (h : ∀ x, x ∈ U ↔ x ∈ W) : frees n U = frees n W := by
  rw [frees_eq, frees_eq]
  exact List.filter_congr fun x _ => by rw [decide_eq_decide.mpr (h x)]
theorem frees_snoc (n : Nat) (U : List Int) (x : Int) : frees n (U ++ [x]) = (frees n U).filter fun y => !decide (y ∈ [x]) := by
  rw [frees_eq, frees_eq, List.filter_filter]
  refine List.filter_congr fun y _ => ?_
  by_cases h : y = x
  · simp [h]
  · simp [h]
theorem frees_app (n : Nat) (U V : List Int) : frees n (U ++ V) = (frees n U).filter fun y => !decide (y ∈ V) := by
  rw [frees_eq, frees_eq, List.filter_filter]
  refine List.filter_congr fun y _ => ?_
  by_cases h : y ∈ V <;> simp [h]
theorem frees_len1 {n : Nat} {U : List Int} {x : Int} (h : x ∈ frees n U) : (frees n (U ++ [x])).length + 1 = (frees n U).length := by
  rw [frees_snoc]
  have := sub_len (V := [x]) (L := frees n U) (by simp) (frees_nd n U) (by simpa using h)
  rw [List.length_singleton] at this
  omega
theorem frees_lenV {n : Nat} {t : List Int} (h : VS n t) : t.length + (frees n t).length = n := by
  rw [frees_eq]
  have := sub_len (V := t) (L := sq n) h.1 (sq_nd n) (fun x hx => sq_mem.mpr (h.2 x hx))
  rw [sq_len] at this
  exact this
/-! ### placements, in any order -/
def Rk (n : Nat) : List Int → List Int → Nat → Int
  | [], _, m => if m = 0 then 1 else 0
  | _ :: as, U, 0 => Rk n as U 0
  | a :: as, U, m + 1 => Rk n as U (m + 1) + ((frees n U).map fun x => if x ≤ a then Rk n as (U ++ [x]) m else 0).sum
theorem Rk_cong {n : Nat} : ∀ {as U W : List Int} {m : Nat}, (∀ x, x ∈ U ↔ x ∈ W) → Rk n as U m = Rk n as W m
  | [], _, _, _, _ => rfl
  | a :: as, U, W, 0, h => by rw [Rk, Rk, Rk_cong h]
  | a :: as, U, W, m + 1, h => by
    rw [Rk, Rk, Rk_cong h, frees_cong h]
    congr 1
    exact ls_congr fun x _ => by rw [Rk_cong (as := as) (U := U ++ [x]) (W := W ++ [x]) fun y => by simp [h y]]
theorem Rk_zero {n : Nat} : ∀ {as U : List Int}, Rk n as U 0 = 1
  | [], _ => rfl
  | a :: as, U => by rw [Rk, Rk_zero]
theorem Rk_big {n : Nat} : ∀ {as U : List Int} {m : Nat}, as.length < m → Rk n as U m = 0
  | [], _, m, h => by rw [Rk, if_neg (by simp at h; omega)]
  | a :: as, U, m + 1, h => by
    rw [List.length_cons] at h
    rw [Rk, Rk_big (by omega), ls_zero]
    · rfl
    · intro x _
      split
      · exact Rk_big (by omega)
      · rfl
theorem ite_and {p q : Prop} [Decidable p] [Decidable q] {x : Int} : (if p then (if q then x else 0) else 0) = if p ∧ q then x else 0 := by
  by_cases hp : p <;> by_cases hq : q <;> simp [hp, hq]
/-- a sum over what is free behind x -/
theorem sum_snoc (n : Nat) (U : List Int) (x : Int) (f : Int → Int) : ((frees n (U ++ [x])).map f).sum = ((frees n U).map fun y => if y ≠ x then f y else 0).sum := by
  rw [frees_snoc, ls_filter]
  refine ls_congr fun y _ => ?_
  by_cases h : y = x
  · simp [h]
  · simp [h]
theorem sum_ite (l : List Int) (p : Prop) [Decidable p] (f : Int → Int) : (if p then (l.map f).sum else 0) = (l.map fun y => if p then f y else 0).sum := by
  by_cases h : p
  · rw [if_pos h]; exact ls_congr fun y _ => by rw [if_pos h]
  · rw [if_neg h, ls_zero]; intro y _; rw [if_neg h]
theorem ls_add3 (l : List Int) (f g : Int → Int) (p : Int → Prop) [∀ x, Decidable (p x)] : (l.map fun x => if p x then f x + g x else 0).sum = (l.map fun x => if p x then f x else 0).sum + (l.map fun x => if p x then g x else 0).sum := by
  rw [← ls_add]
  refine ls_congr fun x _ => ?_
  by_cases h : p x
  · rw [if_pos h, if_pos h, if_pos h]
  · rw [if_neg h, if_neg h, if_neg h]; rfl
theorem Rk_swap {n : Nat} {a b : Int} {as U : List Int} : ∀ {m : Nat}, Rk n (a :: b :: as) U m = Rk n (b :: a :: as) U m
  | 0 => by rw [Rk_zero, Rk_zero]
  | 1 => by
    simp only [Rk, Rk_zero]
    omega
  | m + 2 => by
    have half : ∀ a b : Int, Rk n (a :: b :: as) U (m + 2) = Rk n as U (m + 2) + ((frees n U).map fun x => if x ≤ b then Rk n as (U ++ [x]) (m + 1) else 0).sum + ((frees n U).map fun x => if x ≤ a then Rk n as (U ++ [x]) (m + 1) else 0).sum +
        ((frees n U).map fun x => ((frees n U).map fun y => if x ≤ a ∧ y ≤ b ∧ y ≠ x then Rk n as (U ++ [x] ++ [y]) m else 0).sum).sum := fun a b => by
      have e0 : Rk n (a :: b :: as) U (m + 2) = Rk n as U (m + 2) + ((frees n U).map fun x => if x ≤ b then Rk n as (U ++ [x]) (m + 1) else 0).sum + ((frees n U).map fun x => if x ≤ a then Rk n (b :: as) (U ++ [x]) (m + 1) else 0).sum := rfl
      rw [e0]
      have e : ((frees n U).map fun x => if x ≤ a then Rk n (b :: as) (U ++ [x]) (m + 1) else 0).sum = ((frees n U).map fun x => if x ≤ a then Rk n as (U ++ [x]) (m + 1) + ((frees n (U ++ [x])).map fun y => if y ≤ b then Rk n as (U ++ [x] ++ [y]) m else 0).sum else 0).sum := rfl
      rw [e, ls_add3]
      have e2 : ((frees n U).map fun x => if x ≤ a then ((frees n (U ++ [x])).map fun y => if y ≤ b then Rk n as (U ++ [x] ++ [y]) m else 0).sum else 0).sum = ((frees n U).map fun x => ((frees n U).map fun y => if x ≤ a ∧ y ≤ b ∧ y ≠ x then Rk n as (U ++ [x] ++ [y]) m else 0).sum).sum := ls_congr fun x _ => by
        rw [sum_snoc, sum_ite]
        refine ls_congr fun y _ => ?_
        by_cases h1 : x ≤ a <;> by_cases h2 : y ≤ b <;> by_cases h3 : y = x <;> simp [h1, h2, h3]
      rw [e2]
      omega
    rw [half a b, half b a]
    have e3 : ((frees n U).map fun x => ((frees n U).map fun y => if x ≤ a ∧ y ≤ b ∧ y ≠ x then Rk n as (U ++ [x] ++ [y]) m else 0).sum).sum = ((frees n U).map fun x => ((frees n U).map fun y => if x ≤ b ∧ y ≤ a ∧ y ≠ x then Rk n as (U ++ [x] ++ [y]) m else 0).sum).sum := by
      rw [ls_swap]
      refine ls_congr fun y _ => ls_congr fun x _ => ?_
      have c : Rk n as (U ++ [x] ++ [y]) m = Rk n as (U ++ [y] ++ [x]) m := Rk_cong fun z => by simp; exact ⟨fun h => by rcases h with h | h | h <;> simp [h], fun h => by rcases h with h | h | h <;> simp [h]⟩
      rw [c]
      by_cases h1 : x ≤ a <;> by_cases h2 : y ≤ b <;> by_cases h3 : y = x <;> simp [h1, h2, h3, eq_comm]
    rw [e3]
    omega
theorem Rk_perm {n : Nat} {as bs : List Int} (p : as.Perm bs) : ∀ (U : List Int) (m : Nat), Rk n as U m = Rk n bs U m := by
  induction p with
  | nil => intros; rfl
  | cons a p ih =>
    intro U m
    cases m with
    | zero => rw [Rk_zero, Rk_zero]
    | succ m =>
      rw [Rk, Rk, ih]
      congr 1
      exact ls_congr fun x _ => by rw [ih]
  | swap a b l => intros; exact Rk_swap
  | trans p q ih1 ih2 => intro U m; rw [ih1, ih2]
/-- each placement leaves as many seats -/
theorem Rk_left {n : Nat} : ∀ {as U : List Int} {m : Nat}, ((frees n U).map fun x => Rk n as (U ++ [x]) m).sum = (((frees n U).length : Int) - (m : Int)) * Rk n as U m
  | [], U, m => by
    simp only [Rk]
    rw [ls_const]
    by_cases h : m = 0
    · subst h; simp
    · rw [if_neg h]; simp
  | a :: as, U, 0 => by
    simp only [Rk_zero]
    rw [ls_const]
    simp
  | a :: as, U, m + 1 => by
    simp only [Rk]
    rw [ls_add, Rk_left, Int.mul_add]
    congr 1
    have e1 : ((frees n U).map fun x => ((frees n (U ++ [x])).map fun y => if y ≤ a then Rk n as (U ++ [x] ++ [y]) m else 0).sum).sum = ((frees n U).map fun x => ((frees n U).map fun y => if y ≤ a ∧ y ≠ x then Rk n as (U ++ [x] ++ [y]) m else 0).sum).sum := ls_congr fun x _ => by
      rw [sum_snoc]
      refine ls_congr fun y _ => ?_
      by_cases h2 : y ≤ a <;> by_cases h3 : y = x <;> simp [h2, h3]
    rw [e1, ls_swap, ← ls_mul]
    refine ls_congr fun y hy => ?_
    have e2 : ((frees n U).map fun x => if y ≤ a ∧ y ≠ x then Rk n as (U ++ [x] ++ [y]) m else 0).sum = if y ≤ a then ((frees n (U ++ [y])).map fun x => Rk n as (U ++ [y] ++ [x]) m).sum else 0 := by
      rw [sum_snoc, sum_ite]
      refine ls_congr fun x _ => ?_
      have c : Rk n as (U ++ [x] ++ [y]) m = Rk n as (U ++ [y] ++ [x]) m := Rk_cong fun z => by simp; exact ⟨fun h => by rcases h with h | h | h <;> simp [h], fun h => by rcases h with h | h | h <;> simp [h]⟩
      rw [c]
      by_cases h2 : y ≤ a <;> by_cases h3 : y = x <;> simp [h2, h3, eq_comm]
    rw [e2, Rk_left]
    have hl := frees_len1 hy
    split
    · congr 1; omega
    · rw [Int.mul_zero]
/-- in ascending order, by the numbers of good seats -/
def cntf (n : Nat) (t : List Int) (a : Int) : Int := (((frees n t).filter fun s => decide (s ≤ a)).length : Nat)
theorem Rk_dpf {n : Nat} {t : List Int} : ∀ {as V : List Int} {m : Nat}, as.Pairwise (· ≤ ·) → V.Nodup → (∀ x, x ∈ V → x ∈ frees n t ∧ ∀ a, a ∈ as → x ≤ a) → Rk n as (t ++ V) m = dpf (as.map (cntf n t)) V.length m
  | [], V, m, _, _, _ => rfl
  | a :: as, V, 0, p, nd, h => by
    rw [Rk, List.map_cons, dpf, Rk_dpf (List.pairwise_cons.mp p).2 nd fun x hx => ⟨(h x hx).1, fun b hb => (h x hx).2 b (by simp [hb])⟩]
  | a :: as, V, m + 1, p, nd, h => by
    obtain ⟨pa, p2⟩ := List.pairwise_cons.mp p
    rw [Rk, List.map_cons, dpf, Rk_dpf p2 nd fun x hx => ⟨(h x hx).1, fun b hb => (h x hx).2 b (by simp [hb])⟩]
    congr 1
    have e : ((frees n (t ++ V)).map fun x => if x ≤ a then Rk n as (t ++ V ++ [x]) m else 0).sum = ((frees n (t ++ V)).map fun x => if decide (x ≤ a) = true then dpf (as.map (cntf n t)) (V.length + 1) m else 0).sum := ls_congr fun x hx => by
      have hx2 := frees_memI.mp hx
      by_cases g : x ≤ a
      · rw [if_pos g, if_pos (decide_eq_true g), List.append_assoc, Rk_dpf p2 (V := V ++ [x])]
        · rw [List.length_append, List.length_singleton]
        · rw [List.nodup_append]
          exact ⟨nd, by simp, fun y hy z hz => by rw [List.mem_singleton.mp hz]; intro e; subst e; exact hx2.2 (by simp [hy])⟩
        · intro y hy
          rcases List.mem_append.mp hy with hy | hy
          · exact ⟨(h y hy).1, fun b hb => (h y hy).2 b (by simp [hb])⟩
          · rw [List.mem_singleton.mp hy]
            exact ⟨frees_memI.mpr ⟨hx2.1, fun z => hx2.2 (by simp [z])⟩, fun b hb => Int.le_trans g (pa b hb)⟩
      · rw [if_neg g, if_neg (by simpa using g)]
    rw [e, ← ls_filter, ls_const]
    congr 1
    have l : V.length + ((frees n (t ++ V)).filter fun x => decide (x ≤ a)).length = ((frees n t).filter fun s => decide (s ≤ a)).length := by
      rw [frees_app, List.filter_filter]
      have := sub_len (V := V) (L := (frees n t).filter fun s => decide (s ≤ a)) nd ((frees_nd n t).filter _) (fun x hx => List.mem_filter.mpr ⟨(h x hx).1, decide_eq_true ((h x hx).2 a (by simp))⟩)
      rw [List.filter_filter] at this
      rw [← this]
      congr 2
      exact List.filter_congr fun x _ => Bool.and_comm _ _
    unfold mx cntf
    split <;> omega
/-! ### seatings, each with its weight -/
def Fk (n : Nat) : List Int → List Int → (Nat → Int) → Int
  | [], _, φ => φ 0
  | a :: as, U, φ => ((frees n U).map fun x => Fk n as (U ++ [x]) (if x ≤ a then fun w => φ (w + 1) else φ)).sum
theorem Fk_sub {n : Nat} : ∀ {as U : List Int} {φ ψ : Nat → Int}, Fk n as U (fun w => φ w - ψ w) = Fk n as U φ - Fk n as U ψ
  | [], _, _, _ => rfl
  | a :: as, U, φ, ψ => by
    simp only [Fk]
    rw [← ls_sub]
    refine ls_congr fun x _ => ?_
    split
    · exact Fk_sub
    · exact Fk_sub
theorem Rk_Fk {n : Nat} : ∀ {as U : List Int} {φ : Nat → Int}, (frees n U).length = as.length → sm (as.length + 1) (fun m => Rk n as U m * fct (as.length - m) * dl m φ 0) = Fk n as U φ
  | [], U, φ, _ => by
    show 0 + (1 : Int) * 1 * φ 0 = φ 0
    omega
  | a :: as, U, φ, h => by
    rw [List.length_cons] at h
    rw [List.length_cons, sm_front]
    have ih : ∀ x, x ∈ frees n U → ∀ φ, sm (as.length + 1) (fun m => Rk n as (U ++ [x]) m * fct (as.length - m) * dl m φ 0) = Fk n as (U ++ [x]) φ := fun x hx φ => Rk_Fk (by have := frees_len1 hx; omega)
    have eA : sm (as.length + 1 + 1) (fun m => Rk n as U m * fct (as.length + 1 - m) * dl m φ 0) = ((frees n U).map fun x => Fk n as (U ++ [x]) φ).sum := by
      rw [sm, Rk_big (by omega), Int.zero_mul, Int.zero_mul, Int.add_zero]
      have e1 : sm (as.length + 1) (fun m => Rk n as U m * fct (as.length + 1 - m) * dl m φ 0) = sm (as.length + 1) (fun m => ((frees n U).map fun x => Rk n as (U ++ [x]) m * fct (as.length - m) * dl m φ 0).sum) := sm_congr fun m hm => by
        rw [ls_mulR, ls_mulR, Rk_left, h, show as.length + 1 - m = (as.length - m) + 1 by omega, fct, show (((as.length + 1 : Nat) : Int) - (m : Int)) = ((as.length - m : Nat) : Int) + 1 by omega]
        congr 1
        rw [← Int.mul_assoc]
        congr 1
        exact Int.mul_comm _ _
      rw [e1, sm_ls]
      exact ls_congr fun x hx => ih x hx φ
    have eB : sm (as.length + 1) (fun i => Rk n (a :: as) U (i + 1) * fct (as.length + 1 - (i + 1)) * dl (i + 1) φ 0) = sm (as.length + 1) (fun i => Rk n as U (i + 1) * fct (as.length + 1 - (i + 1)) * dl (i + 1) φ 0) + ((frees n U).map fun x => if x ≤ a then Fk n as (U ++ [x]) (fun w => φ (w + 1) - φ w) else 0).sum := by
      have e1 : sm (as.length + 1) (fun i => Rk n (a :: as) U (i + 1) * fct (as.length + 1 - (i + 1)) * dl (i + 1) φ 0) = sm (as.length + 1) (fun i => Rk n as U (i + 1) * fct (as.length + 1 - (i + 1)) * dl (i + 1) φ 0 + ((frees n U).map fun x => if x ≤ a then Rk n as (U ++ [x]) i * fct (as.length - i) * dl i (fun w => φ (w + 1) - φ w) 0 else 0).sum) := sm_congr fun i hi => by
        rw [Rk, Int.add_mul, Int.add_mul]
        congr 1
        rw [Nat.add_sub_add_right, ← ls_mulR, ← ls_mulR]
        refine ls_congr fun x _ => ?_
        by_cases g : x ≤ a
        · rw [if_pos g, if_pos g]; rfl
        · rw [if_neg g, if_neg g, Int.zero_mul, Int.zero_mul]
      rw [e1, sm_add, sm_ls]
      congr 1
      refine ls_congr fun x hx => ?_
      by_cases g : x ≤ a
      · simp only [if_pos g]; exact ih x hx _
      · simp only [if_neg g]; exact sm_zero _ fun _ _ => rfl
    rw [eB, Rk_zero]
    rw [sm_front, Rk_zero] at eA
    have e3 : Fk n (a :: as) U φ = ((frees n U).map fun x => Fk n as (U ++ [x]) φ).sum + ((frees n U).map fun x => if x ≤ a then Fk n as (U ++ [x]) (fun w => φ (w + 1) - φ w) else 0).sum := by
      rw [Fk, ← ls_add]
      refine ls_congr fun x _ => ?_
      by_cases g : x ≤ a
      · rw [if_pos g, if_pos g, Fk_sub (φ := fun w => φ (w + 1))]; omega
      · rw [if_neg g, if_neg g]; omega
    rw [e3, ← eA]
    omega
theorem Fk_nonneg {n : Nat} : ∀ {as U : List Int} {φ : Nat → Int}, (∀ w, 0 ≤ φ w) → 0 ≤ Fk n as U φ
  | [], _, _, h => h 0
  | a :: as, U, φ, h => by
    rw [Fk]
    refine ls_nonneg fun x _ => Fk_nonneg fun w => ?_
    split
    · exact h _
    · exact h _
theorem fct_pos : ∀ k, 1 ≤ fct k
  | 0 => by decide
  | k + 1 => by
    have := fct_pos k
    rw [fct]
    have h : (1 : Int) * 1 ≤ ((k : Int) + 1) * fct k := Int.mul_le_mul (by omega) this (by omega) (by omega)
    omega
theorem Fk_le {n : Nat} {M : Int} : ∀ {as U : List Int} {φ : Nat → Int}, (frees n U).length = as.length → (∀ w, w ≤ as.length → φ w ≤ M) → Fk n as U φ ≤ fct as.length * M
  | [], _, _, _, h => by have := h 0 (Nat.le_refl _); show _ ≤ (1 : Int) * M; rw [Fk]; omega
  | a :: as, U, φ, hl, h => by
    rw [List.length_cons] at hl h
    rw [Fk, List.length_cons, fct, Int.mul_assoc]
    have := ls_le (l := frees n U) (f := fun x => Fk n as (U ++ [x]) (if x ≤ a then fun w => φ (w + 1) else φ)) (M := fct as.length * M) fun x hx => Fk_le (by have := frees_len1 hx; omega) fun w hw => by
      split
      · exact h _ (by omega)
      · exact h _ (by omega)
    rw [hl] at this
    exact this
end Tr
end
section
set_option Elab.async false
set_option linter.all false
set_option maxRecDepth 100000
set_option maxHeartbeats 4000000
namespace Tr
/-! ### lists by place -/
theorem gd_lt {α : Type} {l : List α} {i : Nat} {d : α} (h : i < l.length) : l.getD i d = l[i] := by
  rw [List.getD_eq_getElem?_getD, List.getElem?_eq_getElem h, Option.getD_some]
theorem gd_ge {α : Type} {l : List α} {i : Nat} {d : α} (h : l.length ≤ i) : l.getD i d = d := by
  rw [List.getD_eq_getElem?_getD, List.getElem?_eq_none h, Option.getD_none]
theorem gd_mem {α : Type} {l : List α} {i : Nat} {d : α} (h : i < l.length) : l.getD i d ∈ l := by
  rw [gd_lt h]; exact List.getElem_mem h
theorem gd_set {α : Type} {l : List α} {i j : Nat} {a d : α} (h : i < l.length) : (l.set i a).getD j d = if i = j then a else l.getD j d := by
  rw [List.getD_eq_getElem?_getD, List.getElem?_set]
  by_cases e : i = j
  · rw [if_pos e, if_pos e, if_pos h, Option.getD_some]
  · rw [if_neg e, if_neg e, List.getD_eq_getElem?_getD]
theorem gd_map {n i : Nat} {f : Nat → Int} (h : i < n) : ((List.range n).map f).getD i 0 = f i := by
  rw [List.getD_eq_getElem?_getD, List.getElem?_map, List.getElem?_range h]
  rfl
theorem gd_ext {l m : List Int} (hl : l.length = m.length) (h : ∀ i, i < l.length → l.getD i 0 = m.getD i 0) : l = m := by
  refine List.ext_getElem hl fun i h1 h2 => ?_
  rw [← gd_lt (d := 0) h1, ← gd_lt (d := 0) h2]
  exact h i h1
theorem gd_of_mem {l : List Int} {x : Int} (h : x ∈ l) : ∃ i, i < l.length ∧ l.getD i 0 = x := by
  obtain ⟨i, hi, e⟩ := List.getElem_of_mem h
  exact ⟨i, hi, by rw [gd_lt hi, e]⟩
theorem nd_of {l : List Int} (h : ∀ i j, i < l.length → j < l.length → l.getD i 0 = l.getD j 0 → i = j) : l.Nodup := by
  unfold List.Nodup
  rw [List.pairwise_iff_getElem]
  intro i j hi hj hij e
  have := h i j hi hj (by rw [gd_lt hi, gd_lt hj, e])
  omega
theorem nd_inj {l : List Int} (h : l.Nodup) {i j : Nat} (hi : i < l.length) (hj : j < l.length) (e : l.getD i 0 = l.getD j 0) : i = j := by
  rw [gd_lt hi, gd_lt hj] at e
  unfold List.Nodup at h
  rw [List.pairwise_iff_getElem] at h
  rcases Nat.lt_trichotomy i j with l | l | l
  · exact absurd e (h i j hi hj l)
  · exact l
  · exact absurd e.symm (h j i hj hi l)
theorem sum_set {l : List Int} : ∀ {i : Nat} {a : Int}, i < l.length → (l.set i a).sum = l.sum - l.getD i 0 + a := by
  induction l with
  | nil => intro i a h; simp at h
  | cons b l ih =>
    intro i a h
    cases i with
    | zero =>
      show a + l.sum = b + l.sum - b + a
      omega
    | succ i =>
      show b + (l.set i a).sum = b + l.sum - l.getD i 0 + a
      rw [ih (by simpa using h)]
      omega
/-! ### permutations -/
structure Pm (n : Nat) (l : List Int) : Prop where
  len : l.length = n
  nd : l.Nodup
  rg : ∀ x, x ∈ l → 0 ≤ x ∧ x < n
theorem Pm.vs {n : Nat} {l : List Int} (h : Pm n l) : VS n l := ⟨h.nd, h.rg⟩
theorem Pm.at {n : Nat} {l : List Int} (h : Pm n l) {p : Nat} (hp : p < n) : 0 ≤ l.getD p 0 ∧ l.getD p 0 < n := h.rg _ (gd_mem (by rw [h.len]; exact hp))
theorem Pm.tn {n : Nat} {l : List Int} (h : Pm n l) {p : Nat} (hp : p < n) : (l.getD p 0).toNat < n := by have := h.at hp; omega
theorem Pm.inj {n : Nat} {l : List Int} (h : Pm n l) {p o : Nat} (hp : p < n) (ho : o < n) (e : l.getD p 0 = l.getD o 0) : p = o := nd_inj h.nd (by rw [h.len]; exact hp) (by rw [h.len]; exact ho) e
theorem Pm.surj {n : Nat} {l : List Int} (h : Pm n l) {x : Int} (h0 : 0 ≤ x) (h1 : x < n) : ∃ p, p < n ∧ l.getD p 0 = x := by
  have e := frees_lenV h.vs
  rw [h.len] at e
  have e2 : frees n l = [] := List.eq_nil_of_length_eq_zero (by omega)
  have : x ∈ l := by
    refine Classical.byContradiction fun c => ?_
    have := frees_memI.mpr ⟨⟨h0, h1⟩, c⟩
    rw [e2] at this
    cases this
  obtain ⟨p, hp, e⟩ := gd_of_mem this
  exact ⟨p, by rw [h.len] at hp; exact hp, e⟩
theorem Pm.of {n : Nat} {l : List Int} (hl : l.length = n) (hr : ∀ p, p < n → 0 ≤ l.getD p 0 ∧ l.getD p 0 < n) (hi : ∀ p o, p < n → o < n → l.getD p 0 = l.getD o 0 → p = o) : Pm n l :=
  ⟨hl, nd_of fun i j h1 h2 e => hi i j (by omega) (by omega) e, fun x hx => by obtain ⟨p, hp, e⟩ := gd_of_mem hx; rw [← e]; exact hr p (by omega)⟩
theorem Pm.id (n : Nat) : Pm n ((List.range n).map fun (i : Nat) => (i : Int)) := Pm.of (by simp) (fun p hp => by rw [gd_map hp]; omega) (fun p o hp ho e => by rw [gd_map hp, gd_map ho] at e; omega)
theorem swap_get {l : List Int} {p o : Nat} {a b : Int} (hp : p < l.length) (ho : o < l.length) (k : Nat) : ((l.set p a).set o b).getD k 0 = if o = k then b else if p = k then a else l.getD k 0 := by
  rw [gd_set (by rw [List.length_set]; exact ho), gd_set hp]
theorem Pm.swap {n : Nat} {l : List Int} (h : Pm n l) {p o : Nat} (hp : p < n) (ho : o < n) (ne : p ≠ o) : Pm n ((l.set p (l.getD o 0)).set o (l.getD p 0)) := by
  have g := fun k => swap_get (a := l.getD o 0) (b := l.getD p 0) (by rw [h.len]; exact hp) (by rw [h.len]; exact ho) k
  refine Pm.of (by rw [List.length_set, List.length_set, h.len]) (fun k hk => ?_) (fun i j hi hj e => ?_)
  · rw [g]
    split
    · exact h.at hp
    · split
      · exact h.at ho
      · exact h.at hk
  · rw [g, g] at e
    split at e
    · split at e
      · omega
      · split at e
        · have := h.inj hp ho e; omega
        · have := h.inj hp hj e; omega
    · split at e
      · split at e
        · have := h.inj ho hp e; omega
        · split at e
          · omega
          · have := h.inj ho hj e; omega
      · split at e
        · have := h.inj hi hp e; omega
        · split at e
          · have := h.inj hi ho e; omega
          · exact h.inj hi hj e
theorem sitN_inv {n : Nat} {l : List Int} (h : Pm n l) : ∀ k, k ≤ n → ∀ p, p < k → (sitN l k).getD (l.getD p 0).toNat 0 = (p : Int)
  | 0, _, p, hp => by omega
  | k + 1, hk, p, hp => by
    have hz := h.at (by omega : k < n)
    have hq := h.at (by omega : p < n)
    rw [sitN, gd_set (by rw [sitN_len, h.len]; omega)]
    by_cases e : (l.getD k 0).toNat = (l.getD p 0).toNat
    · rw [if_pos e]
      have := h.inj (by omega : k < n) (by omega : p < n) (by omega)
      omega
    · rw [if_neg e]
      refine sitN_inv h k (by omega) p ?_
      have : p ≠ k := fun z => e (by rw [z])
      omega
theorem Pm.sit {n : Nat} {l : List Int} (h : Pm n l) {p : Nat} (hp : p < n) : (sit l).getD (l.getD p 0).toNat 0 = (p : Int) := by
  have := sitN_inv h n (Nat.le_refl _) p hp
  unfold Tr.sit
  rw [h.len]
  exact this
theorem Pm.sitAt {n : Nat} {l : List Int} (h : Pm n l) {x : Nat} (hx : x < n) : ∃ p, p < n ∧ l.getD p 0 = (x : Int) ∧ (Tr.sit l).getD x 0 = (p : Int) := by
  obtain ⟨p, hp, e⟩ := h.surj (x := (x : Int)) (by omega) (by omega)
  refine ⟨p, hp, e, ?_⟩
  have := h.sit hp
  rwa [e, Int.toNat_natCast] at this
theorem Pm.sitPm {n : Nat} {l : List Int} (h : Pm n l) : Pm n (Tr.sit l) := by
  refine Pm.of (by rw [sit_len, h.len]) (fun x hx => ?_) (fun x y hx hy e => ?_)
  · obtain ⟨p, hp, _, e⟩ := h.sitAt hx
    rw [e]; omega
  · obtain ⟨p, hp, e1, e2⟩ := h.sitAt hx
    obtain ⟨o, ho, e3, e4⟩ := h.sitAt hy
    rw [e2, e4] at e
    have : p = o := by omega
    subst this
    omega
/-! ### valid states -/
structure Vd (n : Nat) (s : S) : Prop where
  rg : Rg n s
  two : 2 ≤ n
  nd : s.1.Nodup
  nn : ∀ x, x ∈ s.2 → 0 ≤ x
theorem Vd.pm {n : Nat} {s : S} (h : Vd n s) : Pm n s.1 := ⟨h.rg.l1, h.nd, h.rg.rg⟩
theorem Vd.purse {n : Nat} {s : S} (h : Vd n s) (p : Nat) : 0 ≤ s.2.getD p 0 := by
  by_cases g : p < s.2.length
  · exact h.nn _ (gd_mem g)
  · rw [gd_ge (by omega)]; decide
theorem nn_of {l : List Int} (h : ∀ p, p < l.length → 0 ≤ l.getD p 0) : ∀ x, x ∈ l → 0 ≤ x := fun x hx => by
  obtain ⟨p, hp, e⟩ := gd_of_mem hx
  rw [← e]; exact h p hp
/-- who pays, who is paid -/
theorem Vd.pays {n : Nat} {s : S} (h : Vd n s) {x : Int} (h0 : 0 ≤ x) (h1 : x < n) : pay s x < n ∧ oth s x < n ∧ s.1.getD (pay s x) 0 = x ∧ s.1.getD (oth s x) 0 = (nx n x : Int) ∧ pay s x ≠ oth s x ∧ (nx n x : Int) ≠ x ∧ nx n x < n := by
  have hn := h.two
  have q0 := Int.emod_nonneg (x + 1) (b := (n : Int)) (by omega)
  have q1 := Int.emod_lt_of_pos (x + 1) (b := (n : Int)) (by omega)
  obtain ⟨p, hp, e1, e2⟩ := h.pm.sitAt (x := x.toNat) (by omega)
  obtain ⟨o, ho, e3, e4⟩ := h.pm.sitAt (x := nx n x) (by unfold nx; omega)
  have ep : pay s x = p := by unfold pay; rw [e2]; rfl
  have eo : oth s x = o := by
    unfold oth
    rw [h.rg.l1, show ((x + 1) % (n : Int)).toNat = nx n x from rfl, e4]; rfl
  have ne : (nx n x : Int) ≠ x := by
    unfold nx
    rw [Int.toNat_of_nonneg q0]
    by_cases g : x + 1 < n
    · rw [Int.emod_eq_of_lt (by omega) g]; omega
    · have : x + 1 = n := by omega
      rw [this, Int.emod_self]; omega
  rw [ep, eo]
  refine ⟨hp, ho, by rw [e1]; omega, e3, fun z => ?_, ne, by unfold nx; omega⟩
  subst z
  rw [e1] at e3
  omega
theorem swp1 {n : Nat} {s : S} (h : Rg n s) {p o : Nat} (hp : p < n) (ho : o < n) (k : Nat) : (swp s p o).1.getD k 0 = if o = k then s.1.getD p 0 else if p = k then s.1.getD o 0 else s.1.getD k 0 :=
  swap_get (by rw [h.l1]; exact hp) (by rw [h.l1]; exact ho) k
theorem swp2 {n : Nat} {s : S} (h : Rg n s) {p o : Nat} (hp : p < n) (ho : o < n) (ne : p ≠ o) (k : Nat) : (swp s p o).2.getD k 0 = if o = k then s.2.getD o 0 + 1 else if p = k then s.2.getD p 0 - 1 else s.2.getD k 0 := by
  have := swap_get (l := s.2) (a := s.2.getD p 0 - 1) (b := (s.2.set p (s.2.getD p 0 - 1)).getD o 0 + 1) (by rw [h.l2]; exact hp) (by rw [h.l2]; exact ho) k
  unfold swp
  rw [this, gd_set (by rw [h.l2]; exact hp), if_neg ne]
theorem swp_sum {n : Nat} {s : S} (h : Rg n s) {p o : Nat} (hp : p < n) (ho : o < n) (ne : p ≠ o) : (swp s p o).2.sum = s.2.sum := by
  unfold swp
  show ((s.2.set p (s.2.getD p 0 - 1)).set o _).sum = _
  rw [sum_set (by rw [List.length_set, h.l2]; exact ho), sum_set (by rw [h.l2]; exact hp)]
  omega
theorem swp_vd {n : Nat} {s : S} (h : Vd n s) {p o : Nat} (hp : p < n) (ho : o < n) (ne : p ≠ o) (c : 1 ≤ s.2.getD p 0) : Vd n (swp s p o) where
  rg := swp_rg h.rg hp ho
  two := h.two
  nd := (h.pm.swap hp ho ne).nd
  nn := nn_of fun k hk => by
    rw [swp2 h.rg hp ho ne]
    have := h.purse o
    have := h.purse k
    split
    · omega
    · split <;> omega
theorem exq_no {n : Nat} {s : S} (h : Vd n s) {x : Int} (h0 : 0 ≤ x) (h1 : x < n) (c : s.2.getD (pay s x) 0 = 0) : exq s x = .error (.one 3 (.int (pay s x))) := by
  unfold exq
  rw [if_pos ⟨h0, by rw [h.rg.l1]; exact h1⟩, if_pos c]
theorem exq_yes {n : Nat} {s : S} (h : Vd n s) {x : Int} (h0 : 0 ≤ x) (h1 : x < n) (c : s.2.getD (pay s x) 0 ≠ 0) : exq s x = .ok (swp s (pay s x) (oth s x)) := by
  unfold exq
  rw [if_pos ⟨h0, by rw [h.rg.l1]; exact h1⟩, if_neg c]
theorem exq_inv {n : Nat} {s t : S} (h : Vd n s) {x : Int} (e : exq s x = .ok t) : 0 ≤ x ∧ x < n ∧ s.2.getD (pay s x) 0 ≠ 0 ∧ t = swp s (pay s x) (oth s x) := by
  unfold exq at e
  split at e
  · rename_i c
    rw [h.rg.l1] at c
    split at e
    · cases e
    · rename_i c2
      exact ⟨c.1, c.2, c2, by cases e; rfl⟩
  · cases e
theorem exq_vd {n : Nat} {s t : S} (h : Vd n s) {x : Int} (e : exq s x = .ok t) : Vd n t ∧ t.2.sum = s.2.sum := by
  obtain ⟨h0, h1, c, rfl⟩ := exq_inv h e
  obtain ⟨hp, ho, _, _, ne, _⟩ := h.pays h0 h1
  have := h.purse (pay s x)
  exact ⟨swp_vd h hp ho ne (by omega), swp_sum h.rg hp ho ne⟩
theorem runq_vd {n : Nat} : ∀ {row : List Int} {s t : S}, Vd n s → runq s row = .ok t → Vd n t ∧ t.2.sum = s.2.sum
  | [], s, t, h, e => by cases e; exact ⟨h, rfl⟩
  | x :: row, s, t, h, e => by
    obtain ⟨s2, e1, e2⟩ : ∃ s2, exq s x = .ok s2 ∧ runq s2 row = .ok t := by
      rw [runq_cons] at e
      split at e
      · rename_i u eu; exact ⟨u, eu, e⟩
      · cases e
    obtain ⟨h2, f2⟩ := exq_vd h e1
    obtain ⟨h3, f3⟩ := runq_vd h2 e2
    exact ⟨h3, f3.trans f2⟩
theorem runq_snoc {x : Int} : ∀ {r : List Int} {s : S}, runq s (r ++ [x]) = match runq s r with
    | .ok t => exq t x
    | .error e => .error e
  | [], s => by
    show runq s [x] = exq s x
    rw [runq_cons]
    cases exq s x <;> rfl
  | y :: r, s => by
    rw [List.cons_append, runq_cons, runq_cons]
    cases exq s y with
    | ok t => exact runq_snoc
    | error e => rfl
end Tr
end
section
set_option Elab.async false
set_option linter.all false
set_option maxRecDepth 100000
set_option maxHeartbeats 4000000
namespace Tr
/-! ### a pass is a run -/
/-- a payment that can't be made -/
def badl (c : Int) (l : List (Int × Int)) : Prop := ∃ l1 e l2, l = l1 ++ e :: l2 ∧ e.2 < 0 ∧ c + (l1.map (·.2)).sum < 1
theorem badl_app {c : Int} {l m : List (Int × Int)} (h : badl c l) : badl c (l ++ m) := by
  obtain ⟨l1, e, l2, rfl, h1, h2⟩ := h
  exact ⟨l1, e, l2 ++ m, by simp, h1, h2⟩
theorem badl_snoc {c : Int} {l : List (Int × Int)} {e : Int × Int} (h : badl c (l ++ [e])) : badl c l ∨ (e.2 < 0 ∧ c + (l.map (·.2)).sum < 1) := by
  obtain ⟨l1, f, l2, he, h1, h2⟩ := h
  rcases List.eq_nil_or_concat l2 with rfl | ⟨l3, g, rfl⟩
  · have := List.append_inj' (s₁ := l) (t₁ := [e]) (s₂ := l1) (t₂ := [f]) he rfl
    obtain ⟨rfl, e2⟩ := this
    cases e2
    exact .inr ⟨h1, h2⟩
  · have he2 : l ++ [e] = (l1 ++ f :: l3) ++ [g] := by rw [he]; simp
    have := List.append_inj' he2 rfl
    exact .inl ⟨l1, f, l3, this.1, h1, h2⟩
theorem badl_last {c : Int} {l : List (Int × Int)} {e : Int × Int} (h1 : e.2 < 0) (h2 : c + (l.map (·.2)).sum < 1) : badl c (l ++ [e]) := ⟨l, e, [], rfl, h1, h2⟩
theorem badl_nil {c : Int} : ¬ badl c [] := by
  rintro ⟨l1, e, l2, h, _⟩
  simp at h
/-- all its payments are made -/
theorem badl_end {c : Int} (h0 : 0 ≤ c) : ∀ {l : List (Int × Int)}, (∀ e, e ∈ l → -1 ≤ e.2) → ¬ badl c l → 0 ≤ c + (l.map (·.2)).sum := by
  intro l
  generalize hn : l.length = n
  induction n generalizing l with
  | zero => intro _ _; rw [List.eq_nil_of_length_eq_zero hn]; simpa using h0
  | succ n ih =>
    intro hb hc
    rcases List.eq_nil_or_concat l with rfl | ⟨l1, e, rfl⟩
    · simpa using h0
    · simp only [List.concat_eq_append] at *
      rw [List.length_append, List.length_singleton] at hn
      have h1 := ih (l := l1) (by omega) (fun f hf => hb f (by simp [hf])) (fun z => hc (badl_app z))
      have h2 := hb e (by simp)
      rw [List.map_append, sum_app]
      simp only [List.map_cons, List.map_nil, List.sum_cons, List.sum_nil]
      by_cases g : e.2 < 0 ∧ c + (l1.map (·.2)).sum < 1
      · exact absurd (badl_last g.1 g.2) hc
      · omega
abbrev pof (n : Nat) (row : List Int) (i : Nat) (q : Int) : List (Int × Int) := (flN n row i).2.getD q.toNat []
theorem gsum_pof {n : Nat} {row : List Int} {i : Nat} {q : Int} : gsum (flN n row i).2 q = ((pof n row i q).map (·.2)).sum := rfl
theorem gdP_set {l : Pays} {i j : Nat} {a : List (Int × Int)} (h : i < l.length) : (l.set i a).getD j [] = if i = j then a else l.getD j [] := gd_set h
theorem flN_pm2 {n : Nat} {row : List Int} (hn : 2 ≤ n) (hr : ∀ x, x ∈ row → 0 ≤ x ∧ x < n) : ∀ i, i ≤ row.length → Pm n (flN n row i).1
  | 0, _ => Pm.id n
  | i + 1, hi => by
    have ih := flN_pm2 hn hr i (by omega)
    obtain ⟨h0, h1⟩ := hr (row.getD i 0) (gd_mem (by omega))
    have e1 := ih.at (p := (row.getD i 0).toNat) (by omega)
    have hx := nx_lt (n := n) (by omega) (row.getD i 0)
    have e2 := ih.at hx
    have ne : (row.getD i 0).toNat ≠ nx n (row.getD i 0) := by
      unfold nx
      have q0 := Int.emod_nonneg (row.getD i 0 + 1) (b := (n : Int)) (by omega)
      intro z
      by_cases g : row.getD i 0 + 1 < n
      · rw [Int.emod_eq_of_lt (by omega) g] at z; omega
      · rw [show row.getD i 0 + 1 = (n : Int) by omega, Int.emod_self] at z; omega
    have := ih.swap (p := (row.getD i 0).toNat) (by omega) hx ne
    rw [flN]
    show Pm n (((flN n row i).1.set _ (((((flN n row i).1.getD (nx n (row.getD i 0)) 0).toNat : Nat) : Int))).set _ (((((flN n row i).1.getD (row.getD i 0).toNat 0).toNat : Nat) : Int)))
    rw [Int.toNat_of_nonneg e1.1, Int.toNat_of_nonneg e2.1]
    exact this
/-- s is the state before the pass, t the one behind i exchanges -/
structure Sim (n : Nat) (row : List Int) (s : S) (i : Nat) (t : S) : Prop where
  vd : Vd n t
  ppl : ∀ p, p < n → (flN n row i).1.getD (t.1.getD p 0).toNat 0 = s.1.getD p 0
  prs : ∀ p, p < n → t.2.getD p 0 = s.2.getD p 0 + ((pof n row i (s.1.getD p 0)).map (·.2)).sum
def NoBad (n : Nat) (row : List Int) (s : S) (i : Nat) : Prop := ∀ p, p < n → ¬ badl (s.2.getD p 0) (pof n row i (s.1.getD p 0))
theorem take_snoc {row : List Int} {i : Nat} (h : i < row.length) : row.take (i + 1) = row.take i ++ [row.getD i 0] := by
  rw [List.take_add_one, gd_lt h, List.getElem?_eq_getElem h]; rfl
theorem pof0 {n : Nat} {row : List Int} {q : Int} (h0 : 0 ≤ q) (h1 : q < n) : pof n row 0 q = [] := by
  show (List.replicate n ([] : List (Int × Int))).getD q.toNat [] = []
  rw [gd_lt (by rw [List.length_replicate]; omega), List.getElem_replicate]
theorem sim_at {n : Nat} {row : List Int} {s : S} (hv : Vd n s) (hr : ∀ x, x ∈ row → 0 ≤ x ∧ x < n) : ∀ i, i ≤ row.length →
    (∃ t, runq s (row.take i) = .ok t ∧ Sim n row s i t ∧ NoBad n row s i) ∨ ((∃ e, runq s (row.take i) = .error e) ∧ ¬ NoBad n row s i)
  | 0, _ => by
    refine .inl ⟨s, rfl, ⟨hv, fun p hp => ?_, fun p hp => ?_⟩, fun p hp => ?_⟩
    · have := hv.pm.at hp
      show ((List.range n).map fun (i : Nat) => (i : Int)).getD _ 0 = _
      rw [gd_map (by omega)]; omega
    · rw [pof0 (hv.pm.at hp).1 (hv.pm.at hp).2]; simp
    · rw [pof0 (hv.pm.at hp).1 (hv.pm.at hp).2]; exact badl_nil
  | i + 1, hi => by
    have hlen := flN_len n row i
    have pe := flN_pm2 hv.two hr i (by omega)
    obtain ⟨h0, h1⟩ := hr (row.getD i 0) (gd_mem (by omega))
    have hnx := nx_lt (n := n) (by have := hv.two; omega) (row.getD i 0)
    rw [take_snoc (by omega)]
    simp only [runq_snoc]
    -- the payments of a turn
    have pg : ∀ q : Int, pof n row (i + 1) q = (app (app (flN n row i).2 ((flN n row i).1.getD (row.getD i 0).toNat 0).toNat (((i : Nat) : Int), (-1 : Int))) ((flN n row i).1.getD (nx n (row.getD i 0)) 0).toNat (((i : Nat) : Int), (1 : Int))).getD q.toNat [] := fun q => rfl
    have pp := pe.tn (p := (row.getD i 0).toNat) (by omega)
    have po := pe.tn hnx
    have pq : ∀ q : Nat, q < n → ∃ m, (app (app (flN n row i).2 ((flN n row i).1.getD (row.getD i 0).toNat 0).toNat (((i : Nat) : Int), (-1 : Int))) ((flN n row i).1.getD (nx n (row.getD i 0)) 0).toNat (((i : Nat) : Int), (1 : Int))).getD q [] = (flN n row i).2.getD q [] ++ m := fun q hq => by
      unfold app
      rw [gdP_set (by rw [List.length_set, hlen.2]; exact po), gdP_set (by rw [hlen.2]; exact pp), gdP_set (by rw [hlen.2]; exact pp)]
      by_cases g1 : ((flN n row i).1.getD (nx n (row.getD i 0)) 0).toNat = q
      · rw [if_pos g1]
        by_cases g2 : ((flN n row i).1.getD (row.getD i 0).toNat 0).toNat = ((flN n row i).1.getD (nx n (row.getD i 0)) 0).toNat
        · rw [if_pos g2, g2, g1, List.append_assoc]; exact ⟨_, rfl⟩
        · rw [if_neg g2, g1]; exact ⟨_, rfl⟩
      · rw [if_neg g1]
        by_cases g2 : ((flN n row i).1.getD (row.getD i 0).toNat 0).toNat = q
        · rw [if_pos g2, g2]; exact ⟨_, rfl⟩
        · rw [if_neg g2]; exact ⟨[], by simp⟩
    rcases sim_at hv hr i (by omega) with ⟨t, hrun, hs, hb⟩ | ⟨⟨e, he⟩, hb⟩
    · rw [hrun]
      obtain ⟨hp, ho, e1, e2, ne, nx1, nx2⟩ := hs.vd.pays h0 h1
      generalize hP : pay t (row.getD i 0) = p at *
      generalize hO : oth t (row.getD i 0) = o at *
      have q1 := hs.ppl p hp
      rw [e1] at q1
      have q2 := hs.ppl o ho
      rw [e2, Int.toNat_natCast] at q2
      rw [q1, q2] at pg
      rw [q1] at pp
      rw [q2] at po
      have sne : (s.1.getD p 0).toNat ≠ (s.1.getD o 0).toNat := fun z => ne (hv.pm.inj hp ho (by have := hv.pm.at hp; have := hv.pm.at ho; omega))
      have pg2 : ∀ k, k < n → pof n row (i + 1) (s.1.getD k 0) = if o = k then pof n row i (s.1.getD k 0) ++ [(((i : Nat) : Int), (1 : Int))] else if p = k then pof n row i (s.1.getD k 0) ++ [(((i : Nat) : Int), (-1 : Int))] else pof n row i (s.1.getD k 0) := fun k hk => by
        rw [pg]
        unfold app
        rw [gdP_set (by rw [List.length_set, hlen.2]; exact po), gdP_set (by rw [hlen.2]; exact pp), gdP_set (by rw [hlen.2]; exact pp), if_neg sne]
        by_cases g1 : o = k
        · rw [if_pos g1, if_pos (by rw [g1]), g1]
        · have : (s.1.getD o 0).toNat ≠ (s.1.getD k 0).toNat := fun z => g1 (hv.pm.inj ho hk (by have := hv.pm.at hk; have := hv.pm.at ho; omega))
          rw [if_neg g1, if_neg this]
          by_cases g2 : p = k
          · rw [if_pos g2, if_pos (by rw [g2]), g2]
          · have : (s.1.getD p 0).toNat ≠ (s.1.getD k 0).toNat := fun z => g2 (hv.pm.inj hp hk (by have := hv.pm.at hk; have := hv.pm.at hp; omega))
            rw [if_neg g2, if_neg this]
      have hpp := hs.prs p hp
      by_cases c : t.2.getD p 0 = 0
      · refine .inr ⟨⟨_, exq_no hs.vd h0 h1 (by rw [hP]; exact c)⟩, fun nb => nb p hp ?_⟩
        rw [pg2 p hp, if_neg (fun z => ne z.symm), if_pos rfl]
        exact badl_last (show (-1 : Int) < 0 by decide) (by omega)
      · have cp := hs.vd.purse p
        refine .inl ⟨swp t p o, ?_, ⟨swp_vd hs.vd hp ho ne (by omega), fun k hk => ?_, fun k hk => ?_⟩, fun k hk hbad => ?_⟩
        · have := exq_yes hs.vd h0 h1 (by rw [hP]; exact c)
          rw [hP, hO] at this
          exact this
        · rw [flN, swp1 hs.vd.rg hp ho]
          show (((flN n row i).1.set _ (((((flN n row i).1.getD (nx n (row.getD i 0)) 0).toNat : Nat) : Int))).set _ (((((flN n row i).1.getD (row.getD i 0).toNat 0).toNat : Nat) : Int))).getD _ 0 = _
          rw [q1, q2, Int.toNat_of_nonneg (hv.pm.at hp).1, Int.toNat_of_nonneg (hv.pm.at ho).1, swap_get (by rw [hlen.1]; omega) (by rw [hlen.1]; omega), e1, e2]
          by_cases g1 : o = k
          · subst g1
            rw [if_pos rfl, if_neg (by omega), if_pos rfl]
          · rw [if_neg g1]
            by_cases g2 : p = k
            · subst g2
              rw [if_pos rfl, Int.toNat_natCast, if_pos rfl]
            · rw [if_neg g2]
              have a1 := hs.vd.pm.at hk
              have z1 : nx n (row.getD i 0) ≠ (t.1.getD k 0).toNat := fun z => g1 (hs.vd.pm.inj ho hk (by rw [e2]; omega))
              have z2 : (row.getD i 0).toNat ≠ (t.1.getD k 0).toNat := fun z => g2 (hs.vd.pm.inj hp hk (by rw [e1]; omega))
              rw [if_neg z1, if_neg z2]
              exact hs.ppl k hk
        · rw [swp2 hs.vd.rg hp ho ne, pg2 k hk]
          have hk2 := hs.prs k hk
          by_cases g1 : o = k
          · subst g1
            rw [if_pos rfl, if_pos rfl, List.map_append, sum_app]
            show _ = _ + (_ + 1)
            omega
          · rw [if_neg g1, if_neg g1]
            by_cases g2 : p = k
            · subst g2
              rw [if_pos rfl, if_pos rfl, List.map_append, sum_app]
              show _ = _ + (_ + (-1))
              omega
            · rw [if_neg g2, if_neg g2]; exact hk2
        · rw [pg2 k hk] at hbad
          have hk2 := hs.prs k hk
          by_cases g1 : o = k
          · rw [if_pos g1] at hbad
            rcases badl_snoc hbad with z | z
            · exact hb k hk z
            · exact absurd z.1 (show ¬ (1 : Int) < 0 by decide)
          · rw [if_neg g1] at hbad
            by_cases g2 : p = k
            · rw [if_pos g2] at hbad
              subst g2
              rcases badl_snoc hbad with z | z
              · exact hb p hk z
              · have := z.2; omega
            · rw [if_neg g2] at hbad
              exact hb k hk hbad
    · rw [he]
      refine .inr ⟨⟨e, rfl⟩, fun nb => hb fun p hp hbad => nb p hp ?_⟩
      obtain ⟨m, hm⟩ := pq (s.1.getD p 0).toNat (hv.pm.tn hp)
      rw [pg, hm]
      exact badl_app hbad
/-! ### going round -/
theorem itr_succ {e : List Int} {q : Int} {j : Nat} : itr e q (j + 1) = e.getD (itr e q j).toNat 0 := rfl
theorem itr_add {e : List Int} {q : Int} (a : Nat) : ∀ b, itr e q (a + b) = itr e (itr e q a) b
  | 0 => rfl
  | b + 1 => by rw [← Nat.add_assoc, itr_succ, itr_add a b, ← itr_succ]
theorem itr_rgP {n : Nat} {e : List Int} (h : Pm n e) {q : Int} (h0 : 0 ≤ q) (h1 : q < n) (j : Nat) : 0 ≤ itr e q j ∧ itr e q j < n := itr_rg h.len h.rg h0 h1 j
theorem itr_inj {n : Nat} {e : List Int} (h : Pm n e) {q : Int} (h0 : 0 ≤ q) (h1 : q < n) : ∀ {i j : Nat}, itr e q i = itr e q (i + j) → itr e q j = q
  | 0, j, z => by rw [Nat.zero_add] at z; exact z.symm
  | i + 1, j, z => by
    rw [show i + 1 + j = i + j + 1 by omega, itr_succ, itr_succ] at z
    have a := itr_rgP h h0 h1 i
    have b := itr_rgP h h0 h1 (i + j)
    have := h.inj (p := (itr e q i).toNat) (o := (itr e q (i + j)).toNat) (by omega) (by omega) z
    exact itr_inj h h0 h1 (by omega : itr e q i = itr e q (i + j))
theorem per_of {n : Nat} {e : List Int} (hn : n ≤ 16) (h : Pm n e) {q : Int} (h0 : 0 ≤ q) (h1 : q < n) : Per e q := by
  refine Classical.byContradiction fun c => ?_
  have nd : ((List.range (n + 1)).map (itr e q)).Nodup := nd_of fun i j hi hj z => by
    rw [List.length_map, List.length_range] at hi hj
    rw [gd_map hi, gd_map hj] at z
    refine Classical.byContradiction fun ne => c ?_
    rcases Nat.lt_or_ge i j with l | l
    · obtain ⟨d, rfl⟩ : ∃ d, j = i + (d + 1) := ⟨j - i - 1, by omega⟩
      exact ⟨d, by omega, itr_inj h h0 h1 z⟩
    · obtain ⟨d, rfl⟩ : ∃ d, i = j + (d + 1) := ⟨i - j - 1, by omega⟩
      exact ⟨d, by omega, itr_inj h h0 h1 z.symm⟩
  have := sub_len nd (sq_nd n) fun x hx => by
    obtain ⟨i, _, rfl⟩ := List.mem_map.mp hx
    exact sq_mem.mpr (itr_rgP h h0 h1 i)
  rw [sq_len, List.length_map, List.length_range] at this
  omega
theorem endsPm {n : Nat} {row : List Int} (hn : 2 ≤ n) (hr : ∀ x, x ∈ row → 0 ≤ x ∧ x < n) : Pm n (endsOf n row) := (flN_pm2 hn hr row.length (Nat.le_refl _)).sitPm
end Tr
end
section
set_option Elab.async false
set_option linter.all false
set_option maxRecDepth 100000
set_option maxHeartbeats 4000000
namespace Tr
/-! ### binomials -/
def bn : Nat → Nat → Nat
  | _, 0 => 1
  | 0, _ + 1 => 0
  | m + 1, k + 1 => bn m k + bn m (k + 1)
theorem bn_pos : ∀ {m k : Nat}, k ≤ m → 1 ≤ bn m k
  | m, 0, _ => by unfold bn; cases m <;> exact Nat.le_refl _
  | 0, k + 1, h => by omega
  | m + 1, k + 1, h => by
    have := bn_pos (m := m) (k := k) (by omega)
    rw [bn]; omega
theorem bn_zero {m : Nat} : bn m 0 = 1 := by cases m <;> rfl
theorem bn_step : ∀ (m k : Nat), (bn m (k + 1) : Int) * (k + 1) = bn m k * ((m : Int) - k)
  | 0, 0 => by rw [bn, bn]; simp
  | 0, k + 1 => by rw [bn, bn]; simp
  | m + 1, 0 => by
    have := bn_step m 0
    have e : bn (m + 1) (0 + 1) = bn m 0 + bn m (0 + 1) := rfl
    rw [e, bn_zero, bn_zero]
    rw [bn_zero] at this
    omega
  | m + 1, k + 1 => by
    have h1 := bn_step m k
    have h2 := bn_step m (k + 1)
    rw [bn, bn]
    have e1 : ((bn m k + bn m (k + 1) : Nat) : Int) = bn m k + bn m (k + 1) := by omega
    have e2 : ((bn m (k + 1) + bn m (k + 1 + 1) : Nat) : Int) = bn m (k + 1) + bn m (k + 1 + 1) := by omega
    rw [e1, e2, Int.add_mul, h2]
    have e3 : ((m + 1 : Nat) : Int) - ((k + 1 : Nat) : Int) = (m : Int) - k := by omega
    rw [e3, Int.add_mul, ← h1]
    have e4 : ((k + 1 : Nat) : Int) = (k : Int) + 1 := by omega
    rw [e4, Int.mul_add, Int.mul_add, Int.mul_one, Int.mul_sub, Int.mul_sub, Int.mul_add, Int.mul_one]
    omega
theorem chL_bn (m : Nat) : ∀ t, chL m t = bn m t
  | 0 => by rw [chL, bn_zero]; rfl
  | t + 1 => by
    rw [chL, chL_bn m t, ← bn_step, Int.mul_ediv_cancel _ (by omega)]
theorem ch_pos {m k : Int} (h0 : 0 ≤ k) (h : k ≤ m) : 1 ≤ ch m k := by
  unfold ch
  rw [if_neg (by omega)]
  obtain ⟨a, rfl⟩ : ∃ a : Nat, m = a := ⟨m.toNat, by omega⟩
  rw [chL_bn]
  have := bn_pos (m := a) (k := k.toNat) (by omega)
  omega
theorem ch_nonneg {m k : Int} (h0 : 0 ≤ k) : 0 ≤ ch m k := by
  by_cases h : k ≤ m
  · have := ch_pos h0 h; omega
  · unfold ch
    rw [if_pos (by omega)]
    exact Int.le_refl _
/-! ### ways_with is the sum over what follows -/
theorem oths_eq (n : Nat) (t : List Int) : oths n t = ((List.range n).filter fun i => decide (t.length ≤ i)).map fun (i : Nat) => (i : Int) := by
  unfold oths pickI
  congr 1
  refine List.filter_congr fun i _ => ?_
  by_cases h : t.length ≤ i
  · rw [List.getElem?_eq_none h, decide_eq_true h]; rfl
  · rw [List.getElem?_eq_getElem (by omega), decide_eq_false h]; rfl
theorem range_ge (n : Nat) : ∀ k, k ≤ n → (List.range n).filter (fun i => decide (k ≤ i)) = (List.range (n - k)).map (fun i => k + i) := by
  induction n with
  | zero => intro k hk; obtain rfl : k = 0 := by omega
            rfl
  | succ n ih =>
    intro k hk
    rw [List.range_succ, List.filter_append]
    by_cases h : k ≤ n
    · rw [ih k h, show n + 1 - k = (n - k) + 1 by omega, List.range_succ, List.map_append]
      congr 1
      rw [List.filter_cons, if_pos (decide_eq_true h)]
      simp; omega
    · have : k = n + 1 := by omega
      subst this
      rw [Nat.sub_self]
      simp
      intro a ha; omega
theorem oths_lenE {n : Nat} {t : List Int} (h : t.length ≤ n) : (oths n t).length = n - t.length := by
  rw [oths_eq, range_ge n _ h, List.length_map, List.length_map, List.length_range]
theorem oths_at {n : Nat} {t : List Int} (h : t.length ≤ n) {j : Nat} (hj : j < n - t.length) : ((oths n t).getD j 0).toNat = t.length + j := by
  rw [oths_eq, range_ge n _ h, List.map_map, gd_map hj]
  simp only [Function.comp]
  omega
theorem steps_map {r t : List Int} {n : Nat} (hr : r.length = n) (h : t.length ≤ n) : steps r t = srt ((r.drop t.length).map (cntf n t)) := by
  unfold steps
  rw [hr, oths_lenE h]
  congr 1
  refine gd_ext ?_ fun j hj => ?_
  · rw [List.length_map, List.length_map, List.length_range, List.length_drop, hr]
  · rw [List.length_map, List.length_range] at hj
    have e1 : r.getD (t.length + j) 0 = r[t.length + j]'(by omega) := gd_lt (by omega)
    rw [gd_map hj, oths_at h hj, e1, gd_lt (by rw [List.length_map, List.length_drop, hr]; exact hj), List.getElem_map, List.getElem_drop]
    rfl
theorem cntf_mono {n : Nat} {t : List Int} {a b : Int} (h : a ≤ b) : cntf n t a ≤ cntf n t b := by
  unfold cntf
  have : ((frees n t).filter fun s => decide (s ≤ a)).length ≤ ((frees n t).filter fun s => decide (s ≤ b)).length := by
    have e : ((frees n t).filter fun s => decide (s ≤ a)) = (((frees n t).filter fun s => decide (s ≤ b)).filter fun s => decide (s ≤ a)) := by
      rw [List.filter_filter]
      refine List.filter_congr fun x _ => ?_
      by_cases g : x ≤ a
      · rw [decide_eq_true g, decide_eq_true (Int.le_trans g h)]; rfl
      · rw [decide_eq_false g]; rfl
    rw [e]
    exact List.length_filter_le _ _
  omega
/-- the numbers of seatings are those of the weights -/
theorem sg_Fk {r t : List Int} {n : Nat} (hr : r.length = n) (hv : VS n t) (h : t.length ≤ n) (φ : Nat → Int) : dt (sg (steps r t)) φ = Fk n (r.drop t.length) t φ := by
  have hs : steps r t = (srt (r.drop t.length)).map (cntf n t) := by
    rw [steps_map hr h]
    refine (srt_eq ((srt_perm _).map _) ?_).symm
    exact List.pairwise_map.mpr ((srt_pw _).imp fun h => cntf_mono h)
  have hl : (steps r t).length = (r.drop t.length).length := by rw [hs, List.length_map, (srt_perm _).length_eq]
  rw [dt_sg, hl, ← Rk_Fk]
  · refine sm_congr fun m _ => ?_
    rw [pl_dpf, Rk_perm (srt_perm (r.drop t.length)).symm, hs]
    have := Rk_dpf (n := n) (t := t) (as := srt (r.drop t.length)) (V := []) (m := m) (srt_pw _) List.nodup_nil (by simp)
    rw [List.append_nil] at this
    rw [this]
    rfl
  · have := frees_lenV hv
    rw [List.length_drop, hr]
    omega
theorem sg_nn {r t : List Int} {n : Nat} (hr : r.length = n) (hv : VS n t) (h : t.length ≤ n) (i : Nat) : 0 ≤ (sg (steps r t)).getD i 0 := by
  by_cases hi : i < (sg (steps r t)).length
  · have e : dt (sg (steps r t)) (fun w => if w = i then 1 else 0) = (sg (steps r t)).getD i 0 := by
      unfold dt
      generalize (sg (steps r t)) = l at *
      have : ∀ m, sm m (fun j => l.getD j 0 * if j = i then 1 else 0) = if i < m then l.getD i 0 else 0 := fun m => by
        induction m with
        | zero => rfl
        | succ m ih =>
          rw [sm, ih]
          by_cases g : m = i
          · subst g; rw [if_neg (by omega), if_pos rfl, if_pos (by omega)]; omega
          · rw [if_neg g]
            by_cases g2 : i < m
            · rw [if_pos g2, if_pos (by omega)]; omega
            · rw [if_neg g2, if_neg (by omega)]; omega
      rw [this, if_pos hi]
    rw [← e, sg_Fk hr hv h]
    exact Fk_nonneg fun w => by split <;> decide
  · rw [gd_ge (by omega)]; exact Int.le_refl _
/-- the weight of a seating in which w of the others sit well -/
def wgt (r : List Int) (q : Int) (t : List Int) (w : Nat) : Int :=
  if q - badly r t - ((r.length : Int) - t.length) + (w : Nat) ≥ 0 then ch (q - badly r t - ((r.length : Int) - t.length) + (w : Nat) + r.length - 1) (r.length - 1) else 0
theorem ww_Fk {r t : List Int} {n : Nat} {q : Int} (hr : r.length = n) (hv : VS n t) (h : t.length ≤ n) : ww r q t = Fk n (r.drop t.length) t (wgt r q t) := by
  rw [← sg_Fk hr hv h]
  unfold ww spr sprA
  rw [ls_filter, List.map_map, sm_range]
  unfold dt
  refine sm_congr fun i _ => ?_
  have hn := sg_nn hr hv h i
  unfold wgt
  simp only [Function.comp]
  rw [oths_lenE (by rw [hr]; exact h), show (((r.length - t.length : Nat) : Int)) = (r.length : Int) - t.length by omega]
  by_cases g : q - badly r t - ((r.length : Int) - t.length) + (i : Nat) ≥ 0
  · rw [if_pos g, decide_eq_true g]
    by_cases g2 : (sg (steps r t)).getD i 0 > 0
    · rw [decide_eq_true g2]; rfl
    · rw [decide_eq_false g2, if_neg (by simp), show (sg (steps r t)).getD i 0 = 0 by omega, Int.zero_mul]
  · rw [if_neg g, decide_eq_false g, if_neg (by simp), Int.mul_zero]
theorem wgt_nn {r t : List Int} {q : Int} (hr : 1 ≤ r.length) (w : Nat) : 0 ≤ wgt r q t w := by
  unfold wgt
  split
  · exact ch_nonneg (by omega)
  · exact Int.le_refl _
theorem badly_snoc {r t : List Int} {x : Int} : badly r (t ++ [x]) = badly r t + if x > r.getD t.length 0 then 1 else 0 := by
  unfold badly
  have e : ∀ (t : List Int) (p : Nat → Bool), (pickI p (fun i => (i : Int)) t.length).length = ((List.range t.length).filter p).length := fun t p => by unfold pickI; rw [List.length_map]
  rw [e, e, List.length_append, List.length_singleton, List.range_succ, List.filter_append, List.length_append]
  congr 1
  · congr 1
    refine List.filter_congr fun i hi => ?_
    have hi := List.mem_range.mp hi
    rw [List.getD_eq_getElem?_getD, List.getElem?_append_left hi, ← List.getD_eq_getElem?_getD]
  · rw [List.filter_cons, List.getD_eq_getElem?_getD, List.getElem?_append_right (Nat.le_refl _), Nat.sub_self]
    show (if decide (x > r.getD t.length 0) = true then [t.length] else ([] : List Nat)).length = _
    by_cases g : x > r.getD t.length 0
    · rw [if_pos (decide_eq_true g), if_pos g]; rfl
    · rw [if_neg (by simpa using g), if_neg g]; rfl
/-- the split -/
theorem ww_split {r t : List Int} {n : Nat} {q : Int} (hr : r.length = n) (hv : VS n t) (h : t.length < n) : ww r q t = ((frees n t).map fun x => ww r q (t ++ [x])).sum := by
  rw [ww_Fk hr hv (by omega), List.drop_eq_getElem_cons (by omega), Fk]
  refine ls_congr fun x hx => ?_
  rw [ww_Fk hr (hv.snoc hx) (by rw [List.length_append, List.length_singleton]; omega), List.length_append, List.length_singleton]
  congr 1
  have eg : r.getD t.length 0 = r[t.length]'(by omega) := gd_lt (by omega)
  rw [← eg]
  funext w
  have el : (((t ++ [x]).length : Nat) : Int) = t.length + 1 := by rw [List.length_append, List.length_singleton]; omega
  by_cases g : x ≤ r.getD t.length 0
  · have eb : badly r (t ++ [x]) = badly r t + 0 := by rw [badly_snoc, if_neg (by omega)]
    rw [if_pos g]
    unfold wgt
    rw [eb, el]
    have e1 : q - ((badly r t : Nat) : Int) - ((r.length : Int) - t.length) + ((w + 1 : Nat) : Int) = q - ((badly r t + 0 : Nat) : Int) - ((r.length : Int) - ((t.length : Int) + 1)) + (w : Int) := by omega
    simp only [e1]
  · have eb : badly r (t ++ [x]) = badly r t + 1 := by rw [badly_snoc, if_pos (by omega)]
    rw [if_neg g]
    unfold wgt
    rw [eb, el]
    have e1 : q - ((badly r t : Nat) : Int) - ((r.length : Int) - t.length) + (w : Int) = q - ((badly r t + 1 : Nat) : Int) - ((r.length : Int) - ((t.length : Int) + 1)) + (w : Int) := by omega
    simp only [e1]
theorem ww_nn {r t : List Int} {n : Nat} {q : Int} (hr : r.length = n) (hn : 1 ≤ n) (hv : VS n t) (h : t.length ≤ n) : 0 ≤ ww r q t := by
  rw [ww_Fk hr hv h]
  exact Fk_nonneg fun w => wgt_nn (by omega) w
theorem VS.take {n : Nat} {t : List Int} (h : VS n t) (k : Nat) : VS n (t.take k) := ⟨h.1.sublist (List.take_sublist _ _), fun x hx => h.2 x (List.mem_of_mem_take hx)⟩
theorem ww_path {r t : List Int} {n : Nat} {q : Int} (hr : r.length = n) (hn : 1 ≤ n) (hv : VS n t) (h : t.length = n) : ∀ k, k ≤ n → ww r q t ≤ ww r q (t.take (n - k))
  | 0, _ => by rw [Nat.sub_zero, ← h, List.take_length]; exact Int.le_refl _
  | k + 1, hk => by
    refine Int.le_trans (ww_path hr hn hv h k (by omega)) ?_
    have hlt : (t.take (n - (k + 1))).length = n - (k + 1) := by rw [List.length_take]; omega
    rw [ww_split (t := t.take (n - (k + 1))) hr (hv.take _) (by omega)]
    have e : t.take (n - k) = t.take (n - (k + 1)) ++ [t.getD (n - (k + 1)) 0] := by
      rw [show n - k = n - (k + 1) + 1 by omega, List.take_add_one, gd_lt (by omega), List.getElem?_eq_getElem (by omega)]; rfl
    rw [e]
    have nd := (hv.take (n - k)).1
    rw [e] at nd
    have hx : t.getD (n - (k + 1)) 0 ∈ frees n (t.take (n - (k + 1))) := by
      refine frees_memI.mpr ⟨hv.2 _ (gd_mem (by omega)), fun z => ?_⟩
      have := (List.nodup_append.mp nd).2.2 _ z _ (List.mem_singleton.mpr rfl)
      exact this rfl
    refine ls_ge (f := fun x => ww r q (t.take (n - (k + 1)) ++ [x])) (fun x hx => ?_) hx
    exact ww_nn hr hn ((hv.take _).snoc hx) (by rw [List.length_append, List.length_singleton]; omega)
end Tr
end
section
set_option Elab.async false
set_option linter.all false
set_option maxRecDepth 100000
set_option maxHeartbeats 4000000
set_option exponentiation.threshold 4000
namespace Tr
theorem perm_sum {l m : List Int} (p : l.Perm m) : l.sum = m.sum := by
  induction p with
  | nil => rfl
  | cons a p ih => rw [List.sum_cons, List.sum_cons, ih]
  | swap a b l => rw [List.sum_cons, List.sum_cons, List.sum_cons, List.sum_cons]; omega
  | trans p q h1 h2 => exact h1.trans h2
theorem Pm.perm {n : Nat} {l : List Int} (h : Pm n l) : l.Perm (sq n) := by
  refine (List.perm_ext_iff_of_nodup h.nd (sq_nd n)).mpr fun x => ⟨fun hx => sq_mem.mpr (h.rg x hx), fun hx => ?_⟩
  obtain ⟨h0, h1⟩ := sq_mem.mp hx
  obtain ⟨p, hp, e⟩ := h.surj h0 h1
  rw [← e]
  exact gd_mem (by rw [h.len]; exact hp)
theorem sq_sum (n : Nat) : (sq n).sum = (n : Int) * ((n : Int) - 1) / 2 := by
  have h : ∀ n : Nat, 2 * (sq n).sum = (n : Int) * ((n : Int) - 1) := fun n => by
    induction n with
    | zero => rfl
    | succ n ih =>
      have e : (sq (n + 1)).sum = (sq n).sum + n := by
        unfold sq
        rw [List.range_succ, List.map_append, sum_app]
        simp
      rw [e, Int.mul_add, ih, show ((n + 1 : Nat) : Int) - 1 = (n : Int) by omega, show ((n + 1 : Nat) : Int) = (n : Int) + 1 by omega, Int.mul_sub, Int.add_mul]
      omega
  have := h n
  omega
theorem Pm.sum {n : Nat} {l : List Int} (h : Pm n l) : l.sum = (n : Int) * ((n : Int) - 1) / 2 := by rw [perm_sum h.perm, sq_sum]
theorem sum_sm (l : List Int) : l.sum = sm l.length (fun i => l.getD i 0) := by
  induction l with
  | nil => rfl
  | cons a l ih => rw [List.sum_cons, List.length_cons, sm_front, ih]; rfl
theorem sm_mulc (m : Nat) (c : Int) (h : Nat → Int) : sm m (fun i => c * h i) = c * sm m h := by
  induction m with
  | zero => simp [sm]
  | succ m ih => simp only [sm]; rw [ih, Int.mul_add]
theorem badly_sm {r t : List Int} : (badly r t : Int) = sm t.length (fun i => if t.getD i 0 > r.getD i 0 then 1 else 0) := by
  unfold badly pickI
  rw [List.length_map]
  generalize t.length = n
  induction n with
  | zero => rfl
  | succ n ih =>
    rw [List.range_succ, List.filter_append, List.length_append, sm, ← ih, List.filter_cons]
    by_cases g : t.getD n 0 > r.getD n 0
    · rw [if_pos (decide_eq_true g), if_pos g]; simp
    · rw [if_neg (by simpa using g), if_neg g]; simp
/-- the least purses together -/
theorem lsp_sum {n : Nat} {r t : List Int} (hr : r.length = n) (hn : 1 ≤ n) (h0 : ∀ x, x ∈ r → 0 ≤ x ∧ x < n) (ht : Pm n t) : (lsp r t).sum = r.sum - (n : Int) * ((n : Int) - 1) / 2 + n * badly r t := by
  rw [← ht.sum, badly_sm, ht.len, ← sm_mulc, sum_sm r, sum_sm t, hr, ht.len, ← sm_sub, ← sm_add]
  unfold lsp
  rw [sm_range, hr]
  refine sm_congr fun i hi => ?_
  have a := h0 _ (gd_mem (l := r) (i := i) (d := 0) (by omega))
  have b := ht.at hi
  rw [ht.len]
  by_cases g : t.getD i 0 > r.getD i 0
  · rw [if_pos g, Int.mul_one]
    have : (r.getD i 0 - t.getD i 0) % (n : Int) = (r.getD i 0 - t.getD i 0 + n) % (n : Int) := by rw [Int.add_emod_right]
    rw [this]
    exact Int.emod_eq_of_lt (by omega) (by omega)
  · rw [if_neg g, Int.mul_zero, Int.add_zero]
    exact Int.emod_eq_of_lt (by omega) (by omega)
theorem Vd.kept_rg {n : Nat} {s : S} (h : Vd n s) : ∀ x, x ∈ kept s → 0 ≤ x ∧ x < n := fun x hx => Tr.kept_rg h.rg hx
theorem Vd.kept_len {n : Nat} {s : S} (h : Vd n s) : (kept s).length = n := by rw [Tr.kept_len, h.rg.l1]
theorem kept_at {n : Nat} {s : S} (h : Rg n s) {i : Nat} (hi : i < n) : (kept s).getD i 0 = (s.1.getD i 0 + s.2.getD i 0) % (n : Int) := by
  unfold kept
  rw [h.l1, gd_map hi]
/-- the own seating leaves rounds -/
theorem Vd.quo {n : Nat} {s : S} (h : Vd n s) : ∃ q, quo (kept s) s.2.sum = some q ∧ (badly (kept s) s.1 : Int) ≤ q := by
  have hn := h.two
  have hl := lsp_sum h.kept_len (by omega) h.kept_rg h.pm
  have hs : s.2.sum = (lsp (kept s) s.1).sum + n * sm n (fun i => s.2.getD i 0 / (n : Int)) := by
    unfold lsp
    rw [sm_range, h.kept_len, ← sm_mulc, ← sm_add, sum_sm s.2, h.rg.l2]
    refine sm_congr fun i hi => ?_
    rw [kept_at h.rg hi, h.rg.l1]
    have : ((s.1.getD i 0 + s.2.getD i 0) % (n : Int) - s.1.getD i 0) % (n : Int) = s.2.getD i 0 % (n : Int) := by
      rw [Int.sub_emod, Int.emod_emod_of_dvd _ (Int.dvd_refl _), ← Int.sub_emod, show s.1.getD i 0 + s.2.getD i 0 - s.1.getD i 0 = s.2.getD i 0 by omega]
    rw [this]
    exact (Int.emod_add_mul_ediv _ _).symm
  have hq : quX (kept s) s.2.sum = n * (sm n (fun i => s.2.getD i 0 / (n : Int)) + badly (kept s) s.1) := by
    unfold quX
    rw [h.kept_len, Int.mul_add]
    omega
  have h0 : 0 ≤ sm n (fun i => s.2.getD i 0 / (n : Int)) := by
    rw [← sm_range]
    exact ls_nonneg fun i _ => Int.ediv_nonneg (h.purse i) (by omega)
  have hd : quX (kept s) s.2.sum / (n : Int) = sm n (fun i => s.2.getD i 0 / (n : Int)) + badly (kept s) s.1 := by
    rw [hq, Int.mul_ediv_cancel_left _ (by omega)]
  refine ⟨quX (kept s) s.2.sum / (n : Int), ?_, ?_⟩
  · unfold Tr.quo
    rw [h.kept_len, if_pos ⟨by rw [hq, Int.mul_emod_right], by rw [hd]; omega⟩]
  · rw [hd]; omega
theorem Vd.lot_eq {n : Nat} {s : S} (h : Vd n s) {q : Int} (e : Tr.quo (kept s) s.2.sum = some q) : lot s = ww (kept s) q [] := by
  unfold lot mny
  rw [e]
theorem Vd.lot_pos {n : Nat} {s : S} (h : Vd n s) : 1 ≤ lot s := by
  obtain ⟨q, e, hb⟩ := h.quo
  have hn := h.two
  rw [h.lot_eq e]
  have h1 := ww_path (q := q) h.kept_len (by omega) h.pm.vs h.pm.len n (Nat.le_refl _)
  rw [Nat.sub_self, List.take_zero] at h1
  refine Int.le_trans ?_ h1
  rw [ww_Fk h.kept_len h.pm.vs (by rw [h.pm.len]; exact Nat.le_refl _), List.drop_of_length_le (by rw [h.kept_len, h.pm.len]; exact Nat.le_refl _), Fk]
  unfold wgt
  rw [h.kept_len, h.pm.len, if_pos (by omega)]
  exact ch_pos (by omega) (by omega)
theorem Sz.lePw {b : Nat} {x : Int} (h : Sz b x) : x ≤ 2 ^ b := by
  have h1 : ((x.natAbs : Nat) : Int) < ((2 ^ b : Nat) : Int) := Int.ofNat_lt.mpr h
  rw [Int.natCast_pow] at h1
  have e : ((2 : Nat) : Int) = 2 := rfl
  rw [e] at h1
  have := Int.le_natAbs (a := x)
  omega
theorem fct7 : ∀ n, n ≤ 8 → fct n ≤ 40320 := by
  intro n h
  have : n = 0 ∨ n = 1 ∨ n = 2 ∨ n = 3 ∨ n = 4 ∨ n = 5 ∨ n = 6 ∨ n = 7 ∨ n = 8 := by omega
  rcases this with rfl | rfl | rfl | rfl | rfl | rfl | rfl | rfl | rfl <;> decide
theorem Vd.lot_le {n : Nat} {s : S} (h : Vd n s) (h7 : n ≤ 7) (hz : Sz 180 s.2.sum) : lot s < 2 ^ 1215 := by
  obtain ⟨q, e, hb⟩ := h.quo
  have hn := h.two
  have hq := quo_sz (kept_sz h.rg) (by rw [h.kept_len]; omega) hz e
  have h0 : VS n [] := ⟨List.nodup_nil, by simp⟩
  rw [h.lot_eq e, ww_Fk h.kept_len h0 (by simp)]
  have hw : ∀ w, w ≤ n → wgt (kept s) q [] w ≤ (2 ^ 1195 : Int) := fun w hw => by
    unfold wgt
    rw [h.kept_len]
    have hb0 : badly (kept s) [] = 0 := rfl
    rw [hb0, List.length_nil]
    split
    · unfold ch
      split
      · exact Int.le_of_lt (by decide +kernel)
      · have hm : Sz 191 (q - ((0 : Nat) : Int) - ((n : Int) - ((0 : Nat) : Int)) + (w : Nat) + n - 1) := by
          unfold Sz at hq ⊢
          have : (2 : Nat) ^ 191 = 2 ^ 190 + 2 ^ 190 := by decide
          have : (2 : Nat) ^ 190 > 1000 := by decide
          omega
        have := chL_sz hm ((n : Int) - 1).toNat (by omega)
        exact (this.mono (b := 1195) (by omega)).lePw
    · exact Int.le_of_lt (by decide +kernel)
  have hd : ((kept s).drop ([] : List Int).length) = kept s := rfl
  rw [hd]
  have := Fk_le (n := n) (M := (2 ^ 1195 : Int)) (as := kept s) (U := []) (φ := wgt (kept s) q []) (by have := frees_lenV h0; rw [h.kept_len]; simpa using this) (by rw [h.kept_len]; exact hw)
  rw [h.kept_len] at this
  have hf := fct7 n (by omega)
  have h2 : fct n * 2 ^ 1195 ≤ 40320 * (2 ^ 1195 : Int) := Int.mul_le_mul_of_nonneg_right hf (Int.le_of_lt (by decide +kernel))
  have h3 : 40320 * (2 ^ 1195 : Int) < 2 ^ 1215 := by decide +kernel
  exact Int.lt_of_le_of_lt (Int.le_trans this h2) h3
/-! ### the state with a number leads there and back -/
theorem lpw_ok {n : Nat} {s : S} {t sh : List Int} (h : Vd n s) (ht : VS n t) (hl : t.length = n) (hs : sh.length = n) (hsum : sh.sum = (s.2.sum - (lsp (kept s) t).sum) / (n : Int)) :
    Rg n (t, lpw (kept s) t sh) ∧ kept (t, lpw (kept s) t sh) = kept s ∧ (lpw (kept s) t sh).sum = s.2.sum := by
  have hn := h.two
  have pt : Pm n t := ⟨hl, ht.1, ht.2⟩
  have rg : Rg n (t, lpw (kept s) t sh) := ⟨hl, by unfold lpw; rw [List.length_map, List.length_range, hl], by omega, h.rg.top, ht.2⟩
  refine ⟨rg, ?_, ?_⟩
  · refine gd_ext (by rw [Tr.kept_len, h.kept_len]; exact hl) fun i hi => ?_
    rw [Tr.kept_len] at hi
    have hi : i < n := by rw [← hl]; exact hi
    rw [kept_at rg hi]
    show (t.getD i 0 + (lpw (kept s) t sh).getD i 0) % (n : Int) = _
    unfold lpw lsp
    rw [hl, gd_map hi, h.kept_len, gd_map hi]
    have a := h.kept_rg _ (gd_mem (l := kept s) (i := i) (d := 0) (by rw [h.kept_len]; exact hi))
    rw [← Int.add_assoc, Int.add_mul_emod_self_left, Int.add_emod, Int.emod_emod_of_dvd _ (Int.dvd_refl _), ← Int.add_emod, show t.getD i 0 + ((kept s).getD i 0 - t.getD i 0) = (kept s).getD i 0 by omega]
    exact Int.emod_eq_of_lt a.1 a.2
  · have e1 : (lpw (kept s) t sh).sum = (lsp (kept s) t).sum + n * sh.sum := by
      unfold lpw
      rw [sm_range, hl, sm_add, sm_mulc, sum_sm sh, hs, sum_sm (lsp _ _), lsp_len, h.kept_len]
    rw [e1, hsum]
    obtain ⟨q, hq, _⟩ := h.quo
    unfold Tr.quo at hq
    split at hq
    · rename_i c
      have c := c.1
      unfold quX at c
      rw [h.kept_len] at c
      have hls := lsp_sum h.kept_len (by omega) h.kept_rg pt
      have : (s.2.sum - (lsp (kept s) t).sum) % (n : Int) = 0 := by
        have e : s.2.sum - (lsp (kept s) t).sum = s.2.sum - (kept s).sum + (n : Int) * ((n : Int) - 1) / 2 + n * (- (badly (kept s) t : Int)) := by
          rw [hls, Int.mul_neg]; omega
        rw [e, Int.add_mul_emod_self_left, c]
      rw [Int.mul_ediv_cancel' (Int.dvd_of_emod_eq_zero this)]
      omega
    · cases hq
theorem lead_ok {n : Nat} {s t : S} (hs : Rg n s) (ht : Rg n t) (hk : kept s = kept t) (hc : s.2.sum = t.2.sum) : leadq s t = .ok () := by
  unfold leadq
  rw [if_pos (by rw [hs.l1, ht.l1]), if_pos]
  unfold rsn unlike
  rw [if_pos hc, hk]
  have : pickI (fun i => !decide ((kept t).getD i 0 = (kept t).getD i 0)) (fun i => (i : Int)) (kept t).length = [] := by
    unfold pickI
    simp
  rw [this]
  rfl
theorem dist_ok {n : Nat} {s t : S} (hs : Rg n s) (ht : Rg n t) (hk : kept s = kept t) (hc : s.2.sum = t.2.sum) : distq s t = .ok (dst s t) := by
  unfold distq
  rw [lead_ok hs ht hk hc]
/-- the distance is the same both ways -/
theorem mtg_sym {n : Nat} {s t : S} (hs : Rg n s) (ht : Rg n t) (hk : kept s = kept t) {l r : Nat} (hl : l < n) (hr : r < n) : mtg s (stp s t) l r = mtg t (stp t s) l r := by
  have hn := hs.pos
  have st : ∀ {s t : S}, Rg n s → ∀ i, i < n → (stp s t).getD i 0 = s.2.getD i 0 - t.2.getD i 0 := fun hs i hi => by
    unfold stp
    rw [hs.l2, gd_map hi]
  have m : ∀ i, i < n → ∃ k : Int, s.1.getD i 0 + (s.2.getD i 0 - t.2.getD i 0) = t.1.getD i 0 + n * k := fun i hi => by
    have a := kept_at hs hi
    have b := kept_at ht hi
    rw [hk, b] at a
    refine ⟨(s.1.getD i 0 + s.2.getD i 0) / n - (t.1.getD i 0 + t.2.getD i 0) / n, ?_⟩
    have c := Int.emod_add_mul_ediv (s.1.getD i 0 + s.2.getD i 0) n
    have d := Int.emod_add_mul_ediv (t.1.getD i 0 + t.2.getD i 0) n
    rw [Int.mul_sub]
    omega
  obtain ⟨x, hx⟩ := m l hl
  obtain ⟨y, hy⟩ := m r hr
  unfold mtg
  rw [st hs l hl, st hs r hr, st ht l hl, st ht r hr, hs.l1, ht.l1]
  have e1 : s.1.getD r 0 - s.1.getD l 0 + (s.2.getD r 0 - t.2.getD r 0) - (s.2.getD l 0 - t.2.getD l 0) = (t.1.getD r 0 - t.1.getD l 0) + n * (y - x) := by
    rw [Int.mul_sub]; omega
  have e2 : t.1.getD r 0 - t.1.getD l 0 + (t.2.getD r 0 - s.2.getD r 0) - (t.2.getD l 0 - s.2.getD l 0) = (s.1.getD r 0 - s.1.getD l 0) + n * (-(y - x)) := by
    rw [Int.mul_neg, Int.mul_sub]; omega
  rw [e1, e2, Int.add_mul_ediv_left _ _ (by omega), Int.add_mul_ediv_left _ _ (by omega)]
  unfold ab
  split <;> split <;> omega
theorem crsN_sym {n : Nat} {s t : S} (hs : Rg n s) (ht : Rg n t) (hk : kept s = kept t) : ∀ k, k ≤ n → crsN s (stp s t) k = crsN t (stp t s) k
  | 0, _ => rfl
  | k + 1, h => by
    rw [crsN, crsN, crsN_sym hs ht hk k (by omega), stp_len, stp_len, hs.l2, ht.l2]
    congr 1
    refine List.map_congr_left fun j hj => ?_
    have := List.mem_range.mp hj
    rw [mtg_sym hs ht hk (by omega) (by omega)]
theorem dst_sym {n : Nat} {s t : S} (hs : Rg n s) (ht : Rg n t) (hk : kept s = kept t) : dst s t = dst t s := by
  unfold dst
  rw [stp_len, stp_len, hs.l2, ht.l2, crsN_sym hs ht hk n (Nat.le_refl _)]
end Tr
end
section
set_option Elab.async false
set_option linter.all false
set_option maxRecDepth 100000
set_option maxHeartbeats 4000000
namespace Tr
/-! ### sums round the turn -/
theorem sm_split (h : Nat → Int) (a : Nat) : ∀ b, sm (a + b) h = sm a h + sm b (fun i => h (a + i))
  | 0 => by simp [sm]
  | b + 1 => by rw [← Nat.add_assoc, sm, sm_split h a b, sm]; omega
theorem sm_per {h : Nat → Int} {L : Nat} (p : ∀ j, h (j + L) = h j) (b : Nat) : ∀ a, sm (a * L + b) h = a * sm L h + sm b h
  | 0 => by simp
  | a + 1 => by
    have e : ∀ a j, h (a * L + j) = h j := fun a => by
      induction a with
      | zero => intro j; rw [Nat.zero_mul, Nat.zero_add]
      | succ a ih => intro j; rw [show (a + 1) * L + j = (a * L + j) + L by rw [Nat.add_mul]; omega, p, ih]
    have e0 : sm (a * L + b) (fun i => h (L + i)) = sm (a * L + b) h := sm_congr fun i _ => by rw [Nat.add_comm]; exact p i
    rw [show (a + 1) * L + b = L + (a * L + b) by rw [Nat.add_mul]; omega, sm_split h L, e0, sm_per p b a]
    rw [show (((a + 1 : Nat) : Int)) = a + 1 by omega, Int.add_mul]
    omega
theorem itr_L {e : List Int} {q : Int} (h : Per e q) (j : Nat) : itr e q (j + per e q) = itr e q j := by
  rw [Nat.add_comm, itr_add, (per_ok h).2.2.1]
theorem itr_aL {e : List Int} {q : Int} (h : Per e q) (b : Nat) : ∀ a, itr e q (a * per e q + b) = itr e q b
  | 0 => by rw [Nat.zero_mul, Nat.zero_add]
  | a + 1 => by rw [show (a + 1) * per e q + b = (a * per e q + b) + per e q by rw [Nat.add_mul]; omega, itr_L h, itr_aL h b a]
theorem itr_mod {e : List Int} {q : Int} (h : Per e q) (k : Nat) : itr e q (k % per e q) = itr e q k := by
  rw [← itr_aL h (k % per e q) (k / per e q), Nat.mul_comm, Nat.div_add_mod]
abbrev gq (pa : Pays) (e : List Int) (q : Int) (j : Nat) : Int := gsum pa (itr e q j)
theorem gq_L {pa : Pays} {e : List Int} {q : Int} (h : Per e q) (j : Nat) : gq pa e q (j + per e q) = gq pa e q j := by unfold gq; rw [itr_L h]
theorem turn_gn {pa : Pays} {e : List Int} {q : Int} : gn pa (turnOf e q) = (List.range (per e q)).map (gq pa e q) := by
  unfold gn turnOf orb
  rw [List.map_map]
  rfl
theorem turn_len0 {e : List Int} {q : Int} : (turnOf e q).length = per e q := orb_len e q _
theorem gn_sum {pa : Pays} {e : List Int} {q : Int} : (gn pa (turnOf e q)).sum = sm (per e q) (gq pa e q) := by rw [turn_gn, sm_range]
theorem gn_take {pa : Pays} {e : List Int} {q : Int} {b : Nat} (hb : b ≤ per e q) : ((gn pa (turnOf e q)).take b).sum = sm b (gq pa e q) := by
  rw [turn_gn, ← List.map_take, List.take_range, Nat.min_eq_left hb, sm_range]
/-- k passes, in closed form -/
def aftK (pa : Pays) (e : List Int) (s : S) (k : Nat) : S :=
  ((List.range s.1.length).map fun i => itr e (s.1.getD i 0) k, (List.range s.1.length).map fun i => s.2.getD i 0 + sm k (gq pa e (s.1.getD i 0)))
theorem aft_K {pa : Pays} {e : List Int} {s : S} (hp : ∀ i, i < s.1.length → Per e (s.1.getD i 0)) (k : Nat) : aft pa e s k = aftK pa e s k := by
  unfold aft aftK
  congr 1
  · refine List.map_congr_left fun i hi => ?_
    have hi := List.mem_range.mp hi
    have P := hp i hi
    have hL := (per_ok P).1
    rw [turn_len0, show ((k : Int) % ((per e (s.1.getD i 0) : Nat) : Int)).toNat = k % per e (s.1.getD i 0) by omega]
    unfold turnOf orb
    rw [gd_map (Nat.mod_lt _ hL), itr_mod P]
  · refine List.map_congr_left fun i hi => ?_
    have hi := List.mem_range.mp hi
    have P := hp i hi
    have hL := (per_ok P).1
    rw [turn_len0, show ((k : Int) % ((per e (s.1.getD i 0) : Nat) : Int)).toNat = k % per e (s.1.getD i 0) by omega, gn_sum, gn_take (Nat.le_of_lt (Nat.mod_lt _ hL)), Int.add_assoc]
    congr 1
    have := sm_per (gq_L (pa := pa) P) (k % per e (s.1.getD i 0)) (k / per e (s.1.getD i 0))
    rw [Nat.mul_comm, Nat.div_add_mod] at this
    rw [this]
    rfl
theorem aftK_1 {pa : Pays} {e : List Int} {s : S} {i k : Nat} (h : i < s.1.length) : (aftK pa e s k).1.getD i 0 = itr e (s.1.getD i 0) k := gd_map h
theorem aftK_2 {pa : Pays} {e : List Int} {s : S} {i k : Nat} (h : i < s.1.length) : (aftK pa e s k).2.getD i 0 = s.2.getD i 0 + sm k (gq pa e (s.1.getD i 0)) := gd_map h
theorem aftK_len {pa : Pays} {e : List Int} {s : S} {k : Nat} : (aftK pa e s k).1.length = s.1.length := by unfold aftK; simp
theorem aftK_add {pa : Pays} {e : List Int} {s : S} (a b : Nat) : aftK pa e (aftK pa e s a) b = aftK pa e s (a + b) := by
  unfold aftK
  simp only [List.length_map, List.length_range]
  congr 1
  · refine List.map_congr_left fun i hi => ?_
    have hi := List.mem_range.mp hi
    rw [gd_map hi, itr_add]
  · refine List.map_congr_left fun i hi => ?_
    have hi := List.mem_range.mp hi
    rw [gd_map hi, gd_map hi, sm_split]
    unfold gq
    simp only [itr_add]
    omega
/-! ### the payments that fail -/
/-- an entry of the list of failures -/
def FE (pa : Pays) (e : List Int) (q : Int) (c0 loss : Int) (L : Nat) (x : Int × Int) : Prop :=
  ∃ p l1 f l2, p < L ∧ pa.getD (itr e q p).toNat [] = l1 ++ f :: l2 ∧ f.2 < 0 ∧ (c0 + sm p (gq pa e q) + (l1.map (·.2)).sum < 1 ∨ loss > 0) ∧
    x = ((if c0 + sm p (gq pa e q) + (l1.map (·.2)).sum < 1 then 0 else (c0 + sm p (gq pa e q) + (l1.map (·.2)).sum - 1) / loss + 1) * (L : Int) + p, f.1)
theorem fst_fold (loss : Int) (L p : Nat) : ∀ (l : List (Int × Int)) (st : Int × List (Int × Int)), (l.foldl (fstep loss L p) st).1 = st.1 + (l.map (·.2)).sum
  | [], st => by simp
  | f :: l, st => by
    rw [List.foldl_cons, fst_fold loss L p l, List.map_cons, List.sum_cons]
    show st.1 + f.2 + _ = _
    omega
theorem snd_fold (loss : Int) (L p : Nat) (x : Int × Int) : ∀ (l : List (Int × Int)) (st : Int × List (Int × Int)), x ∈ (l.foldl (fstep loss L p) st).2 ↔ x ∈ st.2 ∨ ∃ l1 f l2, l = l1 ++ f :: l2 ∧ f.2 < 0 ∧ (st.1 + (l1.map (·.2)).sum < 1 ∨ loss > 0) ∧
      x = ((if st.1 + (l1.map (·.2)).sum < 1 then 0 else (st.1 + (l1.map (·.2)).sum - 1) / loss + 1) * (L : Int) + p, f.1)
  | [], st => by
    simp
  | f :: l, st => by
    rw [List.foldl_cons, snd_fold loss L p x l]
    have e1 : (fstep loss L p st f).1 = st.1 + f.2 := rfl
    have e2 : x ∈ (fstep loss L p st f).2 ↔ x ∈ st.2 ∨ (f.2 < 0 ∧ (st.1 < 1 ∨ loss > 0) ∧ x = ((if st.1 < 1 then 0 else (st.1 - 1) / loss + 1) * (L : Int) + p, f.1)) := by
      unfold fstep
      by_cases g : f.2 < 0 ∧ (st.1 < 1 ∨ loss > 0)
      · rw [if_pos g, List.mem_append, List.mem_singleton]
        exact ⟨fun h => h.elim .inl fun h => .inr ⟨g.1, g.2, h⟩, fun h => h.elim .inl fun h => .inr h.2.2⟩
      · rw [if_neg g]
        exact ⟨.inl, fun h => h.elim id fun h => absurd ⟨h.1, h.2.1⟩ g⟩
    rw [e1, e2]
    constructor
    · rintro ((h | ⟨h1, h2, h3⟩) | ⟨l1, f2, l2, rfl, h1, h2, h3⟩)
      · exact .inl h
      · exact .inr ⟨[], f, l, rfl, h1, by simpa using h2, by simpa using h3⟩
      · refine .inr ⟨f :: l1, f2, l2, rfl, h1, ?_, ?_⟩
        · rw [List.map_cons, List.sum_cons, ← Int.add_assoc]; exact h2
        · rw [List.map_cons, List.sum_cons, ← Int.add_assoc]; exact h3
    · rintro (h | ⟨l1, f2, l2, he, h1, h2, h3⟩)
      · exact .inl (.inl h)
      · match l1, he with
        | [], he =>
          cases he
          exact .inl (.inr ⟨h1, by simpa using h2, by simpa using h3⟩)
        | g :: l1, he =>
          cases he
          rw [List.map_cons, List.sum_cons, ← Int.add_assoc] at h2 h3
          exact .inr ⟨l1, f2, l2, rfl, h1, h2, h3⟩
theorem fails_iff {pa : Pays} {e : List Int} {q c0 : Int} {x : Int × Int} : x ∈ fails pa (turnOf e q) c0 ↔ FE pa e q c0 (-(sm (per e q) (gq pa e q))) (per e q) x := by
  unfold fails
  rw [gn_sum, turn_len0]
  generalize hloss : -(sm (per e q) (gq pa e q)) = loss
  have zi : (turnOf e q).zipIdx = (List.range (per e q)).map fun p => (itr e q p, p) := by
    unfold turnOf orb
    refine List.ext_getElem (by simp) fun i h1 h2 => ?_
    simp
  rw [zi]
  generalize per e q = L
  have key : ∀ m, (((List.range m).map fun p => (itr e q p, p)).foldl (fgo pa loss L) (c0, [])).1 = c0 + sm m (gq pa e q) ∧ (x ∈ (((List.range m).map fun p => (itr e q p, p)).foldl (fgo pa loss L) (c0, [])).2 ↔
      ∃ p l1 f l2, p < m ∧ pa.getD (itr e q p).toNat [] = l1 ++ f :: l2 ∧ f.2 < 0 ∧ (c0 + sm p (gq pa e q) + (l1.map (·.2)).sum < 1 ∨ loss > 0) ∧
    x = ((if c0 + sm p (gq pa e q) + (l1.map (·.2)).sum < 1 then 0 else (c0 + sm p (gq pa e q) + (l1.map (·.2)).sum - 1) / loss + 1) * (L : Int) + p, f.1)) := fun m => by
    induction m with
    | zero =>
      refine ⟨by simp [sm], ?_⟩
      constructor
      · intro h; cases h
      · rintro ⟨p, _, _, _, h, _⟩; omega
    | succ m ih =>
      obtain ⟨ih1, ih2⟩ := ih
      rw [List.range_succ, List.map_append, List.foldl_append]
      generalize (((List.range m).map fun p => (itr e q p, p)).foldl (fgo pa loss L) (c0, [])) = st at *
      show (fgo pa loss L st (itr e q m, m)).1 = _ ∧ (x ∈ (fgo pa loss L st (itr e q m, m)).2 ↔ _)
      unfold fgo
      rw [fst_fold, snd_fold, ih1, ih2]
      refine ⟨by rw [sm, ← Int.add_assoc]; rfl, ?_⟩
      constructor
      · rintro (⟨p, l1, f, l2, hp, h1, h2, h3, h4⟩ | ⟨l1, f, l2, h1, h2, h3, h4⟩)
        · exact ⟨p, l1, f, l2, by omega, h1, h2, h3, h4⟩
        · exact ⟨m, l1, f, l2, by omega, h1, h2, h3, h4⟩
      · rintro ⟨p, l1, f, l2, hp, h1, h2, h3, h4⟩
        by_cases g : p = m
        · subst g
          exact .inr ⟨l1, f, l2, h1, h2, h3, h4⟩
        · exact .inl ⟨p, l1, f, l2, by omega, h1, h2, h3, h4⟩
  exact (key L).2
/-- the payment at this pass -/
def badK (pa : Pays) (e : List Int) (q c0 : Int) (k : Nat) : Prop := badl (c0 + sm k (gq pa e q)) (pa.getD (itr e q k).toNat [])
theorem FE_bad {pa : Pays} {e : List Int} {q c0 : Int} {x : Int × Int} (h : Per e q) (hx : FE pa e q c0 (-(sm (per e q) (gq pa e q))) (per e q) x) : 0 ≤ x.1 ∧ badK pa e q c0 x.1.toNat := by
  obtain ⟨p, l1, f, l2, hp, h1, h2, h3, rfl⟩ := hx
  generalize hc : c0 + sm p (gq pa e q) + (l1.map (·.2)).sum = c at *
  generalize hT : sm (per e q) (gq pa e q) = T at *
  -- the number of rounds
  obtain ⟨a, ha, hb⟩ : ∃ a : Nat, (if c < 1 then (0 : Int) else (c - 1) / (-T) + 1) = a ∧ c + a * T < 1 := by
    by_cases g : c < 1
    · rw [if_pos g]
      exact ⟨0, rfl, by simpa using g⟩
    · rw [if_neg g]
      have hl : -T > 0 := h3.resolve_left g
      have n0 : 0 ≤ (c - 1) / (-T) := Int.ediv_nonneg (by omega) (by omega)
      have b1 := Int.lt_ediv_add_one_mul_self (c - 1) hl
      refine ⟨((c - 1) / (-T) + 1).toNat, by omega, ?_⟩
      rw [Int.toNat_of_nonneg (by omega)]
      rw [Int.mul_neg] at b1
      omega
  rw [ha]
  have e1 : ((a : Int) * ((per e q : Nat) : Int) + (p : Int)).toNat = a * per e q + p := by
    rw [← Int.natCast_mul, ← Int.natCast_add, Int.toNat_natCast]
  refine ⟨by show 0 ≤ (a : Int) * ((per e q : Nat) : Int) + (p : Int); rw [← Int.natCast_mul]; omega, ?_⟩
  show badK pa e q c0 ((a : Int) * ((per e q : Nat) : Int) + (p : Int)).toNat
  rw [e1]
  unfold badK
  rw [itr_aL h, sm_per (gq_L h), hT]
  exact ⟨l1, f, l2, h1, h2, by omega⟩
theorem bad_FE {pa : Pays} {e : List Int} {q c0 : Int} {k : Nat} (h : Per e q) (hk : badK pa e q c0 k) : ∃ x, FE pa e q c0 (-(sm (per e q) (gq pa e q))) (per e q) x ∧ x.1 ≤ k := by
  have hL := (per_ok h).1
  have hm := Nat.mod_lt k hL
  have hd := Nat.div_add_mod k (per e q)
  rw [Nat.mul_comm] at hd
  unfold badK at hk
  rw [← hd, itr_aL h, sm_per (gq_L h)] at hk
  generalize k % per e q = p at *
  generalize k / per e q = a at *
  obtain ⟨l1, f, l2, h1, h2, h3⟩ := hk
  generalize hT : sm (per e q) (gq pa e q) = T at *
  have ek : (k : Int) = a * ((per e q : Nat) : Int) + p := by rw [← hd, Int.natCast_add, Int.natCast_mul]
  by_cases g : c0 + sm p (gq pa e q) + (l1.map (·.2)).sum < 1
  · refine ⟨_, ⟨p, l1, f, l2, hm, h1, h2, .inl g, rfl⟩, ?_⟩
    rw [if_pos g, Int.zero_mul, ek]
    have : 0 ≤ (a : Int) * ((per e q : Nat) : Int) := by rw [← Int.natCast_mul]; omega
    show (0 : Int) + p ≤ _
    omega
  · have hl : -T > 0 := by
      refine Classical.byContradiction fun c => ?_
      have : 0 ≤ (a : Int) * T := Int.mul_nonneg (by omega) (by omega)
      omega
    refine ⟨_, ⟨p, l1, f, l2, hm, h1, h2, .inr hl, rfl⟩, ?_⟩
    rw [if_neg g, ek]
    show _ * _ + (p : Int) ≤ _ + (p : Int)
    refine Int.add_le_add_right (Int.mul_le_mul_of_nonneg_right ?_ (by omega)) _
    have : (c0 + sm p (gq pa e q) + (l1.map (·.2)).sum - 1) / (-T) < a := by
      refine Int.ediv_lt_of_lt_mul hl ?_
      rw [Int.mul_neg]
      omega
    omega
/-! ### the first pass that fails -/
theorem min3_mem : ∀ (ps : List (Int × Int × Int)) (p : Int × Int × Int), min3 p ps ∈ p :: ps
  | [], p => by simp [min3]
  | y :: ps, p => by
    show min3 (if lt3 y p then y else p) ps ∈ _
    have := min3_mem ps (if lt3 y p then y else p)
    rcases List.mem_cons.mp this with h | h
    · rw [h]
      split <;> simp
    · simp [h]
theorem min3_le : ∀ (ps : List (Int × Int × Int)) (p x : Int × Int × Int), x ∈ p :: ps → (min3 p ps).1 ≤ x.1
  | [], p, x, h => by rw [List.mem_singleton.mp h]; exact Int.le_refl _
  | y :: ps, p, x, h => by
    show (min3 (if lt3 y p then y else p) ps).1 ≤ _
    have hd := min3_le ps (if lt3 y p then y else p)
    rcases List.mem_cons.mp h with rfl | h
    · refine Int.le_trans (hd _ List.mem_cons_self) ?_
      split
      · rename_i g; unfold lt3 at g; omega
      · exact Int.le_refl _
    · rcases List.mem_cons.mp h with rfl | h
      · refine Int.le_trans (hd _ List.mem_cons_self) ?_
        split
        · exact Int.le_refl _
        · rename_i g; unfold lt3 at g; omega
      · exact hd _ (by simp [h])
theorem ff_mem {s : S} {row : List Int} {x : Int × Int × Int} : x ∈ ff s row ↔ ∃ i t, i < s.1.length ∧ t ∈ fails (flow s.1.length row).2 (turnOf (endsOf s.1.length row) (s.1.getD i 0)) (s.2.getD i 0) ∧ x = (t.1, t.2, (i : Int)) := by
  unfold ff ffl
  rw [List.mem_flatMap]
  constructor
  · rintro ⟨⟨z, i⟩, hz, hx⟩
    obtain ⟨t, ht, rfl⟩ := List.mem_map.mp hx
    have hz := List.mem_zipIdx_iff_getElem?.mp hz
    simp only [] at hz
    have hi : i < s.1.length := by
      refine Classical.byContradiction fun c => ?_
      rw [List.getElem?_eq_none (by omega)] at hz; cases hz
    refine ⟨i, t, hi, ?_, rfl⟩
    have : s.1.getD i 0 = z := by rw [List.getD_eq_getElem?_getD, hz]; rfl
    rw [this]; exact ht
  · rintro ⟨i, t, hi, ht, rfl⟩
    refine ⟨(s.1.getD i 0, i), List.mem_zipIdx_iff_getElem?.mpr ?_, List.mem_map.mpr ⟨t, ht, rfl⟩⟩
    rw [gd_lt hi]
    exact List.getElem?_eq_getElem hi
/-- somebody can't pay in pass k -/
def BadP (n : Nat) (row : List Int) (s : S) (k : Nat) : Prop := ∃ i, i < n ∧ badK (flow n row).2 (endsOf n row) (s.1.getD i 0) (s.2.getD i 0) k
structure Rok (n : Nat) (row : List Int) : Prop where
  two : 2 ≤ n
  top : n ≤ 16
  rg : ∀ x, x ∈ row → 0 ≤ x ∧ x < n
theorem Rok.per {n : Nat} {row : List Int} (h : Rok n row) {q : Int} (h0 : 0 ≤ q) (h1 : q < n) : Per (endsOf n row) q := per_of h.top (endsPm h.two h.rg) h0 h1
theorem pmq_some {n : Nat} {row : List Int} {s : S} {m : Int} (hr : Rok n row) (hs : Rg n s) (h : pmq s row = some m) : 0 ≤ m ∧ BadP n row s m.toNat := by
  unfold pmq at h
  split at h
  · cases h
  · rename_i p ps e
    cases h
    have hm := min3_mem ps p
    rw [← e] at hm
    obtain ⟨i, t, hi, ht, ex⟩ := ff_mem.mp hm
    rw [hs.l1] at hi ht
    have a := hs.rg _ (gd_mem (l := s.1) (i := i) (d := 0) (by rw [hs.l1]; exact hi))
    have := FE_bad (hr.per a.1 a.2) (fails_iff.mp ht)
    have e1 : (min3 p ps).1 = t.1 := by rw [ex]
    rw [e1]
    exact ⟨this.1, i, hi, this.2⟩
theorem pmq_of {n : Nat} {row : List Int} {s : S} {k : Nat} (hr : Rok n row) (hs : Rg n s) (h : BadP n row s k) : ∃ m, pmq s row = some m ∧ m ≤ k := by
  obtain ⟨i, hi, hb⟩ := h
  have a := hs.rg _ (gd_mem (l := s.1) (i := i) (d := 0) (by rw [hs.l1]; exact hi))
  obtain ⟨x, hx, hk⟩ := bad_FE (hr.per a.1 a.2) hb
  have hm : (x.1, x.2, (i : Int)) ∈ ff s row := ff_mem.mpr ⟨i, x, by rw [hs.l1]; exact hi, by rw [hs.l1]; exact fails_iff.mpr hx, rfl⟩
  unfold pmq
  split
  · rename_i e
    rw [e] at hm; cases hm
  · rename_i p ps e
    rw [e] at hm
    exact ⟨_, rfl, Int.le_trans (min3_le ps p _ hm) hk⟩
/-! ### passes -/
theorem bad0 {n : Nat} {row : List Int} {s : S} : BadP n row s 0 ↔ ¬ NoBad n row s row.length := by
  unfold BadP NoBad badK
  constructor
  · rintro ⟨i, hi, h⟩ nb
    rw [sm, Int.add_zero] at h
    exact nb i hi h
  · intro h
    refine Classical.byContradiction fun c => h fun p hp hb => c ⟨p, hp, ?_⟩
    rw [sm, Int.add_zero]
    exact hb
theorem pass_ok {n : Nat} {row : List Int} {s : S} (hr : Rok n row) (hv : Vd n s) (h : ¬ BadP n row s 0) : runq s row = .ok (aftK (flow n row).2 (endsOf n row) s 1) := by
  have nb : NoBad n row s row.length := Classical.byContradiction fun c => h (bad0.mpr c)
  rcases sim_at hv hr.rg row.length (Nat.le_refl _) with ⟨t, e, hs, _⟩ | ⟨_, c⟩
  · rw [List.take_length] at e
    rw [e]
    congr 1
    have l1 := hs.vd.rg.l1
    have l2 := hs.vd.rg.l2
    have k1 : (aftK (flow n row).2 (endsOf n row) s 1).1.length = n := by rw [aftK_len, hv.rg.l1]
    refine Prod.ext (gd_ext (by rw [k1, l1]) fun i hi => ?_) (gd_ext (by unfold aftK; simp [l2, hv.rg.l1]) fun i hi => ?_)
    · rw [l1] at hi
      rw [aftK_1 (by rw [hv.rg.l1]; exact hi)]
      show _ = (endsOf n row).getD (s.1.getD i 0).toNat 0
      unfold endsOf flow
      rw [← hs.ppl i hi]
      have pt := hs.vd.pm.at hi
      have := (flN_pm2 hr.two hr.rg row.length (Nat.le_refl _)).sit (p := (t.1.getD i 0).toNat) (by omega)
      rw [this]
      omega
    · rw [l2] at hi
      rw [aftK_2 (by rw [hv.rg.l1]; exact hi), hs.prs i hi]
      show _ = _ + (0 + gsum _ (itr _ _ 0))
      rw [Int.zero_add]
      rfl
  · exact absurd nb c
theorem pass_inv {n : Nat} {row : List Int} {s t : S} (hr : Rok n row) (hv : Vd n s) (h : runq s row = .ok t) : ¬ BadP n row s 0 ∧ t = aftK (flow n row).2 (endsOf n row) s 1 := by
  have nb : ¬ BadP n row s 0 := fun hb => by
    rcases sim_at hv hr.rg row.length (Nat.le_refl _) with ⟨t, e, hs, nb⟩ | ⟨⟨e, he⟩, _⟩
    · exact bad0.mp hb nb
    · rw [List.take_length, h] at he; cases he
  have := pass_ok hr hv nb
  rw [h] at this
  exact ⟨nb, Except.ok.inj this⟩
theorem bad_shift {n : Nat} {row : List Int} {s : S} (hs : s.1.length = n) (a b : Nat) : BadP n row (aftK (flow n row).2 (endsOf n row) s a) b ↔ BadP n row s (a + b) := by
  unfold BadP
  refine exists_congr fun i => and_congr_right fun hi => ?_
  rw [aftK_1 (by omega), aftK_2 (by omega)]
  unfold badK
  rw [← itr_add, sm_split]
  unfold gq
  simp only [itr_add, Int.add_assoc]
theorem passes {n : Nat} {row : List Int} {s : S} (hr : Rok n row) (hv : Vd n s) : ∀ k, (∀ j, j < k → ¬ BadP n row s j) → Vd n (aftK (flow n row).2 (endsOf n row) s k) ∧ (aftK (flow n row).2 (endsOf n row) s k).2.sum = s.2.sum
  | 0, _ => by
    have : aftK (flow n row).2 (endsOf n row) s 0 = s := by
      have l1 := hv.rg.l1
      have l2 := hv.rg.l2
      refine Prod.ext (gd_ext (by rw [aftK_len]) fun i hi => ?_) (gd_ext (by unfold aftK; simp [l1, l2]) fun i hi => ?_)
      · rw [aftK_len] at hi
        rw [aftK_1 hi]; rfl
      · have hi : i < s.1.length := by unfold aftK at hi; simpa using hi
        rw [aftK_2 hi, sm, Int.add_zero]
    rw [this]
    exact ⟨hv, rfl⟩
  | k + 1, h => by
    obtain ⟨h1, h2⟩ := passes hr hv k fun j hj => h j (by omega)
    have nb : ¬ BadP n row (aftK (flow n row).2 (endsOf n row) s k) 0 := fun z => h k (by omega) ((bad_shift hv.rg.l1 k 0).mp z)
    have := runq_vd h1 (pass_ok hr h1 nb)
    rw [aftK_add] at this
    exact ⟨this.1, this.2.trans h2⟩
/-- what again does -/
theorem afq_ok {n : Nat} {row : List Int} {s t : S} {k : Int} (hr : Rok n row) (hv : Vd n s) (h0 : 0 ≤ k) (h : afq s row k = .ok t) : t = aftK (flow n row).2 (endsOf n row) s k.toNat ∧ (∀ j : Nat, (j : Int) < k → ¬ BadP n row s j) ∧ Vd n t ∧ t.2.sum = s.2.sum := by
  have P : ∀ i, i < s.1.length → Per (endsOf n row) (s.1.getD i 0) := fun i hi => by
    have a := hv.pm.at (p := i) (by rw [← hv.rg.l1]; exact hi)
    exact hr.per a.1 a.2
  obtain ⟨kn, rfl⟩ : ∃ kn : Nat, k = kn := ⟨k.toNat, by omega⟩
  have key : aft (flow n row).2 (endsOf n row) s kn = t ∧ (∀ j : Nat, (j : Int) < kn → ¬ BadP n row s j) := by
    unfold afq at h
    rw [hv.rg.l1] at h
    split at h
    · rename_i e
      refine ⟨Except.ok.inj h, fun j _ hb => ?_⟩
      obtain ⟨m, hm, _⟩ := pmq_of hr hv.rg hb
      rw [e] at hm; cases hm
    · rename_i m e
      split at h
      · cases h
      · refine ⟨Except.ok.inj h, fun j hj hb => ?_⟩
        obtain ⟨m2, hm, hl⟩ := pmq_of hr hv.rg hb
        rw [e] at hm; cases hm
        omega
  rw [aft_K P] at key
  rw [Int.toNat_natCast]
  have := passes hr hv kn fun j hj => key.2 j (by omega)
  rw [key.1] at this
  exact ⟨key.1.symm, key.2, this⟩
theorem afq_of {n : Nat} {row : List Int} {s : S} {k : Nat} (hr : Rok n row) (hv : Vd n s) (h : ∀ j, j < k → ¬ BadP n row s j) : afq s row k = .ok (aftK (flow n row).2 (endsOf n row) s k) := by
  have P : ∀ i, i < s.1.length → Per (endsOf n row) (s.1.getD i 0) := fun i hi => by
    have a := hv.pm.at (p := i) (by rw [← hv.rg.l1]; exact hi)
    exact hr.per a.1 a.2
  unfold afq
  rw [hv.rg.l1, aft_K P]
  split
  · rfl
  · rename_i m e
    have := pmq_some hr hv.rg e
    rw [if_neg]
    intro c
    exact h m.toNat (by omega) this.2
/-- once is a run -/
theorem again1 {n : Nat} {row : List Int} {s t : S} (hr : Rok n row) (hv : Vd n s) (h : runq s row = .ok t) : afq s row 1 = .ok t := by
  obtain ⟨nb, rfl⟩ := pass_inv hr hv h
  exact afq_of (k := 1) hr hv fun j hj => by rw [show j = 0 by omega]; exact nb
/-- as many as there are, and no more -/
theorem againK {n : Nat} {row : List Int} {s t : S} {k : Nat} (hr : Rok n row) (hv : Vd n s) (hk : ∀ m, pmq s row = some m → (k : Int) ≤ m) : ∀ j, j < k → ¬ BadP n row s j := fun j hj hb => by
  obtain ⟨m, hm, hl⟩ := pmq_of hr hv.rg hb
  have := hk m hm
  omega
/-- once, and the rest -/
theorem againS {n : Nat} {row : List Int} {s t : S} {k : Nat} (hr : Rok n row) (hv : Vd n s) (h : runq s row = .ok t) (hk : ∀ m, pmq s row = some m → ((k + 1 : Nat) : Int) ≤ m) :
    afq s row ((k + 1 : Nat) : Int) = .ok (aftK (flow n row).2 (endsOf n row) s (k + 1)) ∧ afq t row (k : Nat) = .ok (aftK (flow n row).2 (endsOf n row) s (k + 1)) := by
  have nb := againK (t := s) hr hv hk
  refine ⟨afq_of hr hv nb, ?_⟩
  obtain ⟨_, rfl⟩ := pass_inv hr hv h
  have hv2 := (runq_vd hv h).1
  have := afq_of (k := k) hr hv2 fun j hj hb => nb (1 + j) (by omega) ((bad_shift hv.rg.l1 1 j).mp hb)
  rw [aftK_add, Nat.add_comm 1 k] at this
  exact this
/-- a bound on the passes -/
theorem pmq_nn {n : Nat} {row : List Int} {s : S} {m : Int} (hr : Rok n row) (hs : Rg n s) (h : pmq s row = some m) : 0 ≤ m := (pmq_some hr hs h).1
end Tr
end
section
set_option Elab.async false
set_option linter.all false
set_option maxRecDepth 100000
set_option maxHeartbeats 4000000
set_option exponentiation.threshold 4000
namespace Tr
open PySem PySem.Spec PyProof.Rows L2
/-! ### a bound on the passes -/
theorem ls_bd {l : List Int} (h : ∀ x, x ∈ l → -1 ≤ x ∧ x ≤ 1) : -(l.length : Int) ≤ l.sum ∧ l.sum ≤ l.length := by
  induction l with
  | nil => simp
  | cons a l ih =>
    have := h a (by simp)
    have := ih fun x hx => h x (by simp [hx])
    rw [List.sum_cons, List.length_cons]
    omega
theorem sm_bd {m : Nat} {h : Nat → Int} {B : Nat} (hb : ∀ i, h i ≤ B) : sm m h ≤ ((m * B : Nat) : Int) := by
  induction m with
  | zero => simp [sm]
  | succ m ih => have := hb m; rw [sm, Nat.add_mul]; omega
theorem pmq_bd {n : Nat} {row : List Int} {s : S} {m : Int} (hr : Rok n row) (hl : row.length ≤ 1000) (hs : Rg n s) (hz : Szs 180 s.2) (h : pmq s row = some m) : 0 ≤ m ∧ m < 2 ^ 200 := by
  refine ⟨(pmq_some hr hs h).1, ?_⟩
  unfold pmq at h
  split at h
  · cases h
  · rename_i p ps e
    cases h
    have hm := min3_mem ps p
    rw [← e] at hm
    obtain ⟨i, t, hi, ht, ex⟩ := ff_mem.mp hm
    rw [hs.l1] at hi ht
    have a := hs.rg _ (gd_mem (l := s.1) (i := i) (d := 0) (by rw [hs.l1]; exact hi))
    have hP := hr.per a.1 a.2
    have hL := per_ok hP
    have hpl := flow_pl (n := n) hl
    have gb : ∀ q : Int, gsum (flow n row).2 q ≤ ((2000 : Nat) : Int) := fun q => by
      unfold gsum
      by_cases g : q.toNat < (flow n row).2.length
      · have := hpl _ (gd_mem (d := []) g)
        have b := ls_bd (l := ((flow n row).2.getD q.toNat []).map (·.2)) fun x hx => by
          obtain ⟨f, hf, rfl⟩ := List.mem_map.mp hx
          exact this.2 f hf
        rw [List.length_map] at b
        omega
      · rw [gd_ge (by omega)]; simp
    obtain ⟨pl, l1, f, l2, hp, h1, h2, h3, rfl⟩ := fails_iff.mp ht
    have hl1 : (l1.map (·.2)).sum ≤ 2000 := by
      by_cases g : (itr (endsOf n row) (s.1.getD i 0) pl).toNat < (flow n row).2.length
      · have := hpl _ (gd_mem (d := []) g)
        rw [h1] at this
        have b := ls_bd (l := l1.map (·.2)) fun x hx => by
          obtain ⟨f, hf, rfl⟩ := List.mem_map.mp hx
          exact this.2 f (by simp [hf])
        rw [List.length_map] at b
        have := this.1
        rw [List.length_append] at this
        omega
      · rw [gd_ge (by omega)] at h1
        simp at h1
    have hsm := sm_bd (m := pl) (h := gq (flow n row).2 (endsOf n row) (s.1.getD i 0)) fun j => gb _
    have hc0 : s.2.getD i 0 < 2 ^ 180 := by
      have := hz _ (gd_mem (l := s.2) (i := i) (d := 0) (by rw [hs.l2]; exact hi))
      unfold Sz at this
      omega
    rw [ex]
    dsimp only
    generalize hc : s.2.getD i 0 + sm pl (gq (flow n row).2 (endsOf n row) (s.1.getD i 0)) + (l1.map (·.2)).sum = c at *
    generalize -sm (per (endsOf n row) (s.1.getD i 0)) (gq (flow n row).2 (endsOf n row) (s.1.getD i 0)) = loss at *
    generalize per (endsOf n row) (s.1.getD i 0) = L at *
    have hcb : c < 2 ^ 181 := by omega
    split
    · omega
    · rename_i g
      have hl := h3.resolve_left g
      have hd : (c - 1) / loss ≤ c - 1 := Int.ediv_le_self _ (by omega)
      have hd0 : 0 ≤ (c - 1) / loss := Int.ediv_nonneg (by omega) (by omega)
      have : ((c - 1) / loss + 1) * (L : Int) ≤ c * 16 := Int.mul_le_mul (by omega) (by omega) (by omega) (by omega)
      omega
/-! ### deeds -/
inductive Dd
  | exch (x : Int)
  | run (row : List Int)
  | again (row : List Int) (k : Int)
  | go (g : S)
  | give (i c : Int)
  | take (i c : Int)
  | come (c : Int)
  | leave (i : Int)
def dq (t : S) : Dd → Except Er (PyData × S)
  | .exch x => exchq t x
  | .run row => rowq t row
  | .again row k => againq t row k
  | .go g => goq t g
  | .give i c => giveq t i c
  | .take i c => takeq t i c
  | .come c => comeq t c
  | .leave i => leaveq t i
/-- a deed for n people -/
def DOk (n : Nat) : Dd → Prop
  | .exch _ => True
  | .run row => row.length ≤ 100
  | .again row k => row.length ≤ 100 ∧ (∀ x, x ∈ row → 0 ≤ x ∧ x < n) ∧ 0 ≤ k ∧ k ≤ 100
  | .go g => ∃ m, m ≤ 8 ∧ Vd m g
  | .give _ c => 0 ≤ c ∧ c ≤ 10 ^ 20
  | .take _ c => 0 ≤ c ∧ c ≤ 10 ^ 20
  | .come c => n < 7 ∧ 0 ≤ c ∧ c ≤ 10 ^ 20
  | .leave _ => True
/-- somebody goes -/
theorem wo_vd {n : Nat} {s : S} (h : Vd n s) {p : Nat} (hp : p < n) (h3 : 3 ≤ n) : Vd (n - 1) (wo s p) ∧ (wo s p).2.sum = s.2.sum - s.2.getD p 0 := by
  have l1 := h.rg.l1
  have l2 := h.rg.l2
  have ef : ((List.range n).filter fun i => decide (i ≠ p)).length + 1 = n := by
    have := sub_len (V := [p]) (L := List.range n) (by simp) List.nodup_range (by simp [hp])
    rw [List.length_range, List.length_singleton] at this
    have e : (List.range n).filter (fun i => decide (i ≠ p)) = (List.range n).filter (fun x => !decide (x ∈ [p])) := List.filter_congr fun i _ => by
      by_cases g : i = p <;> simp [g]
    rw [e]
    omega
  have e2 : (wo s p).2.length + 1 = n := by
    unfold wo
    rw [List.length_append, List.length_take, List.length_drop, l2]
    omega
  have hsum : (wo s p).2.sum = s.2.sum - s.2.getD p 0 := by
    have e : s.2 = s.2.take p ++ s.2.getD p 0 :: s.2.drop (p + 1) := by
      rw [gd_lt (by omega), ← List.drop_eq_getElem_cons, List.take_append_drop]
    unfold wo
    rw [sum_app]
    have := congrArg List.sum e
    rw [sum_app, List.sum_cons] at this
    omega
  have hmem : ∀ x, x ∈ (wo s p).1 → ∃ i, i < n ∧ i ≠ p ∧ x = s.1.getD i 0 - (if s.1.getD i 0 > s.1.getD p 0 then 1 else 0) := fun x hx => by
    unfold wo pickI at hx
    rw [l1] at hx
    obtain ⟨i, hi, rfl⟩ := List.mem_map.mp hx
    obtain ⟨a, b⟩ := List.mem_filter.mp hi
    exact ⟨i, List.mem_range.mp a, by simpa using b, rfl⟩
  have hq := h.pm.at hp
  refine ⟨⟨⟨?_, by omega, by omega, by have := h.rg.top; omega, fun x hx => ?_⟩, by omega, ?_, fun x hx => ?_⟩, hsum⟩
  · unfold wo pickI
    rw [List.length_map, l1]
    omega
  · obtain ⟨i, hi, ne, rfl⟩ := hmem x hx
    have a := h.pm.at hi
    have : s.1.getD i 0 ≠ s.1.getD p 0 := fun z => ne (h.pm.inj hi hp z)
    split <;> omega
  · unfold wo pickI List.Nodup
    rw [l1, List.pairwise_map]
    refine List.Pairwise.imp_of_mem (fun {i j} hi hj ne e => ?_) (List.nodup_range.filter _)
    obtain ⟨a1, b1⟩ := List.mem_filter.mp hi
    obtain ⟨a2, b2⟩ := List.mem_filter.mp hj
    have a1 := List.mem_range.mp a1
    have a2 := List.mem_range.mp a2
    have n1 : s.1.getD i 0 ≠ s.1.getD p 0 := fun z => (by simpa using b1 : i ≠ p) (h.pm.inj a1 hp z)
    have n2 : s.1.getD j 0 ≠ s.1.getD p 0 := fun z => (by simpa using b2 : j ≠ p) (h.pm.inj a2 hp z)
    refine ne (h.pm.inj a1 a2 ?_)
    split at e <;> split at e <;> omega
  · unfold wo at hx
    rcases List.mem_append.mp hx with hx | hx
    · exact h.nn x (List.mem_of_mem_take hx)
    · exact h.nn x (List.mem_of_mem_drop hx)
theorem set_vd {n : Nat} {s : S} (h : Vd n s) {p : Nat} (hp : p < n) {c : Int} (hc : 0 ≤ c) : Vd n (s.1, s.2.set p c) ∧ (s.2.set p c).sum = s.2.sum - s.2.getD p 0 + c := by
  refine ⟨⟨⟨h.rg.l1, by rw [List.length_set]; exact h.rg.l2, h.rg.pos, h.rg.top, h.rg.rg⟩, h.two, h.nd, nn_of fun i hi => ?_⟩, sum_set (by rw [h.rg.l2]; exact hp)⟩
  rw [gd_set (by rw [h.rg.l2]; exact hp)]
  split
  · exact hc
  · exact h.purse i
theorem add_vd {n : Nat} {s : S} (h : Vd n s) (hn : n < 16) {c : Int} (hc : 0 ≤ c) : Vd (n + 1) (s.1 ++ [((s.1.length : Nat) : Int)], s.2 ++ [c]) ∧ (s.2 ++ [c]).sum = s.2.sum + c := by
  have l1 := h.rg.l1
  refine ⟨⟨⟨by rw [List.length_append, l1]; rfl, by rw [List.length_append, h.rg.l2]; rfl, by omega, by omega, fun x hx => ?_⟩, by have := h.two; omega, ?_, fun x hx => ?_⟩, by rw [sum_app]; simp⟩
  · rcases List.mem_append.mp hx with hx | hx
    · have := h.rg.rg x hx; omega
    · rw [List.mem_singleton.mp hx, l1]; omega
  · refine List.nodup_append.mpr ⟨h.nd, by simp, fun a ha b hb e => ?_⟩
    rw [List.mem_singleton.mp hb, l1] at e
    have := h.rg.rg a ha
    omega
  · rcases List.mem_append.mp hx with hx | hx
    · exact h.nn x hx
    · rw [List.mem_singleton.mp hx]; exact hc
theorem lead_inv {s g : S} (h : leadq s g = .ok ()) : s.1.length = g.1.length ∧ s.2.sum = g.2.sum := by
  unfold leadq at h
  split at h
  · rename_i c
    split at h
    · rename_i c2
      refine ⟨c, ?_⟩
      unfold rsn at c2
      split at c2
      · assumption
      · cases c2
    · cases h
  · cases h
theorem go_inv {s g t : S} {r : PyData} (h : goq s g = .ok (r, t)) : t = g ∧ s.1.length = g.1.length ∧ s.2.sum = g.2.sum := by
  unfold goq at h
  split at h
  · rename_i d e
    unfold distq at e
    split at e
    · rename_i u e2
      have e2 : leadq s g = .ok () := e2
      cases h
      exact ⟨rfl, lead_inv e2⟩
    · cases e
  · cases h
theorem dq_vd {n : Nat} {t t2 : S} {d : Dd} {r : PyData} (h : Vd n t) (hn : n ≤ 7) (hd : DOk n d) (e : dq t d = .ok (r, t2)) : ∃ m, m ≤ 7 ∧ Vd m t2 ∧ t2.2.sum ≤ t.2.sum + 10 ^ 20 := by
  have l1 := h.rg.l1
  cases d with
  | exch x =>
    simp only [dq, exchq] at e
    split at e
    · rename_i u eu
      cases e
      have := exq_vd h eu
      exact ⟨n, hn, this.1, by omega⟩
    · cases e
  | run row =>
    simp only [dq, rowq] at e
    split at e
    · rename_i u eu
      cases e
      have := runq_vd h eu
      exact ⟨n, hn, this.1, by omega⟩
    · cases e
  | again row k =>
    simp only [dq, againq] at e
    split at e
    · rename_i u eu
      cases e
      have := afq_ok (n := n) ⟨h.two, h.rg.top, hd.2.1⟩ h hd.2.2.1 eu
      exact ⟨n, hn, this.2.2.1, by have := this.2.2.2; omega⟩
    · cases e
  | go g =>
    obtain ⟨rfl, e1, e2⟩ := go_inv e
    obtain ⟨m, hm, hv⟩ := hd
    have := hv.rg.l1
    have : m = n := by omega
    subst this
    exact ⟨m, hn, hv, by omega⟩
  | give i c =>
    simp only [dq, giveq] at e
    split at e
    · rename_i g
      cases e
      have hp := h.purse i.toNat
      have := set_vd h (p := i.toNat) (by omega) (c := t.2.getD i.toNat 0 + c) (by have := hd.1; omega)
      exact ⟨n, hn, this.1, by have := this.2; have := hd.2; show (t.2.set i.toNat _).sum ≤ _; omega⟩
    · cases e
  | take i c =>
    simp only [dq, takeq] at e
    split at e
    · rename_i g
      split at e
      · cases e
      · rename_i g2
        cases e
        have := set_vd h (p := i.toNat) (by omega) (c := t.2.getD i.toNat 0 - c) (by omega)
        exact ⟨n, hn, this.1, by have := this.2; have := hd.1; show (t.2.set i.toNat _).sum ≤ _; omega⟩
    · cases e
  | come c =>
    simp only [dq, comeq] at e
    split at e
    · cases e
    · cases e
      have := add_vd h (by omega) hd.2.1
      exact ⟨n + 1, by have := hd.1; omega, this.1, by have := this.2; have := hd.2.2; show (t.2 ++ [c]).sum ≤ _; omega⟩
  | leave i =>
    simp only [dq, leaveq] at e
    split at e
    · rename_i g
      split at e
      · cases e
      · rename_i g2
        cases e
        have := wo_vd h (p := i.toNat) (by omega) (by omega)
        have hp := h.purse i.toNat
        exact ⟨n - 1, by omega, this.1, by have := this.2; omega⟩
    · cases e
/-- the errors of deeds -/
def ErOk : Er → Prop
  | .one i v => i < 8 ∧ i ≠ 6 ∧ ((∃ z, v = .int z) ∨ ∃ z, v = .str z)
  | .few => True
theorem exq_er {s : S} {x : Int} {e : Er} (h : exq s x = .error e) : ErOk e := by
  unfold exq at h
  split at h
  · split at h
    · cases h; exact ⟨by decide, by decide, .inl ⟨_, rfl⟩⟩
    · cases h
  · cases h; exact ⟨by decide, by decide, .inl ⟨_, rfl⟩⟩
theorem runq_er {e : Er} : ∀ {row : List Int} {s : S}, runq s row = .error e → ErOk e
  | [], s, h => by cases h
  | x :: row, s, h => by
    rw [runq_cons] at h
    split at h
    · exact runq_er h
    · rename_i e2 he
      cases h
      exact exq_er he
theorem lead_er {s g : S} {e : Er} (h : leadq s g = .error e) : ErOk e := by
  unfold leadq at h
  split at h
  · split at h
    · cases h
    · rename_i c
      cases h
      refine ⟨by decide, by decide, ?_⟩
      unfold rsn at *
      split
      · rename_i c2
        rw [if_pos c2] at c
        split
        · exact .inl ⟨_, rfl⟩
        · rename_i e; rw [e] at c; exact absurd rfl c
      · exact .inr ⟨_, rfl⟩
  · cases h; exact ⟨by decide, by decide, .inl ⟨_, rfl⟩⟩
theorem dq_er {t : S} {d : Dd} {e : Er} (h : dq t d = .error e) : ErOk e := by
  cases d with
  | exch x =>
    simp only [dq, exchq] at h
    split at h
    · cases h
    · rename_i e2 he; cases h; exact exq_er he
  | run row =>
    simp only [dq, rowq] at h
    split at h
    · cases h
    · rename_i e2 he; cases h; exact runq_er he
  | again row k =>
    simp only [dq, againq] at h
    split at h
    · cases h
    · rename_i e2 he
      cases h
      unfold afq at he
      split at he
      · cases he
      · split at he
        · cases he; exact ⟨by decide, by decide, .inl ⟨_, rfl⟩⟩
        · cases he
  | go g =>
    simp only [dq, goq] at h
    split at h
    · cases h
    · rename_i e2 he
      cases h
      unfold distq at he
      split at he
      · cases he
      · rename_i e3 he3; cases he; exact lead_er he3
  | give i c =>
    simp only [dq, giveq] at h
    split at h
    · cases h
    · cases h; exact ⟨by decide, by decide, .inl ⟨_, rfl⟩⟩
  | take i c =>
    simp only [dq, takeq] at h
    split at h
    · split at h
      · cases h; exact ⟨by decide, by decide, .inl ⟨_, rfl⟩⟩
      · cases h
    · cases h; exact ⟨by decide, by decide, .inl ⟨_, rfl⟩⟩
  | come c =>
    simp only [dq, comeq] at h
    split at h
    · cases h; exact ⟨by decide, by decide, .inl ⟨_, rfl⟩⟩
    · cases h
  | leave i =>
    simp only [dq, leaveq] at h
    split at h
    · split at h
      · cases h; exact True.intro
      · cases h
    · cases h; exact ⟨by decide, by decide, .inl ⟨_, rfl⟩⟩
/-! ### there and back -/
theorem come_leave {n : Nat} {s : S} (h : Vd n s) (hn : n < 12) {c : Int} : comeq s c = .ok (.int ((n : Int) + 1), (s.1 ++ [((n : Nat) : Int)], s.2 ++ [c])) ∧ leaveq (s.1 ++ [((n : Nat) : Int)], s.2 ++ [c]) n = .ok (.int c, s) := by
  have l1 := h.rg.l1
  have l2 := h.rg.l2
  constructor
  · unfold comeq
    rw [l1, if_neg (by omega)]
  · unfold leaveq
    have el : (s.1 ++ [((n : Nat) : Int)], s.2 ++ [c]).1.length = n + 1 := by show (s.1 ++ [((n : Nat) : Int)]).length = _; rw [List.length_append, l1]; rfl
    have g1 : (s.1 ++ [((n : Nat) : Int)]).getD n 0 = (n : Int) := by
      rw [List.getD_eq_getElem?_getD, List.getElem?_append_right (by omega), l1, Nat.sub_self]; rfl
    have g2 : (s.2 ++ [c]).getD n 0 = c := by
      rw [List.getD_eq_getElem?_getD, List.getElem?_append_right (by omega), l2, Nat.sub_self]; rfl
    rw [el, if_pos ⟨by omega, by omega⟩, if_neg (by have := h.two; omega), Int.toNat_natCast]
    have ew : wo (s.1 ++ [((n : Nat) : Int)], s.2 ++ [c]) n = s := by
      unfold wo
      refine Prod.ext ?_ ?_
      · show pickI _ _ (s.1 ++ [((n : Nat) : Int)]).length = s.1
        rw [List.length_append, l1]
        unfold pickI
        rw [List.length_singleton, List.range_succ, List.filter_append]
        have e1 : (List.range n).filter (fun i => decide (i ≠ n)) = List.range n := List.filter_eq_self.mpr fun i hi => by have := List.mem_range.mp hi; simp; omega
        have e2 : ([n].filter fun i => decide (i ≠ n)) = [] := by simp
        rw [e1, e2, List.append_nil]
        refine gd_ext (by rw [List.length_map, List.length_range, l1]) fun i hi => ?_
        rw [List.length_map, List.length_range] at hi
        have g3 : (s.1 ++ [((n : Nat) : Int)]).getD i 0 = s.1.getD i 0 := by
          rw [List.getD_eq_getElem?_getD, List.getElem?_append_left (by omega), ← List.getD_eq_getElem?_getD]
        rw [gd_map hi]
        show (s.1 ++ [((n : Nat) : Int)]).getD i 0 - (if (s.1 ++ [((n : Nat) : Int)]).getD i 0 > (s.1 ++ [((n : Nat) : Int)]).getD n 0 then 1 else 0) = _
        rw [g1, g3, if_neg (by have := h.pm.at hi; omega)]
        omega
      · show (s.2 ++ [c]).take n ++ (s.2 ++ [c]).drop (n + 1) = s.2
        rw [← l2, List.take_left' rfl, List.drop_of_length_le (by rw [List.length_append]; exact Nat.le_refl _), List.append_nil]
    rw [ew]
    show Except.ok (PyData.int ((s.2 ++ [c]).getD n 0), s) = _
    rw [g2]
theorem give_take {n : Nat} {s : S} (h : Vd n s) {i : Nat} (hi : i < n) {c : Int} : giveq s i c = .ok (.int (s.2.getD i 0 + c), (s.1, s.2.set i (s.2.getD i 0 + c))) ∧ takeq (s.1, s.2.set i (s.2.getD i 0 + c)) i c = .ok (.int (s.2.getD i 0), s) := by
  have l1 := h.rg.l1
  have l2 := h.rg.l2
  constructor
  · unfold giveq
    rw [if_pos ⟨by omega, by omega⟩, Int.toNat_natCast]
  · unfold takeq
    rw [if_pos ⟨by omega, by show (i : Int) < ((s.1.length : Nat) : Int); omega⟩, Int.toNat_natCast]
    have g : (s.2.set i (s.2.getD i 0 + c)).getD i 0 = s.2.getD i 0 + c := by rw [gd_set (by omega), if_pos rfl]
    have hp := h.purse i
    show (if (s.2.set i (s.2.getD i 0 + c)).getD i 0 - c < 0 then _ else Except.ok (PyData.int ((s.2.set i (s.2.getD i 0 + c)).getD i 0 - c), (s.1, (s.2.set i (s.2.getD i 0 + c)).set i ((s.2.set i (s.2.getD i 0 + c)).getD i 0 - c)))) = _
    rw [g, if_neg (by omega), show s.2.getD i 0 + c - c = s.2.getD i 0 by omega]
    have e : (s.2.set i (s.2.getD i 0 + c)).set i (s.2.getD i 0) = s.2 := by
      rw [List.set_set, gd_lt (by omega), List.set_getElem_self]
    rw [e]
end Tr
end
section
set_option Elab.async false
set_option linter.all false
set_option maxRecDepth 100000
set_option maxHeartbeats 4000000
namespace Tr
open PySem PySem.Spec PyProof.Rows L2
theorem b01 (b : Bool) : -(2 ^ 64) < (if b = true then (1 : Int) else 0) ∧ (if b = true then (1 : Int) else 0) < 2 ^ 64 ∧ 0 ≤ (if b = true then (1 : Int) else 0) := by cases b <;> decide
/-- a source of draws -/
structure Src (B : Int) (H : Hp) (so : Addr) : Prop where
  ex : ∃ a b c : Int, H so = some (.lst [.int a, .int b, .int c]) ∧ 0 ≤ a ∧ 0 ≤ b ∧ b < 2 ^ 63 ∧ 0 ≤ c ∧ c ≤ B
theorem md {j : Int} (h : 0 < j) : 0 < j := h
def spStream : Sp := fun vs H Q _ => ∃ (a : Addr) (ns : List Int) (k : Nat), vs = [.ref a, .int k] ∧ H a = some (.lst (ns.map .int)) ∧ k < ns.length ∧ k ≤ 100 ∧ ∀ p H', H p = none → Same H H' → Src 0 H' p → Q (.ref p) H'
def spDraw (k : Nat) : Sp := fun vs H Q _ => ∃ (so : Addr) (B bound : Int) (j : Nat), vs = [.ref so, .int bound] ∧ Src B H so ∧ B + ((j : Nat) : Int) ≤ 2 ^ 40 ∧ 1 ≤ bound ∧ bound ≤ (10 ^ 7) ^ (j + 1) ∧ j ≤ k ∧
  ∀ (r : Int) (H' : Hp), 0 ≤ r → r < bound → Kp so H H' → Src (B + ((j + 1 : Nat) : Int)) H' so → Q (.int r) H'
theorem p10 (j : Nat) : ((10 : Int) ^ 7) ^ (j + 1) = (10 ^ 7) ^ j * 10 ^ 7 := Int.pow_succ _ _
theorem p10_pos : ∀ j : Nat, 1 ≤ ((10 : Int) ^ 7) ^ j
  | 0 => by decide
  | j + 1 => by have := p10_pos j; rw [p10]; omega
theorem p10_mono {i : Nat} : ∀ {j : Nat}, i ≤ j → ((10 : Int) ^ 7) ^ i ≤ (10 ^ 7) ^ j
  | 0, h => by rw [show i = 0 by omega]; exact Int.le_refl _
  | j + 1, h => by
    rcases Nat.lt_or_ge i (j + 1) with l | l
    · have := p10_mono (i := i) (j := j) (by omega)
      have := p10_pos j
      rw [p10]; omega
    · rw [show i = j + 1 by omega]; exact Int.le_refl _
theorem drawlog {bound : Int} {j : Nat} (h1 : 1 ≤ bound) (h2 : bound ≤ (10 ^ 7) ^ (j + 1)) (hj : j ≤ 60) : bound.natAbs.log2 < 9000 := by
  have e2 : bound ≤ ((10 ^ 7) ^ 61 : Int) := Int.le_trans h2 (p10_mono (by omega))
  have e3 : bound.natAbs < 2 ^ 8000 := by
    have e4 : ((10 : Int) ^ 7) ^ 61 < ((2 ^ 8000 : Nat) : Int) := by decide +kernel
    have : (bound.natAbs : Int) < ((2 ^ 8000 : Nat) : Int) := by
      rw [Int.natAbs_of_nonneg (by omega)]
      exact Int.lt_of_le_of_lt e2 e4
    exact Int.ofNat_lt.mp this
  exact Nat.lt_of_lt_of_le ((Nat.log2_lt (by omega)).mpr e3) (by decide)
section
variable {P : Program} {w : World} {K : PySem.W.Frag} {mg : Str → Option Value} {base : Heap}
theorem sc__law_stream : FnScope ["_law_script", "_law_k", "_law_cell"] ["_law_script", "_law_k"] (defScope s__law_stream) := ⟨rfl, rfl, rfl, by decide +kernel, rfl, by decide +kernel, by decide +kernel⟩
theorem ok__law_stream (T : Tx K mg) : FnOk P w K mg base CX0 1 (He.ga K "_law_stream") (fdOf K (He.ga K "_law_stream")) ["_law_script", "_law_k"] spStream := by
  refine T.F__law_stream.ok sc__law_stream (fun vs H Q E h => ?_) (fun cdv A outer s H vs Q E hr h => ?_)
  · obtain ⟨a, ns, k, rfl, _⟩ := h
    rfl
  · obtain ⟨a, ns, k, rfl, ha, hk, hk2, h⟩ := h
    refine ⟨_, PSs.nox (pss_cons (ps_set (i := 2) sc__law_stream.nd rfl (Or.inl rfl) pe_int)
      (pss_cons (ps_if (pt_cmpR op_lt (pv 1) (pe_callB call_len_seq rfl T.b_len bt_len (pa_cons (pv 0) pa_nil)) (nomark _)) (pss_one (ps_set (i := 2) sc__law_stream.nd rfl (Or.inl rfl) (pe_ix ix_list (pv 0) (pv 1) (fun _ _ => rfl)))) pss_nil)
      (pss_one (ps_ret (pe_lst (pa_cons (pe_op op_mul (pe_callB call_abs rfl T.b_abs bt_abs (pa_cons (pv 2) pa_nil)) (pe_callTy call_int1 rfl T.b_int bt_int (pa_cons (pe_cmpR op_ge (pe_callB call_abs rfl T.b_abs bt_abs (pa_cons (pv 2) pa_nil)) (pe_op op_pow pe_int pe_int) (nomark _)) pa_nil))) (pa_cons (pe_op op_add (pe_op op_add (pe_op op_mod (pv 2) pe_int) (pe_op op_mul pe_int (pv 1))) pe_int) (pa_cons pe_int pa_nil)))))))), ?_⟩
    obtain ⟨m, hm⟩ := get_lt (xs := ns) (i := k) hk
    refine ⟨_, rfl, _, rfl, a, _, rfl, .inl (SqL.of ha), _, _, rfl, rfl, _, rfl, iteD (fun c1 => ?_) fun c1 => absurd (by rw [List.length_map]; exact Int.ofNat_lt.mpr hk) c1⟩
    refine ⟨_, rfl, _, rfl, a, _, _, _, rfl, rfl, SqL.of ha, atI_nat (get_int hm), ?_⟩
    refine ⟨_, rfl, m, rfl, _, rfl, m, rfl, _, _, rfl, rfl, ⟨by decide, by decide, by decide⟩, _, _, rfl, rfl, .inr ⟨_, rfl, _, _, rfl, rfl, (.inr ⟨(b01 _).1, (b01 _).2.1⟩), ?_⟩⟩
    refine ⟨_, rfl, _, _, rfl, rfl, by show (0 : Int) < 2305843009213693951; decide, _, rfl, _, _, rfl, rfl, .inl ⟨by decide, by decide⟩, _, _, rfl, rfl, _, _, rfl, rfl, line3, fun p hp => ?_⟩
    refine h p _ hp (Same.new hp) ⟨_, _, _, upd_same, ?_, ?_, ?_, by decide, by decide⟩
    · refine Int.mul_nonneg ?_ ?_
      · split <;> omega
      · exact (b01 _).2.2
    · have := Int.emod_nonneg m (b := 2305843009213693951) (by decide)
      show 0 ≤ m % 2305843009213693951 + 39373 * (k : Int) + 29
      omega
    · have := Int.emod_lt_of_pos m (b := 2305843009213693951) (by decide)
      show m % 2305843009213693951 + 39373 * (k : Int) + 29 < 2 ^ 63
      omega
theorem sc__law_draw : FnScope ["_law_source", "_law_bound", "_law_found", "_law_once", "_law_twice"] ["_law_source", "_law_bound"] (defScope s__law_draw) := ⟨rfl, rfl, rfl, by decide +kernel, rfl, by decide +kernel, by decide +kernel⟩
theorem draw_of (T : Tx K mg) (k : Nat) (hk : k ≤ 60) (spR : Sp) (ok__law_draw : Tx K mg → FnOk P w K mg base CX0 k (He.ga K "_law_draw") (fdOf K (He.ga K "_law_draw")) ["_law_source", "_law_bound"] spR)
    (hR : ∀ j, 1 ≤ j → j ≤ k → ∀ (H : Hp) (Q : VK) (E : XK) (so : Addr) (B bound : Int), Src B H so → B + (j : Nat) ≤ 2 ^ 40 + 1 → 1 ≤ bound → bound ≤ (10 ^ 7) ^ j → (∀ (r : Int) (H' : Hp), 0 ≤ r → r < bound → Kp so H H' → Src (B + (j : Nat)) H' so → Q (.int r) H') → spR [.ref so, .int bound] H Q E) :
    FnOk P w K mg base CX0 (k + 1) (He.ga K "_law_draw") (fdOf K (He.ga K "_law_draw")) ["_law_source", "_law_bound"] (spDraw k) := by
  refine T.F__law_draw.ok sc__law_draw (fun vs H Q E h => ?_) (fun cdv A outer s H vs Q E hr h => ?_)
  · obtain ⟨so, B, bound, j, rfl, _⟩ := h
    rfl
  · obtain ⟨so, B, bound, j, rfl, hs, hB, hb1, hb2, hj, h⟩ := h
    refine ⟨_, PSs.nox (pss_cons (ps_if (pt_cmpR op_gt (pe_ix ix_list (pv 0) pe_int (fun _ _ => rfl)) pe_int (nomark _)) (pss_cons (ps_set (i := 2) sc__law_draw.nd rfl (Or.inl rfl) (pe_op op_mod (pe_ix ix_list (pv 0) pe_int (fun _ _ => rfl)) (pv 1)))
      (pss_cons (ps_asg (pe_op op_fdivW (pe_ix ix_list (pv 0) pe_int (fun _ _ => rfl)) (pv 1)) (pg_sub (pv 0) pe_int set_list))
      (pss_one (ps_ret (pv 2))))) pss_nil)
      (pss_cons (ps_if (pt_cmpR op_gt (pv 1) (pe_op op_pow pe_int pe_int) (nomark _)) (pss_one (ps_ret (pe_op op_mod (pe_op op_add (pe_call (ok__law_draw T) (hr.mono (Nat.le_refl _)) rfl T.g__law_draw T.F__law_draw.kp T.b_f__law_draw .nil pass0 (pa_cons (pv 0) (pa_cons (pe_op op_pow pe_int pe_int) pa_nil))) (pe_op op_mul (pe_op op_pow pe_int pe_int) (pe_call (ok__law_draw T) (hr.mono (Nat.le_refl _)) rfl T.g__law_draw T.F__law_draw.kp T.b_f__law_draw .nil pass0 (pa_cons (pv 0) (pa_cons (pe_op op_add (pe_op op_fdivW (pe_op op_sub (pv 1) pe_int) (pe_op op_pow pe_int pe_int)) pe_int) pa_nil))))) (pv 1)))) pss_nil)
      (pss_cons (ps_asg (pe_op op_add (pe_ix ix_list (pv 0) pe_int (fun _ _ => rfl)) pe_int) (pg_sub (pv 0) pe_int set_list))
      (pss_cons (ps_set (i := 3) sc__law_draw.nd rfl (Or.inl rfl) (pe_op op_mod (pe_op op_mul (pe_op op_add (pe_ix ix_list (pv 0) pe_int (fun _ _ => rfl)) (pe_op op_mul pe_int (pe_ix ix_list (pv 0) pe_int (fun _ _ => rfl)))) (pe_op op_add pe_int (pe_ix ix_list (pv 0) pe_int (fun _ _ => rfl)))) pe_int))
      (pss_cons (ps_set (i := 4) sc__law_draw.nd rfl (Or.inl rfl) (pe_op op_mod (pe_op op_mul (pe_op op_add (pe_op op_add (pv 3) (pe_ix ix_list (pv 0) pe_int (fun _ _ => rfl))) (pe_op op_fdivW (pe_ix ix_list (pv 0) pe_int (fun _ _ => rfl)) pe_int)) (pe_op op_add (pe_op op_mod (pv 3) pe_int) pe_int)) pe_int))
      (pss_one (ps_ret (pe_op op_mod (pe_op op_fdivW (pe_op op_mod (pe_op op_add (pe_op op_mul (pv 4) pe_int) (pv 3)) pe_int) pe_int) (pv 1))))))))), ?_⟩
    have hlog : bound.natAbs.log2 < 9000 := drawlog hb1 hb2 (by omega)
    obtain ⟨a, b, c, hso, a0, b0, b1, c0, c1⟩ := hs
    refine ⟨_, rfl, so, _, _, _, rfl, rfl, SqL.of hso, atI_nat (j := 0) rfl, _, _, rfl, rfl, _, rfl, iteD (fun ca => ?_) fun ca => ?_⟩
    · refine ⟨_, rfl, so, _, _, _, rfl, rfl, SqL.of hso, atI_nat (j := 0) rfl, _, rfl, _, _, rfl, rfl, by show 0 < bound; omega, ?_⟩
      refine ⟨_, rfl, so, _, _, _, rfl, rfl, SqL.of hso, atI_nat (j := 0) rfl, _, rfl, _, _, rfl, rfl, ⟨by omega, hlog⟩, ?_⟩
      exact ⟨_, rfl, so, _, 0, 0, rfl, rfl, hso, rfl, _, rfl, h (a % bound) _ (Int.emod_nonneg _ (by omega)) (Int.emod_lt_of_pos _ (by omega)) Kp.upd ⟨_, _, _, upd_same, Int.ediv_nonneg a0 (by omega), b0, b1, c0, by omega⟩⟩
    · refine ⟨_, rfl, _, _, rfl, rfl, ⟨by decide, by decide, by decide⟩, _, _, rfl, rfl, _, rfl, iteD (fun cb => ?_) fun cb => ?_⟩
      · have cb : (10 : Int) ^ 7 < bound := cb
        obtain ⟨i, rfl⟩ : ∃ i, j = i + 1 := by
          refine ⟨j - 1, ?_⟩
          refine Classical.byContradiction fun z => ?_
          have : j = 0 := by omega
          subst this
          omega
        have hs : Src B H so := ⟨a, b, c, hso, a0, b0, b1, c0, c1⟩
        refine ⟨_, rfl, _, _, rfl, rfl, ⟨by decide, by decide, by decide⟩, hR 1 (Nat.le_refl _) (by omega) H _ _ so B _ hs (by omega) (by decide) (by decide) fun r1 H1 r10 r11 k1 s1 => ?_⟩
        refine ⟨_, _, rfl, rfl, ⟨by decide, by decide, by decide⟩, _, rfl, _, rfl, _, _, rfl, rfl, _, _, rfl, rfl, ⟨by decide, by decide, by decide⟩, _, _, rfl, rfl, ⟨by decide +kernel, by decide +kernel⟩, _, _, rfl, rfl, ?_⟩
        have d0 : 0 ≤ (bound - 1) / 10 ^ 7 := Int.ediv_nonneg (by omega) (by decide)
        have d1 : (bound - 1) / 10 ^ 7 + 1 ≤ (10 ^ 7) ^ (i + 1) := by
          rw [p10 (i + 1)] at hb2
          have : (bound - 1) / 10 ^ 7 < (10 ^ 7) ^ (i + 1) := Int.ediv_lt_of_lt_mul (by decide) (by omega)
          omega
        refine hR (i + 1) (by omega) hj H1 _ _ so _ ((bound - 1) / 10 ^ 7 + 1) s1 (by omega) (by omega) d1 fun r2 H2 r20 r21 k2 s2 => ?_
        refine ⟨_, _, rfl, rfl, .inl ⟨by decide, by decide⟩, _, _, rfl, rfl, _, rfl, _, _, rfl, rfl, by omega, ?_⟩
        refine h _ H2 (Int.emod_nonneg _ (by omega)) (Int.emod_lt_of_pos _ (by omega)) (k1.trans k2) ?_
        have e : B + ((i + 1 + 1 : Nat) : Int) = B + ((1 : Nat) : Int) + ((i + 1 : Nat) : Int) := by omega
        rw [e]
        exact s2
      · have c2 : c < 2 ^ 41 := by omega
        refine ⟨_, rfl, so, _, _, _, rfl, rfl, SqL.of hso, atI_nat (j := 2) rfl, _, _, rfl, rfl, _, rfl, so, _, 2, 2, rfl, rfl, hso, rfl, ?_⟩
        have h1 : upd H so (.lst [.int a, .int b, .int (c + 1)]) so = some (.lst [.int a, .int b, .int (c + 1)]) := upd_same
        have k1 : Kp so H (upd H so (.lst [.int a, .int b, .int (c + 1)])) := Kp.upd
        change tSeq _ _ _ _ (upd H so (.lst [.int a, .int b, .int (c + 1)]))
        generalize upd H so (.lst [.int a, .int b, .int (c + 1)]) = H1 at *
        refine ⟨_, rfl, so, _, _, _, rfl, rfl, SqL.of h1, atI_nat (j := 1) rfl, _, rfl, so, _, _, _, rfl, rfl, SqL.of h1, atI_nat (j := 2) rfl, _, _, rfl, rfl, .inl ⟨by decide, by decide⟩, _, _, rfl, rfl, _, rfl, so, _, _, _, rfl, rfl, SqL.of h1, atI_nat (j := 2) rfl, _, _, rfl, rfl, _, _, rfl, rfl, .inr ⟨by omega, by omega⟩, _, _, rfl, rfl, md (by decide), ?_⟩
        refine ⟨_, rfl, _, rfl, so, _, _, _, rfl, rfl, SqL.of h1, atI_nat (j := 2) rfl, _, _, rfl, rfl, _, rfl, so, _, _, _, rfl, rfl, SqL.of h1, atI_nat (j := 1) rfl, _, _, rfl, rfl, ⟨by decide, by decide +kernel⟩, _, _, rfl, rfl, _, rfl, _, _, rfl, rfl, md (by decide), _, _, rfl, rfl, _, _, rfl, rfl, .inr ⟨?_, ?_⟩, _, _, rfl, rfl, md (by decide), ?_⟩
        · have := Int.emod_nonneg ((b + 48271 * (c + 1)) * (39373 + (c + 1)) % 2147483647) (b := 40009) (by decide); omega
        · have := Int.emod_lt_of_pos ((b + 48271 * (c + 1)) * (39373 + (c + 1)) % 2147483647) (b := 40009) (by decide); omega
        refine ⟨_, rfl, _, _, rfl, rfl, .inr ⟨by decide, by decide⟩, _, rfl, _, _, rfl, rfl, _, _, rfl, rfl, md (by decide), _, _, rfl, rfl, ⟨by decide, by decide +kernel⟩, _, rfl, _, _, rfl, rfl, by omega, ?_⟩
        exact h _ H1 (Int.emod_nonneg _ (by omega)) (Int.emod_lt_of_pos _ (by omega)) k1 ⟨_, _, _, h1, a0, b0, b1, by omega, by omega⟩
theorem ok_draw (T : Tx K mg) : ∀ k, k ≤ 60 → FnOk P w K mg base CX0 (k + 1) (He.ga K "_law_draw") (fdOf K (He.ga K "_law_draw")) ["_law_source", "_law_bound"] (spDraw k)
  | 0, h => draw_of T 0 h (fun _ _ _ _ => False) (fun _ => ⟨fun _ _ _ _ z => z.elim, fun _ _ _ _ _ _ _ _ _ _ _ _ _ z => z.elim⟩) fun j h1 h2 => by omega
  | k + 1, h => draw_of T (k + 1) h (spDraw k) (fun _ => ok_draw T k (by omega)) fun j h1 h2 H Q E so B bound hs hB hb1 hb2 q => by
    obtain ⟨i, rfl⟩ : ∃ i, j = i + 1 := ⟨j - 1, by omega⟩
    exact ⟨so, B, bound, i, rfl, hs, by omega, hb1, hb2, by omega, q⟩
end
end Tr
end
section
set_option Elab.async false
set_option linter.all false
set_option maxRecDepth 100000
set_option maxHeartbeats 4000000
namespace Tr
open PySem PySem.Spec PyProof.Rows L2
/-! ### sources -/
theorem Src.mono {B C : Int} {H : Hp} {so : Addr} (h : Src B H so) (k : B ≤ C) : Src C H so := by
  obtain ⟨a, b, c, h1, h2, h3, h4, h5, h6⟩ := h
  exact ⟨a, b, c, h1, h2, h3, h4, h5, by omega⟩
theorem Src.same {B : Int} {H H' : Hp} {so : Addr} (h : Src B H so) (k : Same H H') : Src B H' so := by
  obtain ⟨a, b, c, h1, h2⟩ := h
  exact ⟨a, b, c, k _ _ h1, h2⟩
theorem Src.kps {B : Int} {H H' : Hp} {so : Addr} {l : List Addr} (h : Src B H so) (k : Kps l H H') (n : so ∉ l) : Src B H' so := by
  obtain ⟨a, b, c, h1, h2⟩ := h
  exact ⟨a, b, c, k _ _ n h1, h2⟩
theorem Src.kp {B : Int} {H H' : Hp} {so l : Addr} (h : Src B H so) (k : Kp l H H') (n : so ≠ l) : Src B H' so := by
  obtain ⟨a, b, c, h1, h2⟩ := h
  exact ⟨a, b, c, k _ _ n h1, h2⟩
theorem Src.ne {B : Int} {H : Hp} {so p : Addr} (h : Src B H so) (n : H p = none) : so ≠ p := by
  obtain ⟨a, b, c, h1, h2⟩ := h
  exact ne_of_none h1 n
theorem Src.tups {B : Int} {H H' : Hp} {so : Addr} (h : Src B H so) (k : Kp so H H') : Tups H H' := by
  obtain ⟨a, b, c, h1, h2⟩ := h
  exact k.tups h1
theorem seq_nat {k n : Nat} (h : k < n) : seqIndex? (k : Int) n = some k := by
  simp only [seqIndex?]
  rw [if_neg (show ¬ (k : Int) < 0 by omega)]
  simp
  omega
theorem cut_from (ns : List Int) (hi : Option Int) : ∃ ms : List Int, cutV (ns.map V.int) (some 3) hi = ms.map V.int ∧ ms.length ≤ ns.length - 3 := by
  have e : HT.sIx (ns.map V.int).length 0 (some 3) = min 3 (ns.map V.int).length := HT.sIx_nat (ns.map V.int).length 0 3
  refine ⟨(ns.drop (HT.sIx (ns.map V.int).length 0 (some 3))).take (HT.sIx (ns.map V.int).length (ns.map V.int).length hi - HT.sIx (ns.map V.int).length 0 (some 3)), ?_, ?_⟩
  · unfold cutV
    rw [List.map_take, List.map_drop]
  · rw [List.length_take, List.length_drop, e, List.length_map]; omega
theorem mapErase : ∀ (l : List Int) (i : Nat), (l.map V.int).eraseIdx i = (l.eraseIdx i).map V.int
  | [], i => rfl
  | a :: l, 0 => rfl
  | a :: l, i + 1 => by
    show V.int a :: (l.map V.int).eraseIdx i = _
    rw [mapErase l i]
    rfl
theorem erase_perm : ∀ (l : List Int) (i : Nat) (z : Int), l[i]? = some z → (z :: l.eraseIdx i).Perm l
  | [], i, z, h => by cases i <;> cases h
  | a :: l, 0, z, h => by cases h; exact .refl _
  | a :: l, i + 1, z, h => (List.Perm.swap _ _ _).trans ((erase_perm l i z h).cons a)
theorem or_list {F : V → Hp → Prop} {σ : L2.St} {H2 : Hp} {p2 : Addr} {K : PySem.W.Frag} {ns : List Int} (h2 : H2 p2 = some (.lst (ns.map .int)))
    (hF : ∀ r ms H', (r = p2 ∨ H2 r = none) → Same H2 H' → H' r = some (.lst (ms.map V.int)) → 1 ≤ ms.length → (ms = ns ∨ (ns = [] ∧ ms.length = 1)) → F (.ref r) H') :
    ∃ k, TruV K (.ref p2) H2 k ∧ if k = true then F (.ref p2) H2 else tLst (tCons (tC (.int 0)) tNil) σ H2 F := by
  refine ⟨!(ns.map V.int).isEmpty, .inl ⟨_, SqL.of h2, rfl⟩, ?_⟩
  cases ns with
  | nil => exact ⟨line1, fun l hl => hF l [0] _ (.inr hl) (Same.new hl) upd_same (Nat.le_refl _) (.inr ⟨rfl, rfl⟩)⟩
  | cons x ns => exact hF p2 _ _ (.inl rfl) (Same.refl _) h2 (by simp) (.inl rfl)
theorem shaped_lI (ns : List Int) : SeqAt.shaped (.list (ns.map PyData.int)) = true := by
  have h1 : (PyData.list (ns.map PyData.int)).canLay0 = true := lay_ints ns
  have h2 : (PyData.list (ns.map PyData.int)).depth ≤ 64 := by
    show PyData.depthAll (ns.map PyData.int) + 1 ≤ 64
    have := dep_ints ns
    omega
  unfold SeqAt.shaped
  rw [h1, decide_eq_true h2]
  rfl
theorem eqv_lI (xs ys : List Int) : PyData.eqv (.list (xs.map PyData.int)) (.list (ys.map PyData.int)) = decide (xs = ys) := eqv_ints xs ys
theorem dp_lI {K : PySem.W.Frag} {H : Hp} {a : Addr} {ns : List Int} (h : H a = some (.lst (ns.map V.int))) : Dp K H (.ref a) (.list (ns.map PyData.int)) := .lst (SqL.of h) (DpAll.ints ns)
def spPick : Sp := fun vs H Q _ => ∃ (so a : Addr) (B : Int) (xs : List V), vs = [.ref so, .ref a] ∧ Src B H so ∧ B ≤ 2 ^ 39 ∧ H a = some (.lst xs) ∧ a ≠ so ∧ 1 ≤ xs.length ∧ xs.length ≤ 100 ∧
  ∀ (i : Nat) (x : V) (H' : Hp), xs[i]? = some x → Kp so H H' → Src (B + 1) H' so → Q x H'
def spShuf : Sp := fun vs H Q _ => ∃ (so a : Addr) (B : Int) (ns : List Int), vs = [.ref so, .ref a] ∧ Src B H so ∧ B ≤ 2 ^ 38 ∧ H a = some (.lst (ns.map .int)) ∧ ns.length ≤ 16 ∧
  ∀ (p : Addr) (ms : List Int) (H' : Hp), H p = none → Kp so H H' → H' p = some (.lst (ms.map .int)) → ms.Perm ns → Src (B + 16) H' so → Q (.ref p) H'
def spFold (K : PySem.W.Frag) : Sp := fun vs H Q _ => ∃ (a : Addr) (ns : List Int), vs = [.ref a, .int 3] ∧ SqL K H a (ns.map V.int) ∧ ns.length ≤ 63 ∧
  ∀ (p : Addr) (ms : List Int) (H' : Hp), H p = none → Same H H' → H' p = some (.lst (ms.map .int)) → 1 ≤ ms.length → ms.length ≤ 3 → Q (.ref p) H'
section
variable {P : Program} {w : World} {K : PySem.W.Frag} {mg : Str → Option Value} {base : Heap}
theorem sc__law_pick : FnScope ["_law_source", "_law_some"] ["_law_source", "_law_some"] (defScope s__law_pick) := ⟨rfl, rfl, rfl, by decide +kernel, rfl, by decide +kernel, by decide +kernel⟩
theorem ok__law_pick (T : Tx K mg) : FnOk P w K mg base CX0 2 (He.ga K "_law_pick") (fdOf K (He.ga K "_law_pick")) ["_law_source", "_law_some"] spPick := by
  refine T.F__law_pick.ok sc__law_pick (fun vs H Q E h => ?_) (fun cdv A outer s H vs Q E hr h => ?_)
  · obtain ⟨so, a, B, xs, rfl, _⟩ := h
    rfl
  · obtain ⟨so, a, B, xs, rfl, hs, hB, ha, ne, l1, l2, h⟩ := h
    refine ⟨_, PSs.nox (pss_one (ps_ret (pe_ix ix_list (pv 1) (pe_call (ok_draw T 0 (by decide)) (hr.mono (by decide)) rfl T.g__law_draw T.F__law_draw.kp T.b_f__law_draw .nil pass0 (pa_cons (pv 0) (pa_cons (pe_callB call_len_seq rfl T.b_len bt_len (pa_cons (pv 1) pa_nil)) pa_nil))) (fun _ _ => rfl)))), ?_⟩
    refine ⟨_, rfl, _, rfl, _, rfl, a, _, rfl, .inl (SqL.of ha), so, B, _, 0, rfl, hs, by omega, by omega, by omega, Nat.le_refl _, fun r H1 r0 r1 k1 s1 => ?_⟩
    obtain ⟨y, hy⟩ := get_lt (xs := xs) (i := r.toNat) (by omega)
    exact ⟨a, _, _, _, rfl, rfl, SqL.of (k1 _ _ ne ha), atI_of r0 hy, h _ y H1 hy k1 (s1.mono (by omega))⟩
theorem sc__law_shuffled : FnScope ["_law_source", "_law_some", "_law_left", "_law_found"] ["_law_source", "_law_some"] (defScope s__law_shuffled) := ⟨rfl, rfl, rfl, by decide +kernel, rfl, by decide +kernel, by decide +kernel⟩
theorem ok__law_shuffled (T : Tx K mg) : FnOk P w K mg base CX0 2 (He.ga K "_law_shuffled") (fdOf K (He.ga K "_law_shuffled")) ["_law_source", "_law_some"] spShuf := by
  refine T.F__law_shuffled.ok sc__law_shuffled (fun vs H Q E h => ?_) (fun cdv A outer s H vs Q E hr h => ?_)
  · obtain ⟨so, a, B, ns, rfl, _⟩ := h
    rfl
  · obtain ⟨so, a, B, ns, rfl, hs, hB, ha, hl, h⟩ := h
    refine ⟨_, PSs.nox (pss_cons (ps_par (i := 2) (j := 3) rfl sc__law_shuffled.nd rfl rfl (by decide) rfl rfl (pa_cons (pe_callTy call_list_of rfl T.b_list bt_list (pa_cons (pv 1) pa_nil)) (pa_cons (pe_lst pa_nil) pa_nil)) (by rfl))
      (pss_cons (ps_while PassesOwn.never (pt_cmpR (op_neD hr.units) (pv 2) (pe_lst pa_nil) (nomark _)) (pss_one (ps_expr (pe_bm PySem.F.plainAttrs_list PySem.F.slot_list_append PySem.F.type_list_append mt_append (pv 3) (pa_cons (pe_bm PySem.F.plainAttrs_list PySem.F.slot_list_pop PySem.F.type_list_pop mt_popAt (pv 2) (pa_cons (pe_call (ok_draw T 0 (by decide)) (hr.mono (by decide)) rfl T.g__law_draw T.F__law_draw.kp T.b_f__law_draw .nil pass0 (pa_cons (pv 0) (pa_cons (pe_callB call_len_seq rfl T.b_len bt_len (pa_cons (pv 2) pa_nil)) pa_nil))) pa_nil)) pa_nil)))))
      (pss_one (ps_ret (pv 3))))), ?_⟩
    have ez := sizeLine_eq
    refine ⟨_, rfl, a, _, rfl, .inl (SqL.of ha), fun l hl0 => ⟨line0, fun f hf => ⟨_, _, rfl, ?_⟩⟩⟩
    have lf : l ≠ f := ne_of_none upd_same hf
    have h1 : upd (upd H l (.lst (ns.map .int))) f (.lst []) l = some (.lst (ns.map .int)) := (upd_ne lf).trans upd_same
    have h2 : upd (upd H l (.lst (ns.map .int))) f (.lst []) f = some (.lst (([] : List Int).map .int)) := upd_same
    have hf0 : H f = none := (Same.new hl0).none hf
    have e1 : Same H (upd (upd H l (.lst (ns.map .int))) f (.lst [])) := (Same.new hl0).trans (Same.new hf)
    have sl : so ≠ l := hs.ne hl0
    have sf : so ≠ f := hs.ne hf0
    generalize upd (upd H l (.lst (ns.map .int))) f (.lst []) = H1 at *
    refine while_by (fun σ H' => σ = [some (.ref so), some (.ref a), some (.ref l), some (.ref f)] ∧ Kp so H H' ∧ ∃ xs ys : List Int, H' l = some (.lst (xs.map .int)) ∧ H' f = some (.lst (ys.map .int)) ∧ (ys ++ xs).Perm ns ∧ Src (B + (ys.length : Nat)) H' so) (fun σ H' => match H' l with
      | some (.lst xs) => xs.length
      | _ => 0) ⟨rfl, Kp.of e1, ns, [], h1, h2, .refl _, (hs.same e1).mono (by simp)⟩ ?_ ?_
    · rintro σ H2 ⟨rfl, k2, xs, ys, hx, hy, pm, s2⟩
      have pl := pm.length_eq
      rw [List.length_append] at pl
      refine ⟨_, rfl, line0, fun e he => ?_⟩
      have n1 : Same H2 (upd H2 e (.lst [])) := Same.new he
      refine ⟨_, _, dp_lI (n1 _ _ hx), dp_lI (ns := []) upd_same, shaped_lI _, shaped_lI [], ?_⟩
      rw [eqv_lI]
      have hx3 := n1 _ _ hx
      have hy3 := n1 _ _ hy
      have s3 := s2.same n1
      have k3 := k2.trans (Kp.of n1)
      have hn : H2 l = some (.lst (xs.map .int)) := hx
      generalize upd H2 e (.lst []) = H3 at *
      refine ⟨_, rfl, iteN (fun c => ?_) fun c => ?_⟩
      · have xl : 0 < xs.length := by cases xs with
          | nil => exact absurd rfl c
          | cons _ _ => simp
        refine ⟨_, rfl, .inl ⟨rfl, _, SqL.of hy3⟩, _, rfl, .inl ⟨rfl, _, SqL.of hx3⟩, _, rfl, _, rfl, l, _, rfl, .inl (SqL.of hx3), so, _, _, 0, rfl, s3, by omega, by rw [List.length_map]; omega, by rw [List.length_map]; omega, Nat.le_refl _, fun r H4 r0 r1 k4 s4 => ?_⟩
        rw [List.length_map] at r1
        have hx4 := k4 _ _ sl.symm hx3
        have hy4 := k4 _ _ sf.symm hy3
        obtain ⟨z, hz⟩ := get_lt (xs := xs) (i := r.toNat) (by omega)
        obtain ⟨rn, rfl⟩ : ∃ rn : Nat, r = rn := ⟨r.toNat, by omega⟩
        rw [Int.toNat_natCast] at hz
        refine ⟨l, _, _, rn, .int z, rfl, rfl, hx4, by omega, by omega, seq_nat (by rw [List.length_map]; omega), get_int hz, ?_⟩
        rw [mapErase]
        have hy5 : upd H4 l (.lst ((xs.eraseIdx rn).map .int)) f = some (.lst (ys.map .int)) := (upd_ne lf.symm).trans hy4
        have hx5 : upd H4 l (.lst ((xs.eraseIdx rn).map .int)) l = some (.lst ((xs.eraseIdx rn).map .int)) := upd_same
        have k5 : Kp l H4 (upd H4 l (.lst ((xs.eraseIdx rn).map .int))) := Kp.upd
        have q5 : Kp so H (upd H4 l (.lst ((xs.eraseIdx rn).map .int))) := fun b o nb eb => by
          rw [upd_ne (ne_of_none eb hl0)]
          exact k4 _ _ nb (k3 _ _ nb eb)
        have s5 := s4.kp k5 sl
        generalize upd H4 l (.lst ((xs.eraseIdx rn).map .int)) = H5 at *
        refine ⟨f, _, _, rfl, rfl, hy5, by rw [List.length_map]; omega, ?_⟩
        have hl6 : upd H5 f (.lst (ys.map .int ++ [.int z])) l = some (.lst ((xs.eraseIdx rn).map .int)) := (upd_ne lf).trans hx5
        refine ⟨⟨rfl, fun b o nb eb => ?_, xs.eraseIdx rn, ys ++ [z], hl6, ?_, ?_, ?_⟩, ?_⟩
        · rw [upd_ne (ne_of_none eb hf0)]
          exact q5 _ _ nb eb
        · rw [upd_same, List.map_append]; rfl
        · rw [List.append_assoc]
          refine List.Perm.trans (List.Perm.append_left _ ?_) pm
          exact erase_perm xs rn z hz
        · refine (s5.kp (Kp.upd (l := f)) sf).mono ?_
          rw [List.length_append, List.length_singleton]
          omega
        · show (match upd H5 f _ l with
            | some (.lst xs) => xs.length
            | _ => 0) < (match H2 l with
            | some (.lst xs) => xs.length
            | _ => 0)
          rw [hl6, hn]
          show List.length _ < List.length _
          rw [List.length_map, List.length_map, List.length_eraseIdx_of_lt (by omega)]
          omega
      · subst c
        rw [List.append_nil] at pm
        refine ⟨_, rfl, h f ys H3 hf0 k3 hy3 pm (s3.mono ?_)⟩
        have := pm.length_eq
        omega
    · rintro σ H1 Q1 Q2 hm ⟨x0, e0, l0, q⟩
      exact ⟨x0, e0, l0, fun e he => by
        obtain ⟨d, e2, a1, a2, a3, a4, k, ek, a5⟩ := q e he
        exact ⟨d, e2, a1, a2, a3, a4, k, ek, hm _ _ a5⟩⟩
theorem sc__law_folded : FnScope ["_law_script", "_law_most", "_law_cells", "_law_k", "_law_cell"] ["_law_script", "_law_most"] (defScope s__law_folded) := ⟨rfl, rfl, rfl, by decide +kernel, rfl, by decide +kernel, by decide +kernel⟩
theorem ok__law_folded (T : Tx K mg) : FnOk P w K mg base CX0 1 (He.ga K "_law_folded") (fdOf K (He.ga K "_law_folded")) ["_law_script", "_law_most"] (spFold K) := by
  refine T.F__law_folded.ok sc__law_folded (fun vs H Q E h => ?_) (fun cdv A outer s H vs Q E hr h => ?_)
  · obtain ⟨a, ns, rfl, _⟩ := h
    rfl
  · obtain ⟨a, ns, rfl, ha, hl, h⟩ := h
    refine ⟨_, PSs.nox (pss_cons (ps_set (i := 2) sc__law_folded.nd rfl (Or.inl rfl) (pe_orT (pe_callTy call_list_of rfl T.b_list bt_list (pa_cons (pe_slice sl_list (pv 0) po_none (po_some (pv 1))) pa_nil)) (pe_one (pe_lst (pa_cons pe_int pa_nil)))))
      (pss_cons (ps_for PassesOwn.never rfl (pi_enum rfl T.b_enumerate (pa_cons (pe_slice sl_list (pv 0) (po_some (pv 1)) (po_some pe_int)) pa_nil)) (pg_tup rfl (pgs_cons (pg_name (i := 3) sc__law_folded.nd rfl (Or.inl rfl)) (pgs_cons (pg_name (i := 4) sc__law_folded.nd rfl (Or.inl rfl)) pgs_nil)))
        (pss_one (ps_asg (pe_op op_add (pe_ix ix_list (pv 2) (pe_op op_mod (pv 3) (pv 1)) (fun _ _ => rfl)) (pe_op op_mul (pv 4) (pe_op op_add (pv 3) pe_int))) (pg_sub (pv 2) (pe_op op_mod (pv 3) (pv 1)) set_list))))
      (pss_one (ps_ret (pv 2))))), ?_⟩
    have ez := sizeLine_eq
    refine ⟨_, rfl, _, rfl, _, rfl, a, _, rfl, ha, fun p1 hp1 => ⟨p1, _, rfl, .inl (SqL.of upd_same), fun p2 hp2 => ?_⟩⟩
    rw [cut_take (by decide), ← List.map_take] at *
    have e1 : Same H (upd (upd H p1 (.lst ((ns.take (Int.toNat 3)).map .int))) p2 (.lst ((ns.take (Int.toNat 3)).map .int))) := (Same.new hp1).trans (Same.new hp2)
    have hp20 := (Same.new hp1).none hp2
    refine or_list (ns := ns.take (Int.toNat 3)) upd_same fun r ms0 H1 hr e2 h1 l1 l2 => ?_
    have hrH : H r = none := by
      rcases hr with rfl | hr
      · exact hp20
      · exact e1.none hr
    have e3 := e1.trans e2
    obtain ⟨cs, hcs, lcs⟩ := cut_from ns (some 63)
    refine ⟨_, rfl, _, rfl, _, rfl, _, rfl, a, _, rfl, e3.seq ha, fun p3 hp3 => ⟨p3, _, rfl, SqL.of upd_same, ?_⟩⟩
    rw [hcs]
    have rp3 : r ≠ p3 := ne_of_none h1 hp3
    have lm : ms0.length ≤ 3 := by
      rcases l2 with rfl | ⟨_, l2⟩
      · rw [List.length_take]; exact Nat.min_le_left _ _
      · omega
    refine for_prs (prs_enum (xs := cs.map V.int)) (fun i σ H' => Same H H' ∧ H' p3 = some (.lst (cs.map .int)) ∧ ∃ ms y3 y4, H' r = some (.lst (ms.map V.int)) ∧ ms.length = ms0.length ∧ σ = [some (.ref a), some (.int 3), some (.ref r), y3, y4])
      ⟨e3.trans (Same.new hp3), upd_same, ms0, _, _, (upd_ne rp3).trans h1, rfl, rfl⟩ (fun i σ H' _ q => SqL.of q.2.1) ?_ ?_
    · rintro i x y σ H2 H3 hi ⟨rfl, hy⟩ ⟨e4, h4, ms, y3, y4, hms, lms, rfl⟩ e5
      rw [List.length_map] at hi
      obtain ⟨z, rfl, hz⟩ := int_get hy
      have l3 : ms.length = 3 := by
        rcases l2 with rfl | ⟨l2, _⟩
        · rw [lms, List.length_take]
          show min 3 _ = 3
          omega
        · have := congrArg List.length l2
          rw [List.length_take] at this
          change min 3 _ = 0 at this
          omega
      have hm3 : ((i : Int) % 3).toNat < ms.length := by omega
      obtain ⟨u, hu⟩ := get_lt (xs := ms) hm3
      have hms3 := e5 _ _ hms
      refine ⟨_, rfl, _, rfl, _, rfl, _, _, rfl, rfl, md (by decide), r, _, _, _, rfl, rfl, SqL.of hms3, atI_of (Int.emod_nonneg _ (by decide)) (get_int hu), _, rfl, _, rfl, _, _, rfl, rfl, _, _, rfl, rfl, .inr ⟨by omega, by omega⟩, _, _, rfl, rfl, _, rfl, _, rfl, _, rfl, _, _, rfl, rfl, md (by decide), r, _, (i : Int) % 3, ((i : Int) % 3).toNat, rfl, rfl, hms3, ?_, ?_⟩
      · have : (i : Int) % 3 = (((i : Int) % 3).toNat : Nat) := by omega
        rw [this, List.length_map]
        exact ixN_nat (by omega)
      · refine ⟨(e4.trans e5).mut hrH, (upd_ne rp3.symm).trans (e5 _ _ h4), ms.set ((i : Int) % 3).toNat (u + z * ((i : Int) + 2)), _, _, ?_, ?_, rfl⟩
        · rw [upd_same, List.map_set]
        · rw [List.length_set, lms]
    · rintro σ H2 ⟨e4, h4, ms, y3, y4, hms, lms, rfl⟩
      exact ⟨_, rfl, h r ms H2 hrH e4 hms (by omega) (by omega)⟩
end
end Tr
end
section
set_option Elab.async false
set_option linter.all false
set_option maxRecDepth 100000
set_option maxHeartbeats 4000000
namespace Tr
open PySem PySem.Spec PyProof.Rows L2
/-! ### comprehensions that draw -/
section
variable {J : It} {n : Nat} {S : Hp → Prop} {te : TE} {vs : List Nat} {σ : L2.St} {H1 : Hp} {D : Addr} {Qd : Hp → Prop}
theorem lc_mut {R : Nat → V → Prop} {j : Nat} (P : Sng J n R S) (Pv : Nat → List V → Hp → Prop) (hn : n ≤ 100000) (h0 : Pv 0 [] (upd H1 D (.lst [])))
    (hS : ∀ i ys H, Pv i ys H → S H) (hL : ∀ i ys H, Pv i ys H → H D = some (.lst ys) ∧ ys.length ≤ i)
    (hs : ∀ i x ys H, i < n → R i x → Pv i ys H → ∀ Q : VK, (∀ y H4, H4 D = some (.lst ys) → Pv (i + 1) (ys ++ [y]) (upd H4 D (.lst (ys ++ [y]))) → Q y H4) → te ((wipe σ vs).set j (some x)) H Q)
    (hd : ∀ ys H, Pv n ys H → Qd H) (hj : j ∈ vs := by decide) :
    ∃ W : Nat → Nat → Hp → Prop, (∃ m, W 0 m (upd H1 D (.lst []))) ∧ ∀ i m H, W i m H →
      (J.stop i H ∧ Qd H) ∨ (J.go i H ∧ ∃ Nx : Hp → Prop, (∀ H', Nx H' → ∃ m', m' < m ∧ W (i + 1) m' H') ∧ ∀ x H', J.yld i H x H' → gName j x (wipe σ vs) H' fun σ2 H2 => wipe σ2 vs = wipe σ vs ∧ tYes σ2 H2 fun b H3 =>
        if b = true then te σ2 H3 fun y H4 => ∃ acc, H4 D = some (.lst acc) ∧ acc.length < sizeLine ∧ Nx (upd H4 D (.lst (acc ++ [y]))) else Nx H3) := by
  refine ⟨fun i m H => m = n - i ∧ i ≤ n ∧ ∃ ys, Pv i ys H, ⟨n, rfl, Nat.zero_le _, [], h0⟩, ?_⟩
  rintro i m H ⟨rfl, hi, ys, p⟩
  have s := hS i ys H p
  obtain ⟨hl, hle⟩ := hL i ys H p
  by_cases hlt : i < n
  · refine .inr ⟨P.go i H hlt s, fun H' => ∃ ys, Pv (i + 1) ys H', fun H' p' => ⟨n - (i + 1), by omega, rfl, hlt, p'⟩, fun v H' y => ?_⟩
    obtain ⟨rfl, r⟩ := P.yld i H v H' hlt s y
    refine ⟨wipe1 hj, ?_⟩
    simp only [tYes, if_true]
    exact hs i v ys H' hlt r p _ fun y H4 h4 p4 => ⟨ys, h4, by rw [sizeLine_eq]; omega, _, p4⟩
  · have e : i = n := by omega
    subst e
    exact .inl ⟨P.stop H s, hd ys H p⟩
end
def spRS : Sp := fun vs H Q _ => ∃ (so : Addr) (B : Int) (n : Nat) (top : Int), vs = [.ref so, .int n, .int top] ∧ Src B H so ∧ B ≤ 2 ^ 38 ∧ 2 ≤ n ∧ n ≤ 8 ∧ 0 ≤ top ∧ top ≤ 10 ^ 30 ∧
  ∀ (u : V) (t : S) (H' : Hp), Kp so H H' → TD H' u (stD t) → Vd n t → t.2.sum ≤ n * top → Src (B + 100) H' so → Q u H'
def spSwap : Sp := fun vs H Q _ => ∃ (v : V) (s : S) (n : Nat) (x : Int), vs = [v, .int x] ∧ TD H v (stD s) ∧ Vd n s ∧ 0 ≤ x ∧ x < n ∧
  ∀ (u : V) (H' : Hp), Same H H' → (match exq s x with
    | .ok t => TD H' u (stD t)
    | .error _ => u = .non) → Q u H'
def spRow0 : Sp := fun vs H Q _ => ∃ (so : Addr) (B : Int) (v : V) (s : S) (n : Nat) (m : Nat), vs = [.ref so, v, .int m] ∧ Src B H so ∧ B ≤ 2 ^ 38 ∧ TD H v (stD s) ∧ Vd n s ∧ m ≤ 20 ∧
  ∀ (p : Addr) (row : List Int) (t : S) (H' : Hp), H p = none → Kp so H H' → H' p = some (.lst (row.map .int)) → row.length ≤ m → (∀ x, x ∈ row → 0 ≤ x ∧ x < n) → runq s row = .ok t → Src (B + 30) H' so → Q (.ref p) H'
def spLRun : Sp := fun vs H Q _ => ∃ (v : V) (s : S) (n : Nat) (a : Addr) (row : List Int) (t : S), vs = [v, .ref a] ∧ TD H v (stD s) ∧ Vd n s ∧ H a = some (.lst (row.map .int)) ∧ row.length ≤ 100 ∧ runq s row = .ok t ∧
  ∀ (u : V) (H' : Hp), Same H H' → TD H' u (stD t) → Q u H'
theorem idx_of {n : Nat} {s : S} (h : Vd n s) {x : Int} {p : Nat} (hp : p < n) (e : s.1.getD p 0 = x) : (s.1.map V.int)[p]? = some (V.int x) ∧ ∀ (m : Nat) (z : V), m < p → (s.1.map V.int)[m]? = some z → eqV z (.int x) = false := by
  have l1 := h.rg.l1
  constructor
  · rw [List.getElem?_map, List.getElem?_eq_getElem (by omega), Option.map_some, ← gd_lt (d := 0), e]
  · intro m z hm hz
    obtain ⟨y, rfl, hy⟩ := int_get hz
    have ey : s.1.getD m 0 = y := getD_of hy
    have : y ≠ x := fun c => by
      have := h.pm.inj (p := m) (o := p) (by omega) hp (by rw [ey, c, e])
      omega
    show decide (y = x) = false
    exact decide_eq_false this
section
variable {P : Program} {w : World} {K : PySem.W.Frag} {mg : Str → Option Value} {base : Heap}
theorem sc__law_random_state : FnScope ["_law_source", "_law_crowd", "_law_top", "_law_seats_now", "_law_who"] ["_law_source", "_law_crowd", "_law_top"] (defScope s__law_random_state) := ⟨rfl, rfl, rfl, by decide +kernel, rfl, by decide +kernel, by decide +kernel⟩
theorem ok__law_random_state (T : Tx K mg) : FnOk P w K mg base CX0 6 (He.ga K "_law_random_state") (fdOf K (He.ga K "_law_random_state")) ["_law_source", "_law_crowd", "_law_top"] spRS := by
  refine T.F__law_random_state.ok sc__law_random_state (fun vs H Q E h => ?_) (fun cdv A outer s H vs Q E hr h => ?_)
  · obtain ⟨so, B, n, top, rfl, _⟩ := h
    rfl
  · obtain ⟨so, B, n, top, rfl, hs, hB, n2, n8, t0, t1, h⟩ := h
    refine ⟨_, PSs.nox (pss_cons (ps_set (i := 3) sc__law_random_state.nd rfl (Or.inl rfl) (pe_callTy call_tuple_of rfl T.b_tuple bt_tuple (pa_cons (pe_call (ok__law_shuffled T) (hr.mono (by decide)) rfl T.g__law_shuffled T.F__law_shuffled.kp T.b_f__law_shuffled .nil pass0 (pa_cons (pv 0) (pa_cons (pe_listRg rfl rfl T.b_list (prg_1 rfl T.b_range (pv 1))) pa_nil))) pa_nil)))
      (pss_one (ps_ret (pe_tup (pa_cons (pv 3) (pa_cons (pe_callTy call_tuple_of rfl T.b_tuple bt_tuple (pa_cons (pe_lc (own := [("_law_who", 4)]) (g := gName 4) rfl sc__law_random_state.nd (pi_range1 rfl T.b_range (pa_cons (pv 1) pa_nil)) (blkOk_by (own := [("_law_who", 4)]) (N := ["_law_source", "_law_crowd", "_law_top", "_law_seats_now", "_law_who"]) (by kernel_rfl)) (fun _ _ _ _ _ => (pg_name (i := 4) sc__law_random_state.nd rfl (Or.inl rfl))) (fun _ _ _ _ _ => pts_nil) (fun _ _ _ _ _ => (pe_op op_mul (pe_call (ok_draw T 4 (by decide)) (hr.mono (by decide)) rfl T.g__law_draw T.F__law_draw.kp T.b_f__law_draw .nil pass0 (pa_cons (pv 0) (pa_cons (pe_op op_add (pv 2) pe_int) pa_nil))) (pe_call (ok__law_pick T) (hr.mono (by decide)) rfl T.g__law_pick T.F__law_pick.kp T.b_f__law_pick .nil pass0 (pa_cons (pv 0) (pa_cons (pe_lst (pa_cons pe_int (pa_cons pe_int (pa_cons pe_int pa_nil)))) pa_nil)))))) pa_nil)) pa_nil)))))), ?_⟩
    have ez := sizeLine_eq
    refine ⟨_, rfl, _, rfl, _, rfl, RgOk.of_le (Int.le_refl _) (by omega) (by omega) (by omega), fun pe hpe => ?_⟩
    have hr1 : upd H pe (.lst (rgV 0 n)) pe = some (.lst ((sq n).map V.int)) := by
      rw [upd_same]
      have e : (((n : Int)) - 0).toNat = n := by omega
      unfold rgV sq
      rw [e, List.map_map]
      congr 3
      funext i
      show V.int (0 + (i : Int)) = V.int (i : Int)
      rw [Int.zero_add]
    have e1 : Same H (upd H pe (.lst (rgV 0 n))) := Same.new hpe
    generalize upd H pe (.lst (rgV 0 n)) = H1 at *
    refine ⟨so, pe, B, sq n, rfl, hs.same e1, by omega, hr1, by rw [sq_len]; omega, fun p ms H2 hp k2 h2 pm s2 => ?_⟩
    refine ⟨p, _, rfl, .inl ⟨SqL.of h2, fun tp htp => ?_⟩⟩
    have pms : Pm n ms := ⟨by rw [pm.length_eq, sq_len], (pm.nodup_iff).mpr (sq_nd n), fun x hx => sq_mem.mp (pm.mem_iff.mp hx)⟩
    have k3 : Kp so H (upd H2 tp (.tup (ms.map .int))) := ((Kp.of e1).trans k2).trans (Kp.of (Same.new htp))
    have h3 : upd H2 tp (.tup (ms.map .int)) tp = some (.tup (ms.map .int)) := upd_same
    have s3 := s2.same (Same.new (o := .tup (ms.map .int)) htp)
    generalize upd H2 tp (.tup (ms.map .int)) = H3 at *
    refine ⟨_, rfl, _, rfl, _, rfl, by omega, by omega, fun D hD => ?_⟩
    have dso : so ≠ D := s3.ne hD
    have l3 : upd H3 D (.lst []) D = some (.lst []) := upd_same
    refine lc_mut (sng_range (lo := 0) (n := n)) (fun i ys H' => H' D = some (.lst ys) ∧ ys.length = i ∧ Kp so H3 H' ∧ Src (B + 16 + 10 * (i : Nat)) H' so ∧ ∃ ps : List Int, ys = ps.map .int ∧ ∀ x, x ∈ ps → 0 ≤ x ∧ x ≤ top) (by omega)
      ⟨upd_same, rfl, Kp.of (Same.new hD), (s3.same (Same.new hD)).mono (by omega), [], rfl, by simp⟩ (fun _ _ _ _ => trivial) (fun i ys H' q => ⟨q.1, by rw [q.2.1]; exact Nat.le_refl _⟩) ?_ ?_
    · rintro i x ys H4 hi rfl ⟨h4, ly, k4, s4, ps, rfl, hps⟩ Q4 hq
      refine ⟨_, rfl, _, rfl, _, _, rfl, rfl, so, _, _, 4, rfl, s4, by omega, by omega, by omega, by decide, fun r H5 r0 r1 k5 s5 => ?_⟩
      refine ⟨_, rfl, line3, fun l hl => ⟨so, l, _, _, rfl, s5.same (Same.new hl), by omega, upd_same, (s5.ne hl).symm, by show 1 ≤ 3; decide, by show 3 ≤ 100; decide, fun i2 x2 H6 hx k6 s6 => ?_⟩⟩
      have h5 := k5 _ _ dso.symm h4
      have k6' : Kp so H4 H6 := (k5.trans (Kp.of (Same.new hl))).trans k6
      have h6 : H6 D = some (.lst (ps.map .int)) := k6' _ _ dso.symm h4
      have hx01 : ∃ c : Int, x2 = .int c ∧ (c = 0 ∨ c = 1) := by
        match i2, hx with
        | 0, hx => cases hx; exact ⟨0, rfl, .inl rfl⟩
        | 1, hx => cases hx; exact ⟨1, rfl, .inr rfl⟩
        | 2, hx => cases hx; exact ⟨1, rfl, .inr rfl⟩
        | j + 3, hx => cases hx
      obtain ⟨c, rfl, hc⟩ := hx01
      refine ⟨_, _, rfl, rfl, .inr ⟨by omega, by omega⟩, hq _ H6 h6 ⟨upd_same, by rw [List.length_append, ly]; rfl, fun b o nb eb => ?_, ?_, ps ++ [r * c], by rw [List.map_append]; rfl, fun y hy => ?_⟩⟩
      · rw [upd_ne (ne_of_none eb hD)]
        exact k6' _ _ nb (k4 _ _ nb eb)
      · exact (s6.kp (Kp.upd (l := D)) dso).mono (by omega)
      · rcases List.mem_append.mp hy with hy | hy
        · exact hps y hy
        · rw [List.mem_singleton.mp hy]
          rcases hc with rfl | rfl
          · omega
          · omega
    · rintro ys H4 ⟨h4, ly, k4, s4, ps, rfl, hps⟩
      rw [List.length_map] at ly
      have tso : tp ≠ so := fun z => by
        obtain ⟨a, b, c, e, _⟩ := s3
        rw [← z, h3] at e
        cases e
      have h34 := k4 _ _ tso h3
      refine ⟨D, _, rfl, .inl ⟨SqL.of h4, fun q hq => ⟨line2, fun u hu => ?_⟩⟩⟩
      have e5 : Same H4 (upd (upd H4 q (.tup (ps.map .int))) u (.tup [.ref tp, .ref q])) := (Same.new hq).trans (Same.new hu)
      refine h (.ref u) (ms, ps) _ ((k3.trans k4).trans (Kp.of e5)) (TD.ofSt upd_same (kp1 (kp1 h34 hq) hu) (kp1 upd_same hu)) ⟨⟨pms.len, ly, by omega, by omega, pms.rg⟩, n2, pms.nd, fun x hx => (hps x hx).1⟩ ?_ ((s4.same e5).mono (by omega))
      have : (ps.map fun x => x).sum ≤ ps.length * top := ls_le fun x hx => (hps x hx).2
      rw [List.map_id', ly] at this
      exact this
theorem sc__law_swapped : FnScope ["_law_here", "_law_spot", "_law_seats_now", "_law_bags", "_law_who", "_law_mate"] ["_law_here", "_law_spot"] (defScope s__law_swapped) := ⟨rfl, rfl, rfl, by decide +kernel, rfl, by decide +kernel, by decide +kernel⟩
theorem ok__law_swapped (T : Tx K mg) : FnOk P w K mg base CX0 1 (He.ga K "_law_swapped") (fdOf K (He.ga K "_law_swapped")) ["_law_here", "_law_spot"] spSwap := by
  refine T.F__law_swapped.ok sc__law_swapped (fun vs H Q E h => ?_) (fun cdv A outer s H vs Q E hr h => ?_)
  · obtain ⟨v, s, n, x, rfl, _⟩ := h
    rfl
  · obtain ⟨v, s, n, x, rfl, hv, hn, x0, x1, h⟩ := h
    refine ⟨_, PSs.nox (pss_cons (ps_par (i := 2) (j := 3) rfl sc__law_swapped.nd rfl rfl (by decide) rfl rfl (pa_cons (pe_callTy call_list_of rfl T.b_list bt_list (pa_cons (pe_ix ix_tup (pv 0) pe_int (fun _ _ => rfl)) pa_nil)) (pa_cons (pe_callTy call_list_of rfl T.b_list bt_list (pa_cons (pe_ix ix_tup (pv 0) pe_int (fun _ _ => rfl)) pa_nil)) pa_nil)) (by rfl))
      (pss_cons (ps_par (i := 4) (j := 5) rfl sc__law_swapped.nd rfl rfl (by decide) rfl rfl (pa_cons (pe_bm PySem.F.plainAttrs_list PySem.F.slot_list_index PySem.F.type_list_index mt_index (pv 2) (pa_cons (pv 1) pa_nil)) (pa_cons (pe_bm PySem.F.plainAttrs_list PySem.F.slot_list_index PySem.F.type_list_index mt_index (pv 2) (pa_cons (pe_op op_mod (pe_op op_add (pv 1) pe_int) (pe_callB call_len_seq rfl T.b_len bt_len (pa_cons (pv 2) pa_nil))) pa_nil)) pa_nil)) (by rfl))
      (pss_cons (ps_if (pt_cmpR op_eq (pe_ix ix_list (pv 3) (pv 4) (fun _ _ => rfl)) pe_int (nomark _)) (pss_one (ps_ret pe_non)) pss_nil)
      (pss_cons (ps_asg (pe_tup (pa_cons (pe_ix ix_list (pv 2) (pv 5) (fun _ _ => rfl)) (pa_cons (pe_ix ix_list (pv 2) (pv 4) (fun _ _ => rfl)) pa_nil))) (pg_tup rfl (pgs_cons (pg_sub (pv 2) (pv 4) set_list) (pgs_cons (pg_sub (pv 2) (pv 5) set_list) pgs_nil))))
      (pss_cons (ps_asg (pe_tup (pa_cons (pe_op op_sub (pe_ix ix_list (pv 3) (pv 4) (fun _ _ => rfl)) pe_int) (pa_cons (pe_op op_add (pe_ix ix_list (pv 3) (pv 5) (fun _ _ => rfl)) pe_int) pa_nil))) (pg_tup rfl (pgs_cons (pg_sub (pv 3) (pv 4) set_list) (pgs_cons (pg_sub (pv 3) (pv 5) set_list) pgs_nil))))
      (pss_one (ps_ret (pe_tup (pa_cons (pe_callTy call_tuple_of rfl T.b_tuple bt_tuple (pa_cons (pv 2) pa_nil)) (pa_cons (pe_callTy call_tuple_of rfl T.b_tuple bt_tuple (pa_cons (pv 3) pa_nil)) pa_nil)))))))))), ?_⟩
    have ez := sizeLine_eq
    have l1 := hn.rg.l1
    have l2 := hn.rg.l2
    have n2 := hn.two
    obtain ⟨va, vb, vc, rfl, ha, hb, hc⟩ := TD.st hv
    obtain ⟨hp, ho, ep, eo, ne, xne, nlt⟩ := hn.pays x0 x1
    have hyes := fun c => exq_yes hn x0 x1 c
    have hno := fun c => exq_no hn x0 x1 c
    generalize pay s x = p at *
    generalize oth s x = o at *
    refine ⟨_, rfl, va, _, _, _, rfl, rfl, SqT.of ha, atI_nat (j := 0) rfl, vb, _, rfl, .inr (SqT.of hb), fun q1 hq1 => ?_⟩
    refine ⟨_, rfl, va, _, _, _, rfl, rfl, SqT.of (kp1 ha hq1), atI_nat (j := 1) rfl, vc, _, rfl, .inr (SqT.of (kp1 hc hq1)), fun q2 hq2 => ⟨_, _, rfl, ?_⟩⟩
    have e1 : Same H (upd (upd H q1 (.lst (s.1.map .int))) q2 (.lst (s.2.map .int))) := (Same.new hq1).trans (Same.new hq2)
    have n12 : q1 ≠ q2 := ne_of_none upd_same hq2
    have g1 : upd (upd H q1 (.lst (s.1.map .int))) q2 (.lst (s.2.map .int)) q1 = some (.lst (s.1.map .int)) := kp1 upd_same hq2
    have g2 : upd (upd H q1 (.lst (s.1.map .int))) q2 (.lst (s.2.map .int)) q2 = some (.lst (s.2.map .int)) := upd_same
    have hHq2 := (Same.new (o := .lst (s.1.map .int)) hq1).none hq2
    generalize upd (upd H q1 (.lst (s.1.map .int))) q2 (.lst (s.2.map .int)) = H1 at *
    obtain ⟨i1, i2⟩ := idx_of hn hp ep
    obtain ⟨j1, j2⟩ := idx_of hn ho eo
    have enx : (x + 1) % ((s.1.map V.int).length : Int) = (nx n x : Nat) := by
      have := Int.emod_nonneg (x + 1) (b := (n : Int)) (by omega)
      rw [List.length_map, l1]
      unfold nx
      omega
    refine ⟨_, rfl, .inl ⟨rfl, _, SqL.of g1⟩, _, rfl, q1, _, _, p, _, rfl, rfl, SqL.of g1, rfl, flat_ints _, i1, decide_eq_true rfl, i2, ?_⟩
    have j3 : ∀ (m : Nat) (z : V), m < o → (s.1.map V.int)[m]? = some z → eqV z (.int ((x + 1) % ((s.1.map V.int).length : Int))) = false := by rw [enx]; exact j2
    obtain ⟨z, hz⟩ := get_lt (xs := s.2) (i := p) (by omega)
    obtain ⟨z2, hz2⟩ := get_lt (xs := s.2) (i := o) (by omega)
    obtain ⟨x1, hx1⟩ := get_lt (xs := s.1) (i := p) (by omega)
    obtain ⟨x2, hx2⟩ := get_lt (xs := s.1) (i := o) (by omega)
    refine ⟨_, rfl, .inl ⟨rfl, _, SqL.of g1⟩, _, rfl, _, _, rfl, rfl, _, rfl, q1, _, rfl, .inl (SqL.of g1), _, _, rfl, rfl, md (by rw [List.length_map, l1]; omega), ?_⟩
    refine ⟨q1, _, _, o, _, rfl, rfl, SqL.of g1, rfl, flat_ints _, j1, decide_eq_true enx.symm, j3, _, _, rfl, ?_⟩
    refine ⟨_, rfl, _, rfl, q2, _, _, _, rfl, rfl, SqL.of g2, atI_nat (get_int hz), rfl, _, rfl, iteD (fun c3 => ?_) fun c3 => ?_⟩
    · refine h .non H1 e1 ?_
      rw [hno (by rw [getD_of hz]; exact V.int.inj c3)]
    have e := hyes (by rw [getD_of hz]; exact fun q => c3 (by rw [q]))
    rw [e] at h
    refine ⟨_, rfl, _, rfl, q1, _, _, _, rfl, rfl, SqL.of g1, atI_nat (get_int hx2), _, rfl, _, rfl, q1, _, _, _, rfl, rfl, SqL.of g1, atI_nat (get_int hx1), line2, fun t2 ht2 => ?_⟩
    have n1t : q1 ≠ t2 := ne_of_none g1 ht2
    have n2t : q2 ≠ t2 := ne_of_none g2 ht2
    have e2 : Same H (upd H1 t2 (.tup [.int x2, .int x1])) := e1.trans (Same.new ht2)
    have f1 := kp1 (p := t2) (u := .tup [.int x2, .int x1]) g1 ht2
    have f2 := kp1 (p := t2) (u := .tup [.int x2, .int x1]) g2 ht2
    have ft : upd H1 t2 (.tup [.int x2, .int x1]) t2 = some (.tup [.int x2, .int x1]) := upd_same
    refine ⟨t2, _, rfl, SqT.of ft, rfl, _, _, rfl, _, rfl, _, rfl, q1, _, _, p, rfl, rfl, f1, ixN_nat (by rw [List.length_map]; omega), ?_⟩
    refine ⟨_, _, rfl, _, rfl, _, rfl, q1, _, _, o, rfl, rfl, upd_same, ixN_nat (by rw [List.length_set, List.length_map]; omega), rfl, ?_⟩
    rw [← List.map_set, ← List.map_set]
    have e3 : ∀ o1 o2, Same H (upd (upd (upd H1 t2 (.tup [.int x2, .int x1])) q1 o1) q1 o2) := fun o1 o2 => (e2.mut hq1).mut hq1
    have a1 : ∀ o1 o2, upd (upd (upd H1 t2 (.tup [.int x2, .int x1])) q1 o1) q1 o2 q1 = some o2 := fun o1 o2 => upd_same
    have a2 : ∀ o1 o2, upd (upd (upd H1 t2 (.tup [.int x2, .int x1])) q1 o1) q1 o2 q2 = some (.lst (s.2.map .int)) := fun o1 o2 => (upd_ne n12.symm).trans ((upd_ne n12.symm).trans f2)
    replace e3 := e3 (.lst ((s.1.set p x2).map .int)) (.lst (((s.1.set p x2).set o x1).map .int))
    replace a1 := a1 (.lst ((s.1.set p x2).map .int)) (.lst (((s.1.set p x2).set o x1).map .int))
    replace a2 := a2 (.lst ((s.1.set p x2).map .int)) (.lst (((s.1.set p x2).set o x1).map .int))
    generalize upd (upd (upd H1 t2 (.tup [.int x2, .int x1])) q1 (.lst ((s.1.set p x2).map .int))) q1 (.lst (((s.1.set p x2).set o x1).map .int)) = H2 at *
    refine ⟨_, rfl, _, rfl, q2, _, _, _, rfl, rfl, SqL.of a2, atI_nat (get_int hz), _, _, rfl, rfl, _, rfl, _, rfl, q2, _, _, _, rfl, rfl, SqL.of a2, atI_nat (get_int hz2), _, _, rfl, rfl, line2, fun t3 ht3 => ?_⟩
    have m1 : q1 ≠ t3 := ne_of_none a1 ht3
    have m2 : q2 ≠ t3 := ne_of_none a2 ht3
    refine ⟨t3, _, rfl, SqT.of upd_same, rfl, _, _, rfl, _, rfl, _, rfl, q2, _, _, p, rfl, rfl, kp1 a2 ht3, ixN_nat (by rw [List.length_map]; omega), ?_⟩
    refine ⟨_, _, rfl, _, rfl, _, rfl, q2, _, _, o, rfl, rfl, upd_same, ixN_nat (by rw [List.length_set, List.length_map]; omega), rfl, ?_⟩
    rw [← List.map_set, ← List.map_set]
    have e4 : Same H (upd (upd (upd H2 t3 (.tup [.int (z - 1), .int (z2 + 1)])) q2 (.lst ((s.2.set p (z - 1)).map .int))) q2 (.lst (((s.2.set p (z - 1)).set o (z2 + 1)).map .int))) := ((e3.trans (Same.new ht3)).mut hHq2).mut hHq2
    have b1 : upd (upd (upd H2 t3 (.tup [.int (z - 1), .int (z2 + 1)])) q2 (.lst ((s.2.set p (z - 1)).map .int))) q2 (.lst (((s.2.set p (z - 1)).set o (z2 + 1)).map .int)) q1 = some (.lst (((s.1.set p x2).set o x1).map .int)) := (upd_ne n12).trans ((upd_ne n12).trans (kp1 a1 ht3))
    have b2 : upd (upd (upd H2 t3 (.tup [.int (z - 1), .int (z2 + 1)])) q2 (.lst ((s.2.set p (z - 1)).map .int))) q2 (.lst (((s.2.set p (z - 1)).set o (z2 + 1)).map .int)) q2 = some (.lst (((s.2.set p (z - 1)).set o (z2 + 1)).map .int)) := upd_same
    generalize upd (upd (upd H2 t3 (.tup [.int (z - 1), .int (z2 + 1)])) q2 (.lst ((s.2.set p (z - 1)).map .int))) q2 (.lst (((s.2.set p (z - 1)).set o (z2 + 1)).map .int)) = H3 at *
    refine ⟨_, rfl, q1, _, rfl, .inl ⟨SqL.of b1, fun r1 hr1 => ?_⟩⟩
    refine ⟨_, rfl, q2, _, rfl, .inl ⟨SqL.of (kp1 b2 hr1), fun r2 hr2 => ⟨line2, fun r3 hr3 => ?_⟩⟩⟩
    have ez2 : swp s p o = ((s.1.set p x2).set o x1, (s.2.set p (z - 1)).set o (z2 + 1)) := by
      unfold swp
      rw [gd_set (by omega), if_neg ne, getD_of hz, getD_of hz2, getD_of hx1, getD_of hx2]
    refine h (.ref r3) _ (e4.trans ((Same.new hr1).trans ((Same.new hr2).trans (Same.new hr3)))) ?_
    rw [ez2]
    exact TD.ofSt upd_same (kp1 (kp1 upd_same hr2) hr3) (kp1 upd_same hr3)
theorem sc__law_random_row : FnScope ["_law_source", "_law_here", "_law_most", "_law_found", "_law_turn", "_law_spot", "_law_there"] ["_law_source", "_law_here", "_law_most"] (defScope s__law_random_row) := ⟨rfl, rfl, rfl, by decide +kernel, rfl, by decide +kernel, by decide +kernel⟩
theorem ok__law_random_row (T : Tx K mg) : FnOk P w K mg base CX0 2 (He.ga K "_law_random_row") (fdOf K (He.ga K "_law_random_row")) ["_law_source", "_law_here", "_law_most"] spRow0 := by
  refine T.F__law_random_row.ok sc__law_random_row (fun vs H Q E h => ?_) (fun cdv A outer s H vs Q E hr h => ?_)
  · obtain ⟨so, B, v, s, n, m, rfl, _⟩ := h
    rfl
  · obtain ⟨so, B, v, s, n, m, rfl, hs, hB, hv, hn, hm, h⟩ := h
    refine ⟨_, PSs.nox (pss_cons (ps_set (i := 3) sc__law_random_row.nd rfl (Or.inl rfl) (pe_lst pa_nil))
      (pss_cons (ps_for PassesOwn.never rfl (pi_range1 rfl T.b_range (pa_cons (pe_call (ok_draw T 0 (by decide)) (hr.mono (by decide)) rfl T.g__law_draw T.F__law_draw.kp T.b_f__law_draw .nil pass0 (pa_cons (pv 0) (pa_cons (pe_op op_add (pv 2) pe_int) pa_nil))) pa_nil)) (pg_name (i := 4) sc__law_random_row.nd rfl (Or.inl rfl))
        (pss_cons (ps_set (i := 5) sc__law_random_row.nd rfl (Or.inl rfl) (pe_call (ok_draw T 0 (by decide)) (hr.mono (by decide)) rfl T.g__law_draw T.F__law_draw.kp T.b_f__law_draw .nil pass0 (pa_cons (pv 0) (pa_cons (pe_callB call_len_seq rfl T.b_len bt_len (pa_cons (pe_ix ix_tup (pv 1) pe_int (fun _ _ => rfl)) pa_nil)) pa_nil))))
      (pss_cons (ps_set (i := 6) sc__law_random_row.nd rfl (Or.inl rfl) (pe_call (ok__law_swapped T) (hr.mono (by decide)) rfl T.g__law_swapped T.F__law_swapped.kp T.b_f__law_swapped .nil pass0 (pa_cons (pv 1) (pa_cons (pv 5) pa_nil))))
      (pss_one (ps_if (pt_cmpR op_notN (pv 6) pe_non (nomark _)) (pss_cons (ps_expr (pe_bm PySem.F.plainAttrs_list PySem.F.slot_list_append PySem.F.type_list_append mt_append (pv 3) (pa_cons (pv 5) pa_nil)))
      (pss_one (ps_set (i := 1) sc__law_random_row.nd rfl (Or.inl rfl) (pv 6)))) pss_nil)))))
      (pss_one (ps_ret (pv 3))))), ?_⟩
    have ez := sizeLine_eq
    have n2 := hn.two
    have n16 := hn.rg.top
    refine ⟨line0, fun f hf => ?_⟩
    have sf := hs.ne hf
    have e1 : Same H (upd H f (.lst [])) := Same.new hf
    refine ⟨_, rfl, _, rfl, _, _, rfl, rfl, so, _, _, 0, rfl, hs.same e1, by omega, by omega, by omega, by decide, fun r H1 r0 r1 k1 s1 => ?_⟩
    obtain ⟨rn, rfl⟩ : ∃ rn : Nat, r = rn := ⟨r.toNat, by omega⟩
    have h1 : H1 f = some (.lst (([] : List Int).map .int)) := k1 _ _ sf.symm upd_same
    have k01 : Kp so H H1 := (Kp.of e1).trans k1
    refine ⟨_, rfl, by omega, by omega, ?_⟩
    refine for_sng (sng_range (lo := 0) (n := rn)) (fun i σ H' => Kp so H H' ∧ Src (B + 1 + (i : Nat)) H' so ∧ ∃ hv t row y4 y5 y6, H' f = some (.lst (row.map V.int)) ∧ row.length ≤ i ∧ (∀ x : Int, x ∈ row → 0 ≤ x ∧ x < n) ∧ runq s row = .ok t ∧ TD H' hv (stD t) ∧ Vd n t ∧ σ = [some (.ref so), some hv, some (.int m), some (.ref f), y4, y5, y6])
      ⟨k01, s1.mono (by omega), v, s, [], _, _, _, h1, Nat.le_refl _, by simp, rfl, hv.mono (hs.tups k01), hn, rfl⟩ (fun _ _ _ _ _ => trivial) ?_ ?_
    · rintro i x σ H2 hi rfl ⟨k2, s2, hv2, t, row, y4, y5, y6, h2, lr, rr, hrun, ht, hnt, rfl⟩
      have l1 := hnt.rg.l1
      obtain ⟨va, vb, vc, rfl, ha, hb, hc⟩ := TD.st ht
      refine ⟨_, rfl, _, rfl, va, _, _, _, rfl, rfl, SqT.of ha, atI_nat (j := 0) rfl, vb, _, rfl, .inr (SqT.of hb), so, _, _, 0, rfl, s2, by omega, by rw [List.length_map, l1]; omega, by rw [List.length_map, l1]; omega, by decide, fun r H3 q0 q1 k3 s3 => ?_⟩
      rw [List.length_map, l1] at q1
      have ht3 := ht.mono (s2.tups k3)
      refine ⟨_, rfl, _, rfl, _, t, n, r, rfl, ht3, hnt, q0, q1, fun u H4 e4 hu => ?_⟩
      have h4 := e4 _ _ (k3 _ _ sf.symm h2)
      have k04 := (k2.trans k3).trans (Kp.of e4)
      have s4 := s3.same e4
      refine ⟨_, rfl, rfl, _, rfl, ?_⟩
      split at hu
      · rename_i t2 e2
        have hne : u ≠ .non := by
          obtain ⟨a1, _, _, e, _⟩ := TD.st hu
          rw [e]; intro z; cases z
        refine iteY (by simpa using hne) ?_
        refine ⟨_, rfl, .inl ⟨rfl, _, SqL.of h4⟩, _, rfl, f, _, _, rfl, rfl, h4, by rw [List.length_map]; omega, _, rfl, ?_⟩
        refine ⟨fun b o nb eb => ?_, (s4.kp (Kp.upd (l := f)) sf).mono (by omega), u, t2, row ++ [r], _, _, _, ?_, ?_, ?_, ?_, hu.mono (Kp.tups Kp.upd h4), (exq_vd hnt e2).1, rfl⟩
        · rw [upd_ne (ne_of_none eb hf)]
          exact k04 _ _ nb eb
        · rw [upd_same, List.map_append]; rfl
        · rw [List.length_append, List.length_singleton]; omega
        · intro x hx
          rcases List.mem_append.mp hx with hx | hx
          · exact rr x hx
          · rw [List.mem_singleton.mp hx]; exact ⟨q0, q1⟩
        · rw [runq_snoc, hrun]; exact e2
      · subst hu
        refine iteZ rfl ?_
        exact ⟨k04, s4.mono (by omega), _, t, row, _, _, _, h4, by omega, rr, hrun, ht3.mono e4.tups, hnt, rfl⟩
    · rintro σ H2 ⟨k2, s2, hv2, t, row, y4, y5, y6, h2, lr, rr, hrun, ht, hnt, rfl⟩
      exact ⟨_, rfl, h f row t H2 hf k2 h2 (by omega) rr hrun (s2.mono (by omega))⟩
theorem sc__law_run : FnScope ["_law_here", "_law_tape", "_law_spot"] ["_law_here", "_law_tape"] (defScope s__law_run) := ⟨rfl, rfl, rfl, by decide +kernel, rfl, by decide +kernel, by decide +kernel⟩
theorem ok__law_run (T : Tx K mg) : FnOk P w K mg base CX0 2 (He.ga K "_law_run") (fdOf K (He.ga K "_law_run")) ["_law_here", "_law_tape"] spLRun := by
  refine T.F__law_run.ok sc__law_run (fun vs H Q E h => ?_) (fun cdv A outer s H vs Q E hr h => ?_)
  · obtain ⟨v, s, n, a, row, t, rfl, _⟩ := h
    rfl
  · obtain ⟨v, s, n, a, row, t, rfl, hv, hn, ha, hl, hrun, h⟩ := h
    refine ⟨_, PSs.nox (pss_cons (ps_for PassesOwn.never rfl (pi_list (pv 1)) (pg_name (i := 2) sc__law_run.nd rfl (Or.inl rfl))
        (pss_one (ps_set (i := 0) sc__law_run.nd rfl (Or.inl rfl) (pe_ifExp (pt_cmpR op_notN (pv 0) pe_non (nomark _)) (pe_call (ok__law_swapped T) (hr.mono (by decide)) rfl T.g__law_swapped T.F__law_swapped.kp T.b_f__law_swapped .nil pass0 (pa_cons (pv 0) (pa_cons (pv 2) pa_nil))) pe_non))))
      (pss_one (ps_ret (pv 0)))), ?_⟩
    refine ⟨_, rfl, a, rfl, ⟨_, SqL.of ha⟩, ?_⟩
    refine for_sng (sng_list (xs := row.map V.int)) (fun i σ H' => Same H H' ∧ ∃ hv t2 y2, runq t2 (row.drop i) = .ok t ∧ TD H' hv (stD t2) ∧ Vd n t2 ∧ σ = [some hv, some (.ref a), y2])
      ⟨Same.refl _, v, s, _, hrun, hv, hn, rfl⟩ (fun i σ H' _ q => SqL.of (q.1 _ _ ha)) ?_ ?_
    · rintro i x σ H2 hi hx ⟨e2, hv2, t2, y2, hr2, ht, hnt, rfl⟩
      obtain ⟨z, rfl, hz⟩ := int_get hx
      rw [List.length_map] at hi
      rw [List.drop_eq_getElem_cons hi, show row[i] = z from (List.getElem?_eq_some_iff.mp hz).2] at hr2
      obtain ⟨t3, he, hr3⟩ := runq_step hr2
      obtain ⟨z0, z1, _, _⟩ := exq_inv hnt he
      have hne : hv2 ≠ .non := by
        obtain ⟨a1, _, _, e, _⟩ := TD.st ht
        rw [e]; intro z; cases z
      refine ⟨_, rfl, rfl, _, rfl, iteY (by simpa using hne) ⟨_, rfl, _, rfl, _, t2, n, z, rfl, ht, hnt, z0, z1, fun u H3 e3 hu => ?_⟩⟩
      rw [he] at hu
      exact ⟨e2.trans e3, u, t3, _, hr3, hu, (exq_vd hnt he).1, rfl⟩
    · rintro σ H2 ⟨e2, hv2, t2, y2, hr2, ht, hnt, rfl⟩
      rw [List.length_map, List.drop_length] at hr2
      cases hr2
      exact ⟨_, rfl, h hv2 H2 e2 ht⟩
end
end Tr
end
section
set_option Elab.async false
set_option linter.all false
set_option maxRecDepth 100000
set_option maxHeartbeats 4000000
namespace Tr
open PySem PySem.Spec PyProof.Rows L2 PySem.W PySem.Calls
/-! ### except (A, B, ..) as n -/
section
variable {M : Model} {A : Around} {E : Value → Shared → Prop} {s : Shared}
theorem forIn_all {α β : Type} {b0 : β} {f : α → β → Sem (ForInStep β)} {Q : β → Shared → Prop} : ∀ {l : List α}, (∀ c, c ∈ l → ∀ Q' : ForInStep β → Shared → Prop, Q' (.yield b0) s → wpAny M A (f c b0) Q' E s) → Q b0 s → wpAny M A (forIn l b0 f) Q E s
  | [], _, q => by
    rw [List.forIn_nil]
    exact wpAny_pure q
  | c :: l, h, q => by
    rw [List.forIn_cons]
    refine wpAny_bind (h c (List.mem_cons_self ..) _ ?_)
    exact forIn_all (fun d hd => h d (List.mem_cons_of_mem _ hd)) q
theorem forIn_find {α β : Type} {b0 b1 : β} {p : α → Bool} {f : α → β → Sem (ForInStep β)} {Q : β → Shared → Prop} : ∀ {l : List α}, (∀ c, c ∈ l → ∀ Q' : ForInStep β → Shared → Prop, Q' (if p c = true then .done b1 else .yield b0) s → wpAny M A (f c b0) Q' E s) → Q (if l.any p = true then b1 else b0) s → wpAny M A (forIn l b0 f) Q E s
  | [], _, q => by
    rw [List.forIn_nil]
    exact wpAny_pure q
  | c :: l, h, q => by
    rw [List.forIn_cons]
    refine wpAny_bind (h c (List.mem_cons_self ..) _ ?_)
    rw [List.any_cons] at q
    by_cases e : p c = true
    · rw [if_pos e]
      rw [e, Bool.true_or, if_pos rfl] at q
      exact wpAny_pure q
    · rw [if_neg e]
      rw [Bool.eq_false_iff.mpr e, Bool.false_or] at q
      exact forIn_find (fun d hd => h d (List.mem_cons_of_mem _ hd)) q
end
theorem exmAny_all {K : Frag} {cls : Value} : ∀ {cs : List Value} {b : Bool}, exmAny K cls cs = some b → (∀ c, c ∈ cs → exmOne K cls c = some ((exmOne K cls c).getD false)) ∧ b = cs.any fun c => (exmOne K cls c).getD false
  | [], b, h => ⟨fun c hc => (by cases hc), (Option.some.inj h).symm⟩
  | c :: cs, b, h => by
    obtain ⟨b1, d1, e1, e2, rfl⟩ := exmAny_cons h
    obtain ⟨i1, i2⟩ := exmAny_all e2
    refine ⟨fun x hx => ?_, ?_⟩
    · rcases List.mem_cons.mp hx with rfl | hx
      · rw [e1]; rfl
      · exact i1 x hx
    · rw [List.any_cons, ← i2, e1]
      rfl
theorem exm_tupN {M : Model} {K : Frag} {cls : Value} {cs : List Value} {tp e : Addr} {b : Bool} {h : Heap} (X : K.In h) (LT : Looks M h (typeOf (.ref e)) cls) (hp : h.get? tp = some { cls := .type "tuple", data := .seq cs.toArray }) (hx : exmAny K cls cs = some b) :
    Looks M h (excMatches (.ref e) (.ref tp)) b := by
  intro A Q E s k₀ q
  obtain ⟨hh, g, d, tk, os⟩ := s
  have k : ∀ b o, h.get? b = some o → hh.get? b = some o := k₀
  have LT0 : Looks M h (isInstance (.ref tp) (.type "tuple")) true := ((Looks.ld hp).andThen .now).andThen (Looks.of_pure isSubtype_tuple_tuple)
  have LT := LT.keeps k
  have LT0 := LT0.keeps k
  have hp' := k _ _ hp
  obtain ⟨a1, rfl⟩ := exmAny_all hx
  have ex : ∀ c, c ∈ cs → Looks M hh (isExcClass c) true ∧ Looks M hh (isSubtype cls c) ((exmOne K cls c).getD false) := fun c hc => by
    obtain ⟨x1, x2⟩ := exm_cls (M := M) X (a1 c hc)
    exact ⟨x1.keeps k, x2.keeps k⟩
  unfold excMatches
  refine wpAny_bind (LT0.at ?_)
  dsimp only
  rw [if_pos rfl]
  first
    | refine wpAny_bind (wpAny_seqItems hp' rfl ?_)
    | refine wpAny_bind (wpAny_bind (wpAny_seqItems hp' rfl (wpAny_pure ?_)))
  dsimp only [Option.getD_some, Option.getD]
  refine wpAny_bind (wpAny_pure ?_)
  refine wpAny_bind (forIn_all (fun c hc Q' hq => ?_) ?_)
  · refine wpAny_bind ((ex c hc).1.at ?_)
    exact wpAny_pure hq
  refine wpAny_bind (LT.at ?_)
  refine wpAny_bind (forIn_find (b1 := (some true, ())) (p := fun c => (exmOne K cls c).getD false) (fun c hc Q' hq => ?_) ?_)
  · refine wpAny_bind ((ex c hc).2.at ?_)
    cases hb : (exmOne K cls c).getD false with
    | true =>
      rw [hb] at hq
      exact wpAny_pure hq
    | false =>
      rw [hb] at hq
      exact wpAny_pure hq
  · cases hb : cs.any fun c => (exmOne K cls c).getD false with
    | true =>
      rw [hb] at q
      exact wpAny_pure q
    | false =>
      rw [hb] at q
      exact wpAny_pure q
theorem FlyingZ.keeps {base h h' : Heap} {l : List Env} {e : Addr} {Z : Obj → Prop} (x : HandSPX.FlyingZ base l e Z h) (k : ∀ b o, h.get? b = some o → h'.get? b = some o) : HandSPX.FlyingZ base l e Z h' := by
  obtain ⟨f1, f2, f3, oe, vs, T, oT, ts, he, hz, hd, h1, hnT, hTe, hT, hdT, h3⟩ := x
  exact ⟨fun b o q => k b o (f1 b o q), f2, f3.of_keeps fun b o q _ => ⟨o, k b o q, rfl⟩, oe, vs, T, oT, ts, k _ _ he, hz, hd, h1, hnT, hTe, k _ _ hT, hdT, h3⟩
/-- names of classes -/
inductive NmsOk (X : Cx) : List Expr → List Value → Prop
  | nil : NmsOk X [] []
  | cons {x : Str} {c : Value} {p : Pos} {es : List Expr} {cs : List Value} (h : Names X x c) (r : NmsOk X es cs) : NmsOk X (.Name x p :: es) (c :: cs)
theorem nms_eval {X : Cx} {Y : Cx} {pins : List (Addr × Obj)} {σ : L2.St} {H : Hp} {s : Shared} {E : Value → Shared → Prop} (hY : Y.env = X.env) (hmg : Y.mg = X.mg) (hp : Y.prog = X.prog) (hw : Y.w = X.w) (I : Inv Y pins σ H s) {pos : Pos} : ∀ {es : List Expr} {cs : List Value} {Q : List Value → Shared → Prop}, NmsOk X es cs → Q cs s →
    wpAny (model X.prog X.w) Y.A (spliced (backTo pos (starEach es X.env))) Q E s
  | _, _, Q, .nil, q => wpAny_items_nil q
  | _, _, Q, .cons (c := c) h r, q => by
    refine wpAny_items_cons ?_
    rw [← hp, ← hw, ← hY]
    obtain ⟨hg, hdbg, hm | ⟨hm, hv, hnn⟩⟩ := h
    · refine ld_glob (X := Y) I ?_ (by rw [hmg]; exact hm) ?_ hdbg
      · unfold Gl at *
        rw [hY]
        exact hg
      · rw [hp, hw, hY]
        exact nms_eval hY hmg hp hw I r q
    · refine ld_blt (X := Y) I ?_ (by rw [hmg]; exact hm) hv ?_ hnn hdbg
      · unfold Gl at *
        rw [hY]
        exact hg
      · rw [hp, hw, hY]
        exact nms_eval hY hmg hp hw I r q
/-- an exception as a value: at a, of the class cls, its dict at d -/
def ExV (cls : Value) (d : Option Addr) (a : Addr) : HO := .ext fun h => ∃ oe vs, h.get? a = some oe ∧ Zc cls d oe ∧ oe.data = .fields vs
theorem exv_at {P : Program} {w : World} {H : Hp} {h : Heap} {a : Addr} {cls : Value} {d : Option Addr} (hok : HOk P w H h) (e : H a = some (ExV cls d a)) : ∃ oe vs, h.get? a = some oe ∧ Zc cls d oe ∧ oe.data = .fields vs := by
  have x : ObjOk P w H h a (.ext fun h => ∃ oe vs, h.get? a = some oe ∧ Zc cls d oe ∧ oe.data = .fields vs) := hok a _ e
  exact x.1
theorem Inv.track {X : Cx} {pins : List (Addr × Obj)} {σ : L2.St} {H : Hp} {s : Shared} {a : Addr} {oe : Obj} {vs : Array Value} {cls : Value} {d : Option Addr} (I : Inv X pins σ H s) (ha : s.heap.get? a = some oe) (z : Zc cls d oe) (dd : oe.data = .fields vs) (na : H a = none)
    (n0 : X.s_0.heap.get? a = none) (nL : a ≠ X.env.locals) (np : ∀ p ∈ X.pn ++ pins, p.1 ≠ a) : Inv X pins σ (upd H a (ExV cls d a)) s where
  ok := I.ok
  os := I.os
  bare := I.bare
  base := {
    keep := I.base.keep
    slot := I.base.slot
    free := fun b o q n hx => by
      have hb : b ≠ a := fun e => by rw [e, n0] at q; cases q
      rw [upd_ne hb]
      exact I.base.free b o q n hx
    there := I.base.there
    tups := fun b xs q => by
      have q2 := I.base.tups b xs q
      rw [upd_ne (ne_of_none q2 na)]
      exact q2
    frzs := fun b o u q => by
      have q2 := I.base.frzs b o u q
      rw [upd_ne (ne_of_none q2 na)]
      exact q2
    tbls := fun b ps q => by
      obtain ⟨more, q2⟩ := I.base.tbls b ps q
      exact ⟨more, by rw [upd_ne (ne_of_none q2 na)]; exact q2⟩ }
  loc := I.loc
  cell := I.cell
  free := by rw [upd_ne nL.symm]; exact I.free
  freeC := fun x c h => by
    obtain ⟨v, o, e1, e2⟩ := I.cell x c h
    have hc : c ≠ a := fun e => by
      rw [e, ha] at e1
      cases e1
      rw [dd] at e2
      cases e2
    rw [upd_ne hc]
    exact I.freeC x c h
  pin := fun p hp => by
    obtain ⟨h1, h2, h3⟩ := I.pin p hp
    exact ⟨h1, by rw [upd_ne (np p hp)]; exact h2, h3⟩
  hok := I.hok.laidN (fun _ _ q => q) na ⟨⟨oe, vs, ha, z, dd⟩, ⟨_, ha⟩, fun h1 h2 q k => by
    obtain ⟨o, v, e1, e2, e3⟩ := q
    exact ⟨o, v, k _ e1, e2, e3⟩⟩
  len := I.len
/-- what the clause wishes; behind it the exception is a value -/
def wAsT (K : PySem.W.Frag) (cs : List Value) (i : Nat) (ts : Addr → Value → Option Addr → TS) (D : Ends) : WX := fun cls d σ H =>
  exmAny K cls cs = some true ∧ ∀ a, H a = none → ts a cls d { nx := fun σ' H' => D.nx (σ'.set i none) (upd H' a (ExV cls d a)), rt := fun v H' => D.rt v (upd H' a (ExV cls d a)), bk := fun σ' H' => D.bk (σ'.set i none) (upd H' a (ExV cls d a)), ct := fun σ' H' => D.ct (σ'.set i none) (upd H' a (ExV cls d a)) } (σ.set i (some (.ref a))) H
section
variable {X : Cx} {n : Str} {cs : List Value} {elts : List Expr} {i kk : Nat} {body suite : List Stmt} {b₀ : Stmt} {tpos pos pos' : Pos} {tb : WX → TS} {ts : Addr → Value → Option Addr → TS}
theorem ps_try_asT (hs : X.stack = X.env :: X.outer) (hf : X.env.frame = some X.env.locals) (hex : X.ex = []) (hN : X.N.Nodup) (hi : X.N[i]? = some n) (hln : X.env.kindOf n = some .local) (hc : NmsOk X elts cs) (hl : cs.length ≤ 100)
    (hb : ∀ (W : WX) (pn : List (Addr × Obj)) (xe : Value → Shared → Prop), Takes (X.tr pn xe) W → PassesOwn (model X.prog X.w) X.A X.env xe → PSs (X.tr pn xe) body (tb W))
    (hsu : ∀ (a : Addr) (oe : Obj) (cls : Value) (d : Option Addr) (pn : List (Addr × Obj)), Zc cls d oe → (∃ vs, oe.data = .fields vs) → PSs (X.suite a ((a, oe) :: pn)) (b₀ :: suite) (ts a cls d)) :
    PS X (.Try body [.ExceptHandler (some (.Tuple elts kk tpos)) (some n) (b₀ :: suite) pos'] [] [] pos) (fun D σ H => tb (wAsT X.K cs i ts D) D σ H) := by
  refine ⟨fun pins s σ H D I h => ?_⟩
  have ok := I.ok
  have hfr : X.A.frames = some (X.env :: X.outer) := by rw [ok.frames, hs]
  have hloc : Loc X.env.scope n := .inl hln
  refine wpAny_Try_except ?_
  refine wpAny_mono ((hb (wAsT X.K cs i ts D) (X.pn ++ pins) (fun e s₁ => wpAny (model X.prog X.w) X.A (noteFrame e X.env) (fun _ s₂ => wpAny (model X.prog X.w) X.A (setFlight e none) (fun _ s₃ =>
    wpAny (model X.prog X.w) X.A (handleBy e X.env [.ExceptHandler (some (.Tuple elts kk tpos)) (some n) (b₀ :: suite) pos']) (SP X pins D) X.xe s₃) X.xe s₂) X.xe s₁) (fun u s' xx => ?_) PassesOwn.looking).run [] s σ H D (I.toTry _) h) (fun f s1 hsp => ?_) (fun e s1 he => he)
  · obtain ⟨a, B, sI, pins', σ', H', cls, d, rfl, J', nb, up, sky, na, os, ag, hb1, hyes⟩ := xx
    have J : Inv X pins σ' H' sI := J'.ofTry ok
    have sky' : Sky B (X.env :: X.outer) a (Zc cls d) X.env.locals s'.heap := by rw [← hs]; exact sky
    show wpAny (model X.prog X.w) X.A (noteFrame (.ref a) X.env) _ _ _
    refine Sky.land Zc.steady hfr hf sky' fun h3 fl3 up3 => ?_
    have J3 : Inv X pins σ' H' { s' with heap := h3 } := J.landed nb fl3.1 (up.trans up3) os ag
    obtain ⟨oe3, vs3, he3, hz3, hd3⟩ := fl3.there
    have nfr : a ∉ frs (X.env :: X.outer) := fun hm => by
      obtain ⟨_, o', e', hnf⟩ := fl3.2.2.1.mem hm
      rw [he3] at e'; cases e'
      exact hnf _ hd3
    have nL : a ≠ X.env.locals := fun z => nfr (List.mem_filterMap.mpr ⟨X.env, List.mem_cons_self, by rw [hf, z]⟩)
    have nF : a ∉ X.fs := fun hm => by
      obtain ⟨e, he, q⟩ := List.mem_filterMap.mp hm
      exact nfr (List.mem_filterMap.mpr ⟨e, List.mem_cons_of_mem _ he, q⟩)
    have nI : sI.heap.get? a = none := by
      cases q : sI.heap.get? a with
      | none => rfl
      | some o =>
        have q2 := nb a o q (by rw [hs]; exact nfr)
        rw [fl3.2.1] at q2
        cases q2
    have n0 : X.s_0.heap.get? a = none := by
      cases q : X.s_0.heap.get? a with
      | none => rfl
      | some o =>
        obtain ⟨o', q2⟩ := J.base.there a o q (by rw [hex]; simp)
        rw [nI] at q2
        cases q2
    have np : ∀ p ∈ X.pn ++ pins, p.1 ≠ a := fun p hp e => by
      have q := (J.pin p hp).1
      rw [e, nI] at q
      cases q
    have S3 := J3.suite he3 hd3 na nL nF
    refine wpAny_handleBy_cons (codeAny_handlers_test ?_) (by intro q; cases q)
    have kp : ∀ q o, h3.get? q = some o → (h3.push { cls := .type "tuple", data := .seq cs.toArray }).get? q = some o := fun _ _ z => Heap.get?_push_of_some _ z
    have LT : PySem.W.Looks (model X.prog X.w) (h3.push { cls := .type "tuple", data := .seq cs.toArray }) (typeOf (.ref a)) cls := fun A Q E s k q => wpAny_typeOf_ref (k _ _ (kp _ _ he3)) (by rw [hz3.1]; exact q)
    have LM := exm_tupN (M := model X.prog X.w) (tp := h3.objs.size) (J3.kIn.keeps kp) LT (Heap.get?_push_size h3 rfl) hb1
    refine wpAny_Tuple (nms_eval (X := X) (Y := X.suite a ((a, oe3) :: (X.pn ++ pins))) rfl rfl rfl rfl S3 hc ⟨by rw [sizeLine_eq]; omega, ?_⟩)
    refine LM.here ?_
    have fl3p := FlyingZ.keeps fl3 kp
    refine codeAny_handlers_suite_as ?_
    refine HandSPX.lands_againZ fl3p fun h4 fl4 up4 => ?_
    have J4 : Inv X pins σ' H' { s' with heap := h4 } := J.landed nb fl4.1 (((up.trans up3).trans (Heap.UpToSlots.of_keeps kp)).trans up4) os ag
    obtain ⟨oe4, vs4, he4, hz4, hd4⟩ := fl4.there
    have S4 := J4.suite he4 hd4 na nL nF
    refine store_ok (X := X.suite a ((a, oe4) :: (X.pn ++ pins))) (v := .ref a) S4 hN hi hloc rfl (fun s5 S5 => ?_) (.inr hln)
    refine wpAny_mono ((hsu a oe4 cls d (X.pn ++ pins) hz4 ⟨_, hd4⟩).run [] s5 _ H' _ S5 (hyes a na)) (fun f s6 hsp => ?_) (fun _ _ z => False.elim z)
    have end_ : ∀ {σ6 : L2.St} {H6 : Hp} {Q : Shared → Prop}, Inv (X.suite a ((a, oe4) :: (X.pn ++ pins))) [] σ6 H6 s6 → (∀ s7, Inv X pins (σ6.set i none) (upd H6 a (ExV cls d a)) s7 → Q s7) →
        wpAny (model X.prog X.w) X.A (do bindName X.env n .none; unbindBehindTheSuite X.env n pos') (fun _ s7 => Q s7) X.xe s6 := fun {σ6 H6 Q} S6 hq => by
      obtain ⟨p1, p2, _⟩ := S6.pin (a, oe4) (List.mem_append_left _ (List.mem_cons_self ..))
      exact gone_ok (Inv.track (S6.unsuite ok) p1 hz4 hd4 p2 n0 nL np) hN hi hln hq
    cases f with
    | next =>
      obtain ⟨σ6, H6, S6, q6⟩ := hsp
      exact end_ S6 fun s7 J7 => ⟨_, _, J7, q6⟩
    | brk =>
      obtain ⟨σ6, H6, S6, q6⟩ := hsp
      exact end_ S6 fun s7 J7 => ⟨_, _, J7, q6⟩
    | cont =>
      obtain ⟨σ6, H6, S6, q6⟩ := hsp
      exact end_ S6 fun s7 J7 => ⟨_, _, J7, q6⟩
    | ret u =>
      obtain ⟨v6, σ6, H6, S6, r6, q6⟩ := hsp
      exact end_ S6 fun s7 J7 => ⟨_, _, _, J7, r6, q6⟩
  · cases f with
    | next =>
      obtain ⟨σ', H', J', q⟩ := hsp
      exact wpAny_execs_nil ⟨σ', H', J'.ofTry ok, q⟩
    | brk =>
      obtain ⟨σ', H', J', q⟩ := hsp
      exact ⟨σ', H', J'.ofTry ok, q⟩
    | cont =>
      obtain ⟨σ', H', J', q⟩ := hsp
      exact ⟨σ', H', J'.ofTry ok, q⟩
    | ret u =>
      obtain ⟨v, σ', H', J', r, q⟩ := hsp
      exact ⟨v, σ', H', J'.ofTry ok, r, q⟩
end
end Tr
end
section
set_option Elab.async false
set_option linter.all false
set_option maxRecDepth 100000
set_option maxHeartbeats 4000000
/-! caught errors as values: isinstance, fields -/
namespace Tr
open PySem PySem.Spec PyProof.Rows L2
structure XcK (K : PySem.W.Frag) (D : Addr) : Prop where
  cl : (PySem.W.clsIn K D).isSome = true
  ga : PySem.W.findIn K (.ref D) "__getattribute__" = some (some (.builtin "BaseException.__getattribute__"))
  gg : PySem.W.findIn K (.ref D) "__getattr__" = some none
  sub : PySem.W.subIn K (.ref D) (.type "BaseException") = some true
  ha : PySem.W.findIn K (.ref D) "__class__" = some (some (.builtin "object.__class__"))
  hn : PySem.W.specialIn K (.builtin "object.__class__") "__get__" = some (some (.builtin "getset_descriptor.__get__"))
  ht : PySem.W.takesIn K (.builtin "object.__class__") = some true
  hm : PySem.W.mroIn K D (.type "object") = some true
  hd : PySem.W.hasDictIn K D = true
theorem XcK.of {K : PySem.W.Frag} (Z : Ex K) {x f : Str} {B n1 n2 : String} {bm : List Value} (h : ExX K x f B n1 n2 bm) : XcK K (He.ga K x) where
  cl := by
    obtain ⟨cd, hc, _⟩ := PySem.W.any_some h.hd
    rw [hc]; rfl
  ga := h.ga
  gg := h.gg
  sub := h.ox.exC
  ha := h.cl
  hn := Z.sn
  ht := Z.st
  hm := h.mo
  hd := h.hd
theorem XcK.all {K : PySem.W.Frag} (Z : Ex K) : ∀ i, i < 8 → XcK K (He.ga K (exN i)) ∧ PySem.W.findIn K (.ref (He.ga K (exN i))) (exF i) = some none
  | 0, _ => ⟨.of Z Z.x_OtherPeople, Z.x_OtherPeople.no⟩
  | 1, _ => ⟨.of Z Z.x_NoPerson, Z.x_NoPerson.no⟩
  | 2, _ => ⟨.of Z Z.x_NoSeat, Z.x_NoSeat.no⟩
  | 3, _ => ⟨.of Z Z.x_Empty, Z.x_Empty.no⟩
  | 4, _ => ⟨.of Z Z.x_Barred, Z.x_Barred.no⟩
  | 5, _ => ⟨.of Z Z.x_Stops, Z.x_Stops.no⟩
  | 6, _ => ⟨.of Z Z.x_Few, Z.x_Few.no⟩
  | 7, _ => ⟨.of Z Z.x_Full, Z.x_Full.no⟩
  | n + 8, h => by omega
/-- the error at a, of the class D -/
def XAt (H : Hp) (a D : Addr) : Prop := H a = some (ExV (.ref D) none a) ∨ ∃ dd fs, H a = some (ExV (.ref D) (some dd) a) ∧ H dd = some (.xd fs)
theorem XAt.look {X : Cx} {pins : List (Addr × Obj)} {σ : L2.St} {H : Hp} {s : Shared} {a D : Addr} (I : Inv X pins σ H s) (h : XAt H a D) : ∃ oe od, PySem.W.InstAt s.heap a oe D od := by
  rcases h with h | ⟨dd, fs, h, hd⟩
  · obtain ⟨oe, vs, h1, z, hf⟩ := exv_at I.hok h
    refine ⟨oe, none, h1, z.1, by unfold PySem.W.notCls; rw [hf] <;> rfl, ?_⟩
    rw [z.2]
    trivial
  · obtain ⟨oe, vs, h1, z, hf⟩ := exv_at I.hok h
    have hx : ObjOk X.prog X.w H s.heap dd (.xd fs) := I.hok dd _ hd
    obtain ⟨mA, hns, hr⟩ := hx
    obtain ⟨od, ho, hl⟩ := lookIn_ns hns
    refine ⟨oe, some od, h1, z.1, by unfold PySem.W.notCls; rw [hf] <;> rfl, ?_⟩
    rw [z.2]
    exact ho
/-- isinstance(e, c) -/
def rIsX (K : PySem.W.Frag) : List V → Hp → VK → Prop := fun xs H Q => ∃ (a D : Addr) (c : V) (u : Value) (b : Bool), xs = [.ref a, c] ∧ XAt H a D ∧ XcK K D ∧ ClsV c u ∧ PySem.W.kitOne K (.ref D) u = some b ∧ Q (.bl b) H
/-- isinstance(e, (c1, c2, ..)) -/
def rIsXT (K : PySem.W.Frag) : List V → Hp → VK → Prop := fun xs H Q => ∃ (a D tp : Addr) (cs : List V) (us : List Value) (b : Bool), xs = [.ref a, .ref tp] ∧ XAt H a D ∧ XcK K D ∧ H tp = some (.tup cs) ∧ Paired ClsV cs us ∧ PySem.W.kitAny K (.ref D) us = some b ∧ Q (.bl b) H
section
variable {X : Cx}
theorem call_isX : CallR X (.builtin "isinstance") (rIsX X.K) := by
  intro pins s σ H xs us Q I r h
  obtain ⟨a, D, c, u, b, rfl, hx, C, k, e, q⟩ := h
  obtain ⟨u1, u2, rfl, r1, r2⟩ := vals2 r
  cases (show u1 = Value.ref a from r1)
  have e2 := k.eq r2
  subst e2
  obtain ⟨oe, od, J⟩ := hx.look I
  exact PySem.W.kia_one (PySem.W.kitx_exc C.cl C.ga C.gg C.sub C.ha C.hn C.ht C.hm) I.kIn J e (fun z => nomatch z) fun tk => ⟨.bl b, H, I.tok tk, rfl, q⟩
theorem call_isXT : CallR X (.builtin "isinstance") (rIsXT X.K) := by
  intro pins s σ H xs us Q I r h
  obtain ⟨a, D, tp, cs, ws, b, rfl, hx, C, hT, k, e, q⟩ := h
  obtain ⟨u1, u2, rfl, r1, r2⟩ := vals2 r
  cases (show u1 = Value.ref a from r1)
  cases (show u2 = Value.ref tp from r2)
  obtain ⟨oe, od, J⟩ := hx.look I
  obtain ⟨_, its, rv, o, h1, h2, n, h3⟩ := (show ObjOk X.prog X.w H s.heap tp (.tup cs) from I.hok tp _ hT)
  have e3 := ClsV.all k rv
  subst e3
  obtain ⟨oc, od2, dt, sl⟩ := o
  simp only at h2 h3
  subst h2 h3
  exact PySem.W.kia_tup (PySem.W.kitx_exc C.cl C.ga C.gg C.sub C.ha C.hn C.ht C.hm) I.kIn J h1 e (fun z => nomatch z) fun tk => ⟨.bl b, H, I.tok tk, rfl, q⟩
/-- e.f, e a caught error -/
def tXv (K : PySem.W.Frag) (f : Str) (te : TE) : TE := fun σ H Q => te σ H fun x H1 => ∃ (a D dd : Addr) (fs : List (Str × V)) (v : V), x = .ref a ∧ H1 a = some (ExV (.ref D) (some dd) a) ∧ H1 dd = some (.xd fs) ∧ XcK K D ∧ PySem.W.findIn K (.ref D) f = some none ∧ fs.lookup f = some v ∧ Q v H1
theorem pe_xv {e : Expr} {te : TE} {pos : Pos} {n : Str} (he : PE X e te) (hb : attributeBase e n X.env (eval e X.env) = eval e X.env := by rfl) : PE X (.Attribute e n pos) (tXv X.K n te) := by
  refine ⟨fun pins s σ H Q I h => ?_⟩
  refine attr_of hb (thn (he.run pins s σ H _ I h) fun u s1 hh => ?_)
  obtain ⟨x, H1, I1, rx, a, D, dd, fs, v, ex, h1, h2, C, hno, l, q⟩ := hh
  subst ex
  obtain rfl : u = Value.ref a := rx
  obtain ⟨oe, vs, ha, hz, hd⟩ := exv_at I1.hok h1
  have hx : ObjOk X.prog X.w H1 s1.heap dd (.xd fs) := I1.hok dd _ h2
  obtain ⟨mA, hns, hr⟩ := hx
  obtain ⟨od, ho, hl⟩ := lookIn_ns hns
  obtain ⟨u, hu, ru⟩ := RelO.some_of (v := v) (o := mA n) (by rw [← l]; exact hr n)
  have J : PySem.W.InstAt s1.heap a oe D (some od) := ⟨ha, hz.1, by unfold PySem.W.notCls; rw [hd] <;> rfl, by rw [hz.2]; exact ho⟩
  exact HandSPX.exc_get I1.kIn J C.ga C.gg C.sub (PySem.W.findObj_own C.hd hno rfl (by rw [hl, hu])) (handed_of ru) ⟨v, H1, I1.tok _, ru, q⟩
end
end Tr
end
section
set_option Elab.async false
set_option linter.all false
set_option maxRecDepth 100000
set_option maxHeartbeats 4000000
namespace Tr
open PySem PySem.Spec PyProof.Rows L2
/-! ### names of errors -/
def vD : V → PyData
  | .int i => .int i
  | .str z => .str z
  | _ => .none
def erD : Er → PyData
  | .one i v => .tuple [.str (exN i), vD v]
  | .few => .tuple [.str "Few", .none]
def EX (K : PySem.W.Frag) (H : Hp) (a : Addr) : Er → Prop
  | .one i v => ∃ dd, H a = some (ExV (.ref (He.ga K (exN i))) (some dd) a) ∧ H dd = some (.xd [(exF i, v)])
  | .few => H a = some (ExV (.ref (He.ga K (exN 6))) none a)
def spMissing (K : PySem.W.Frag) : Sp := fun vs H Q _ => ∃ (a : Addr) (i : Nat) (v : V), vs = [.ref a, .int i] ∧ (i = 1 ∨ i = 2) ∧ EX K H a (.one i v) ∧ ErOk (.one i v) ∧ ∀ u H', Same H H' → TD H' u (erD (.one i v)) → Q u H'
def spNamed (K : PySem.W.Frag) : Sp := fun vs H Q _ => ∃ (a : Addr) (e : Er), vs = [.ref a] ∧ EX K H a e ∧ ErOk e ∧ ∀ u H', Same H H' → TD H' u (erD e) → Q u H'
theorem vD_td {H : Hp} {v : V} (h : (∃ z, v = .int z) ∨ ∃ z, v = .str z) : TD H v (vD v) := by
  rcases h with ⟨z, rfl⟩ | ⟨z, rfl⟩
  · exact .int z
  · exact .str z
theorem xtup {H : Hp} {p : Addr} {z : Str} {v : V} {d : PyData} (h : ∀ H, TD H v d) : TD (upd H p (.tup [.str z, v])) (.ref p) (.tuple [.str z, d]) := TD.mk upd_same (.cons (.str z) (.cons (h _) .nil))
theorem XAt.same {H H' : Hp} {a D : Addr} (h : XAt H a D) (e : Same H H') : XAt H' a D := by
  rcases h with h | ⟨dd, fs, h, hd⟩
  · exact .inl (e _ _ h)
  · exact .inr ⟨dd, fs, e _ _ h, e _ _ hd⟩
def kl (i : Nat) : List V := [.bl (qB i 0), .bl (qB i 1), .bl (qB i 2), .bl (qB i 3), .bl (qB i 4), .bl (qB i 5), .bl (qB i 6), .bl (qB i 7)]
def bl4 (i : Nat) : List V := [.bl (qB i 8), .bl (qB i 9), .bl (qB i 10), .bl (qB i 11)]
def bix : Nat → Nat
  | 0 => 0
  | 1 => 1
  | 2 => 1
  | 7 => 3
  | _ => 2
theorem kl_ok : ∀ i, i < 8 → (kl i).countP (fun z => eqV z (.bl true)) = 1 ∧ (bl4 i).countP (fun z => eqV z (.bl true)) = 1 ∧ (kl i)[i]? = some (.bl true) ∧ (∀ (m : Nat) (z : V), m < i → (kl i)[m]? = some z → eqV z (.bl true) = false) ∧
    (bl4 i)[bix i]? = some (.bl true) ∧ (∀ (m : Nat) (z : V), m < bix i → (bl4 i)[m]? = some z → eqV z (.bl true) = false) ∧ ([.int 0, .int 1, .int 1, .int 2, .int 2, .int 2, .int 2, .int 3] : List V)[i]? = some (.int (bix i : Nat)) := by
  intro i hi
  have small : ∀ (l : List V) (k : Nat), (∀ m, m < k → (match l[m]? with
      | some (.bl false) => true
      | _ => false) = true) → ∀ (m : Nat) (z : V), m < k → l[m]? = some z → eqV z (.bl true) = false := fun l k h m z hm hz => by
    have := h m hm
    rw [hz] at this
    match z, this with
    | .bl false, _ => rfl
  have : i = 0 ∨ i = 1 ∨ i = 2 ∨ i = 3 ∨ i = 4 ∨ i = 5 ∨ i = 6 ∨ i = 7 := by omega
  rcases this with rfl | rfl | rfl | rfl | rfl | rfl | rfl | rfl <;> exact ⟨rfl, rfl, rfl, small _ _ (by decide), rfl, small _ _ (by decide), rfl⟩
section
variable {P : Program} {w : World} {K : PySem.W.Frag} {mg : Str → Option Value} {base : Heap}
theorem sc__law_missing : FnScope ["_law_caught", "_law_at"] ["_law_caught", "_law_at"] (defScope s__law_missing) := ⟨rfl, rfl, rfl, by decide +kernel, rfl, by decide +kernel, by decide +kernel⟩
theorem ok__law_missing (T : Tx K mg) (Z : Ex K) : FnOk P w K mg base CX0 1 (He.ga K "_law_missing") (fdOf K (He.ga K "_law_missing")) ["_law_caught", "_law_at"] (spMissing K) := by
  refine T.F__law_missing.ok sc__law_missing (fun vs H Q E h => ?_) (fun cdv A outer s H vs Q E hr h => ?_)
  · obtain ⟨a, i, v, rfl, _⟩ := h
    rfl
  · obtain ⟨a, i, v, rfl, hi, ⟨dd, h1, h2⟩, ⟨_, _, ho⟩, h⟩ := h
    refine ⟨_, PSs.nox (pss_one (ps_ret (pe_ifExp (pt_cmpR op_eq (pv 1) pe_int (nomark _)) (pe_tup (pa_cons pe_str (pa_cons (pe_xv (pv 0) rfl) pa_nil))) (pe_tup (pa_cons pe_str (pa_cons (pe_xv (pv 0) rfl) pa_nil)))))), ?_⟩
    have X := XcK.all Z i (by omega)
    rcases hi with rfl | rfl
    · refine ⟨_, rfl, rfl, _, rfl, iteY rfl ?_⟩
      exact ⟨_, rfl, a, _, dd, _, v, rfl, h1, h2, X.1, X.2, rfl, line2, fun p hp => h (.ref p) _ (Same.new hp) (xtup fun H => vD_td ho)⟩
    · refine ⟨_, rfl, rfl, _, rfl, iteZ rfl ?_⟩
      exact ⟨_, rfl, a, _, dd, _, v, rfl, h1, h2, X.1, X.2, rfl, line2, fun p hp => h (.ref p) _ (Same.new hp) (xtup fun H => vD_td ho)⟩
theorem sc__law_named : FnScope ["_law_caught", "_law_kinds", "_law_bases", "_law_at"] ["_law_caught"] (defScope s__law_named) := ⟨rfl, rfl, rfl, by decide +kernel, rfl, by decide +kernel, by decide +kernel⟩
theorem ok__law_named (T : Tx K mg) (Z : Ex K) : FnOk P w K mg base CX0 2 (He.ga K "_law_named") (fdOf K (He.ga K "_law_named")) ["_law_caught"] (spNamed K) := by
  refine T.F__law_named.ok sc__law_named (fun vs H Q E h => ?_) (fun cdv A outer s H vs Q E hr h => ?_)
  · obtain ⟨a, e, rfl, _⟩ := h
    rfl
  · obtain ⟨a, e, rfl, he, ho, h⟩ := h
    refine ⟨_, PSs.nox (pss_cons (ps_set (i := 1) sc__law_named.nd rfl (Or.inl rfl) (pe_lst (pa_cons (pe_callB call_isX rfl T.b_isinstance bt_isinstance (pa_cons (pv 0) (pa_cons (pe_glob (v := .ref (He.ga K "OtherPeople")) rfl T.g_OtherPeople rfl) pa_nil))) (pa_cons (pe_callB call_isX rfl T.b_isinstance bt_isinstance (pa_cons (pv 0) (pa_cons (pe_glob (v := .ref (He.ga K "NoPerson")) rfl T.g_NoPerson rfl) pa_nil))) (pa_cons (pe_callB call_isX rfl T.b_isinstance bt_isinstance (pa_cons (pv 0) (pa_cons (pe_glob (v := .ref (He.ga K "NoSeat")) rfl T.g_NoSeat rfl) pa_nil))) pa_nil)))))
      (pss_cons (ps_set (i := 1) sc__law_named.nd rfl (Or.inl rfl) (pe_op op_cat (pv 1) (pe_lst (pa_cons (pe_callB call_isX rfl T.b_isinstance bt_isinstance (pa_cons (pv 0) (pa_cons (pe_glob (v := .ref (He.ga K "Empty")) rfl T.g_Empty rfl) pa_nil))) (pa_cons (pe_callB call_isX rfl T.b_isinstance bt_isinstance (pa_cons (pv 0) (pa_cons (pe_glob (v := .ref (He.ga K "Barred")) rfl T.g_Barred rfl) pa_nil))) (pa_cons (pe_callB call_isX rfl T.b_isinstance bt_isinstance (pa_cons (pv 0) (pa_cons (pe_glob (v := .ref (He.ga K "Stops")) rfl T.g_Stops rfl) pa_nil))) pa_nil))))))
      (pss_cons (ps_set (i := 1) sc__law_named.nd rfl (Or.inl rfl) (pe_op op_cat (pv 1) (pe_lst (pa_cons (pe_callB call_isX rfl T.b_isinstance bt_isinstance (pa_cons (pv 0) (pa_cons (pe_glob (v := .ref (He.ga K "Few")) rfl T.g_Few rfl) pa_nil))) (pa_cons (pe_callB call_isX rfl T.b_isinstance bt_isinstance (pa_cons (pv 0) (pa_cons (pe_glob (v := .ref (He.ga K "Full")) rfl T.g_Full rfl) pa_nil))) pa_nil)))))
      (pss_cons (ps_set (i := 2) sc__law_named.nd rfl (Or.inl rfl) (pe_lst (pa_cons (pe_callB call_isX rfl T.b_isinstance bt_isinstance (pa_cons (pv 0) (pa_cons (pe_bltn (v := .ty "ValueError") rfl T.b_ValueError PyProof.Rows.Boot.«ValueError» rfl) pa_nil))) (pa_cons (pe_callB call_isX rfl T.b_isinstance bt_isinstance (pa_cons (pv 0) (pa_cons (pe_bltn (v := .ty "LookupError") rfl T.b_LookupError PyProof.Rows.Boot.«LookupError» rfl) pa_nil))) (pa_cons (pe_callB call_isX rfl T.b_isinstance bt_isinstance (pa_cons (pv 0) (pa_cons (pe_bltn (v := .ty "RuntimeError") rfl T.b_RuntimeError PyProof.Rows.Boot.«RuntimeError» rfl) pa_nil))) pa_nil)))))
      (pss_cons (ps_expr (pe_bm PySem.F.plainAttrs_list PySem.F.slot_list_append PySem.F.type_list_append mt_append (pv 2) (pa_cons (pe_callB call_isX rfl T.b_isinstance bt_isinstance (pa_cons (pv 0) (pa_cons (pe_bltn (v := .ty "OverflowError") rfl T.b_OverflowError PyProof.Rows.Boot.«OverflowError» rfl) pa_nil))) pa_nil)))
      (pss_cons (ps_if (PW.pt (pw_or (pt_cmpR op_ne (pe_bm PySem.F.plainAttrs_list PySem.F.slot_list_count PySem.F.type_list_count mt_countF (pv 1) (pa_cons pe_bl pa_nil)) pe_int (nomark _)) (pw_or (pt_cmpR op_ne (pe_bm PySem.F.plainAttrs_list PySem.F.slot_list_count PySem.F.type_list_count mt_countF (pv 2) (pa_cons pe_bl pa_nil)) pe_int (nomark _)) (pw_or1 (pt_val (pe_callB call_isXT rfl T.b_isinstance bt_isinstance (pa_cons (pv 0) (pa_cons (pe_tup (pa_cons (pe_bltn (v := .ty "KeyError") rfl T.b_KeyError PyProof.Rows.Boot.«KeyError» rfl) (pa_cons (pe_bltn (v := .ty "IndexError") rfl T.b_IndexError PyProof.Rows.Boot.«IndexError» rfl) pa_nil))) pa_nil)))))))) (pss_one (ps_ret pe_non)) pss_nil)
      (pss_cons (ps_set (i := 3) sc__law_named.nd rfl (Or.inl rfl) (pe_bm PySem.F.plainAttrs_list PySem.F.slot_list_index PySem.F.type_list_index mt_index (pv 1) (pa_cons pe_bl pa_nil)))
      (pss_cons (ps_if (pt_cmpR op_ne (pe_bm PySem.F.plainAttrs_list PySem.F.slot_list_index PySem.F.type_list_index mt_index (pv 2) (pa_cons pe_bl pa_nil)) (pe_ix ix_list (pe_lst (pa_cons pe_int (pa_cons pe_int (pa_cons pe_int (pa_cons pe_int (pa_cons pe_int (pa_cons pe_int (pa_cons pe_int (pa_cons pe_int pa_nil))))))))) (pv 3) (fun _ _ => rfl)) (nomark _)) (pss_one (ps_ret pe_non)) pss_nil)
      (pss_cons (ps_if (pt_cmpR op_lt (pv 3) pe_int (nomark _)) (pss_one (ps_ret (pe_ifExp (pt_cmpR op_eq (pv 3) pe_int (nomark _)) (pe_tup (pa_cons pe_str (pa_cons (pe_xv (pv 0) rfl) pa_nil))) (pe_call (ok__law_missing T Z) (hr.mono (by decide)) rfl T.g__law_missing T.F__law_missing.kp T.b_f__law_missing .nil pass0 (pa_cons (pv 0) (pa_cons (pv 3) pa_nil)))))) pss_nil)
      (pss_cons (ps_if (pt_cmpR op_eq (pv 3) pe_int (nomark _)) (pss_one (ps_ret (pe_tup (pa_cons pe_str (pa_cons pe_non pa_nil))))) pss_nil)
      (pss_cons (ps_if (pt_cmpR op_in_seq (pv 3) (pe_tup (pa_cons pe_int (pa_cons pe_int pa_nil))) (by with_unfolding_all rfl)) (pss_one (ps_ret (pe_tup (pa_cons (pe_ifExp (pt_cmpR op_eq (pv 3) pe_int (nomark _)) pe_str pe_str) (pa_cons (pe_xv (pv 0) rfl) pa_nil))))) pss_nil)
      (pss_one (ps_ret (pe_ifExp (pt_cmpR op_eq (pv 3) pe_int (nomark _)) (pe_tup (pa_cons pe_str (pa_cons (pe_xv (pv 0) rfl) pa_nil))) (pe_tup (pa_cons pe_str (pa_cons (pe_xv (pv 0) rfl) pa_nil))))))))))))))))), ?_⟩
    obtain ⟨i, hi, X0, hfin⟩ : ∃ i, i < 8 ∧ XAt H a (He.ga K (exN i)) ∧ ((∃ v dd, i ≠ 6 ∧ H a = some (ExV (.ref (He.ga K (exN i))) (some dd) a) ∧ H dd = some (.xd [(exF i, v)]) ∧ e = .one i v ∧ ((∃ z, v = .int z) ∨ ∃ z, v = .str z)) ∨ (i = 6 ∧ e = .few)) := by
      cases e with
      | one i v =>
        obtain ⟨dd, h1, h2⟩ := he
        exact ⟨i, ho.1, .inr ⟨dd, _, h1, h2⟩, .inl ⟨v, dd, ho.2.1, h1, h2, rfl, ho.2.2⟩⟩
      | few => exact ⟨6, by decide, .inl he, .inr ⟨rfl, rfl⟩⟩
    obtain ⟨C, hno⟩ := XcK.all Z i hi
    obtain ⟨k1, k2, k3, k4, k5, k6, k7⟩ := kl_ok i hi
    have ez := sizeLine_eq
    refine ⟨_, rfl, a, _, _, _, _, rfl, X0, C, .own _, Z.kit hi (j := 0) (by decide), _, rfl, a, _, _, _, _, rfl, X0, C, .own _, Z.kit hi (j := 1) (by decide), _, rfl, a, _, _, _, _, rfl, X0, C, .own _, Z.kit hi (j := 2) (by decide), line3, fun p1 hp1 => ?_⟩
    have s1 : Same H (upd H p1 (.lst [.bl (qB i 0), .bl (qB i 1), .bl (qB i 2)])) := Same.new hp1
    have g1 : upd H p1 (.lst [.bl (qB i 0), .bl (qB i 1), .bl (qB i 2)]) p1 = some (.lst [.bl (qB i 0), .bl (qB i 1), .bl (qB i 2)]) := upd_same
    change tSeq _ _ _ _ (upd H p1 (.lst [.bl (qB i 0), .bl (qB i 1), .bl (qB i 2)]))
    generalize upd H p1 (.lst [.bl (qB i 0), .bl (qB i 1), .bl (qB i 2)]) = H1 at *
    refine ⟨_, rfl, _, rfl, a, _, _, _, _, rfl, X0.same s1, C, .own _, Z.kit hi (j := 3) (by decide), _, rfl, a, _, _, _, _, rfl, X0.same s1, C, .own _, Z.kit hi (j := 4) (by decide), _, rfl, a, _, _, _, _, rfl, X0.same s1, C, .own _, Z.kit hi (j := 5) (by decide), line3, fun p2 hp2 => ⟨p1, p2, _, _, rfl, rfl, kp1 g1 hp2, upd_same, by rw [ez]; show 3 + 3 ≤ _; decide, fun p3 hp3 => ?_⟩⟩
    have s3 := s1.trans ((Same.new (o := .lst [.bl (qB i 3), .bl (qB i 4), .bl (qB i 5)]) hp2).trans (Same.new (o := .lst [.bl (qB i 0), .bl (qB i 1), .bl (qB i 2), .bl (qB i 3), .bl (qB i 4), .bl (qB i 5)]) hp3))
    have g3 : upd (upd H1 p2 (.lst [.bl (qB i 3), .bl (qB i 4), .bl (qB i 5)])) p3 (.lst [.bl (qB i 0), .bl (qB i 1), .bl (qB i 2), .bl (qB i 3), .bl (qB i 4), .bl (qB i 5)]) p3 = some (.lst [.bl (qB i 0), .bl (qB i 1), .bl (qB i 2), .bl (qB i 3), .bl (qB i 4), .bl (qB i 5)]) := upd_same
    change tSeq _ _ _ _ (upd (upd H1 p2 (.lst [.bl (qB i 3), .bl (qB i 4), .bl (qB i 5)])) p3 (.lst [.bl (qB i 0), .bl (qB i 1), .bl (qB i 2), .bl (qB i 3), .bl (qB i 4), .bl (qB i 5)]))
    generalize upd (upd H1 p2 (.lst [.bl (qB i 3), .bl (qB i 4), .bl (qB i 5)])) p3 (.lst [.bl (qB i 0), .bl (qB i 1), .bl (qB i 2), .bl (qB i 3), .bl (qB i 4), .bl (qB i 5)]) = H3 at *
    refine ⟨_, rfl, _, rfl, a, _, _, _, _, rfl, X0.same s3, C, .own _, Z.kit hi (j := 6) (by decide), _, rfl, a, _, _, _, _, rfl, X0.same s3, C, .own _, Z.kit hi (j := 7) (by decide), line2, fun p4 hp4 => ⟨p3, p4, _, _, rfl, rfl, kp1 g3 hp4, upd_same, by rw [ez]; show 6 + 2 ≤ _; decide, fun p5 hp5 => ?_⟩⟩
    have s5 := s3.trans ((Same.new (o := .lst [.bl (qB i 6), .bl (qB i 7)]) hp4).trans (Same.new (o := .lst (kl i)) hp5))
    have g5 : upd (upd H3 p4 (.lst [.bl (qB i 6), .bl (qB i 7)])) p5 (.lst (kl i)) p5 = some (.lst (kl i)) := upd_same
    change tSeq _ _ _ _ (upd (upd H3 p4 (.lst [.bl (qB i 6), .bl (qB i 7)])) p5 (.lst (kl i)))
    generalize upd (upd H3 p4 (.lst [.bl (qB i 6), .bl (qB i 7)])) p5 (.lst (kl i)) = H5 at *
    refine ⟨_, rfl, a, _, _, _, _, rfl, X0.same s5, C, .ty _, Z.kit hi (j := 8) (by decide), _, rfl, a, _, _, _, _, rfl, X0.same s5, C, .ty _, Z.kit hi (j := 9) (by decide), _, rfl, a, _, _, _, _, rfl, X0.same s5, C, .ty _, Z.kit hi (j := 10) (by decide), line3, fun p6 hp6 => ?_⟩
    have s6 := s5.trans (Same.new (o := .lst [.bl (qB i 8), .bl (qB i 9), .bl (qB i 10)]) hp6)
    have hHp6 := s5.none hp6
    have n56 : p5 ≠ p6 := ne_of_none g5 hp6
    refine ⟨_, rfl, .inl ⟨rfl, _, SqL.of upd_same⟩, _, rfl, a, _, _, _, _, rfl, X0.same s6, C, .ty _, Z.kit hi (j := 11) (by decide), p6, _, _, rfl, rfl, upd_same, by rw [ez]; show 3 < _; decide, ?_⟩
    have s7 : Same H (upd (upd H5 p6 (.lst [.bl (qB i 8), .bl (qB i 9), .bl (qB i 10)])) p6 (.lst (bl4 i))) := s6.mut hHp6
    have g7 : upd (upd H5 p6 (.lst [.bl (qB i 8), .bl (qB i 9), .bl (qB i 10)])) p6 (.lst (bl4 i)) p6 = some (.lst (bl4 i)) := upd_same
    have g8 : upd (upd H5 p6 (.lst [.bl (qB i 8), .bl (qB i 9), .bl (qB i 10)])) p6 (.lst (bl4 i)) p5 = some (.lst (kl i)) := (upd_ne n56).trans (kp1 g5 hp6)
    have fk : (kl i).all flatV = true := rfl
    have fb : (bl4 i).all flatV = true := rfl
    refine ⟨_, rfl, .inl ⟨rfl, _, SqL.of g8⟩, p5, kl i, _, rfl, rfl, SqL.of g8, rfl, fk, rfl, _, rfl, iteZ (by rw [k1]; rfl) ?_⟩
    refine ⟨_, rfl, .inl ⟨rfl, _, SqL.of g7⟩, p6, bl4 i, _, rfl, rfl, SqL.of g7, rfl, fb, rfl, _, rfl, iteZ (by rw [k2]; rfl) ?_⟩
    refine ⟨_, rfl, line2, fun p7 hp7 => ⟨a, _, p7, _, _, false, rfl, X0.same (s7.trans (Same.new hp7)), C, upd_same, .cons (.ty _) (.cons (.ty _) .nil), ?_, _, rfl, iteZ rfl ?_⟩⟩
    · have e1 := Z.kit hi (j := 12) (by decide)
      have e2 := Z.kit hi (j := 13) (by decide)
      have q1 : qB i 12 = false := rfl
      have q2 : qB i 13 = false := rfl
      rw [q1] at e1
      rw [q2] at e2
      have e1 : PySem.W.kitOne K (.ref (He.ga K (exN i))) (.type "KeyError") = some false := e1
      have e2 : PySem.W.kitOne K (.ref (He.ga K (exN i))) (.type "IndexError") = some false := e2
      show PySem.W.kitAny K (.ref (He.ga K (exN i))) [.type "KeyError", .type "IndexError"] = some false
      rw [PySem.W.kitAny, e1, PySem.W.kitAny, e2]
      rfl
    have s8 := s7.trans (Same.new (o := .tup [.ty "KeyError", .ty "IndexError"]) hp7)
    have h8 := kp1 (p := p7) (u := .tup [.ty "KeyError", .ty "IndexError"]) g8 hp7
    have h7 := kp1 (p := p7) (u := .tup [.ty "KeyError", .ty "IndexError"]) g7 hp7
    refine ⟨_, rfl, .inl ⟨rfl, _, SqL.of h8⟩, p5, kl i, _, i, _, rfl, rfl, SqL.of h8, rfl, fk, k3, rfl, k4, ?_⟩
    refine ⟨_, rfl, .inl ⟨rfl, _, SqL.of h7⟩, p6, bl4 i, _, bix i, _, rfl, rfl, SqL.of h7, rfl, fb, k5, rfl, k6, ?_⟩
    refine ⟨by rw [ez]; show 8 ≤ _; decide, fun p8 hp8 => ⟨_, rfl, p8, _, _, _, rfl, rfl, SqL.of upd_same, atI_nat k7, rfl, _, rfl, iteZ (by simp) ?_⟩⟩
    have s9 := s8.trans (Same.new (o := .lst [.int 0, .int 1, .int 1, .int 2, .int 2, .int 2, .int 2, .int 3]) hp8)
    rcases hfin with ⟨v, dd, i6, h1, h2, rfl, hvv⟩ | ⟨rfl, rfl⟩
    · have h1' := s9 _ _ h1
      have h2' := s9 _ _ h2
      have fin : ∀ (p : Addr) (H' : Hp), Same H H' → H' p = some (.tup [.str (exN i), v]) → Q (.ref p) H' := fun p H' hp g => h (.ref p) H' hp (TD.mk g (.cons (.str _) (.cons (vD_td hvv) .nil)))
      have : i = 0 ∨ i = 1 ∨ i = 2 ∨ i = 3 ∨ i = 4 ∨ i = 5 ∨ i = 7 := by omega
      rcases this with rfl | rfl | rfl | rfl | rfl | rfl | rfl
      · refine ⟨_, rfl, _, _, rfl, rfl, _, rfl, iteY rfl ⟨_, rfl, rfl, _, rfl, iteY rfl ?_⟩⟩
        exact ⟨_, rfl, a, _, dd, _, v, rfl, h1', h2', C, hno, rfl, line2, fun p hp => fin p _ (s9.trans (Same.new hp)) upd_same⟩
      · refine ⟨_, rfl, _, _, rfl, rfl, _, rfl, iteY rfl ⟨_, rfl, rfl, _, rfl, iteZ rfl ?_⟩⟩
        exact ⟨_, rfl, _, rfl, a, 1, v, rfl, .inl rfl, ⟨dd, h1', h2'⟩, ho, fun u H' e t => h u H' (s9.trans e) t⟩
      · refine ⟨_, rfl, _, _, rfl, rfl, _, rfl, iteY rfl ⟨_, rfl, rfl, _, rfl, iteZ rfl ?_⟩⟩
        exact ⟨_, rfl, _, rfl, a, 2, v, rfl, .inr rfl, ⟨dd, h1', h2'⟩, ho, fun u H' e t => h u H' (s9.trans e) t⟩
      · refine ⟨_, rfl, _, _, rfl, rfl, _, rfl, iteZ rfl ⟨_, rfl, rfl, _, rfl, iteZ rfl ⟨_, rfl, line2, fun p9 hp9 => ⟨p9, _, rfl, .inr (SqT.of upd_same), rfl, rfl, _, rfl, iteZ rfl ?_⟩⟩⟩⟩
        have s10 := s9.trans (Same.new (o := .tup [.int 5, .int 7]) hp9)
        have h1'' := kp1 (p := p9) (u := .tup [.int 5, .int 7]) h1' hp9
        have h2'' := kp1 (p := p9) (u := .tup [.int 5, .int 7]) h2' hp9
        exact ⟨_, rfl, rfl, _, rfl, iteY rfl ⟨_, rfl, a, _, dd, _, v, rfl, h1'', h2'', C, hno, rfl, line2, fun p hp => fin p _ (s10.trans (Same.new hp)) upd_same⟩⟩
      · refine ⟨_, rfl, _, _, rfl, rfl, _, rfl, iteZ rfl ⟨_, rfl, rfl, _, rfl, iteZ rfl ⟨_, rfl, line2, fun p9 hp9 => ⟨p9, _, rfl, .inr (SqT.of upd_same), rfl, rfl, _, rfl, iteZ rfl ?_⟩⟩⟩⟩
        have s10 := s9.trans (Same.new (o := .tup [.int 5, .int 7]) hp9)
        have h1'' := kp1 (p := p9) (u := .tup [.int 5, .int 7]) h1' hp9
        have h2'' := kp1 (p := p9) (u := .tup [.int 5, .int 7]) h2' hp9
        exact ⟨_, rfl, rfl, _, rfl, iteZ rfl ⟨_, rfl, a, _, dd, _, v, rfl, h1'', h2'', C, hno, rfl, line2, fun p hp => fin p _ (s10.trans (Same.new hp)) upd_same⟩⟩
      · refine ⟨_, rfl, _, _, rfl, rfl, _, rfl, iteZ rfl ⟨_, rfl, rfl, _, rfl, iteZ rfl ⟨_, rfl, line2, fun p9 hp9 => ⟨p9, _, rfl, .inr (SqT.of upd_same), rfl, rfl, _, rfl, iteY rfl ?_⟩⟩⟩⟩
        have s10 := s9.trans (Same.new (o := .tup [.int 5, .int 7]) hp9)
        have h1'' := kp1 (p := p9) (u := .tup [.int 5, .int 7]) h1' hp9
        have h2'' := kp1 (p := p9) (u := .tup [.int 5, .int 7]) h2' hp9
        exact ⟨_, rfl, rfl, _, rfl, iteY rfl (show _ from ⟨_, rfl, a, _, dd, _, v, rfl, h1'', h2'', C, hno, rfl, line2, fun p hp => fin p _ (s10.trans (Same.new hp)) upd_same⟩)⟩
      · refine ⟨_, rfl, _, _, rfl, rfl, _, rfl, iteZ rfl ⟨_, rfl, rfl, _, rfl, iteZ rfl ⟨_, rfl, line2, fun p9 hp9 => ⟨p9, _, rfl, .inr (SqT.of upd_same), rfl, rfl, _, rfl, iteY rfl ?_⟩⟩⟩⟩
        have s10 := s9.trans (Same.new (o := .tup [.int 5, .int 7]) hp9)
        have h1'' := kp1 (p := p9) (u := .tup [.int 5, .int 7]) h1' hp9
        have h2'' := kp1 (p := p9) (u := .tup [.int 5, .int 7]) h2' hp9
        exact ⟨_, rfl, rfl, _, rfl, iteZ rfl (show _ from ⟨_, rfl, a, _, dd, _, v, rfl, h1'', h2'', C, hno, rfl, line2, fun p hp => fin p _ (s10.trans (Same.new hp)) upd_same⟩)⟩
    · refine ⟨_, rfl, _, _, rfl, rfl, _, rfl, iteZ rfl ⟨_, rfl, rfl, _, rfl, iteY rfl ?_⟩⟩
      exact ⟨line2, fun p hp => h (.ref p) _ (s9.trans (Same.new hp)) (TD.mk upd_same (.cons (.str _) (.cons .non .nil)))⟩
end
end Tr
end
section
set_option Elab.async false
set_option linter.all false
set_option maxRecDepth 100000
set_option maxHeartbeats 4000000
/-! methods called within a try -/
namespace Tr
open PySem PySem.Spec PyProof.Rows L2
/-- o.m(..), what is let out depends on the slots -/
def tMethT (C : Addr) (m : Str) (sp : Sp) (E : L2.St → XK) (ta : TE) (t : TA) : TE := fun σ H Q => ta σ H fun x H1 => ∃ a dx fs, x = .ref a ∧ H1 a = some (.ins C dx fs) ∧ fs.lookup m = none ∧ t σ H1 fun vs H2 => sp (x :: vs) H2 Q (E σ)
section
variable {X : Cx} {CX : CXT} {k : Nat} {f C : Addr} {fd : FuncData} {ps : List Str} {sp : Sp} {E : L2.St → XK} {m : Str} {pos apos : Pos} {e o : Expr} {es : List Expr} {ta : TE} {t : TA}
theorem pe_methT {pl : Sem Bool} (he : PE X o ta) (c : Cls X.K C) (hm : Meth X.K C m f) (F : FnOk X.prog X.w X.K X.mg X.base CX k f fd ps sp) (hr : Room k X.A) (hb : Binds X.K fd ps []) (hx : ∀ σ, PassesAt CX X σ (E σ)) (ha : PA X (e :: es) t)
    (hst : starEach (e :: es) X.env = (false, eval e X.env) :: starEach es X.env := by rfl) (hpl : (backTo pos (starEach es X.env)).any (·.1) = false := by rfl)
    (ht : eval (.Call (.Attribute o m apos) (e :: es) [] pos) X.env = (do
      let ov ← eval o X.env
      standAt apos.atName
      let (f, first) ← holding [ov] (getMethod ov m pl)
      callWith pos f first (backTo pos (starEach (e :: es) X.env)) (backToKw pos (keywordEach [] X.env))) := by rfl) :
    PE X (.Call (.Attribute o m apos) (e :: es) [] pos) (tMethT C m sp E ta t) := by
  refine ⟨fun pins s σ H Q I h => ?_⟩
  refine PySem.W.methodCall_KW (pl := pl) (thn (he.run pins s σ H _ I h) fun u s1 ⟨x, H1, I1, rx, a, dx, fs, ex, ea, l, q⟩ => ?_) ht
  subst ex
  cases (show u = Value.ref a from rx)
  refine getmeth_ok I1 ea c hm l (PySem.W.callWith_K (first := [.ref a]) (h₀ := X.base) I.ok.mod.kin hm.kp (thn (ha.run pos pins s1 σ H1 _ I1 q) fun us s2 ⟨vs, H2, I2, r, q2⟩ => ⟨I2.kIn, ?_⟩) hst hpl)
  exact run_fnS (us := .ref a :: us) (vs := .ref a :: vs) F hr hb (hx σ) I2 (.cons rfl r) q2
end
end Tr
end
section
set_option Elab.async false
set_option linter.all false
set_option maxRecDepth 100000
set_option maxHeartbeats 4000000
namespace Tr
open PySem PySem.Spec PyProof.Rows L2
/-! ### deeds in the heap -/
def DH (H : Hp) (a : Addr) : Dd → Prop
  | .exch x => H a = some (.tup [.str "exchange", .int x])
  | .run row => ∃ r, H a = some (.tup [.str "run", .ref r]) ∧ H r = some (.lst (row.map .int))
  | .again row k => ∃ r, H a = some (.tup [.str "again", .ref r, .int k]) ∧ H r = some (.lst (row.map .int))
  | .go g => ∃ u, H a = some (.tup [.str "go", u]) ∧ TD H u (stD g)
  | .give i c => H a = some (.tup [.str "give", .int i, .int c])
  | .take i c => H a = some (.tup [.str "take", .int i, .int c])
  | .come c => H a = some (.tup [.str "come", .int c])
  | .leave i => H a = some (.tup [.str "leave", .int i])
def Mv : Dd → Prop
  | .exch _ => True
  | .run _ => True
  | .go _ => True
  | _ => False
def resD : Except Er (PyData × S) → PyData
  | .ok a => .tuple [a.1, .none]
  | .error e => .tuple [.none, erD e]
def nxS (t : S) : Except Er (PyData × S) → S
  | .ok a => a.2
  | .error _ => t
def spMoved (K : PySem.W.Frag) : Sp := fun vs H Q E => ∃ (p q lg : Addr) (us : List V) (u : V) (ss : List S) (t : S) (ls : List V) (n : Nat) (a : Addr) (d : Dd), vs = [.ref p, .ref a] ∧ Pty K H p q lg us u ss t ls ∧ Vd n t ∧ Mv d ∧ DH H a d ∧ DOk n d ∧ Grows K H E q us u Q (dq t d)
def spLDone (K : PySem.W.Frag) : Sp := fun vs H Q _ => ∃ (p q lg : Addr) (us : List V) (u : V) (ss : List S) (t : S) (ls : List V) (n : Nat) (a : Addr) (d : Dd), vs = [.ref p, .ref a] ∧ Pty K H p q lg us u ss t ls ∧ Vd n t ∧ t.2.sum ≤ 2 ^ 170 ∧ ss.length ≤ 500 ∧ DH H a d ∧ DOk n d ∧
  ∀ rv us2 u2 ss2 H', Kp q H H' → Pty K H' p q lg us2 u2 ss2 (nxS t (dq t d)) ls → (ss2 = ss ∨ ss2 = ss ++ [t]) → TD H' rv (resD (dq t d)) → Q rv H'
theorem Vd.szs {n : Nat} {t : S} (h : Vd n t) (hs : t.2.sum ≤ 2 ^ 170) : Szs 180 t.2 := fun x hx => by
  have h0 := h.nn x hx
  have := ls_ge (l := t.2) (f := fun x => x) (fun x hx => h.nn x hx) hx
  rw [List.map_id'] at this
  unfold Sz
  omega
theorem DH.kp {H H' : Hp} {a q : Addr} {us : List V} : ∀ {d : Dd}, DH H a d → Kp q H H' → H q = some (.lst us) → (∀ row : List Int, us ≠ row.map V.int) → DH H' a d
  | .exch x, h, k, hq, _ => k.tups hq _ _ h
  | .run row, ⟨r, h1, h2⟩, k, hq, hn => ⟨r, k.tups hq _ _ h1, k _ _ (fun z => by rw [z, hq] at h2; exact hn row (by cases h2; rfl)) h2⟩
  | .again row j, ⟨r, h1, h2⟩, k, hq, hn => ⟨r, k.tups hq _ _ h1, k _ _ (fun z => by rw [z, hq] at h2; exact hn row (by cases h2; rfl)) h2⟩
  | .go g, ⟨u, h1, h2⟩, k, hq, _ => ⟨u, k.tups hq _ _ h1, h2.mono (k.tups hq)⟩
  | .give i c, h, k, hq, _ => k.tups hq _ _ h
  | .take i c, h, k, hq, _ => k.tups hq _ _ h
  | .come c, h, k, hq, _ => k.tups hq _ _ h
  | .leave i, h, k, hq, _ => k.tups hq _ _ h
theorem DH.same {H H' : Hp} {a : Addr} : ∀ {d : Dd}, DH H a d → Same H H' → DH H' a d
  | .exch x, h, k => k _ _ h
  | .run row, ⟨r, h1, h2⟩, k => ⟨r, k _ _ h1, k _ _ h2⟩
  | .again row j, ⟨r, h1, h2⟩, k => ⟨r, k _ _ h1, k _ _ h2⟩
  | .go g, ⟨u, h1, h2⟩, k => ⟨u, k _ _ h1, h2.mono k.tups⟩
  | .give i c, h, k => k _ _ h
  | .take i c, h, k => k _ _ h
  | .come c, h, k => k _ _ h
  | .leave i, h, k => k _ _ h
section
variable {P : Program} {w : World} {K : PySem.W.Frag} {mg : Str → Option Value} {base : Heap}
theorem sc__law_moved : FnScope ["_law_party", "_law_deed_here"] ["_law_party", "_law_deed_here"] (defScope s__law_moved) := ⟨rfl, rfl, rfl, by decide +kernel, rfl, by decide +kernel, by decide +kernel⟩
theorem ok__law_moved (T : Tx K mg) (Z : Ex K) : FnOk P w K mg base (L2.CX P w) 10 (He.ga K "_law_moved") (fdOf K (He.ga K "_law_moved")) ["_law_party", "_law_deed_here"] (spMoved K) := by
  refine T.F__law_moved.ok sc__law_moved (fun vs H Q E h => ?_) (fun cdv A outer s H vs Q E hr h => ?_)
  · obtain ⟨p, q, lg, us, u, ss, t, ls, n, a, d, rfl, _⟩ := h
    rfl
  · obtain ⟨p, q, lg, us, u, ss, t, ls, n, a, d, rfl, hp, hn, hm, hd, hok, h⟩ := h
    refine ⟨_, (pss_cons (ps_if (pt_cmpR op_eq (pe_ix ix_tup (pv 1) pe_int (fun _ _ => rfl)) pe_str (nomark _)) (pss_one (ps_ret (pe_meth (pv 0) T.clP T.m_exchange (ok_Party_exchange T Z) (hr.mono (by decide)) T.b_f_Party_exchange .nil (passes_call (takes_of rfl rfl rfl rfl) fun _ _ _ _ h => h) (pa_cons (pe_ix ix_tup (pv 1) pe_int (fun _ _ => rfl)) pa_nil)))) pss_nil)
      (pss_one (ps_ret (pe_ifExp (pt_cmpR op_eq (pe_ix ix_tup (pv 1) pe_int (fun _ _ => rfl)) pe_str (nomark _)) (pe_meth (pv 0) T.clP T.m_run (ok_Party_run T Z) (hr.mono (by decide)) T.b_f_Party_run .nil (passes_call (takes_of rfl rfl rfl rfl) fun _ _ _ _ h => h) (pa_cons (pe_ix ix_tup (pv 1) pe_int (fun _ _ => rfl)) pa_nil)) (pe_meth (pv 0) T.clP T.m_go (ok_Party_go T Z) (hr.mono (by decide)) T.b_f_Party_go .nil (passes_call (takes_of rfl rfl rfl rfl) fun _ _ _ _ h => h) (pa_cons (pe_ix ix_tup (pv 1) pe_int (fun _ _ => rfl)) pa_nil)))))), ?_⟩
    obtain ⟨dx, hi⟩ := hp.ins
    cases d with
    | exch x =>
      refine ⟨_, rfl, a, _, _, _, rfl, rfl, SqT.of hd, atI_nat (j := 0) rfl, rfl, _, rfl, iteY rfl ?_⟩
      exact ⟨_, rfl, p, dx, _, rfl, hi, rfl, _, rfl, a, _, _, _, rfl, rfl, SqT.of hd, atI_nat (j := 1) rfl, p, q, lg, us, u, ss, t, ls, n, x, rfl, hp, hn.rg, h⟩
    | run row =>
      obtain ⟨r, h1, h2⟩ := hd
      refine ⟨_, rfl, a, _, _, _, rfl, rfl, SqT.of h1, atI_nat (j := 0) rfl, rfl, _, rfl, iteZ rfl ?_⟩
      refine ⟨_, rfl, a, _, _, _, rfl, rfl, SqT.of h1, atI_nat (j := 0) rfl, rfl, _, rfl, iteY rfl ?_⟩
      exact ⟨_, rfl, p, dx, _, rfl, hi, rfl, _, rfl, a, _, _, _, rfl, rfl, SqT.of h1, atI_nat (j := 1) rfl, p, q, lg, us, u, ss, t, ls, n, r, row, rfl, hp, hn.rg, h2, by have : row.length ≤ 100 := hok; omega, h⟩
    | go g =>
      obtain ⟨v, h1, h2⟩ := hd
      obtain ⟨m, hm8, hg⟩ := hok
      refine ⟨_, rfl, a, _, _, _, rfl, rfl, SqT.of h1, atI_nat (j := 0) rfl, rfl, _, rfl, iteZ rfl ?_⟩
      refine ⟨_, rfl, a, _, _, _, rfl, rfl, SqT.of h1, atI_nat (j := 0) rfl, rfl, _, rfl, iteZ rfl ?_⟩
      exact ⟨_, rfl, p, dx, _, rfl, hi, rfl, _, rfl, a, _, _, _, rfl, rfl, SqT.of h1, atI_nat (j := 1) rfl, p, q, lg, us, u, ss, t, ls, n, m, v, g, rfl, hp, hn.rg, hg.rg, h2, h⟩
    | again row k => exact hm.elim
    | give i c => exact hm.elim
    | take i c => exact hm.elim
    | come c => exact hm.elim
    | leave i => exact hm.elim
theorem sc__law_done : FnScope ["_law_party", "_law_deed_here", "_law_found", "_law_caught", "_law_verb", "error"] ["_law_party", "_law_deed_here"] (defScope s__law_done) := ⟨rfl, rfl, rfl, by decide +kernel, rfl, by decide +kernel, by decide +kernel⟩
theorem ok__law_done (T : Tx K mg) (Z : Ex K) : FnOk P w K mg base CX0 11 (He.ga K "_law_done") (fdOf K (He.ga K "_law_done")) ["_law_party", "_law_deed_here"] (spLDone K) := by
  refine T.F__law_done.ok sc__law_done (fun vs H Q E h => ?_) (fun cdv A outer s H vs Q E hr h => ?_)
  · obtain ⟨p, q, lg, us, u, ss, t, ls, n, a, d, rfl, _⟩ := h
    rfl
  · obtain ⟨p, q, lg, us, u, ss, t, ls, n, a, d, rfl, hp, hn, hsum, hss, hd, hok, h⟩ := h
    refine ⟨_, PSs.nox (pss_cons (ps_par3 (i := 2) (j := 3) (l := 4) rfl sc__law_done.nd rfl rfl rfl (by decide) (by decide) (by decide) rfl rfl rfl (pa_cons pe_non (pa_cons pe_non (pa_cons (pe_ix ix_tup (pv 1) pe_int (fun _ _ => rfl)) pa_nil))) (by rfl))
      (pss_cons (ps_try_asT (i := 5) rfl rfl rfl sc__law_done.nd rfl rfl (cs := nine K) (.cons ⟨rfl, by decide, .inl T.g_Barred⟩ (.cons ⟨rfl, by decide, .inl T.g_Empty⟩ (.cons ⟨rfl, by decide, .inl T.g_Few⟩ (.cons ⟨rfl, by decide, .inl T.g_Full⟩ (.cons ⟨rfl, by decide, .inl T.g_NoDeed⟩ (.cons ⟨rfl, by decide, .inl T.g_NoPerson⟩ (.cons ⟨rfl, by decide, .inl T.g_NoSeat⟩ (.cons ⟨rfl, by decide, .inl T.g_OtherPeople⟩ (.cons ⟨rfl, by decide, .inl T.g_Stops⟩ .nil))))))))) (show 9 ≤ 100 by decide)
        (fun W pn xe tk hp => (pss_one (ps_if (pt_cmpR (op_inK (K := K) rfl) (pv 4) (pe_tup (pa_cons pe_str (pa_cons pe_str (pa_cons pe_str pa_nil)))) (by with_unfolding_all rfl)) (pss_one (ps_set (i := 2) sc__law_done.nd rfl (Or.inl rfl) (pe_callS (ok__law_moved T Z) (hr.mono (by decide)) rfl T.g__law_moved T.F__law_moved.kp T.b_f__law_moved (fun σ => passAt tk σ) (pa_cons (pv 0) (pa_cons (pv 1) pa_nil))))) (pss_one (ps_if (pt_cmpR op_eq (pv 4) pe_str (nomark _)) (pss_one (ps_set (i := 2) sc__law_done.nd rfl (Or.inl rfl) (pe_methT (pv 0) T.clP T.m_again (ok_Party_again T Z) (hr.mono (by decide)) T.b_f_Party_again (fun σ => passAt tk σ) (pa_cons (pe_ix (ix_tupK (K := K) rfl) (pv 1) pe_int (fun _ _ => rfl)) (pa_cons (pe_ix (ix_tupK (K := K) rfl) (pv 1) pe_int (fun _ _ => rfl)) pa_nil))))) (pss_one (ps_if (pt_cmpR (op_inK (K := K) rfl) (pv 4) (pe_tup (pa_cons pe_str (pa_cons pe_str pa_nil))) (by with_unfolding_all rfl)) (pss_one (ps_set (i := 2) sc__law_done.nd rfl (Or.inl rfl) (pe_ifExp (pt_cmpR op_eq (pv 4) pe_str (nomark _)) (pe_methT (pv 0) T.clP T.m_give (ok_Party_give T Z) (hr.mono (by decide)) T.b_f_Party_give (fun σ => passAt tk σ) (pa_cons (pe_ix (ix_tupK (K := K) rfl) (pv 1) pe_int (fun _ _ => rfl)) (pa_cons (pe_ix (ix_tupK (K := K) rfl) (pv 1) pe_int (fun _ _ => rfl)) pa_nil))) (pe_methT (pv 0) T.clP T.m_take (ok_Party_take T Z) (hr.mono (by decide)) T.b_f_Party_take (fun σ => passAt tk σ) (pa_cons (pe_ix (ix_tupK (K := K) rfl) (pv 1) pe_int (fun _ _ => rfl)) (pa_cons (pe_ix (ix_tupK (K := K) rfl) (pv 1) pe_int (fun _ _ => rfl)) pa_nil)))))) (pss_one (ps_set (i := 2) sc__law_done.nd rfl (Or.inl rfl) (pe_ifExp (pt_cmpR op_eq (pv 4) pe_str (nomark _)) (pe_methT (pv 0) T.clP T.m_come (ok_Party_come T Z) (hr.mono (by decide)) T.b_f_Party_come (fun σ => passAt tk σ) (pa_cons (pe_ix (ix_tupK (K := K) rfl) (pv 1) pe_int (fun _ _ => rfl)) pa_nil)) (pe_methT (pv 0) T.clP T.m_leave (ok_Party_leave T Z) (hr.mono (by decide)) T.b_f_Party_leave (fun σ => passAt tk σ) (pa_cons (pe_ix (ix_tupK (K := K) rfl) (pv 1) pe_int (fun _ _ => rfl)) pa_nil))))))))))))
        (fun a oe cls d pn hz hf => (pss_one (ps_set (i := 3) sc__law_done.nd rfl (Or.inl rfl) (pv 5)))))
      (pss_one (ps_ret (pe_ifExp (pt_cmpR op_isN (pv 3) pe_non (nomark _)) (pe_tup (pa_cons (pv 2) (pa_cons pe_non pa_nil))) (pe_tup (pa_cons pe_non (pa_cons (pe_call (ok__law_named T Z) (hr.mono (by decide)) rfl T.g__law_named T.F__law_named.kp T.b_f__law_named .nil pass0 (pa_cons (pv 3) pa_nil)) pa_nil)))))))), ?_⟩
    have ez := sizeLine_eq
    obtain ⟨dx, hi⟩ := hp.ins
    have n2 := hn.two
    have n16 := hn.rg.top
    have fin : ∀ (Q' : VK) (E' : XK) (H1 : Hp), Same H H1 → (∀ rv r t2 H', dq t d = .ok (r, t2) → Kp q H H' → (∃ u2, Pty K H' p q lg (us ++ [u]) u2 (ss ++ [t]) t2 ls) → TD H' rv r → Q' rv H') →
        (∀ e cls dd H', dq t d = .error e → Same H H' → ErrAt K H' cls dd e → E' cls dd H') → Grows K H1 E' q us u Q' (dq t d) := by
      intro Q' E' H1 e1 hq he
      unfold Grows Gives
      cases hdq : dq t d with
      | ok b =>
        intro u' rv H' k hq' hu hr2
        exact hq rv b.1 b.2 H' hdq ((Kp.of e1).trans k) ⟨u', (hp.same e1).push k hq' hu (by omega)⟩ hr2
      | error e =>
        intro cls dd H' e2 hE
        exact he e cls dd H' hdq (e1.trans e2) hE
    have finOk : ∀ rv r t2 H', dq t d = .ok (r, t2) → Kp q H H' → (∃ u2, Pty K H' p q lg (us ++ [u]) u2 (ss ++ [t]) t2 ls) → TD H' rv r → ∀ tp, H' tp = none → Q (.ref tp) (upd H' tp (.tup [rv, .non])) := fun rv r t2 H' e k ⟨u2, hP⟩ hR tp htp => by
      rw [e] at h
      exact h (.ref tp) _ u2 _ _ (k.trans (Kp.of (Same.new htp))) (hP.same (Same.new htp)) (.inr rfl) (TD.mk upd_same (.cons (hR.mono (Same.new htp).tups) (.cons .non .nil)))
    have finEr : ∀ (e : Er) H', dq t d = .error e → Same H H' → ∀ xa, H' xa = none → ∀ (v : V) (H2 : Hp) (o : HO), Same (upd H' xa o) H2 → TD H2 v (erD e) → ∀ tp, H2 tp = none → Q (.ref tp) (upd H2 tp (.tup [.non, v])) := fun e H' he s1 xa hxa v H2 o e2 hv tp htp => by
      rw [he] at h
      have s3 : Same H (upd H2 tp (.tup [.non, v])) := ((s1.trans (Same.new hxa)).trans e2).trans (Same.new htp)
      exact h (.ref tp) _ u ss _ (Kp.of s3) (hp.same s3) (.inl rfl) (TD.mk upd_same (.cons .non (.cons (hv.mono (Same.new htp).tups) .nil)))
    have exmA : ∀ {e : Er} {cls : Value} {dd : Option Addr} {H' : Hp}, dq t d = .error e → ErrAt K H' cls dd e → PySem.W.exmAny K cls (nine K) = some true := fun {e cls dd H'} he hE => by
      cases e with
      | one i v =>
        obtain ⟨rfl, _⟩ := hE
        exact Z.exm (dq_er he).1
      | few =>
        obtain ⟨rfl, _⟩ := hE
        exact Z.exm (i := 6) (by decide)
    have exE : ∀ {e : Er} {cls : Value} {dd : Option Addr} {H' : Hp} {xa : Addr}, ErrAt K H' cls dd e → (hx : H' xa = none) → EX K (upd H' xa (ExV cls dd xa)) xa e := fun {e cls dd H' xa} hE hx => by
      cases e with
      | one i v =>
        obtain ⟨rfl, d2, rfl, h2⟩ := hE
        exact ⟨d2, upd_same, kp1 h2 hx⟩
      | few =>
        obtain ⟨rfl, rfl⟩ := hE
        exact upd_same
    cases d with
    | exch x =>
      refine ⟨_, rfl, a, _, _, _, rfl, rfl, SqT.of hd, atI_nat (j := 0) rfl, _, _, _, rfl, ?_⟩
      refine ⟨_, rfl, line3, fun p9 hp9 => ⟨p9, _, rfl, .inr (SqT.of upd_same), rfl, rfl, _, rfl, iteY (by decide +kernel) ?_⟩⟩
      have e9 : Same H (upd H p9 (.tup [.str "exchange", .str "run", .str "go"])) := Same.new hp9
      exact ⟨_, rfl, _, rfl, p, q, lg, us, u, ss, t, ls, n, a, .exch x, rfl, hp.same e9, hn, trivial, hd.same e9, hok, fin _ _ _ e9 (fun rv r t2 H' e k hP hR => ⟨_, rfl, rfl, _, rfl, iteY rfl ⟨_, rfl, line2, finOk rv r t2 H' e k hP hR⟩⟩) (fun e cls dd H' he s1 hE => ⟨(exmA he hE), fun xa hxa => ⟨_, rfl, _, rfl, rfl, _, rfl, iteZ (by simp) ⟨_, rfl, xa, e, rfl, exE hE hxa, dq_er he, fun v H2 e2 hv => ⟨line2, finEr e H' he s1 xa hxa v H2 _ e2 hv⟩⟩⟩⟩)⟩
    | run row =>
      have hd0 := hd
      obtain ⟨r, h1, h2⟩ := hd0
      refine ⟨_, rfl, a, _, _, _, rfl, rfl, SqT.of h1, atI_nat (j := 0) rfl, _, _, _, rfl, ?_⟩
      refine ⟨_, rfl, line3, fun p9 hp9 => ⟨p9, _, rfl, .inr (SqT.of upd_same), rfl, rfl, _, rfl, iteY (by decide +kernel) ?_⟩⟩
      have e9 : Same H (upd H p9 (.tup [.str "exchange", .str "run", .str "go"])) := Same.new hp9
      exact ⟨_, rfl, _, rfl, p, q, lg, us, u, ss, t, ls, n, a, .run row, rfl, hp.same e9, hn, trivial, hd.same e9, hok, fin _ _ _ e9 (fun rv r t2 H' e k hP hR => ⟨_, rfl, rfl, _, rfl, iteY rfl ⟨_, rfl, line2, finOk rv r t2 H' e k hP hR⟩⟩) (fun e cls dd H' he s1 hE => ⟨(exmA he hE), fun xa hxa => ⟨_, rfl, _, rfl, rfl, _, rfl, iteZ (by simp) ⟨_, rfl, xa, e, rfl, exE hE hxa, dq_er he, fun v H2 e2 hv => ⟨line2, finEr e H' he s1 xa hxa v H2 _ e2 hv⟩⟩⟩⟩)⟩
    | go g =>
      have hd0 := hd
      obtain ⟨v, h1, h2⟩ := hd0
      refine ⟨_, rfl, a, _, _, _, rfl, rfl, SqT.of h1, atI_nat (j := 0) rfl, _, _, _, rfl, ?_⟩
      refine ⟨_, rfl, line3, fun p9 hp9 => ⟨p9, _, rfl, .inr (SqT.of upd_same), rfl, rfl, _, rfl, iteY (by decide +kernel) ?_⟩⟩
      have e9 : Same H (upd H p9 (.tup [.str "exchange", .str "run", .str "go"])) := Same.new hp9
      exact ⟨_, rfl, _, rfl, p, q, lg, us, u, ss, t, ls, n, a, .go g, rfl, hp.same e9, hn, trivial, hd.same e9, hok, fin _ _ _ e9 (fun rv r t2 H' e k hP hR => ⟨_, rfl, rfl, _, rfl, iteY rfl ⟨_, rfl, line2, finOk rv r t2 H' e k hP hR⟩⟩) (fun e cls dd H' he s1 hE => ⟨(exmA he hE), fun xa hxa => ⟨_, rfl, _, rfl, rfl, _, rfl, iteZ (by simp) ⟨_, rfl, xa, e, rfl, exE hE hxa, dq_er he, fun v H2 e2 hv => ⟨line2, finEr e H' he s1 xa hxa v H2 _ e2 hv⟩⟩⟩⟩)⟩
    | again row k =>
      obtain ⟨r, h1, h2⟩ := hd
      obtain ⟨o1, o2, o3, o4⟩ := hok
      refine ⟨_, rfl, a, _, _, _, rfl, rfl, SqT.of h1, atI_nat (j := 0) rfl, _, _, _, rfl, ?_⟩
      refine ⟨_, rfl, line3, fun p9 hp9 => ⟨p9, _, rfl, .inr (SqT.of upd_same), rfl, rfl, _, rfl, iteZ (by decide +kernel) ?_⟩⟩
      have e9 : Same H (upd H p9 (.tup [.str "exchange", .str "run", .str "go"])) := Same.new hp9
      refine ⟨_, rfl, rfl, _, rfl, iteY (by decide +kernel) ?_⟩
      have rw0 : Rw n t row := ⟨hn.rg, by omega, o2, hn.szs hsum, fun q0 a0 a1 => Rok.per (n := n) ⟨n2, n16, o2⟩ a0 a1⟩
      exact ⟨_, rfl, p, dx, _, rfl, e9 _ _ hi, rfl, _, rfl, a, _, _, _, rfl, rfl, SqT.of (e9 _ _ h1), atI_nat (j := 1) rfl, _, rfl, a, _, _, _, rfl, rfl, SqT.of (e9 _ _ h1), atI_nat (j := 2) rfl, p, q, lg, us, u, ss, t, ls, n, r, row, k, rfl, hp.same e9, rw0, e9 _ _ h2, o3, by unfold Sz; omega, fin _ _ _ e9 (fun rv r t2 H' e k hP hR => ⟨_, rfl, rfl, _, rfl, iteY rfl ⟨_, rfl, line2, finOk rv r t2 H' e k hP hR⟩⟩) (fun e cls dd H' he s1 hE => ⟨(exmA he hE), fun xa hxa => ⟨_, rfl, _, rfl, rfl, _, rfl, iteZ (by simp) ⟨_, rfl, xa, e, rfl, exE hE hxa, dq_er he, fun v H2 e2 hv => ⟨line2, finEr e H' he s1 xa hxa v H2 _ e2 hv⟩⟩⟩⟩)⟩
    | give i c =>
      refine ⟨_, rfl, a, _, _, _, rfl, rfl, SqT.of hd, atI_nat (j := 0) rfl, _, _, _, rfl, ?_⟩
      refine ⟨_, rfl, line3, fun p9 hp9 => ⟨p9, _, rfl, .inr (SqT.of upd_same), rfl, rfl, _, rfl, iteZ (by decide +kernel) ?_⟩⟩
      have e9 : Same H (upd H p9 (.tup [.str "exchange", .str "run", .str "go"])) := Same.new hp9
      refine ⟨_, rfl, rfl, _, rfl, iteZ (by decide +kernel) ?_⟩
      refine ⟨_, rfl, line2, fun p8 hp8 => ⟨p8, _, rfl, .inr (SqT.of upd_same), rfl, rfl, _, rfl, iteY (by decide +kernel) ?_⟩⟩
      have e8 : Same H (upd (upd H p9 (.tup [.str "exchange", .str "run", .str "go"])) p8 (.tup [.str "give", .str "take"])) := e9.trans (Same.new hp8)
      refine ⟨_, rfl, rfl, _, rfl, iteY (by decide +kernel) ?_⟩
      exact ⟨_, rfl, p, dx, _, rfl, e8 _ _ hi, rfl, _, rfl, a, _, _, _, rfl, rfl, SqT.of (e8 _ _ hd), atI_nat (j := 1) rfl, _, rfl, a, _, _, _, rfl, rfl, SqT.of (e8 _ _ hd), atI_nat (j := 2) rfl, p, q, lg, us, u, ss, t, ls, n, i, c, rfl, hp.same e8, hn.rg, fin _ _ _ e8 (fun rv r t2 H' e k hP hR => ⟨_, rfl, rfl, _, rfl, iteY rfl ⟨_, rfl, line2, finOk rv r t2 H' e k hP hR⟩⟩) (fun e cls dd H' he s1 hE => ⟨(exmA he hE), fun xa hxa => ⟨_, rfl, _, rfl, rfl, _, rfl, iteZ (by simp) ⟨_, rfl, xa, e, rfl, exE hE hxa, dq_er he, fun v H2 e2 hv => ⟨line2, finEr e H' he s1 xa hxa v H2 _ e2 hv⟩⟩⟩⟩)⟩
    | take i c =>
      refine ⟨_, rfl, a, _, _, _, rfl, rfl, SqT.of hd, atI_nat (j := 0) rfl, _, _, _, rfl, ?_⟩
      refine ⟨_, rfl, line3, fun p9 hp9 => ⟨p9, _, rfl, .inr (SqT.of upd_same), rfl, rfl, _, rfl, iteZ (by decide +kernel) ?_⟩⟩
      have e9 : Same H (upd H p9 (.tup [.str "exchange", .str "run", .str "go"])) := Same.new hp9
      refine ⟨_, rfl, rfl, _, rfl, iteZ (by decide +kernel) ?_⟩
      refine ⟨_, rfl, line2, fun p8 hp8 => ⟨p8, _, rfl, .inr (SqT.of upd_same), rfl, rfl, _, rfl, iteY (by decide +kernel) ?_⟩⟩
      have e8 : Same H (upd (upd H p9 (.tup [.str "exchange", .str "run", .str "go"])) p8 (.tup [.str "give", .str "take"])) := e9.trans (Same.new hp8)
      refine ⟨_, rfl, rfl, _, rfl, iteZ (by decide +kernel) ?_⟩
      exact ⟨_, rfl, p, dx, _, rfl, e8 _ _ hi, rfl, _, rfl, a, _, _, _, rfl, rfl, SqT.of (e8 _ _ hd), atI_nat (j := 1) rfl, _, rfl, a, _, _, _, rfl, rfl, SqT.of (e8 _ _ hd), atI_nat (j := 2) rfl, p, q, lg, us, u, ss, t, ls, n, i, c, rfl, hp.same e8, hn.rg, fin _ _ _ e8 (fun rv r t2 H' e k hP hR => ⟨_, rfl, rfl, _, rfl, iteY rfl ⟨_, rfl, line2, finOk rv r t2 H' e k hP hR⟩⟩) (fun e cls dd H' he s1 hE => ⟨(exmA he hE), fun xa hxa => ⟨_, rfl, _, rfl, rfl, _, rfl, iteZ (by simp) ⟨_, rfl, xa, e, rfl, exE hE hxa, dq_er he, fun v H2 e2 hv => ⟨line2, finEr e H' he s1 xa hxa v H2 _ e2 hv⟩⟩⟩⟩)⟩
    | come c =>
      refine ⟨_, rfl, a, _, _, _, rfl, rfl, SqT.of hd, atI_nat (j := 0) rfl, _, _, _, rfl, ?_⟩
      refine ⟨_, rfl, line3, fun p9 hp9 => ⟨p9, _, rfl, .inr (SqT.of upd_same), rfl, rfl, _, rfl, iteZ (by decide +kernel) ?_⟩⟩
      have e9 : Same H (upd H p9 (.tup [.str "exchange", .str "run", .str "go"])) := Same.new hp9
      refine ⟨_, rfl, rfl, _, rfl, iteZ (by decide +kernel) ?_⟩
      refine ⟨_, rfl, line2, fun p8 hp8 => ⟨p8, _, rfl, .inr (SqT.of upd_same), rfl, rfl, _, rfl, iteZ (by decide +kernel) ?_⟩⟩
      have e8 : Same H (upd (upd H p9 (.tup [.str "exchange", .str "run", .str "go"])) p8 (.tup [.str "give", .str "take"])) := e9.trans (Same.new hp8)
      refine ⟨_, rfl, rfl, _, rfl, iteY (by decide +kernel) ?_⟩
      exact ⟨_, rfl, p, dx, _, rfl, e8 _ _ hi, rfl, _, rfl, a, _, _, _, rfl, rfl, SqT.of (e8 _ _ hd), atI_nat (j := 1) rfl, p, q, lg, us, u, ss, t, ls, n, c, rfl, hp.same e8, hn.rg, fin _ _ _ e8 (fun rv r t2 H' e k hP hR => ⟨_, rfl, rfl, _, rfl, iteY rfl ⟨_, rfl, line2, finOk rv r t2 H' e k hP hR⟩⟩) (fun e cls dd H' he s1 hE => ⟨(exmA he hE), fun xa hxa => ⟨_, rfl, _, rfl, rfl, _, rfl, iteZ (by simp) ⟨_, rfl, xa, e, rfl, exE hE hxa, dq_er he, fun v H2 e2 hv => ⟨line2, finEr e H' he s1 xa hxa v H2 _ e2 hv⟩⟩⟩⟩)⟩
    | leave i =>
      refine ⟨_, rfl, a, _, _, _, rfl, rfl, SqT.of hd, atI_nat (j := 0) rfl, _, _, _, rfl, ?_⟩
      refine ⟨_, rfl, line3, fun p9 hp9 => ⟨p9, _, rfl, .inr (SqT.of upd_same), rfl, rfl, _, rfl, iteZ (by decide +kernel) ?_⟩⟩
      have e9 : Same H (upd H p9 (.tup [.str "exchange", .str "run", .str "go"])) := Same.new hp9
      refine ⟨_, rfl, rfl, _, rfl, iteZ (by decide +kernel) ?_⟩
      refine ⟨_, rfl, line2, fun p8 hp8 => ⟨p8, _, rfl, .inr (SqT.of upd_same), rfl, rfl, _, rfl, iteZ (by decide +kernel) ?_⟩⟩
      have e8 : Same H (upd (upd H p9 (.tup [.str "exchange", .str "run", .str "go"])) p8 (.tup [.str "give", .str "take"])) := e9.trans (Same.new hp8)
      refine ⟨_, rfl, rfl, _, rfl, iteZ (by decide +kernel) ?_⟩
      exact ⟨_, rfl, p, dx, _, rfl, e8 _ _ hi, rfl, _, rfl, a, _, _, _, rfl, rfl, SqT.of (e8 _ _ hd), atI_nat (j := 1) rfl, p, q, lg, us, u, ss, t, ls, n, i, rfl, hp.same e8, hn.rg, fin _ _ _ e8 (fun rv r t2 H' e k hP hR => ⟨_, rfl, rfl, _, rfl, iteY rfl ⟨_, rfl, line2, finOk rv r t2 H' e k hP hR⟩⟩) (fun e cls dd H' he s1 hE => ⟨(exmA he hE), fun xa hxa => ⟨_, rfl, _, rfl, rfl, _, rfl, iteZ (by simp) ⟨_, rfl, xa, e, rfl, exE hE hxa, dq_er he, fun v H2 e2 hv => ⟨line2, finEr e H' he s1 xa hxa v H2 _ e2 hv⟩⟩⟩⟩)⟩
end
end Tr
end
section
set_option Elab.async false
set_option linter.all false
set_option maxRecDepth 100000
set_option maxHeartbeats 4000000
namespace Tr
open PySem PySem.Spec PyProof.Rows L2
/-- flat things in tuples -/
def SD : Nat → PyData → Prop
  | 0, d => d = .none ∨ (∃ i, d = .int i) ∨ ∃ z, d = .str z
  | k + 1, d => (d = .none ∨ (∃ i, d = .int i) ∨ ∃ z, d = .str z) ∨ ∃ ds, d = .tuple ds ∧ ds.length ≤ 100 ∧ ∀ x, x ∈ ds → SD k x
theorem SD.leaf {d : PyData} (h : d = .none ∨ (∃ i, d = .int i) ∨ ∃ z, d = .str z) : ∀ k, SD k d
  | 0 => h
  | k + 1 => .inl h
def spSame (k : Nat) : Sp := fun vs H Q _ => ∃ (v u : V) (d : PyData), vs = [v, u] ∧ TD H v d ∧ TD H u d ∧ SD k d ∧ ∀ H', Same H H' → Q (.bl true) H'
section
variable {P : Program} {w : World} {K : PySem.W.Frag} {mg : Str → Option Value} {base : Heap}
theorem sc__law_same : FnScope ["_law_found", "_law_due", "_law_mine", "_law_its"] ["_law_found", "_law_due"] (defScope s__law_same) := ⟨rfl, rfl, rfl, by decide +kernel, rfl, by decide +kernel, by decide +kernel⟩
theorem same_of (T : Tx K mg) (k : Nat) (spR : Sp) (ok__law_same : Tx K mg → FnOk P w K mg base CX0 k (He.ga K "_law_same") (fdOf K (He.ga K "_law_same")) ["_law_found", "_law_due"] spR)
    (hR : ∀ j, k = j + 1 → ∀ (H : Hp) (Q : VK) (E : XK) (v u : V) (d : PyData), TD H v d → TD H u d → SD j d → (∀ H', Same H H' → Q (.bl true) H') → spR [v, u] H Q E) :
    FnOk P w K mg base CX0 (k + 1) (He.ga K "_law_same") (fdOf K (He.ga K "_law_same")) ["_law_found", "_law_due"] (spSame k) := by
  refine T.F__law_same.ok sc__law_same (fun vs H Q E h => ?_) (fun cdv A outer s H vs Q E hr h => ?_)
  · obtain ⟨v, u, d, rfl, _⟩ := h
    rfl
  · obtain ⟨v, u, d, rfl, hv, hu, hd, h⟩ := h
    refine ⟨_, PSs.nox (pss_cons (ps_if (pt_val (pe_callB call_isiT rfl T.b_isinstance bt_isinstance (pa_cons (pv 1) (pa_cons (pe_tup (pa_cons (pe_bltn (v := .ty "list") rfl T.b_list PyProof.Rows.Boot.«list» rfl) (pa_cons (pe_bltn (v := .ty "tuple") rfl T.b_tuple PyProof.Rows.Boot.«tuple» rfl) pa_nil))) pa_nil)))) (pss_cons (ps_if (PW.pt (pw_or (pt_cmpR op_ne (pe_callB call_isi rfl T.b_isinstance bt_isinstance (pa_cons (pv 0) (pa_cons (pe_bltn (v := .ty "list") rfl T.b_list PyProof.Rows.Boot.«list» rfl) pa_nil))) (pe_callB call_isi rfl T.b_isinstance bt_isinstance (pa_cons (pv 1) (pa_cons (pe_bltn (v := .ty "list") rfl T.b_list PyProof.Rows.Boot.«list» rfl) pa_nil))) (nomark _)) (pw_or1 (pt_cmpR op_ne (pe_callB call_isi rfl T.b_isinstance bt_isinstance (pa_cons (pv 0) (pa_cons (pe_bltn (v := .ty "tuple") rfl T.b_tuple PyProof.Rows.Boot.«tuple» rfl) pa_nil))) (pe_callB call_isi rfl T.b_isinstance bt_isinstance (pa_cons (pv 1) (pa_cons (pe_bltn (v := .ty "tuple") rfl T.b_tuple PyProof.Rows.Boot.«tuple» rfl) pa_nil))) (nomark _))))) (pss_one (ps_ret pe_bl)) pss_nil)
      (pss_one (ps_ret (pe_and (pe_cmpR op_eq (pe_callB call_len_seq rfl T.b_len bt_len (pa_cons (pv 0) pa_nil)) (pe_callB call_len_seq rfl T.b_len bt_len (pa_cons (pv 1) pa_nil)) (nomark _)) (pe_one (pe_callB (cr_all rfl) rfl T.b_all bt_all (pa_cons (pe_lc (own := [("_law_mine", 2), ("_law_its", 3)]) (g := gTup K 2 (gCons (gName 2) (gCons (gName 3) gNil))) rfl sc__law_same.nd (RZ.pi_zipA rfl T.b_zip (pa_cons (pv 0) (pa_cons (pv 1) pa_nil))) (blkOk_by (own := [("_law_mine", 2), ("_law_its", 3)]) (N := ["_law_found", "_law_due", "_law_mine", "_law_its"]) (by kernel_rfl)) (fun _ _ _ _ _ => (pg_tup rfl (pgs_cons (pg_name (i := 2) sc__law_same.nd rfl (Or.inl rfl)) (pgs_cons (pg_name (i := 3) sc__law_same.nd rfl (Or.inl rfl)) pgs_nil)))) (fun _ _ _ _ _ => pts_nil) (fun _ _ _ _ _ => (pe_call (ok__law_same T) (hr.mono (Nat.le_refl _)) rfl T.g__law_same T.F__law_same.kp T.b_f__law_same .nil pass0 (pa_cons (pv 2) (pa_cons (pv 3) pa_nil))))) pa_nil))))))) pss_nil)
      (pss_cons (ps_if (PW.pt (pw_or (pt_cmpR op_isN (pv 1) pe_non (nomark _)) (pw_or1 (pt_val (pe_callB call_isiT rfl T.b_isinstance bt_isinstance (pa_cons (pv 1) (pa_cons (pe_tup (pa_cons (pe_bltn (v := .ty "bool") rfl T.b_bool PyProof.Rows.Boot.«bool» rfl) (pa_cons (pe_bltn (v := .ty "str") rfl T.b_str PyProof.Rows.Boot.«str» rfl) pa_nil))) pa_nil))))))) (pss_one (ps_ret (pe_and (pe_cmpR op_eq (pv 0) (pv 1) (nomark _)) (pe_and (pe_cmpR op_eq (pe_callB call_isi rfl T.b_isinstance bt_isinstance (pa_cons (pv 0) (pa_cons (pe_bltn (v := .ty "bool") rfl T.b_bool PyProof.Rows.Boot.«bool» rfl) pa_nil))) (pe_callB call_isi rfl T.b_isinstance bt_isinstance (pa_cons (pv 1) (pa_cons (pe_bltn (v := .ty "bool") rfl T.b_bool PyProof.Rows.Boot.«bool» rfl) pa_nil))) (nomark _)) (pe_one (pe_cmpR op_eq (pe_cmpR op_isN (pv 0) pe_non (nomark _)) (pe_cmpR op_isN (pv 1) pe_non (nomark _)) (nomark _))))))) pss_nil)
      (pss_one (ps_ret (pe_and (pe_callB call_isi rfl T.b_isinstance bt_isinstance (pa_cons (pv 0) (pa_cons (pe_bltn (v := .ty "int") rfl T.b_int PyProof.Rows.Boot.«int» rfl) pa_nil))) (pe_and (pe_not (pe_callB call_isi rfl T.b_isinstance bt_isinstance (pa_cons (pv 0) (pa_cons (pe_bltn (v := .ty "bool") rfl T.b_bool PyProof.Rows.Boot.«bool» rfl) pa_nil)))) (pe_one (pe_cmpR op_eq (pv 0) (pv 1) (nomark _))))))))), ?_⟩
    have leaf : (d = .none ∨ (∃ i, d = .int i) ∨ ∃ z, d = .str z) ∨ ∃ j ds, k = j + 1 ∧ d = .tuple ds ∧ ds.length ≤ 100 ∧ ∀ x, x ∈ ds → SD j x := by
      cases k with
      | zero => exact .inl hd
      | succ j =>
        rcases hd with h | ⟨ds, h1, h2, h3⟩
        · exact .inl h
        · exact .inr ⟨j, ds, rfl, h1, h2, h3⟩
    rcases leaf with leaf | ⟨j, ds, hkj, rfl, hl, hds⟩
    · have lf : ∀ (x : V), TD H x d → (d = .none ∧ x = .non) ∨ (∃ i, d = .int i ∧ x = .int i) ∨ ∃ z, d = .str z ∧ x = .str z := fun x hx => by
        rcases leaf with rfl | ⟨i, rfl⟩ | ⟨z, rfl⟩
        · cases hx; exact .inl ⟨rfl, rfl⟩
        · cases hx; exact .inr (.inl ⟨i, rfl, rfl⟩)
        · cases hx; exact .inr (.inr ⟨z, rfl, rfl⟩)
      rcases lf v hv with ⟨rfl, rfl⟩ | ⟨i, rfl, rfl⟩ | ⟨z, rfl, rfl⟩
      · cases hu
        refine ⟨_, rfl, line2, fun p1 hp1 => ⟨.non, p1, _, _, _, false, rfl, upd_same, .cons (.ty _) (.cons (.ty _) .nil), .base .non, rfl, _, rfl, iteZ rfl ?_⟩⟩
        have s1 : Same H (upd H p1 (.tup [.ty "list", .ty "tuple"])) := Same.new hp1
        refine ⟨_, rfl, rfl, _, rfl, iteY rfl ?_⟩
        refine ⟨_, rfl, _, rfl, rfl, _, rfl, iteY rfl ?_⟩
        exact ⟨_, rfl, .non, .ty "bool", _, _, false, rfl, .ty _, .base .non, rfl, _, rfl, .non, .ty "bool", _, _, false, rfl, .ty _, .base .non, rfl, rfl, _, rfl, iteY rfl ⟨_, rfl, rfl, _, rfl, rfl, rfl, h _ s1⟩⟩
      · cases hu
        refine ⟨_, rfl, line2, fun p1 hp1 => ⟨.int i, p1, _, _, _, false, rfl, upd_same, .cons (.ty _) (.cons (.ty _) .nil), .base (.int i), rfl, _, rfl, iteZ rfl ?_⟩⟩
        have s1 : Same H (upd H p1 (.tup [.ty "list", .ty "tuple"])) := Same.new hp1
        refine ⟨_, rfl, rfl, _, rfl, iteZ rfl ⟨_, rfl, line2, fun p2 hp2 => ⟨.int i, p2, _, _, _, false, rfl, upd_same, .cons (.ty _) (.cons (.ty _) .nil), .base (.int i), rfl, _, rfl, iteZ rfl ?_⟩⟩⟩
        have s2 := s1.trans (Same.new (o := .tup [.ty "bool", .ty "str"]) hp2)
        refine ⟨_, rfl, .int i, .ty "int", _, _, true, rfl, .ty _, .base (.int i), rfl, _, rfl, iteY rfl ?_⟩
        refine ⟨_, rfl, .int i, .ty "bool", _, _, false, rfl, .ty _, .base (.int i), rfl, _, rfl, _, rfl, iteY rfl ?_⟩
        refine ⟨_, rfl, _, rfl, rfl, ?_⟩
        have e : decide (V.int i = V.int i) = true := decide_eq_true rfl
        rw [e]
        exact h _ s2
      · cases hu
        refine ⟨_, rfl, line2, fun p1 hp1 => ⟨.str z, p1, _, _, _, false, rfl, upd_same, .cons (.ty _) (.cons (.ty _) .nil), .base (.str z), rfl, _, rfl, iteZ rfl ?_⟩⟩
        have s1 : Same H (upd H p1 (.tup [.ty "list", .ty "tuple"])) := Same.new hp1
        refine ⟨_, rfl, rfl, _, rfl, iteZ rfl ⟨_, rfl, line2, fun p2 hp2 => ⟨.str z, p2, _, _, _, true, rfl, upd_same, .cons (.ty _) (.cons (.ty _) .nil), .base (.str z), rfl, _, rfl, iteY rfl ?_⟩⟩⟩
        have s2 := s1.trans (Same.new (o := .tup [.ty "bool", .ty "str"]) hp2)
        refine ⟨_, rfl, _, rfl, rfl, _, rfl, iteY (by simp) ?_⟩
        exact ⟨_, rfl, .str z, .ty "bool", _, _, false, rfl, .ty _, .base (.str z), rfl, _, rfl, .str z, .ty "bool", _, _, false, rfl, .ty _, .base (.str z), rfl, rfl, _, rfl, iteY rfl ⟨_, rfl, rfl, _, rfl, rfl, rfl, h _ s2⟩⟩
    · obtain ⟨a, xs, rfl, ha, hxs⟩ := hv.un
      obtain ⟨b, ys, rfl, hb, hys⟩ := hu.un
      refine ⟨_, rfl, line2, fun p1 hp1 => ⟨.ref b, p1, _, _, _, true, rfl, upd_same, .cons (.ty _) (.cons (.ty _) .nil), .base (.tup (kp1 hb hp1)), rfl, _, rfl, iteY rfl ?_⟩⟩
      have s1 : Same H (upd H p1 (.tup [.ty "list", .ty "tuple"])) := Same.new hp1
      have ha1 := kp1 (p := p1) (u := .tup [.ty "list", .ty "tuple"]) ha hp1
      have hb1 := kp1 (p := p1) (u := .tup [.ty "list", .ty "tuple"]) hb hp1
      have hxs1 := hxs.mono s1.tups
      have hys1 := hys.mono s1.tups
      generalize upd H p1 (.tup [.ty "list", .ty "tuple"]) = H1 at *
      refine ⟨_, rfl, .ref a, .ty "list", _, _, false, rfl, .ty _, .base (.tup ha1), rfl, _, rfl, .ref b, .ty "list", _, _, false, rfl, .ty _, .base (.tup hb1), rfl, rfl, _, rfl, iteZ rfl ?_⟩
      refine ⟨_, rfl, .ref a, .ty "tuple", _, _, true, rfl, .ty _, .base (.tup ha1), rfl, _, rfl, .ref b, .ty "tuple", _, _, true, rfl, .ty _, .base (.tup hb1), rfl, rfl, _, rfl, iteZ rfl ?_⟩
      refine ⟨_, rfl, a, _, rfl, .inr (SqT.of ha1), _, rfl, b, _, rfl, .inr (SqT.of hb1), rfl, _, rfl, iteY (by rw [hxs.1, hys.1]; simp) ?_⟩
      refine ⟨_, rfl, _, rfl, a, b, xs, ys, rfl, .inr ⟨SqT.of ha1, SqT.of hb1, fun D hD => ?_⟩⟩
      refine lc_prs (prs_zipT (xs := xs) (ys := ys) (by rw [hxs.1, hys.1])) (fun _ => true) (fun _ => .bool true) (by rw [hxs.1]; omega) (fun H' e => ⟨SqT.of (e _ _ ha1), SqT.of (e _ _ hb1)⟩) (fun i x y H' _ _ _ Q q => q _ (Same.refl _)) ?_ ?_ hD
      · rintro i x y H' hi ⟨hx, hy⟩ e _ Q q
        obtain ⟨d, hd2⟩ := get_lt (xs := ds) (i := i) (by rw [← hxs.1]; exact hi)
        have tx := (hxs1.2 i x d hx hd2).mono e.tups
        have ty := (hys1.2 i y d hy hd2).mono e.tups
        exact ⟨_, rfl, _, rfl, hR j hkj H' _ _ x y d tx ty (hds d (List.mem_of_getElem? hd2)) fun H3 e3 => q _ H3 e3 (.bl true)⟩
      · intro zs H' e h1 h2
        rw [pick_all (fun _ _ => rfl)] at h2
        have hz : zs = (List.replicate xs.length true).map V.bl := by
          refine List.ext_getElem (by rw [h2.1]; simp) fun i g1 g2 => ?_
          have g3 : i < xs.length := by simpa using g2
          have t := h2.2 i (zs[i]) (.bool true) (List.getElem?_eq_getElem g1) (by rw [List.getElem?_map, List.getElem?_range g3]; rfl)
          generalize zs[i] = q at t ⊢
          cases t
          simp
        refine ⟨D, List.replicate xs.length true, rfl, SqL.of (by rw [h1, hz]), ?_⟩
        have e2 : (List.replicate xs.length true).all id = true := by simp
        rw [e2]
        exact h _ (s1.trans e)
theorem ok_same (T : Tx K mg) : ∀ k, FnOk P w K mg base CX0 (k + 1) (He.ga K "_law_same") (fdOf K (He.ga K "_law_same")) ["_law_found", "_law_due"] (spSame k)
  | 0 => same_of T 0 (fun _ _ _ _ => False) (fun _ => ⟨fun _ _ _ _ z => z.elim, fun _ _ _ _ _ _ _ _ _ _ _ _ _ z => z.elim⟩) fun j h => by omega
  | k + 1 => same_of T (k + 1) (spSame k) (fun _ => ok_same T k) fun j hj H Q E v u d h1 h2 h3 q => by
    obtain rfl : k = j := by omega
    exact ⟨v, u, d, rfl, h1, h2, h3, q⟩
end
end Tr
end
section
set_option Elab.async false
set_option linter.all false
set_option maxRecDepth 100000
set_option maxHeartbeats 4000000
namespace Tr
open PySem PySem.Spec PyProof.Rows L2
theorem seq_cut {a b : TS} {D : Ends} {σ : L2.St} {H : Hp} (J : L2.St → Hp → Prop) (hN : ∀ σ H, J σ H → b D σ H) (h : (∀ σ H, J σ H → b D σ H) → tSeq a b D σ H) : tSeq a b D σ H := h hN
def spDeed (K : PySem.W.Frag) : Sp := fun vs H Q _ => ∃ (so : Addr) (B : Int) (v : V) (t : S) (n : Nat), vs = [.ref so, v] ∧ Src B H so ∧ B ≤ 2 ^ 37 ∧ TD H v (stD t) ∧ Vd n t ∧ n ≤ 7 ∧
  ∀ (a : Addr) (d : Dd) (H' : Hp), Kp so H H' → DH H' a d → DOk n d → Src (B + 1000) H' so → Q (.ref a) H'
theorem rep01 (b : Bool) (xs : List V) : (List.replicate ((if b = true then (1 : Int) else 0)).toNat xs).flatten = if b = true then xs else [] := by
  cases b <;> simp
theorem catrep (row xs : List Int) (b : Bool) : row.map V.int ++ (List.replicate ((if b = true then (1 : Int) else 0)).toNat (xs.map V.int)).flatten = (row ++ if b = true then xs else []).map V.int := by
  cases b <;> simp
theorem b01N (b : Bool) : -(2 ^ 63) ≤ (if b = true then (1 : Int) else 0) ∧ (if b = true then (1 : Int) else 0) < 2 ^ 63 ∧ (if b = true then (1 : Int) else 0).toNat ≤ 1 := by cases b <;> decide
theorem ifmem {b : Bool} {xs : List Int} {x : Int} (h : x ∈ (if b = true then xs else [])) : x ∈ xs := by
  cases b
  · cases h
  · exact h
theorem iflen {b : Bool} {xs : List Int} : (if b = true then xs else []).length ≤ xs.length := by
  cases b
  · exact Nat.zero_le _
  · exact Nat.le_refl _
theorem int3 {a b c : Int} {i : Nat} {y : V} (h : ([.int a, .int b, .int c] : List V)[i]? = some y) : ∃ z, y = .int z := by
  match i, h with
  | 0, h => cases h; exact ⟨_, rfl⟩
  | 1, h => cases h; exact ⟨_, rfl⟩
  | 2, h => cases h; exact ⟨_, rfl⟩
  | j + 3, h => cases h
theorem int2 {a b : Int} {i : Nat} {y : V} (h : ([.int a, .int b] : List V)[i]? = some y) : y = .int a ∨ y = .int b := by
  match i, h with
  | 0, h => cases h; exact .inl rfl
  | 1, h => cases h; exact .inr rfl
  | j + 2, h => cases h
theorem gv3 {i : Nat} {y : V} (h : ([.str "give", .str "give", .str "take"] : List V)[i]? = some y) : y = .str "give" ∨ y = .str "take" := by
  match i, h with
  | 0, h => cases h; exact .inl rfl
  | 1, h => cases h; exact .inl rfl
  | 2, h => cases h; exact .inr rfl
  | j + 3, h => cases h
section
variable {P : Program} {w : World} {K : PySem.W.Frag} {mg : Str → Option Value} {base : Heap}
theorem sc__law_deed : FnScope ["_law_source", "_law_here", "_law_crowd", "_law_kind", "_law_spot", "_law_who", "_law_tape", "_law_there"] ["_law_source", "_law_here"] (defScope s__law_deed) := ⟨rfl, rfl, rfl, by decide +kernel, rfl, by decide +kernel, by decide +kernel⟩
theorem ok__law_deed (T : Tx K mg) : FnOk P w K mg base CX0 7 (He.ga K "_law_deed") (fdOf K (He.ga K "_law_deed")) ["_law_source", "_law_here"] (spDeed K) := by
  refine T.F__law_deed.ok sc__law_deed (fun vs H Q E h => ?_) (fun cdv A outer s H vs Q E hr h => ?_)
  · obtain ⟨so, B, v, t, n, rfl, _⟩ := h
    rfl
  · obtain ⟨so, B, v, t, n, rfl, hs, hB, hv, hn, n7, h⟩ := h
    refine ⟨_, PSs.nox (pss_cons (ps_par (i := 2) (j := 3) rfl sc__law_deed.nd rfl rfl (by decide) rfl rfl (pa_cons (pe_callB call_len_seq rfl T.b_len bt_len (pa_cons (pe_ix ix_tup (pv 1) pe_int (fun _ _ => rfl)) pa_nil)) (pa_cons (pe_call (ok_draw T 2 (by decide)) (hr.mono (by decide)) rfl T.g__law_draw T.F__law_draw.kp T.b_f__law_draw .nil pass0 (pa_cons (pv 0) (pa_cons pe_int pa_nil))) pa_nil)) (by rfl))
      (pss_cons (ps_par (i := 4) (j := 5) rfl sc__law_deed.nd rfl rfl (by decide) rfl rfl (pa_cons (pe_call (ok_draw T 2 (by decide)) (hr.mono (by decide)) rfl T.g__law_draw T.F__law_draw.kp T.b_f__law_draw .nil pass0 (pa_cons (pv 0) (pa_cons (pv 2) pa_nil))) (pa_cons (pe_call (ok_draw T 2 (by decide)) (hr.mono (by decide)) rfl T.g__law_draw T.F__law_draw.kp T.b_f__law_draw .nil pass0 (pa_cons (pv 0) (pa_cons (pv 2) pa_nil))) pa_nil)) (by rfl))
      (pss_cons (ps_if (pt_cmpR op_eq (pe_call (ok_draw T 2 (by decide)) (hr.mono (by decide)) rfl T.g__law_draw T.F__law_draw.kp T.b_f__law_draw .nil pass0 (pa_cons (pv 0) (pa_cons pe_int pa_nil))) pe_int (nomark _)) (pss_one (ps_par (i := 4) (j := 5) rfl sc__law_deed.nd rfl rfl (by decide) rfl rfl (pa_cons (pe_call (ok__law_pick T) (hr.mono (by decide)) rfl T.g__law_pick T.F__law_pick.kp T.b_f__law_pick .nil pass0 (pa_cons (pv 0) (pa_cons (pe_lst (pa_cons (pe_un un_neg pe_int) (pa_cons (pv 2) (pa_cons (pe_op op_add (pv 2) pe_int) pa_nil)))) pa_nil))) (pa_cons (pe_call (ok__law_pick T) (hr.mono (by decide)) rfl T.g__law_pick T.F__law_pick.kp T.b_f__law_pick .nil pass0 (pa_cons (pv 0) (pa_cons (pe_lst (pa_cons (pe_un un_neg pe_int) (pa_cons (pv 2) (pa_cons pe_int pa_nil)))) pa_nil))) pa_nil)) (by rfl))) pss_nil)
      (pss_cons (ps_if (pt_cmpR op_lt (pv 3) pe_int (nomark _)) (pss_one (ps_ret (pe_tup (pa_cons pe_str (pa_cons (pv 4) pa_nil))))) pss_nil)
      (pss_cons (ps_set (i := 6) sc__law_deed.nd rfl (Or.inl rfl) (pe_call (ok__law_random_row T) (hr.mono (by decide)) rfl T.g__law_random_row T.F__law_random_row.kp T.b_f__law_random_row .nil pass0 (pa_cons (pv 0) (pa_cons (pv 1) (pa_cons pe_int pa_nil)))))
      (pss_cons (ps_if (pt_cmpR op_lt (pv 3) pe_int (nomark _)) (pss_one (ps_ret (pe_tup (pa_cons pe_str (pa_cons (pe_op op_cat (pv 6) (pe_op op_rep (pe_lst (pa_cons (pv 4) pa_nil)) (pe_callTy call_int1 rfl T.b_int bt_int (pa_cons (pe_cmpR op_eq (pe_call (ok_draw T 2 (by decide)) (hr.mono (by decide)) rfl T.g__law_draw T.F__law_draw.kp T.b_f__law_draw .nil pass0 (pa_cons (pv 0) (pa_cons pe_int pa_nil))) pe_int (nomark _)) pa_nil)))) pa_nil))))) pss_nil)
      (pss_cons (ps_if (pt_cmpR op_lt (pv 3) pe_int (nomark _)) (pss_cons (ps_set (i := 6) sc__law_deed.nd rfl (Or.inl rfl) (pe_op op_cat (pv 6) (pe_op op_rep (pe_lst (pa_cons (pe_call (ok_draw T 2 (by decide)) (hr.mono (by decide)) rfl T.g__law_draw T.F__law_draw.kp T.b_f__law_draw .nil pass0 (pa_cons (pv 0) (pa_cons (pv 2) pa_nil))) pa_nil)) (pe_callTy call_int1 rfl T.b_int bt_int (pa_cons (pe_cmpR op_eq (pe_call (ok_draw T 2 (by decide)) (hr.mono (by decide)) rfl T.g__law_draw T.F__law_draw.kp T.b_f__law_draw .nil pass0 (pa_cons (pv 0) (pa_cons pe_int pa_nil))) pe_int (nomark _)) pa_nil)))))
      (pss_one (ps_ret (pe_tup (pa_cons pe_str (pa_cons (pe_op op_cat (pv 6) (pe_op op_rep (pe_revL (pv 6)) (pe_callTy call_int1 rfl T.b_int bt_int (pa_cons (pe_cmpR op_eq (pe_call (ok_draw T 2 (by decide)) (hr.mono (by decide)) rfl T.g__law_draw T.F__law_draw.kp T.b_f__law_draw .nil pass0 (pa_cons (pv 0) (pa_cons pe_int pa_nil))) pe_int (nomark _)) pa_nil)))) (pa_cons (pe_call (ok_draw T 2 (by decide)) (hr.mono (by decide)) rfl T.g__law_draw T.F__law_draw.kp T.b_f__law_draw .nil pass0 (pa_cons (pv 0) (pa_cons pe_int pa_nil))) pa_nil))))))) pss_nil)
      (pss_cons (ps_if (pt_cmpR op_lt (pv 3) pe_int (nomark _)) (pss_cons (ps_set (i := 7) sc__law_deed.nd rfl (Or.inl rfl) (pe_call (ok__law_run T) (hr.mono (by decide)) rfl T.g__law_run T.F__law_run.kp T.b_f__law_run .nil pass0 (pa_cons (pv 1) (pa_cons (pe_call (ok__law_random_row T) (hr.mono (by decide)) rfl T.g__law_random_row T.F__law_random_row.kp T.b_f__law_random_row .nil pass0 (pa_cons (pv 0) (pa_cons (pv 1) (pa_cons pe_int pa_nil)))) pa_nil))))
      (pss_cons (ps_if (pt_cmpR op_eq (pe_call (ok_draw T 2 (by decide)) (hr.mono (by decide)) rfl T.g__law_draw T.F__law_draw.kp T.b_f__law_draw .nil pass0 (pa_cons (pv 0) (pa_cons pe_int pa_nil))) pe_int (nomark _)) (pss_one (ps_set (i := 7) sc__law_deed.nd rfl (Or.inl rfl) (pe_call (ok__law_random_state T) (hr.mono (by decide)) rfl T.g__law_random_state T.F__law_random_state.kp T.b_f__law_random_state .nil pass0 (pa_cons (pv 0) (pa_cons (pe_op op_add (pv 2) (pe_callTy call_int1 rfl T.b_int bt_int (pa_cons (pe_cmpR op_eq (pe_call (ok_draw T 2 (by decide)) (hr.mono (by decide)) rfl T.g__law_draw T.F__law_draw.kp T.b_f__law_draw .nil pass0 (pa_cons (pv 0) (pa_cons pe_int pa_nil))) pe_int (nomark _)) pa_nil))) (pa_cons pe_int pa_nil)))))) pss_nil)
      (pss_one (ps_ret (pe_tup (pa_cons pe_str (pa_cons (pv 7) pa_nil))))))) pss_nil)
      (pss_cons (ps_if (pt_cmpR op_lt (pv 3) pe_int (nomark _)) (pss_one (ps_ret (pe_tup (pa_cons (pe_call (ok__law_pick T) (hr.mono (by decide)) rfl T.g__law_pick T.F__law_pick.kp T.b_f__law_pick .nil pass0 (pa_cons (pv 0) (pa_cons (pe_lst (pa_cons pe_str (pa_cons pe_str (pa_cons pe_str pa_nil)))) pa_nil))) (pa_cons (pv 5) (pa_cons (pe_call (ok_draw T 2 (by decide)) (hr.mono (by decide)) rfl T.g__law_draw T.F__law_draw.kp T.b_f__law_draw .nil pass0 (pa_cons (pv 0) (pa_cons (pe_call (ok__law_pick T) (hr.mono (by decide)) rfl T.g__law_pick T.F__law_pick.kp T.b_f__law_pick .nil pass0 (pa_cons (pv 0) (pa_cons (pe_lst (pa_cons pe_int (pa_cons (pe_op op_pow pe_int pe_int) pa_nil))) pa_nil))) pa_nil))) pa_nil)))))) pss_nil)
      (pss_cons (ps_if (PW.pt (pw_and (pt_cmpR op_lt (pv 3) pe_int (nomark _)) (pw_and1 (pt_cmpR op_lt (pv 2) pe_int (nomark _))))) (pss_one (ps_ret (pe_tup (pa_cons pe_str (pa_cons (pe_call (ok_draw T 2 (by decide)) (hr.mono (by decide)) rfl T.g__law_draw T.F__law_draw.kp T.b_f__law_draw .nil pass0 (pa_cons (pv 0) (pa_cons (pe_call (ok__law_pick T) (hr.mono (by decide)) rfl T.g__law_pick T.F__law_pick.kp T.b_f__law_pick .nil pass0 (pa_cons (pv 0) (pa_cons (pe_lst (pa_cons pe_int (pa_cons (pe_op op_pow pe_int pe_int) pa_nil))) pa_nil))) pa_nil))) pa_nil))))) pss_nil)
      (pss_one (ps_ret (pe_tup (pa_cons pe_str (pa_cons (pv 5) pa_nil))))))))))))))), ?_⟩
    have ez := sizeLine_eq
    have n2 := hn.two
    have l1 := hn.rg.l1
    obtain ⟨va, vb, vc, rfl, ha, hb, hc⟩ := TD.st hv
    refine ⟨_, rfl, va, _, _, _, rfl, rfl, SqT.of ha, atI_nat (j := 0) rfl, vb, _, rfl, .inr (SqT.of hb), ?_⟩
    refine ⟨_, rfl, so, _, _, 2, rfl, hs, by omega, by decide, by decide, by decide, fun kd H1 kd0 kd1 k1 s1 => ⟨_, _, rfl, ?_⟩⟩
    have ln : (t.1.map V.int).length = n := by rw [List.length_map, l1]
    refine ⟨_, rfl, _, rfl, so, _, _, 2, rfl, s1, by omega, by rw [ln]; omega, by rw [ln]; omega, by decide, fun sp0 H2 sp00 sp01 k2 s2 => ?_⟩
    refine ⟨_, rfl, _, rfl, so, _, _, 2, rfl, s2, by omega, by rw [ln]; omega, by rw [ln]; omega, by decide, fun wh0 H3 wh00 wh01 k3 s3 => ⟨_, _, rfl, ?_⟩⟩
    dsimp only
    refine seq_cut (fun σ H' => Kp so H H' ∧ Src (B + 14) H' so ∧ ∃ sp wh : Int, σ = [some (.ref so), some (.ref va), some (.int n), some (.int kd), some (.int sp), some (.int wh), none, none]) ?_ (fun hN => ?_)
    · rintro σ H4 ⟨k4, s4, sp, wh, rfl⟩
      have hv4 := hv.mono (hs.tups k4)
      refine ⟨_, rfl, _, _, rfl, rfl, _, rfl, iteD (fun c1 => ?_) fun c1 => ?_⟩
      · exact ⟨_, rfl, line2, fun a ha => h a (.exch sp) _ (k4.trans (Kp.of (Same.new ha))) upd_same trivial ((s4.same (Same.new ha)).mono (by omega))⟩
      refine ⟨_, rfl, _, rfl, so, _, _, t, n, 6, rfl, s4, by omega, hv4, hn, by decide, fun tp row t2 H5 htp k5 h5 lr rr hrun s5 => ?_⟩
      have so5 : tp ≠ so := (s4.ne htp).symm
      have k05 := k4.trans k5
      refine ⟨_, rfl, _, _, rfl, rfl, _, rfl, iteD (fun c2 => ?_) fun c2 => ?_⟩
      · refine ⟨_, rfl, _, rfl, line1, fun l hl => ⟨_, rfl, so, _, _, 2, rfl, s5.same (Same.new hl), by omega, by decide, by decide, by decide, fun r H6 r0 r1 k6 s6 => ⟨rfl, .inr ⟨_, rfl, l, _, _, rfl, rfl, k6 _ _ (s5.ne hl).symm upd_same, (b01N _).1, (b01N _).2.1, ?_, fun p hp => ?_⟩⟩⟩⟩
        · have := (b01N (decide (V.int r = V.int 0))).2.2
          show 1 * _ ≤ _
          omega
        have h6 := k6 _ _ so5 (kp1 h5 hl)
        have q6 : (List.replicate ((if decide (V.int r = V.int 0) = true then (1 : Int) else 0)).toNat [V.int sp]).flatten.length ≤ 1 := by rw [rep01]; cases decide (V.int r = V.int 0) <;> simp
        refine ⟨tp, p, _, _, rfl, rfl, kp1 h6 hp, upd_same, ?_, fun z hz => ?_⟩
        · rw [List.length_map]
          have : row.length + _ ≤ row.length + 1 := Nat.add_le_add_left q6 _
          omega
        have er := catrep row [sp] (decide (V.int r = V.int 0))
        rw [show ([V.int sp] : List V) = [sp].map V.int from rfl, er]
        refine ⟨line2, fun a ha => h a (.run (row ++ if decide (V.int r = V.int 0) = true then [sp] else [])) _ ((((k05.trans (Kp.of (Same.new hl))).trans k6).trans (Kp.of (Same.new hp))).trans (Kp.of ((Same.new hz).trans (Same.new ha)))) ⟨z, upd_same, kp1 upd_same ha⟩ ?_ (((((s6.same (Same.new hp))).same (Same.new hz)).same (Same.new ha)).mono (by omega))⟩
        show (row ++ _).length ≤ 100
        rw [List.length_append]
        have := iflen (b := decide (V.int r = V.int 0)) (xs := [sp])
        simp only [List.length_singleton] at this
        omega
      refine ⟨_, rfl, _, _, rfl, rfl, _, rfl, iteD (fun c3 => ?_) fun c3 => ?_⟩
      · refine ⟨_, rfl, _, rfl, _, rfl, so, _, _, 2, rfl, s5, by omega, by omega, by omega, by decide, fun x H6 x0 x1 k6 s6 => ⟨line1, fun l hl => ⟨_, rfl, so, _, _, 2, rfl, s6.same (Same.new hl), by omega, by decide, by decide, by decide, fun r H7 r0 r1 k7 s7 => ⟨rfl, .inr ⟨_, rfl, l, _, _, rfl, rfl, k7 _ _ (s6.ne hl).symm upd_same, (b01N _).1, (b01N _).2.1, ?_, fun p hp => ?_⟩⟩⟩⟩⟩
        · have := (b01N (decide (V.int r = V.int 0))).2.2
          show 1 * _ ≤ _
          omega
        have k67 : Kp so H5 H7 := (k6.trans (Kp.of (Same.new hl))).trans k7
        have h7 := k67 _ _ so5 h5
        have q7 : (List.replicate ((if decide (V.int r = V.int 0) = true then (1 : Int) else 0)).toNat [V.int x]).flatten.length ≤ 1 := by rw [rep01]; cases decide (V.int r = V.int 0) <;> simp
        refine ⟨tp, p, _, _, rfl, rfl, kp1 h7 hp, upd_same, ?_, fun z hz => ?_⟩
        · rw [List.length_map]
          have : row.length + _ ≤ row.length + 1 := Nat.add_le_add_left q7 _
          omega
        have er := catrep row [x] (decide (V.int r = V.int 0))
        rw [show ([V.int x] : List V) = [x].map V.int from rfl, er]
        have rr2 : ∀ y, y ∈ (row ++ if decide (V.int r = V.int 0) = true then [x] else []) → 0 ≤ y ∧ y < n := fun y hy => by
          rcases List.mem_append.mp hy with hy | hy
          · exact rr y hy
          · rw [List.mem_singleton.mp (ifmem hy)]; exact ⟨x0, x1⟩
        have lr2 : (row ++ if decide (V.int r = V.int 0) = true then [x] else []).length ≤ 7 := by
          rw [List.length_append]
          have := iflen (b := decide (V.int r = V.int 0)) (xs := [x])
          simp only [List.length_singleton] at this
          omega
        have hz8 : upd (upd H7 p (.lst (List.replicate ((if decide (V.int r = V.int 0) = true then (1 : Int) else 0)).toNat ([x].map V.int)).flatten)) z (.lst ((row ++ if decide (V.int r = V.int 0) = true then [x] else []).map V.int)) z = some (.lst ((row ++ if decide (V.int r = V.int 0) = true then [x] else []).map V.int)) := upd_same
        have k8 : Kp so H (upd (upd H7 p (.lst (List.replicate ((if decide (V.int r = V.int 0) = true then (1 : Int) else 0)).toNat ([x].map V.int)).flatten)) z (.lst ((row ++ if decide (V.int r = V.int 0) = true then [x] else []).map V.int))) := (k05.trans k67).trans (Kp.of ((Same.new hp).trans (Same.new hz)))
        have s8 := (s7.same (Same.new (o := .lst (List.replicate ((if decide (V.int r = V.int 0) = true then (1 : Int) else 0)).toNat ([x].map V.int)).flatten) hp)).same (Same.new (o := .lst ((row ++ if decide (V.int r = V.int 0) = true then [x] else []).map V.int)) hz)
        have zso : z ≠ so := ((s7.same (Same.new (o := .lst (List.replicate ((if decide (V.int r = V.int 0) = true then (1 : Int) else 0)).toNat ([x].map V.int)).flatten) hp)).ne hz).symm
        generalize (row ++ if decide (V.int r = V.int 0) = true then [x] else []) = row2 at *
        generalize upd (upd H7 p (.lst (List.replicate ((if decide (V.int r = V.int 0) = true then (1 : Int) else 0)).toNat ([x].map V.int)).flatten)) z (.lst (row2.map V.int)) = H8 at *
        refine ⟨_, rfl, _, rfl, z, _, rfl, SqL.of hz8, fun w1 hw1 => ?_⟩
        rw [← List.map_reverse]
        refine ⟨_, rfl, so, _, _, 2, rfl, s8.same (Same.new hw1), by omega, by decide, by decide, by decide, fun r2 H9 r20 r21 k9 s9 => ⟨rfl, .inr ⟨_, rfl, w1, _, _, rfl, rfl, k9 _ _ (s8.ne hw1).symm upd_same, (b01N _).1, (b01N _).2.1, ?_, fun p2 hp2 => ?_⟩⟩⟩
        · have := (b01N (decide (V.int r2 = V.int 0))).2.2
          rw [List.length_map, List.length_reverse]
          have : row2.length * (if decide (V.int r2 = V.int 0) = true then (1 : Int) else 0).toNat ≤ 7 * 1 := Nat.mul_le_mul lr2 this
          omega
        have h9 := k9 _ _ zso (kp1 hz8 hw1)
        have q9 : (List.replicate ((if decide (V.int r2 = V.int 0) = true then (1 : Int) else 0)).toNat (row2.reverse.map V.int)).flatten.length ≤ 7 := by
          rw [rep01]
          cases decide (V.int r2 = V.int 0)
          · simp
          · simpa using lr2
        refine ⟨z, p2, _, _, rfl, rfl, kp1 h9 hp2, upd_same, ?_, fun z2 hz2 => ?_⟩
        · rw [List.length_map]
          have : row2.length + _ ≤ row2.length + 7 := Nat.add_le_add_left q9 _
          omega
        have er2 := catrep row2 row2.reverse (decide (V.int r2 = V.int 0))
        rw [er2]
        have s10 := (s9.same (Same.new (o := .lst (List.replicate ((if decide (V.int r2 = V.int 0) = true then (1 : Int) else 0)).toNat (row2.reverse.map V.int)).flatten) hp2)).same (Same.new (o := .lst ((row2 ++ if decide (V.int r2 = V.int 0) = true then row2.reverse else []).map V.int)) hz2)
        have zso2 : z2 ≠ so := ((s9.same (Same.new (o := .lst (List.replicate ((if decide (V.int r2 = V.int 0) = true then (1 : Int) else 0)).toNat (row2.reverse.map V.int)).flatten) hp2)).ne hz2).symm
        refine ⟨_, rfl, so, _, _, 2, rfl, s10, by omega, by decide, by decide, by decide, fun k10 H11 k100 k101 kk11 s11 => ⟨line3, fun a ha => h a (.again (row2 ++ if decide (V.int r2 = V.int 0) = true then row2.reverse else []) k10) _ ?_ ⟨z2, upd_same, kp1 (kk11 _ _ zso2 upd_same) ha⟩ ⟨?_, fun y hy => ?_, k100, by omega⟩ ((s11.same (Same.new ha)).mono (by omega))⟩⟩
        · exact ((((k8.trans (Kp.of (Same.new hw1))).trans k9).trans (Kp.of ((Same.new hp2).trans (Same.new hz2)))).trans kk11).trans (Kp.of (Same.new ha))
        · rw [List.length_append]
          have := iflen (b := decide (V.int r2 = V.int 0)) (xs := row2.reverse)
          rw [List.length_reverse] at this
          omega
        · rcases List.mem_append.mp hy with hy | hy
          · exact rr2 y hy
          · exact rr2 y (List.mem_reverse.mp (ifmem hy))
      refine ⟨_, rfl, _, _, rfl, rfl, _, rfl, iteD (fun c4 => ?_) fun c4 => ?_⟩
      · have hv5 := hv.mono (hs.tups k05)
        refine ⟨_, rfl, _, rfl, _, rfl, so, _, _, t, n, 12, rfl, s5, by omega, hv5, hn, by decide, fun tq rowq tg H6 htq k6 h6 lq rq hrq s6 => ?_⟩
        have k06 := k05.trans k6
        refine ⟨_, t, n, tq, rowq, tg, rfl, hv.mono (hs.tups k06), hn, h6, by omega, hrq, fun u H7 e7 hu => ?_⟩
        have s7 := s6.same e7
        have k07 := k06.trans (Kp.of e7)
        have hg := (runq_vd hn hrq).1
        have fin : ∀ (v2 : V) (g : S) (m : Nat) (C : Int) (H' : Hp), Kp so H H' → TD H' v2 (stD g) → Vd m g → m ≤ 8 → Src C H' so → C ≤ B + 500 → ∀ a, H' a = none → Q (.ref a) (upd H' a (.tup [.str "go", v2])) := fun v2 g m C H' k ht hm h8 hs2 hC a ha =>
          h a (.go g) _ (k.trans (Kp.of (Same.new ha))) ⟨v2, upd_same, ht.mono (Same.new ha).tups⟩ ⟨m, h8, hm⟩ ((hs2.same (Same.new ha)).mono (by omega))
        refine ⟨_, rfl, so, _, _, 2, rfl, s7, by omega, by decide, by decide, by decide, fun r H8 r0 r1 k8 s8 => ⟨rfl, _, rfl, ?_⟩⟩
        have hu8 := hu.mono (s7.tups k8)
        by_cases c5 : V.int r = V.int 0
        · refine iteY (decide_eq_true c5) ⟨_, rfl, _, rfl, _, rfl, so, _, _, 2, rfl, s8, by omega, by decide, by decide, by decide, fun r2 H9 r20 r21 k9 s9 => ⟨rfl, .inr ⟨_, rfl, _, _, rfl, rfl, ?_⟩⟩⟩
          have R : ∀ (m : Nat), m ≤ 8 → 2 ≤ m → ∀ (u2 : V) (g : S) (H' : Hp), Kp so H9 H' → TD H' u2 (stD g) → Vd m g → g.2.sum ≤ m * 3 → Src (B + 14 + 30 + 30 + ((2 : Nat) + 1) + ((2 : Nat) + 1) + 100) H' so → ∀ a, H' a = none → Q (.ref a) (upd H' a (.tup [.str "go", u2])) :=
            fun m hm _ u2 g H' k ht hg2 _ hs2 => fin u2 g m _ H' (((k07.trans k8).trans k9).trans k) ht hg2 hm hs2 (by omega)
          generalize decide (V.int r2 = V.int 0) = b2
          cases b2
          · exact ⟨so, _, n, 3, rfl, s9, by omega, n2, by omega, by decide, by decide, fun u2 g H' k ht hg2 hs0 hs2 => ⟨_, rfl, line2, R n (by omega) n2 u2 g H' k ht hg2 hs0 (hs2.mono (by omega))⟩⟩
          · exact ⟨so, _, n + 1, 3, rfl, s9, by omega, by omega, by omega, by decide, by decide, fun u2 g H' k ht hg2 hs0 hs2 => ⟨_, rfl, line2, R (n + 1) (by omega) (by omega) u2 g H' k ht hg2 hs0 (hs2.mono (by omega))⟩⟩
        · refine iteZ (decide_eq_false c5) ⟨_, rfl, line2, fin u tg n _ H8 (k07.trans k8) hu8 hg (by omega) s8 (by omega)⟩
      refine ⟨_, rfl, _, _, rfl, rfl, _, rfl, iteD (fun c6 => ?_) fun c6 => ?_⟩
      · refine ⟨_, rfl, line3, fun l hl => ⟨so, l, _, _, rfl, s5.same (Same.new hl), by omega, upd_same, (s5.ne hl).symm, by show 1 ≤ 3; decide, by show 3 ≤ 100; decide, fun i y H6 hy k6 s6 => ?_⟩⟩
        refine ⟨_, rfl, _, rfl, _, rfl, _, _, rfl, rfl, ⟨by decide, by decide, by decide⟩, line2, fun l2 hl2 => ⟨so, l2, _, _, rfl, s6.same (Same.new hl2), by omega, upd_same, (s6.ne hl2).symm, by show 1 ≤ 2; decide, by show 2 ≤ 100; decide, fun i2 y2 H7 hy2 k7 s7 => ?_⟩⟩
        have kk : Kp so H H7 := (((k05.trans (Kp.of (Same.new hl))).trans k6).trans (Kp.of (Same.new hl2))).trans k7
        have hb : ∃ bd : Int, y2 = .int bd ∧ 1 ≤ bd ∧ bd ≤ 10 ^ 20 := by
          rcases int2 hy2 with rfl | rfl
          · exact ⟨4, rfl, by decide, by decide⟩
          · exact ⟨_, rfl, by decide, by decide⟩
        obtain ⟨bd, rfl, bd1, bd2⟩ := hb
        refine ⟨so, _, _, 2, rfl, s7, by omega, bd1, Int.le_trans bd2 (by decide), by decide, fun c H8 c0 c1 k8 s8 => ⟨line3, fun a ha => ?_⟩⟩
        have kA := (kk.trans k8).trans (Kp.of (Same.new (o := .tup [y, .int wh, .int c]) ha))
        have sA := (s8.same (Same.new (o := .tup [y, .int wh, .int c]) ha)).mono (C := B + 1000) (by omega)
        rcases gv3 hy with rfl | rfl
        · exact h a (.give wh c) _ kA upd_same ⟨c0, by omega⟩ sA
        · exact h a (.take wh c) _ kA upd_same ⟨c0, by omega⟩ sA
      · have fl : ∀ a, H5 a = none → Q (.ref a) (upd H5 a (.tup [.str "leave", .int wh])) := fun a ha => h a (.leave wh) _ (k05.trans (Kp.of (Same.new ha))) upd_same trivial ((s5.same (Same.new ha)).mono (by omega))
        refine ⟨_, rfl, _, _, rfl, rfl, _, rfl, iteD (fun c7 => ⟨_, rfl, _, _, rfl, rfl, _, rfl, iteD (fun c8 => ?_) fun c8 => ⟨_, rfl, line2, fl⟩⟩) fun c7 => iteZ rfl ⟨_, rfl, line2, fl⟩⟩
        refine ⟨_, rfl, _, rfl, _, _, rfl, rfl, ⟨by decide, by decide, by decide⟩, line2, fun l2 hl2 => ⟨so, l2, _, _, rfl, s5.same (Same.new hl2), by omega, upd_same, (s5.ne hl2).symm, by show 1 ≤ 2; decide, by show 2 ≤ 100; decide, fun i2 y2 H7 hy2 k7 s7 => ?_⟩⟩
        have kk : Kp so H H7 := (k05.trans (Kp.of (Same.new hl2))).trans k7
        have hb : ∃ bd : Int, y2 = .int bd ∧ 1 ≤ bd ∧ bd ≤ 10 ^ 20 := by
          rcases int2 hy2 with rfl | rfl
          · exact ⟨4, rfl, by decide, by decide⟩
          · exact ⟨_, rfl, by decide, by decide⟩
        obtain ⟨bd, rfl, bd1, bd2⟩ := hb
        exact ⟨so, _, _, 2, rfl, s7, by omega, bd1, Int.le_trans bd2 (by decide), by decide, fun c H8 c0 c1 k8 s8 => ⟨line2, fun a ha => h a (.come c) _ ((kk.trans k8).trans (Kp.of (Same.new ha))) upd_same ⟨by omega, c0, by omega⟩ ((s8.same (Same.new ha)).mono (by omega))⟩⟩
    · refine ⟨_, rfl, so, _, _, 2, rfl, s3, by omega, by decide, by decide, by decide, fun r H4 r0 r1 k4 s4 => ⟨rfl, _, rfl, ?_⟩⟩
      have k04 := ((k1.trans k2).trans k3).trans k4
      by_cases c : V.int r = V.int 0
      · refine iteY (decide_eq_true c) ?_
        refine ⟨_, rfl, _, rfl, _, rfl, _, rfl, _, _, rfl, rfl, line3, fun l hl => ⟨so, l, _, _, rfl, s4.same (Same.new hl), by omega, upd_same, (s4.ne hl).symm, by show 1 ≤ 3; decide, by show 3 ≤ 100; decide, fun i1 y1 H5 hy1 k5 s5 => ?_⟩⟩
        refine ⟨_, rfl, _, rfl, _, rfl, line3, fun l2 hl2 => ⟨so, l2, _, _, rfl, s5.same (Same.new hl2), by omega, upd_same, (s5.ne hl2).symm, by show 1 ≤ 3; decide, by show 3 ≤ 100; decide, fun i2 y2 H6 hy2 k6 s6 => ⟨_, _, rfl, ?_⟩⟩⟩
        obtain ⟨z1, rfl⟩ := int3 hy1
        obtain ⟨z2, rfl⟩ := int3 hy2
        exact hN _ _ ⟨(((k04.trans (Kp.of (Same.new hl))).trans k5).trans (Kp.of (Same.new hl2))).trans k6, s6.mono (by omega), z1, z2, by rw [ln]; rfl⟩
      · exact iteZ (decide_eq_false c) (hN _ _ ⟨k04, s4.mono (by omega), sp0, wh0, by rw [ln]; rfl⟩)
end
end Tr
end
section
set_option Elab.async false
set_option linter.all false
set_option maxRecDepth 100000
set_option maxHeartbeats 4000000
/-! a set made of a list of states that are all the same -/
namespace Tr
open PySem PySem.Spec PyProof.Rows L2
section
variable {P : Program} {w : World} {A : Around} {E : Value → Shared → Prop} {s : Shared}
/-- at b the state t -/
def N2 (P : Program) (w : World) (h : Heap) (t : S) (b : Addr) : Prop := ∃ o vs n b1 b2, h.get? b = some o ∧ o.cls = .type "tuple" ∧ o.data = .seq vs n ∧ vs.toList = [.ref b1, .ref b2] ∧ IsT P w h t.1 b1 ∧ IsT P w h t.2 b2
def kS (t : S) : NestedKey := .tup [.tup (t.1.map .num), .tup (t.2.map .num)]
theorem N2.keep {h h' : Heap} {t : S} {b : Addr} (x : N2 P w h t b) (k : ∀ c o, h.get? c = some o → h'.get? c = some o) : N2 P w h' t b := by
  obtain ⟨o, vs, n, b1, b2, h1, h2, h3, h4, h5, h6⟩ := x
  exact ⟨o, vs, n, b1, b2, k _ _ h1, h2, h3, h4, isT_keep h5 k, isT_keep h6 k⟩
theorem N2.but {h h' : Heap} {t : S} {a b : Addr} {o : Obj} {es : Array (Int × Value)} {ep : Nat} {tb : SetTable} (x : N2 P w h t b) (ho : h.get? a = some o) (hd : o.data = .set es ep tb) (hs : Heap.SameBut a h h') : N2 P w h' t b := by
  obtain ⟨u, vs, n, b1, b2, h1, h2, h3, h4, h5, h6⟩ := x
  refine ⟨u, vs, n, b1, b2, (hs.2 b fun z => ?_).trans h1, h2, h3, h4, isT_same h5 ho hd hs, isT_same h6 ho hd hs⟩
  rw [z, ho] at h1
  cases h1
  rw [hd] at h3
  cases h3
theorem all_num {h : Heap} {k : List Int} {vs : List Value} (x : ItemsAre (intKind P w) k vs) : NestedAll h (k.map .num) vs := by
  induction x with
  | nil => exact .nil
  | @cons k0 v ks vs h1 _ ih =>
    obtain ⟨t, e⟩ := Value.isInt_shape h1
    subst e
    exact .cons (.int _ _) ih
theorem dep_num (k : List Int) : NestedKey.depthAll (k.map .num) ≤ 1 := by
  induction k with
  | nil => exact Nat.zero_le _
  | cons a k ih =>
    show max (NestedKey.depth (.num a)) (NestedKey.depthAll (k.map .num)) ≤ 1
    have : NestedKey.depth (.num a) ≤ 1 := by simp [NestedKey.depth]
    omega
theorem IsT.nest {h : Heap} {k : List Int} {b : Addr} (x : IsT P w h k b) : NestedIs h (.tup (k.map .num)) (.ref b) := by
  obtain ⟨o, vs, n, h1, h2, h3, h4⟩ := x
  exact .tup h1 h2 h3 (all_num h4)
theorem N2.is {h : Heap} {t : S} {b : Addr} (x : N2 P w h t b) : (nestedKind P w).is h (kS t) b := by
  obtain ⟨o, vs, n, b1, b2, h1, h2, h3, h4, h5, h6⟩ := x
  refine ⟨.tup h1 h2 h3 ?_, ?_⟩
  · rw [h4]
    exact .cons (IsT.nest h5) (.cons (IsT.nest h6) .nil)
  · have d1 := dep_num t.1
    have d2 := dep_num t.2
    show max (NestedKey.depthAll (t.1.map .num) + 1) (max (NestedKey.depthAll (t.2.map .num) + 1) 0) + 1 ≤ 8
    omega
theorem N2.typ {t : S} {b : Addr} (x : N2 P w s.heap t b) : s.TypeIs (.ref b) "tuple" := by
  obtain ⟨o, vs, n, b1, b2, h1, h2, _⟩ := x
  exact ⟨o, h1, h2⟩
/-! what the set asks of its items -/
theorem ofA_step {n m : Nat} {b : Addr} {o : Obj} {vs : Array Value} {Q : Bool → Shared → Prop} (ho : s.heap.get? b = some o) (hT : s.TypeIs (.ref b) "tuple") (hd : o.data = .seq vs m)
    (hall : ∀ v, v ∈ vs.toList → ∀ Q' : Bool → Shared → Prop, Q' false s → wpAny (model P w) A (ofAClassStatement n v) Q' E s) (h : Q false s) : wpAny (model P w) A (ofAClassStatement (n + 1) (.ref b)) Q E s := by
  unfold ofAClassStatement
  refine wpAny_bind (wpAny_typeOf hT ?_)
  dsimp only
  have e : (("tuple" : String) == "tuple") = true := by decide
  simp only [e, if_true, Bool.not_true, Bool.false_eq_true, if_false]
  try refine wpAny_bind (wpAny_pure ?_)
  try simp only [Bool.not_true, Bool.false_eq_true, if_false]
  change wpAny _ _ (seqItems? (.ref b) >>= _) _ _ s
  refine wpAny_bind (wpAny_seqItems ho hd ?_)
  dsimp only
  refine wpAny_bind ?_
  change wpAny _ _ (forIn vs _ _) _ _ s
  rw [← Array.forIn_toList]
  refine wpAny_forIn_list _ (fun rest r s' => r.1 = none ∧ s' = s ∧ ∀ v, v ∈ rest → v ∈ vs.toList) _ ?_ ?_ _ _ ⟨rfl, rfl, fun _ z => z⟩
  · rintro v rest r s' ⟨hr, rfl, hm⟩
    refine wpAny_bind (hall v (hm v (by simp)) _ ?_)
    simp only [Bool.false_eq_true, if_false]
    exact wpAny_pure ⟨rfl, rfl, fun u hu => hm u (by simp [hu])⟩
  · rintro ⟨r1, r2⟩ s' ⟨hr, rfl, _⟩
    simp only at hr
    subst hr
    exact wpAny_pure h
theorem hby_step {n m : Nat} {b : Addr} {o : Obj} {vs : Array Value} {Q : Bool → Shared → Prop} (ho : s.heap.get? b = some o) (hT : s.TypeIs (.ref b) "tuple") (hd : o.data = .seq vs m)
    (hall : ∀ v, v ∈ vs.toList → ∀ Q' : Bool → Shared → Prop, Q' true s → wpAny (model P w) A (hashByValue n v) Q' E s) (h : Q true s) : wpAny (model P w) A (hashByValue (n + 1) (.ref b)) Q E s := by
  unfold hashByValue
  refine wpAny_bind (wpAny_specialOf hT F.slot_tuple_hash.lookup ?_)
  change wpAny _ _ (seqItems? (.ref b) >>= _) _ _ s
  refine wpAny_bind (wpAny_seqItems ho hd ?_)
  refine wpAny_bind ?_
  change wpAny _ _ (forIn vs _ _) _ _ s
  rw [← Array.forIn_toList]
  refine wpAny_forIn_list _ (fun rest r s' => r.1 = none ∧ s' = s ∧ ∀ v, v ∈ rest → v ∈ vs.toList) _ ?_ ?_ _ _ ⟨rfl, rfl, fun _ z => z⟩
  · rintro v rest r s' ⟨hr, rfl, hm⟩
    refine wpAny_bind (hall v (hm v (by simp)) _ ?_)
    simp only [Bool.not_true, Bool.false_eq_true, if_false]
    exact wpAny_pure ⟨rfl, rfl, fun u hu => hm u (by simp [hu])⟩
  · rintro ⟨r1, r2⟩ s' ⟨hr, rfl, _⟩
    simp only at hr
    subst hr
    exact wpAny_pure h
theorem isT_ofA {n : Nat} {k : List Int} {b : Addr} {Q : Bool → Shared → Prop} (x : IsT P w s.heap k b) (h : Q false s) : wpAny (model P w) A (ofAClassStatement (n + 1) (.ref b)) Q E s := by
  have hT := x.typeIs
  obtain ⟨o, vs, m, ho, _, hd, hi⟩ := x
  refine ofA_step ho hT hd (fun v hv Q' q => ?_) h
  obtain ⟨i, t, rfl⟩ := items_int hi v hv
  rw [ofAClass_int]
  exact wpAny_pure q
theorem isT_hby {n : Nat} {k : List Int} {b : Addr} {Q : Bool → Shared → Prop} (x : IsT P w s.heap k b) (h : Q true s) : wpAny (model P w) A (hashByValue (n + 1) (.ref b)) Q E s := by
  have hT := x.typeIs
  obtain ⟨o, vs, m, ho, _, hd, hi⟩ := x
  refine hby_step ho hT hd (fun v hv Q' q => ?_) h
  obtain ⟨i, t, rfl⟩ := items_int hi v hv
  rw [hashBy_int]
  exact wpAny_pure q
theorem N2.ofA {t : S} {b : Addr} {Q : Bool → Shared → Prop} (x : N2 P w s.heap t b) (h : Q false s) : wpAny (model P w) A (ofAClassStatement 8 (.ref b)) Q E s := by
  have hT := x.typ
  obtain ⟨o, vs, n, b1, b2, h1, h2, h3, h4, h5, h6⟩ := x
  refine ofA_step h1 hT h3 (fun v hv Q' q => ?_) h
  rw [h4] at hv
  rcases List.mem_cons.mp hv with rfl | hv
  · exact isT_ofA h5 q
  · rw [List.mem_singleton.mp hv]
    exact isT_ofA h6 q
theorem N2.hby {t : S} {b : Addr} {Q : Bool → Shared → Prop} (x : N2 P w s.heap t b) (h : Q true s) : wpAny (model P w) A (hashByValue 8 (.ref b)) Q E s := by
  have hT := x.typ
  obtain ⟨o, vs, n, b1, b2, h1, h2, h3, h4, h5, h6⟩ := x
  refine hby_step h1 hT h3 (fun v hv Q' q => ?_) h
  rw [h4] at hv
  rcases List.mem_cons.mp hv with rfl | hv
  · exact isT_hby h5 q
  · rw [List.mem_singleton.mp hv]
    exact isT_hby h6 q
theorem N2.seen {t : S} {b c : Addr} {Q : Bool → Shared → Prop} (x : N2 P w s.heap t b) (y : N2 P w s.heap t c) {ys : List Value} (hy : ∀ v, v ∈ ys → v = .ref c) (h : Q false s) : wpAny (model P w) A (searchCouldBeSeen (.ref b) ys) Q E s := by
  unfold searchCouldBeSeen
  refine wpAny_bind ?_
  refine wpAny_forIn_list _ (fun rest r s' => r.1 = none ∧ s' = s ∧ ∀ v, v ∈ rest → v = .ref c) _ ?_ ?_ _ _ ⟨rfl, rfl, hy⟩
  · rintro v rest r s' ⟨hr, rfl, hall⟩
    obtain rfl := hall v (by simp)
    have rest' : ∀ u, u ∈ rest → u = Value.ref c := fun u hu => hall u (by simp [hu])
    dsimp only
    by_cases hv : (b == c || (carriedByValue (.ref b) && carriedByValue (.ref c))) = true
    · exact wp_if_pos hv (wpAny_pure ⟨rfl, rfl, rest'⟩)
    · refine wp_if_neg hv (wpAny_bind ((nestedKind P w).quiet x.is ?_))
      simp only [Bool.not_true, Bool.false_eq_true, if_false]
      refine wpAny_bind ((nestedKind P w).quiet y.is ?_)
      simp only [Bool.not_true, Bool.false_eq_true, if_false]
      refine wpAny_bind (x.ofA ?_)
      simp only [Bool.false_eq_true, if_false]
      refine wpAny_bind (y.ofA ?_)
      simp only [Bool.false_eq_true, if_false]
      exact wpAny_pure ⟨rfl, rfl, rest'⟩
  · rintro ⟨r1, r2⟩ s' ⟨hr, rfl, _⟩
    simp only at hr
    subst hr
    exact wpAny_pure h
/-- the set at a, of one thing at x, or of none -/
def Zer (h : Heap) (a : Addr) : Prop := ∃ o ep t, h.get? a = some o ∧ o.ExactSet ∧ o.data = .set #[] ep t ∧ TabOk t [] ∧ t.mask = 7 ∧ t.plain = true
def One (h : Heap) (a x : Addr) (hv : Int) : Prop := ∃ o ep t, h.get? a = some o ∧ o.ExactSet ∧ o.data = .set #[(hv, .ref x)] ep t ∧ TabOk t [hv] ∧ t.mask = 7
theorem zer_tab {l : Bool} : TabOk (.fresh 0 0 l) [] := ⟨List.Pairwise.nil, rfl, rfl, .inl rfl, fun x hx => (by cases hx), fun i h j hi => (by cases hi)⟩
theorem Zer.new {h : Heap} {a : Addr} (ho : h.get? a = some { cls := .type "set", dict := none, data := .set #[] 0 (.fresh 0 0 (!w.params.followText "set-order")) }) : Zer h a := ⟨_, _, _, ho, ⟨rfl, rfl, rfl⟩, rfl, zer_tab, rfl, rfl⟩
theorem Zer.fits {t : SetTable} (T : TabOk t []) (m : t.mask = 7) : t.fits 0 = true := by
  have h1 := T.sz
  unfold SetTable.fits SetTable.fill
  rw [T.dm, Bool.and_eq_true, beq_iff_eq, decide_eq_true_eq]
  change t.place.size = 0 ∧ t.place.size + 0 ≤ t.mask
  rw [h1, m]
  exact ⟨rfl, by show 0 ≤ 7; decide⟩
theorem One.fits {t : SetTable} {hv : Int} (T : TabOk t [hv]) (m : t.mask = 7) : t.fits 1 = true := by
  have h1 := T.sz
  unfold SetTable.fits SetTable.fill
  rw [T.dm, Bool.and_eq_true, beq_iff_eq, decide_eq_true_eq]
  change t.place.size = 1 ∧ t.place.size + 0 ≤ t.mask
  rw [h1, m]
  exact ⟨rfl, by show 1 ≤ 7; decide⟩
theorem gw7 {t : SetTable} (m : t.mask = 7) : ¬ t.gaveWay = true := by
  unfold SetTable.gaveWay
  rw [m]
  decide
/-- the first is put in -/
theorem add_zer {a x : Addr} {t : S} {Q : Bool → Shared → Prop} (ho : Zer s.heap a) (hx : N2 P w s.heap t x) (hQ : ∀ h', Heap.SameBut a s.heap h' → One h' a x ((kS t).hash w) → Q true { s with heap := h' }) :
    wpAny (model P w) A (setAddHashed a (.ref x) ((kS t).hash w)) Q E s := by
  generalize (kS t).hash w = hv at *
  obtain ⟨o, ep, tb, ho, hex, hd, T, m, pln⟩ := ho
  have hf : tb.fits (#[] : Array (Int × Value)).size = true := Zer.fits T m
  have pl : tb.place.toList.length = 0 := T.sz
  have srch : ∀ Q' : SetFound → Shared → Prop, (∀ K, way tb.mask hv K ∉ tb.place.toList → (∀ k, k < K → way tb.mask hv k ∈ tb.place.toList) → Q' (.free (way tb.mask hv K) false) s) → wpAny (model P w) A (setSearch a (.ref x) hv true) Q' E s := fun Q' q => by
    obtain ⟨K, hKf, hK, hKb⟩ := T.first (by rw [m]; exact Nat.zero_le _) hv
    suffices gen : ∀ f, wpAny (model P w) A (setSearchFrom a (.ref x) hv true (f + 1) none) Q' E s from by
      unfold setSearch
      exact gen 99999
    intro f
    rw [setSearchFrom_succ]
    refine wpAny_bind (wpAny_setState_of ho hd hf ?_)
    dsimp only
    refine wp_if_neg (gw7 m) ?_
    try refine wpAny_bind (wpAny_pure ?_)
    have spec := go_spec tb T.ris T.dm (fun i => ((#[] : Array (Int × Value))[i]?.map (·.1)).getD 0) hv (10 * SetTable.turns tb.mask) K (runAt tb.mask (SetTable.bits hv % (tb.mask + 1)) (SetTable.bits hv)) rfl hKf hKb hK
    rcases spec with ⟨k, i, hk, hi, _⟩ | ⟨_, hp⟩
    · have := (List.getElem?_eq_some_iff.mp hi).1
      omega
    · have hp' : tb.probe (fun i => ((#[] : Array (Int × Value))[i]?.map (·.1)).getD 0) hv ((none : Option SetTable.Probe).getD (tb.probeStart hv)) = some (.empty (way tb.mask hv K) none) := hp
      rw [hp']
      dsimp only
      exact wpAny_pure (q K hK hKb)
  unfold setAddHashed
  refine wpAny_holding ?_
  rw [show (100000 : Nat) = 99999 + 1 from rfl, setAddHashedIn_succ]
  refine wpAny_bind (wpAny_setState_of ho hd hf ?_)
  dsimp only
  refine wp_if_neg (by simp [byScan, Value.scannable]) ?_
  try refine wpAny_bind (wpAny_pure ?_)
  refine wpAny_bind (srch _ fun K hK hKb => ?_)
  dsimp only
  refine wpAny_bind (wpAny_setState_of ho hd hf ?_)
  dsimp only
  obtain ⟨q1, q2, q3, q4, q5, q6, q7, q8, q9⟩ := T.put hK hKb
  have hp1 : (tb.put (way tb.mask hv K)).1.plain = true := by rw [q6]; exact pln
  generalize hpt : tb.put (way tb.mask hv K) = pt at q1 q3 q4 q5 q6 q7 q8 q9 hp1 ⊢
  obtain ⟨t1, p⟩ := pt
  dsimp only at q1 q3 q4 q5 q6 q7 q8 q9 hp1 ⊢
  rw [← q1] at q2 q3
  have p0 : p = 0 := Nat.le_zero.mp q2
  subst p0
  first
    | (refine wpAny_bind ?_; refine wp_if_pos hp1 ?_; refine hx.hby ?_)
    | refine wp_if_pos hp1 (wpAny_bind (hx.hby ?_))
  simp only [if_true]
  have hin : SetTable.insertAt (#[] : Array (Int × Value)) 0 (hv, Value.ref x) = #[(hv, .ref x)] := by
    apply Array.ext'
    rw [SetTable.toList_insertAt]
    rfl
  rw [hin]
  refine wpAny_bind (wpAny_storeSet_of ho hd ?_ (by rw [sizeLine_eq]; change 1 ≤ _; decide))
  have sb : Heap.SameBut a s.heap (s.heap.update a (Obj.putSet #[(hv, Value.ref x)] t1)) := Heap.SameBut.update ..
  have ho1 := store_at (es' := #[(hv, Value.ref x)]) (t' := t1) ho hd
  have m1 : t1.mask = 7 := q4.trans m
  have T1 : TabOk t1 [hv] := q3
  have nf : ¬ t1.tooFull = true := by
    unfold SetTable.tooFull
    rw [decide_eq_true_eq, q9, m1]
    show ¬ (0 + 1) * 5 ≥ 7 * 3
    decide
  generalize s.heap.update a (Obj.putSet #[(hv, Value.ref x)] t1) = h1 at sb ho1 ⊢
  first
    | refine wp_if_neg (by simp [nf]) ?_
    | (refine wpAny_bind ?_; refine wp_if_neg (by simp [nf]) ?_; refine wpAny_pure ?_)
  exact wpAny_pure (hQ h1 sb ⟨_, _, t1, ho1, ⟨hex.1, hex.2.1, hex.2.2⟩, rfl, T1, m1⟩)
/-- another one, equal to it, is found -/
theorem find_one {a x y : Addr} {t : S} {hv : Int} {Q : SetFound → Shared → Prop} (ho : One s.heap a x hv) (hx : N2 P w s.heap t x) (hy : N2 P w s.heap t y) (hu : A.units + 8 < cLine) (hQ : Q (.there none) s) (f : Nat) :
    wpAny (model P w) A (setSearchFrom a (.ref y) hv true (f + 1) none) Q E s := by
  obtain ⟨o, ep, tb, ho, hex, hd, T, m⟩ := ho
  have hf : tb.fits (#[(hv, Value.ref x)] : Array (Int × Value)).size = true := One.fits T m
  obtain ⟨K, hKf, hK, hKb⟩ := T.first (by rw [m]; show 1 ≤ 7; decide) hv
  rw [setSearchFrom_succ]
  refine wpAny_bind (wpAny_setState_of ho hd hf ?_)
  dsimp only
  refine wp_if_neg (gw7 m) ?_
  try refine wpAny_bind (wpAny_pure ?_)
  have spec := go_spec tb T.ris T.dm (fun i => ((#[(hv, Value.ref x)] : Array (Int × Value))[i]?.map (·.1)).getD 0) hv (10 * SetTable.turns tb.mask) K (runAt tb.mask (SetTable.bits hv % (tb.mask + 1)) (SetTable.bits hv)) rfl hKf hKb hK
  have pl : tb.place.toList.length = 1 := T.sz
  rcases spec with ⟨k, i, hk, hi, _, _, hp⟩ | ⟨hno, hp⟩
  · have i0 : i = 0 := by
      have := (List.getElem?_eq_some_iff.mp hi).1
      omega
    subst i0
    have hp' : tb.probe (fun i => ((#[(hv, Value.ref x)] : Array (Int × Value))[i]?.map (·.1)).getD 0) hv ((none : Option SetTable.Probe).getD (tb.probeStart hv)) = some (.candidate (nth tb.mask (runAt tb.mask (SetTable.bits hv % (tb.mask + 1)) (SetTable.bits hv)) k).j 0 (nth tb.mask (runAt tb.mask (SetTable.bits hv % (tb.mask + 1)) (SetTable.bits hv)) (k + 1))) := hp
    rw [hp']
    dsimp only
    have rest : wpAny (model P w) A (searchRest a (.ref y) hv true f #[(hv, Value.ref x)] tb (nth tb.mask (runAt tb.mask (SetTable.bits hv % (tb.mask + 1)) (SetTable.bits hv)) k).j 0 (nth tb.mask (runAt tb.mask (SetTable.bits hv % (tb.mask + 1)) (SetTable.bits hv)) (k + 1))) Q E s := by
      unfold searchRest
      have e0 : (#[(hv, Value.ref x)] : Array (Int × Value))[0]? = some (hv, .ref x) := rfl
      rw [e0]
      dsimp only
      refine wpAny_bind (wpAny_holding ((nestedKind P w).eqBool hu hx.is hy.is ?_))
      refine wpAny_bind (wpAny_setState_of ho hd hf ?_)
      dsimp only
      exact wp_if_pos (by simp) (wpAny_pure hQ)
    by_cases hl : tb.led = true
    · refine wp_if_neg (by simp [hl]) ?_
      try refine wpAny_bind (wpAny_pure ?_)
      exact rest
    · refine wp_if_pos (by simp [hl]) (wpAny_bind (hy.seen hx (fun v hv2 => ?_) ?_))
      · obtain ⟨e, he, ee⟩ := List.mem_map.mp hv2
        have he1 : e = (hv, Value.ref x) := by simpa using he
        rw [← ee, he1]
      · refine wp_if_neg (by decide) ?_
        try refine wpAny_bind (wpAny_pure ?_)
        exact rest
  · exfalso
    obtain ⟨j, hj⟩ : ∃ j, tb.place.toList[0]? = some j := by
      cases h : tb.place.toList with
      | nil => rw [h] at pl; cases pl
      | cons j l => exact ⟨j, rfl⟩
    obtain ⟨k, hk, e⟩ := T.before hK (i := 0) rfl hj
    exact hno k 0 hk (by rw [hj]; exact congrArg some e.symm) rfl
theorem add_one {a x y : Addr} {t : S} {Q : Bool → Shared → Prop} (ho : One s.heap a x ((kS t).hash w)) (hx : N2 P w s.heap t x) (hy : N2 P w s.heap t y) (hu : A.units + 8 < cLine) (hQ : Q false s) :
    wpAny (model P w) A (setAddHashed a (.ref y) ((kS t).hash w)) Q E s := by
  have h1 := ho
  obtain ⟨o, ep, tb, ho, hex, hd, T, m⟩ := ho
  have hf : tb.fits (#[((kS t).hash w, Value.ref x)] : Array (Int × Value)).size = true := One.fits T m
  unfold setAddHashed
  refine wpAny_holding ?_
  rw [show (100000 : Nat) = 99999 + 1 from rfl, setAddHashedIn_succ]
  refine wpAny_bind (wpAny_setState_of ho hd hf ?_)
  dsimp only
  refine wp_if_neg (by simp [byScan, Value.scannable]) ?_
  try refine wpAny_bind (wpAny_pure ?_)
  refine wpAny_bind ?_
  unfold setSearch
  refine find_one h1 hx hy hu ?_ 99999
  exact wpAny_pure hQ
end
end Tr
end
section
set_option Elab.async false
set_option linter.all false
set_option maxRecDepth 100000
set_option maxHeartbeats 4000000
/-! set(xs), all of xs the same state; its length -/
namespace Tr
open PySem PySem.Spec PyProof.Rows L2
section
variable {P : Program} {w : World} {A : Around} {E : Value → Shared → Prop} {s : Shared}
/-- what the set has of the first i -/
def Gt (h : Heap) (a : Addr) (hv : Int) (xs : List Addr) (i : Nat) : Prop := (i = 0 ∧ Zer h a) ∨ (1 ≤ i ∧ ∃ x0, x0 ∈ xs ∧ One h a x0 hv)
theorem Gt.keep {h h' : Heap} {a : Addr} {hv : Int} {xs : List Addr} {i : Nat} (g : Gt h a hv xs i) (k : ∀ o, h.get? a = some o → h'.get? a = some o) : Gt h' a hv xs i := by
  rcases g with ⟨hi, o, ep, t, h1, h2⟩ | ⟨hi, x0, hx, o, ep, t, h1, h2⟩
  · exact .inl ⟨hi, o, ep, t, k _ h1, h2⟩
  · exact .inr ⟨hi, x0, hx, o, ep, t, k _ h1, h2⟩
/-- one more -/
theorem add_gt {a x : Addr} {t : S} {xs : List Addr} {i : Nat} {Q : Bool → Shared → Prop} (g : Gt s.heap a ((kS t).hash w) xs i) (hm : x ∈ xs) (hall : ∀ y, y ∈ xs → N2 P w s.heap t y) (hu : A.units + 8 < cLine)
    (hQ : ∀ b h', Heap.SameBut a s.heap h' → Gt h' a ((kS t).hash w) xs (i + 1) → Q b { s with heap := h' }) : wpAny (model P w) A (setAddHashed a (.ref x) ((kS t).hash w)) Q E s := by
  rcases g with ⟨hi, z⟩ | ⟨hi, x0, hx0, o⟩
  · exact add_zer z (hall x hm) fun h' sb o => hQ true h' sb (.inr ⟨by omega, x, hm, o⟩)
  · exact add_one o (hall x0 hx0) (hall x hm) hu (hQ false s.heap (Heap.SameBut.refl a s.heap) (.inr ⟨by omega, x0, hx0, o⟩))
theorem upd_loop {I : Addr} {fp wr : List Addr} {G : Array GenState → Array GenState → Prop} {n : Nat} {Pv : Nat → Value → Prop} {St : Nat → Shared → Prop} {R : Result → Shared → Prop} {t : S}
    (W : WalksS P w A.in1 I fp wr G n Pv St) (S0 : Addr) (hSf : S0 ∉ fp) (xs : List Addr) (hval : ∀ i v, Pv i v → ∃ x, x ∈ xs ∧ v = .ref x)
    (h0 : Heap) (hk : ∀ x, x ∈ xs → N2 P w h0 t x) (hS0 : h0.get? S0 = none) (hw0 : ∀ b, b ∈ wr → h0.get? b = none) (hu : A.in1.units + 8 < cLine) :
    ∀ (k i : Nat) (s : Shared), n - i = k → i ≤ n → St i s → (∀ b o, h0.get? b = some o → s.heap.get? b = some o) → Gt s.heap S0 ((kS t).hash w) xs i →
      (∀ s', Moved (S0 :: wr) G s s' → Gt s'.heap S0 ((kS t).hash w) xs n → (∀ b o, h0.get? b = some o → s'.heap.get? b = some o) → R (.ok (.ret .none)) s') →
      codeAny (model P w) A (.builtin "set.update.loop" ⟨[.ref S0, .ref I], []⟩) R s := by
  have hSw : S0 ∉ wr := fun h => hSf (W.sub _ h)
  have hsub : ∀ b, b ∈ wr → b ∈ S0 :: wr := fun b hb => List.mem_cons_of_mem _ hb
  have keepM : ∀ {s s' : Shared}, Moved wr G s s' → (∀ b o, h0.get? b = some o → s.heap.get? b = some o) → ∀ b o, h0.get? b = some o → s'.heap.get? b = some o := fun hm hkp b o e =>
    hm.heap b o (fun hb => by rw [hw0 b hb] at e; cases e) (hkp b o e)
  intro k
  induction k with
  | zero =>
    intro i s hk' hi hst hkp g hR
    obtain rfl : i = n := by omega
    refine codeAny_builtin F.entry_set_update_loop ?_
    rw [Around.under_plainId F.plain_set_update_loop _]
    change wpAny _ A.in1 (pyNext (.ref I) >>= _) _ _ s
    refine wpAny_bind (W.done s _ _ hst fun s' hm => ?_)
    change wpAny _ A.in1 (ret Value.none) _ _ s'
    exact wpAny_pure (hR s' (hm.mono hsub) (g.keep fun o e => hm.heap S0 o hSw e) (keepM hm hkp))
  | succ k ih =>
    intro i s hk' hi hst hkp g hR
    have hlt : i < n := by omega
    refine codeAny_builtin F.entry_set_update_loop ?_
    rw [Around.under_plainId F.plain_set_update_loop _]
    change wpAny _ A.in1 (pyNext (.ref I) >>= _) _ _ s
    refine wpAny_bind (W.item i s _ _ hlt hst fun v s' hP hst' hm => ?_)
    obtain ⟨x, hx, rfl⟩ := hval i v hP
    have hkp' := keepM hm hkp
    have g' : Gt s'.heap S0 ((kS t).hash w) xs i := g.keep fun o e => hm.heap S0 o hSw e
    have hall : ∀ y, y ∈ xs → N2 P w s'.heap t y := fun y hy => (hk y hy).keep hkp'
    change wpAny _ A.in1 (holding [Value.ref x] (setAdd S0 (.ref x)) >>= _) _ _ s'
    refine wpAny_bind (wpAny_holding ?_)
    unfold setAdd
    refine wpAny_holding (wpAny_bind ((nestedKind P w).pyHash hu (hall x hx).is ?_))
    refine add_gt (s := { s' with toks := s'.toks + (nestedKind P w).draws (kS t) }) g' hx hall hu fun b h' hsb g2 => ?_
    have hkp2 : ∀ b o, h0.get? b = some o → h'.get? b = some o := fun b o e => (hsb.2 b (fun z => by rw [z, hS0] at e; cases e)).trans (hkp' b o e)
    refine wpAny_pure ⟨plainId_quiet F.plain_set_update_loop _, ih (i + 1) _ (by omega) hlt (W.frame _ s' _ _ hst' (Nat.le_add_right _ _) fun b hb o e => ?_) hkp2 g2 fun s'' hm'' g'' hkp'' => ?_⟩
    · rw [hsb.2 b (fun h : b = S0 => hSf (by rw [← h]; exact hb))]
      exact e
    · refine hR s'' (Moved.trans W.gtrans ((hm.mono hsub).then_heap (Nat.le_add_right _ _) fun b o hb e => ?_) hm'') g'' hkp''
      rw [hsb.2 b (fun h : b = S0 => hb (by rw [h]; exact List.mem_cons_self))]
      exact e
set_option maxHeartbeats 8000000 in
theorem call_setN {l : Addr} {items : Array Value} {t : S} (xs : List Addr) {Q : Value → Shared → Prop} (hh : A.handled = none) (hl : s.heap.IsList l items) (hit : items.toList = xs.map Value.ref) (hne : xs ≠ [])
    (hk : ∀ x, x ∈ xs → N2 P w s.heap t x) (hu : A.units + 16 < cLine)
    (h : ∀ (h' : Heap) (tk : Nat) x0, One h' s.heap.objs.size x0 ((kS t).hash w) → (∀ b o, s.heap.get? b = some o → h'.get? b = some o) → Q (.ref s.heap.objs.size) { s with heap := h', toks := tk }) :
    wpAny (model P w) A (call (.type "set") [.ref l]) Q E s := by
  have hisz : items.size = xs.length := by
    have q := congrArg List.length hit
    rwa [Array.length_toList, List.length_map] at q
  obtain ⟨c, tl, hmro⟩ := F.called_set.mro
  have hmade := F.called_set.made
  have hsub := F.called_set.sub
  refine wpAny_call (codeAny_of_tree ?_)
  change wpAny _ _ (callAny (.type "set") _) _ _ _
  refine wpAny_pure ⟨Code.quiet_builtin _ (by decide +kernel), codeAny_builtin F.entry_type_call ?_⟩
  rw [Around.under_plain (weight_type_call_type "set" [.ref l] []) rfl]
  have h1 := F.called_set.notType
  have h2 := F.called_set.canCreate
  have hct := F.typeCall_set_1 (.ref l)
  repeat (any_goals (first | assumption | wp_step))
  let o0 : Obj := { cls := .type "set", dict := none, data := .set #[] 0 (.fresh 0 0 (!w.params.followText "set-order")) }
  refine codeAny_mono (code_set_led1 (.ref l) (E := E) (Q₁ := fun obj s₁ => obj = .ref s.heap.objs.size ∧ s₁ = { s with heap := s.heap.push { cls := .type "set", dict := none, data := .set #[] 0 (.fresh 0 0 (!w.params.followText "set-order")) } }) ⟨rfl, rfl⟩) fun r s₁ hr => ?_
  cases r with
  | error e => exact hr
  | ok fl =>
    cases fl with
    | ret obj =>
      obtain ⟨rfl, rfl⟩ := hr
      have hS : (s.heap.push { cls := .type "set", dict := none, data := .set #[] 0 (.fresh 0 0 (!w.params.followText "set-order")) }).get? s.heap.objs.size = some { cls := .type "set", dict := none, data := .set #[] 0 (.fresh 0 0 (!w.params.followText "set-order")) } := Heap.get?_push_size _ rfl
      have hT : Shared.TypeIs { s with heap := s.heap.push { cls := .type "set", dict := none, data := .set #[] 0 (.fresh 0 0 (!w.params.followText "set-order")) } } (.ref s.heap.objs.size) "set" := ⟨_, hS, rfl⟩
      have hli := F.called_set.init.lookup
      have hbi := F.called_set.init.bind (.ref s.heap.objs.size)
      repeat (any_goals (first | assumption | wp_step))
      refine codeAny_mono (codeAny_call_builtin (R := wants (fun r s₂ => r = .none ∧ ∃ h' tk x0, s₂ = { s with heap := h', toks := tk } ∧ One h' s.heap.objs.size x0 ((kS t).hash w) ∧
          (∀ b o, s.heap.get? b = some o → h'.get? b = some o)) E) F.called_set.init.plain F.entry_set_init (check_set_init_1 hT ?_)) fun r₂ s₂ hr₂ => ?_
      · obtain ⟨ol, hol, hcl, nl, hdl⟩ := hl
        obtain ⟨ocls, odict, odata, oslots⟩ := ol
        simp only at hcl hdl
        subst hcl; subst hdl
        have hol' : (s.heap.push { cls := .type "set", dict := none, data := .set #[] 0 (.fresh 0 0 (!w.params.followText "set-order")) }).get? l = some { cls := .type "list", dict := odict, data := .seq items nl, slots := oslots } := Heap.get?_push_of_some _ hol
        have hsls := F.sub_list_set
        have hslf := F.sub_list_frozenset
        have hned : (Value.type "list" == Value.type "dict") = false := by decide
        have hl1 : (s.heap.push { cls := .type "set", dict := none, data := .set #[] 0 (.fresh 0 0 (!w.params.followText "set-order")) }).IsList l items := ⟨_, hol', rfl, nl, rfl⟩
        unfold Builtin.«set.__init__» noKeywords Builtin.Frozenset.updateFrom
        generalize hPI : pyIter = PI
        wp_walk
        subst hPI
        refine wpAny_pyIter_list hl1 (wpAny_bind (wpAny_runValue ?_))
        have hlS : l < s.heap.objs.size := Heap.lt_size hol
        have hh3 : A.in1.in1.in1.handled = none := by simp [hh]
        have hneI : l ≠ (s.heap.push { cls := .type "set", dict := none, data := .set #[] 0 (.fresh 0 0 (!w.params.followText "set-order")) }).objs.size := by
          rw [Heap.size_push]; exact Nat.ne_of_lt (Nat.lt_succ_of_lt hlS)
        have hSf : s.heap.objs.size ∉ [(s.heap.push { cls := .type "set", dict := none, data := .set #[] 0 (.fresh 0 0 (!w.params.followText "set-order")) }).objs.size, l] := by
          rw [Heap.size_push]; simp only [List.mem_cons, List.not_mem_nil, or_false, not_or]
          exact ⟨Nat.ne_of_lt (Nat.lt_succ_self _), Nat.ne_of_gt hlS⟩
        have hval : ∀ (i : Nat) (v : Value), items[i]? = some v → ∃ x, x ∈ xs ∧ v = .ref x := fun i v hv => by
          have q : items.toList[i]? = some v := by rw [Array.getElem?_toList]; exact hv
          rw [hit] at q
          obtain ⟨x, hx, e⟩ := List.mem_map.mp (List.mem_of_getElem? q)
          exact ⟨x, hx, e.symm⟩
        have none_of : ∀ b, s.heap.objs.size ≤ b → s.heap.get? b = none := fun b hb => by
          cases q : s.heap.get? b with
          | none => rfl
          | some o => exact absurd (Nat.lt_of_lt_of_le (Heap.lt_size q) hb) (Nat.lt_irrefl _)
        refine upd_loop ((Walks.list hh3 _ l hneI items).toS) s.heap.objs.size hSf xs hval s.heap hk (none_of _ (Nat.le_refl _)) (fun b hb => none_of b (by
            rw [List.mem_singleton.mp hb, Heap.size_push]
            exact Nat.le_succ _)) (by show A.units + 3 + 8 < cLine; omega) (items.size - 0) 0 _ (by omega) (Nat.zero_le _)
          ⟨⟨_, Heap.get?_push_size _ rfl, rfl, rfl⟩, (hl1.push _)⟩ (fun b o e => Heap.get?_push_of_some _ (Heap.get?_push_of_some _ e)) ?hS0 ?hR
        case hS0 =>
          exact .inl ⟨rfl, Zer.new (w := w) (Heap.get?_push_of_some _ hS)⟩
        case hR =>
          intro s' hm g' hkp
          obtain ⟨h', g2, d', tk', os'⟩ := s'
          obtain rfl : g2 = s.gens := hm.gens
          obtain rfl : d' = s.drawn := hm.drawn
          obtain rfl : os' = s.os := hm.os
          change wpAny _ _ _ _ _ _
          refine wpAny_pure ?_
          change wpAny _ _ (ret Value.none) _ _ _
          rcases g' with ⟨z, _⟩ | ⟨_, x0, _, o⟩
          · rw [hisz] at z
            exact absurd (List.eq_nil_of_length_eq_zero z) hne
          · exact wpAny_pure ⟨rfl, h', tk', x0, rfl, o, hkp⟩
      · cases r₂ with
        | error e => exact hr₂
        | ok fl₂ =>
          cases fl₂ with
          | ret r =>
            obtain ⟨rfl, h', tk, x0, rfl, o, hk'⟩ := hr₂
            repeat (any_goals (first | assumption | wp_step))
            exact h _ _ _ o hk'
          | _ => exact hr₂.elim
    | _ => exact hr.elim
end
end Tr
end
section
set_option Elab.async false
set_option linter.all false
set_option maxRecDepth 100000
set_option maxHeartbeats 4000000
/-! calls of methods with keywords, the default of do; len(set(xs)) -/
namespace Tr
open PySem PySem.Spec PyProof.Rows L2
section
variable {K : PySem.W.Frag} {x qual : Str} {params : Arguments} {body : List Stmt} {scope : Scope} {kws : List (Str × V)} {f : Addr} {fd : FuncData} {ps ks : List Str}
theorem kb_all (F : FunD K x qual params body scope [] kws f fd)
    (h : ∀ (kV doc pm : Value) (an : Option Addr) (cdv ct : Value) (us ws : List Value), us.length = 1 → ws.length = ks.length → bindArgs (PySem.W.fnOf x qual params body scope .none kV doc pm an cdv ct) ⟨us, ks.zip ws⟩ = pure (ps.zip (us ++ ws))) :
    KBn K fd ps 1 ks (fun us ws => us ++ ws) (fun vs zs => vs ++ zs) := by
  obtain ⟨oc, od, dV, kV, doc, pm, an, cdv, ct, osl, rfl, lk, hcd, hD, hK⟩ := F.ex
  rcases hD with ⟨_, rfl⟩ | ⟨e, _⟩
  · refine ⟨fun s us ws _ l1 l2 => BindsTo.of_eq (h kV doc pm an cdv ct us ws l1 l2), fun {vs us zs ws} r1 r2 => ?_⟩
    induction r1 with
    | nil => exact r2
    | cons a b ih => exact .cons a ih
  · exact absurd rfl e
end
section
variable {K : PySem.W.Frag} {mg : Str → Option Value}
theorem kb_again (T : Tx K mg) : KBn K (fdOf K (He.ma K (He.ga K "Party") "again")) ["self", "row", "many"] 1 ["row", "many"] (fun us ws => us ++ ws) (fun vs zs => vs ++ zs) :=
  kb_all T.F_Party_again fun _ _ _ _ _ _ us ws h1 h2 => match us, ws, h1, h2 with
    | [_], [_, _], _, _ => rfl
theorem kb_come (T : Tx K mg) : KBn K (fdOf K (He.ma K (He.ga K "Party") "come")) ["self", "coins"] 1 ["coins"] (fun us ws => us ++ ws) (fun vs zs => vs ++ zs) :=
  kb_all T.F_Party_come fun _ _ _ _ _ _ us ws h1 h2 => match us, ws, h1, h2 with
    | [_], [_], _, _ => rfl
theorem b_do (T : Tx K mg) : ∃ ds, Vals [V.bl true] ds ∧ Binds K (fdOf K (He.ma K (He.ga K "Party") "do")) ["self", "deeds", "whole"] ds :=
  T.F_Party_do.binds0 2 (by simp) rfl fun D doc pm an cdv ct us ks h1 h2 => match us, ks, h1, h2 with
    | [_, _], [_], _, _ => ⟨_, _, _, _, _, _, rfl, rfl, rfl⟩
end
def tMethK (C : Addr) (m : Str) (n : Nat) (sp : Sp) (E : XK) (ta : TE) (tk : TA) : TE := fun σ H Q => ta σ H fun x H1 => ∃ a dx fs, x = .ref a ∧ H1 a = some (.ins C dx fs) ∧ fs.lookup m = none ∧ tk σ H1 fun zs H2 => zs.length = n ∧ sp (x :: zs) H2 Q E
section
variable {X : Cx} {CX : CXT} {k : Nat} {f C : Addr} {fd : FuncData} {ps ks : List Str} {sp : Sp} {E : XK} {m : Str} {pos apos : Pos} {o : Expr} {ta : TE} {tk : TA} {kws : List Keyword}
/-- o.m(k = v, ..) -/
theorem pe_methK {pl : Sem Bool} (he : PE X o ta) (c : Cls X.K C) (hm : Meth X.K C m f) (F : FnOk X.prog X.w X.K X.mg X.base CX k f fd ps sp) (hr : Room k X.A) (hb : KBn X.K fd ps 1 ks (fun us ws => us ++ ws) (fun vs zs => vs ++ zs)) (hx : Passes CX X E) (hkw : PK X kws tk)
    (hall : (backToKw pos (keywordEach kws X.env)).all (·.1.isSome) = true := by rfl) (hks : (backToKw pos (keywordEach kws X.env)).filterMap (·.1) = ks := by rfl)
    (hpl : ((backTo pos (starEach [] X.env)).any (·.1) || (backToKw pos (keywordEach kws X.env)).any (·.1.isNone)) = false := by rfl)
    (ht : eval (.Call (.Attribute o m apos) [] kws pos) X.env = (do
      let ov ← eval o X.env
      standAt apos.atName
      let (f, first) ← holding [ov] (getMethod ov m pl)
      callWith pos f first (backTo pos (starEach [] X.env)) (backToKw pos (keywordEach kws X.env))) := by rfl) :
    PE X (.Call (.Attribute o m apos) [] kws pos) (tMethK C m ks.length sp E ta tk) := by
  refine ⟨fun pins s σ H Q I h => ?_⟩
  refine PySem.W.methodCall_KW (pl := pl) (thn (he.run pins s σ H _ I h) fun u s1 ⟨x, H1, I1, rx, a, dx, fs, ex, ea, l, q⟩ => ?_) ht
  subst ex
  cases (show u = Value.ref a from rx)
  refine getmeth_ok I1 ea c hm l (PySem.W.callWith_KW0 (first := [.ref a]) (h₀ := X.base) I.ok.mod.kin hm.kp hall ?_ hpl)
  refine thn (hkw.run pos pins s1 σ H1 _ I1 q) fun ws s2 ⟨zs, H2, I2, rz, l2, q2⟩ => ⟨I2.kIn, ?_⟩
  rw [hks]
  exact run_fnN (us := [.ref a]) (vs := [.ref a]) F hr hb hx I2 (.cons rfl .nil) rz rfl l2 q2
/-! ### len(set(xs)) -/
theorem n2_of {pins : List (Addr × Obj)} {σ : L2.St} {H : Hp} {s : Shared} {u : V} {t : S} (I : Inv X pins σ H s) (h : TD H u (stD t)) : ∃ b, u = .ref b ∧ N2 X.prog X.w s.heap t b := by
  obtain ⟨a, b, c, rfl, ha, hb, hc⟩ := TD.st h
  obtain ⟨_, its, rv, o, h1, h2, n, h3⟩ := (show ObjOk X.prog X.w H s.heap a (.tup [.ref b, .ref c]) from I.hok a _ ha)
  refine ⟨a, rfl, o, _, n, b, c, h1, h2, h3, ?_, Inv.isT I (SqT.of hb), Inv.isT I (SqT.of hc)⟩
  cases rv with
  | cons r1 r2 =>
    cases r2 with
    | cons r3 r4 =>
      cases r4
      cases r1
      cases r3
      rfl
def tLenSetN (K : PySem.W.Frag) (ta : TE) : TE := fun σ H Q => ta σ H fun x H1 => ∃ (l : Addr) (us : List V) (t : S), x = V.ref l ∧ SqL K H1 l us ∧ us ≠ [] ∧ (∀ u, u ∈ us → TD H1 u (stD t)) ∧ Q (.int 1) H1
theorem refs_of {pins : List (Addr × Obj)} {σ : L2.St} {H : Hp} {s : Shared} {t : S} (I : Inv X pins σ H s) : ∀ {us : List V} {its : List Value}, Vals us its → (∀ u, u ∈ us → TD H u (stD t)) → ∃ xs : List Addr, its = xs.map Value.ref ∧ xs.length = us.length ∧ ∀ x, x ∈ xs → N2 X.prog X.w s.heap t x
  | _, _, .nil, _ => ⟨[], rfl, rfl, by simp⟩
  | _, _, .cons (a := u) r rs, h => by
    obtain ⟨b, rfl, hb⟩ := n2_of I (h u (by simp))
    obtain ⟨xs, rfl, hl, hx⟩ := refs_of I rs fun w hw => h w (by simp [hw])
    cases r
    exact ⟨b :: xs, rfl, by simp [hl], fun y hy => by
      rcases List.mem_cons.mp hy with rfl | hy
      · exact hb
      · exact hx y hy⟩
theorem pe_lenSetN {a : Expr} {p p2 q pos : Pos} (hc : X.calm = true) (hu : X.A.units + 64 < cLine) (hg : Gl X "len") (hm : X.mg "len" = none) (hg2 : Gl X "set") (hm2 : X.mg "set" = none) (ha : PE X a ta)
    (na : starEach [a] X.env = (false, eval a X.env) :: starEach [] X.env := by rfl) : PE X (.Call (.Name "len" p) [.Call (.Name "set" p2) [a] [] q] [] pos) (tLenSetN X.K ta) := by
  refine ⟨fun pins s σ H Q I h => ?_⟩
  refine Call_ (ld_blt I hg hm PySem.boot_len ?_)
  refine PyProof.Rows.callWith_builtin1 (PyProof.Rows.args_cons ?_ rfl) rfl rfl
  refine Call_ (ld_blt I hg2 hm2 PyProof.Rows.boot_set ?_)
  refine PyProof.Rows.callWith_type1 (PyProof.Rows.args_cons (thn (ha.run pins s σ H _ I h) fun v s1 ⟨y, H1, I1, r1, q1⟩ => PyProof.Rows.args_nil ?_) na) na rfl
  obtain ⟨l, us, t, rfl, hq, hne, htd, q1⟩ := q1
  cases r1
  obtain ⟨its, r, pl, hz⟩ := I1.list hq
  obtain ⟨xs, rfl, hl, hx⟩ := refs_of I1 r htd
  have hxs : xs ≠ [] := fun z => hne (List.eq_nil_of_length_eq_zero (by rw [← hl, z]; rfl))
  refine call_setN xs (I1.ok.hd hc) pl.isList (by simp) hxs hx (by omega) fun h' tk x0 ho hk => ?_
  refine PyProof.Rows.args_nil ?_
  obtain ⟨o, ep, tb, ho1, hex, hd, T, m⟩ := ho
  have I2 : Inv X pins σ H1 { s1 with heap := h', toks := tk } := I1.kept fun b o e => hk b o e
  exact call_len_set ho1 hex hd (One.fits T m) (by show (1 : Int) < 2 ^ 63; decide) ⟨.int 1, H1, I2.tok _, ⟨_, rfl⟩, q1⟩
end
end Tr
end
section
set_option Elab.async false
set_option linter.all false
set_option maxRecDepth 100000
set_option maxHeartbeats 4000000
set_option pp.maxSteps 400
set_option exponentiation.threshold 4000
namespace Tr
open PySem PySem.Spec PyProof.Rows L2
section
variable {X : Cx}
theorem op_eqP (T : Tx X.K X.mg) (Z : Ex X.K) (hr : Room 3 X.A) : OpR X (compareOp .Eq) (rOwnI (He.ga X.K "Party") (fun vs H Q E => spEqP X.K vs H Q E) (fun _ _ _ => False)) :=
  op_ownI (op := .Eq) (fun _ _ => rfl) T.m_eq (((ok_Party_eq T Z).raw T.b_f_Party_eq .nil).imp fun vs H Q E h => by rw [List.append_nil]; exact h) hr pass0
theorem call_reprP (T : Tx X.K X.mg) (hr : Room 4 X.A) : CallR X (.builtin "repr") (rReprOwn (He.ga X.K "Party") (fun vs H Q E => spRepr X.K vs H Q E) (fun _ _ _ => False)) :=
  call_reprOwn T.m_repr (((ok_Party_repr T).raw T.b_f_Party_repr .nil).imp fun vs H Q E h => by rw [List.append_nil]; exact h) hr pass0
end
theorem grows_ok {K : PySem.W.Frag} {H : Hp} {E : XK} {q : Addr} {us : List V} {u : V} {Q : VK} {r : Except Er (PyData × S)} {a : PyData} {t2 : S} (e : r = .ok (a, t2))
    (h : ∀ u' rv H', Kp q H H' → H' q = some (.lst (us ++ [u] ++ [u'])) → TD H' u' (stD t2) → TD H' rv a → Q rv H') : Grows K H E q us u Q r := by
  subst e
  exact h
theorem Pty.kps {K : PySem.W.Frag} {H H' : Hp} {p q lg : Addr} {us : List V} {u : V} {ss : List S} {t : S} {ls : List V} {l : List Addr} (h : Pty K H p q lg us u ss t ls) (k : Kps l H H') (tu : Tups H H') (h1 : p ∉ l) (h2 : q ∉ l) (h3 : lg ∉ l) : Pty K H' p q lg us u ss t ls := by
  obtain ⟨dx, hi⟩ := h.ins
  exact ⟨⟨dx, k _ _ h1 hi⟩, k _ _ h2 h.st, h.td.mono tu, h.tu.mono tu, k _ _ h3 h.lo, h.nq, h.len⟩
theorem Kps.same {l : List Addr} {B H H' : Hp} (k : Kps l H H') (s : Same B H) (n : ∀ a, a ∈ l → B a = none) : Same B H' := fun b o e => k b o (fun z => by rw [n b z] at e; cases e) (s b o e)
abbrev Adr := Addr × Addr × Addr
def Apart (x y : Adr) : Prop := (x.1 ≠ y.1 ∧ x.1 ≠ y.2.1 ∧ x.1 ≠ y.2.2) ∧ (x.2.1 ≠ y.1 ∧ x.2.1 ≠ y.2.1 ∧ x.2.1 ≠ y.2.2) ∧ (x.2.2 ≠ y.1 ∧ x.2.2 ≠ y.2.1 ∧ x.2.2 ≠ y.2.2)
/-- twins, laid one behind the other -/
structure Tws (K : PySem.W.Frag) (Hb H : Hp) (D : Addr) (us : List V) (u : V) (ss : List S) (t : S) (l : List Adr) : Prop where
  pt : ∀ x, x ∈ l → Pty K H x.1 x.2.1 x.2.2 us u ss t []
  nw : ∀ x, x ∈ l → (Hb x.1 = none ∧ Hb x.2.1 = none ∧ Hb x.2.2 = none) ∧ (x.1 ≠ D ∧ x.2.1 ≠ D ∧ x.2.2 ≠ D)
  ap : l.Pairwise Apart
theorem Pty.some3 {K : PySem.W.Frag} {H : Hp} {p q lg : Addr} {us : List V} {u : V} {ss : List S} {t : S} {ls : List V} (h : Pty K H p q lg us u ss t ls) {a : Addr} (n : H a = none) : p ≠ a ∧ q ≠ a ∧ lg ≠ a := by
  obtain ⟨dx, hi⟩ := h.ins
  exact ⟨ne_of_none hi n, ne_of_none h.st n, ne_of_none h.lo n⟩
theorem Pty.pg {K : PySem.W.Frag} {H : Hp} {p q lg : Addr} {us : List V} {u : V} {ss : List S} {t : S} {ls : List V} (h : Pty K H p q lg us u ss t ls) : p ≠ lg := by
  obtain ⟨dx, hi⟩ := h.ins
  exact ne_of hi h.lo fun z => by cases z
/-- a row for passes -/
theorem rw_of {n : Nat} {t : S} {row : List Int} (h : Vd n t) (hs : t.2.sum ≤ 2 ^ 170) (hl : row.length ≤ 1000) (hr : ∀ x, x ∈ row → 0 ≤ x ∧ x < n) : Rw n t row :=
  ⟨h.rg, hl, hr, h.szs hs, fun q a0 a1 => Rok.per (n := n) ⟨h.two, h.rg.top, hr⟩ a0 a1⟩
theorem gives_ok {α : Type} {K : PySem.W.Frag} {H : Hp} {E : XK} {r : Except Er α} {a : α} {ok : α → Prop} (e : r = .ok a) (h : ok a) : Gives K H E r ok := by
  subst e
  exact h
theorem exD_list (row : List Int) : (List.range (row.map V.int).length).map (fun i => exD (row.getD i 0)) = row.map exD := by
  refine List.ext_getElem (by simp) fun i h1 h2 => ?_
  have h3 : i < row.length := by simpa using h2
  rw [List.getElem_map, List.getElem_range, List.getElem_map, gd_lt h3]
theorem Kp.via {l q : Addr} {B H H' : Hp} (a : Kp l B H) (k : Kp q H H') (n : B q = none) : Kp l B H' := fun b o nb e => k b o (ne_of_none e n) (a b o nb e)
def spRows (K : PySem.W.Frag) : Sp := fun vs H Q _ => ∃ (so : Addr) (B : Int) (p q lg : Addr) (us : List V) (u : V) (ss : List S) (t : S) (ls : List V) (n : Nat), vs = [.ref so, .ref p] ∧ Src B H so ∧ B ≤ 2 ^ 36 ∧ Pty K H p q lg us u ss t ls ∧ Vd n t ∧ n ≤ 7 ∧ t.2.sum ≤ 2 ^ 170 ∧ ss.length ≤ 400 ∧ so ≠ lg ∧
  ∀ H', Kp so H H' → Src (B + 100) H' so → Q (.bl true) H'
section
variable {P : Program} {w : World} {K : PySem.W.Frag} {mg : Str → Option Value} {base : Heap}
theorem sc__law_rows_right : FnScope ["_law_source", "_law_party", "_law_here", "_law_tape", "_law_parties", "_law_turn", "_law_spot", "_law_its", "_law_top", "_law_often"] ["_law_source", "_law_party"] (defScope s__law_rows_right) := ⟨rfl, rfl, rfl, by decide +kernel, rfl, by decide +kernel, by decide +kernel⟩
theorem ok__law_rows_right (T : Tx K mg) (Z : Ex K) (D : Dz K w) : FnOk P w K mg base CX0 12 (He.ga K "_law_rows_right") (fdOf K (He.ga K "_law_rows_right")) ["_law_source", "_law_party"] (spRows K) := by
  obtain ⟨ds, hds, bdo⟩ := b_do T
  refine T.F__law_rows_right.ok sc__law_rows_right (fun vs H Q E h => ?_) (fun cdv A outer s H vs Q E hr h => ?_)
  · obtain ⟨so, B, p, q, lg, us, u, ss, t, ls, n, rfl, _⟩ := h
    rfl
  · obtain ⟨so, B, p, q, lg, us, u, ss, t, ls, n, rfl, hs, hB, hp, hn, n7, hsum, hss, sol, h⟩ := h
    refine ⟨_, PSs.nox (pss_cons (ps_set (i := 2) sc__law_rows_right.nd rfl (Or.inl rfl) (pe_meth0 (pv 1) T.clP T.m_state (ok_Party_state T) (hr.mono (by decide)) T.b_f_Party_state .nil pass0))
      (pss_cons (ps_set (i := 3) sc__law_rows_right.nd rfl (Or.inl rfl) (pe_call (ok__law_random_row T) (hr.mono (by decide)) rfl T.g__law_random_row T.F__law_random_row.kp T.b_f__law_random_row .nil pass0 (pa_cons (pv 0) (pa_cons (pv 2) (pa_cons pe_int pa_nil)))))
      (pss_cons (ps_setLc (i := 4) (own := [("_law_turn", 5)]) (g := gName 5) rfl sc__law_rows_right.nd rfl rfl (sw_true rfl rfl rfl (by kernel_rfl)) (pi_range1 rfl T.b_range (pa_cons pe_int pa_nil)) (blkOk_by (own := [("_law_turn", 5)]) (N := ["_law_source", "_law_party", "_law_here", "_law_tape", "_law_parties", "_law_turn", "_law_spot", "_law_its", "_law_top", "_law_often"]) (by kernel_rfl)) (fun _ _ _ _ _ => (pg_name (i := 5) sc__law_rows_right.nd rfl (Or.inl rfl))) (fun _ _ _ _ _ => pts_nil) (fun _ _ _ _ _ => (pe_meth0 (pv 1) T.clP T.m_twin (ok_Party_twin T) (hr.mono (by decide)) T.b_f_Party_twin .nil pass0)))
      (pss_cons (ps_if (pt_cmpR op_ne (pe_meth (pe_ix ix_list (pv 4) pe_int (fun _ _ => rfl)) T.clP T.m_run (ok_Party_run T Z) (hr.mono (by decide)) T.b_f_Party_run .nil passL (pa_cons (pv 3) pa_nil)) (pe_callB call_len_seq rfl T.b_len bt_len (pa_cons (pv 3) pa_nil)) (nomark _)) (pss_one (ps_ret pe_bl)) pss_nil)
      (pss_cons (ps_expr (pe_meth (pe_ix ix_list (pv 4) pe_int (fun _ _ => rfl)) T.clP T.m_do (ok_Party_do T Z D) (hr.mono (by decide)) bdo hds pass0 (pa_cons (pe_lc (own := [("_law_spot", 6)]) (g := gName 6) rfl sc__law_rows_right.nd (pi_list (pv 3)) (blkOk_by (own := [("_law_spot", 6)]) (N := ["_law_source", "_law_party", "_law_here", "_law_tape", "_law_parties", "_law_turn", "_law_spot", "_law_its", "_law_top", "_law_often"]) (by kernel_rfl)) (fun _ _ _ _ _ => (pg_name (i := 6) sc__law_rows_right.nd rfl (Or.inl rfl))) (fun _ _ _ _ _ => pts_nil) (fun _ _ _ _ _ => (pe_tup (pa_cons pe_str (pa_cons (pv 6) pa_nil))))) pa_nil)))
      (pss_cons (ps_expr (pe_methK (pe_ix ix_list (pv 4) pe_int (fun _ _ => rfl)) T.clP T.m_again (ok_Party_again T Z) (hr.mono (by decide)) (kb_again T) passL (pk_cons (pv 3) (pk_cons pe_int pk_nil))))
      (pss_cons (ps_if (PW.pt (pw_or (pt_cmpR op_ne (pe_lenSetN rfl hr.units rfl T.b_len rfl T.b_set (pe_lc (own := [("_law_its", 7)]) (g := gName 7) rfl sc__law_rows_right.nd (pi_list (pe_slice sl_list (pv 4) po_none (po_some pe_int))) (blkOk_by (own := [("_law_its", 7)]) (N := ["_law_source", "_law_party", "_law_here", "_law_tape", "_law_parties", "_law_turn", "_law_spot", "_law_its", "_law_top", "_law_often"]) (by kernel_rfl)) (fun _ _ _ _ _ => (pg_name (i := 7) sc__law_rows_right.nd rfl (Or.inl rfl))) (fun _ _ _ _ _ => pts_nil) (fun _ _ _ _ _ => (pe_meth0 (pv 7) T.clP T.m_state (ok_Party_state T) (hr.mono (by decide)) T.b_f_Party_state .nil pass0)))) pe_int (nomark _)) (pw_or1 (pt_cmpR (op_neD hr.units) (pe_meth0 (pe_ix ix_list (pv 4) pe_int (fun _ _ => rfl)) T.clP T.m_state (ok_Party_state T) (hr.mono (by decide)) T.b_f_Party_state .nil pass0) (pe_call (ok_run_moves T Z) (hr.mono (by decide)) rfl T.g_run_moves T.F_run_moves.kp T.b_f_run_moves .nil passL (pa_cons (pv 2) (pa_cons (pv 3) pa_nil))) (nomark _))))) (pss_one (ps_ret pe_bl)) pss_nil)
      (pss_cons (ps_set (i := 8) sc__law_rows_right.nd rfl (Or.inl rfl) (pe_call (ok_passes_many T) (hr.mono (by decide)) rfl T.g_passes_many T.F_passes_many.kp T.b_f_passes_many .nil pass0 (pa_cons (pv 2) (pa_cons (pv 3) pa_nil))))
      (pss_cons (ps_set (i := 9) sc__law_rows_right.nd rfl (Or.inl rfl) (pe_call (ok_draw T 8 (by decide)) (hr.mono (by decide)) rfl T.g__law_draw T.F__law_draw.kp T.b_f__law_draw .nil pass0 (pa_cons (pv 0) (pa_cons (pe_ifExp (pt_cmpR op_isN (pv 8) pe_non (nomark _)) (pe_op op_pow pe_int pe_int) (pe_op op_add (pv 8) pe_int)) pa_nil))))
      (pss_cons (ps_expr (pe_meth (pe_ix ix_list (pv 4) pe_int (fun _ _ => rfl)) T.clP T.m_again (ok_Party_again T Z) (hr.mono (by decide)) T.b_f_Party_again .nil passL (pa_cons (pv 3) (pa_cons (pv 9) pa_nil))))
      (pss_cons (ps_if (pt_cmpR op_gt (pv 9) pe_int (nomark _)) (pss_one (ps_expr (pe_meth (pe_ix ix_list (pv 4) pe_int (fun _ _ => rfl)) T.clP T.m_again (ok_Party_again T Z) (hr.mono (by decide)) T.b_f_Party_again .nil passL (pa_cons (pv 3) (pa_cons (pe_op op_sub (pv 9) pe_int) pa_nil))))) pss_nil)
      (pss_one (ps_ret (pe_or (pe_cmpR op_eq (pv 9) pe_int (nomark _)) (pe_one (pe_and (pe_cmpR (op_eqP T Z (hr.mono (by decide))) (pe_ix ix_list (pv 4) pe_int (fun _ _ => rfl)) (pe_ix ix_list (pv 4) pe_int (fun _ _ => rfl)) (nomark _)) (pe_one (pe_cmpR (op_eqD hr.units) (pe_meth0 (pe_ix ix_list (pv 4) pe_int (fun _ _ => rfl)) T.clP T.m_state (ok_Party_state T) (hr.mono (by decide)) T.b_f_Party_state .nil pass0) (pe_call (ok_after_passes T Z) (hr.mono (by decide)) rfl T.g_after_passes T.F_after_passes.kp T.b_f_after_passes .nil passL (pa_cons (pv 2) (pa_cons (pv 3) (pa_cons (pv 9) pa_nil)))) (nomark _))))))))))))))))))), ?_⟩
    have ez := sizeLine_eq
    obtain ⟨dx, hi⟩ := hp.ins
    have n2 := hn.two
    have n16 := hn.rg.top
    have soq : so ≠ q := fun z => by
      obtain ⟨a, b, c, e, _⟩ := hs
      rw [z, hp.st] at e
      have := hp.tu
      obtain ⟨a1, _, _, rfl, _⟩ := TD.st this
      have e2 := congrArg (fun o => match o with
        | some (HO.lst xs) => xs.getLast?
        | _ => none) e
      simp at e2
    have sop : p ≠ so := fun z => by
      obtain ⟨a, b, c, e, _⟩ := hs
      rw [← z, hi] at e
      cases e
    refine ⟨_, rfl, p, dx, _, rfl, hi, rfl, p, q, lg, dx, us, u, rfl, hi, hp.st, ?_⟩
    refine ⟨_, rfl, _, rfl, so, B, u, t, n, 9, rfl, hs, by omega, hp.tu, hn, by decide, fun tp row t1 H1 htp k1 h1 lr rr hrun s1 => ?_⟩
    have hp1 : Pty K H1 p q lg us u ss t ls := hp.kp k1 (hs.tups k1) sop (fun z => soq z.symm) (fun z => sol z.symm)
    obtain ⟨dx1, hi1⟩ := hp1.ins
    have hn1 := (runq_vd hn hrun).1
    have hsum1 : t1.2.sum ≤ 2 ^ 170 := by have := (runq_vd hn hrun).2; omega
    have rok : Rok n row := ⟨n2, n16, rr⟩
    -- the twins
    refine ⟨_, rfl, by decide, by decide, fun D hD => ?_⟩
    refine lc_mut (sng_range (lo := 0) (n := 4)) (fun i ys H' => H' D = some (.lst ys) ∧ ys.length = i ∧ Same H1 H' ∧ ∃ l : List Adr, ys = l.map (fun x => V.ref x.1) ∧ Tws K H1 H' D us u ss t l) (by decide)
      ⟨upd_same, rfl, Same.new hD, [], rfl, ⟨by simp, by simp, .nil⟩⟩ (fun _ _ _ _ => trivial) (fun i ys H' z => ⟨z.1, by rw [z.2.1]; exact Nat.le_refl _⟩) ?_ ?_
    · rintro i x ys H4 hi4 rfl ⟨hD4, ly, s4, l, rfl, W⟩ Q4 hq
      have hp4 := hp1.same s4
      obtain ⟨dx4, hi4'⟩ := hp4.ins
      refine ⟨_, rfl, p, dx4, _, rfl, hi4', rfl, p, q, lg, us, u, ss, t, ls, rfl, hp4, fun p' q' g' H5 s5 n1 n2' n3 hP => ?_⟩
      have hD5 := s5 _ _ hD4
      have e1 : p' ≠ D := (ne_of_none hD4 n1).symm
      have e2 : q' ≠ D := (ne_of_none hD4 n2').symm
      have e3 : g' ≠ D := (ne_of_none hD4 n3).symm
      have kD : Kp D H5 (upd H5 D (.lst (l.map (fun x => V.ref x.1) ++ [.ref p']))) := Kp.upd
      have tD := kD.tups hD5
      refine hq (.ref p') H5 hD5 ⟨upd_same, by rw [List.length_append, ly]; rfl, (s4.trans s5).mut hD, l ++ [(p', q', g')], by rw [List.map_append]; rfl, ⟨fun y hy => ?_, fun y hy => ?_, ?_⟩⟩
      · rcases List.mem_append.mp hy with hy | hy
        · have := W.nw y hy
          exact ((W.pt y hy).same s5).kp kD tD this.2.1 this.2.2.1 this.2.2.2
        · rw [List.mem_singleton.mp hy]
          exact hP.kp kD tD e1 e2 e3
      · rcases List.mem_append.mp hy with hy | hy
        · exact W.nw y hy
        · rw [List.mem_singleton.mp hy]
          exact ⟨⟨s4.none n1, s4.none n2', s4.none n3⟩, e1, e2, e3⟩
      · refine List.pairwise_append.mpr ⟨W.ap, by simp, fun y hy z hz => ?_⟩
        rw [List.mem_singleton.mp hz]
        have a1 := (W.pt y hy).some3 n1
        have a2 := (W.pt y hy).some3 n2'
        have a3 := (W.pt y hy).some3 n3
        exact ⟨⟨a1.1, a2.1, a3.1⟩, ⟨a1.2.1, a2.2.1, a3.2.1⟩, a1.2.2, a2.2.2, a3.2.2⟩
    rintro ys H2 ⟨hD2, ly, s2, l, rfl, W⟩
    rw [List.length_map] at ly
    obtain ⟨x0, x1, x2, x3, rfl⟩ : ∃ x0 x1 x2 x3, l = [x0, x1, x2, x3] := by
      match l, ly with
      | [a, b, c, d], _ => exact ⟨a, b, c, d, rfl⟩
    obtain ⟨p0, q0, g0⟩ := x0
    obtain ⟨p1, q1, g1⟩ := x1
    obtain ⟨p2, q2, g2⟩ := x2
    obtain ⟨p3, q3, g3⟩ := x3
    have P0 := W.pt (p0, q0, g0) (by simp)
    have P1 := W.pt (p1, q1, g1) (by simp)
    have P2 := W.pt (p2, q2, g2) (by simp)
    have P3 := W.pt (p3, q3, g3) (by simp)
    have nw0 := (W.nw (p0, q0, g0) (by simp)).1
    have nw3 := (W.nw (p3, q3, g3) (by simp)).1
    obtain ⟨⟨_, bq0, _⟩, _, dq0, dg0⟩ := W.nw (p0, q0, g0) (by simp)
    obtain ⟨⟨_, bq1, bg1⟩, _, dq1, dg1⟩ := W.nw (p1, q1, g1) (by simp)
    obtain ⟨⟨_, bq2, _⟩, _, dq2, dg2⟩ := W.nw (p2, q2, g2) (by simp)
    obtain ⟨⟨_, bq3, _⟩, _, dq3, dg3⟩ := W.nw (p3, q3, g3) (by simp)
    have ap := W.ap
    simp only [List.pairwise_cons, List.mem_cons, List.not_mem_nil, or_false] at ap
    have A01 := ap.1 _ (.inl rfl)
    have A02 := ap.1 _ (.inr (.inl rfl))
    have A03 := ap.1 _ (.inr (.inr rfl))
    have A12 := ap.2.1 _ (.inl rfl)
    have A13 := ap.2.1 _ (.inr rfl)
    have A23 := ap.2.2.1 _ rfl
    clear ap W
    simp only [Apart] at A01 A02 A03 A12 A13 A23
    simp only [List.map_cons, List.map_nil] at hD2
    have ht2 := s2 _ _ h1
    obtain ⟨dy0, i0⟩ := P0.ins
    refine ⟨_, rfl, D, _, _, _, rfl, rfl, SqL.of hD2, atI_nat (j := 0) rfl, p0, dy0, _, rfl, i0, rfl, _, rfl, p0, q0, g0, us, u, ss, t, [], n, tp, row, rfl, P0, hn.rg, ht2, by omega, grows_ok (a := .int (row.length : Nat)) (t2 := t1) (by unfold rowq; rw [hrun]) fun u0 rv H3 k3 hq3 hu3 hr3 => ?_⟩
    have er := hr3.i
    subst er
    have Q0 := P0.push k3 hq3 hu3 (by omega)
    have tu3 := k3.tups P0.st
    replace P1 := P1.kp k3 tu3 (A01.2.1.1.symm) (A01.2.1.2.1.symm) (A01.2.1.2.2.symm)
    replace P2 := P2.kp k3 tu3 (A02.2.1.1.symm) (A02.2.1.2.1.symm) (A02.2.1.2.2.symm)
    replace P3 := P3.kp k3 tu3 (A03.2.1.1.symm) (A03.2.1.2.1.symm) (A03.2.1.2.2.symm)
    have hD3 := k3 _ _ dq0.symm hD2
    have s3 : Same H1 H3 := k3.same s2 bq0
    have ht3 := s3 _ _ h1
    refine ⟨_, rfl, tp, _, rfl, .inl (SqL.of ht3), rfl, _, rfl, iteZ (by rw [List.length_map]; simp) ?_⟩
    obtain ⟨dy1, i1⟩ := P1.ins
    refine ⟨_, rfl, D, _, _, _, rfl, rfl, SqL.of hD3, atI_nat (j := 1) rfl, p1, dy1, _, rfl, i1, rfl, _, rfl, tp, rfl, ⟨_, SqL.of ht3⟩, fun da hda => ?_⟩
    refine lc_sng (sng_list (xs := row.map V.int)) (fun _ => true) (fun i => exD (row.getD i 0)) ?_ ?_ ?_ ?_ ?_ hda
    · rw [List.length_map]; omega
    · exact fun H' e => SqL.of (e _ _ ht3)
    · exact fun i x H' _ _ _ Q q => q _ (Same.refl _)
    · rintro i x H' hi5 hx e _ Q qq
      obtain ⟨y, rfl, hy⟩ := int_get hx
      refine ⟨_, rfl, line2, fun a ha => qq (.ref a) _ (Same.new ha) ?_⟩
      rw [getD_of hy]
      exact TD.mk upd_same (.cons (.str _) (.cons (.int _) .nil))
    intro ys H4 s34 hda4 hys
    rw [pick_all (fun _ _ => rfl), exD_list] at hys
    have s4 := s3.trans s34
    have P14 := P1.same s34
    have daq : da ≠ q1 := (ne_of_none P1.st hda).symm
    have dag : da ≠ g1 := (ne_of_none P1.lo hda).symm
    refine ⟨p1, q1, g1, us, u, ss, t, [], n, da, ys, row, t1, rfl, P14, hn.rg, hda4, hys, by omega, by omega, by show 0 ≤ 500; decide, daq, dag, hrun, fun rp us1 u1 ss1 ls1 H5 k5 Q1 => ?_⟩
    have tu5 := k5.tups2 P14.st P14.lo
    have Q0 := (Q0.same s34).kps k5 tu5 (by simp [A01.1.2.1, A01.1.2.2]) (by simp [A01.2.1.2.1, A01.2.1.2.2]) (by simp [A01.2.2.2.1, A01.2.2.2.2])
    replace P2 := (P2.same s34).kps k5 tu5 (by simp [A12.2.1.1.symm, A12.2.2.1.symm]) (by simp [A12.2.1.2.1.symm, A12.2.2.2.1.symm]) (by simp [A12.2.1.2.2.symm, A12.2.2.2.2.symm])
    replace P3 := (P3.same s34).kps k5 tu5 (by simp [A13.2.1.1.symm, A13.2.2.1.symm]) (by simp [A13.2.1.2.1.symm, A13.2.2.2.1.symm]) (by simp [A13.2.1.2.2.symm, A13.2.2.2.2.symm])
    have hD5 := k5 _ _ (by simp [dq1.symm, dg1.symm]) (s34 _ _ hD3)
    have s5 : Same H1 H5 := k5.same s4 (by simp [bq1, bg1])
    have ht5 := s5 _ _ h1
    have hrw := rw_of hn hsum (by omega) rr
    obtain ⟨dy2, i2⟩ := P2.ins
    refine ⟨_, rfl, D, _, _, _, rfl, rfl, SqL.of hD5, atI_nat (j := 2) rfl, p2, dy2, _, rfl, i2, rfl, _, rfl, rfl, p2, q2, g2, us, u, ss, t, [], n, tp, row, 1, rfl, P2, hrw, ht5, by decide, by unfold Sz; decide, grows_ok (a := tI t1.2) (t2 := t1) (by unfold againq; rw [again1 rok hn hrun]) fun u2 rv2 H6 k6 hq6 hu6 _ => ?_⟩
    have Q2 := P2.push k6 hq6 hu6 (by omega)
    have tu6 := k6.tups P2.st
    replace Q0 := Q0.kp k6 tu6 (A02.1.2.1) (A02.2.1.2.1) (A02.2.2.2.1)
    replace Q1 := Q1.kp k6 tu6 (A12.1.2.1) (A12.2.1.2.1) (A12.2.2.2.1)
    replace P3 := P3.kp k6 tu6 (A23.2.1.1.symm) (A23.2.1.2.1.symm) (A23.2.1.2.2.symm)
    have hD6 := k6 _ _ dq2.symm hD5
    have s6 : Same H1 H6 := k6.same s5 bq2
    -- the set of their states
    refine ⟨_, rfl, _, rfl, D, _, rfl, SqL.of hD6, fun sl hsl => ⟨sl, rfl, ⟨_, SqL.of upd_same⟩, fun sD hsD => ?_⟩⟩
    have ec : cutV [V.ref p0, V.ref p1, V.ref p2, V.ref p3] none (some 3) = [V.ref p0, V.ref p1, V.ref p2] := cut_take (by decide)
    rw [ec] at hsD
    rw [ec]
    have sl1 : Same H6 (upd H6 sl (.lst [V.ref p0, V.ref p1, V.ref p2])) := Same.new hsl
    have hsl7 : upd H6 sl (.lst [V.ref p0, V.ref p1, V.ref p2]) sl = some (.lst [V.ref p0, V.ref p1, V.ref p2]) := upd_same
    generalize upd H6 sl (.lst [V.ref p0, V.ref p1, V.ref p2]) = H7 at *
    have pts : ∀ (i : Nat) (x : V), ([V.ref p0, V.ref p1, V.ref p2] : List V)[i]? = some x → ∃ p' q' g' us' u' ss' ls', x = .ref p' ∧ Pty K H7 p' q' g' us' u' ss' t1 ls' := fun i x hx => by
      match i, hx with
      | 0, hx => cases hx; exact ⟨_, _, _, _, _, _, _, rfl, Q0.same sl1⟩
      | 1, hx => cases hx; exact ⟨_, _, _, _, _, _, _, rfl, Q1.same sl1⟩
      | 2, hx => cases hx; exact ⟨_, _, _, _, _, _, _, rfl, Q2.same sl1⟩
      | j + 3, hx => cases hx
    refine lc_sng (sng_list (xs := [V.ref p0, V.ref p1, V.ref p2])) (fun _ => true) (fun _ => stD t1) (by show 3 ≤ 100000; decide) (fun H' e => SqL.of (e _ _ hsl7)) (fun i x H' _ _ _ Q q => q _ (Same.refl _)) ?_ ?_ hsD
    · rintro i x H' hi5 hx e _ Q qq
      obtain ⟨p', q', g', us', u', ss', ls', rfl, PP⟩ := pts i x hx
      replace PP := PP.same e
      obtain ⟨dz, iz⟩ := PP.ins
      exact ⟨_, rfl, p', dz, _, rfl, iz, rfl, p', q', g', dz, us', u', rfl, iz, PP.st, qq u' H' (Same.refl _) PP.tu⟩
    intro zs H8 s78 hzs tzs
    rw [pick_all (fun _ _ => rfl)] at tzs
    have zl : zs.length = 3 := by rw [tzs.1]; rfl
    have zne : zs ≠ [] := fun z => by rw [z] at zl; cases zl
    have z68 := sl1.trans s78
    refine ⟨sD, zs, t1, rfl, SqL.of hzs, zne, fun v hv => ?_, rfl, _, rfl, iteZ (by decide) ?_⟩
    · obtain ⟨i, hi6, e⟩ := List.getElem_of_mem hv
      exact tzs.2 i v (stD t1) (by rw [List.getElem?_eq_getElem hi6, e]) (by rw [List.getElem?_map, List.getElem?_range (by show i < 3; omega)]; rfl)
    have hD8 := z68 _ _ hD6
    have s8 := s6.trans z68
    replace Q0 := Q0.same z68
    replace P3 := P3.same z68
    have hu8 := hp1.tu.mono s8.tups
    have ht8 := s8 _ _ h1
    obtain ⟨dy0', i0'⟩ := Q0.ins
    refine ⟨_, rfl, D, _, _, _, rfl, rfl, SqL.of hD8, atI_nat (j := 0) rfl, p0, dy0', _, rfl, i0', rfl, p0, q0, g0, dy0', us ++ [u], u0, rfl, i0', Q0.st, _, rfl, _, rfl, u, t, n, tp, row, rfl, hu8, hn.rg, ht8, by omega, gives_ok hrun fun v9 H9 e9 hv9 => ⟨_, _, (Q0.tu.mono e9.tups).dp, hv9.dp, shaped_st t1, shaped_st t1, _, rfl, iteZ (by rw [eqv_st]; simp) ?_⟩⟩
    refine ⟨_, rfl, _, rfl, u, tp, t, row, n, rfl, hu8.mono e9.tups, e9 _ _ ht8, hrw, fun H10 e10 => ?_⟩
    have e8 := e9.trans e10
    have s10 := s8.trans e8
    have hD10 := e8 _ _ hD8
    replace Q0 := Q0.same e8
    replace P3 := P3.same e8
    have so10 := s1.same s10
    obtain ⟨⟨bp0, _, bg0⟩, _⟩ : (H1 p0 = none ∧ H1 q0 = none ∧ H1 g0 = none) ∧ True := ⟨nw0, trivial⟩
    obtain ⟨⟨bp3, _, bg3⟩, _⟩ : (H1 p3 = none ∧ H1 q3 = none ∧ H1 g3 = none) ∧ True := ⟨nw3, trivial⟩
    have uso := hp1.tu
    dsimp only
    refine seq_cut (fun σ H' => ∃ r : Int, 0 ≤ r ∧ (∀ m, pmq t row = some m → r ≤ m) ∧ r < 2 ^ 201 ∧ Kp so H10 H' ∧ Src (B + 50) H' so ∧ σ = [some (.ref so), some (.ref p), some u, some (.ref tp), some (.ref D), none, none, none, some (pmV t row), some (.int r)]) ?_ (fun hN => ?_)
    · rintro σ H11 ⟨r, r0, rm, r2, k11, s11, rfl⟩
      have tu11 := so10.tups k11
      have nso : ∀ a, H1 a = none → a ≠ so := fun a e => (s1.ne e).symm
      have hD11 := k11 _ _ (nso D hD) hD10
      replace Q0 := Q0.kp k11 tu11 (nso _ bp0) (nso _ bq0) (nso _ bg0)
      replace P3 := P3.kp k11 tu11 (nso _ bp3) (nso _ bq3) (nso _ bg3)
      have K11 : Kp so H1 H11 := (Kp.of s10).trans k11
      have tpso : tp ≠ so := (hs.ne htp).symm
      have ht11 := K11 _ _ tpso h1
      have hu11 := hp1.tu.mono (s10.tups.trans tu11)
      obtain ⟨rn, rfl⟩ : ∃ rn : Nat, r = rn := ⟨r.toNat, by omega⟩
      have nb := againK (t := t) (k := rn) rok hn rm
      have ha3 := afq_of rok hn nb
      generalize ht3e : aftK (flow n row).2 (endsOf n row) t rn = t3 at *
      have hv3 := (afq_ok rok hn (by omega) ha3).2.2
      obtain ⟨dy3, i3⟩ := P3.ins
      refine ⟨_, rfl, D, _, _, _, rfl, rfl, SqL.of hD11, atI_nat (j := 3) rfl, p3, dy3, _, rfl, i3, rfl, _, rfl, _, rfl, p3, q3, g3, us, u, ss, t, [], n, tp, row, rn, rfl, P3, hrw, ht11, r0, by unfold Sz; omega, grows_ok (a := tI t3.2) (t2 := t3) (by unfold againq; rw [ha3]) fun u3 rv3 H12 k12 hq12 hu12 _ => ?_⟩
      have Q3 := P3.push k12 hq12 hu12 (by omega)
      have tu12 := k12.tups P3.st
      replace Q0 := Q0.kp k12 tu12 (A03.1.2.1) (A03.2.1.2.1) (A03.2.2.2.1)
      have hD12 := k12 _ _ dq3.symm hD11
      have K12 : Kp so H1 H12 := K11.via k12 bq3
      have s12 : Src (B + 50) H12 so := s11.kp k12 (nso q3 bq3).symm
      have ht12 := K12 _ _ tpso h1
      have hu12' := hu11.mono tu12
      refine ⟨_, rfl, _, _, rfl, rfl, _, rfl, iteD (fun c => ?_) fun c => ?_⟩
      · obtain ⟨k, rfl⟩ : ∃ k, rn = k + 1 := ⟨rn - 1, by omega⟩
        obtain ⟨_, ha0⟩ := againS (k := k) rok hn hrun rm
        rw [ht3e] at ha0
        have ek : ((k + 1 : Nat) : Int) - 1 = (k : Nat) := by omega
        obtain ⟨dy0b, i0b⟩ := Q0.ins
        refine ⟨_, rfl, D, _, _, _, rfl, rfl, SqL.of hD12, atI_nat (j := 0) rfl, p0, dy0b, _, rfl, i0b, rfl, _, rfl, _, rfl, _, _, rfl, rfl, p0, q0, g0, us ++ [u], u0, ss ++ [t], t1, [], n, tp, row, k, by rw [← ek]; rfl, Q0, rw_of hn1 hsum1 (by omega) rr, ht12, by omega, by unfold Sz; omega, grows_ok (a := tI t3.2) (t2 := t3) (by unfold againq; rw [ha0]) fun u4 rv4 H13 k13 hq13 hu13 _ => ?_⟩
        have R0 := Q0.push k13 hq13 hu13 (by rw [List.length_append, List.length_singleton]; omega)
        have tu13 := k13.tups Q0.st
        replace Q3 := Q3.kp k13 tu13 (A03.2.1.1.symm) (A03.2.1.2.1.symm) (A03.2.1.2.2.symm)
        have hD13 := k13 _ _ dq0.symm hD12
        have K13 : Kp so H1 H13 := K12.via k13 bq0
        have s13 : Src (B + 50) H13 so := s12.kp k13 (nso q0 bq0).symm
        have ht13 := K13 _ _ tpso h1
        have hu13' := hu12'.mono tu13
        refine ⟨_, rfl, rfl, _, rfl, iteZ (decide_eq_false fun z => ?_) ?_⟩
        · have := V.int.inj z; omega
        obtain ⟨dz0, iz0⟩ := R0.ins
        obtain ⟨dz3, iz3⟩ := Q3.ins
        have l3 := hv3.1.rg.l1
        have l3' := hv3.1.rg.l2
        refine ⟨_, rfl, D, _, _, _, rfl, rfl, SqL.of hD13, atI_nat (j := 0) rfl, _, rfl, D, _, _, _, rfl, rfl, SqL.of hD13, atI_nat (j := 3) rfl, p0, dz0, _, p3, dz3, _, rfl, rfl, iz0, iz3, p0, q0, g0, _, u4, _, t3, _, p3, q3, g3, _, u3, _, t3, _, rfl, R0, Q3, by omega, by omega, by omega, by omega, _, rfl, iteY (by simp) ?_⟩
        refine ⟨_, rfl, D, _, _, _, rfl, rfl, SqL.of hD13, atI_nat (j := 3) rfl, p3, dz3, _, rfl, iz3, rfl, p3, q3, g3, dz3, us ++ [u], u3, rfl, iz3, Q3.st, _, rfl, _, rfl, _, rfl, u, tp, t, row, n, _, rfl, hu13', ht13, hrw, r0, by unfold Sz; omega, gives_ok ha3 fun v14 H14 e14 hv14 => ⟨_, _, (Q3.tu.mono e14.tups).dp, hv14.dp, shaped_st t3, shaped_st t3, ?_⟩⟩
        rw [eqv_st, decide_eq_true rfl]
        exact h H14 ((k1.trans K13).trans (Kp.of e14)) ((s13.same e14).mono (by omega))
      · refine ⟨_, rfl, rfl, _, rfl, iteY (decide_eq_true ?_) (h H12 (k1.trans K12) (s12.mono (by omega)))⟩
        have : (rn : Int) = 0 := by omega
        rw [this]
    · have hbd := fun m e => pmq_bd (m := m) rok (by omega) hn.rg (hn.szs hsum) e
      cases hpm : pmq t row with
      | none =>
        have ev : pmV t row = .non := by unfold pmV; rw [hpm]
        have big : ((10 : Int) ^ Int.toNat 60) < 2 ^ 201 := by decide +kernel
        exact ⟨_, rfl, _, rfl, rfl, _, rfl, iteY (by rw [ev]; rfl) ⟨_, _, rfl, rfl, ⟨by decide, by decide, by decide⟩, so, _, _, 8, rfl, so10, by omega, by decide +kernel, by decide +kernel, by decide, fun r H11 r0 r1 k11 s11 => hN _ _ ⟨r, r0, fun m z => (by rw [hpm] at z; cases z), Int.lt_trans r1 big, k11, s11.mono (by omega), rfl⟩⟩⟩
      | some m =>
        have ev : pmV t row = .int m := by unfold pmV; rw [hpm]
        have hm := hbd m hpm
        have big : (2 : Int) ^ 200 + 1 ≤ (10 ^ 7) ^ (8 + 1) := by decide +kernel
        exact ⟨_, rfl, _, rfl, rfl, _, rfl, iteZ (by rw [ev]; rfl) ⟨_, rfl, m, 1, ev, rfl, so, _, _, 8, rfl, so10, by omega, by omega, by omega, by decide, fun r H11 r0 r1 k11 s11 => hN _ _ ⟨r, r0, fun m2 z => (by rw [hpm] at z; cases z; omega), by omega, k11, s11.mono (by omega), rfl⟩⟩⟩
end
end Tr
end
section
set_option Elab.async false
set_option linter.all false
set_option maxRecDepth 100000
set_option maxHeartbeats 4000000
set_option pp.maxSteps 400
set_option exponentiation.threshold 4000
namespace Tr
open PySem PySem.Spec PyProof.Rows L2
/-- a party by all the states that its list ever held; j: the last one now -/
structure AllP (K : PySem.W.Frag) (H : Hp) (p q lg : Addr) (VS : List V) (SS : List S) (j : Nat) : Prop where
  ins : ∃ dx, H p = some (.ins (He.ga K "Party") dx [("own_states", .ref q), ("own_log", .ref lg)])
  st : H q = some (.lst (VS.take (j + 1)))
  td : TDs H VS (SS.map stD)
  lo : H lg = some (.lst [])
  nq : q ≠ lg
  len : VS.length ≤ 1000
  lt : j < VS.length
theorem AllP.pty {K : PySem.W.Frag} {H : Hp} {p q lg : Addr} {VS : List V} {SS : List S} {j : Nat} (h : AllP K H p q lg VS SS j) : ∃ u t, SS[j]? = some t ∧ TD H u (stD t) ∧ Pty K H p q lg (VS.take j) u (SS.take j) t [] := by
  have hl : VS.length = SS.length := by have := h.td.1; rwa [List.length_map] at this
  have hj := h.lt
  refine ⟨VS[j]'hj, SS[j]'(by omega), List.getElem?_eq_getElem (by omega), h.td.2 j _ _ (List.getElem?_eq_getElem hj) (by rw [List.getElem?_map, List.getElem?_eq_getElem (by omega)]; rfl), h.ins, ?_, ?_, ?_, h.lo, h.nq, ?_⟩
  · rw [h.st, List.take_add_one, List.getElem?_eq_getElem hj]
    rfl
  · refine ⟨by rw [List.length_map, List.length_take, List.length_take, hl], fun i x d hx hd => ?_⟩
    rw [List.getElem?_take] at hx
    rw [List.getElem?_map, List.getElem?_take] at hd
    split at hx
    · rename_i c
      rw [if_pos c] at hd
      exact h.td.2 i x d hx (by rw [List.getElem?_map]; exact hd)
    · cases hx
  · exact h.td.2 j _ _ (List.getElem?_eq_getElem hj) (by rw [List.getElem?_map, List.getElem?_eq_getElem (by omega)]; rfl)
  · have := h.len
    rw [List.length_take]; omega
/-- one back -/
theorem AllP.back {K : PySem.W.Frag} {H H' : Hp} {p q lg : Addr} {VS : List V} {SS : List S} {j : Nat} (h : AllP K H p q lg VS SS (j + 1)) (k : Kp q H H') (hq : H' q = some (.lst (VS.take (j + 1)))) : AllP K H' p q lg VS SS j := by
  obtain ⟨dx, hi⟩ := h.ins
  have pq : p ≠ q := ne_of hi h.st fun z => by cases z
  exact ⟨⟨dx, k _ _ pq hi⟩, hq, h.td.mono (k.tups h.st), k _ _ h.nq.symm h.lo, h.nq, h.len, by have := h.lt; omega⟩
theorem AllP.kp {K : PySem.W.Frag} {H H' : Hp} {p q lg l : Addr} {VS : List V} {SS : List S} {j : Nat} (h : AllP K H p q lg VS SS j) (k : Kp l H H') (tu : Tups H H') (h1 : p ≠ l) (h2 : q ≠ l) (h3 : lg ≠ l) : AllP K H' p q lg VS SS j := by
  obtain ⟨dx, hi⟩ := h.ins
  exact ⟨⟨dx, k _ _ h1 hi⟩, k _ _ h2 h.st, h.td.mono tu, k _ _ h3 h.lo, h.nq, h.len, h.lt⟩
theorem Pty.all {K : PySem.W.Frag} {H : Hp} {p q lg : Addr} {us : List V} {u : V} {ss : List S} {t : S} (h : Pty K H p q lg us u ss t []) (hl : us.length < 1000) : AllP K H p q lg (us ++ [u]) (ss ++ [t]) us.length := by
  refine ⟨h.ins, ?_, ?_, h.lo, h.nq, by rw [List.length_append]; exact hl, by rw [List.length_append, List.length_singleton]; omega⟩
  · rw [h.st, List.take_of_length_le (by rw [List.length_append, List.length_singleton]; omega)]
  · rw [List.map_append]
    exact h.td.snoc h.tu
def spGuests (K : PySem.W.Frag) : Sp := fun vs H Q _ => ∃ (so : Addr) (B : Int) (p q lg : Addr) (us : List V) (u : V) (ss : List S) (t : S) (ls : List V) (n : Nat), vs = [.ref so, .ref p] ∧ Src B H so ∧ B ≤ 2 ^ 36 ∧ Pty K H p q lg us u ss t ls ∧ Vd n t ∧ n ≤ 7 ∧ t.2.sum ≤ 2 ^ 170 ∧ ss.length ≤ 400 ∧ so ≠ lg ∧
  ∀ H', Kp so H H' → Src (B + 200) H' so → Q (.bl true) H'
theorem src_ne {K : PySem.W.Frag} {B : Int} {H : Hp} {so p q lg : Addr} {us : List V} {u : V} {ss : List S} {t : S} {ls : List V} (hs : Src B H so) (hp : Pty K H p q lg us u ss t ls) : so ≠ q ∧ p ≠ so := by
  constructor
  · intro z
    obtain ⟨a, b, c, e, _⟩ := hs
    rw [z, hp.st] at e
    have := hp.tu
    obtain ⟨a1, _, _, rfl, _⟩ := TD.st this
    have e2 := congrArg (fun o => match o with
      | some (HO.lst xs) => xs.getLast?
      | _ => none) e
    simp at e2
  · intro z
    obtain ⟨a, b, c, e, _⟩ := hs
    obtain ⟨dx, hi⟩ := hp.ins
    rw [← z, hi] at e
    cases e
section
variable {P : Program} {w : World} {K : PySem.W.Frag} {mg : Str → Option Value} {base : Heap}
theorem sc__law_guests_right : FnScope ["_law_source", "_law_party", "_law_mate", "_law_here", "_law_size", "_law_crowd", "_law_bag", "_law_who", "_law_there", "_law_far", "_law_turn"] ["_law_source", "_law_party"] (defScope s__law_guests_right) := ⟨rfl, rfl, rfl, by decide +kernel, rfl, by decide +kernel, by decide +kernel⟩
theorem ok__law_guests_right (T : Tx K mg) (Z : Ex K) : FnOk P w K mg base CX0 54 (He.ga K "_law_guests_right") (fdOf K (He.ga K "_law_guests_right")) ["_law_source", "_law_party"] (spGuests K) := by
  refine T.F__law_guests_right.ok sc__law_guests_right (fun vs H Q E h => ?_) (fun cdv A outer s H vs Q E hr h => ?_)
  · obtain ⟨so, B, p, q, lg, us, u, ss, t, ls, n, rfl, _⟩ := h
    rfl
  · obtain ⟨so, B, p, q, lg, us, u, ss, t, ls, n, rfl, hs, hB, hp, hn, n7, hsum, hss, sol, h⟩ := h
    refine ⟨_, PSs.nox (pss_cons (ps_asg (pe_tup (pa_cons (pe_meth0 (pv 1) T.clP T.m_twin (ok_Party_twin T) (hr.mono (by decide)) T.b_f_Party_twin .nil pass0) (pa_cons (pe_meth0 (pv 1) T.clP T.m_state (ok_Party_state T) (hr.mono (by decide)) T.b_f_Party_state .nil pass0) (pa_cons (pe_meth0 (pv 1) T.clP T.m_lot (ok_Party_lot T) (hr.mono (by decide)) T.b_f_Party_lot .nil pass0) pa_nil)))) (pg_tup rfl (pgs_cons (pg_name (i := 2) sc__law_guests_right.nd rfl (Or.inr rfl)) (pgs_cons (pg_name (i := 3) sc__law_guests_right.nd rfl (Or.inl rfl)) (pgs_cons (pg_name (i := 4) sc__law_guests_right.nd rfl (Or.inl rfl)) pgs_nil)))))
      (pss_cons (ps_par (i := 5) (j := 6) rfl sc__law_guests_right.nd rfl rfl (by decide) rfl rfl (pa_cons (pe_callB (call_lenP T (hr.mono (by decide))) rfl T.b_len bt_len (pa_cons (pv 1) pa_nil)) (pa_cons (pe_call (ok_draw T 52 (by decide)) (hr.mono (by decide)) rfl T.g__law_draw T.F__law_draw.kp T.b_f__law_draw .nil pass0 (pa_cons (pv 0) (pa_cons (pe_op op_pow pe_int pe_int) pa_nil))) pa_nil)) (by rfl))
      (pss_cons (ps_if (PW.pt (pw_or (pt_cmpR op_ne (pe_methK (pv 2) T.clP T.m_come (ok_Party_come T Z) (hr.mono (by decide)) (kb_come T) passL (pk_cons (pv 6) pk_nil)) (pe_op op_add (pv 5) pe_int) (nomark _)) (pw_or (pt_cmpR op_ne (pe_meth (pv 2) T.clP T.m_leave (ok_Party_leave T Z) (hr.mono (by decide)) T.b_f_Party_leave .nil passL (pa_cons (pv 5) pa_nil)) (pv 6) (nomark _)) (pw_or1 (pt_not (pt_cmpR (op_eqP T Z (hr.mono (by decide))) (pv 2) (pv 1) (nomark _))))))) (pss_one (ps_ret pe_bl)) pss_nil)
      (pss_cons (ps_set (i := 7) sc__law_guests_right.nd rfl (Or.inl rfl) (pe_call (ok_draw T 52 (by decide)) (hr.mono (by decide)) rfl T.g__law_draw T.F__law_draw.kp T.b_f__law_draw .nil pass0 (pa_cons (pv 0) (pa_cons (pv 5) pa_nil))))
      (pss_cons (ps_if (PW.pt (pw_or (pt_cmpR op_ne (pe_meth (pv 2) T.clP T.m_give (ok_Party_give T Z) (hr.mono (by decide)) T.b_f_Party_give .nil passL (pa_cons (pv 7) (pa_cons (pv 6) pa_nil))) (pe_op op_add (pe_ix ix_tup (pe_ix ix_tup (pv 3) pe_int (fun _ _ => rfl)) (pv 7) (fun _ _ => rfl)) (pv 6)) (nomark _)) (pw_or (pt_cmpR op_ne (pe_meth (pv 2) T.clP T.m_take (ok_Party_take T Z) (hr.mono (by decide)) T.b_f_Party_take .nil passL (pa_cons (pv 7) (pa_cons (pv 6) pa_nil))) (pe_ix ix_tup (pe_ix ix_tup (pv 3) pe_int (fun _ _ => rfl)) (pv 7) (fun _ _ => rfl)) (nomark _)) (pw_or1 (pt_not (pt_cmpR (op_eqP T Z (hr.mono (by decide))) (pv 2) (pv 1) (nomark _))))))) (pss_one (ps_ret pe_bl)) pss_nil)
      (pss_cons (ps_if (pt_cmpR op_ne (pv 4) (pe_call (ok_lot_many T) (hr.mono (by decide)) rfl T.g_lot_many T.F_lot_many.kp T.b_f_lot_many .nil pass0 (pa_cons (pv 3) pa_nil)) (nomark _)) (pss_one (ps_ret pe_bl)) pss_nil)
      (pss_cons (ps_set (i := 8) sc__law_guests_right.nd rfl (Or.inl rfl) (pe_call (ok_state_at T) (hr.mono (by decide)) rfl T.g_state_at T.F_state_at.kp T.b_f_state_at .nil pass0 (pa_cons (pv 3) (pa_cons (pe_call (ok_draw T 52 (by decide)) (hr.mono (by decide)) rfl T.g__law_draw T.F__law_draw.kp T.b_f__law_draw .nil pass0 (pa_cons (pv 0) (pa_cons (pv 4) pa_nil))) pa_nil))))
      (pss_cons (ps_set (i := 9) sc__law_guests_right.nd rfl (Or.inl rfl) (pe_call (ok_distance T Z) (hr.mono (by decide)) rfl T.g_distance T.F_distance.kp T.b_f_distance .nil passL (pa_cons (pv 3) (pa_cons (pv 8) pa_nil))))
      (pss_cons (ps_if (PW.pt (pw_or (pt_cmpR op_ne (pe_meth (pv 2) T.clP T.m_go (ok_Party_go T Z) (hr.mono (by decide)) T.b_f_Party_go .nil passL (pa_cons (pv 8) pa_nil)) (pv 9) (nomark _)) (pw_or (pt_cmpR op_ne (pe_meth (pv 2) T.clP T.m_go (ok_Party_go T Z) (hr.mono (by decide)) T.b_f_Party_go .nil passL (pa_cons (pv 3) pa_nil)) (pv 9) (nomark _)) (pw_or (pt_not (pt_cmpR (op_eqP T Z (hr.mono (by decide))) (pv 2) (pv 1) (nomark _))) (pw_or1 (pt_cmpR op_ne (pe_meth0 (pv 2) T.clP T.m_lot (ok_Party_lot T) (hr.mono (by decide)) T.b_f_Party_lot .nil pass0) (pv 4) (nomark _))))))) (pss_one (ps_ret pe_bl)) pss_nil)
      (pss_one (ps_ret (pe_and (pe_callB (cr_all rfl) rfl T.b_all bt_all (pa_cons (pe_lc (own := [("_law_turn", 10)]) (g := gName 10) rfl sc__law_guests_right.nd (pi_range1 rfl T.b_range (pa_cons pe_int pa_nil)) (blkOk_by (own := [("_law_turn", 10)]) (N := ["_law_source", "_law_party", "_law_mate", "_law_here", "_law_size", "_law_crowd", "_law_bag", "_law_who", "_law_there", "_law_far", "_law_turn"]) (by kernel_rfl)) (fun _ _ _ _ _ => (pg_name (i := 10) sc__law_guests_right.nd rfl (Or.inl rfl))) (fun _ _ _ _ _ => pts_nil) (fun _ _ _ _ _ => (pe_meth0 (pv 2) T.clP T.m_undo (ok_Party_undo T) (hr.mono (by decide)) T.b_f_Party_undo .nil pass0))) pa_nil)) (pe_and (pe_cmpR op_eq (pe_meth0 (pv 2) T.clP T.m_deeds (ok_Party_deeds T) (hr.mono (by decide)) T.b_f_Party_deeds .nil pass0) (pe_meth0 (pv 1) T.clP T.m_deeds (ok_Party_deeds T) (hr.mono (by decide)) T.b_f_Party_deeds .nil pass0) (nomark _)) (pe_one (pe_cmpR (op_eqD hr.units) (pe_meth0 (pv 2) T.clP T.m_state (ok_Party_state T) (hr.mono (by decide)) T.b_f_Party_state .nil pass0) (pv 3) (nomark _)))))))))))))))), ?_⟩
    have ez := sizeLine_eq
    obtain ⟨dx, hi⟩ := hp.ins
    have n2 := hn.two
    have n16 := hn.rg.top
    have l1 := hn.rg.l1
    have l2 := hn.rg.l2
    obtain ⟨soq, sop⟩ := src_ne hs hp
    have lus : us.length = ss.length := by have := hp.td.1; rwa [List.length_map] at this
    refine ⟨_, rfl, p, dx, _, rfl, hi, rfl, p, q, lg, us, u, ss, t, ls, rfl, hp, fun p' q' g' H1 s1 b1 b2 b3 M => ?_⟩
    have hp1 := hp.same s1
    obtain ⟨dx1, hi1⟩ := hp1.ins
    refine ⟨_, rfl, p, dx1, _, rfl, hi1, rfl, p, q, lg, dx1, us, u, rfl, hi1, hp1.st, ?_⟩
    refine ⟨_, rfl, p, dx1, _, rfl, hi1, rfl, p, q, lg, us, u, ss, t, ls, rfl, hp1, u, t, n, rfl, hp1.tu, hn.rg, ?_, fun H2' s2' => ⟨line3, fun tp htp => gp3 upd_same ?_⟩⟩
    · have := hn.szs hsum
      have h0 : 0 ≤ t.2.sum := by
        have := ls_nonneg (l := t.2) (f := fun x => x) hn.nn
        rwa [List.map_id'] at this
      unfold Sz
      omega
    have s2 : Same H1 (upd H2' tp (.tup [.ref p', u, .int (lot t)])) := s2'.trans (Same.new htp)
    generalize upd H2' tp (.tup [.ref p', u, .int (lot t)]) = H2 at *
    have M2 := M.same s2
    have hp2 := hp1.same s2
    obtain ⟨dx2, hi2⟩ := hp2.ins
    have so1 := hs.ne b1
    have so2 := hs.ne b2
    have so3 := hs.ne b3
    have hpn := hp.some3 b2
    have s02 := s1.trans s2
    have ss2 := hs.same s02
    have CL := fun c => come_leave hn (by omega : n < 12) (c := c)
    refine ⟨_, rfl, p, dx2, _, rfl, hi2, p, q, lg, dx2, us, u, t, rfl, hi2, hp2.st, hp2.tu, t.1.length, rfl, by omega, ?_⟩
    refine ⟨_, rfl, _, _, rfl, rfl, ⟨by decide, by decide, by decide⟩, so, _, _, 52, rfl, ss2, by omega, by decide +kernel, by decide +kernel, by decide, fun bag H3 bg0 bg1 k3 sso => ⟨_, _, rfl, ?_⟩⟩
    rw [l1]
    have tu3 := ss2.tups k3
    have M3 := M2.kp k3 tu3 so1.symm so2.symm so3.symm
    have hpp := hp2.kp k3 tu3 sop soq.symm sol.symm
    have Kso : Kp so H H3 := (Kp.of s02).trans k3
    have hu := hpp.tu
    -- somebody comes and leaves
    obtain ⟨e3, he3⟩ := M3.ins
    refine ⟨_, rfl, p', e3, _, rfl, he3, rfl, _, rfl, rfl, p', q', g', us, u, ss, t, [], n, bag, rfl, M3, hn.rg, grows_ok (CL bag).1 fun u1 rv H4 k4 hq4 hu4 hr4 => ?_⟩
    have er := hr4.i
    subst er
    have M4 := M3.push k4 hq4 hu4 (by omega)
    have tu4 := k4.tups M3.st
    replace hpp := hpp.kp k4 tu4 hpn.1 hpn.2.1 hpn.2.2
    replace Kso := Kso.via k4 b2
    replace sso := sso.kp k4 so2
    replace hu := hu.mono tu4
    refine ⟨_, rfl, _, _, rfl, rfl, rfl, _, rfl, iteZ (by simp) ?_⟩
    have av := (add_vd hn (by omega) bg0).1
    rw [l1] at av
    obtain ⟨e4, he4⟩ := M4.ins
    refine ⟨_, rfl, p', e4, _, rfl, he4, rfl, _, rfl, p', q', g', _, u1, _, _, [], n + 1, n, rfl, M4, av.rg, grows_ok (CL bag).2 fun u2 rv H5 k5 hq5 hu5 hr5 => ?_⟩
    have er := hr5.i
    subst er
    have M5 := M4.push k5 hq5 hu5 (by simp only [List.length_append, List.length_singleton]; omega)
    have tu5 := k5.tups M4.st
    replace hpp := hpp.kp k5 tu5 hpn.1 hpn.2.1 hpn.2.2
    replace Kso := Kso.via k5 b2
    replace sso := sso.kp k5 so2
    replace hu := hu.mono tu5
    refine ⟨_, rfl, rfl, _, rfl, iteZ (by simp) ?_⟩
    obtain ⟨ex, hex⟩ := M5.ins
    obtain ⟨ep, hep⟩ := hpp.ins
    refine ⟨_, rfl, _, rfl, p', ex, _, p, ep, _, rfl, rfl, hex, hep, p', q', g', _, _, _, t, _, p, q, lg, us, _, ss, t, ls, rfl, M5, hpp, by omega, by omega, by omega, by omega, _, rfl, iteZ (by simp) ?_⟩
    -- coins come and go
    refine ⟨_, rfl, _, rfl, so, _, _, 52, rfl, sso, by omega, by omega, Int.le_trans (by omega : (n : Int) ≤ 10 ^ 7) (by decide +kernel), by decide, fun wh H6 w0 w1 k6 sso6 => ?_⟩
    have tu6 := sso.tups k6
    have M5 := M5.kp k6 tu6 so1.symm so2.symm so3.symm
    replace hpp := hpp.kp k6 tu6 sop soq.symm sol.symm
    replace Kso := Kso.trans k6
    replace hu := hu.mono tu6
    replace sso := sso6
    obtain ⟨i, rfl⟩ : ∃ i : Nat, wh = i := ⟨wh.toNat, by omega⟩
    have GT := fun c => give_take hn (i := i) (by omega) (c := c)
    obtain ⟨z, hz⟩ := get_lt (xs := t.2) (i := i) (by omega)
    rw [getD_of hz] at GT
    obtain ⟨va, vb, vc, eu, ha0, hb0, hc0⟩ := TD.st hp.tu
    subst eu
    obtain ⟨e6, he6⟩ := M5.ins
    refine ⟨_, rfl, p', e6, _, rfl, he6, rfl, _, rfl, _, rfl, p', q', g', _, u2, _, t, [], n, i, bag, rfl, M5, hn.rg, grows_ok (GT bag).1 fun u3 rv H7 k7 hq7 hu7 hr7 => ?_⟩
    have er := hr7.i
    subst er
    have M7 := M5.push k7 hq7 hu7 (by simp only [List.length_append, List.length_singleton]; omega)
    have tu7 := k7.tups M5.st
    replace hpp := hpp.kp k7 tu7 hpn.1 hpn.2.1 hpn.2.2
    replace Kso := Kso.via k7 b2
    replace sso := sso.kp k7 so2
    replace hu := hu.mono tu7
    have ha := Kso _ _ (fun z => by obtain ⟨a, b, c, e, _⟩ := hs; rw [z, e] at ha0; cases ha0) ha0
    have hc := Kso _ _ (fun z => by obtain ⟨a, b, c, e, _⟩ := hs; rw [z, e] at hc0; cases hc0) hc0
    refine ⟨_, rfl, va, _, _, _, rfl, rfl, SqT.of ha, atI_nat (j := 1) rfl, _, rfl, vc, _, _, _, rfl, rfl, SqT.of hc, atI_nat (get_int hz), _, rfl, _, _, rfl, rfl, rfl, _, rfl, iteZ (by simp) ?_⟩
    have gv := (set_vd hn (p := i) (by omega) (c := z + bag) (by have := hn.purse i; rw [getD_of hz] at this; omega)).1
    obtain ⟨e7, he7⟩ := M7.ins
    refine ⟨_, rfl, p', e7, _, rfl, he7, rfl, _, rfl, _, rfl, p', q', g', _, u3, _, _, [], n, i, bag, rfl, M7, gv.rg, grows_ok (GT bag).2 fun u4 rv H8 k8 hq8 hu8 hr8 => ?_⟩
    have er := hr8.i
    subst er
    have M8 := M7.push k8 hq8 hu8 (by simp only [List.length_append, List.length_singleton]; omega)
    have tu8 := k8.tups M7.st
    replace hpp := hpp.kp k8 tu8 hpn.1 hpn.2.1 hpn.2.2
    replace Kso := Kso.via k8 b2
    replace sso := sso.kp k8 so2
    replace hu := hu.mono tu8
    replace ha := tu8 _ _ ha
    replace hc := tu8 _ _ hc
    refine ⟨_, rfl, va, _, _, _, rfl, rfl, SqT.of ha, atI_nat (j := 1) rfl, _, rfl, vc, _, _, _, rfl, rfl, SqT.of hc, atI_nat (get_int hz), rfl, _, rfl, iteZ (by simp) ?_⟩
    obtain ⟨ex, hex⟩ := M8.ins
    obtain ⟨ep, hep⟩ := hpp.ins
    refine ⟨_, rfl, _, rfl, p', ex, _, p, ep, _, rfl, rfl, hex, hep, p', q', g', _, _, _, t, _, p, q, lg, us, _, ss, t, ls, rfl, M8, hpp, by omega, by omega, by omega, by omega, _, rfl, iteZ (by simp) ?_⟩
    -- lot is that of the function
    have sz0 : Sz 180 t.2.sum := by
      have h0 : 0 ≤ t.2.sum := by
        have := ls_nonneg (l := t.2) (f := fun x => x) hn.nn
        rwa [List.map_id'] at this
      unfold Sz
      omega
    refine ⟨_, rfl, _, rfl, _, t, n, rfl, hu, hn.rg, sz0, fun H9 s9 => ⟨rfl, _, rfl, iteZ (by simp) ?_⟩⟩
    have M9 := M8.same s9
    replace hpp := hpp.same s9
    replace Kso := Kso.trans (Kp.of s9)
    replace sso := sso.same s9
    replace hu := hu.mono s9.tups
    -- the state with a number
    obtain ⟨q0, hq0, _⟩ := hn.quo
    have hL := hn.lot_eq hq0
    have hLp := hn.lot_pos
    have hLl := hn.lot_le n7 sz0
    have bigL : (2 : Int) ^ 1215 ≤ (10 ^ 7) ^ (52 + 1) := by decide +kernel
    refine ⟨_, rfl, _, rfl, _, rfl, so, _, _, 52, rfl, sso, by omega, hLp, Int.le_trans (Int.le_of_lt hLl) bigL, by decide, fun nu H10 nu0 nu1 k10 sso10 => ?_⟩
    have tu10 := sso.tups k10
    have M9 := M9.kp k10 tu10 so1.symm so2.symm so3.symm
    replace hpp := hpp.kp k10 tu10 sop soq.symm sol.symm
    replace Kso := Kso.trans k10
    replace hu := hu.mono tu10
    replace sso := sso10
    refine ⟨_, t, n, q0, nu, rfl, hu, hn.rg, hq0, sz0, nu0, by rw [← hL]; exact nu1, fun tt hv hl => ww_split hn.kept_len hv hl, fun tt sh ug H11 hv hl hs1 hs2 s11 hug => ?_⟩
    obtain ⟨rgG, kG, cG⟩ := lpw_ok hn hv hl hs1 hs2
    generalize hg : (tt, lpw (kept t) tt sh) = g at *
    have cG' : g.2.sum = t.2.sum := by rw [← hg]; exact cG
    have M11 := M9.same s11
    replace hpp := hpp.same s11
    replace Kso := Kso.trans (Kp.of s11)
    replace sso := sso.same s11
    replace hu := hu.mono s11.tups
    have dTG := dist_ok hn.rg rgG kG.symm cG'.symm
    have dGT := dist_ok rgG hn.rg kG cG'
    have dsy : dst t g = dst g t := dst_sym hn.rg rgG kG.symm
    refine ⟨_, rfl, _, rfl, _, ug, t, g, n, n, rfl, hu, hug, hn.rg, rgG, gives_ok dTG fun H12 s12 => ?_⟩
    have M12 := M11.same s12
    replace hpp := hpp.same s12
    replace Kso := Kso.trans (Kp.of s12)
    replace sso := sso.same s12
    replace hu := hu.mono s12.tups
    replace hug := hug.mono s12.tups
    -- there and back
    obtain ⟨e12, he12⟩ := M12.ins
    refine ⟨_, rfl, p', e12, _, rfl, he12, rfl, _, rfl, p', q', g', _, u4, _, t, [], n, n, ug, g, rfl, M12, hn.rg, rgG, hug, grows_ok (a := .int (dst t g)) (t2 := g) (by unfold goq; rw [dTG]) fun u5 rv H13 k13 hq13 hu13 hr13 => ?_⟩
    have er := hr13.i
    subst er
    have M13 := M12.push k13 hq13 hu13 (by simp only [List.length_append, List.length_singleton]; omega)
    have tu13 := k13.tups M12.st
    replace hpp := hpp.kp k13 tu13 hpn.1 hpn.2.1 hpn.2.2
    replace Kso := Kso.via k13 b2
    replace sso := sso.kp k13 so2
    replace hu := hu.mono tu13
    refine ⟨_, rfl, rfl, _, rfl, iteZ (by simp) ?_⟩
    obtain ⟨e13, he13⟩ := M13.ins
    refine ⟨_, rfl, p', e13, _, rfl, he13, rfl, _, rfl, p', q', g', _, u5, _, g, [], n, n, _, t, rfl, M13, rgG, hn.rg, hu, grows_ok (a := .int (dst t g)) (t2 := t) (by unfold goq; rw [dGT, dsy]) fun u6 rv H14 k14 hq14 hu14 hr14 => ?_⟩
    have er := hr14.i
    subst er
    have M14 := M13.push k14 hq14 hu14 (by simp only [List.length_append, List.length_singleton]; omega)
    have tu14 := k14.tups M13.st
    replace hpp := hpp.kp k14 tu14 hpn.1 hpn.2.1 hpn.2.2
    replace Kso := Kso.via k14 b2
    replace sso := sso.kp k14 so2
    replace hu := hu.mono tu14
    refine ⟨_, rfl, rfl, _, rfl, iteZ (by simp) ?_⟩
    obtain ⟨ex, hex⟩ := M14.ins
    obtain ⟨ep, hep⟩ := hpp.ins
    refine ⟨_, rfl, _, rfl, p', ex, _, p, ep, _, rfl, rfl, hex, hep, p', q', g', _, _, _, t, _, p, q, lg, us, _, ss, t, ls, rfl, M14, hpp, by omega, by omega, by omega, by omega, _, rfl, iteZ (by simp) ?_⟩
    refine ⟨_, rfl, p', ex, _, rfl, hex, rfl, p', q', g', _, u6, _, t, [], rfl, M14, u6, t, n, rfl, M14.tu, hn.rg, sz0, fun H15 s15 => ⟨_, rfl, rfl, _, rfl, iteZ (by simp) ?_⟩⟩
    have M15 := M14.same s15
    replace hpp := hpp.same s15
    replace Kso := Kso.trans (Kp.of s15)
    replace sso := sso.same s15
    replace hu := hu.mono s15.tups
    -- all undone
    refine ⟨_, rfl, by decide, by decide, fun D hD => ?_⟩
    have Dq : D ≠ q' := (ne_of_none M15.st hD).symm
    have A0 := M15.all (by simp only [List.length_append, List.length_singleton]; omega)
    have eX : (us ++ [V.ref va] ++ [u1] ++ [u2] ++ [u3] ++ [u4] ++ [u5]).length = us.length + 6 := by simp only [List.length_append, List.length_singleton]
    rw [eX] at A0
    have hSt : ∀ tw, (ss ++ [t] ++ [(t.1 ++ [((n : Nat) : Int)], t.2 ++ [bag])] ++ [t] ++ [(t.1, t.2.set i (z + bag))] ++ [t] ++ [g] ++ [t])[us.length]? = some tw → tw = t := fun tw e => by
      rw [lus] at e
      simp at e
      exact e.symm
    have hSl : ∀ j, j + 1 ≤ us.length + 6 → (ss ++ [t] ++ [(t.1 ++ [((n : Nat) : Int)], t.2 ++ [bag])] ++ [t] ++ [(t.1, t.2.set i (z + bag))] ++ [t] ++ [g] ++ [t]).take (j + 1) ≠ [] := fun j hj e => by
      have := congrArg List.length e
      simp at this
    have hSd : ((ss ++ [t] ++ [(t.1 ++ [((n : Nat) : Int)], t.2 ++ [bag])] ++ [t] ++ [(t.1, t.2.set i (z + bag))] ++ [t] ++ [g] ++ [t]).take us.length).length = ss.length := by
      rw [List.length_take]
      simp only [List.length_append, List.length_singleton]
      omega
    generalize (us ++ [V.ref va] ++ [u1] ++ [u2] ++ [u3] ++ [u4] ++ [u5] ++ [u6]) = VS at A0
    generalize (ss ++ [t] ++ [(t.1 ++ [((n : Nat) : Int)], t.2 ++ [bag])] ++ [t] ++ [(t.1, t.2.set i (z + bag))] ++ [t] ++ [g] ++ [t]) = SS at A0 hSt hSl hSd
    obtain ⟨m1, m2, m3⟩ := M15.some3 hD
    have kD0 : Kp D H15 (upd H15 D (.lst [])) := Kp.upd
    refine lc_mut (sng_range (lo := 0) (n := 6)) (fun i ys H' => H' D = some (.lst ys) ∧ ys = List.replicate i (V.bl true) ∧ Kp q' H15 H' ∧ AllP K H' p' q' g' VS SS (us.length + 6 - i)) (by decide)
      ⟨upd_same, rfl, Kp.of (Same.new hD), A0.kp kD0 (Same.new hD).tups m1 m2 m3⟩ (fun _ _ _ _ => trivial) (fun i ys H' z => ⟨z.1, by rw [z.2.1, List.length_replicate]; exact Nat.le_refl _⟩) ?_ ?_
    · rintro k x ys H4' hi4 rfl ⟨hD4, rfl, kk, A⟩ Q4 hq
      obtain ⟨j, hj⟩ : ∃ j, us.length + 6 - k = j + 1 := ⟨us.length + 5 - k, by omega⟩
      rw [hj] at A
      obtain ⟨wv, tw, _, _, PM⟩ := A.pty
      obtain ⟨ez4, iz4⟩ := PM.ins
      refine ⟨_, rfl, p', ez4, _, rfl, iz4, rfl, p', q', g', _, wv, _, tw, [], rfl, PM, ?_⟩
      rw [if_neg (hSl j (by omega))]
      intro H5' k5' hq5'
      have A5 := A.back k5' hq5'
      have hD5 := k5' _ _ Dq hD4
      have kD5 : Kp D H5' (upd H5' D (.lst (List.replicate k (V.bl true) ++ [.bl true]))) := Kp.upd
      refine hq (.bl true) H5' hD5 ⟨upd_same, (List.replicate_succ' (n := k) (a := V.bl true)).symm, fun b o nb eb => ?_, ?_⟩
      · rw [upd_ne (ne_of_none eb hD)]
        exact (kk.trans k5') _ _ nb eb
      · rw [show us.length + 6 - (k + 1) = j by omega]
        exact A5.kp kD5 (kD5.tups hD5) m1 m2 m3
    rintro ys H16 ⟨hD16, rfl, kk, A⟩
    rw [show us.length + 6 - 6 = us.length by omega] at A
    refine ⟨D, List.replicate 6 true, rfl, SqL.of hD16, _, rfl, iteY rfl ?_⟩
    obtain ⟨wv, tw, hw, _, PM⟩ := A.pty
    obtain rfl := hSt tw hw
    obtain ⟨ez4, iz4⟩ := PM.ins
    have tu16 := kk.tups M15.st
    replace hpp := hpp.kp kk tu16 hpn.1 hpn.2.1 hpn.2.2
    replace hu := hu.mono tu16
    obtain ⟨ep2, hep2⟩ := hpp.ins
    refine ⟨_, rfl, p', ez4, _, rfl, iz4, rfl, p', q', g', _, wv, _, _, [], rfl, PM, _, rfl, p, ep2, _, rfl, hep2, rfl, p, q, lg, us, _, ss, _, ls, rfl, hpp, rfl, _, rfl, iteY (by rw [hSd]; simp) ?_⟩
    refine ⟨_, rfl, p', ez4, _, rfl, iz4, rfl, p', q', g', ez4, _, wv, rfl, iz4, PM.st, _, rfl, _, _, PM.tu.dp, hu.dp, shaped_st _, shaped_st _, ?_⟩
    rw [eqv_st, decide_eq_true rfl]
    exact h H16 (Kso.via kk b2) ((sso.kp kk so2).mono (by omega))
end
end Tr
end
section
set_option Elab.async false
set_option linter.all false
set_option maxRecDepth 100000
set_option maxHeartbeats 4000000
set_option pp.maxSteps 400
set_option exponentiation.threshold 4000
namespace Tr
open PySem PySem.Spec PyProof.Rows L2
theorem dq_res {n : Nat} {t t2 : S} {d : Dd} {r : PyData} (h : Vd n t) (hn : n ≤ 7) (hd : DOk n d) (e : dq t d = .ok (r, t2)) : (∃ i, r = .int i) ∨ ∃ ns, r = tI ns ∧ ns.length ≤ 16 := by
  have hv := dq_vd h hn hd e
  cases d with
  | exch x =>
    simp only [dq, exchq] at e
    split at e
    · cases e; exact .inl ⟨_, rfl⟩
    · cases e
  | run row =>
    simp only [dq, rowq] at e
    split at e
    · cases e; exact .inl ⟨_, rfl⟩
    · cases e
  | again row k =>
    simp only [dq, againq] at e
    split at e
    · cases e
      obtain ⟨m, hm, hv, _⟩ := hv
      exact .inr ⟨_, rfl, by rw [hv.rg.l2]; omega⟩
    · cases e
  | go g =>
    simp only [dq, goq] at e
    split at e
    · cases e; exact .inl ⟨_, rfl⟩
    · cases e
  | give i c =>
    simp only [dq, giveq] at e
    split at e
    · cases e; exact .inl ⟨_, rfl⟩
    · cases e
  | take i c =>
    simp only [dq, takeq] at e
    split at e
    · split at e
      · cases e
      · cases e; exact .inl ⟨_, rfl⟩
    · cases e
  | come c =>
    simp only [dq, comeq] at e
    split at e
    · cases e
    · cases e; exact .inl ⟨_, rfl⟩
  | leave i =>
    simp only [dq, leaveq] at e
    split at e
    · split at e
      · cases e
      · cases e; exact .inl ⟨_, rfl⟩
    · cases e
theorem dq_sd {n : Nat} {t : S} {d : Dd} (h : Vd n t) (hn : n ≤ 7) (hd : DOk n d) : SD 2 (resD (dq t d)) := by
  cases e : dq t d with
  | ok a =>
    obtain ⟨r, t2⟩ := a
    refine .inr ⟨[r, .none], rfl, by show 2 ≤ 100; decide, fun x hx => ?_⟩
    rcases List.mem_cons.mp hx with rfl | hx
    · rcases dq_res h hn hd e with ⟨i, rfl⟩ | ⟨ns, rfl, hl⟩
      · exact .inl (.inr (.inl ⟨_, rfl⟩))
      · refine .inr ⟨ns.map .int, rfl, by rw [List.length_map]; omega, fun y hy => ?_⟩
        obtain ⟨i, _, rfl⟩ := List.mem_map.mp hy
        exact .inr (.inl ⟨_, rfl⟩)
    · rw [List.mem_singleton.mp hx]; exact .inl (.inl rfl)
  | error e2 =>
    refine .inr ⟨[.none, erD e2], rfl, by show 2 ≤ 100; decide, fun x hx => ?_⟩
    rcases List.mem_cons.mp hx with rfl | hx
    · exact .inl (.inl rfl)
    · rw [List.mem_singleton.mp hx]
      have := dq_er e
      cases e2 with
      | few =>
        refine .inr ⟨_, rfl, by show 2 ≤ 100; decide, fun y hy => ?_⟩
        rcases List.mem_cons.mp hy with rfl | hy
        · exact .inr (.inr ⟨_, rfl⟩)
        · rw [List.mem_singleton.mp hy]; exact .inl rfl
      | one i v =>
        refine .inr ⟨_, rfl, by show 2 ≤ 100; decide, fun y hy => ?_⟩
        rcases List.mem_cons.mp hy with rfl | hy
        · exact .inr (.inr ⟨_, rfl⟩)
        · rw [List.mem_singleton.mp hy]
          rcases this.2.2 with ⟨z, rfl⟩ | ⟨z, rfl⟩
          · exact .inr (.inl ⟨_, rfl⟩)
          · exact .inr (.inr ⟨_, rfl⟩)
theorem last_of {α : Type} {xs : List α} (h : xs ≠ []) : ∃ ys y, xs = ys ++ [y] := ⟨xs.dropLast, xs.getLast h, (List.dropLast_concat_getLast h).symm⟩
theorem Pty.undo {K : PySem.W.Frag} {H H' : Hp} {p q lg : Addr} {us : List V} {u : V} {ss : List S} {t : S} {ls : List V} (h : Pty K H p q lg us u ss t ls) (hne : ss ≠ []) (k : Kp q H H') (hq : H' q = some (.lst us)) :
    ∃ us2 u2 ss2 t2, ss = ss2 ++ [t2] ∧ Pty K H' p q lg us2 u2 ss2 t2 ls := by
  have lu : us.length = ss.length := by have := h.td.1; rwa [List.length_map] at this
  obtain ⟨ss2, t2, rfl⟩ := last_of hne
  have ln : us ≠ [] := fun z => by rw [z, List.length_append] at lu; simp at lu
  obtain ⟨us2, u2, rfl⟩ := last_of ln
  rw [List.length_append, List.length_append] at lu
  simp only [List.length_singleton] at lu
  obtain ⟨dx, hi⟩ := h.ins
  have tu := k.tups h.st
  have h2 := h.td.mono tu
  refine ⟨us2, u2, ss2, t2, rfl, ⟨dx, k _ _ h.pq hi⟩, hq, ⟨by rw [List.length_map]; omega, fun i x d hx hd => ?_⟩, ?_, k _ _ h.nq.symm h.lo, h.nq, by have := h.len; rw [List.length_append] at this; omega⟩
  · have hx2 := (List.getElem?_eq_some_iff.mp hx).1
    refine h2.2 i x d (by rw [List.getElem?_append_left hx2]; exact hx) ?_
    rw [List.map_append, List.getElem?_append_left (by rw [List.length_map]; omega)]
    exact hd
  · refine h2.2 us2.length u2 _ (by rw [List.getElem?_append_right (Nat.le_refl _)]; simp) ?_
    rw [List.map_append, List.getElem?_append_right (by rw [List.length_map]; omega), List.length_map, show us2.length - ss2.length = 0 by omega]
    rfl
theorem Pty.nrow {K : PySem.W.Frag} {H : Hp} {p q lg : Addr} {us : List V} {u : V} {ss : List S} {t : S} {ls : List V} (h : Pty K H p q lg us u ss t ls) (row : List Int) : us ++ [u] ≠ row.map V.int := fun e => by
  obtain ⟨va, vb, vc, rfl, _⟩ := TD.st h.tu
  have : V.ref va ∈ row.map V.int := by rw [← e]; simp
  obtain ⟨i, _, z⟩ := List.mem_map.mp this
  cases z
theorem Kp.non {l a : Addr} {B H : Hp} (k : Kp l B H) (h : H a = none) (n : a ≠ l) : B a = none := by
  cases e : B a with
  | none => rfl
  | some o => rw [k _ _ n e] at h; cases h
def Fine (C : Int) (s : S) : Prop := ∃ n, n ≤ 7 ∧ Vd n s ∧ s.2.sum ≤ C
theorem Fine.mono {C D : Int} {s : S} (h : Fine C s) (hc : C ≤ D) : Fine D s := by
  obtain ⟨n, a, b, c⟩ := h
  exact ⟨n, a, b, by omega⟩
theorem Fine.next {n : Nat} {C : Int} {t : S} {d : Dd} (hv : Vd n t) (hn : n ≤ 7) (hs : t.2.sum ≤ C) (hd : DOk n d) : Fine (C + 10 ^ 20) (nxS t (dq t d)) := by
  cases e : dq t d with
  | ok a =>
    obtain ⟨r, t2⟩ := a
    obtain ⟨m, a, b, c⟩ := dq_vd hv hn hd e
    exact ⟨m, a, b, by show t2.2.sum ≤ _; omega⟩
  | error e => exact ⟨n, hn, hv, by show t.2.sum ≤ _; omega⟩
def spRight : Sp := fun vs H Q _ => ∃ (so : Addr) (B : Int), vs = [.ref so] ∧ Src B H so ∧ B ≤ 2 ^ 35 ∧ ∀ H', Kp so H H' → Src (B + 100000) H' so → Q (.bl true) H'
section
variable {P : Program} {w : World} {K : PySem.W.Frag} {mg : Str → Option Value} {base : Heap}
theorem sc__law_right : FnScope ["_law_source", "_law_party", "_law_turn", "_law_fresh", "_law_deed_here"] ["_law_source"] (defScope s__law_right) := ⟨rfl, rfl, rfl, by decide +kernel, rfl, by decide +kernel, by decide +kernel⟩
theorem ok__law_right (T : Tx K mg) (Z : Ex K) (D : Dz K w) : FnOk P w K mg base CX0 55 (He.ga K "_law_right") (fdOf K (He.ga K "_law_right")) ["_law_source"] spRight := by
  refine T.F__law_right.ok sc__law_right (fun vs H Q E h => ?_) (fun cdv A outer s H vs Q E hr h => ?_)
  · obtain ⟨so, B, rfl, _⟩ := h
    rfl
  · obtain ⟨so, B, rfl, hs, hB, h⟩ := h
    refine ⟨_, PSs.nox (pss_cons (ps_set (i := 1) sc__law_right.nd rfl (Or.inl rfl) (pe_make T.mkP (ok_Party_init T) (hr.mono (by decide)) rfl T.g_Party T.b_f_Party_init .nil pass0 (pa_cons (pe_call (ok__law_random_state T) (hr.mono (by decide)) rfl T.g__law_random_state T.F__law_random_state.kp T.b_f__law_random_state .nil pass0 (pa_cons (pv 0) (pa_cons (pe_op op_add pe_int (pe_call (ok_draw T 0 (by decide)) (hr.mono (by decide)) rfl T.g__law_draw T.F__law_draw.kp T.b_f__law_draw .nil pass0 (pa_cons (pv 0) (pa_cons pe_int pa_nil)))) (pa_cons (pe_call (ok__law_pick T) (hr.mono (by decide)) rfl T.g__law_pick T.F__law_pick.kp T.b_f__law_pick .nil pass0 (pa_cons (pv 0) (pa_cons (pe_lst (pa_cons pe_int (pa_cons (pe_op op_pow pe_int pe_int) pa_nil))) pa_nil))) pa_nil)))) pa_nil)))
      (pss_cons (ps_for PassesOwn.never rfl (pi_range1 rfl T.b_range (pa_cons (pe_call (ok_draw T 0 (by decide)) (hr.mono (by decide)) rfl T.g__law_draw T.F__law_draw.kp T.b_f__law_draw .nil pass0 (pa_cons (pv 0) (pa_cons pe_int pa_nil))) pa_nil)) (pg_name (i := 2) sc__law_right.nd rfl (Or.inl rfl))
        (pss_one (ps_if (pt_cmpR op_eq (pe_call (ok_draw T 0 (by decide)) (hr.mono (by decide)) rfl T.g__law_draw T.F__law_draw.kp T.b_f__law_draw .nil pass0 (pa_cons (pv 0) (pa_cons pe_int pa_nil))) pe_int (nomark _)) (pss_one (ps_expr (pe_meth0 (pv 1) T.clP T.m_undo (ok_Party_undo T) (hr.mono (by decide)) T.b_f_Party_undo .nil pass0))) (pss_one (ps_expr (pe_call (ok__law_done T Z) (hr.mono (by decide)) rfl T.g__law_done T.F__law_done.kp T.b_f__law_done .nil pass0 (pa_cons (pv 1) (pa_cons (pe_call (ok__law_deed T) (hr.mono (by decide)) rfl T.g__law_deed T.F__law_deed.kp T.b_f__law_deed .nil pass0 (pa_cons (pv 0) (pa_cons (pe_meth0 (pv 1) T.clP T.m_state (ok_Party_state T) (hr.mono (by decide)) T.b_f_Party_state .nil pass0) pa_nil))) pa_nil))))))))
      (pss_cons (ps_set (i := 3) sc__law_right.nd rfl (Or.inl rfl) (pe_make T.mkP (ok_Party_init T) (hr.mono (by decide)) rfl T.g_Party T.b_f_Party_init .nil pass0 (pa_cons (pe_meth0 (pv 1) T.clP T.m_state (ok_Party_state T) (hr.mono (by decide)) T.b_f_Party_state .nil pass0) pa_nil)))
      (pss_cons (ps_if (PW.pt (pw_or (pt_not (pt_cmpR (op_eqP T Z (hr.mono (by decide))) (pv 3) (pv 1) (nomark _))) (pw_or (pt_cmpR op_ne (pe_callB (call_reprP T (hr.mono (by decide))) rfl T.b_repr bt_repr (pa_cons (pv 3) pa_nil)) (pe_callB (call_reprP T (hr.mono (by decide))) rfl T.b_repr bt_repr (pa_cons (pv 1) pa_nil)) (nomark _)) (pw_or1 (pt_cmpR op_ne (pe_callB (call_lenP T (hr.mono (by decide))) rfl T.b_len bt_len (pa_cons (pv 3) pa_nil)) (pe_callB (call_lenP T (hr.mono (by decide))) rfl T.b_len bt_len (pa_cons (pv 1) pa_nil)) (nomark _)))))) (pss_one (ps_ret pe_bl)) pss_nil)
      (pss_cons (ps_for PassesOwn.never rfl (pi_range1 rfl T.b_range (pa_cons pe_int pa_nil)) (pg_name (i := 2) sc__law_right.nd rfl (Or.inl rfl))
        (pss_cons (ps_set (i := 4) sc__law_right.nd rfl (Or.inl rfl) (pe_call (ok__law_deed T) (hr.mono (by decide)) rfl T.g__law_deed T.F__law_deed.kp T.b_f__law_deed .nil pass0 (pa_cons (pv 0) (pa_cons (pe_meth0 (pv 1) T.clP T.m_state (ok_Party_state T) (hr.mono (by decide)) T.b_f_Party_state .nil pass0) pa_nil))))
      (pss_one (ps_if (PW.pt (pw_or (pt_not (pt_val (pe_call (ok_same T 2) (hr.mono (by decide)) rfl T.g__law_same T.F__law_same.kp T.b_f__law_same .nil pass0 (pa_cons (pe_call (ok__law_done T Z) (hr.mono (by decide)) rfl T.g__law_done T.F__law_done.kp T.b_f__law_done .nil pass0 (pa_cons (pv 1) (pa_cons (pv 4) pa_nil))) (pa_cons (pe_call (ok__law_done T Z) (hr.mono (by decide)) rfl T.g__law_done T.F__law_done.kp T.b_f__law_done .nil pass0 (pa_cons (pv 3) (pa_cons (pv 4) pa_nil))) pa_nil))))) (pw_or1 (pt_not (pt_cmpR (op_eqP T Z (hr.mono (by decide))) (pv 3) (pv 1) (nomark _)))))) (pss_one (ps_ret pe_bl)) pss_nil))))
      (pss_one (ps_ret (pe_and (pe_call (ok__law_rows_right T Z D) (hr.mono (by decide)) rfl T.g__law_rows_right T.F__law_rows_right.kp T.b_f__law_rows_right .nil pass0 (pa_cons (pv 0) (pa_cons (pv 1) pa_nil))) (pe_one (pe_call (ok__law_guests_right T Z) (hr.mono (by decide)) rfl T.g__law_guests_right T.F__law_guests_right.kp T.b_f__law_guests_right .nil pass0 (pa_cons (pv 0) (pa_cons (pv 1) pa_nil)))))))))))), ?_⟩
    have ez := sizeLine_eq
    refine ⟨_, rfl, _, rfl, so, _, _, 0, rfl, hs, by omega, by decide, by decide, by decide, fun r H1 r0 r1 k1 s1 => ⟨_, _, rfl, rfl, ?_⟩⟩
    refine ⟨_, rfl, _, _, rfl, rfl, ⟨by decide, by decide, by decide⟩, line2, fun a ha => ?_⟩
    have s2 : Src (B + ((0 : Nat) + 1)) (upd H1 a (.lst [.int 3, .int (10 ^ Int.toNat 30)])) so := s1.same (Same.new ha)
    have aso : a ≠ so := (s1.ne ha).symm
    refine ⟨so, a, _, _, rfl, s2, by omega, upd_same, aso, by show 1 ≤ 2; decide, by show 2 ≤ 100; decide, fun i x H2 hx k2 s3 => ?_⟩
    have hx2 : ∃ top : Int, x = .int top ∧ 0 ≤ top ∧ top ≤ 10 ^ 30 := by
      rcases int2 hx with rfl | rfl
      · exact ⟨_, rfl, by decide, by decide⟩
      · exact ⟨_, rfl, by decide, by decide⟩
    obtain ⟨top, rfl, tp0, tp1⟩ := hx2
    obtain ⟨rn, rfl⟩ : ∃ rn : Nat, r = rn := ⟨r.toNat, by omega⟩
    have k02 : Kp so H H2 := (k1.trans (Kp.of (Same.new ha))).trans k2
    refine ⟨so, _, 2 + rn, top, rfl, s3, by omega, by omega, by omega, tp0, tp1, fun u0 t0 H3 k3 hu0 hv0 hsum0 s4 => ?_⟩
    have k03 : Kp so H H3 := k02.trans k3
    clear hx
    refine fun p dy hp0 hdy hxy => ⟨p, dy, u0, t0, rfl, upd_same, hu0.mono (made_same hp0 hdy hxy).tups, fun q lg u1 H4 k4 hq0 hlg0 P4 => ⟨rfl, ?_⟩⟩
    have e34 := made_kp hp0 hdy hxy k4
    replace hq0 := (made_same hp0 hdy hxy).none hq0
    replace hlg0 := (made_same hp0 hdy hxy).none hlg0
    have k04 : Kp so H H4 := k03.trans (Kp.of e34)
    have s5 := s4.same e34
    have hp0' := hp0
    have pso : p ≠ so := (s4.ne hp0).symm
    have qso : q ≠ so := (s4.ne hq0).symm
    have gso : lg ≠ so := (s4.ne hlg0).symm
    have hqn : H q = none := k03.non hq0 qso
    have F0 : Fine (10 ^ 31) t0 := ⟨2 + rn, by omega, hv0, by
      have h1 : t0.2.sum ≤ ((2 + rn : Nat) : Int) * top := hsum0
      have h2 : ((2 + rn : Nat) : Int) * top ≤ 7 * top := Int.mul_le_mul_of_nonneg_right (by omega) tp0
      omega⟩
    have s5 : Src (B + 200) H4 so := s5.mono (by omega)
    refine ⟨_, rfl, so, _, _, 0, rfl, s5, by omega, by decide, by decide, by decide, fun r H5 q0 q1 k5 s6 => ?_⟩
    obtain ⟨en, rfl⟩ : ∃ en : Nat, r = en := ⟨r.toNat, by omega⟩
    refine ⟨_, rfl, by omega, by omega, ?_⟩
    refine for_sng (sng_range (lo := 0) (n := en)) (fun i σ H' => Kp so H H' ∧ Src (B + 201 + 2000 * (i : Nat)) H' so ∧ ∃ us u ss t y2, Pty K H' p q lg us u ss t [] ∧ ss.length ≤ i ∧ (∀ z, z ∈ ss ++ [t] → Fine (10 ^ 31 + 10 ^ 20 * (i : Nat)) z) ∧ σ = [some (.ref so), some (.ref p), y2, none, none])
      ⟨k04.trans k5, s6.mono (by omega), [], _, [], _, _, P4.kp k5 (s5.tups k5) pso qso gso, Nat.le_refl _, fun z hz => by rw [List.mem_singleton.mp hz]; exact F0.mono (by omega), rfl⟩ (fun _ _ _ _ _ => trivial) ?_ ?_
    · rintro i x σ H6 hi rfl ⟨k6, s6, us, u, ss, t, y2, P6, l6, f6, rfl⟩
      obtain ⟨dx, hi6⟩ := P6.ins
      refine ⟨_, rfl, so, _, _, 0, rfl, s6, by omega, by decide, by decide, by decide, fun r H7 r0 r1 k7 s7 => ?_⟩
      have P7 := P6.kp k7 (s6.tups k7) pso qso gso
      obtain ⟨dx7, hi7⟩ := P7.ins
      have k07 := k6.trans k7
      refine ⟨rfl, _, rfl, ?_⟩
      by_cases c : V.int r = V.int 0
      · refine iteY (decide_eq_true c) ?_
        refine ⟨_, rfl, p, dx7, _, rfl, hi7, rfl, p, q, lg, us, u, ss, t, [], rfl, P7, ?_⟩
        by_cases hne : ss = []
        · rw [if_pos hne]
          exact ⟨k07, s7.mono (by omega), us, u, ss, t, _, P7, by omega, fun z hz => (f6 z hz).mono (by omega), rfl⟩
        · rw [if_neg hne]
          intro H8 k8 hq8
          obtain ⟨us2, u2, ss2, t2, rfl, P8⟩ := P7.undo hne k8 hq8
          refine ⟨k07.via k8 hqn, (s7.kp k8 qso.symm).mono (by omega), us2, u2, ss2, t2, _, P8, by rw [List.length_append] at l6; omega, fun z hz => (f6 z (List.mem_append_left _ hz)).mono (by omega), rfl⟩
      · obtain ⟨n, n7, hn, hsum⟩ := f6 t (by simp)
        refine iteZ (decide_eq_false c) ?_
        refine ⟨_, rfl, _, rfl, _, rfl, p, dx7, _, rfl, hi7, rfl, p, q, lg, dx7, us, u, rfl, hi7, P7.st, so, _, u, t, n, rfl, s7, by omega, P7.tu, hn, n7, fun a d H8 k8 hd hok s8 => ?_⟩
        have P8 := P7.kp k8 (s7.tups k8) pso qso gso
        refine ⟨p, q, lg, us, u, ss, t, [], n, a, d, rfl, P8, hn, by omega, by omega, hd, hok, fun rv us2 u2 ss2 H9 k9 P9 e9 hr9 => ?_⟩
        refine ⟨(k07.trans k8).via k9 hqn, (s8.kp k9 qso.symm).mono (by omega), us2, u2, ss2, _, _, P9, ?_, fun z hz => ?_, rfl⟩
        · rcases e9 with rfl | rfl
          · omega
          · rw [List.length_append, List.length_singleton]; omega
        · rcases List.mem_append.mp hz with hz | hz
          · rcases e9 with rfl | rfl
            · exact (f6 z (List.mem_append_left _ hz)).mono (by omega)
            · exact (f6 z hz).mono (by omega)
          · rw [List.mem_singleton.mp hz]
            exact (Fine.next hn n7 hsum hok).mono (by omega)
    rintro σ H6 ⟨k6, s6, us, u, ss, t, y2, P6, l6, f6, rfl⟩
    obtain ⟨dx6, hi6⟩ := P6.ins
    obtain ⟨n, n7, hn, hsum⟩ := f6 t (by simp)
    have e16 : en ≤ 16 := by omega
    refine ⟨_, rfl, p, dx6, _, rfl, hi6, rfl, p, q, lg, dx6, us, u, rfl, hi6, P6.st, fun pf dyf hpf hdyf hxyf => ⟨pf, dyf, u, t, rfl, upd_same, P6.tu.mono (made_same hpf hdyf hxyf).tups, fun qf gf uf H7 k7 hqf hgf F7 => ⟨rfl, ?_⟩⟩⟩
    have e67 := made_kp hpf hdyf hxyf k7
    replace hqf := (made_same hpf hdyf hxyf).none hqf
    replace hgf := (made_same hpf hdyf hxyf).none hgf
    obtain ⟨a1, a2, a3⟩ := P6.some3 hpf
    obtain ⟨b1, b2, b3⟩ := P6.some3 hqf
    obtain ⟨c1, c2, c3⟩ := P6.some3 hgf
    have d1 : pf ≠ so := (s6.ne hpf).symm
    have d2 : qf ≠ so := (s6.ne hqf).symm
    have d3 : gf ≠ so := (s6.ne hgf).symm
    have hqfn : H qf = none := k6.non hqf d2
    have P7 := P6.same e67
    have s7 := s6.same e67
    have k07 : Kp so H H7 := k6.trans (Kp.of e67)
    obtain ⟨dx7, hi7⟩ := P7.ins
    obtain ⟨ex7, hj7⟩ := F7.ins
    have l1 := hn.rg.l1
    have l2 := hn.rg.l2
    have n2 := hn.two
    have n16 := hn.rg.top
    have hlog : t.2.sum.natAbs.log2 < 1920 := by
      have h0 : 0 ≤ t.2.sum := by
        have := ls_nonneg (l := t.2) (f := fun x => x) hn.nn
        rwa [List.map_id'] at this
      by_cases hz : t.2.sum.natAbs = 0
      · rw [hz]; decide
      · refine Nat.lt_of_lt_of_le ((Nat.log2_lt hz).mpr (?_ : t.2.sum.natAbs < 2 ^ 170)) (by decide)
        omega
    refine ⟨_, rfl, _, rfl, pf, ex7, _, p, dx7, _, rfl, rfl, hj7, hi7, pf, qf, gf, _, uf, _, t, _, p, q, lg, us, u, ss, t, [], rfl, F7, P7, by omega, by omega, by omega, by omega, _, rfl, iteZ (by simp) ?_⟩
    refine ⟨_, rfl, pf, ex7, _, rfl, hj7, pf, qf, gf, _, uf, _, t, _, n, rfl, F7, hn.rg, hlog, _, rfl, _, rfl, p, dx7, _, rfl, hi7, p, q, lg, us, u, ss, t, [], n, rfl, P7, hn.rg, hlog, _, rfl, ?_⟩
    refine ⟨rfl, _, rfl, iteZ (by simp) ?_⟩
    refine ⟨_, rfl, pf, ex7, _, rfl, hj7, pf, qf, gf, ex7, _, uf, t, rfl, hj7, F7.st, F7.tu, _, rfl, by omega, _, rfl, p, dx7, _, rfl, hi7, p, q, lg, dx7, us, u, t, rfl, hi7, P7.st, P7.tu, _, rfl, by omega, ?_⟩
    refine ⟨rfl, _, rfl, iteZ (by simp) ?_⟩
    have Ft : Fine (10 ^ 31 + 10 ^ 20 * (en : Int)) t := ⟨n, n7, hn, hsum⟩
    refine ⟨_, rfl, by omega, by omega, ?_⟩
    refine for_sng (sng_range (lo := 0) (n := 5)) (fun i σ H' => Kp so H H' ∧ Src (B + 40000 + 2000 * (i : Nat)) H' so ∧ ∃ us u ss t us' u' ss' y2 y4, Pty K H' p q lg us u ss t [] ∧ Pty K H' pf qf gf us' u' ss' t [] ∧ ss.length ≤ 16 + i ∧ ss'.length ≤ i ∧ Fine (10 ^ 31 + 10 ^ 20 * (16 + (i : Nat))) t ∧ σ = [some (.ref so), some (.ref p), y2, some (.ref pf), y4])
      ⟨k07, s7.mono (by omega), us, u, ss, t, [], uf, [], _, _, P7, F7, by omega, Nat.le_refl _, Ft.mono (by omega), rfl⟩ (fun _ _ _ _ _ => trivial) ?_ ?_
    · rintro i x σ H6 hi rfl ⟨k6, s6, us, u, ss, t, us', u', ss', y2, y4, P6, F6, l6, l6', ⟨n, n7, hn, hsum⟩, rfl⟩
      obtain ⟨dx6, hi6⟩ := P6.ins
      refine ⟨_, rfl, _, rfl, p, dx6, _, rfl, hi6, rfl, p, q, lg, dx6, us, u, rfl, hi6, P6.st, so, _, u, t, n, rfl, s6, by omega, P6.tu, hn, n7, fun a d H8 k8 hd hok s8 => ?_⟩
      have P8 := P6.kp k8 (s6.tups k8) pso qso gso
      have F8 := F6.kp k8 (s6.tups k8) d1 d2 d3
      have l1 := hn.rg.l1
      refine ⟨_, rfl, _, rfl, p, q, lg, us, u, ss, t, [], n, a, d, rfl, P8, hn, by omega, by omega, hd, hok, fun rv us2 u2 ss2 H9 k9 P9 e9 hr9 => ?_⟩
      have tu9 := k9.tups P8.st
      have F9 := F8.kp k9 tu9 a2.symm b2.symm c2.symm
      have hd9 := hd.kp k9 P8.st P8.nrow
      have s9 := s8.kp k9 qso.symm
      have k09 := (k6.trans k8).via k9 hqn
      refine ⟨_, rfl, _, rfl, pf, qf, gf, us', u', ss', t, [], n, a, d, rfl, F9, hn, by omega, by omega, hd9, hok, fun rw us3 u3 ss3 H10 k10 F10 e10 hr10 => ?_⟩
      have tu10 := k10.tups F9.st
      have P10 := P9.kp k10 tu10 b1 b2 b3
      have s10 := s9.kp k10 d2.symm
      have k010 := k09.via k10 hqfn
      have Fn := Fine.next hn n7 hsum hok
      refine ⟨rv, rw, _, rfl, hr9.mono tu10, hr10, dq_sd hn n7 hok, fun H11 e11 => ⟨_, rfl, iteZ rfl ?_⟩⟩
      generalize nxS t (dq t d) = t2 at *
      have P11 := P10.same e11
      have F11 := F10.same e11
      obtain ⟨dx11, hi11⟩ := P11.ins
      obtain ⟨ex11, hj11⟩ := F11.ins
      obtain ⟨m, m7, hm, hmsum⟩ := Fn
      have m1 := hm.rg.l1
      have m2 := hm.rg.l2
      refine ⟨_, rfl, _, rfl, pf, ex11, _, p, dx11, _, rfl, rfl, hj11, hi11, pf, qf, gf, _, _, _, t2, _, p, q, lg, _, _, _, t2, [], rfl, F11, P11, by omega, by omega, by omega, by omega, _, rfl, iteZ (by simp) ?_⟩
      refine ⟨k010.trans (Kp.of e11), (s10.same e11).mono (by omega), us2, u2, ss2, t2, us3, u3, ss3, _, _, P11, F11, ?_, ?_, ⟨m, m7, hm, by omega⟩, rfl⟩
      · rcases e9 with rfl | rfl
        · omega
        · rw [List.length_append, List.length_singleton]; omega
      · rcases e10 with rfl | rfl
        · omega
        · rw [List.length_append, List.length_singleton]; omega
    rintro σ H8 ⟨k8, s8, us, u, ss, t, us', u', ss', y2, y4, P8, F8, l8, l8', ⟨n, n7, hn, hsum⟩, rfl⟩
    refine ⟨_, rfl, _, rfl, so, _, p, q, lg, us, u, ss, t, [], n, rfl, s8, by omega, P8, hn, n7, by omega, by omega, gso.symm, fun H9 k9 s9 => ?_⟩
    have P9 := P8.kp k9 (s8.tups k9) pso qso gso
    refine ⟨_, rfl, iteY rfl ?_⟩
    refine ⟨_, rfl, _, rfl, so, _, p, q, lg, us, u, ss, t, [], n, rfl, s9, by omega, P9, hn, n7, by omega, by omega, gso.symm, fun H10 k10 s10 => ?_⟩
    exact h H10 ((k8.trans k9).trans k10) (s10.mono (by omega))
end
end Tr
end
section
set_option Elab.async false
set_option linter.all false
set_option maxRecDepth 100000
set_option maxHeartbeats 0
namespace Tr
open PySem PySem.Spec PyProof.Rows L2

def nm0 : List PySem.Str := ["choose", "placements", "seatings", "spread", "seated_with", "ways_with", "NoPerson", "NoSeat", "NoNumber", "NoDeed", "OtherPeople", "BadDeed", "Empty", "Barred", "Stops", "Few", "Full", "as_state", "people_many", "sitting"]
def nm1 : List PySem.Str := ["coins_of", "kept_of", "total", "look_people", "exchanges", "exchanges_moves", "exchanged", "states_along", "run", "run_moves", "TOTAL", "reason_of", "bar", "look_leads", "steps_of", "meetings", "crossings", "distance", "quota_of", "many_with"]
def nm2 : List PySem.Str := ["lot_many", "least_purses", "shares_before", "share_at", "shares_at", "rounds_left", "state_with", "state_at", "flows", "turn_from", "gains", "failures", "first_failure", "passes_many", "after_passes", "MOST_PEOPLE", "LEAST_PEOPLE", "IN", "OUT", "SIZES"]
def nm3 : List PySem.Str := ["is_deed", "with_purse", "without", "Party", "_law_stream", "_law_draw", "_law_folded", "_law_pick", "_law_same", "_law_shuffled", "_law_random_state", "_law_swapped", "_law_random_row", "_law_run", "_law_named", "_law_missing", "_law_done", "_law_moved", "_law_deed", "_law_rows_right"]
def nm4 : List PySem.Str := ["_law_guests_right", "_law_right"]
def nms : List PySem.Str := nm0 ++ (nm1 ++ (nm2 ++ (nm3 ++ nm4)))
abbrev R : PySem.W.OpenRow := PySem.W.OpenLaw.row RW
/-! ### the addresses that are looked at -/
def dV (g : Addr → Option Obj) (a : Addr) : List Addr := match g a with
  | some o => (match o.data with
    | .dict es _ => es.toList.flatMap fun e => He.refV e.val
    | _ => [])
  | none => []
def fP (g : Addr → Option Obj) (a : Addr) : List Addr := match g a with
  | some o => (match o.data with
    | .func fd => a :: (He.refV fd.code ++ He.refV fd.kwdefaults)
    | _ => [])
  | none => []
def cP (g : Addr → Option Obj) (a : Addr) : List Addr := match g a with
  | some o => (match o.data with
    | .cls cd => a :: cd.ns :: (dV g cd.ns).flatMap (fP g)
    | .func fd => a :: (He.refV fd.code ++ He.refV fd.kwdefaults)
    | _ => [a])
  | none => []
def asM (g : Addr → Option Obj) : List Addr := mainGlobals :: (dV g mainGlobals).flatMap (cP g)
/-- the keys of the table of sizes -/
def szK : List PySem.Str := ["exchange", "run", "again", "go", "give", "take", "come", "leave"]
abbrev AlM : Type := He.AlD × Bool × Option (List (Option (PySem.Str × Int)))
def obM (fa : List He.Fa) (fn : List He.DefD) (ex : PySem.W.Frag → Bool) (g : Addr → Option Obj) : AlM := (He.obsD fa fn (He.frG g (asM g)), ex (He.frG g (asM g)), He.dicW (He.frG g (asM g)) (He.ga (He.frG g (asM g)) "SIZES"))
def hkM (fa : List He.Fa) (fn : List He.DefD) (ex : PySem.W.Frag → Bool) : PySem.W.Hook where
  α := AlM
  obs := fun s => obM fa fn ex s.heap.get?
  val := fun w => (He.valD fn, true, some (He.keysIn w.params szK))
  says := fun w h => ∃ K : PySem.W.Frag, K.In h ∧ He.SaysD fa fn K ∧ ex K = true ∧ He.dicW K (He.ga K "SIZES") = some (He.keysIn w.params szK)
  of := fun _ _ e => ⟨_, He.frG_in, (Prod.mk.inj e).1, (Prod.mk.inj (Prod.mk.inj e).2).1, (Prod.mk.inj (Prod.mk.inj e).2).2⟩
  keeps := fun _ _ _ ⟨K, hK, c⟩ k => ⟨K, PySem.W.Frag.In.keeps hK k, c⟩
theorem obM_eq {fa : List He.Fa} {fn : List He.DefD} {ex : PySem.W.Frag → Bool} {g : Addr → Option Obj} {s : Shared} (h : ∀ a, g a = s.heap.get? a) : obM fa fn ex g = (hkM fa fn ex).obs s := by
  have e : g = s.heap.get? := funext h
  subst e
  rfl
abbrev hk : PySem.W.Hook := hkM fa fn exAll
def ob (s : PySem.W.SharedT) : AlM := obM fa fn exAll (HandSHeadRun.getT s)
theorem ob_eq (s : PySem.W.SharedT) : ob s = hk.obs s.abs := obM_eq (HandSHeadRun.getT_eq s)
def PP (w : World) : Prop := HandSHeadRun.RunEq R (PySem.W.view R.prog [91]) hk ob 9000 nms w
theorem run0 (w : World) : PP (w.withFollow "special-get-raises" false) := by
  intro os
  kernel_rfl
theorem run1 (w : World) : PP (w.withFollow "special-get-raises" true) := by
  intro os
  kernel_rfl
theorem run (w : World) : PP w := PySem.W.byRow2 "special-get-raises" run0 run1 w
end Tr
end
section
set_option Elab.async false
set_option linter.all false
set_option maxRecDepth 100000
set_option maxHeartbeats 0
namespace Tr
open PySem PySem.Spec PyProof.Rows L2
/-- the law's promise -/
def spLaw (K : PySem.W.Frag) : Sp := fun vs H Q _ => ∃ (a : Addr) (ns : List Int), vs = [.ref a] ∧ SqL K H a (ns.map V.int) ∧ ns.length ≤ 63 ∧ ∀ H', Q (.bl true) H'
abbrev lvl : Nat := 60
def AllOk : Prop := ∀ (w : World) (K : PySem.W.Frag) (mg : Str → Option Value) (base : Heap), K.In base → base.Ns mainGlobals mg → He.SaysD fa fn K → exAll K = true → He.dicW K (He.ga K "SIZES") = some (He.keysIn w.params szK) →
  FnOk RW.prog w K mg base CX0 lvl (He.fAd K d_law.at_) (match K.lookup (He.fAd K d_law.at_) with | some ⟨_, _, .func fd, _⟩ => fd | _ => default) ["_law_script"] (spLaw K)
end Tr
open PySem PySem.W PySem.Calls PyProof.Rows
theorem holds_of (hA : Tr.AllOk) : PySem.Challenge.rw_tollround_k78_whole_a_party_made_anew.Holds := by
  w_on; o_law
  refine HandSHeadRun.head_any (r := Tr.R) (q := view Tr.R.prog [91]) (H := Tr.hk) (ob := Tr.ob) (M := 9000) (loose := Tr.nms) (d := HandSHeadRun.topDef Tr.R.prog 91) (kwd := []) Tr.ob_eq
    (by kernel_rfl) (fun s => by kernel_rfl) Tr.run (by kernel_rfl) (by kernel_rfl) (by kernel_rfl) (by rfl) (by first | assumption | decide +kernel) (by decide +kernel) ⟨rfl, rfl, rfl, rfl, rfl, by decide +kernel⟩ ?hw ?hc
  case hw => w_witness2
  case hc =>
    refine L2.walk_ofE (l := Tr.RW) (n := 63) (k := Tr.lvl) (x := "_law_script") (CX := L2.CX0) rfl (by decide) (by kernel_rfl) ⟨rfl, by decide, by decide⟩ ?F (fun _ _ _ _ z => z)
    intro w mg fa h Y G hmg0
    obtain ⟨K, KX, c, x, d⟩ := Y
    have hmg : mg ("law" : PySem.Str) = some (.ref fa) := by
      have e : (HandSHeadRun.topDef Tr.R.prog 91).name = ("law" : PySem.Str) := by kernel_rfl
      rw [← e]
      exact hmg0
    have e1 := hmg.symm.trans (He.glo_ok KX G (c.fact 77 (f := .glo "law") rfl))
    have e2 : fa = He.fAd K Tr.d_law.at_ := Value.ref.inj (Option.some.inj e1)
    subst e2
    obtain ⟨fd, F⟩ := c.def_ 96 (d := Tr.d_law) rfl
    have b := L2.FunD.bindsA (ps := ["_law_script"]) F fun _ _ _ _ _ _ us hl => match us, hl with | [_], _ => rfl
    have lk : (match K.lookup (He.fAd K Tr.d_law.at_) with | some ⟨_, _, .func fd, _⟩ => fd | _ => default) = fd := by
      obtain ⟨oc, od, dV, kV, doc, pm, an, cdv, ct, osl, e, l, _⟩ := F.ex
      rw [l]
    refine ⟨K, fd, Tr.spLaw K, KX, fun s v => b s [v] rfl, fun H a ns hl _ hS => ⟨a, ns, rfl, hS, hl, fun _ => rfl⟩, fun base bK bG => ?_⟩
    have z := hA w K mg base bK bG c x d
    rw [lk] at z
    exact z
end
section
set_option Elab.async false
set_option linter.all false
set_option maxRecDepth 100000
set_option maxHeartbeats 4000000
set_option pp.maxSteps 400
namespace Tr
open PySem PySem.Spec PyProof.Rows L2
section
variable {P : Program} {w : World} {K : PySem.W.Frag} {mg : Str → Option Value} {base : Heap}
theorem sc_law : FnScope ["_law_script", "_law_cells", "_law_k", "_law_source", "_law_turn"] ["_law_script"] (defScope s_law) := ⟨rfl, rfl, rfl, by decide +kernel, rfl, by decide +kernel, by decide +kernel⟩
theorem ok_law (T : Tx K mg) (Z : Ex K) (D : Dz K w) : FnOk P w K mg base CX0 60 (He.ga K "law") (fdOf K (He.ga K "law")) ["_law_script"] (spLaw K) := by
  refine T.F_law.ok sc_law (fun vs H Q E h => ?_) (fun cdv A outer s H vs Q E hr h => ?_)
  · obtain ⟨a, ns, rfl, _⟩ := h
    rfl
  · obtain ⟨a, ns, rfl, ha, hl, h⟩ := h
    refine ⟨_, PSs.nox (pss_cons (ps_set (i := 1) sc_law.nd rfl (Or.inl rfl) (pe_call (ok__law_folded T) (hr.mono (by decide)) rfl T.g__law_folded T.F__law_folded.kp T.b_f__law_folded .nil pass0 (pa_cons (pv 0) (pa_cons pe_int pa_nil))))
      (pss_cons (ps_for PassesOwn.never rfl (pi_range1 rfl T.b_range (pa_cons (pe_callB call_len_seq rfl T.b_len bt_len (pa_cons (pv 1) pa_nil)) pa_nil)) (pg_name (i := 2) sc_law.nd rfl (Or.inl rfl))
        (pss_cons (ps_set (i := 3) sc_law.nd rfl (Or.inr rfl) (pe_call (ok__law_stream T) (hr.mono (by decide)) rfl T.g__law_stream T.F__law_stream.kp T.b_f__law_stream .nil pass0 (pa_cons (pv 1) (pa_cons (pv 2) pa_nil))))
      (pss_one (ps_if (pt_not (pt_val (pe_callB (cr_all rfl) rfl T.b_all bt_all (pa_cons (pe_lc (own := [("_law_turn", 4)]) (g := gName 4) rfl sc_law.nd (pi_range1 rfl T.b_range (pa_cons pe_int pa_nil)) (blkOk_by (own := [("_law_turn", 4)]) (N := ["_law_script", "_law_cells", "_law_k", "_law_source", "_law_turn"]) (by kernel_rfl)) (fun _ _ _ _ _ => (pg_name (i := 4) sc_law.nd rfl (Or.inl rfl))) (fun _ _ _ _ _ => pts_nil) (fun _ _ _ _ _ => (pe_call (ok__law_right T Z D) (hr.mono (by decide)) rfl T.g__law_right T.F__law_right.kp T.b_f__law_right .nil pass0 (pa_cons (pv 3) pa_nil)))) pa_nil)))) (pss_one (ps_ret pe_bl)) pss_nil))))
      (pss_one (ps_ret pe_bl)))), ?_⟩
    have ez := sizeLine_eq
    refine ⟨_, rfl, a, ns, rfl, ha, hl, fun p ms H1 hp0 s1 hp l1 l3 => ?_⟩
    refine ⟨_, rfl, p, _, rfl, .inl (SqL.of hp), _, rfl, by rw [List.length_map]; omega, by rw [List.length_map]; omega, ?_⟩
    refine for_sng (sng_range (lo := 0) (n := (ms.map V.int).length)) (fun i σ H' => H' p = some (.lst (ms.map .int)) ∧ ∃ y z, σ = [some (.ref a), some (.ref p), y, z, none])
      ⟨hp, _, _, rfl⟩ (fun _ _ _ _ _ => trivial) ?_ ?_
    · rintro i x σ H2 hi rfl ⟨h2, y, z, rfl⟩
      rw [List.length_map] at hi
      refine ⟨_, rfl, _, rfl, p, ms, i, by rw [Int.zero_add]; rfl, h2, hi, by omega, fun so H3 hso s3 q3 => ?_⟩
      have h3 := s3 _ _ h2
      have pso : p ≠ so := ne_of_none h2 hso
      refine ⟨_, rfl, by decide, by decide, fun D1 hD => ?_⟩
      refine lc_mut (sng_range (lo := 0) (n := 2)) (fun i ys H' => H' D1 = some (.lst ys) ∧ ys = (List.replicate i true).map V.bl ∧ Src (100000 * (i : Nat)) H' so ∧ H' p = some (.lst (ms.map .int))) (by decide)
        ⟨upd_same, rfl, (q3.same (Same.new hD)).mono (by omega), kp1 h3 hD⟩ (fun _ _ _ _ => trivial) (fun i ys H' z => ⟨z.1, by rw [z.2.1]; simp⟩) ?_ ?_
      · rintro j x ys H4 hj rfl ⟨hD4, rfl, s4, h4⟩ Q4 hq
        refine ⟨_, rfl, so, _, rfl, s4, by omega, fun H5 k5 s5 => ?_⟩
        have dso : D1 ≠ so := (q3.ne hD).symm
        have hD5 := k5 _ _ dso hD4
        refine hq (.bl true) H5 hD5 ⟨upd_same, ?_, ?_, ?_⟩
        · rw [List.replicate_succ', List.map_append]; rfl
        · exact (s5.kp (Kp.upd (l := D1)) dso.symm).mono (by omega)
        · rw [upd_ne (ne_of_none h3 hD)]
          exact k5 _ _ pso h4
      rintro ys H4 ⟨hD4, rfl, s4, h4⟩
      exact ⟨D1, List.replicate 2 true, rfl, SqL.of hD4, _, rfl, iteZ rfl ⟨h4, _, _, rfl⟩⟩
    · rintro σ H2 ⟨h2, y, z, rfl⟩
      exact h H2
end
theorem all_ok : AllOk := fun _ _ _ _ X G c x d => ok_law (tx_mk X G c) (ex_mk x) (He.dicW_ok d)
end Tr
end
theorem PySem.Challenge.cw_tollround_k78_whole_a_party_made_anew_holds : PySem.Challenge.rw_tollround_k78_whole_a_party_made_anew.Holds :=
  holds_of Tr.all_ok
