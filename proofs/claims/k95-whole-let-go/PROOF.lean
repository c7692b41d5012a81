import PyProof.Rows.All
import Wide.All
import OpenK.AllK
import Wide.FinOn
import KE.KStateDown
import Lean
import HandS.ForMost
import HandS.ForExc
import HandS.More
import HandS.Defaults
import HandS.Deep
import HandS.IsInst
import HandS.Conv
import HandS.SortInts
import HandS.ExcInit
import HandS.Nested
import HandS.CallLocal
import HandS.SortKw
import HandS.TupAny
import HandS.DictTup
import HandS.Head0
import HandS.Head1
import HandS.Head2
import HandS.HeadEnd
import HandS.HeadHook1
import HandS.HeadHook2
import HandS.HeadHook3
import HandS.HeadHook4
import HandS.HeadWalk
import KE.SortKeyHeap
import KE.DataMinKey
import KE.KDictKeyed
import KE.GoesDict
import PySem.Challenge.RW_groupcall_k95_whole_let_go
import KE.KBits
import HandS.TupSets
set_option Elab.async false
set_option linter.all false
set_option maxRecDepth 100000
set_option maxHeartbeats 4000000
set_option pp.maxSteps 1200
namespace G
open PySem PySem.Spec PyProof.Rows L2
/-! ### the text by places -/
def top (i : Nat) : Stmt := PySem.Challenge.pw_groupcall_k95_whole_let_go.main.body.getD i (.Pass ⟨0, 0, 0, 0⟩)
abbrev s_has : Stmt := top 2
abbrev s_hands_of : Stmt := top 3
abbrev s_set_of : Stmt := top 4
abbrev s_many : Stmt := top 5
abbrev s_least : Stmt := top 6
abbrev s_more_than_half : Stmt := top 7
abbrev s_under : Stmt := top 9
abbrev s_ballot_of : Stmt := top 10
abbrev s_Change_init : Stmt := inClass (top 11) 0
abbrev s_Change_begin : Stmt := inClass (top 11) 1
abbrev s_Change_message : Stmt := inClass (top 11) 2
abbrev s_Change_receive : Stmt := inClass (top 11) 3
abbrev s_Change_receive_yes : Stmt := inClass (top 11) 4
abbrev s_Change_unplanned : Stmt := inClass (top 11) 5
abbrev s_Change_settle : Stmt := inClass (top 11) 6
abbrev s_Change_enough : Stmt := inClass (top 11) 7
abbrev s_Change_propose : Stmt := inClass (top 11) 8
abbrev s_Change_settled : Stmt := inClass (top 11) 9
abbrev s_Stopped_init : Stmt := inClass (top 20) 0
abbrev s_Held_init : Stmt := inClass (top 21) 0
abbrev s_count_of : Stmt := top 23
abbrev s_covers : Stmt := top 24
abbrev s_covers_name : Stmt := top 25
abbrev s_joined : Stmt := top 26
abbrev s_common : Stmt := top 27
abbrev s_packed : Stmt := top 28
abbrev s_unpacked : Stmt := top 29
abbrev s_in_row : Stmt := top 31
abbrev s_Call_init : Stmt := inClass (top 32) 0
abbrev s_Call_name : Stmt := inClass (top 32) 1
abbrev s_Call_free : Stmt := inClass (top 32) 3
abbrev s_Call_asks_place : Stmt := inClass (top 32) 4
abbrev s_Call_told : Stmt := inClass (top 32) 5
abbrev s_OwnCall_kind : Stmt := inClass (top 33) 0
abbrev s_HeardCall_kind : Stmt := inClass (top 34) 0
abbrev s_HeardCall_free : Stmt := inClass (top 34) 1
abbrev s_OneCall_kind : Stmt := inClass (top 35) 0
abbrev s_OneCall_asks_place : Stmt := inClass (top 35) 1
abbrev s_make_call : Stmt := top 36
abbrev s_call_of : Stmt := top 37
abbrev s_Known_init : Stmt := inClass (top 39) 0
abbrev s_Known_learn : Stmt := inClass (top 39) 1
abbrev s_Known_row_of : Stmt := inClass (top 39) 2
abbrev s_Known_floor : Stmt := inClass (top 39) 3
abbrev s_Known_reach : Stmt := inClass (top 39) 4
abbrev s_Known_sure : Stmt := inClass (top 39) 5
abbrev s_Known_listed : Stmt := inClass (top 39) 6
abbrev s_Known_merge : Stmt := inClass (top 39) 7
abbrev s_next_name : Stmt := top 41
abbrev s_rank : Stmt := top 42
abbrev s_can_take : Stmt := top 43
abbrev s_run : Stmt := top 44
abbrev s_first_asking : Stmt := top 45
abbrev s_covered : Stmt := top 46
abbrev s_placed : Stmt := top 47
abbrev s_by_row : Stmt := top 49
abbrev s_Page_init : Stmt := inClass (top 50) 0
abbrev s_Page_utter : Stmt := inClass (top 50) 1
abbrev s_Page_sorted_calls : Stmt := inClass (top 50) 2
abbrev s_Page_take : Stmt := inClass (top 50) 3
abbrev s_Page_step : Stmt := inClass (top 50) 4
abbrev s_Page_let_go : Stmt := inClass (top 50) 5
abbrev s_Page_piece : Stmt := inClass (top 50) 6
abbrev s_Page_listen : Stmt := inClass (top 50) 7
abbrev s_Page_report : Stmt := inClass (top 50) 8
abbrev s_Page_finish : Stmt := inClass (top 50) 9
abbrev s_Page_rows : Stmt := inClass (top 50) 10
abbrev s_Page_kept : Stmt := inClass (top 50) 12
abbrev s_base_of : Stmt := top 52
abbrev s_places_of : Stmt := top 53
abbrev s_calls_beyond : Stmt := top 54
abbrev s_first_plan : Stmt := top 55
abbrev s_lacking : Stmt := top 57
abbrev s_Hand_init : Stmt := inClass (top 58) 0
abbrev s_Hand_stand : Stmt := inClass (top 58) 1
abbrev s_Hand_go_out : Stmt := inClass (top 58) 2
abbrev s_Hand_note : Stmt := inClass (top 58) 3
abbrev s_Hand_go_by : Stmt := inClass (top 58) 4
abbrev s_Hand_settle : Stmt := inClass (top 58) 5
abbrev s_Hand_call : Stmt := inClass (top 58) 6
abbrev s_Hand_renew : Stmt := inClass (top 58) 7
abbrev s_Hand_suspect : Stmt := inClass (top 58) 8
abbrev s_Hand_leave : Stmt := inClass (top 58) 9
abbrev s_Hand_come : Stmt := inClass (top 58) 10
abbrev s_Hand_letter : Stmt := inClass (top 58) 11
abbrev s_Hand_hear : Stmt := inClass (top 58) 12
abbrev s_Hand_hear_away : Stmt := inClass (top 58) 13
abbrev s_Hand_hear_list : Stmt := inClass (top 58) 14
abbrev s_Hand_events : Stmt := inClass (top 58) 15
abbrev s_Hand_standing : Stmt := inClass (top 58) 16
abbrev s_Hand_kept : Stmt := inClass (top 58) 18
abbrev s_law_cell_at : Stmt := top 60
abbrev s_law_mixed : Stmt := top 61
abbrev s_law_drawn : Stmt := top 62
abbrev s_law_word : Stmt := top 63
abbrev s_law_hands : Stmt := top 64
abbrev s_law_world : Stmt := top 65
abbrev s_law_counts : Stmt := top 66
abbrev s_law_call : Stmt := top 67
abbrev s_law_leave : Stmt := top 68
abbrev s_law_round : Stmt := top 69
abbrev s_law_small : Stmt := top 70
abbrev s_law_parted : Stmt := top 71
abbrev s_law_gathered : Stmt := top 72
abbrev s_law_deed : Stmt := top 73
abbrev s_law_taken : Stmt := top 74
abbrev s_law_right : Stmt := top 75
abbrev s_law : Stmt := top 76
/-! ### the defs as data -/
def d_has : He.DefD := ⟨("has", none), "has", "has", defArgs s_has, defBody s_has, defScope s_has, [], []⟩
def d_hands_of : He.DefD := ⟨("hands_of", none), "hands_of", "hands_of", defArgs s_hands_of, defBody s_hands_of, defScope s_hands_of, [], []⟩
def d_set_of : He.DefD := ⟨("set_of", none), "set_of", "set_of", defArgs s_set_of, defBody s_set_of, defScope s_set_of, [], []⟩
def d_many : He.DefD := ⟨("many", none), "many", "many", defArgs s_many, defBody s_many, defScope s_many, [], []⟩
def d_least : He.DefD := ⟨("least", none), "least", "least", defArgs s_least, defBody s_least, defScope s_least, [], []⟩
def d_more_than_half : He.DefD := ⟨("more_than_half", none), "more_than_half", "more_than_half", defArgs s_more_than_half, defBody s_more_than_half, defScope s_more_than_half, [], []⟩
def d_under : He.DefD := ⟨("under", none), "under", "under", defArgs s_under, defBody s_under, defScope s_under, [], []⟩
def d_ballot_of : He.DefD := ⟨("ballot_of", none), "ballot_of", "ballot_of", defArgs s_ballot_of, defBody s_ballot_of, defScope s_ballot_of, [], []⟩
def d_Change_init : He.DefD := ⟨("Change", some "__init__"), "__init__", "Change.__init__", defArgs s_Change_init, defBody s_Change_init, defScope s_Change_init, [], []⟩
def d_Change_begin : He.DefD := ⟨("Change", some "begin"), "begin", "Change.begin", defArgs s_Change_begin, defBody s_Change_begin, defScope s_Change_begin, [], []⟩
def d_Change_message : He.DefD := ⟨("Change", some "message"), "message", "Change.message", defArgs s_Change_message, defBody s_Change_message, defScope s_Change_message, [], []⟩
def d_Change_receive : He.DefD := ⟨("Change", some "receive"), "receive", "Change.receive", defArgs s_Change_receive, defBody s_Change_receive, defScope s_Change_receive, [], []⟩
def d_Change_receive_yes : He.DefD := ⟨("Change", some "receive_yes"), "receive_yes", "Change.receive_yes", defArgs s_Change_receive_yes, defBody s_Change_receive_yes, defScope s_Change_receive_yes, [], []⟩
def d_Change_unplanned : He.DefD := ⟨("Change", some "unplanned"), "unplanned", "Change.unplanned", defArgs s_Change_unplanned, defBody s_Change_unplanned, defScope s_Change_unplanned, [], []⟩
def d_Change_settle : He.DefD := ⟨("Change", some "settle"), "settle", "Change.settle", defArgs s_Change_settle, defBody s_Change_settle, defScope s_Change_settle, [], []⟩
def d_Change_enough : He.DefD := ⟨("Change", some "enough"), "enough", "Change.enough", defArgs s_Change_enough, defBody s_Change_enough, defScope s_Change_enough, [], []⟩
def d_Change_propose : He.DefD := ⟨("Change", some "propose"), "propose", "Change.propose", defArgs s_Change_propose, defBody s_Change_propose, defScope s_Change_propose, [], []⟩
def d_Change_settled : He.DefD := ⟨("Change", some "settled"), "settled", "Change.settled", defArgs s_Change_settled, defBody s_Change_settled, defScope s_Change_settled, [], []⟩
def d_Stopped_init : He.DefD := ⟨("Stopped", some "__init__"), "__init__", "Stopped.__init__", defArgs s_Stopped_init, defBody s_Stopped_init, defScope s_Stopped_init, [], []⟩
def d_Held_init : He.DefD := ⟨("Held", some "__init__"), "__init__", "Held.__init__", defArgs s_Held_init, defBody s_Held_init, defScope s_Held_init, [], []⟩
def d_count_of : He.DefD := ⟨("count_of", none), "count_of", "count_of", defArgs s_count_of, defBody s_count_of, defScope s_count_of, [], []⟩
def d_covers : He.DefD := ⟨("covers", none), "covers", "covers", defArgs s_covers, defBody s_covers, defScope s_covers, [], []⟩
def d_covers_name : He.DefD := ⟨("covers_name", none), "covers_name", "covers_name", defArgs s_covers_name, defBody s_covers_name, defScope s_covers_name, [], []⟩
def d_joined : He.DefD := ⟨("joined", none), "joined", "joined", defArgs s_joined, defBody s_joined, defScope s_joined, [], []⟩
def d_common : He.DefD := ⟨("common", none), "common", "common", defArgs s_common, defBody s_common, defScope s_common, [], []⟩
def d_packed : He.DefD := ⟨("packed", none), "packed", "packed", defArgs s_packed, defBody s_packed, defScope s_packed, [], []⟩
def d_unpacked : He.DefD := ⟨("unpacked", none), "unpacked", "unpacked", defArgs s_unpacked, defBody s_unpacked, defScope s_unpacked, [], []⟩
def d_in_row : He.DefD := ⟨("in_row", none), "in_row", "in_row", defArgs s_in_row, defBody s_in_row, defScope s_in_row, [], []⟩
def d_OwnCall_kind : He.DefD := ⟨("OwnCall", some "kind"), "kind", "OwnCall.kind", defArgs s_OwnCall_kind, defBody s_OwnCall_kind, defScope s_OwnCall_kind, [], []⟩
def d_HeardCall_kind : He.DefD := ⟨("HeardCall", some "kind"), "kind", "HeardCall.kind", defArgs s_HeardCall_kind, defBody s_HeardCall_kind, defScope s_HeardCall_kind, [], []⟩
def d_HeardCall_free : He.DefD := ⟨("HeardCall", some "free"), "free", "HeardCall.free", defArgs s_HeardCall_free, defBody s_HeardCall_free, defScope s_HeardCall_free, [], []⟩
def d_OneCall_kind : He.DefD := ⟨("OneCall", some "kind"), "kind", "OneCall.kind", defArgs s_OneCall_kind, defBody s_OneCall_kind, defScope s_OneCall_kind, [], []⟩
def d_OneCall_asks_place : He.DefD := ⟨("OneCall", some "asks_place"), "asks_place", "OneCall.asks_place", defArgs s_OneCall_asks_place, defBody s_OneCall_asks_place, defScope s_OneCall_asks_place, [], []⟩
def d_make_call : He.DefD := ⟨("make_call", none), "make_call", "make_call", defArgs s_make_call, defBody s_make_call, defScope s_make_call, [], []⟩
def d_call_of : He.DefD := ⟨("call_of", none), "call_of", "call_of", defArgs s_call_of, defBody s_call_of, defScope s_call_of, [], []⟩
def d_Known_init : He.DefD := ⟨("Known", some "__init__"), "__init__", "Known.__init__", defArgs s_Known_init, defBody s_Known_init, defScope s_Known_init, [], []⟩
def d_Known_learn : He.DefD := ⟨("Known", some "learn"), "learn", "Known.learn", defArgs s_Known_learn, defBody s_Known_learn, defScope s_Known_learn, [], []⟩
def d_Known_row_of : He.DefD := ⟨("Known", some "row_of"), "row_of", "Known.row_of", defArgs s_Known_row_of, defBody s_Known_row_of, defScope s_Known_row_of, [], []⟩
def d_Known_floor : He.DefD := ⟨("Known", some "floor"), "floor", "Known.floor", defArgs s_Known_floor, defBody s_Known_floor, defScope s_Known_floor, [], []⟩
def d_Known_reach : He.DefD := ⟨("Known", some "reach"), "reach", "Known.reach", defArgs s_Known_reach, defBody s_Known_reach, defScope s_Known_reach, [], []⟩
def d_Known_sure : He.DefD := ⟨("Known", some "sure"), "sure", "Known.sure", defArgs s_Known_sure, defBody s_Known_sure, defScope s_Known_sure, [], []⟩
def d_Known_listed : He.DefD := ⟨("Known", some "listed"), "listed", "Known.listed", defArgs s_Known_listed, defBody s_Known_listed, defScope s_Known_listed, [], []⟩
def d_Known_merge : He.DefD := ⟨("Known", some "merge"), "merge", "Known.merge", defArgs s_Known_merge, defBody s_Known_merge, defScope s_Known_merge, [], []⟩
def d_next_name : He.DefD := ⟨("next_name", none), "next_name", "next_name", defArgs s_next_name, defBody s_next_name, defScope s_next_name, [], []⟩
def d_rank : He.DefD := ⟨("rank", none), "rank", "rank", defArgs s_rank, defBody s_rank, defScope s_rank, [], []⟩
def d_can_take : He.DefD := ⟨("can_take", none), "can_take", "can_take", defArgs s_can_take, defBody s_can_take, defScope s_can_take, [], []⟩
def d_run : He.DefD := ⟨("run", none), "run", "run", defArgs s_run, defBody s_run, defScope s_run, [], []⟩
def d_first_asking : He.DefD := ⟨("first_asking", none), "first_asking", "first_asking", defArgs s_first_asking, defBody s_first_asking, defScope s_first_asking, [], []⟩
def d_covered : He.DefD := ⟨("covered", none), "covered", "covered", defArgs s_covered, defBody s_covered, defScope s_covered, [], []⟩
def d_placed : He.DefD := ⟨("placed", none), "placed", "placed", defArgs s_placed, defBody s_placed, defScope s_placed, [], []⟩
def d_by_row : He.DefD := ⟨("by_row", none), "by_row", "by_row", defArgs s_by_row, defBody s_by_row, defScope s_by_row, [], []⟩
def d_Page_init : He.DefD := ⟨("Page", some "__init__"), "__init__", "Page.__init__", defArgs s_Page_init, defBody s_Page_init, defScope s_Page_init, [], []⟩
def d_Page_utter : He.DefD := ⟨("Page", some "utter"), "utter", "Page.utter", defArgs s_Page_utter, defBody s_Page_utter, defScope s_Page_utter, [], []⟩
def d_Page_sorted_calls : He.DefD := ⟨("Page", some "sorted_calls"), "sorted_calls", "Page.sorted_calls", defArgs s_Page_sorted_calls, defBody s_Page_sorted_calls, defScope s_Page_sorted_calls, [], []⟩
def d_Page_take : He.DefD := ⟨("Page", some "take"), "take", "Page.take", defArgs s_Page_take, defBody s_Page_take, defScope s_Page_take, [], []⟩
def d_Page_step : He.DefD := ⟨("Page", some "step"), "step", "Page.step", defArgs s_Page_step, defBody s_Page_step, defScope s_Page_step, [], []⟩
def d_Page_let_go : He.DefD := ⟨("Page", some "let_go"), "let_go", "Page.let_go", defArgs s_Page_let_go, defBody s_Page_let_go, defScope s_Page_let_go, [], []⟩
def d_Page_piece : He.DefD := ⟨("Page", some "piece"), "piece", "Page.piece", defArgs s_Page_piece, defBody s_Page_piece, defScope s_Page_piece, [.int 0, .non], []⟩
def d_Page_listen : He.DefD := ⟨("Page", some "listen"), "listen", "Page.listen", defArgs s_Page_listen, defBody s_Page_listen, defScope s_Page_listen, [], []⟩
def d_Page_report : He.DefD := ⟨("Page", some "report"), "report", "Page.report", defArgs s_Page_report, defBody s_Page_report, defScope s_Page_report, [], []⟩
def d_Page_finish : He.DefD := ⟨("Page", some "finish"), "finish", "Page.finish", defArgs s_Page_finish, defBody s_Page_finish, defScope s_Page_finish, [], []⟩
def d_Page_rows : He.DefD := ⟨("Page", some "rows"), "rows", "Page.rows", defArgs s_Page_rows, defBody s_Page_rows, defScope s_Page_rows, [], []⟩
def d_Page_kept : He.DefD := ⟨("Page", some "kept"), "kept", "Page.kept", defArgs s_Page_kept, defBody s_Page_kept, defScope s_Page_kept, [], []⟩
def d_base_of : He.DefD := ⟨("base_of", none), "base_of", "base_of", defArgs s_base_of, defBody s_base_of, defScope s_base_of, [], []⟩
def d_places_of : He.DefD := ⟨("places_of", none), "places_of", "places_of", defArgs s_places_of, defBody s_places_of, defScope s_places_of, [], []⟩
def d_calls_beyond : He.DefD := ⟨("calls_beyond", none), "calls_beyond", "calls_beyond", defArgs s_calls_beyond, defBody s_calls_beyond, defScope s_calls_beyond, [], []⟩
def d_first_plan : He.DefD := ⟨("first_plan", none), "first_plan", "first_plan", defArgs s_first_plan, defBody s_first_plan, defScope s_first_plan, [], []⟩
def d_lacking : He.DefD := ⟨("lacking", none), "lacking", "lacking", defArgs s_lacking, defBody s_lacking, defScope s_lacking, [], []⟩
def d_Hand_init : He.DefD := ⟨("Hand", some "__init__"), "__init__", "Hand.__init__", defArgs s_Hand_init, defBody s_Hand_init, defScope s_Hand_init, [.int 1, .int 8], []⟩
def d_Hand_stand : He.DefD := ⟨("Hand", some "stand"), "stand", "Hand.stand", defArgs s_Hand_stand, defBody s_Hand_stand, defScope s_Hand_stand, [], []⟩
def d_Hand_go_out : He.DefD := ⟨("Hand", some "go_out"), "go_out", "Hand.go_out", defArgs s_Hand_go_out, defBody s_Hand_go_out, defScope s_Hand_go_out, [], []⟩
def d_Hand_note : He.DefD := ⟨("Hand", some "note"), "note", "Hand.note", defArgs s_Hand_note, defBody s_Hand_note, defScope s_Hand_note, [], []⟩
def d_Hand_go_by : He.DefD := ⟨("Hand", some "go_by"), "go_by", "Hand.go_by", defArgs s_Hand_go_by, defBody s_Hand_go_by, defScope s_Hand_go_by, [], []⟩
def d_Hand_settle : He.DefD := ⟨("Hand", some "settle"), "settle", "Hand.settle", defArgs s_Hand_settle, defBody s_Hand_settle, defScope s_Hand_settle, [], []⟩
def d_Hand_call : He.DefD := ⟨("Hand", some "call"), "call", "Hand.call", defArgs s_Hand_call, defBody s_Hand_call, defScope s_Hand_call, [], []⟩
def d_Hand_renew : He.DefD := ⟨("Hand", some "renew"), "renew", "Hand.renew", defArgs s_Hand_renew, defBody s_Hand_renew, defScope s_Hand_renew, [.int 1], []⟩
def d_Hand_suspect : He.DefD := ⟨("Hand", some "suspect"), "suspect", "Hand.suspect", defArgs s_Hand_suspect, defBody s_Hand_suspect, defScope s_Hand_suspect, [], []⟩
def d_Hand_leave : He.DefD := ⟨("Hand", some "leave"), "leave", "Hand.leave", defArgs s_Hand_leave, defBody s_Hand_leave, defScope s_Hand_leave, [], []⟩
def d_Hand_come : He.DefD := ⟨("Hand", some "come"), "come", "Hand.come", defArgs s_Hand_come, defBody s_Hand_come, defScope s_Hand_come, [], []⟩
def d_Hand_letter : He.DefD := ⟨("Hand", some "letter"), "letter", "Hand.letter", defArgs s_Hand_letter, defBody s_Hand_letter, defScope s_Hand_letter, [.int 0, .non], []⟩
def d_Hand_hear : He.DefD := ⟨("Hand", some "hear"), "hear", "Hand.hear", defArgs s_Hand_hear, defBody s_Hand_hear, defScope s_Hand_hear, [], []⟩
def d_Hand_hear_away : He.DefD := ⟨("Hand", some "hear_away"), "hear_away", "Hand.hear_away", defArgs s_Hand_hear_away, defBody s_Hand_hear_away, defScope s_Hand_hear_away, [], []⟩
def d_Hand_hear_list : He.DefD := ⟨("Hand", some "hear_list"), "hear_list", "Hand.hear_list", defArgs s_Hand_hear_list, defBody s_Hand_hear_list, defScope s_Hand_hear_list, [], []⟩
def d_Hand_events : He.DefD := ⟨("Hand", some "events"), "events", "Hand.events", defArgs s_Hand_events, defBody s_Hand_events, defScope s_Hand_events, [], []⟩
def d_Hand_standing : He.DefD := ⟨("Hand", some "standing"), "standing", "Hand.standing", defArgs s_Hand_standing, defBody s_Hand_standing, defScope s_Hand_standing, [], []⟩
def d_Hand_kept : He.DefD := ⟨("Hand", some "kept"), "kept", "Hand.kept", defArgs s_Hand_kept, defBody s_Hand_kept, defScope s_Hand_kept, [], []⟩
def d_law_cell_at : He.DefD := ⟨("_law_cell_at", none), "_law_cell_at", "_law_cell_at", defArgs s_law_cell_at, defBody s_law_cell_at, defScope s_law_cell_at, [], []⟩
def d_law_mixed : He.DefD := ⟨("_law_mixed", none), "_law_mixed", "_law_mixed", defArgs s_law_mixed, defBody s_law_mixed, defScope s_law_mixed, [], []⟩
def d_law_drawn : He.DefD := ⟨("_law_drawn", none), "_law_drawn", "_law_drawn", defArgs s_law_drawn, defBody s_law_drawn, defScope s_law_drawn, [], []⟩
def d_law_word : He.DefD := ⟨("_law_word", none), "_law_word", "_law_word", defArgs s_law_word, defBody s_law_word, defScope s_law_word, [], []⟩
def d_law_hands : He.DefD := ⟨("_law_hands", none), "_law_hands", "_law_hands", defArgs s_law_hands, defBody s_law_hands, defScope s_law_hands, [], []⟩
def d_law_world : He.DefD := ⟨("_law_world", none), "_law_world", "_law_world", defArgs s_law_world, defBody s_law_world, defScope s_law_world, [], []⟩
def d_law_counts : He.DefD := ⟨("_law_counts", none), "_law_counts", "_law_counts", defArgs s_law_counts, defBody s_law_counts, defScope s_law_counts, [], []⟩
def d_law_call : He.DefD := ⟨("_law_call", none), "_law_call", "_law_call", defArgs s_law_call, defBody s_law_call, defScope s_law_call, [], []⟩
def d_law_leave : He.DefD := ⟨("_law_leave", none), "_law_leave", "_law_leave", defArgs s_law_leave, defBody s_law_leave, defScope s_law_leave, [], []⟩
def d_law_round : He.DefD := ⟨("_law_round", none), "_law_round", "_law_round", defArgs s_law_round, defBody s_law_round, defScope s_law_round, [], []⟩
def d_law_small : He.DefD := ⟨("_law_small", none), "_law_small", "_law_small", defArgs s_law_small, defBody s_law_small, defScope s_law_small, [], []⟩
def d_law_parted : He.DefD := ⟨("_law_parted", none), "_law_parted", "_law_parted", defArgs s_law_parted, defBody s_law_parted, defScope s_law_parted, [], []⟩
def d_law_gathered : He.DefD := ⟨("_law_gathered", none), "_law_gathered", "_law_gathered", defArgs s_law_gathered, defBody s_law_gathered, defScope s_law_gathered, [], []⟩
def d_law_deed : He.DefD := ⟨("_law_deed", none), "_law_deed", "_law_deed", defArgs s_law_deed, defBody s_law_deed, defScope s_law_deed, [], []⟩
def d_law_taken : He.DefD := ⟨("_law_taken", none), "_law_taken", "_law_taken", defArgs s_law_taken, defBody s_law_taken, defScope s_law_taken, [], []⟩
def d_law_right : He.DefD := ⟨("_law_right", none), "_law_right", "_law_right", defArgs s_law_right, defBody s_law_right, defScope s_law_right, [], []⟩
def d_law : He.DefD := ⟨("law", none), "law", "law", defArgs s_law, defBody s_law, defScope s_law, [], []⟩
def d_OwnCall_init : He.DefD := ⟨("OwnCall", some "__init__"), "__init__", "Call.__init__", defArgs s_Call_init, defBody s_Call_init, defScope s_Call_init, [], []⟩
def d_OwnCall_name : He.DefD := ⟨("OwnCall", some "name"), "name", "Call.name", defArgs s_Call_name, defBody s_Call_name, defScope s_Call_name, [], []⟩
def d_OwnCall_free : He.DefD := ⟨("OwnCall", some "free"), "free", "Call.free", defArgs s_Call_free, defBody s_Call_free, defScope s_Call_free, [], []⟩
def d_OwnCall_asks_place : He.DefD := ⟨("OwnCall", some "asks_place"), "asks_place", "Call.asks_place", defArgs s_Call_asks_place, defBody s_Call_asks_place, defScope s_Call_asks_place, [], []⟩
def d_OwnCall_told : He.DefD := ⟨("OwnCall", some "told"), "told", "Call.told", defArgs s_Call_told, defBody s_Call_told, defScope s_Call_told, [], []⟩
def d_HeardCall_init : He.DefD := ⟨("HeardCall", some "__init__"), "__init__", "Call.__init__", defArgs s_Call_init, defBody s_Call_init, defScope s_Call_init, [], []⟩
def d_HeardCall_name : He.DefD := ⟨("HeardCall", some "name"), "name", "Call.name", defArgs s_Call_name, defBody s_Call_name, defScope s_Call_name, [], []⟩
def d_HeardCall_asks_place : He.DefD := ⟨("HeardCall", some "asks_place"), "asks_place", "Call.asks_place", defArgs s_Call_asks_place, defBody s_Call_asks_place, defScope s_Call_asks_place, [], []⟩
def d_HeardCall_told : He.DefD := ⟨("HeardCall", some "told"), "told", "Call.told", defArgs s_Call_told, defBody s_Call_told, defScope s_Call_told, [], []⟩
def d_OneCall_init : He.DefD := ⟨("OneCall", some "__init__"), "__init__", "Call.__init__", defArgs s_Call_init, defBody s_Call_init, defScope s_Call_init, [], []⟩
def d_OneCall_name : He.DefD := ⟨("OneCall", some "name"), "name", "Call.name", defArgs s_Call_name, defBody s_Call_name, defScope s_Call_name, [], []⟩
def d_OneCall_free : He.DefD := ⟨("OneCall", some "free"), "free", "HeardCall.free", defArgs s_HeardCall_free, defBody s_HeardCall_free, defScope s_HeardCall_free, [], []⟩
def d_OneCall_told : He.DefD := ⟨("OneCall", some "told"), "told", "Call.told", defArgs s_Call_told, defBody s_Call_told, defScope s_Call_told, [], []⟩
def fn0 : List He.DefD := [d_has, d_hands_of, d_set_of, d_many, d_least, d_more_than_half, d_under, d_ballot_of, d_Change_init, d_Change_begin, d_Change_message, d_Change_receive]
def fn1 : List He.DefD := [d_Change_receive_yes, d_Change_unplanned, d_Change_settle, d_Change_enough, d_Change_propose, d_Change_settled, d_Stopped_init, d_Held_init, d_count_of, d_covers, d_covers_name, d_joined]
def fn2 : List He.DefD := [d_common, d_packed, d_unpacked, d_in_row, d_OwnCall_kind, d_HeardCall_kind, d_HeardCall_free, d_OneCall_kind, d_OneCall_asks_place, d_make_call, d_call_of, d_Known_init]
def fn3 : List He.DefD := [d_Known_learn, d_Known_row_of, d_Known_floor, d_Known_reach, d_Known_sure, d_Known_listed, d_Known_merge, d_next_name, d_rank, d_can_take, d_run, d_first_asking]
def fn4 : List He.DefD := [d_covered, d_placed, d_by_row, d_Page_init, d_Page_utter, d_Page_sorted_calls, d_Page_take, d_Page_step, d_Page_let_go, d_Page_piece, d_Page_listen, d_Page_report]
def fn5 : List He.DefD := [d_Page_finish, d_Page_rows, d_Page_kept, d_base_of, d_places_of, d_calls_beyond, d_first_plan, d_lacking, d_Hand_init, d_Hand_stand, d_Hand_go_out, d_Hand_note]
def fn6 : List He.DefD := [d_Hand_go_by, d_Hand_settle, d_Hand_call, d_Hand_renew, d_Hand_suspect, d_Hand_leave, d_Hand_come, d_Hand_letter, d_Hand_hear, d_Hand_hear_away, d_Hand_hear_list, d_Hand_events]
def fn7 : List He.DefD := [d_Hand_standing, d_Hand_kept, d_law_cell_at, d_law_mixed, d_law_drawn, d_law_word, d_law_hands, d_law_world, d_law_counts, d_law_call, d_law_leave, d_law_round]
def fn8 : List He.DefD := [d_law_small, d_law_parted, d_law_gathered, d_law_deed, d_law_taken, d_law_right, d_law, d_OwnCall_init, d_OwnCall_name, d_OwnCall_free, d_OwnCall_asks_place, d_OwnCall_told]
def fn9 : List He.DefD := [d_HeardCall_init, d_HeardCall_name, d_HeardCall_asks_place, d_HeardCall_told, d_OneCall_init, d_OneCall_name, d_OneCall_free, d_OneCall_told]
def fn : List He.DefD := fn0 ++ fn1 ++ fn2 ++ fn3 ++ fn4 ++ fn5 ++ fn6 ++ fn7 ++ fn8 ++ fn9
/-! ### the facts -/
def fa0 : List He.Fa := [.glo "has", .glo "hands_of", .glo "set_of", .glo "many", .glo "least", .glo "more_than_half", .glo "under", .glo "ballot_of", .glo "count_of", .glo "covers", .glo "covers_name", .glo "joined", .glo "common", .glo "packed", .glo "unpacked", .glo "in_row", .glo "make_call", .glo "call_of", .glo "next_name", .glo "rank"]
def fa1 : List He.Fa := [.glo "can_take", .glo "run", .glo "first_asking", .glo "covered", .glo "placed", .glo "by_row", .glo "base_of", .glo "places_of", .glo "calls_beyond", .glo "first_plan", .glo "lacking", .glo "_law_cell_at", .glo "_law_mixed", .glo "_law_drawn", .glo "_law_word", .glo "_law_hands", .glo "_law_world", .glo "_law_counts", .glo "_law_call", .glo "_law_leave"]
def fa2 : List He.Fa := [.glo "_law_round", .glo "_law_small", .glo "_law_parted", .glo "_law_gathered", .glo "_law_deed", .glo "_law_taken", .glo "_law_right", .glo "law", .glo "Change", .glo "Known", .glo "Page", .glo "Hand", .glo "OwnCall", .glo "HeardCall", .glo "OneCall", .glo "NotIn", .glo "Stopped", .glo "Held", .glo "GroupError", .free "range"]
def fa3 : List He.Fa := [.free "len", .free "sorted", .free "min", .free "max", .free "tuple", .free "list", .free "dict", .free "set", .free "sum", .free "isinstance", .free "abs", .free "int", .free "bool", .cls "Change", .mkr "Change", .noat "Change" "me", .noat "Change" "hands", .noat "Change" "ballot", .noat "Change" "yes", .noat "Change" "votes"]
def fa4 : List He.Fa := [.noat "Change" "reports", .noat "Change" "agreed", .cls "Known", .mkr "Known", .noat "Known" "circle", .noat "Known" "table", .cls "Page", .mkr "Page", .noat "Page" "me", .noat "Page" "number", .noat "Page" "hands", .noat "Page" "room", .noat "Page" "done", .noat "Page" "held", .noat "Page" "order", .noat "Page" "tells", .noat "Page" "ables", .noat "Page" "made", .noat "Page" "past", .cls "Hand"]
def fa5 : List He.Fa := [.mkr "Hand", .noat "Hand" "me", .noat "Hand" "room", .noat "Hand" "history", .noat "Hand" "pages", .noat "Hand" "lost", .noat "Hand" "feared", .noat "Hand" "wished", .noat "Hand" "leaving", .noat "Hand" "wishing", .noat "Hand" "last", .noat "Hand" "number", .noat "Hand" "hands", .noat "Hand" "way", .noat "Hand" "gone", .noat "Hand" "page", .noat "Hand" "change", .cls "OwnCall", .mkr "OwnCall", .noat "OwnCall" "number"]
def fa6 : List He.Fa := [.noat "OwnCall" "caller", .noat "OwnCall" "count", .noat "OwnCall" "word", .noat "OwnCall" "causes", .cls "HeardCall", .mkr "HeardCall", .noat "HeardCall" "number", .noat "HeardCall" "caller", .noat "HeardCall" "count", .noat "HeardCall" "word", .noat "HeardCall" "causes", .cls "OneCall", .mkr "OneCall", .noat "OneCall" "number", .noat "OneCall" "caller", .noat "OneCall" "count", .noat "OneCall" "word", .noat "OneCall" "causes", .meth "Change" "__init__", .meth "Change" "begin"]
def fa7 : List He.Fa := [.meth "Change" "message", .meth "Change" "receive", .meth "Change" "receive_yes", .meth "Change" "unplanned", .meth "Change" "settle", .meth "Change" "enough", .meth "Change" "propose", .meth "Change" "settled", .meth "OwnCall" "kind", .meth "HeardCall" "kind", .meth "HeardCall" "free", .meth "OneCall" "kind", .meth "OneCall" "asks_place", .meth "Known" "__init__", .meth "Known" "learn", .meth "Known" "row_of", .meth "Known" "floor", .meth "Known" "reach", .meth "Known" "sure", .meth "Known" "listed"]
def fa8 : List He.Fa := [.meth "Known" "merge", .meth "Page" "__init__", .meth "Page" "utter", .meth "Page" "sorted_calls", .meth "Page" "take", .meth "Page" "step", .meth "Page" "let_go", .meth "Page" "piece", .meth "Page" "listen", .meth "Page" "report", .meth "Page" "finish", .meth "Page" "rows", .meth "Page" "kept", .meth "Hand" "__init__", .meth "Hand" "stand", .meth "Hand" "go_out", .meth "Hand" "note", .meth "Hand" "go_by", .meth "Hand" "settle", .meth "Hand" "call"]
def fa9 : List He.Fa := [.meth "Hand" "renew", .meth "Hand" "suspect", .meth "Hand" "leave", .meth "Hand" "come", .meth "Hand" "letter", .meth "Hand" "hear", .meth "Hand" "hear_away", .meth "Hand" "hear_list", .meth "Hand" "events", .meth "Hand" "standing", .meth "Hand" "kept", .meth "OwnCall" "__init__", .meth "OwnCall" "name", .meth "OwnCall" "free", .meth "OwnCall" "asks_place", .meth "OwnCall" "told", .meth "HeardCall" "__init__", .meth "HeardCall" "name", .meth "HeardCall" "asks_place", .meth "HeardCall" "told"]
def fa10 : List He.Fa := [.meth "OneCall" "__init__", .meth "OneCall" "name", .meth "OneCall" "free", .meth "OneCall" "told", .exc "NotIn", .exm "NotIn" "GroupError" true, .exm "Stopped" "GroupError" true, .exm "Held" "GroupError" true, .meth "Stopped" "__init__", .meth "Held" "__init__", .noat "Stopped" "ballot", .noat "Held" "many", .noat "Held" "room"]
def fa : List He.Fa := fa0 ++ fa1 ++ fa2 ++ fa3 ++ fa4 ++ fa5 ++ fa6 ++ fa7 ++ fa8 ++ fa9 ++ fa10
def loose0 : List PySem.Str := ["_wall", "has", "hands_of", "set_of", "many", "least", "more_than_half", "under", "ballot_of", "Change", "GroupError", "NoHand", "NoHands", "NoKind", "NoWord", "NotIn", "IsIn", "Stopped", "Held", "count_of", "covers", "covers_name", "joined", "common", "packed", "unpacked", "in_row", "Call", "OwnCall", "HeardCall"]
def loose1 : List PySem.Str := ["OneCall", "make_call", "call_of", "Known", "next_name", "rank", "can_take", "run", "first_asking", "covered", "placed", "by_row", "Page", "base_of", "places_of", "calls_beyond", "first_plan", "lacking", "Hand", "_law_cell_at", "_law_mixed", "_law_drawn", "_law_word", "_law_hands", "_law_world", "_law_counts", "_law_call", "_law_leave", "_law_round", "_law_small"]
def loose2 : List PySem.Str := ["_law_parted", "_law_gathered", "_law_deed", "_law_taken", "_law_right"]
def loose : List PySem.Str := loose0 ++ loose1 ++ loose2

/-! ### one more Bool: the error classes with an own __init__ -/
def oexB (K : PySem.W.Frag) (C : Str) : Bool := match K.lookup (He.ga K C) with
  | some ⟨.type "type", _, .cls cd, sl⟩ => (match cd.mro, sl.toList with
    | .ref C' :: bm, [_, _, _, _, some (.builtin n), _] => decide (C' = He.ga K C) && (decide (n = "ValueError.__new__") && (!cd.hasDel && (cd.hasDict && PySem.HandSPX.refsVE bm)))
    | _, _ => false)
  | _ => false
def exB (K : PySem.W.Frag) (C : Str) : Bool := oexB K C && (decide (PySem.W.findIn K (.ref (He.ga K C)) "__setattr__" = some (some (.builtin "object.__setattr__"))) && (decide (PySem.W.subIn K (.ref (He.ga K C)) (.type "BaseException") = some true) && (decide (PySem.W.typeIn K (.ref (He.ga K C)) = some (.type "type")) && PySem.W.keepIn K (.ref (He.ga K C)))))
def ex (K : PySem.W.Frag) : Bool := exB K "Stopped" && exB K "Held"
def tf : List He.Defn := [("Hand", some "settle")]
abbrev R : PySem.W.OpenRow := PySem.W.OpenLaw.row PySem.Challenge.rw_groupcall_k95_whole_let_go
/-! ### the written part: the module's names, the classes' tables, the methods, their code objects -/
/-- what a function or a class names: code, defaults; its own table -/
def refs1 (o : Obj) : List Addr := match o.data with
  | .func fd => He.refV fd.code ++ He.refV fd.defaults
  | .cls cd => [cd.ns]
  | _ => []
def refs2 (o : Obj) : List Addr := match o.data with
  | .dict es _ => es.toList.flatMap fun e => He.refV e.val
  | _ => []
def grow1 (f : Obj → List Addr) (g : Addr → Option Obj) (as : List Addr) : List Addr := as.flatMap fun a => match g a with
  | some o => f o
  | none => []
/-- mainGlobals, what its names stand for, their code and tables, the methods, their code -/
def asC (g : Addr → Option Obj) : List Addr :=
  let l1 := grow1 refs2 g [mainGlobals]
  let l2 := grow1 refs1 g l1
  let l3 := grow1 refs2 g l2
  let l4 := grow1 refs1 g l3
  mainGlobals :: (l1 ++ (l2 ++ (l3 ++ l4)))
def obsC (fa : List He.Fa) (fn : List He.DefD) (tf : List He.Defn) (ex : PySem.W.Frag → Bool) (g : Addr → Option Obj) : He.AlX := (He.obsT fa fn [] (He.frT g (asC g)), ex (He.frT g (asC g)) && He.tabsB g tf (He.frT g (asC g)))
theorem saysC_of {fa : List He.Fa} {fn : List He.DefD} {tf : List He.Defn} {ex : PySem.W.Frag → Bool} {w : World} {h : Heap} (e : obsC fa fn tf ex h.get? = He.valX fn [] w) : He.SaysX fa fn [] tf ex w h (He.frT h.get? (asC h.get?)) := by
  have e1 : He.obsT fa fn [] (He.frT h.get? (asC h.get?)) = He.valT fn [] w := congrArg (fun z : He.AlX => z.1) e
  have e2 : (ex (He.frT h.get? (asC h.get?)) && He.tabsB h.get? tf (He.frT h.get? (asC h.get?))) = true := congrArg (fun z : He.AlX => z.2) e
  obtain ⟨h1, h2⟩ := He.ba e2
  have key : ∀ p ∈ tf, PySem.W.codeHdIn (He.frT h.get? (asC h.get?)) (He.cT (He.frT h.get? (asC h.get?)) p).1 (He.cT (He.frT h.get? (asC h.get?)) p).2 = true ∧ ∃ o, h.get? (He.cT (He.frT h.get? (asC h.get?)) p).2 = some o ∧ He.emptyTab o = true := fun p hp => by
    obtain ⟨h3, h4⟩ := He.ba (List.all_eq_true.mp h2 p hp)
    refine ⟨h3, ?_⟩
    cases q : h.get? (He.cT (He.frT h.get? (asC h.get?)) p).2 with
    | none =>
      rw [q] at h4
      cases h4
    | some o =>
      rw [q] at h4
      exact ⟨o, rfl, h4⟩
  exact ⟨e1, h1, fun p hp => (key p hp).1, fun p hp => by
    obtain ⟨_, o, q, z⟩ := key p hp
    exact He.frT_none q z, fun p hp => by
    obtain ⟨_, o, q, z⟩ := key p hp
    rw [q, He.emptyTab_eq z]⟩
def hookC (fa : List He.Fa) (fn : List He.DefD) (tf : List He.Defn) (ex : PySem.W.Frag → Bool) : PySem.W.Hook where
  α := He.AlX
  obs := fun s => obsC fa fn tf ex s.heap.get?
  val := fun w => He.valX fn [] w
  says := fun w h => ∃ K : PySem.W.Frag, K.In h ∧ He.SaysX fa fn [] tf ex w h K
  of := fun _ _ e => ⟨_, He.frT_in, saysC_of e⟩
  keeps := fun _ _ _ ⟨K, hK, c⟩ k => ⟨K, PySem.W.Frag.In.keeps hK k, ⟨c.t, c.more, c.hd, c.out, fun p hp => k _ _ (c.empty p hp)⟩⟩
theorem obsC_eq {fa : List He.Fa} {fn : List He.DefD} {tf : List He.Defn} {ex : PySem.W.Frag → Bool} {g : Addr → Option Obj} {s : Shared} (h : ∀ a, g a = s.heap.get? a) : obsC fa fn tf ex g = (hookC fa fn tf ex).obs s := by
  have e : g = s.heap.get? := funext h
  rw [e] <;> rfl
abbrev hk : PySem.W.Hook := hookC fa fn tf ex
def ob (s : PySem.W.SharedT) : He.AlX := obsC fa fn tf ex (HandSHeadRun.getT s)
theorem ob_eq (s : PySem.W.SharedT) : ob s = hk.obs s.abs := obsC_eq (HandSHeadRun.getT_eq s)
end G
namespace G
open PySem PySem.Spec PyProof.Rows L2
theorem run (w : World) : HandSHeadRun.RunEq R (PySem.W.view R.prog [76]) hk ob 20000 loose w := by
  intro os
  kernel_rfl
end G
namespace G
open PySem PySem.Spec PyProof.Rows L2
/-! ### what the walk asks of the top -/
structure All (P : Program) (w : World) (K : PySem.W.Frag) (mg : Str → Option Value) (base : Heap) (CT : Addr × Addr) : Prop where
  kin : K.In base
  ns : base.Ns mainGlobals mg
  d : He.SaysD fa fn K
  more : ex K = true
  ct : CT = He.cT K ("Hand", some "settle")
  tab : LamX.TabB base mg CT.1 CT.2
/-! ### heaps -/
def Kp (F : List Addr) (H H' : Hp) : Prop := ∀ b o, H b = some o → b ∉ F → H' b = some o
/-- what is never written again: tuples, locked things, calls -/
def Imm : HO → Prop
  | .tup _ => True
  | .frz _ _ => True
  | .ins _ _ fs => fs.length = 5
  | _ => False
def Ext (H H' : Hp) : Prop := ∀ b o, H b = some o → Imm o → H' b = some o
section
variable {H H1 H2 : Hp} {F F' : List Addr} {a b p : Addr} {o u : HO}
theorem same_new (h : H p = none) : Same H (upd H p o) := fun c u e => by rw [upd_ne (ne_of_none e h)]; exact e
theorem same_new2 (s : Same H H1) (h : H1 p = none) : Same H (upd H1 p o) := s.trans (same_new h)
theorem Kp.refl : Kp F H H := fun _ _ e _ => e
theorem Kp.of (s : Same H H1) : Kp F H H1 := fun b o e _ => s b o e
theorem Kp.same (k : Kp [] H H1) : Same H H1 := fun b o e => k b o e (fun h => nomatch h)
theorem Kp.mono (k : Kp F H H1) (h : ∀ x, x ∈ F → x ∈ F') : Kp F' H H1 := fun b o e n => k b o e fun m => n (h _ m)
theorem Kp.trans (k : Kp F H H1) (k' : Kp F H1 H2) : Kp F H H2 := fun b o e n => k' b o (k b o e n) n
theorem Kp.upd (k : Kp F H H1) (h : p ∈ F) : Kp F H (upd H1 p o) := fun b u e n => by
  have q : b ≠ p := fun z => n (by rw [z]; exact h)
  show L2.upd H1 p o b = some u
  rw [upd_ne q]
  exact k b u e n
theorem Kp.new (k : Kp F H H1) (h : H1 p = none) : Kp F H (L2.upd H1 p o) := k.trans (Kp.of (same_new h))
theorem Ext.refl : Ext H H := fun _ _ e _ => e
theorem Ext.of (s : Same H H1) : Ext H H1 := fun b o e _ => s b o e
theorem Ext.trans (k : Ext H H1) (k' : Ext H1 H2) : Ext H H2 := fun b o e n => k' b o (k b o e n) n
theorem Kp.ext (k : Kp F H H1) (h : ∀ x, x ∈ F → ∀ o, H x = some o → ¬ Imm o) : Ext H H1 := fun b o e i => k b o e fun m => h b m o e i
theorem ne_some (h : H a = some o) (h' : H b = some u) (d : o ≠ u) : a ≠ b := ne_of h h' d
end
/-! ### rules: an attribute of an object whose attributes are a record -/
def tGet {ρ : Type} (C : Addr) (fs : ρ → List (Str × V)) (g : ρ → V) (te : TE) : TE := fun σ H Q => te σ H fun x H1 => ∃ p dx r, x = .ref p ∧ H1 p = some (.ins C dx (fs r)) ∧ Q (g r) H1
def sPut {ρ : Type} (C : Addr) (fs : ρ → List (Str × V)) (s : ρ → V → ρ) (to tv : TE) : TS := fun D σ H => tv σ H fun y H1 => to σ H1 fun x H2 => ∃ p dx r, x = .ref p ∧ H2 p = some (.ins C dx (fs r)) ∧ D.nx σ (upd H2 p (.ins C dx (fs (s r y))))
section
variable {X : Cx} {ρ : Type} {C : Addr} {fs : ρ → List (Str × V)} {e o v : Expr} {f : Str} {t tv : TE} {pos pos' : Pos}
theorem pe_get {g : ρ → V} (c : Cls X.K C) (n : NoAttr X.K C f) (l : ∀ r, (fs r).lookup f = some (g r)) (he : PE X e t) (hb : attributeBase e f X.env (eval e X.env) = eval e X.env) : PE X (.Attribute e f pos) (tGet C fs g t) := by
  refine ⟨fun pins s σ H Q I h => ?_⟩
  refine attr_of hb (thn (he.run pins s σ H _ I h) fun u s1 ⟨x, H1, I1, rx, p, dx, r, ex, ea, q⟩ => ?_)
  subst ex
  obtain rfl : u = Value.ref p := rx
  exact getattr_ok I1 ea c n (l r) fun u' s2 I2 ru => ⟨g r, H1, I2, ru, q⟩
theorem ps_put {s : ρ → V → ρ} (c : Cls X.K C) (n : NoAttr X.K C f) (hl : ∀ r, (fs r).length < 1000) (l : ∀ r y, putF f y (fs r) = fs (s r y)) (ho : PE X o t) (hv : PE X v tv) (hs : swapsWith v (some (.Attribute o f pos')) pos.line X.env = pure false) :
    PS X (.Assign [.Attribute o f pos'] v pos) (sPut C fs s t tv) := by
  refine ⟨fun pins s1 σ H D I h => ?_⟩
  refine plainObj_wpAny_Assign_Attribute (thn (hv.run pins s1 σ H _ I h) fun u s2 ⟨y, H1, I1, ry, q⟩ => thn (ho.run pins s2 σ H1 _ I1 q) fun ov s3 ⟨x, H2, I2, rx, p, dx, r, ex, ea, q2⟩ => ?_) hs
  subst ex
  obtain rfl : ov = Value.ref p := rx
  exact setattr_ok I2 ea c n (hl r) ry fun s4 I4 => ⟨σ, _, I4, by rw [l]; exact q2⟩
end
/-! ### two readings of one piece -/
section
variable {X : Cx} {e : Expr} {t u : TE} {tt ut : TT} {st : Stmt} {ts us : TS}
theorem PE.or (h : PE X e t) (h' : PE X e u) : PE X e (fun σ H Q => t σ H Q ∨ u σ H Q) := ⟨fun pins s σ H Q I q => q.elim (h.run pins s σ H Q I) (h'.run pins s σ H Q I)⟩
theorem PT.or (h : PT X e tt) (h' : PT X e ut) : PT X e (fun σ H Q => tt σ H Q ∨ ut σ H Q) := ⟨fun pins s σ H Q I q => q.elim (h.run pins s σ H Q I) (h'.run pins s σ H Q I)⟩
theorem PS.or (h : PS X st ts) (h' : PS X st us) : PS X st (fun D σ H => ts D σ H ∨ us D σ H) := ⟨fun pins s σ H D I q => q.elim (h.run pins s σ H D I) (h'.run pins s σ H D I)⟩
/-- behind an expression: the object at its value is locked from now on -/
def tFrz (t : TE) : TE := fun σ H Q => t σ H fun v H1 => ∃ a u, v = .ref a ∧ H1 a = some u ∧ Mut (some u) ∧ ∀ od, Q v (upd H1 a (.frz od u))
end
/-! ### defs, methods, classes with their promises -/
structure DOk (P : Program) (w : World) (K : PySem.W.Frag) (mg : Str → Option Value) (base : Heap) (CX : CXT) (k : Nat) (x : Str) (ps : List Str) (dvs : List V) (sp : Sp) : Prop where
  ok : ∃ f fd ds, FnOk P w K mg base CX k f fd ps sp ∧ mg x = some (.ref f) ∧ PySem.W.keepIn K (.ref f) = true ∧ Binds K fd ps ds ∧ Vals dvs ds
structure MOk (P : Program) (w : World) (K : PySem.W.Frag) (mg : Str → Option Value) (base : Heap) (CX : CXT) (k : Nat) (C : Addr) (m : Str) (ps : List Str) (dvs : List V) (sp : Sp) : Prop where
  cl : Cls K C
  ok : ∃ f fd ds, FnOk P w K mg base CX k f fd ps sp ∧ Meth K C m f ∧ Binds K fd ps ds ∧ Vals dvs ds
structure KOk (P : Program) (w : World) (K : PySem.W.Frag) (mg : Str → Option Value) (base : Heap) (CX : CXT) (k : Nat) (x : Str) (C : Addr) (ps : List Str) (dvs : List V) (sp : Sp) : Prop where
  ok : ∃ f fd ds, FnOk P w K mg base CX k f fd ps sp ∧ Mk K C f ∧ mg x = some (.ref C) ∧ Binds K fd ps ds ∧ Vals dvs ds
section
variable {X : Cx} {CX : CXT} {k j : Nat} {x m : Str} {C : Addr} {ps : List Str} {dvs : List V} {sp : Sp} {E : XK} {p pos apos : Pos} {o e : Expr} {es : List Expr} {ta : TE} {t : TA}
theorem DOk.pe (D : DOk X.prog X.w X.K X.mg X.base CX k x ps dvs sp) (hr : Room j X.A) (hx : Passes CX X E) (ha : PA X (e :: es) t) (hk : k ≤ j := by decide) (hg : Gl X x := by rfl)
    (hdb : (x == ("__debug__" : Str)) = false := by decide) (he : starEach (e :: es) X.env = (false, eval e X.env) :: starEach es X.env := by rfl) (hpl : (backTo pos (starEach es X.env)).any (·.1) = false := by rfl) :
    PE X (.Call (.Name x p) (e :: es) [] pos) (tCall sp dvs E t) := by
  obtain ⟨f, fd, ds, F, hm, kp, b, v⟩ := D.ok
  exact pe_call F (hr.mono hk) hg hm kp b v hx ha hdb he hpl
theorem MOk.pe {pl : Sem Bool} (D : MOk X.prog X.w X.K X.mg X.base CX k C m ps dvs sp) (hr : Room j X.A) (hx : Passes CX X E) (ho : PE X o ta) (ha : PA X (e :: es) t) (hk : k ≤ j := by decide)
    (hst : starEach (e :: es) X.env = (false, eval e X.env) :: starEach es X.env := by rfl) (hpl : (backTo pos (starEach es X.env)).any (·.1) = false := by rfl)
    (ht : eval (.Call (.Attribute o m apos) (e :: es) [] pos) X.env = (do
      let ov ← eval o X.env
      standAt apos.atName
      let (f, first) ← holding [ov] (getMethod ov m pl)
      callWith pos f first (backTo pos (starEach (e :: es) X.env)) (backToKw pos (keywordEach [] X.env))) := by rfl) :
    PE X (.Call (.Attribute o m apos) (e :: es) [] pos) (tMeth C m sp dvs E ta t) := by
  obtain ⟨f, fd, ds, F, hm, b, v⟩ := D.ok
  exact pe_meth ho D.cl hm F (hr.mono hk) b v hx ha hst hpl ht
theorem MOk.pe0 {pl : Sem Bool} (D : MOk X.prog X.w X.K X.mg X.base CX k C m ps dvs sp) (hr : Room j X.A) (hx : Passes CX X E) (ho : PE X o ta) (hk : k ≤ j := by decide)
    (ht : eval (.Call (.Attribute o m apos) [] [] pos) X.env = (do
      let ov ← eval o X.env
      standAt apos.atName
      let (f, first) ← holding [ov] (getMethod ov m pl)
      callWith pos f first (backTo pos (starEach [] X.env)) (backToKw pos (keywordEach [] X.env))) := by rfl) :
    PE X (.Call (.Attribute o m apos) [] [] pos) (tMeth C m sp dvs E ta tNil) := by
  obtain ⟨f, fd, ds, F, hm, b, v⟩ := D.ok
  exact pe_meth0 ho D.cl hm F (hr.mono hk) b v hx ht
theorem KOk.pe (D : KOk X.prog X.w X.K X.mg X.base CX k x C ps dvs sp) (hr : Room j X.A) (hx : Passes CX X E) (ha : PA X (e :: es) t) (hk : k + 1 ≤ j := by decide) (hg : Gl X x := by rfl)
    (hdb : (x == ("__debug__" : Str)) = false := by decide) (he : starEach (e :: es) X.env = (false, eval e X.env) :: starEach es X.env := by rfl) (hpl : (backTo pos (starEach es X.env)).any (·.1) = false := by rfl) :
    PE X (.Call (.Name x p) (e :: es) [] pos) (tMake C sp dvs E t) := by
  obtain ⟨f, fd, ds, F, M, hm, b, v⟩ := D.ok
  exact pe_make M F (hr.mono hk) hg hm b v hx ha hdb he hpl
end
/-! a body's walk, where nothing that is raised leaves the def -/
section
variable {P : Program} {w : World} {K : PySem.W.Frag} {mg : Str → Option Value} {base : Heap} {x qual : Str} {params : Arguments} {body : List Stmt} {scope : Scope} {dvs : List V} {kws : List (Str × V)} {f : Addr} {fd : FuncData}
theorem FunD.ok0 {N ps : List Str} {k : Nat} {sp : Sp} (F : FunD K x qual params body scope dvs kws f fd) (S : FnScope N ps scope) (len : ∀ vs H Q E, sp vs H Q E → vs.length = ps.length)
    (hbody : ∀ (cdv : Value) (A : Around) (outer : List Env) (s : Shared) (H : Hp) (vs : List V) (Q : VK) (E : XK), Room k (A.deeper (envOfC qual scope s.heap.objs.size f cdv)) → sp vs H Q E →
      ∃ t, PSs (cxOf CX0 P w K mg base N qual scope f cdv A outer s H E).nox body t ∧ t { nx := fun _ H' => Q .non H', rt := Q } (start N vs) H) : FnOk P w K mg base CX0 (k + 1) f fd ps sp :=
  F.ok S len fun cdv A outer s H vs Q E hr hsp => let ⟨t, h, q⟩ := hbody cdv A outer s H vs Q E hr hsp; ⟨t, h.nox, q⟩
end
end G
namespace G
open PySem PySem.Spec PyProof.Rows L2
section
variable {K : PySem.W.Frag} {mg : Str → Option Value} {base : Heap}
theorem gl_has (X : K.In base) (N : base.Ns mainGlobals mg) (d : He.SaysD fa fn K) : mg "has" = some (.ref (He.ga K "has")) := He.glo_ok X N (d.fact 0 (f := .glo "has") rfl)
theorem gl_hands_of (X : K.In base) (N : base.Ns mainGlobals mg) (d : He.SaysD fa fn K) : mg "hands_of" = some (.ref (He.ga K "hands_of")) := He.glo_ok X N (d.fact 1 (f := .glo "hands_of") rfl)
theorem gl_set_of (X : K.In base) (N : base.Ns mainGlobals mg) (d : He.SaysD fa fn K) : mg "set_of" = some (.ref (He.ga K "set_of")) := He.glo_ok X N (d.fact 2 (f := .glo "set_of") rfl)
theorem gl_many (X : K.In base) (N : base.Ns mainGlobals mg) (d : He.SaysD fa fn K) : mg "many" = some (.ref (He.ga K "many")) := He.glo_ok X N (d.fact 3 (f := .glo "many") rfl)
theorem gl_least (X : K.In base) (N : base.Ns mainGlobals mg) (d : He.SaysD fa fn K) : mg "least" = some (.ref (He.ga K "least")) := He.glo_ok X N (d.fact 4 (f := .glo "least") rfl)
theorem gl_more_than_half (X : K.In base) (N : base.Ns mainGlobals mg) (d : He.SaysD fa fn K) : mg "more_than_half" = some (.ref (He.ga K "more_than_half")) := He.glo_ok X N (d.fact 5 (f := .glo "more_than_half") rfl)
theorem gl_under (X : K.In base) (N : base.Ns mainGlobals mg) (d : He.SaysD fa fn K) : mg "under" = some (.ref (He.ga K "under")) := He.glo_ok X N (d.fact 6 (f := .glo "under") rfl)
theorem gl_ballot_of (X : K.In base) (N : base.Ns mainGlobals mg) (d : He.SaysD fa fn K) : mg "ballot_of" = some (.ref (He.ga K "ballot_of")) := He.glo_ok X N (d.fact 7 (f := .glo "ballot_of") rfl)
theorem gl_count_of (X : K.In base) (N : base.Ns mainGlobals mg) (d : He.SaysD fa fn K) : mg "count_of" = some (.ref (He.ga K "count_of")) := He.glo_ok X N (d.fact 8 (f := .glo "count_of") rfl)
theorem gl_covers (X : K.In base) (N : base.Ns mainGlobals mg) (d : He.SaysD fa fn K) : mg "covers" = some (.ref (He.ga K "covers")) := He.glo_ok X N (d.fact 9 (f := .glo "covers") rfl)
theorem gl_covers_name (X : K.In base) (N : base.Ns mainGlobals mg) (d : He.SaysD fa fn K) : mg "covers_name" = some (.ref (He.ga K "covers_name")) := He.glo_ok X N (d.fact 10 (f := .glo "covers_name") rfl)
theorem gl_joined (X : K.In base) (N : base.Ns mainGlobals mg) (d : He.SaysD fa fn K) : mg "joined" = some (.ref (He.ga K "joined")) := He.glo_ok X N (d.fact 11 (f := .glo "joined") rfl)
theorem gl_common (X : K.In base) (N : base.Ns mainGlobals mg) (d : He.SaysD fa fn K) : mg "common" = some (.ref (He.ga K "common")) := He.glo_ok X N (d.fact 12 (f := .glo "common") rfl)
theorem gl_packed (X : K.In base) (N : base.Ns mainGlobals mg) (d : He.SaysD fa fn K) : mg "packed" = some (.ref (He.ga K "packed")) := He.glo_ok X N (d.fact 13 (f := .glo "packed") rfl)
theorem gl_unpacked (X : K.In base) (N : base.Ns mainGlobals mg) (d : He.SaysD fa fn K) : mg "unpacked" = some (.ref (He.ga K "unpacked")) := He.glo_ok X N (d.fact 14 (f := .glo "unpacked") rfl)
theorem gl_in_row (X : K.In base) (N : base.Ns mainGlobals mg) (d : He.SaysD fa fn K) : mg "in_row" = some (.ref (He.ga K "in_row")) := He.glo_ok X N (d.fact 15 (f := .glo "in_row") rfl)
theorem gl_make_call (X : K.In base) (N : base.Ns mainGlobals mg) (d : He.SaysD fa fn K) : mg "make_call" = some (.ref (He.ga K "make_call")) := He.glo_ok X N (d.fact 16 (f := .glo "make_call") rfl)
theorem gl_call_of (X : K.In base) (N : base.Ns mainGlobals mg) (d : He.SaysD fa fn K) : mg "call_of" = some (.ref (He.ga K "call_of")) := He.glo_ok X N (d.fact 17 (f := .glo "call_of") rfl)
theorem gl_next_name (X : K.In base) (N : base.Ns mainGlobals mg) (d : He.SaysD fa fn K) : mg "next_name" = some (.ref (He.ga K "next_name")) := He.glo_ok X N (d.fact 18 (f := .glo "next_name") rfl)
theorem gl_rank (X : K.In base) (N : base.Ns mainGlobals mg) (d : He.SaysD fa fn K) : mg "rank" = some (.ref (He.ga K "rank")) := He.glo_ok X N (d.fact 19 (f := .glo "rank") rfl)
theorem gl_can_take (X : K.In base) (N : base.Ns mainGlobals mg) (d : He.SaysD fa fn K) : mg "can_take" = some (.ref (He.ga K "can_take")) := He.glo_ok X N (d.fact 20 (f := .glo "can_take") rfl)
theorem gl_run (X : K.In base) (N : base.Ns mainGlobals mg) (d : He.SaysD fa fn K) : mg "run" = some (.ref (He.ga K "run")) := He.glo_ok X N (d.fact 21 (f := .glo "run") rfl)
theorem gl_first_asking (X : K.In base) (N : base.Ns mainGlobals mg) (d : He.SaysD fa fn K) : mg "first_asking" = some (.ref (He.ga K "first_asking")) := He.glo_ok X N (d.fact 22 (f := .glo "first_asking") rfl)
theorem gl_covered (X : K.In base) (N : base.Ns mainGlobals mg) (d : He.SaysD fa fn K) : mg "covered" = some (.ref (He.ga K "covered")) := He.glo_ok X N (d.fact 23 (f := .glo "covered") rfl)
theorem gl_placed (X : K.In base) (N : base.Ns mainGlobals mg) (d : He.SaysD fa fn K) : mg "placed" = some (.ref (He.ga K "placed")) := He.glo_ok X N (d.fact 24 (f := .glo "placed") rfl)
theorem gl_by_row (X : K.In base) (N : base.Ns mainGlobals mg) (d : He.SaysD fa fn K) : mg "by_row" = some (.ref (He.ga K "by_row")) := He.glo_ok X N (d.fact 25 (f := .glo "by_row") rfl)
theorem gl_base_of (X : K.In base) (N : base.Ns mainGlobals mg) (d : He.SaysD fa fn K) : mg "base_of" = some (.ref (He.ga K "base_of")) := He.glo_ok X N (d.fact 26 (f := .glo "base_of") rfl)
theorem gl_places_of (X : K.In base) (N : base.Ns mainGlobals mg) (d : He.SaysD fa fn K) : mg "places_of" = some (.ref (He.ga K "places_of")) := He.glo_ok X N (d.fact 27 (f := .glo "places_of") rfl)
theorem gl_calls_beyond (X : K.In base) (N : base.Ns mainGlobals mg) (d : He.SaysD fa fn K) : mg "calls_beyond" = some (.ref (He.ga K "calls_beyond")) := He.glo_ok X N (d.fact 28 (f := .glo "calls_beyond") rfl)
theorem gl_first_plan (X : K.In base) (N : base.Ns mainGlobals mg) (d : He.SaysD fa fn K) : mg "first_plan" = some (.ref (He.ga K "first_plan")) := He.glo_ok X N (d.fact 29 (f := .glo "first_plan") rfl)
theorem gl_lacking (X : K.In base) (N : base.Ns mainGlobals mg) (d : He.SaysD fa fn K) : mg "lacking" = some (.ref (He.ga K "lacking")) := He.glo_ok X N (d.fact 30 (f := .glo "lacking") rfl)
theorem gl_law_cell_at (X : K.In base) (N : base.Ns mainGlobals mg) (d : He.SaysD fa fn K) : mg "_law_cell_at" = some (.ref (He.ga K "_law_cell_at")) := He.glo_ok X N (d.fact 31 (f := .glo "_law_cell_at") rfl)
theorem gl_law_mixed (X : K.In base) (N : base.Ns mainGlobals mg) (d : He.SaysD fa fn K) : mg "_law_mixed" = some (.ref (He.ga K "_law_mixed")) := He.glo_ok X N (d.fact 32 (f := .glo "_law_mixed") rfl)
theorem gl_law_drawn (X : K.In base) (N : base.Ns mainGlobals mg) (d : He.SaysD fa fn K) : mg "_law_drawn" = some (.ref (He.ga K "_law_drawn")) := He.glo_ok X N (d.fact 33 (f := .glo "_law_drawn") rfl)
theorem gl_law_word (X : K.In base) (N : base.Ns mainGlobals mg) (d : He.SaysD fa fn K) : mg "_law_word" = some (.ref (He.ga K "_law_word")) := He.glo_ok X N (d.fact 34 (f := .glo "_law_word") rfl)
theorem gl_law_hands (X : K.In base) (N : base.Ns mainGlobals mg) (d : He.SaysD fa fn K) : mg "_law_hands" = some (.ref (He.ga K "_law_hands")) := He.glo_ok X N (d.fact 35 (f := .glo "_law_hands") rfl)
theorem gl_law_world (X : K.In base) (N : base.Ns mainGlobals mg) (d : He.SaysD fa fn K) : mg "_law_world" = some (.ref (He.ga K "_law_world")) := He.glo_ok X N (d.fact 36 (f := .glo "_law_world") rfl)
theorem gl_law_counts (X : K.In base) (N : base.Ns mainGlobals mg) (d : He.SaysD fa fn K) : mg "_law_counts" = some (.ref (He.ga K "_law_counts")) := He.glo_ok X N (d.fact 37 (f := .glo "_law_counts") rfl)
theorem gl_law_call (X : K.In base) (N : base.Ns mainGlobals mg) (d : He.SaysD fa fn K) : mg "_law_call" = some (.ref (He.ga K "_law_call")) := He.glo_ok X N (d.fact 38 (f := .glo "_law_call") rfl)
theorem gl_law_leave (X : K.In base) (N : base.Ns mainGlobals mg) (d : He.SaysD fa fn K) : mg "_law_leave" = some (.ref (He.ga K "_law_leave")) := He.glo_ok X N (d.fact 39 (f := .glo "_law_leave") rfl)
theorem gl_law_round (X : K.In base) (N : base.Ns mainGlobals mg) (d : He.SaysD fa fn K) : mg "_law_round" = some (.ref (He.ga K "_law_round")) := He.glo_ok X N (d.fact 40 (f := .glo "_law_round") rfl)
theorem gl_law_small (X : K.In base) (N : base.Ns mainGlobals mg) (d : He.SaysD fa fn K) : mg "_law_small" = some (.ref (He.ga K "_law_small")) := He.glo_ok X N (d.fact 41 (f := .glo "_law_small") rfl)
theorem gl_law_parted (X : K.In base) (N : base.Ns mainGlobals mg) (d : He.SaysD fa fn K) : mg "_law_parted" = some (.ref (He.ga K "_law_parted")) := He.glo_ok X N (d.fact 42 (f := .glo "_law_parted") rfl)
theorem gl_law_gathered (X : K.In base) (N : base.Ns mainGlobals mg) (d : He.SaysD fa fn K) : mg "_law_gathered" = some (.ref (He.ga K "_law_gathered")) := He.glo_ok X N (d.fact 43 (f := .glo "_law_gathered") rfl)
theorem gl_law_deed (X : K.In base) (N : base.Ns mainGlobals mg) (d : He.SaysD fa fn K) : mg "_law_deed" = some (.ref (He.ga K "_law_deed")) := He.glo_ok X N (d.fact 44 (f := .glo "_law_deed") rfl)
theorem gl_law_taken (X : K.In base) (N : base.Ns mainGlobals mg) (d : He.SaysD fa fn K) : mg "_law_taken" = some (.ref (He.ga K "_law_taken")) := He.glo_ok X N (d.fact 45 (f := .glo "_law_taken") rfl)
theorem gl_law_right (X : K.In base) (N : base.Ns mainGlobals mg) (d : He.SaysD fa fn K) : mg "_law_right" = some (.ref (He.ga K "_law_right")) := He.glo_ok X N (d.fact 46 (f := .glo "_law_right") rfl)
theorem gl_law (X : K.In base) (N : base.Ns mainGlobals mg) (d : He.SaysD fa fn K) : mg "law" = some (.ref (He.ga K "law")) := He.glo_ok X N (d.fact 47 (f := .glo "law") rfl)
theorem gl_Change (X : K.In base) (N : base.Ns mainGlobals mg) (d : He.SaysD fa fn K) : mg "Change" = some (.ref (He.ga K "Change")) := He.glo_ok X N (d.fact 48 (f := .glo "Change") rfl)
theorem gl_Known (X : K.In base) (N : base.Ns mainGlobals mg) (d : He.SaysD fa fn K) : mg "Known" = some (.ref (He.ga K "Known")) := He.glo_ok X N (d.fact 49 (f := .glo "Known") rfl)
theorem gl_Page (X : K.In base) (N : base.Ns mainGlobals mg) (d : He.SaysD fa fn K) : mg "Page" = some (.ref (He.ga K "Page")) := He.glo_ok X N (d.fact 50 (f := .glo "Page") rfl)
theorem gl_Hand (X : K.In base) (N : base.Ns mainGlobals mg) (d : He.SaysD fa fn K) : mg "Hand" = some (.ref (He.ga K "Hand")) := He.glo_ok X N (d.fact 51 (f := .glo "Hand") rfl)
theorem gl_OwnCall (X : K.In base) (N : base.Ns mainGlobals mg) (d : He.SaysD fa fn K) : mg "OwnCall" = some (.ref (He.ga K "OwnCall")) := He.glo_ok X N (d.fact 52 (f := .glo "OwnCall") rfl)
theorem gl_HeardCall (X : K.In base) (N : base.Ns mainGlobals mg) (d : He.SaysD fa fn K) : mg "HeardCall" = some (.ref (He.ga K "HeardCall")) := He.glo_ok X N (d.fact 53 (f := .glo "HeardCall") rfl)
theorem gl_OneCall (X : K.In base) (N : base.Ns mainGlobals mg) (d : He.SaysD fa fn K) : mg "OneCall" = some (.ref (He.ga K "OneCall")) := He.glo_ok X N (d.fact 54 (f := .glo "OneCall") rfl)
theorem gl_NotIn (X : K.In base) (N : base.Ns mainGlobals mg) (d : He.SaysD fa fn K) : mg "NotIn" = some (.ref (He.ga K "NotIn")) := He.glo_ok X N (d.fact 55 (f := .glo "NotIn") rfl)
theorem gl_Stopped (X : K.In base) (N : base.Ns mainGlobals mg) (d : He.SaysD fa fn K) : mg "Stopped" = some (.ref (He.ga K "Stopped")) := He.glo_ok X N (d.fact 56 (f := .glo "Stopped") rfl)
theorem gl_Held (X : K.In base) (N : base.Ns mainGlobals mg) (d : He.SaysD fa fn K) : mg "Held" = some (.ref (He.ga K "Held")) := He.glo_ok X N (d.fact 57 (f := .glo "Held") rfl)
theorem gl_GroupError (X : K.In base) (N : base.Ns mainGlobals mg) (d : He.SaysD fa fn K) : mg "GroupError" = some (.ref (He.ga K "GroupError")) := He.glo_ok X N (d.fact 58 (f := .glo "GroupError") rfl)
theorem fr_range (X : K.In base) (N : base.Ns mainGlobals mg) (d : He.SaysD fa fn K) : mg "range" = none := He.free_ok X N (d.fact 59 (f := .free "range") rfl)
theorem fr_len (X : K.In base) (N : base.Ns mainGlobals mg) (d : He.SaysD fa fn K) : mg "len" = none := He.free_ok X N (d.fact 60 (f := .free "len") rfl)
theorem fr_sorted (X : K.In base) (N : base.Ns mainGlobals mg) (d : He.SaysD fa fn K) : mg "sorted" = none := He.free_ok X N (d.fact 61 (f := .free "sorted") rfl)
theorem fr_min (X : K.In base) (N : base.Ns mainGlobals mg) (d : He.SaysD fa fn K) : mg "min" = none := He.free_ok X N (d.fact 62 (f := .free "min") rfl)
theorem fr_max (X : K.In base) (N : base.Ns mainGlobals mg) (d : He.SaysD fa fn K) : mg "max" = none := He.free_ok X N (d.fact 63 (f := .free "max") rfl)
theorem fr_tuple (X : K.In base) (N : base.Ns mainGlobals mg) (d : He.SaysD fa fn K) : mg "tuple" = none := He.free_ok X N (d.fact 64 (f := .free "tuple") rfl)
theorem fr_list (X : K.In base) (N : base.Ns mainGlobals mg) (d : He.SaysD fa fn K) : mg "list" = none := He.free_ok X N (d.fact 65 (f := .free "list") rfl)
theorem fr_dict (X : K.In base) (N : base.Ns mainGlobals mg) (d : He.SaysD fa fn K) : mg "dict" = none := He.free_ok X N (d.fact 66 (f := .free "dict") rfl)
theorem fr_set (X : K.In base) (N : base.Ns mainGlobals mg) (d : He.SaysD fa fn K) : mg "set" = none := He.free_ok X N (d.fact 67 (f := .free "set") rfl)
theorem fr_sum (X : K.In base) (N : base.Ns mainGlobals mg) (d : He.SaysD fa fn K) : mg "sum" = none := He.free_ok X N (d.fact 68 (f := .free "sum") rfl)
theorem fr_isinstance (X : K.In base) (N : base.Ns mainGlobals mg) (d : He.SaysD fa fn K) : mg "isinstance" = none := He.free_ok X N (d.fact 69 (f := .free "isinstance") rfl)
theorem fr_abs (X : K.In base) (N : base.Ns mainGlobals mg) (d : He.SaysD fa fn K) : mg "abs" = none := He.free_ok X N (d.fact 70 (f := .free "abs") rfl)
theorem fr_int (X : K.In base) (N : base.Ns mainGlobals mg) (d : He.SaysD fa fn K) : mg "int" = none := He.free_ok X N (d.fact 71 (f := .free "int") rfl)
theorem fr_bool (X : K.In base) (N : base.Ns mainGlobals mg) (d : He.SaysD fa fn K) : mg "bool" = none := He.free_ok X N (d.fact 72 (f := .free "bool") rfl)
theorem cl_Change (d : He.SaysD fa fn K) : Cls K (He.ga K "Change") := He.cls_ok (d.fact 73 (f := .cls "Change") rfl)
theorem mk_Change (d : He.SaysD fa fn K) : Mk K (He.ga K "Change") (He.ma K (He.ga K "Change") "__init__") := He.mkr_ok (d.fact 74 (f := .mkr "Change") rfl)
theorem no_Change_me (d : He.SaysD fa fn K) : NoAttr K (He.ga K "Change") "me" := He.noat_ok (d.fact 75 (f := .noat "Change" "me") rfl)
theorem no_Change_hands (d : He.SaysD fa fn K) : NoAttr K (He.ga K "Change") "hands" := He.noat_ok (d.fact 76 (f := .noat "Change" "hands") rfl)
theorem no_Change_ballot (d : He.SaysD fa fn K) : NoAttr K (He.ga K "Change") "ballot" := He.noat_ok (d.fact 77 (f := .noat "Change" "ballot") rfl)
theorem no_Change_yes (d : He.SaysD fa fn K) : NoAttr K (He.ga K "Change") "yes" := He.noat_ok (d.fact 78 (f := .noat "Change" "yes") rfl)
theorem no_Change_votes (d : He.SaysD fa fn K) : NoAttr K (He.ga K "Change") "votes" := He.noat_ok (d.fact 79 (f := .noat "Change" "votes") rfl)
theorem no_Change_reports (d : He.SaysD fa fn K) : NoAttr K (He.ga K "Change") "reports" := He.noat_ok (d.fact 80 (f := .noat "Change" "reports") rfl)
theorem no_Change_agreed (d : He.SaysD fa fn K) : NoAttr K (He.ga K "Change") "agreed" := He.noat_ok (d.fact 81 (f := .noat "Change" "agreed") rfl)
theorem cl_Known (d : He.SaysD fa fn K) : Cls K (He.ga K "Known") := He.cls_ok (d.fact 82 (f := .cls "Known") rfl)
theorem mk_Known (d : He.SaysD fa fn K) : Mk K (He.ga K "Known") (He.ma K (He.ga K "Known") "__init__") := He.mkr_ok (d.fact 83 (f := .mkr "Known") rfl)
theorem no_Known_circle (d : He.SaysD fa fn K) : NoAttr K (He.ga K "Known") "circle" := He.noat_ok (d.fact 84 (f := .noat "Known" "circle") rfl)
theorem no_Known_table (d : He.SaysD fa fn K) : NoAttr K (He.ga K "Known") "table" := He.noat_ok (d.fact 85 (f := .noat "Known" "table") rfl)
theorem cl_Page (d : He.SaysD fa fn K) : Cls K (He.ga K "Page") := He.cls_ok (d.fact 86 (f := .cls "Page") rfl)
theorem mk_Page (d : He.SaysD fa fn K) : Mk K (He.ga K "Page") (He.ma K (He.ga K "Page") "__init__") := He.mkr_ok (d.fact 87 (f := .mkr "Page") rfl)
theorem no_Page_me (d : He.SaysD fa fn K) : NoAttr K (He.ga K "Page") "me" := He.noat_ok (d.fact 88 (f := .noat "Page" "me") rfl)
theorem no_Page_number (d : He.SaysD fa fn K) : NoAttr K (He.ga K "Page") "number" := He.noat_ok (d.fact 89 (f := .noat "Page" "number") rfl)
theorem no_Page_hands (d : He.SaysD fa fn K) : NoAttr K (He.ga K "Page") "hands" := He.noat_ok (d.fact 90 (f := .noat "Page" "hands") rfl)
theorem no_Page_room (d : He.SaysD fa fn K) : NoAttr K (He.ga K "Page") "room" := He.noat_ok (d.fact 91 (f := .noat "Page" "room") rfl)
theorem no_Page_done (d : He.SaysD fa fn K) : NoAttr K (He.ga K "Page") "done" := He.noat_ok (d.fact 92 (f := .noat "Page" "done") rfl)
theorem no_Page_held (d : He.SaysD fa fn K) : NoAttr K (He.ga K "Page") "held" := He.noat_ok (d.fact 93 (f := .noat "Page" "held") rfl)
theorem no_Page_order (d : He.SaysD fa fn K) : NoAttr K (He.ga K "Page") "order" := He.noat_ok (d.fact 94 (f := .noat "Page" "order") rfl)
theorem no_Page_tells (d : He.SaysD fa fn K) : NoAttr K (He.ga K "Page") "tells" := He.noat_ok (d.fact 95 (f := .noat "Page" "tells") rfl)
theorem no_Page_ables (d : He.SaysD fa fn K) : NoAttr K (He.ga K "Page") "ables" := He.noat_ok (d.fact 96 (f := .noat "Page" "ables") rfl)
theorem no_Page_made (d : He.SaysD fa fn K) : NoAttr K (He.ga K "Page") "made" := He.noat_ok (d.fact 97 (f := .noat "Page" "made") rfl)
theorem no_Page_past (d : He.SaysD fa fn K) : NoAttr K (He.ga K "Page") "past" := He.noat_ok (d.fact 98 (f := .noat "Page" "past") rfl)
theorem cl_Hand (d : He.SaysD fa fn K) : Cls K (He.ga K "Hand") := He.cls_ok (d.fact 99 (f := .cls "Hand") rfl)
theorem mk_Hand (d : He.SaysD fa fn K) : Mk K (He.ga K "Hand") (He.ma K (He.ga K "Hand") "__init__") := He.mkr_ok (d.fact 100 (f := .mkr "Hand") rfl)
theorem no_Hand_me (d : He.SaysD fa fn K) : NoAttr K (He.ga K "Hand") "me" := He.noat_ok (d.fact 101 (f := .noat "Hand" "me") rfl)
theorem no_Hand_room (d : He.SaysD fa fn K) : NoAttr K (He.ga K "Hand") "room" := He.noat_ok (d.fact 102 (f := .noat "Hand" "room") rfl)
theorem no_Hand_history (d : He.SaysD fa fn K) : NoAttr K (He.ga K "Hand") "history" := He.noat_ok (d.fact 103 (f := .noat "Hand" "history") rfl)
theorem no_Hand_pages (d : He.SaysD fa fn K) : NoAttr K (He.ga K "Hand") "pages" := He.noat_ok (d.fact 104 (f := .noat "Hand" "pages") rfl)
theorem no_Hand_lost (d : He.SaysD fa fn K) : NoAttr K (He.ga K "Hand") "lost" := He.noat_ok (d.fact 105 (f := .noat "Hand" "lost") rfl)
theorem no_Hand_feared (d : He.SaysD fa fn K) : NoAttr K (He.ga K "Hand") "feared" := He.noat_ok (d.fact 106 (f := .noat "Hand" "feared") rfl)
theorem no_Hand_wished (d : He.SaysD fa fn K) : NoAttr K (He.ga K "Hand") "wished" := He.noat_ok (d.fact 107 (f := .noat "Hand" "wished") rfl)
theorem no_Hand_leaving (d : He.SaysD fa fn K) : NoAttr K (He.ga K "Hand") "leaving" := He.noat_ok (d.fact 108 (f := .noat "Hand" "leaving") rfl)
theorem no_Hand_wishing (d : He.SaysD fa fn K) : NoAttr K (He.ga K "Hand") "wishing" := He.noat_ok (d.fact 109 (f := .noat "Hand" "wishing") rfl)
theorem no_Hand_last (d : He.SaysD fa fn K) : NoAttr K (He.ga K "Hand") "last" := He.noat_ok (d.fact 110 (f := .noat "Hand" "last") rfl)
theorem no_Hand_number (d : He.SaysD fa fn K) : NoAttr K (He.ga K "Hand") "number" := He.noat_ok (d.fact 111 (f := .noat "Hand" "number") rfl)
theorem no_Hand_hands (d : He.SaysD fa fn K) : NoAttr K (He.ga K "Hand") "hands" := He.noat_ok (d.fact 112 (f := .noat "Hand" "hands") rfl)
theorem no_Hand_way (d : He.SaysD fa fn K) : NoAttr K (He.ga K "Hand") "way" := He.noat_ok (d.fact 113 (f := .noat "Hand" "way") rfl)
theorem no_Hand_gone (d : He.SaysD fa fn K) : NoAttr K (He.ga K "Hand") "gone" := He.noat_ok (d.fact 114 (f := .noat "Hand" "gone") rfl)
theorem no_Hand_page (d : He.SaysD fa fn K) : NoAttr K (He.ga K "Hand") "page" := He.noat_ok (d.fact 115 (f := .noat "Hand" "page") rfl)
theorem no_Hand_change (d : He.SaysD fa fn K) : NoAttr K (He.ga K "Hand") "change" := He.noat_ok (d.fact 116 (f := .noat "Hand" "change") rfl)
theorem cl_OwnCall (d : He.SaysD fa fn K) : Cls K (He.ga K "OwnCall") := He.cls_ok (d.fact 117 (f := .cls "OwnCall") rfl)
theorem mk_OwnCall (d : He.SaysD fa fn K) : Mk K (He.ga K "OwnCall") (He.ma K (He.ga K "OwnCall") "__init__") := He.mkr_ok (d.fact 118 (f := .mkr "OwnCall") rfl)
theorem no_OwnCall_number (d : He.SaysD fa fn K) : NoAttr K (He.ga K "OwnCall") "number" := He.noat_ok (d.fact 119 (f := .noat "OwnCall" "number") rfl)
theorem no_OwnCall_caller (d : He.SaysD fa fn K) : NoAttr K (He.ga K "OwnCall") "caller" := He.noat_ok (d.fact 120 (f := .noat "OwnCall" "caller") rfl)
theorem no_OwnCall_count (d : He.SaysD fa fn K) : NoAttr K (He.ga K "OwnCall") "count" := He.noat_ok (d.fact 121 (f := .noat "OwnCall" "count") rfl)
theorem no_OwnCall_word (d : He.SaysD fa fn K) : NoAttr K (He.ga K "OwnCall") "word" := He.noat_ok (d.fact 122 (f := .noat "OwnCall" "word") rfl)
theorem no_OwnCall_causes (d : He.SaysD fa fn K) : NoAttr K (He.ga K "OwnCall") "causes" := He.noat_ok (d.fact 123 (f := .noat "OwnCall" "causes") rfl)
theorem cl_HeardCall (d : He.SaysD fa fn K) : Cls K (He.ga K "HeardCall") := He.cls_ok (d.fact 124 (f := .cls "HeardCall") rfl)
theorem mk_HeardCall (d : He.SaysD fa fn K) : Mk K (He.ga K "HeardCall") (He.ma K (He.ga K "HeardCall") "__init__") := He.mkr_ok (d.fact 125 (f := .mkr "HeardCall") rfl)
theorem no_HeardCall_number (d : He.SaysD fa fn K) : NoAttr K (He.ga K "HeardCall") "number" := He.noat_ok (d.fact 126 (f := .noat "HeardCall" "number") rfl)
theorem no_HeardCall_caller (d : He.SaysD fa fn K) : NoAttr K (He.ga K "HeardCall") "caller" := He.noat_ok (d.fact 127 (f := .noat "HeardCall" "caller") rfl)
theorem no_HeardCall_count (d : He.SaysD fa fn K) : NoAttr K (He.ga K "HeardCall") "count" := He.noat_ok (d.fact 128 (f := .noat "HeardCall" "count") rfl)
theorem no_HeardCall_word (d : He.SaysD fa fn K) : NoAttr K (He.ga K "HeardCall") "word" := He.noat_ok (d.fact 129 (f := .noat "HeardCall" "word") rfl)
theorem no_HeardCall_causes (d : He.SaysD fa fn K) : NoAttr K (He.ga K "HeardCall") "causes" := He.noat_ok (d.fact 130 (f := .noat "HeardCall" "causes") rfl)
theorem cl_OneCall (d : He.SaysD fa fn K) : Cls K (He.ga K "OneCall") := He.cls_ok (d.fact 131 (f := .cls "OneCall") rfl)
theorem mk_OneCall (d : He.SaysD fa fn K) : Mk K (He.ga K "OneCall") (He.ma K (He.ga K "OneCall") "__init__") := He.mkr_ok (d.fact 132 (f := .mkr "OneCall") rfl)
theorem no_OneCall_number (d : He.SaysD fa fn K) : NoAttr K (He.ga K "OneCall") "number" := He.noat_ok (d.fact 133 (f := .noat "OneCall" "number") rfl)
theorem no_OneCall_caller (d : He.SaysD fa fn K) : NoAttr K (He.ga K "OneCall") "caller" := He.noat_ok (d.fact 134 (f := .noat "OneCall" "caller") rfl)
theorem no_OneCall_count (d : He.SaysD fa fn K) : NoAttr K (He.ga K "OneCall") "count" := He.noat_ok (d.fact 135 (f := .noat "OneCall" "count") rfl)
theorem no_OneCall_word (d : He.SaysD fa fn K) : NoAttr K (He.ga K "OneCall") "word" := He.noat_ok (d.fact 136 (f := .noat "OneCall" "word") rfl)
theorem no_OneCall_causes (d : He.SaysD fa fn K) : NoAttr K (He.ga K "OneCall") "causes" := He.noat_ok (d.fact 137 (f := .noat "OneCall" "causes") rfl)
theorem me_Change_init (d : He.SaysD fa fn K) : Meth K (He.ga K "Change") "__init__" (He.ma K (He.ga K "Change") "__init__") := He.meth_ok (d.fact 138 (f := .meth "Change" "__init__") rfl)
theorem me_Change_begin (d : He.SaysD fa fn K) : Meth K (He.ga K "Change") "begin" (He.ma K (He.ga K "Change") "begin") := He.meth_ok (d.fact 139 (f := .meth "Change" "begin") rfl)
theorem me_Change_message (d : He.SaysD fa fn K) : Meth K (He.ga K "Change") "message" (He.ma K (He.ga K "Change") "message") := He.meth_ok (d.fact 140 (f := .meth "Change" "message") rfl)
theorem me_Change_receive (d : He.SaysD fa fn K) : Meth K (He.ga K "Change") "receive" (He.ma K (He.ga K "Change") "receive") := He.meth_ok (d.fact 141 (f := .meth "Change" "receive") rfl)
theorem me_Change_receive_yes (d : He.SaysD fa fn K) : Meth K (He.ga K "Change") "receive_yes" (He.ma K (He.ga K "Change") "receive_yes") := He.meth_ok (d.fact 142 (f := .meth "Change" "receive_yes") rfl)
theorem me_Change_unplanned (d : He.SaysD fa fn K) : Meth K (He.ga K "Change") "unplanned" (He.ma K (He.ga K "Change") "unplanned") := He.meth_ok (d.fact 143 (f := .meth "Change" "unplanned") rfl)
theorem me_Change_settle (d : He.SaysD fa fn K) : Meth K (He.ga K "Change") "settle" (He.ma K (He.ga K "Change") "settle") := He.meth_ok (d.fact 144 (f := .meth "Change" "settle") rfl)
theorem me_Change_enough (d : He.SaysD fa fn K) : Meth K (He.ga K "Change") "enough" (He.ma K (He.ga K "Change") "enough") := He.meth_ok (d.fact 145 (f := .meth "Change" "enough") rfl)
theorem me_Change_propose (d : He.SaysD fa fn K) : Meth K (He.ga K "Change") "propose" (He.ma K (He.ga K "Change") "propose") := He.meth_ok (d.fact 146 (f := .meth "Change" "propose") rfl)
theorem me_Change_settled (d : He.SaysD fa fn K) : Meth K (He.ga K "Change") "settled" (He.ma K (He.ga K "Change") "settled") := He.meth_ok (d.fact 147 (f := .meth "Change" "settled") rfl)
theorem me_OwnCall_kind (d : He.SaysD fa fn K) : Meth K (He.ga K "OwnCall") "kind" (He.ma K (He.ga K "OwnCall") "kind") := He.meth_ok (d.fact 148 (f := .meth "OwnCall" "kind") rfl)
theorem me_HeardCall_kind (d : He.SaysD fa fn K) : Meth K (He.ga K "HeardCall") "kind" (He.ma K (He.ga K "HeardCall") "kind") := He.meth_ok (d.fact 149 (f := .meth "HeardCall" "kind") rfl)
theorem me_HeardCall_free (d : He.SaysD fa fn K) : Meth K (He.ga K "HeardCall") "free" (He.ma K (He.ga K "HeardCall") "free") := He.meth_ok (d.fact 150 (f := .meth "HeardCall" "free") rfl)
theorem me_OneCall_kind (d : He.SaysD fa fn K) : Meth K (He.ga K "OneCall") "kind" (He.ma K (He.ga K "OneCall") "kind") := He.meth_ok (d.fact 151 (f := .meth "OneCall" "kind") rfl)
theorem me_OneCall_asks_place (d : He.SaysD fa fn K) : Meth K (He.ga K "OneCall") "asks_place" (He.ma K (He.ga K "OneCall") "asks_place") := He.meth_ok (d.fact 152 (f := .meth "OneCall" "asks_place") rfl)
theorem me_Known_init (d : He.SaysD fa fn K) : Meth K (He.ga K "Known") "__init__" (He.ma K (He.ga K "Known") "__init__") := He.meth_ok (d.fact 153 (f := .meth "Known" "__init__") rfl)
theorem me_Known_learn (d : He.SaysD fa fn K) : Meth K (He.ga K "Known") "learn" (He.ma K (He.ga K "Known") "learn") := He.meth_ok (d.fact 154 (f := .meth "Known" "learn") rfl)
theorem me_Known_row_of (d : He.SaysD fa fn K) : Meth K (He.ga K "Known") "row_of" (He.ma K (He.ga K "Known") "row_of") := He.meth_ok (d.fact 155 (f := .meth "Known" "row_of") rfl)
theorem me_Known_floor (d : He.SaysD fa fn K) : Meth K (He.ga K "Known") "floor" (He.ma K (He.ga K "Known") "floor") := He.meth_ok (d.fact 156 (f := .meth "Known" "floor") rfl)
theorem me_Known_reach (d : He.SaysD fa fn K) : Meth K (He.ga K "Known") "reach" (He.ma K (He.ga K "Known") "reach") := He.meth_ok (d.fact 157 (f := .meth "Known" "reach") rfl)
theorem me_Known_sure (d : He.SaysD fa fn K) : Meth K (He.ga K "Known") "sure" (He.ma K (He.ga K "Known") "sure") := He.meth_ok (d.fact 158 (f := .meth "Known" "sure") rfl)
theorem me_Known_listed (d : He.SaysD fa fn K) : Meth K (He.ga K "Known") "listed" (He.ma K (He.ga K "Known") "listed") := He.meth_ok (d.fact 159 (f := .meth "Known" "listed") rfl)
theorem me_Known_merge (d : He.SaysD fa fn K) : Meth K (He.ga K "Known") "merge" (He.ma K (He.ga K "Known") "merge") := He.meth_ok (d.fact 160 (f := .meth "Known" "merge") rfl)
theorem me_Page_init (d : He.SaysD fa fn K) : Meth K (He.ga K "Page") "__init__" (He.ma K (He.ga K "Page") "__init__") := He.meth_ok (d.fact 161 (f := .meth "Page" "__init__") rfl)
theorem me_Page_utter (d : He.SaysD fa fn K) : Meth K (He.ga K "Page") "utter" (He.ma K (He.ga K "Page") "utter") := He.meth_ok (d.fact 162 (f := .meth "Page" "utter") rfl)
theorem me_Page_sorted_calls (d : He.SaysD fa fn K) : Meth K (He.ga K "Page") "sorted_calls" (He.ma K (He.ga K "Page") "sorted_calls") := He.meth_ok (d.fact 163 (f := .meth "Page" "sorted_calls") rfl)
theorem me_Page_take (d : He.SaysD fa fn K) : Meth K (He.ga K "Page") "take" (He.ma K (He.ga K "Page") "take") := He.meth_ok (d.fact 164 (f := .meth "Page" "take") rfl)
theorem me_Page_step (d : He.SaysD fa fn K) : Meth K (He.ga K "Page") "step" (He.ma K (He.ga K "Page") "step") := He.meth_ok (d.fact 165 (f := .meth "Page" "step") rfl)
theorem me_Page_let_go (d : He.SaysD fa fn K) : Meth K (He.ga K "Page") "let_go" (He.ma K (He.ga K "Page") "let_go") := He.meth_ok (d.fact 166 (f := .meth "Page" "let_go") rfl)
theorem me_Page_piece (d : He.SaysD fa fn K) : Meth K (He.ga K "Page") "piece" (He.ma K (He.ga K "Page") "piece") := He.meth_ok (d.fact 167 (f := .meth "Page" "piece") rfl)
theorem me_Page_listen (d : He.SaysD fa fn K) : Meth K (He.ga K "Page") "listen" (He.ma K (He.ga K "Page") "listen") := He.meth_ok (d.fact 168 (f := .meth "Page" "listen") rfl)
theorem me_Page_report (d : He.SaysD fa fn K) : Meth K (He.ga K "Page") "report" (He.ma K (He.ga K "Page") "report") := He.meth_ok (d.fact 169 (f := .meth "Page" "report") rfl)
theorem me_Page_finish (d : He.SaysD fa fn K) : Meth K (He.ga K "Page") "finish" (He.ma K (He.ga K "Page") "finish") := He.meth_ok (d.fact 170 (f := .meth "Page" "finish") rfl)
theorem me_Page_rows (d : He.SaysD fa fn K) : Meth K (He.ga K "Page") "rows" (He.ma K (He.ga K "Page") "rows") := He.meth_ok (d.fact 171 (f := .meth "Page" "rows") rfl)
theorem me_Page_kept (d : He.SaysD fa fn K) : Meth K (He.ga K "Page") "kept" (He.ma K (He.ga K "Page") "kept") := He.meth_ok (d.fact 172 (f := .meth "Page" "kept") rfl)
theorem me_Hand_init (d : He.SaysD fa fn K) : Meth K (He.ga K "Hand") "__init__" (He.ma K (He.ga K "Hand") "__init__") := He.meth_ok (d.fact 173 (f := .meth "Hand" "__init__") rfl)
theorem me_Hand_stand (d : He.SaysD fa fn K) : Meth K (He.ga K "Hand") "stand" (He.ma K (He.ga K "Hand") "stand") := He.meth_ok (d.fact 174 (f := .meth "Hand" "stand") rfl)
theorem me_Hand_go_out (d : He.SaysD fa fn K) : Meth K (He.ga K "Hand") "go_out" (He.ma K (He.ga K "Hand") "go_out") := He.meth_ok (d.fact 175 (f := .meth "Hand" "go_out") rfl)
theorem me_Hand_note (d : He.SaysD fa fn K) : Meth K (He.ga K "Hand") "note" (He.ma K (He.ga K "Hand") "note") := He.meth_ok (d.fact 176 (f := .meth "Hand" "note") rfl)
theorem me_Hand_go_by (d : He.SaysD fa fn K) : Meth K (He.ga K "Hand") "go_by" (He.ma K (He.ga K "Hand") "go_by") := He.meth_ok (d.fact 177 (f := .meth "Hand" "go_by") rfl)
theorem me_Hand_settle (d : He.SaysD fa fn K) : Meth K (He.ga K "Hand") "settle" (He.ma K (He.ga K "Hand") "settle") := He.meth_ok (d.fact 178 (f := .meth "Hand" "settle") rfl)
theorem me_Hand_call (d : He.SaysD fa fn K) : Meth K (He.ga K "Hand") "call" (He.ma K (He.ga K "Hand") "call") := He.meth_ok (d.fact 179 (f := .meth "Hand" "call") rfl)
theorem me_Hand_renew (d : He.SaysD fa fn K) : Meth K (He.ga K "Hand") "renew" (He.ma K (He.ga K "Hand") "renew") := He.meth_ok (d.fact 180 (f := .meth "Hand" "renew") rfl)
theorem me_Hand_suspect (d : He.SaysD fa fn K) : Meth K (He.ga K "Hand") "suspect" (He.ma K (He.ga K "Hand") "suspect") := He.meth_ok (d.fact 181 (f := .meth "Hand" "suspect") rfl)
theorem me_Hand_leave (d : He.SaysD fa fn K) : Meth K (He.ga K "Hand") "leave" (He.ma K (He.ga K "Hand") "leave") := He.meth_ok (d.fact 182 (f := .meth "Hand" "leave") rfl)
theorem me_Hand_come (d : He.SaysD fa fn K) : Meth K (He.ga K "Hand") "come" (He.ma K (He.ga K "Hand") "come") := He.meth_ok (d.fact 183 (f := .meth "Hand" "come") rfl)
theorem me_Hand_letter (d : He.SaysD fa fn K) : Meth K (He.ga K "Hand") "letter" (He.ma K (He.ga K "Hand") "letter") := He.meth_ok (d.fact 184 (f := .meth "Hand" "letter") rfl)
theorem me_Hand_hear (d : He.SaysD fa fn K) : Meth K (He.ga K "Hand") "hear" (He.ma K (He.ga K "Hand") "hear") := He.meth_ok (d.fact 185 (f := .meth "Hand" "hear") rfl)
theorem me_Hand_hear_away (d : He.SaysD fa fn K) : Meth K (He.ga K "Hand") "hear_away" (He.ma K (He.ga K "Hand") "hear_away") := He.meth_ok (d.fact 186 (f := .meth "Hand" "hear_away") rfl)
theorem me_Hand_hear_list (d : He.SaysD fa fn K) : Meth K (He.ga K "Hand") "hear_list" (He.ma K (He.ga K "Hand") "hear_list") := He.meth_ok (d.fact 187 (f := .meth "Hand" "hear_list") rfl)
theorem me_Hand_events (d : He.SaysD fa fn K) : Meth K (He.ga K "Hand") "events" (He.ma K (He.ga K "Hand") "events") := He.meth_ok (d.fact 188 (f := .meth "Hand" "events") rfl)
theorem me_Hand_standing (d : He.SaysD fa fn K) : Meth K (He.ga K "Hand") "standing" (He.ma K (He.ga K "Hand") "standing") := He.meth_ok (d.fact 189 (f := .meth "Hand" "standing") rfl)
theorem me_Hand_kept (d : He.SaysD fa fn K) : Meth K (He.ga K "Hand") "kept" (He.ma K (He.ga K "Hand") "kept") := He.meth_ok (d.fact 190 (f := .meth "Hand" "kept") rfl)
theorem me_OwnCall_init (d : He.SaysD fa fn K) : Meth K (He.ga K "OwnCall") "__init__" (He.ma K (He.ga K "OwnCall") "__init__") := He.meth_ok (d.fact 191 (f := .meth "OwnCall" "__init__") rfl)
theorem me_OwnCall_name (d : He.SaysD fa fn K) : Meth K (He.ga K "OwnCall") "name" (He.ma K (He.ga K "OwnCall") "name") := He.meth_ok (d.fact 192 (f := .meth "OwnCall" "name") rfl)
theorem me_OwnCall_free (d : He.SaysD fa fn K) : Meth K (He.ga K "OwnCall") "free" (He.ma K (He.ga K "OwnCall") "free") := He.meth_ok (d.fact 193 (f := .meth "OwnCall" "free") rfl)
theorem me_OwnCall_asks_place (d : He.SaysD fa fn K) : Meth K (He.ga K "OwnCall") "asks_place" (He.ma K (He.ga K "OwnCall") "asks_place") := He.meth_ok (d.fact 194 (f := .meth "OwnCall" "asks_place") rfl)
theorem me_OwnCall_told (d : He.SaysD fa fn K) : Meth K (He.ga K "OwnCall") "told" (He.ma K (He.ga K "OwnCall") "told") := He.meth_ok (d.fact 195 (f := .meth "OwnCall" "told") rfl)
theorem me_HeardCall_init (d : He.SaysD fa fn K) : Meth K (He.ga K "HeardCall") "__init__" (He.ma K (He.ga K "HeardCall") "__init__") := He.meth_ok (d.fact 196 (f := .meth "HeardCall" "__init__") rfl)
theorem me_HeardCall_name (d : He.SaysD fa fn K) : Meth K (He.ga K "HeardCall") "name" (He.ma K (He.ga K "HeardCall") "name") := He.meth_ok (d.fact 197 (f := .meth "HeardCall" "name") rfl)
theorem me_HeardCall_asks_place (d : He.SaysD fa fn K) : Meth K (He.ga K "HeardCall") "asks_place" (He.ma K (He.ga K "HeardCall") "asks_place") := He.meth_ok (d.fact 198 (f := .meth "HeardCall" "asks_place") rfl)
theorem me_HeardCall_told (d : He.SaysD fa fn K) : Meth K (He.ga K "HeardCall") "told" (He.ma K (He.ga K "HeardCall") "told") := He.meth_ok (d.fact 199 (f := .meth "HeardCall" "told") rfl)
theorem me_OneCall_init (d : He.SaysD fa fn K) : Meth K (He.ga K "OneCall") "__init__" (He.ma K (He.ga K "OneCall") "__init__") := He.meth_ok (d.fact 200 (f := .meth "OneCall" "__init__") rfl)
theorem me_OneCall_name (d : He.SaysD fa fn K) : Meth K (He.ga K "OneCall") "name" (He.ma K (He.ga K "OneCall") "name") := He.meth_ok (d.fact 201 (f := .meth "OneCall" "name") rfl)
theorem me_OneCall_free (d : He.SaysD fa fn K) : Meth K (He.ga K "OneCall") "free" (He.ma K (He.ga K "OneCall") "free") := He.meth_ok (d.fact 202 (f := .meth "OneCall" "free") rfl)
theorem me_OneCall_told (d : He.SaysD fa fn K) : Meth K (He.ga K "OneCall") "told" (He.ma K (He.ga K "OneCall") "told") := He.meth_ok (d.fact 203 (f := .meth "OneCall" "told") rfl)
theorem ec_NotIn (d : He.SaysD fa fn K) : PySem.W.excIn K (He.ga K "NotIn") He.veBase "ValueError.__new__" = true ∧ PySem.W.keepIn K (.ref (He.ga K "NotIn")) = true ∧ PySem.W.subIn K (.ref (He.ga K "NotIn")) (.type "BaseException") = some true ∧ PySem.W.typeIn K (.ref (He.ga K "NotIn")) = some (.type "type") := He.exc_ok (d.fact 204 (f := .exc "NotIn") rfl)
theorem xm_NotIn (d : He.SaysD fa fn K) : PySem.W.exmOne K (.ref (He.ga K "NotIn")) (.ref (He.ga K "GroupError")) = some true := He.exm_ok (d.fact 205 (f := .exm "NotIn" "GroupError" true) rfl)
theorem xm_Stopped (d : He.SaysD fa fn K) : PySem.W.exmOne K (.ref (He.ga K "Stopped")) (.ref (He.ga K "GroupError")) = some true := He.exm_ok (d.fact 206 (f := .exm "Stopped" "GroupError" true) rfl)
theorem xm_Held (d : He.SaysD fa fn K) : PySem.W.exmOne K (.ref (He.ga K "Held")) (.ref (He.ga K "GroupError")) = some true := He.exm_ok (d.fact 207 (f := .exm "Held" "GroupError" true) rfl)
theorem me_Stopped_init (d : He.SaysD fa fn K) : Meth K (He.ga K "Stopped") "__init__" (He.ma K (He.ga K "Stopped") "__init__") := He.meth_ok (d.fact 208 (f := .meth "Stopped" "__init__") rfl)
theorem me_Held_init (d : He.SaysD fa fn K) : Meth K (He.ga K "Held") "__init__" (He.ma K (He.ga K "Held") "__init__") := He.meth_ok (d.fact 209 (f := .meth "Held" "__init__") rfl)
theorem no_Stopped_ballot (d : He.SaysD fa fn K) : NoAttr K (He.ga K "Stopped") "ballot" := He.noat_ok (d.fact 210 (f := .noat "Stopped" "ballot") rfl)
theorem no_Held_many (d : He.SaysD fa fn K) : NoAttr K (He.ga K "Held") "many" := He.noat_ok (d.fact 211 (f := .noat "Held" "many") rfl)
theorem no_Held_room (d : He.SaysD fa fn K) : NoAttr K (He.ga K "Held") "room" := He.noat_ok (d.fact 212 (f := .noat "Held" "room") rfl)
end
structure ChangeR where
  me_ : V
  hands_ : V
  ballot_ : V
  yes_ : V
  votes_ : V
  reports_ : V
  agreed_ : V
def ChangeR.fs (r : ChangeR) : List (Str × V) := [("me", r.me_), ("hands", r.hands_), ("ballot", r.ballot_), ("yes", r.yes_), ("votes", r.votes_), ("reports", r.reports_), ("agreed", r.agreed_)]
theorem ChangeR.get_me (r : ChangeR) : r.fs.lookup ("me" : Str) = some r.me_ := by kernel_rfl
theorem ChangeR.put_me (r : ChangeR) (v : V) : putF "me" v r.fs = ({ r with me_ := v } : ChangeR).fs := by kernel_rfl
theorem ChangeR.get_hands (r : ChangeR) : r.fs.lookup ("hands" : Str) = some r.hands_ := by kernel_rfl
theorem ChangeR.put_hands (r : ChangeR) (v : V) : putF "hands" v r.fs = ({ r with hands_ := v } : ChangeR).fs := by kernel_rfl
theorem ChangeR.get_ballot (r : ChangeR) : r.fs.lookup ("ballot" : Str) = some r.ballot_ := by kernel_rfl
theorem ChangeR.put_ballot (r : ChangeR) (v : V) : putF "ballot" v r.fs = ({ r with ballot_ := v } : ChangeR).fs := by kernel_rfl
theorem ChangeR.get_yes (r : ChangeR) : r.fs.lookup ("yes" : Str) = some r.yes_ := by kernel_rfl
theorem ChangeR.put_yes (r : ChangeR) (v : V) : putF "yes" v r.fs = ({ r with yes_ := v } : ChangeR).fs := by kernel_rfl
theorem ChangeR.get_votes (r : ChangeR) : r.fs.lookup ("votes" : Str) = some r.votes_ := by kernel_rfl
theorem ChangeR.put_votes (r : ChangeR) (v : V) : putF "votes" v r.fs = ({ r with votes_ := v } : ChangeR).fs := by kernel_rfl
theorem ChangeR.get_reports (r : ChangeR) : r.fs.lookup ("reports" : Str) = some r.reports_ := by kernel_rfl
theorem ChangeR.put_reports (r : ChangeR) (v : V) : putF "reports" v r.fs = ({ r with reports_ := v } : ChangeR).fs := by kernel_rfl
theorem ChangeR.get_agreed (r : ChangeR) : r.fs.lookup ("agreed" : Str) = some r.agreed_ := by kernel_rfl
theorem ChangeR.put_agreed (r : ChangeR) (v : V) : putF "agreed" v r.fs = ({ r with agreed_ := v } : ChangeR).fs := by kernel_rfl
section
variable {X : Cx} {e o v : Expr} {t tv : TE} {pos pos' : Pos}
theorem pe_Change_me (d : He.SaysD fa fn X.K) (he : PE X e t) (hb : attributeBase e "me" X.env (eval e X.env) = eval e X.env := by rfl) : PE X (.Attribute e "me" pos) (tGet (He.ga X.K "Change") ChangeR.fs ChangeR.me_ t) := pe_get (cl_Change d) (no_Change_me d) ChangeR.get_me he hb
theorem ps_Change_me (d : He.SaysD fa fn X.K) (ho : PE X o t) (hv : PE X v tv) (hs : swapsWith v (some (.Attribute o "me" pos')) pos.line X.env = pure false := by rfl) : PS X (.Assign [.Attribute o "me" pos'] v pos) (sPut (He.ga X.K "Change") ChangeR.fs (fun r y => ({ r with me_ := y } : ChangeR)) t tv) := ps_put (cl_Change d) (no_Change_me d) (fun r => by show 7 < 1000; decide) ChangeR.put_me ho hv hs
theorem pe_Change_hands (d : He.SaysD fa fn X.K) (he : PE X e t) (hb : attributeBase e "hands" X.env (eval e X.env) = eval e X.env := by rfl) : PE X (.Attribute e "hands" pos) (tGet (He.ga X.K "Change") ChangeR.fs ChangeR.hands_ t) := pe_get (cl_Change d) (no_Change_hands d) ChangeR.get_hands he hb
theorem ps_Change_hands (d : He.SaysD fa fn X.K) (ho : PE X o t) (hv : PE X v tv) (hs : swapsWith v (some (.Attribute o "hands" pos')) pos.line X.env = pure false := by rfl) : PS X (.Assign [.Attribute o "hands" pos'] v pos) (sPut (He.ga X.K "Change") ChangeR.fs (fun r y => ({ r with hands_ := y } : ChangeR)) t tv) := ps_put (cl_Change d) (no_Change_hands d) (fun r => by show 7 < 1000; decide) ChangeR.put_hands ho hv hs
theorem pe_Change_ballot (d : He.SaysD fa fn X.K) (he : PE X e t) (hb : attributeBase e "ballot" X.env (eval e X.env) = eval e X.env := by rfl) : PE X (.Attribute e "ballot" pos) (tGet (He.ga X.K "Change") ChangeR.fs ChangeR.ballot_ t) := pe_get (cl_Change d) (no_Change_ballot d) ChangeR.get_ballot he hb
theorem ps_Change_ballot (d : He.SaysD fa fn X.K) (ho : PE X o t) (hv : PE X v tv) (hs : swapsWith v (some (.Attribute o "ballot" pos')) pos.line X.env = pure false := by rfl) : PS X (.Assign [.Attribute o "ballot" pos'] v pos) (sPut (He.ga X.K "Change") ChangeR.fs (fun r y => ({ r with ballot_ := y } : ChangeR)) t tv) := ps_put (cl_Change d) (no_Change_ballot d) (fun r => by show 7 < 1000; decide) ChangeR.put_ballot ho hv hs
theorem pe_Change_yes (d : He.SaysD fa fn X.K) (he : PE X e t) (hb : attributeBase e "yes" X.env (eval e X.env) = eval e X.env := by rfl) : PE X (.Attribute e "yes" pos) (tGet (He.ga X.K "Change") ChangeR.fs ChangeR.yes_ t) := pe_get (cl_Change d) (no_Change_yes d) ChangeR.get_yes he hb
theorem ps_Change_yes (d : He.SaysD fa fn X.K) (ho : PE X o t) (hv : PE X v tv) (hs : swapsWith v (some (.Attribute o "yes" pos')) pos.line X.env = pure false := by rfl) : PS X (.Assign [.Attribute o "yes" pos'] v pos) (sPut (He.ga X.K "Change") ChangeR.fs (fun r y => ({ r with yes_ := y } : ChangeR)) t tv) := ps_put (cl_Change d) (no_Change_yes d) (fun r => by show 7 < 1000; decide) ChangeR.put_yes ho hv hs
theorem pe_Change_votes (d : He.SaysD fa fn X.K) (he : PE X e t) (hb : attributeBase e "votes" X.env (eval e X.env) = eval e X.env := by rfl) : PE X (.Attribute e "votes" pos) (tGet (He.ga X.K "Change") ChangeR.fs ChangeR.votes_ t) := pe_get (cl_Change d) (no_Change_votes d) ChangeR.get_votes he hb
theorem ps_Change_votes (d : He.SaysD fa fn X.K) (ho : PE X o t) (hv : PE X v tv) (hs : swapsWith v (some (.Attribute o "votes" pos')) pos.line X.env = pure false := by rfl) : PS X (.Assign [.Attribute o "votes" pos'] v pos) (sPut (He.ga X.K "Change") ChangeR.fs (fun r y => ({ r with votes_ := y } : ChangeR)) t tv) := ps_put (cl_Change d) (no_Change_votes d) (fun r => by show 7 < 1000; decide) ChangeR.put_votes ho hv hs
theorem pe_Change_reports (d : He.SaysD fa fn X.K) (he : PE X e t) (hb : attributeBase e "reports" X.env (eval e X.env) = eval e X.env := by rfl) : PE X (.Attribute e "reports" pos) (tGet (He.ga X.K "Change") ChangeR.fs ChangeR.reports_ t) := pe_get (cl_Change d) (no_Change_reports d) ChangeR.get_reports he hb
theorem ps_Change_reports (d : He.SaysD fa fn X.K) (ho : PE X o t) (hv : PE X v tv) (hs : swapsWith v (some (.Attribute o "reports" pos')) pos.line X.env = pure false := by rfl) : PS X (.Assign [.Attribute o "reports" pos'] v pos) (sPut (He.ga X.K "Change") ChangeR.fs (fun r y => ({ r with reports_ := y } : ChangeR)) t tv) := ps_put (cl_Change d) (no_Change_reports d) (fun r => by show 7 < 1000; decide) ChangeR.put_reports ho hv hs
theorem pe_Change_agreed (d : He.SaysD fa fn X.K) (he : PE X e t) (hb : attributeBase e "agreed" X.env (eval e X.env) = eval e X.env := by rfl) : PE X (.Attribute e "agreed" pos) (tGet (He.ga X.K "Change") ChangeR.fs ChangeR.agreed_ t) := pe_get (cl_Change d) (no_Change_agreed d) ChangeR.get_agreed he hb
theorem ps_Change_agreed (d : He.SaysD fa fn X.K) (ho : PE X o t) (hv : PE X v tv) (hs : swapsWith v (some (.Attribute o "agreed" pos')) pos.line X.env = pure false := by rfl) : PS X (.Assign [.Attribute o "agreed" pos'] v pos) (sPut (He.ga X.K "Change") ChangeR.fs (fun r y => ({ r with agreed_ := y } : ChangeR)) t tv) := ps_put (cl_Change d) (no_Change_agreed d) (fun r => by show 7 < 1000; decide) ChangeR.put_agreed ho hv hs
end
theorem ChangeR.laid (r : ChangeR) : putF "agreed" r.agreed_ (putF "reports" r.reports_ (putF "votes" r.votes_ (putF "yes" r.yes_ (putF "ballot" r.ballot_ (putF "hands" r.hands_ (putF "me" r.me_ ([]))))))) = r.fs := by kernel_rfl
structure KnownR where
  circle_ : V
  table_ : V
def KnownR.fs (r : KnownR) : List (Str × V) := [("circle", r.circle_), ("table", r.table_)]
theorem KnownR.get_circle (r : KnownR) : r.fs.lookup ("circle" : Str) = some r.circle_ := by kernel_rfl
theorem KnownR.put_circle (r : KnownR) (v : V) : putF "circle" v r.fs = ({ r with circle_ := v } : KnownR).fs := by kernel_rfl
theorem KnownR.get_table (r : KnownR) : r.fs.lookup ("table" : Str) = some r.table_ := by kernel_rfl
theorem KnownR.put_table (r : KnownR) (v : V) : putF "table" v r.fs = ({ r with table_ := v } : KnownR).fs := by kernel_rfl
section
variable {X : Cx} {e o v : Expr} {t tv : TE} {pos pos' : Pos}
theorem pe_Known_circle (d : He.SaysD fa fn X.K) (he : PE X e t) (hb : attributeBase e "circle" X.env (eval e X.env) = eval e X.env := by rfl) : PE X (.Attribute e "circle" pos) (tGet (He.ga X.K "Known") KnownR.fs KnownR.circle_ t) := pe_get (cl_Known d) (no_Known_circle d) KnownR.get_circle he hb
theorem ps_Known_circle (d : He.SaysD fa fn X.K) (ho : PE X o t) (hv : PE X v tv) (hs : swapsWith v (some (.Attribute o "circle" pos')) pos.line X.env = pure false := by rfl) : PS X (.Assign [.Attribute o "circle" pos'] v pos) (sPut (He.ga X.K "Known") KnownR.fs (fun r y => ({ r with circle_ := y } : KnownR)) t tv) := ps_put (cl_Known d) (no_Known_circle d) (fun r => by show 2 < 1000; decide) KnownR.put_circle ho hv hs
theorem pe_Known_table (d : He.SaysD fa fn X.K) (he : PE X e t) (hb : attributeBase e "table" X.env (eval e X.env) = eval e X.env := by rfl) : PE X (.Attribute e "table" pos) (tGet (He.ga X.K "Known") KnownR.fs KnownR.table_ t) := pe_get (cl_Known d) (no_Known_table d) KnownR.get_table he hb
theorem ps_Known_table (d : He.SaysD fa fn X.K) (ho : PE X o t) (hv : PE X v tv) (hs : swapsWith v (some (.Attribute o "table" pos')) pos.line X.env = pure false := by rfl) : PS X (.Assign [.Attribute o "table" pos'] v pos) (sPut (He.ga X.K "Known") KnownR.fs (fun r y => ({ r with table_ := y } : KnownR)) t tv) := ps_put (cl_Known d) (no_Known_table d) (fun r => by show 2 < 1000; decide) KnownR.put_table ho hv hs
end
theorem KnownR.laid (r : KnownR) : putF "table" r.table_ (putF "circle" r.circle_ ([])) = r.fs := by kernel_rfl
structure PageR where
  me_ : V
  number_ : V
  hands_ : V
  room_ : V
  done_ : V
  held_ : V
  order_ : V
  tells_ : V
  ables_ : V
  made_ : V
  past_ : V
def PageR.fs (r : PageR) : List (Str × V) := [("me", r.me_), ("number", r.number_), ("hands", r.hands_), ("room", r.room_), ("done", r.done_), ("held", r.held_), ("order", r.order_), ("tells", r.tells_), ("ables", r.ables_), ("made", r.made_), ("past", r.past_)]
theorem PageR.get_me (r : PageR) : r.fs.lookup ("me" : Str) = some r.me_ := by kernel_rfl
theorem PageR.put_me (r : PageR) (v : V) : putF "me" v r.fs = ({ r with me_ := v } : PageR).fs := by kernel_rfl
theorem PageR.get_number (r : PageR) : r.fs.lookup ("number" : Str) = some r.number_ := by kernel_rfl
theorem PageR.put_number (r : PageR) (v : V) : putF "number" v r.fs = ({ r with number_ := v } : PageR).fs := by kernel_rfl
theorem PageR.get_hands (r : PageR) : r.fs.lookup ("hands" : Str) = some r.hands_ := by kernel_rfl
theorem PageR.put_hands (r : PageR) (v : V) : putF "hands" v r.fs = ({ r with hands_ := v } : PageR).fs := by kernel_rfl
theorem PageR.get_room (r : PageR) : r.fs.lookup ("room" : Str) = some r.room_ := by kernel_rfl
theorem PageR.put_room (r : PageR) (v : V) : putF "room" v r.fs = ({ r with room_ := v } : PageR).fs := by kernel_rfl
theorem PageR.get_done (r : PageR) : r.fs.lookup ("done" : Str) = some r.done_ := by kernel_rfl
theorem PageR.put_done (r : PageR) (v : V) : putF "done" v r.fs = ({ r with done_ := v } : PageR).fs := by kernel_rfl
theorem PageR.get_held (r : PageR) : r.fs.lookup ("held" : Str) = some r.held_ := by kernel_rfl
theorem PageR.put_held (r : PageR) (v : V) : putF "held" v r.fs = ({ r with held_ := v } : PageR).fs := by kernel_rfl
theorem PageR.get_order (r : PageR) : r.fs.lookup ("order" : Str) = some r.order_ := by kernel_rfl
theorem PageR.put_order (r : PageR) (v : V) : putF "order" v r.fs = ({ r with order_ := v } : PageR).fs := by kernel_rfl
theorem PageR.get_tells (r : PageR) : r.fs.lookup ("tells" : Str) = some r.tells_ := by kernel_rfl
theorem PageR.put_tells (r : PageR) (v : V) : putF "tells" v r.fs = ({ r with tells_ := v } : PageR).fs := by kernel_rfl
theorem PageR.get_ables (r : PageR) : r.fs.lookup ("ables" : Str) = some r.ables_ := by kernel_rfl
theorem PageR.put_ables (r : PageR) (v : V) : putF "ables" v r.fs = ({ r with ables_ := v } : PageR).fs := by kernel_rfl
theorem PageR.get_made (r : PageR) : r.fs.lookup ("made" : Str) = some r.made_ := by kernel_rfl
theorem PageR.put_made (r : PageR) (v : V) : putF "made" v r.fs = ({ r with made_ := v } : PageR).fs := by kernel_rfl
theorem PageR.get_past (r : PageR) : r.fs.lookup ("past" : Str) = some r.past_ := by kernel_rfl
theorem PageR.put_past (r : PageR) (v : V) : putF "past" v r.fs = ({ r with past_ := v } : PageR).fs := by kernel_rfl
section
variable {X : Cx} {e o v : Expr} {t tv : TE} {pos pos' : Pos}
theorem pe_Page_me (d : He.SaysD fa fn X.K) (he : PE X e t) (hb : attributeBase e "me" X.env (eval e X.env) = eval e X.env := by rfl) : PE X (.Attribute e "me" pos) (tGet (He.ga X.K "Page") PageR.fs PageR.me_ t) := pe_get (cl_Page d) (no_Page_me d) PageR.get_me he hb
theorem ps_Page_me (d : He.SaysD fa fn X.K) (ho : PE X o t) (hv : PE X v tv) (hs : swapsWith v (some (.Attribute o "me" pos')) pos.line X.env = pure false := by rfl) : PS X (.Assign [.Attribute o "me" pos'] v pos) (sPut (He.ga X.K "Page") PageR.fs (fun r y => ({ r with me_ := y } : PageR)) t tv) := ps_put (cl_Page d) (no_Page_me d) (fun r => by show 11 < 1000; decide) PageR.put_me ho hv hs
theorem pe_Page_number (d : He.SaysD fa fn X.K) (he : PE X e t) (hb : attributeBase e "number" X.env (eval e X.env) = eval e X.env := by rfl) : PE X (.Attribute e "number" pos) (tGet (He.ga X.K "Page") PageR.fs PageR.number_ t) := pe_get (cl_Page d) (no_Page_number d) PageR.get_number he hb
theorem ps_Page_number (d : He.SaysD fa fn X.K) (ho : PE X o t) (hv : PE X v tv) (hs : swapsWith v (some (.Attribute o "number" pos')) pos.line X.env = pure false := by rfl) : PS X (.Assign [.Attribute o "number" pos'] v pos) (sPut (He.ga X.K "Page") PageR.fs (fun r y => ({ r with number_ := y } : PageR)) t tv) := ps_put (cl_Page d) (no_Page_number d) (fun r => by show 11 < 1000; decide) PageR.put_number ho hv hs
theorem pe_Page_hands (d : He.SaysD fa fn X.K) (he : PE X e t) (hb : attributeBase e "hands" X.env (eval e X.env) = eval e X.env := by rfl) : PE X (.Attribute e "hands" pos) (tGet (He.ga X.K "Page") PageR.fs PageR.hands_ t) := pe_get (cl_Page d) (no_Page_hands d) PageR.get_hands he hb
theorem ps_Page_hands (d : He.SaysD fa fn X.K) (ho : PE X o t) (hv : PE X v tv) (hs : swapsWith v (some (.Attribute o "hands" pos')) pos.line X.env = pure false := by rfl) : PS X (.Assign [.Attribute o "hands" pos'] v pos) (sPut (He.ga X.K "Page") PageR.fs (fun r y => ({ r with hands_ := y } : PageR)) t tv) := ps_put (cl_Page d) (no_Page_hands d) (fun r => by show 11 < 1000; decide) PageR.put_hands ho hv hs
theorem pe_Page_room (d : He.SaysD fa fn X.K) (he : PE X e t) (hb : attributeBase e "room" X.env (eval e X.env) = eval e X.env := by rfl) : PE X (.Attribute e "room" pos) (tGet (He.ga X.K "Page") PageR.fs PageR.room_ t) := pe_get (cl_Page d) (no_Page_room d) PageR.get_room he hb
theorem ps_Page_room (d : He.SaysD fa fn X.K) (ho : PE X o t) (hv : PE X v tv) (hs : swapsWith v (some (.Attribute o "room" pos')) pos.line X.env = pure false := by rfl) : PS X (.Assign [.Attribute o "room" pos'] v pos) (sPut (He.ga X.K "Page") PageR.fs (fun r y => ({ r with room_ := y } : PageR)) t tv) := ps_put (cl_Page d) (no_Page_room d) (fun r => by show 11 < 1000; decide) PageR.put_room ho hv hs
theorem pe_Page_done (d : He.SaysD fa fn X.K) (he : PE X e t) (hb : attributeBase e "done" X.env (eval e X.env) = eval e X.env := by rfl) : PE X (.Attribute e "done" pos) (tGet (He.ga X.K "Page") PageR.fs PageR.done_ t) := pe_get (cl_Page d) (no_Page_done d) PageR.get_done he hb
theorem ps_Page_done (d : He.SaysD fa fn X.K) (ho : PE X o t) (hv : PE X v tv) (hs : swapsWith v (some (.Attribute o "done" pos')) pos.line X.env = pure false := by rfl) : PS X (.Assign [.Attribute o "done" pos'] v pos) (sPut (He.ga X.K "Page") PageR.fs (fun r y => ({ r with done_ := y } : PageR)) t tv) := ps_put (cl_Page d) (no_Page_done d) (fun r => by show 11 < 1000; decide) PageR.put_done ho hv hs
theorem pe_Page_held (d : He.SaysD fa fn X.K) (he : PE X e t) (hb : attributeBase e "held" X.env (eval e X.env) = eval e X.env := by rfl) : PE X (.Attribute e "held" pos) (tGet (He.ga X.K "Page") PageR.fs PageR.held_ t) := pe_get (cl_Page d) (no_Page_held d) PageR.get_held he hb
theorem ps_Page_held (d : He.SaysD fa fn X.K) (ho : PE X o t) (hv : PE X v tv) (hs : swapsWith v (some (.Attribute o "held" pos')) pos.line X.env = pure false := by rfl) : PS X (.Assign [.Attribute o "held" pos'] v pos) (sPut (He.ga X.K "Page") PageR.fs (fun r y => ({ r with held_ := y } : PageR)) t tv) := ps_put (cl_Page d) (no_Page_held d) (fun r => by show 11 < 1000; decide) PageR.put_held ho hv hs
theorem pe_Page_order (d : He.SaysD fa fn X.K) (he : PE X e t) (hb : attributeBase e "order" X.env (eval e X.env) = eval e X.env := by rfl) : PE X (.Attribute e "order" pos) (tGet (He.ga X.K "Page") PageR.fs PageR.order_ t) := pe_get (cl_Page d) (no_Page_order d) PageR.get_order he hb
theorem ps_Page_order (d : He.SaysD fa fn X.K) (ho : PE X o t) (hv : PE X v tv) (hs : swapsWith v (some (.Attribute o "order" pos')) pos.line X.env = pure false := by rfl) : PS X (.Assign [.Attribute o "order" pos'] v pos) (sPut (He.ga X.K "Page") PageR.fs (fun r y => ({ r with order_ := y } : PageR)) t tv) := ps_put (cl_Page d) (no_Page_order d) (fun r => by show 11 < 1000; decide) PageR.put_order ho hv hs
theorem pe_Page_tells (d : He.SaysD fa fn X.K) (he : PE X e t) (hb : attributeBase e "tells" X.env (eval e X.env) = eval e X.env := by rfl) : PE X (.Attribute e "tells" pos) (tGet (He.ga X.K "Page") PageR.fs PageR.tells_ t) := pe_get (cl_Page d) (no_Page_tells d) PageR.get_tells he hb
theorem ps_Page_tells (d : He.SaysD fa fn X.K) (ho : PE X o t) (hv : PE X v tv) (hs : swapsWith v (some (.Attribute o "tells" pos')) pos.line X.env = pure false := by rfl) : PS X (.Assign [.Attribute o "tells" pos'] v pos) (sPut (He.ga X.K "Page") PageR.fs (fun r y => ({ r with tells_ := y } : PageR)) t tv) := ps_put (cl_Page d) (no_Page_tells d) (fun r => by show 11 < 1000; decide) PageR.put_tells ho hv hs
theorem pe_Page_ables (d : He.SaysD fa fn X.K) (he : PE X e t) (hb : attributeBase e "ables" X.env (eval e X.env) = eval e X.env := by rfl) : PE X (.Attribute e "ables" pos) (tGet (He.ga X.K "Page") PageR.fs PageR.ables_ t) := pe_get (cl_Page d) (no_Page_ables d) PageR.get_ables he hb
theorem ps_Page_ables (d : He.SaysD fa fn X.K) (ho : PE X o t) (hv : PE X v tv) (hs : swapsWith v (some (.Attribute o "ables" pos')) pos.line X.env = pure false := by rfl) : PS X (.Assign [.Attribute o "ables" pos'] v pos) (sPut (He.ga X.K "Page") PageR.fs (fun r y => ({ r with ables_ := y } : PageR)) t tv) := ps_put (cl_Page d) (no_Page_ables d) (fun r => by show 11 < 1000; decide) PageR.put_ables ho hv hs
theorem pe_Page_made (d : He.SaysD fa fn X.K) (he : PE X e t) (hb : attributeBase e "made" X.env (eval e X.env) = eval e X.env := by rfl) : PE X (.Attribute e "made" pos) (tGet (He.ga X.K "Page") PageR.fs PageR.made_ t) := pe_get (cl_Page d) (no_Page_made d) PageR.get_made he hb
theorem ps_Page_made (d : He.SaysD fa fn X.K) (ho : PE X o t) (hv : PE X v tv) (hs : swapsWith v (some (.Attribute o "made" pos')) pos.line X.env = pure false := by rfl) : PS X (.Assign [.Attribute o "made" pos'] v pos) (sPut (He.ga X.K "Page") PageR.fs (fun r y => ({ r with made_ := y } : PageR)) t tv) := ps_put (cl_Page d) (no_Page_made d) (fun r => by show 11 < 1000; decide) PageR.put_made ho hv hs
theorem pe_Page_past (d : He.SaysD fa fn X.K) (he : PE X e t) (hb : attributeBase e "past" X.env (eval e X.env) = eval e X.env := by rfl) : PE X (.Attribute e "past" pos) (tGet (He.ga X.K "Page") PageR.fs PageR.past_ t) := pe_get (cl_Page d) (no_Page_past d) PageR.get_past he hb
theorem ps_Page_past (d : He.SaysD fa fn X.K) (ho : PE X o t) (hv : PE X v tv) (hs : swapsWith v (some (.Attribute o "past" pos')) pos.line X.env = pure false := by rfl) : PS X (.Assign [.Attribute o "past" pos'] v pos) (sPut (He.ga X.K "Page") PageR.fs (fun r y => ({ r with past_ := y } : PageR)) t tv) := ps_put (cl_Page d) (no_Page_past d) (fun r => by show 11 < 1000; decide) PageR.put_past ho hv hs
end
theorem PageR.laid (r : PageR) : putF "past" r.past_ (putF "made" r.made_ (putF "ables" r.ables_ (putF "tells" r.tells_ (putF "order" r.order_ (putF "held" r.held_ (putF "done" r.done_ (putF "room" r.room_ (putF "hands" r.hands_ (putF "number" r.number_ (putF "me" r.me_ ([]))))))))))) = r.fs := by kernel_rfl
structure HandR where
  me_ : V
  room_ : V
  history_ : V
  pages_ : V
  lost_ : V
  feared_ : V
  wished_ : V
  leaving_ : V
  wishing_ : V
  last_ : V
  number_ : V
  hands_ : V
  way_ : V
  gone_ : V
  page_ : V
  change_ : V
def HandR.fs (r : HandR) : List (Str × V) := [("me", r.me_), ("room", r.room_), ("history", r.history_), ("pages", r.pages_), ("lost", r.lost_), ("feared", r.feared_), ("wished", r.wished_), ("leaving", r.leaving_), ("wishing", r.wishing_), ("last", r.last_), ("number", r.number_), ("hands", r.hands_), ("way", r.way_), ("gone", r.gone_), ("page", r.page_), ("change", r.change_)]
theorem HandR.get_me (r : HandR) : r.fs.lookup ("me" : Str) = some r.me_ := by kernel_rfl
theorem HandR.put_me (r : HandR) (v : V) : putF "me" v r.fs = ({ r with me_ := v } : HandR).fs := by kernel_rfl
theorem HandR.get_room (r : HandR) : r.fs.lookup ("room" : Str) = some r.room_ := by kernel_rfl
theorem HandR.put_room (r : HandR) (v : V) : putF "room" v r.fs = ({ r with room_ := v } : HandR).fs := by kernel_rfl
theorem HandR.get_history (r : HandR) : r.fs.lookup ("history" : Str) = some r.history_ := by kernel_rfl
theorem HandR.put_history (r : HandR) (v : V) : putF "history" v r.fs = ({ r with history_ := v } : HandR).fs := by kernel_rfl
theorem HandR.get_pages (r : HandR) : r.fs.lookup ("pages" : Str) = some r.pages_ := by kernel_rfl
theorem HandR.put_pages (r : HandR) (v : V) : putF "pages" v r.fs = ({ r with pages_ := v } : HandR).fs := by kernel_rfl
theorem HandR.get_lost (r : HandR) : r.fs.lookup ("lost" : Str) = some r.lost_ := by kernel_rfl
theorem HandR.put_lost (r : HandR) (v : V) : putF "lost" v r.fs = ({ r with lost_ := v } : HandR).fs := by kernel_rfl
theorem HandR.get_feared (r : HandR) : r.fs.lookup ("feared" : Str) = some r.feared_ := by kernel_rfl
theorem HandR.put_feared (r : HandR) (v : V) : putF "feared" v r.fs = ({ r with feared_ := v } : HandR).fs := by kernel_rfl
theorem HandR.get_wished (r : HandR) : r.fs.lookup ("wished" : Str) = some r.wished_ := by kernel_rfl
theorem HandR.put_wished (r : HandR) (v : V) : putF "wished" v r.fs = ({ r with wished_ := v } : HandR).fs := by kernel_rfl
theorem HandR.get_leaving (r : HandR) : r.fs.lookup ("leaving" : Str) = some r.leaving_ := by kernel_rfl
theorem HandR.put_leaving (r : HandR) (v : V) : putF "leaving" v r.fs = ({ r with leaving_ := v } : HandR).fs := by kernel_rfl
theorem HandR.get_wishing (r : HandR) : r.fs.lookup ("wishing" : Str) = some r.wishing_ := by kernel_rfl
theorem HandR.put_wishing (r : HandR) (v : V) : putF "wishing" v r.fs = ({ r with wishing_ := v } : HandR).fs := by kernel_rfl
theorem HandR.get_last (r : HandR) : r.fs.lookup ("last" : Str) = some r.last_ := by kernel_rfl
theorem HandR.put_last (r : HandR) (v : V) : putF "last" v r.fs = ({ r with last_ := v } : HandR).fs := by kernel_rfl
theorem HandR.get_number (r : HandR) : r.fs.lookup ("number" : Str) = some r.number_ := by kernel_rfl
theorem HandR.put_number (r : HandR) (v : V) : putF "number" v r.fs = ({ r with number_ := v } : HandR).fs := by kernel_rfl
theorem HandR.get_hands (r : HandR) : r.fs.lookup ("hands" : Str) = some r.hands_ := by kernel_rfl
theorem HandR.put_hands (r : HandR) (v : V) : putF "hands" v r.fs = ({ r with hands_ := v } : HandR).fs := by kernel_rfl
theorem HandR.get_way (r : HandR) : r.fs.lookup ("way" : Str) = some r.way_ := by kernel_rfl
theorem HandR.put_way (r : HandR) (v : V) : putF "way" v r.fs = ({ r with way_ := v } : HandR).fs := by kernel_rfl
theorem HandR.get_gone (r : HandR) : r.fs.lookup ("gone" : Str) = some r.gone_ := by kernel_rfl
theorem HandR.put_gone (r : HandR) (v : V) : putF "gone" v r.fs = ({ r with gone_ := v } : HandR).fs := by kernel_rfl
theorem HandR.get_page (r : HandR) : r.fs.lookup ("page" : Str) = some r.page_ := by kernel_rfl
theorem HandR.put_page (r : HandR) (v : V) : putF "page" v r.fs = ({ r with page_ := v } : HandR).fs := by kernel_rfl
theorem HandR.get_change (r : HandR) : r.fs.lookup ("change" : Str) = some r.change_ := by kernel_rfl
theorem HandR.put_change (r : HandR) (v : V) : putF "change" v r.fs = ({ r with change_ := v } : HandR).fs := by kernel_rfl
section
variable {X : Cx} {e o v : Expr} {t tv : TE} {pos pos' : Pos}
theorem pe_Hand_me (d : He.SaysD fa fn X.K) (he : PE X e t) (hb : attributeBase e "me" X.env (eval e X.env) = eval e X.env := by rfl) : PE X (.Attribute e "me" pos) (tGet (He.ga X.K "Hand") HandR.fs HandR.me_ t) := pe_get (cl_Hand d) (no_Hand_me d) HandR.get_me he hb
theorem ps_Hand_me (d : He.SaysD fa fn X.K) (ho : PE X o t) (hv : PE X v tv) (hs : swapsWith v (some (.Attribute o "me" pos')) pos.line X.env = pure false := by rfl) : PS X (.Assign [.Attribute o "me" pos'] v pos) (sPut (He.ga X.K "Hand") HandR.fs (fun r y => ({ r with me_ := y } : HandR)) t tv) := ps_put (cl_Hand d) (no_Hand_me d) (fun r => by show 16 < 1000; decide) HandR.put_me ho hv hs
theorem pe_Hand_room (d : He.SaysD fa fn X.K) (he : PE X e t) (hb : attributeBase e "room" X.env (eval e X.env) = eval e X.env := by rfl) : PE X (.Attribute e "room" pos) (tGet (He.ga X.K "Hand") HandR.fs HandR.room_ t) := pe_get (cl_Hand d) (no_Hand_room d) HandR.get_room he hb
theorem ps_Hand_room (d : He.SaysD fa fn X.K) (ho : PE X o t) (hv : PE X v tv) (hs : swapsWith v (some (.Attribute o "room" pos')) pos.line X.env = pure false := by rfl) : PS X (.Assign [.Attribute o "room" pos'] v pos) (sPut (He.ga X.K "Hand") HandR.fs (fun r y => ({ r with room_ := y } : HandR)) t tv) := ps_put (cl_Hand d) (no_Hand_room d) (fun r => by show 16 < 1000; decide) HandR.put_room ho hv hs
theorem pe_Hand_history (d : He.SaysD fa fn X.K) (he : PE X e t) (hb : attributeBase e "history" X.env (eval e X.env) = eval e X.env := by rfl) : PE X (.Attribute e "history" pos) (tGet (He.ga X.K "Hand") HandR.fs HandR.history_ t) := pe_get (cl_Hand d) (no_Hand_history d) HandR.get_history he hb
theorem ps_Hand_history (d : He.SaysD fa fn X.K) (ho : PE X o t) (hv : PE X v tv) (hs : swapsWith v (some (.Attribute o "history" pos')) pos.line X.env = pure false := by rfl) : PS X (.Assign [.Attribute o "history" pos'] v pos) (sPut (He.ga X.K "Hand") HandR.fs (fun r y => ({ r with history_ := y } : HandR)) t tv) := ps_put (cl_Hand d) (no_Hand_history d) (fun r => by show 16 < 1000; decide) HandR.put_history ho hv hs
theorem pe_Hand_pages (d : He.SaysD fa fn X.K) (he : PE X e t) (hb : attributeBase e "pages" X.env (eval e X.env) = eval e X.env := by rfl) : PE X (.Attribute e "pages" pos) (tGet (He.ga X.K "Hand") HandR.fs HandR.pages_ t) := pe_get (cl_Hand d) (no_Hand_pages d) HandR.get_pages he hb
theorem ps_Hand_pages (d : He.SaysD fa fn X.K) (ho : PE X o t) (hv : PE X v tv) (hs : swapsWith v (some (.Attribute o "pages" pos')) pos.line X.env = pure false := by rfl) : PS X (.Assign [.Attribute o "pages" pos'] v pos) (sPut (He.ga X.K "Hand") HandR.fs (fun r y => ({ r with pages_ := y } : HandR)) t tv) := ps_put (cl_Hand d) (no_Hand_pages d) (fun r => by show 16 < 1000; decide) HandR.put_pages ho hv hs
theorem pe_Hand_lost (d : He.SaysD fa fn X.K) (he : PE X e t) (hb : attributeBase e "lost" X.env (eval e X.env) = eval e X.env := by rfl) : PE X (.Attribute e "lost" pos) (tGet (He.ga X.K "Hand") HandR.fs HandR.lost_ t) := pe_get (cl_Hand d) (no_Hand_lost d) HandR.get_lost he hb
theorem ps_Hand_lost (d : He.SaysD fa fn X.K) (ho : PE X o t) (hv : PE X v tv) (hs : swapsWith v (some (.Attribute o "lost" pos')) pos.line X.env = pure false := by rfl) : PS X (.Assign [.Attribute o "lost" pos'] v pos) (sPut (He.ga X.K "Hand") HandR.fs (fun r y => ({ r with lost_ := y } : HandR)) t tv) := ps_put (cl_Hand d) (no_Hand_lost d) (fun r => by show 16 < 1000; decide) HandR.put_lost ho hv hs
theorem pe_Hand_feared (d : He.SaysD fa fn X.K) (he : PE X e t) (hb : attributeBase e "feared" X.env (eval e X.env) = eval e X.env := by rfl) : PE X (.Attribute e "feared" pos) (tGet (He.ga X.K "Hand") HandR.fs HandR.feared_ t) := pe_get (cl_Hand d) (no_Hand_feared d) HandR.get_feared he hb
theorem ps_Hand_feared (d : He.SaysD fa fn X.K) (ho : PE X o t) (hv : PE X v tv) (hs : swapsWith v (some (.Attribute o "feared" pos')) pos.line X.env = pure false := by rfl) : PS X (.Assign [.Attribute o "feared" pos'] v pos) (sPut (He.ga X.K "Hand") HandR.fs (fun r y => ({ r with feared_ := y } : HandR)) t tv) := ps_put (cl_Hand d) (no_Hand_feared d) (fun r => by show 16 < 1000; decide) HandR.put_feared ho hv hs
theorem pe_Hand_wished (d : He.SaysD fa fn X.K) (he : PE X e t) (hb : attributeBase e "wished" X.env (eval e X.env) = eval e X.env := by rfl) : PE X (.Attribute e "wished" pos) (tGet (He.ga X.K "Hand") HandR.fs HandR.wished_ t) := pe_get (cl_Hand d) (no_Hand_wished d) HandR.get_wished he hb
theorem ps_Hand_wished (d : He.SaysD fa fn X.K) (ho : PE X o t) (hv : PE X v tv) (hs : swapsWith v (some (.Attribute o "wished" pos')) pos.line X.env = pure false := by rfl) : PS X (.Assign [.Attribute o "wished" pos'] v pos) (sPut (He.ga X.K "Hand") HandR.fs (fun r y => ({ r with wished_ := y } : HandR)) t tv) := ps_put (cl_Hand d) (no_Hand_wished d) (fun r => by show 16 < 1000; decide) HandR.put_wished ho hv hs
theorem pe_Hand_leaving (d : He.SaysD fa fn X.K) (he : PE X e t) (hb : attributeBase e "leaving" X.env (eval e X.env) = eval e X.env := by rfl) : PE X (.Attribute e "leaving" pos) (tGet (He.ga X.K "Hand") HandR.fs HandR.leaving_ t) := pe_get (cl_Hand d) (no_Hand_leaving d) HandR.get_leaving he hb
theorem ps_Hand_leaving (d : He.SaysD fa fn X.K) (ho : PE X o t) (hv : PE X v tv) (hs : swapsWith v (some (.Attribute o "leaving" pos')) pos.line X.env = pure false := by rfl) : PS X (.Assign [.Attribute o "leaving" pos'] v pos) (sPut (He.ga X.K "Hand") HandR.fs (fun r y => ({ r with leaving_ := y } : HandR)) t tv) := ps_put (cl_Hand d) (no_Hand_leaving d) (fun r => by show 16 < 1000; decide) HandR.put_leaving ho hv hs
theorem pe_Hand_wishing (d : He.SaysD fa fn X.K) (he : PE X e t) (hb : attributeBase e "wishing" X.env (eval e X.env) = eval e X.env := by rfl) : PE X (.Attribute e "wishing" pos) (tGet (He.ga X.K "Hand") HandR.fs HandR.wishing_ t) := pe_get (cl_Hand d) (no_Hand_wishing d) HandR.get_wishing he hb
theorem ps_Hand_wishing (d : He.SaysD fa fn X.K) (ho : PE X o t) (hv : PE X v tv) (hs : swapsWith v (some (.Attribute o "wishing" pos')) pos.line X.env = pure false := by rfl) : PS X (.Assign [.Attribute o "wishing" pos'] v pos) (sPut (He.ga X.K "Hand") HandR.fs (fun r y => ({ r with wishing_ := y } : HandR)) t tv) := ps_put (cl_Hand d) (no_Hand_wishing d) (fun r => by show 16 < 1000; decide) HandR.put_wishing ho hv hs
theorem pe_Hand_last (d : He.SaysD fa fn X.K) (he : PE X e t) (hb : attributeBase e "last" X.env (eval e X.env) = eval e X.env := by rfl) : PE X (.Attribute e "last" pos) (tGet (He.ga X.K "Hand") HandR.fs HandR.last_ t) := pe_get (cl_Hand d) (no_Hand_last d) HandR.get_last he hb
theorem ps_Hand_last (d : He.SaysD fa fn X.K) (ho : PE X o t) (hv : PE X v tv) (hs : swapsWith v (some (.Attribute o "last" pos')) pos.line X.env = pure false := by rfl) : PS X (.Assign [.Attribute o "last" pos'] v pos) (sPut (He.ga X.K "Hand") HandR.fs (fun r y => ({ r with last_ := y } : HandR)) t tv) := ps_put (cl_Hand d) (no_Hand_last d) (fun r => by show 16 < 1000; decide) HandR.put_last ho hv hs
theorem pe_Hand_number (d : He.SaysD fa fn X.K) (he : PE X e t) (hb : attributeBase e "number" X.env (eval e X.env) = eval e X.env := by rfl) : PE X (.Attribute e "number" pos) (tGet (He.ga X.K "Hand") HandR.fs HandR.number_ t) := pe_get (cl_Hand d) (no_Hand_number d) HandR.get_number he hb
theorem ps_Hand_number (d : He.SaysD fa fn X.K) (ho : PE X o t) (hv : PE X v tv) (hs : swapsWith v (some (.Attribute o "number" pos')) pos.line X.env = pure false := by rfl) : PS X (.Assign [.Attribute o "number" pos'] v pos) (sPut (He.ga X.K "Hand") HandR.fs (fun r y => ({ r with number_ := y } : HandR)) t tv) := ps_put (cl_Hand d) (no_Hand_number d) (fun r => by show 16 < 1000; decide) HandR.put_number ho hv hs
theorem pe_Hand_hands (d : He.SaysD fa fn X.K) (he : PE X e t) (hb : attributeBase e "hands" X.env (eval e X.env) = eval e X.env := by rfl) : PE X (.Attribute e "hands" pos) (tGet (He.ga X.K "Hand") HandR.fs HandR.hands_ t) := pe_get (cl_Hand d) (no_Hand_hands d) HandR.get_hands he hb
theorem ps_Hand_hands (d : He.SaysD fa fn X.K) (ho : PE X o t) (hv : PE X v tv) (hs : swapsWith v (some (.Attribute o "hands" pos')) pos.line X.env = pure false := by rfl) : PS X (.Assign [.Attribute o "hands" pos'] v pos) (sPut (He.ga X.K "Hand") HandR.fs (fun r y => ({ r with hands_ := y } : HandR)) t tv) := ps_put (cl_Hand d) (no_Hand_hands d) (fun r => by show 16 < 1000; decide) HandR.put_hands ho hv hs
theorem pe_Hand_way (d : He.SaysD fa fn X.K) (he : PE X e t) (hb : attributeBase e "way" X.env (eval e X.env) = eval e X.env := by rfl) : PE X (.Attribute e "way" pos) (tGet (He.ga X.K "Hand") HandR.fs HandR.way_ t) := pe_get (cl_Hand d) (no_Hand_way d) HandR.get_way he hb
theorem ps_Hand_way (d : He.SaysD fa fn X.K) (ho : PE X o t) (hv : PE X v tv) (hs : swapsWith v (some (.Attribute o "way" pos')) pos.line X.env = pure false := by rfl) : PS X (.Assign [.Attribute o "way" pos'] v pos) (sPut (He.ga X.K "Hand") HandR.fs (fun r y => ({ r with way_ := y } : HandR)) t tv) := ps_put (cl_Hand d) (no_Hand_way d) (fun r => by show 16 < 1000; decide) HandR.put_way ho hv hs
theorem pe_Hand_gone (d : He.SaysD fa fn X.K) (he : PE X e t) (hb : attributeBase e "gone" X.env (eval e X.env) = eval e X.env := by rfl) : PE X (.Attribute e "gone" pos) (tGet (He.ga X.K "Hand") HandR.fs HandR.gone_ t) := pe_get (cl_Hand d) (no_Hand_gone d) HandR.get_gone he hb
theorem ps_Hand_gone (d : He.SaysD fa fn X.K) (ho : PE X o t) (hv : PE X v tv) (hs : swapsWith v (some (.Attribute o "gone" pos')) pos.line X.env = pure false := by rfl) : PS X (.Assign [.Attribute o "gone" pos'] v pos) (sPut (He.ga X.K "Hand") HandR.fs (fun r y => ({ r with gone_ := y } : HandR)) t tv) := ps_put (cl_Hand d) (no_Hand_gone d) (fun r => by show 16 < 1000; decide) HandR.put_gone ho hv hs
theorem pe_Hand_page (d : He.SaysD fa fn X.K) (he : PE X e t) (hb : attributeBase e "page" X.env (eval e X.env) = eval e X.env := by rfl) : PE X (.Attribute e "page" pos) (tGet (He.ga X.K "Hand") HandR.fs HandR.page_ t) := pe_get (cl_Hand d) (no_Hand_page d) HandR.get_page he hb
theorem ps_Hand_page (d : He.SaysD fa fn X.K) (ho : PE X o t) (hv : PE X v tv) (hs : swapsWith v (some (.Attribute o "page" pos')) pos.line X.env = pure false := by rfl) : PS X (.Assign [.Attribute o "page" pos'] v pos) (sPut (He.ga X.K "Hand") HandR.fs (fun r y => ({ r with page_ := y } : HandR)) t tv) := ps_put (cl_Hand d) (no_Hand_page d) (fun r => by show 16 < 1000; decide) HandR.put_page ho hv hs
theorem pe_Hand_change (d : He.SaysD fa fn X.K) (he : PE X e t) (hb : attributeBase e "change" X.env (eval e X.env) = eval e X.env := by rfl) : PE X (.Attribute e "change" pos) (tGet (He.ga X.K "Hand") HandR.fs HandR.change_ t) := pe_get (cl_Hand d) (no_Hand_change d) HandR.get_change he hb
theorem ps_Hand_change (d : He.SaysD fa fn X.K) (ho : PE X o t) (hv : PE X v tv) (hs : swapsWith v (some (.Attribute o "change" pos')) pos.line X.env = pure false := by rfl) : PS X (.Assign [.Attribute o "change" pos'] v pos) (sPut (He.ga X.K "Hand") HandR.fs (fun r y => ({ r with change_ := y } : HandR)) t tv) := ps_put (cl_Hand d) (no_Hand_change d) (fun r => by show 16 < 1000; decide) HandR.put_change ho hv hs
end
theorem HandR.laid (r : HandR) : putF "change" r.change_ (putF "page" r.page_ (putF "gone" r.gone_ (putF "way" r.way_ (putF "hands" r.hands_ (putF "number" r.number_ (putF "last" r.last_ (putF "wishing" r.wishing_ (putF "leaving" r.leaving_ (putF "wished" r.wished_ (putF "feared" r.feared_ (putF "lost" r.lost_ (putF "pages" r.pages_ (putF "history" r.history_ (putF "room" r.room_ (putF "me" r.me_ ([])))))))))))))))) = r.fs := by kernel_rfl
theorem sc_has : FnScope ["hands", "hand"] ["hands", "hand"] (defScope s_has) := ⟨rfl, rfl, rfl, by decide +kernel, rfl, by decide +kernel, by decide +kernel⟩
theorem sc_hands_of : FnScope ["hands", "hand"] ["hands"] (defScope s_hands_of) := ⟨rfl, rfl, rfl, by decide +kernel, rfl, by decide +kernel, by decide +kernel⟩
theorem sc_set_of : FnScope ["some", "found", "hand"] ["some"] (defScope s_set_of) := ⟨rfl, rfl, rfl, by decide +kernel, rfl, by decide +kernel, by decide +kernel⟩
theorem sc_many : FnScope ["hands", "found"] ["hands"] (defScope s_many) := ⟨rfl, rfl, rfl, by decide +kernel, rfl, by decide +kernel, by decide +kernel⟩
theorem sc_least : FnScope ["hands", "hand"] ["hands"] (defScope s_least) := ⟨rfl, rfl, rfl, by decide +kernel, rfl, by decide +kernel, by decide +kernel⟩
theorem sc_more_than_half : FnScope ["some", "hands"] ["some", "hands"] (defScope s_more_than_half) := ⟨rfl, rfl, rfl, by decide +kernel, rfl, by decide +kernel, by decide +kernel⟩
theorem sc_under : FnScope ["one", "other"] ["one", "other"] (defScope s_under) := ⟨rfl, rfl, rfl, by decide +kernel, rfl, by decide +kernel, by decide +kernel⟩
theorem sc_ballot_of : FnScope ["yes"] ["yes"] (defScope s_ballot_of) := ⟨rfl, rfl, rfl, by decide +kernel, rfl, by decide +kernel, by decide +kernel⟩
theorem sc_Change_init : FnScope ["self", "me", "hands"] ["self", "me", "hands"] (defScope s_Change_init) := ⟨rfl, rfl, rfl, by decide +kernel, rfl, by decide +kernel, by decide +kernel⟩
theorem sc_Change_begin : FnScope ["self", "more", "report", "begun"] ["self", "more", "report"] (defScope s_Change_begin) := ⟨rfl, rfl, rfl, by decide +kernel, rfl, by decide +kernel, by decide +kernel⟩
theorem sc_Change_message : FnScope ["self", "report"] ["self", "report"] (defScope s_Change_message) := ⟨rfl, rfl, rfl, by decide +kernel, rfl, by decide +kernel, by decide +kernel⟩
theorem sc_Change_receive : FnScope ["self", "message", "hand", "ballot", "yes", "votes", "report"] ["self", "message"] (defScope s_Change_receive) := ⟨rfl, rfl, rfl, by decide +kernel, rfl, by decide +kernel, by decide +kernel⟩
theorem sc_Change_receive_yes : FnScope ["self", "yes", "votes"] ["self", "yes", "votes"] (defScope s_Change_receive_yes) := ⟨rfl, rfl, rfl, by decide +kernel, rfl, by decide +kernel, by decide +kernel⟩
theorem sc_Change_unplanned : FnScope ["self"] ["self"] (defScope s_Change_unplanned) := ⟨rfl, rfl, rfl, by decide +kernel, rfl, by decide +kernel, by decide +kernel⟩
theorem sc_Change_settle : FnScope ["self"] ["self"] (defScope s_Change_settle) := ⟨rfl, rfl, rfl, by decide +kernel, rfl, by decide +kernel, by decide +kernel⟩
theorem sc_Change_enough : FnScope ["self", "doubts", "told", "hand"] ["self", "doubts"] (defScope s_Change_enough) := ⟨rfl, rfl, rfl, by decide +kernel, rfl, by decide +kernel, by decide +kernel⟩
theorem sc_Change_propose : FnScope ["self", "doubts", "make", "best", "plan", "hand", "yes"] ["self", "doubts", "make"] (defScope s_Change_propose) := ⟨rfl, rfl, rfl, by decide +kernel, rfl, by decide +kernel, by decide +kernel⟩
theorem sc_Change_settled : FnScope ["self"] ["self"] (defScope s_Change_settled) := ⟨rfl, rfl, rfl, by decide +kernel, rfl, by decide +kernel, by decide +kernel⟩
theorem sc_Stopped_init : FnScope ["self", "ballot"] ["self", "ballot"] (defScope s_Stopped_init) := ⟨rfl, rfl, rfl, by decide +kernel, rfl, by decide +kernel, by decide +kernel⟩
theorem sc_Held_init : FnScope ["self", "many", "room"] ["self", "many", "room"] (defScope s_Held_init) := ⟨rfl, rfl, rfl, by decide +kernel, rfl, by decide +kernel, by decide +kernel⟩
theorem sc_count_of : FnScope ["counts", "hand"] ["counts", "hand"] (defScope s_count_of) := ⟨rfl, rfl, rfl, by decide +kernel, rfl, by decide +kernel, by decide +kernel⟩
theorem sc_covers : FnScope ["one", "other", "hand", "many"] ["one", "other"] (defScope s_covers) := ⟨rfl, rfl, rfl, by decide +kernel, rfl, by decide +kernel, by decide +kernel⟩
theorem sc_covers_name : FnScope ["counts", "name"] ["counts", "name"] (defScope s_covers_name) := ⟨rfl, rfl, rfl, by decide +kernel, rfl, by decide +kernel, by decide +kernel⟩
theorem sc_joined : FnScope ["one", "other", "found", "counts", "hand", "many"] ["one", "other"] (defScope s_joined) := ⟨rfl, rfl, rfl, by decide +kernel, rfl, by decide +kernel, by decide +kernel⟩
theorem sc_common : FnScope ["some", "found", "hand", "many", "counts"] ["some"] (defScope s_common) := ⟨rfl, rfl, rfl, by decide +kernel, rfl, by decide +kernel, by decide +kernel⟩
theorem sc_packed : FnScope ["counts", "hand"] ["counts"] (defScope s_packed) := ⟨rfl, rfl, rfl, by decide +kernel, rfl, by decide +kernel, by decide +kernel⟩
theorem sc_unpacked : FnScope ["pairs", "found", "hand", "many"] ["pairs"] (defScope s_unpacked) := ⟨rfl, rfl, rfl, by decide +kernel, rfl, by decide +kernel, by decide +kernel⟩
theorem sc_in_row : FnScope ["counts", "caller", "count"] ["counts", "caller", "count"] (defScope s_in_row) := ⟨rfl, rfl, rfl, by decide +kernel, rfl, by decide +kernel, by decide +kernel⟩
theorem sc_Call_init : FnScope ["self", "number", "caller", "count", "word", "causes"] ["self", "number", "caller", "count", "word", "causes"] (defScope s_Call_init) := ⟨rfl, rfl, rfl, by decide +kernel, rfl, by decide +kernel, by decide +kernel⟩
theorem sc_Call_name : FnScope ["self"] ["self"] (defScope s_Call_name) := ⟨rfl, rfl, rfl, by decide +kernel, rfl, by decide +kernel, by decide +kernel⟩
theorem sc_Call_free : FnScope ["self", "counts"] ["self", "counts"] (defScope s_Call_free) := ⟨rfl, rfl, rfl, by decide +kernel, rfl, by decide +kernel, by decide +kernel⟩
theorem sc_Call_asks_place : FnScope ["self"] ["self"] (defScope s_Call_asks_place) := ⟨rfl, rfl, rfl, by decide +kernel, rfl, by decide +kernel, by decide +kernel⟩
theorem sc_Call_told : FnScope ["self"] ["self"] (defScope s_Call_told) := ⟨rfl, rfl, rfl, by decide +kernel, rfl, by decide +kernel, by decide +kernel⟩
theorem sc_OwnCall_kind : FnScope ["self"] ["self"] (defScope s_OwnCall_kind) := ⟨rfl, rfl, rfl, by decide +kernel, rfl, by decide +kernel, by decide +kernel⟩
theorem sc_HeardCall_kind : FnScope ["self"] ["self"] (defScope s_HeardCall_kind) := ⟨rfl, rfl, rfl, by decide +kernel, rfl, by decide +kernel, by decide +kernel⟩
theorem sc_HeardCall_free : FnScope ["self", "counts"] ["self", "counts"] (defScope s_HeardCall_free) := ⟨rfl, rfl, rfl, by decide +kernel, rfl, by decide +kernel, by decide +kernel⟩
theorem sc_OneCall_kind : FnScope ["self"] ["self"] (defScope s_OneCall_kind) := ⟨rfl, rfl, rfl, by decide +kernel, rfl, by decide +kernel, by decide +kernel⟩
theorem sc_OneCall_asks_place : FnScope ["self"] ["self"] (defScope s_OneCall_asks_place) := ⟨rfl, rfl, rfl, by decide +kernel, rfl, by decide +kernel, by decide +kernel⟩
theorem sc_make_call : FnScope ["number", "caller", "count", "kind", "word", "causes"] ["number", "caller", "count", "kind", "word", "causes"] (defScope s_make_call) := ⟨rfl, rfl, rfl, by decide +kernel, rfl, by decide +kernel, by decide +kernel⟩
theorem sc_call_of : FnScope ["told"] ["told"] (defScope s_call_of) := ⟨rfl, rfl, rfl, by decide +kernel, rfl, by decide +kernel, by decide +kernel⟩
theorem sc_Known_init : FnScope ["self", "hands"] ["self", "hands"] (defScope s_Known_init) := ⟨rfl, rfl, rfl, by decide +kernel, rfl, by decide +kernel, by decide +kernel⟩
theorem sc_Known_learn : FnScope ["self", "hand", "counts"] ["self", "hand", "counts"] (defScope s_Known_learn) := ⟨rfl, rfl, rfl, by decide +kernel, rfl, by decide +kernel, by decide +kernel⟩
theorem sc_Known_row_of : FnScope ["self", "hand"] ["self", "hand"] (defScope s_Known_row_of) := ⟨rfl, rfl, rfl, by decide +kernel, rfl, by decide +kernel, by decide +kernel⟩
theorem sc_Known_floor : FnScope ["self", "hand"] ["self"] (defScope s_Known_floor) := ⟨rfl, rfl, rfl, by decide +kernel, rfl, by decide +kernel, by decide +kernel⟩
theorem sc_Known_reach : FnScope ["self", "name", "found", "hand"] ["self", "name"] (defScope s_Known_reach) := ⟨rfl, rfl, rfl, by decide +kernel, rfl, by decide +kernel, by decide +kernel⟩
theorem sc_Known_sure : FnScope ["self", "places", "found", "name"] ["self", "places"] (defScope s_Known_sure) := ⟨rfl, rfl, rfl, by decide +kernel, rfl, by decide +kernel, by decide +kernel⟩
theorem sc_Known_listed : FnScope ["self", "found", "hand", "row"] ["self"] (defScope s_Known_listed) := ⟨rfl, rfl, rfl, by decide +kernel, rfl, by decide +kernel, by decide +kernel⟩
theorem sc_Known_merge : FnScope ["self", "listed", "hand", "row"] ["self", "listed"] (defScope s_Known_merge) := ⟨rfl, rfl, rfl, by decide +kernel, rfl, by decide +kernel, by decide +kernel⟩
theorem sc_next_name : FnScope ["places", "counts", "name"] ["places", "counts"] (defScope s_next_name) := ⟨rfl, rfl, rfl, by decide +kernel, rfl, by decide +kernel, by decide +kernel⟩
theorem sc_rank : FnScope ["call"] ["call"] (defScope s_rank) := ⟨rfl, rfl, rfl, by decide +kernel, rfl, by decide +kernel, by decide +kernel⟩
theorem sc_can_take : FnScope ["call", "counts", "places"] ["call", "counts", "places"] (defScope s_can_take) := ⟨rfl, rfl, rfl, by decide +kernel, rfl, by decide +kernel, by decide +kernel⟩
theorem sc_run : FnScope ["counts", "calls", "places", "end", "ranked", "row", "seen", "call"] ["counts", "calls", "places"] (defScope s_run) := ⟨rfl, rfl, rfl, by decide +kernel, rfl, by decide +kernel, by decide +kernel⟩
theorem sc_first_asking : FnScope ["calls", "counts", "asking", "call"] ["calls", "counts"] (defScope s_first_asking) := ⟨rfl, rfl, rfl, by decide +kernel, rfl, by decide +kernel, by decide +kernel⟩
theorem sc_covered : FnScope ["places", "counts", "name"] ["places", "counts"] (defScope s_covered) := ⟨rfl, rfl, rfl, by decide +kernel, rfl, by decide +kernel, by decide +kernel⟩
theorem sc_placed : FnScope ["counts", "calls", "places", "row", "end", "order", "call", "more"] ["counts", "calls", "places"] (defScope s_placed) := ⟨rfl, rfl, rfl, by decide +kernel, rfl, by decide +kernel, by decide +kernel⟩
theorem sc_by_row : FnScope ["row"] ["row"] (defScope s_by_row) := ⟨rfl, rfl, rfl, by decide +kernel, rfl, by decide +kernel, by decide +kernel⟩
theorem sc_Page_init : FnScope ["self", "me", "number", "hands", "room"] ["self", "me", "number", "hands", "room"] (defScope s_Page_init) := ⟨rfl, rfl, rfl, by decide +kernel, rfl, by decide +kernel, by decide +kernel⟩
theorem sc_Page_utter : FnScope ["self", "kind", "word", "many", "call"] ["self", "kind", "word"] (defScope s_Page_utter) := ⟨rfl, rfl, rfl, by decide +kernel, rfl, by decide +kernel, by decide +kernel⟩
theorem sc_Page_sorted_calls : FnScope ["self"] ["self"] (defScope s_Page_sorted_calls) := ⟨rfl, rfl, rfl, by decide +kernel, rfl, by decide +kernel, by decide +kernel⟩
theorem sc_Page_take : FnScope ["self", "told", "why"] ["self", "told", "why"] (defScope s_Page_take) := ⟨rfl, rfl, rfl, by decide +kernel, rfl, by decide +kernel, by decide +kernel⟩
theorem sc_Page_step : FnScope ["self", "calls", "sure", "row", "end", "takes", "call", "why"] ["self"] (defScope s_Page_step) := ⟨rfl, rfl, rfl, by decide +kernel, rfl, by decide +kernel, by decide +kernel⟩
theorem sc_Page_let_go : FnScope ["self", "floor", "rest", "name", "call"] ["self"] (defScope s_Page_let_go) := ⟨rfl, rfl, rfl, by decide +kernel, rfl, by decide +kernel, by decide +kernel⟩
theorem sc_Page_piece : FnScope ["self", "skip", "many", "calls", "told", "call"] ["self", "skip", "many"] (defScope s_Page_piece) := ⟨rfl, rfl, rfl, by decide +kernel, rfl, by decide +kernel, by decide +kernel⟩
theorem sc_Page_listen : FnScope ["self", "piece", "told", "call"] ["self", "piece"] (defScope s_Page_listen) := ⟨rfl, rfl, rfl, by decide +kernel, rfl, by decide +kernel, by decide +kernel⟩
theorem sc_Page_report : FnScope ["self", "leaves", "calls", "call"] ["self", "leaves"] (defScope s_Page_report) := ⟨rfl, rfl, rfl, by decide +kernel, rfl, by decide +kernel, by decide +kernel⟩
theorem sc_Page_finish : FnScope ["self", "row", "takes", "told"] ["self", "row"] (defScope s_Page_finish) := ⟨rfl, rfl, rfl, by decide +kernel, rfl, by decide +kernel, by decide +kernel⟩
theorem sc_Page_rows : FnScope ["self", "ones", "others", "told"] ["self"] (defScope s_Page_rows) := ⟨rfl, rfl, rfl, by decide +kernel, rfl, by decide +kernel, by decide +kernel⟩
theorem sc_Page_kept : FnScope ["self"] ["self"] (defScope s_Page_kept) := ⟨rfl, rfl, rfl, by decide +kernel, rfl, by decide +kernel, by decide +kernel⟩
theorem sc_base_of : FnScope ["reports", "base", "report"] ["reports"] (defScope s_base_of) := ⟨rfl, rfl, rfl, by decide +kernel, rfl, by decide +kernel, by decide +kernel⟩
theorem sc_places_of : FnScope ["reports", "longest", "report"] ["reports"] (defScope s_places_of) := ⟨rfl, rfl, rfl, by decide +kernel, rfl, by decide +kernel, by decide +kernel⟩
theorem sc_calls_beyond : FnScope ["base", "reports", "found", "report", "told"] ["base", "reports"] (defScope s_calls_beyond) := ⟨rfl, rfl, rfl, by decide +kernel, rfl, by decide +kernel, by decide +kernel⟩
theorem sc_first_plan : FnScope ["me", "hands", "reports", "wishes", "base", "row", "on", "leaving", "new", "following", "report", "call"] ["me", "hands", "reports", "wishes"] (defScope s_first_plan) := ⟨rfl, rfl, rfl, by decide +kernel, rfl, by decide +kernel, by decide +kernel⟩
theorem sc_lacking : FnScope ["events", "book", "told", "row", "event"] ["events", "book"] (defScope s_lacking) := ⟨rfl, rfl, rfl, by decide +kernel, rfl, by decide +kernel, by decide +kernel⟩
theorem sc_Hand_init : FnScope ["self", "me", "hands", "number", "room"] ["self", "me", "hands", "number", "room"] (defScope s_Hand_init) := ⟨rfl, rfl, rfl, by decide +kernel, rfl, by decide +kernel, by decide +kernel⟩
theorem sc_Hand_stand : FnScope ["self", "number", "hands", "way"] ["self", "number", "hands", "way"] (defScope s_Hand_stand) := ⟨rfl, rfl, rfl, by decide +kernel, rfl, by decide +kernel, by decide +kernel⟩
theorem sc_Hand_go_out : FnScope ["self"] ["self"] (defScope s_Hand_go_out) := ⟨rfl, rfl, rfl, by decide +kernel, rfl, by decide +kernel, by decide +kernel⟩
theorem sc_Hand_note : FnScope ["self", "takes", "told", "why"] ["self", "takes"] (defScope s_Hand_note) := ⟨rfl, rfl, rfl, by decide +kernel, rfl, by decide +kernel, by decide +kernel⟩
theorem sc_Hand_go_by : FnScope ["self", "plan", "on", "hands", "new", "row"] ["self", "plan"] (defScope s_Hand_go_by) := ⟨rfl, rfl, rfl, by decide +kernel, rfl, by decide +kernel, by decide +kernel⟩
theorem sc_Hand_settle : FnScope ["self", "me", "hands", "wished", "make", "plan"] ["self"] (defScope s_Hand_settle) := ⟨rfl, rfl, rfl, by decide +kernel, rfl, by decide +kernel, by decide +kernel⟩
theorem sc_Hand_call : FnScope ["self", "kind", "word"] ["self", "kind", "word"] (defScope s_Hand_call) := ⟨rfl, rfl, rfl, by decide +kernel, rfl, by decide +kernel, by decide +kernel⟩
theorem sc_Hand_renew : FnScope ["self", "more", "seen"] ["self", "more"] (defScope s_Hand_renew) := ⟨rfl, rfl, rfl, by decide +kernel, rfl, by decide +kernel, by decide +kernel⟩
theorem sc_Hand_suspect : FnScope ["self", "hands", "seen"] ["self", "hands"] (defScope s_Hand_suspect) := ⟨rfl, rfl, rfl, by decide +kernel, rfl, by decide +kernel, by decide +kernel⟩
theorem sc_Hand_leave : FnScope ["self"] ["self"] (defScope s_Hand_leave) := ⟨rfl, rfl, rfl, by decide +kernel, rfl, by decide +kernel, by decide +kernel⟩
theorem sc_Hand_come : FnScope ["self"] ["self"] (defScope s_Hand_come) := ⟨rfl, rfl, rfl, by decide +kernel, rfl, by decide +kernel, by decide +kernel⟩
theorem sc_Hand_letter : FnScope ["self", "skip", "many", "report", "head"] ["self", "skip", "many"] (defScope s_Hand_letter) := ⟨rfl, rfl, rfl, by decide +kernel, rfl, by decide +kernel, by decide +kernel⟩
theorem sc_Hand_hear : FnScope ["self", "letter", "seen"] ["self", "letter"] (defScope s_Hand_hear) := ⟨rfl, rfl, rfl, by decide +kernel, rfl, by decide +kernel, by decide +kernel⟩
theorem sc_Hand_hear_away : FnScope ["self", "letter", "gone"] ["self", "letter"] (defScope s_Hand_hear_away) := ⟨rfl, rfl, rfl, by decide +kernel, rfl, by decide +kernel, by decide +kernel⟩
theorem sc_Hand_hear_list : FnScope ["self", "letter", "number", "way"] ["self", "letter"] (defScope s_Hand_hear_list) := ⟨rfl, rfl, rfl, by decide +kernel, rfl, by decide +kernel, by decide +kernel⟩
theorem sc_Hand_events : FnScope ["self"] ["self"] (defScope s_Hand_events) := ⟨rfl, rfl, rfl, by decide +kernel, rfl, by decide +kernel, by decide +kernel⟩
theorem sc_Hand_standing : FnScope ["self"] ["self"] (defScope s_Hand_standing) := ⟨rfl, rfl, rfl, by decide +kernel, rfl, by decide +kernel, by decide +kernel⟩
theorem sc_Hand_kept : FnScope ["self"] ["self"] (defScope s_Hand_kept) := ⟨rfl, rfl, rfl, by decide +kernel, rfl, by decide +kernel, by decide +kernel⟩
theorem sc_law_cell_at : FnScope ["_law_script", "_law_k"] ["_law_script", "_law_k"] (defScope s_law_cell_at) := ⟨rfl, rfl, rfl, by decide +kernel, rfl, by decide +kernel, by decide +kernel⟩
theorem sc_law_mixed : FnScope ["_law_cell", "_law_k", "_law_number"] ["_law_cell", "_law_k"] (defScope s_law_mixed) := ⟨rfl, rfl, rfl, by decide +kernel, rfl, by decide +kernel, by decide +kernel⟩
theorem sc_law_drawn : FnScope ["_law_cell", "_law_k"] ["_law_cell", "_law_k"] (defScope s_law_drawn) := ⟨rfl, rfl, rfl, by decide +kernel, rfl, by decide +kernel, by decide +kernel⟩
theorem sc_law_word : FnScope ["_law_cell"] ["_law_cell"] (defScope s_law_word) := ⟨rfl, rfl, rfl, by decide +kernel, rfl, by decide +kernel, by decide +kernel⟩
theorem sc_law_hands : FnScope ["_law_cell", "_law_amount", "_law_k"] ["_law_cell", "_law_amount"] (defScope s_law_hands) := ⟨rfl, rfl, rfl, by decide +kernel, rfl, by decide +kernel, by decide +kernel⟩
theorem sc_law_world : FnScope ["_law_script", "_law_names", "_law_pick", "_law_group", "_law_number", "_law_room", "_law_at", "_law_name"] ["_law_script"] (defScope s_law_world) := ⟨rfl, rfl, rfl, by decide +kernel, rfl, by decide +kernel, by decide +kernel⟩
theorem sc_law_counts : FnScope ["_law_events", "_law_counts_here", "_law_event"] ["_law_events"] (defScope s_law_counts) := ⟨rfl, rfl, rfl, by decide +kernel, rfl, by decide +kernel, by decide +kernel⟩
theorem sc_law_call : FnScope ["_law_hand", "_law_kind", "_law_word_here", "_law_made", "_law_counts_here", "_law_good", "_law_name", "_law_causes", "_law_one"] ["_law_hand", "_law_kind", "_law_word_here", "_law_made"] (defScope s_law_call) := ⟨rfl, rfl, rfl, by decide +kernel, rfl, by decide +kernel, by decide +kernel⟩
theorem sc_law_leave : FnScope ["_law_hand", "_law_good"] ["_law_hand"] (defScope s_law_leave) := ⟨rfl, rfl, rfl, by decide +kernel, rfl, by decide +kernel, by decide +kernel⟩
theorem sc_law_round : FnScope ["_law_hands_here", "_law_some", "_law_one", "_law_other"] ["_law_hands_here", "_law_some"] (defScope s_law_round) := ⟨rfl, rfl, rfl, by decide +kernel, rfl, by decide +kernel, by decide +kernel⟩
theorem sc_law_small : FnScope ["_law_names", "_law_hands_here", "_law_at", "_law_made", "_law_pool", "_law_cell", "_law_draw", "_law_hand", "_law_kind", "_law_other", "_law_some", "_law_one"] ["_law_names", "_law_hands_here", "_law_at", "_law_made", "_law_pool", "_law_cell", "_law_draw"] (defScope s_law_small) := ⟨rfl, rfl, rfl, by decide +kernel, rfl, by decide +kernel, by decide +kernel⟩
theorem sc_law_parted : FnScope ["_law_names", "_law_hands_here", "_law_at", "_law_some", "_law_more", "_law_one"] ["_law_names", "_law_hands_here", "_law_at", "_law_some", "_law_more"] (defScope s_law_parted) := ⟨rfl, rfl, rfl, by decide +kernel, rfl, by decide +kernel, by decide +kernel⟩
theorem sc_law_gathered : FnScope ["_law_hands_here", "_law_at", "_law_hand"] ["_law_hands_here", "_law_at"] (defScope s_law_gathered) := ⟨rfl, rfl, rfl, by decide +kernel, rfl, by decide +kernel, by decide +kernel⟩
theorem sc_law_deed : FnScope ["_law_names", "_law_hands_here", "_law_made", "_law_pool", "_law_cell", "_law_k", "_law_draw", "_law_at", "_law_some", "_law_kind", "_law_one"] ["_law_names", "_law_hands_here", "_law_made", "_law_pool", "_law_cell", "_law_k"] (defScope s_law_deed) := ⟨rfl, rfl, rfl, by decide +kernel, rfl, by decide +kernel, by decide +kernel⟩
theorem sc_law_taken : FnScope ["_law_events", "_law_found", "_law_event"] ["_law_events"] (defScope s_law_taken) := ⟨rfl, rfl, rfl, by decide +kernel, rfl, by decide +kernel, by decide +kernel⟩
theorem sc_law_right : FnScope ["_law_at", "_law_names", "_law_hands_here", "_law_taken_here", "_law_made", "_law_there", "_law_kept", "_law_name", "_law_known", "_law_other"] ["_law_at", "_law_names", "_law_hands_here", "_law_taken_here", "_law_made"] (defScope s_law_right) := ⟨rfl, rfl, rfl, by decide +kernel, rfl, by decide +kernel, by decide +kernel⟩
theorem sc_law : FnScope ["_law_script", "_law_names", "_law_hands_here", "_law_made", "_law_pool", "_law_k", "_law_taken_here", "_law_at", "_law_hand"] ["_law_script"] (defScope s_law) := ⟨rfl, rfl, rfl, by decide +kernel, rfl, by decide +kernel, by decide +kernel⟩
section
variable {K : PySem.W.Frag}
theorem fu_has (d : He.SaysD fa fn K) : ∃ fd, FunD K d_has.name d_has.qual (defArgs s_has) (defBody s_has) (defScope s_has) (d_has.dvs K) [] (He.fAd K ("has", none)) fd := d.def_ 0 (d := d_has) rfl
theorem fu_hands_of (d : He.SaysD fa fn K) : ∃ fd, FunD K d_hands_of.name d_hands_of.qual (defArgs s_hands_of) (defBody s_hands_of) (defScope s_hands_of) (d_hands_of.dvs K) [] (He.fAd K ("hands_of", none)) fd := d.def_ 1 (d := d_hands_of) rfl
theorem fu_set_of (d : He.SaysD fa fn K) : ∃ fd, FunD K d_set_of.name d_set_of.qual (defArgs s_set_of) (defBody s_set_of) (defScope s_set_of) (d_set_of.dvs K) [] (He.fAd K ("set_of", none)) fd := d.def_ 2 (d := d_set_of) rfl
theorem fu_many (d : He.SaysD fa fn K) : ∃ fd, FunD K d_many.name d_many.qual (defArgs s_many) (defBody s_many) (defScope s_many) (d_many.dvs K) [] (He.fAd K ("many", none)) fd := d.def_ 3 (d := d_many) rfl
theorem fu_least (d : He.SaysD fa fn K) : ∃ fd, FunD K d_least.name d_least.qual (defArgs s_least) (defBody s_least) (defScope s_least) (d_least.dvs K) [] (He.fAd K ("least", none)) fd := d.def_ 4 (d := d_least) rfl
theorem fu_more_than_half (d : He.SaysD fa fn K) : ∃ fd, FunD K d_more_than_half.name d_more_than_half.qual (defArgs s_more_than_half) (defBody s_more_than_half) (defScope s_more_than_half) (d_more_than_half.dvs K) [] (He.fAd K ("more_than_half", none)) fd := d.def_ 5 (d := d_more_than_half) rfl
theorem fu_under (d : He.SaysD fa fn K) : ∃ fd, FunD K d_under.name d_under.qual (defArgs s_under) (defBody s_under) (defScope s_under) (d_under.dvs K) [] (He.fAd K ("under", none)) fd := d.def_ 6 (d := d_under) rfl
theorem fu_ballot_of (d : He.SaysD fa fn K) : ∃ fd, FunD K d_ballot_of.name d_ballot_of.qual (defArgs s_ballot_of) (defBody s_ballot_of) (defScope s_ballot_of) (d_ballot_of.dvs K) [] (He.fAd K ("ballot_of", none)) fd := d.def_ 7 (d := d_ballot_of) rfl
theorem fu_Change_init (d : He.SaysD fa fn K) : ∃ fd, FunD K d_Change_init.name d_Change_init.qual (defArgs s_Change_init) (defBody s_Change_init) (defScope s_Change_init) (d_Change_init.dvs K) [] (He.fAd K ("Change", some "__init__")) fd := d.def_ 8 (d := d_Change_init) rfl
theorem fu_Change_begin (d : He.SaysD fa fn K) : ∃ fd, FunD K d_Change_begin.name d_Change_begin.qual (defArgs s_Change_begin) (defBody s_Change_begin) (defScope s_Change_begin) (d_Change_begin.dvs K) [] (He.fAd K ("Change", some "begin")) fd := d.def_ 9 (d := d_Change_begin) rfl
theorem fu_Change_message (d : He.SaysD fa fn K) : ∃ fd, FunD K d_Change_message.name d_Change_message.qual (defArgs s_Change_message) (defBody s_Change_message) (defScope s_Change_message) (d_Change_message.dvs K) [] (He.fAd K ("Change", some "message")) fd := d.def_ 10 (d := d_Change_message) rfl
theorem fu_Change_receive (d : He.SaysD fa fn K) : ∃ fd, FunD K d_Change_receive.name d_Change_receive.qual (defArgs s_Change_receive) (defBody s_Change_receive) (defScope s_Change_receive) (d_Change_receive.dvs K) [] (He.fAd K ("Change", some "receive")) fd := d.def_ 11 (d := d_Change_receive) rfl
theorem fu_Change_receive_yes (d : He.SaysD fa fn K) : ∃ fd, FunD K d_Change_receive_yes.name d_Change_receive_yes.qual (defArgs s_Change_receive_yes) (defBody s_Change_receive_yes) (defScope s_Change_receive_yes) (d_Change_receive_yes.dvs K) [] (He.fAd K ("Change", some "receive_yes")) fd := d.def_ 12 (d := d_Change_receive_yes) rfl
theorem fu_Change_unplanned (d : He.SaysD fa fn K) : ∃ fd, FunD K d_Change_unplanned.name d_Change_unplanned.qual (defArgs s_Change_unplanned) (defBody s_Change_unplanned) (defScope s_Change_unplanned) (d_Change_unplanned.dvs K) [] (He.fAd K ("Change", some "unplanned")) fd := d.def_ 13 (d := d_Change_unplanned) rfl
theorem fu_Change_settle (d : He.SaysD fa fn K) : ∃ fd, FunD K d_Change_settle.name d_Change_settle.qual (defArgs s_Change_settle) (defBody s_Change_settle) (defScope s_Change_settle) (d_Change_settle.dvs K) [] (He.fAd K ("Change", some "settle")) fd := d.def_ 14 (d := d_Change_settle) rfl
theorem fu_Change_enough (d : He.SaysD fa fn K) : ∃ fd, FunD K d_Change_enough.name d_Change_enough.qual (defArgs s_Change_enough) (defBody s_Change_enough) (defScope s_Change_enough) (d_Change_enough.dvs K) [] (He.fAd K ("Change", some "enough")) fd := d.def_ 15 (d := d_Change_enough) rfl
theorem fu_Change_propose (d : He.SaysD fa fn K) : ∃ fd, FunD K d_Change_propose.name d_Change_propose.qual (defArgs s_Change_propose) (defBody s_Change_propose) (defScope s_Change_propose) (d_Change_propose.dvs K) [] (He.fAd K ("Change", some "propose")) fd := d.def_ 16 (d := d_Change_propose) rfl
theorem fu_Change_settled (d : He.SaysD fa fn K) : ∃ fd, FunD K d_Change_settled.name d_Change_settled.qual (defArgs s_Change_settled) (defBody s_Change_settled) (defScope s_Change_settled) (d_Change_settled.dvs K) [] (He.fAd K ("Change", some "settled")) fd := d.def_ 17 (d := d_Change_settled) rfl
theorem fu_Stopped_init (d : He.SaysD fa fn K) : ∃ fd, FunD K d_Stopped_init.name d_Stopped_init.qual (defArgs s_Stopped_init) (defBody s_Stopped_init) (defScope s_Stopped_init) (d_Stopped_init.dvs K) [] (He.fAd K ("Stopped", some "__init__")) fd := d.def_ 18 (d := d_Stopped_init) rfl
theorem fu_Held_init (d : He.SaysD fa fn K) : ∃ fd, FunD K d_Held_init.name d_Held_init.qual (defArgs s_Held_init) (defBody s_Held_init) (defScope s_Held_init) (d_Held_init.dvs K) [] (He.fAd K ("Held", some "__init__")) fd := d.def_ 19 (d := d_Held_init) rfl
theorem fu_count_of (d : He.SaysD fa fn K) : ∃ fd, FunD K d_count_of.name d_count_of.qual (defArgs s_count_of) (defBody s_count_of) (defScope s_count_of) (d_count_of.dvs K) [] (He.fAd K ("count_of", none)) fd := d.def_ 20 (d := d_count_of) rfl
theorem fu_covers (d : He.SaysD fa fn K) : ∃ fd, FunD K d_covers.name d_covers.qual (defArgs s_covers) (defBody s_covers) (defScope s_covers) (d_covers.dvs K) [] (He.fAd K ("covers", none)) fd := d.def_ 21 (d := d_covers) rfl
theorem fu_covers_name (d : He.SaysD fa fn K) : ∃ fd, FunD K d_covers_name.name d_covers_name.qual (defArgs s_covers_name) (defBody s_covers_name) (defScope s_covers_name) (d_covers_name.dvs K) [] (He.fAd K ("covers_name", none)) fd := d.def_ 22 (d := d_covers_name) rfl
theorem fu_joined (d : He.SaysD fa fn K) : ∃ fd, FunD K d_joined.name d_joined.qual (defArgs s_joined) (defBody s_joined) (defScope s_joined) (d_joined.dvs K) [] (He.fAd K ("joined", none)) fd := d.def_ 23 (d := d_joined) rfl
theorem fu_common (d : He.SaysD fa fn K) : ∃ fd, FunD K d_common.name d_common.qual (defArgs s_common) (defBody s_common) (defScope s_common) (d_common.dvs K) [] (He.fAd K ("common", none)) fd := d.def_ 24 (d := d_common) rfl
theorem fu_packed (d : He.SaysD fa fn K) : ∃ fd, FunD K d_packed.name d_packed.qual (defArgs s_packed) (defBody s_packed) (defScope s_packed) (d_packed.dvs K) [] (He.fAd K ("packed", none)) fd := d.def_ 25 (d := d_packed) rfl
theorem fu_unpacked (d : He.SaysD fa fn K) : ∃ fd, FunD K d_unpacked.name d_unpacked.qual (defArgs s_unpacked) (defBody s_unpacked) (defScope s_unpacked) (d_unpacked.dvs K) [] (He.fAd K ("unpacked", none)) fd := d.def_ 26 (d := d_unpacked) rfl
theorem fu_in_row (d : He.SaysD fa fn K) : ∃ fd, FunD K d_in_row.name d_in_row.qual (defArgs s_in_row) (defBody s_in_row) (defScope s_in_row) (d_in_row.dvs K) [] (He.fAd K ("in_row", none)) fd := d.def_ 27 (d := d_in_row) rfl
theorem fu_OwnCall_kind (d : He.SaysD fa fn K) : ∃ fd, FunD K d_OwnCall_kind.name d_OwnCall_kind.qual (defArgs s_OwnCall_kind) (defBody s_OwnCall_kind) (defScope s_OwnCall_kind) (d_OwnCall_kind.dvs K) [] (He.fAd K ("OwnCall", some "kind")) fd := d.def_ 28 (d := d_OwnCall_kind) rfl
theorem fu_HeardCall_kind (d : He.SaysD fa fn K) : ∃ fd, FunD K d_HeardCall_kind.name d_HeardCall_kind.qual (defArgs s_HeardCall_kind) (defBody s_HeardCall_kind) (defScope s_HeardCall_kind) (d_HeardCall_kind.dvs K) [] (He.fAd K ("HeardCall", some "kind")) fd := d.def_ 29 (d := d_HeardCall_kind) rfl
theorem fu_HeardCall_free (d : He.SaysD fa fn K) : ∃ fd, FunD K d_HeardCall_free.name d_HeardCall_free.qual (defArgs s_HeardCall_free) (defBody s_HeardCall_free) (defScope s_HeardCall_free) (d_HeardCall_free.dvs K) [] (He.fAd K ("HeardCall", some "free")) fd := d.def_ 30 (d := d_HeardCall_free) rfl
theorem fu_OneCall_kind (d : He.SaysD fa fn K) : ∃ fd, FunD K d_OneCall_kind.name d_OneCall_kind.qual (defArgs s_OneCall_kind) (defBody s_OneCall_kind) (defScope s_OneCall_kind) (d_OneCall_kind.dvs K) [] (He.fAd K ("OneCall", some "kind")) fd := d.def_ 31 (d := d_OneCall_kind) rfl
theorem fu_OneCall_asks_place (d : He.SaysD fa fn K) : ∃ fd, FunD K d_OneCall_asks_place.name d_OneCall_asks_place.qual (defArgs s_OneCall_asks_place) (defBody s_OneCall_asks_place) (defScope s_OneCall_asks_place) (d_OneCall_asks_place.dvs K) [] (He.fAd K ("OneCall", some "asks_place")) fd := d.def_ 32 (d := d_OneCall_asks_place) rfl
theorem fu_make_call (d : He.SaysD fa fn K) : ∃ fd, FunD K d_make_call.name d_make_call.qual (defArgs s_make_call) (defBody s_make_call) (defScope s_make_call) (d_make_call.dvs K) [] (He.fAd K ("make_call", none)) fd := d.def_ 33 (d := d_make_call) rfl
theorem fu_call_of (d : He.SaysD fa fn K) : ∃ fd, FunD K d_call_of.name d_call_of.qual (defArgs s_call_of) (defBody s_call_of) (defScope s_call_of) (d_call_of.dvs K) [] (He.fAd K ("call_of", none)) fd := d.def_ 34 (d := d_call_of) rfl
theorem fu_Known_init (d : He.SaysD fa fn K) : ∃ fd, FunD K d_Known_init.name d_Known_init.qual (defArgs s_Known_init) (defBody s_Known_init) (defScope s_Known_init) (d_Known_init.dvs K) [] (He.fAd K ("Known", some "__init__")) fd := d.def_ 35 (d := d_Known_init) rfl
theorem fu_Known_learn (d : He.SaysD fa fn K) : ∃ fd, FunD K d_Known_learn.name d_Known_learn.qual (defArgs s_Known_learn) (defBody s_Known_learn) (defScope s_Known_learn) (d_Known_learn.dvs K) [] (He.fAd K ("Known", some "learn")) fd := d.def_ 36 (d := d_Known_learn) rfl
theorem fu_Known_row_of (d : He.SaysD fa fn K) : ∃ fd, FunD K d_Known_row_of.name d_Known_row_of.qual (defArgs s_Known_row_of) (defBody s_Known_row_of) (defScope s_Known_row_of) (d_Known_row_of.dvs K) [] (He.fAd K ("Known", some "row_of")) fd := d.def_ 37 (d := d_Known_row_of) rfl
theorem fu_Known_floor (d : He.SaysD fa fn K) : ∃ fd, FunD K d_Known_floor.name d_Known_floor.qual (defArgs s_Known_floor) (defBody s_Known_floor) (defScope s_Known_floor) (d_Known_floor.dvs K) [] (He.fAd K ("Known", some "floor")) fd := d.def_ 38 (d := d_Known_floor) rfl
theorem fu_Known_reach (d : He.SaysD fa fn K) : ∃ fd, FunD K d_Known_reach.name d_Known_reach.qual (defArgs s_Known_reach) (defBody s_Known_reach) (defScope s_Known_reach) (d_Known_reach.dvs K) [] (He.fAd K ("Known", some "reach")) fd := d.def_ 39 (d := d_Known_reach) rfl
theorem fu_Known_sure (d : He.SaysD fa fn K) : ∃ fd, FunD K d_Known_sure.name d_Known_sure.qual (defArgs s_Known_sure) (defBody s_Known_sure) (defScope s_Known_sure) (d_Known_sure.dvs K) [] (He.fAd K ("Known", some "sure")) fd := d.def_ 40 (d := d_Known_sure) rfl
theorem fu_Known_listed (d : He.SaysD fa fn K) : ∃ fd, FunD K d_Known_listed.name d_Known_listed.qual (defArgs s_Known_listed) (defBody s_Known_listed) (defScope s_Known_listed) (d_Known_listed.dvs K) [] (He.fAd K ("Known", some "listed")) fd := d.def_ 41 (d := d_Known_listed) rfl
theorem fu_Known_merge (d : He.SaysD fa fn K) : ∃ fd, FunD K d_Known_merge.name d_Known_merge.qual (defArgs s_Known_merge) (defBody s_Known_merge) (defScope s_Known_merge) (d_Known_merge.dvs K) [] (He.fAd K ("Known", some "merge")) fd := d.def_ 42 (d := d_Known_merge) rfl
theorem fu_next_name (d : He.SaysD fa fn K) : ∃ fd, FunD K d_next_name.name d_next_name.qual (defArgs s_next_name) (defBody s_next_name) (defScope s_next_name) (d_next_name.dvs K) [] (He.fAd K ("next_name", none)) fd := d.def_ 43 (d := d_next_name) rfl
theorem fu_rank (d : He.SaysD fa fn K) : ∃ fd, FunD K d_rank.name d_rank.qual (defArgs s_rank) (defBody s_rank) (defScope s_rank) (d_rank.dvs K) [] (He.fAd K ("rank", none)) fd := d.def_ 44 (d := d_rank) rfl
theorem fu_can_take (d : He.SaysD fa fn K) : ∃ fd, FunD K d_can_take.name d_can_take.qual (defArgs s_can_take) (defBody s_can_take) (defScope s_can_take) (d_can_take.dvs K) [] (He.fAd K ("can_take", none)) fd := d.def_ 45 (d := d_can_take) rfl
theorem fu_run (d : He.SaysD fa fn K) : ∃ fd, FunD K d_run.name d_run.qual (defArgs s_run) (defBody s_run) (defScope s_run) (d_run.dvs K) [] (He.fAd K ("run", none)) fd := d.def_ 46 (d := d_run) rfl
theorem fu_first_asking (d : He.SaysD fa fn K) : ∃ fd, FunD K d_first_asking.name d_first_asking.qual (defArgs s_first_asking) (defBody s_first_asking) (defScope s_first_asking) (d_first_asking.dvs K) [] (He.fAd K ("first_asking", none)) fd := d.def_ 47 (d := d_first_asking) rfl
theorem fu_covered (d : He.SaysD fa fn K) : ∃ fd, FunD K d_covered.name d_covered.qual (defArgs s_covered) (defBody s_covered) (defScope s_covered) (d_covered.dvs K) [] (He.fAd K ("covered", none)) fd := d.def_ 48 (d := d_covered) rfl
theorem fu_placed (d : He.SaysD fa fn K) : ∃ fd, FunD K d_placed.name d_placed.qual (defArgs s_placed) (defBody s_placed) (defScope s_placed) (d_placed.dvs K) [] (He.fAd K ("placed", none)) fd := d.def_ 49 (d := d_placed) rfl
theorem fu_by_row (d : He.SaysD fa fn K) : ∃ fd, FunD K d_by_row.name d_by_row.qual (defArgs s_by_row) (defBody s_by_row) (defScope s_by_row) (d_by_row.dvs K) [] (He.fAd K ("by_row", none)) fd := d.def_ 50 (d := d_by_row) rfl
theorem fu_Page_init (d : He.SaysD fa fn K) : ∃ fd, FunD K d_Page_init.name d_Page_init.qual (defArgs s_Page_init) (defBody s_Page_init) (defScope s_Page_init) (d_Page_init.dvs K) [] (He.fAd K ("Page", some "__init__")) fd := d.def_ 51 (d := d_Page_init) rfl
theorem fu_Page_utter (d : He.SaysD fa fn K) : ∃ fd, FunD K d_Page_utter.name d_Page_utter.qual (defArgs s_Page_utter) (defBody s_Page_utter) (defScope s_Page_utter) (d_Page_utter.dvs K) [] (He.fAd K ("Page", some "utter")) fd := d.def_ 52 (d := d_Page_utter) rfl
theorem fu_Page_sorted_calls (d : He.SaysD fa fn K) : ∃ fd, FunD K d_Page_sorted_calls.name d_Page_sorted_calls.qual (defArgs s_Page_sorted_calls) (defBody s_Page_sorted_calls) (defScope s_Page_sorted_calls) (d_Page_sorted_calls.dvs K) [] (He.fAd K ("Page", some "sorted_calls")) fd := d.def_ 53 (d := d_Page_sorted_calls) rfl
theorem fu_Page_take (d : He.SaysD fa fn K) : ∃ fd, FunD K d_Page_take.name d_Page_take.qual (defArgs s_Page_take) (defBody s_Page_take) (defScope s_Page_take) (d_Page_take.dvs K) [] (He.fAd K ("Page", some "take")) fd := d.def_ 54 (d := d_Page_take) rfl
theorem fu_Page_step (d : He.SaysD fa fn K) : ∃ fd, FunD K d_Page_step.name d_Page_step.qual (defArgs s_Page_step) (defBody s_Page_step) (defScope s_Page_step) (d_Page_step.dvs K) [] (He.fAd K ("Page", some "step")) fd := d.def_ 55 (d := d_Page_step) rfl
theorem fu_Page_let_go (d : He.SaysD fa fn K) : ∃ fd, FunD K d_Page_let_go.name d_Page_let_go.qual (defArgs s_Page_let_go) (defBody s_Page_let_go) (defScope s_Page_let_go) (d_Page_let_go.dvs K) [] (He.fAd K ("Page", some "let_go")) fd := d.def_ 56 (d := d_Page_let_go) rfl
theorem fu_Page_piece (d : He.SaysD fa fn K) : ∃ fd, FunD K d_Page_piece.name d_Page_piece.qual (defArgs s_Page_piece) (defBody s_Page_piece) (defScope s_Page_piece) (d_Page_piece.dvs K) [] (He.fAd K ("Page", some "piece")) fd := d.def_ 57 (d := d_Page_piece) rfl
theorem fu_Page_listen (d : He.SaysD fa fn K) : ∃ fd, FunD K d_Page_listen.name d_Page_listen.qual (defArgs s_Page_listen) (defBody s_Page_listen) (defScope s_Page_listen) (d_Page_listen.dvs K) [] (He.fAd K ("Page", some "listen")) fd := d.def_ 58 (d := d_Page_listen) rfl
theorem fu_Page_report (d : He.SaysD fa fn K) : ∃ fd, FunD K d_Page_report.name d_Page_report.qual (defArgs s_Page_report) (defBody s_Page_report) (defScope s_Page_report) (d_Page_report.dvs K) [] (He.fAd K ("Page", some "report")) fd := d.def_ 59 (d := d_Page_report) rfl
theorem fu_Page_finish (d : He.SaysD fa fn K) : ∃ fd, FunD K d_Page_finish.name d_Page_finish.qual (defArgs s_Page_finish) (defBody s_Page_finish) (defScope s_Page_finish) (d_Page_finish.dvs K) [] (He.fAd K ("Page", some "finish")) fd := d.def_ 60 (d := d_Page_finish) rfl
theorem fu_Page_rows (d : He.SaysD fa fn K) : ∃ fd, FunD K d_Page_rows.name d_Page_rows.qual (defArgs s_Page_rows) (defBody s_Page_rows) (defScope s_Page_rows) (d_Page_rows.dvs K) [] (He.fAd K ("Page", some "rows")) fd := d.def_ 61 (d := d_Page_rows) rfl
theorem fu_Page_kept (d : He.SaysD fa fn K) : ∃ fd, FunD K d_Page_kept.name d_Page_kept.qual (defArgs s_Page_kept) (defBody s_Page_kept) (defScope s_Page_kept) (d_Page_kept.dvs K) [] (He.fAd K ("Page", some "kept")) fd := d.def_ 62 (d := d_Page_kept) rfl
theorem fu_base_of (d : He.SaysD fa fn K) : ∃ fd, FunD K d_base_of.name d_base_of.qual (defArgs s_base_of) (defBody s_base_of) (defScope s_base_of) (d_base_of.dvs K) [] (He.fAd K ("base_of", none)) fd := d.def_ 63 (d := d_base_of) rfl
theorem fu_places_of (d : He.SaysD fa fn K) : ∃ fd, FunD K d_places_of.name d_places_of.qual (defArgs s_places_of) (defBody s_places_of) (defScope s_places_of) (d_places_of.dvs K) [] (He.fAd K ("places_of", none)) fd := d.def_ 64 (d := d_places_of) rfl
theorem fu_calls_beyond (d : He.SaysD fa fn K) : ∃ fd, FunD K d_calls_beyond.name d_calls_beyond.qual (defArgs s_calls_beyond) (defBody s_calls_beyond) (defScope s_calls_beyond) (d_calls_beyond.dvs K) [] (He.fAd K ("calls_beyond", none)) fd := d.def_ 65 (d := d_calls_beyond) rfl
theorem fu_first_plan (d : He.SaysD fa fn K) : ∃ fd, FunD K d_first_plan.name d_first_plan.qual (defArgs s_first_plan) (defBody s_first_plan) (defScope s_first_plan) (d_first_plan.dvs K) [] (He.fAd K ("first_plan", none)) fd := d.def_ 66 (d := d_first_plan) rfl
theorem fu_lacking (d : He.SaysD fa fn K) : ∃ fd, FunD K d_lacking.name d_lacking.qual (defArgs s_lacking) (defBody s_lacking) (defScope s_lacking) (d_lacking.dvs K) [] (He.fAd K ("lacking", none)) fd := d.def_ 67 (d := d_lacking) rfl
theorem fu_Hand_init (d : He.SaysD fa fn K) : ∃ fd, FunD K d_Hand_init.name d_Hand_init.qual (defArgs s_Hand_init) (defBody s_Hand_init) (defScope s_Hand_init) (d_Hand_init.dvs K) [] (He.fAd K ("Hand", some "__init__")) fd := d.def_ 68 (d := d_Hand_init) rfl
theorem fu_Hand_stand (d : He.SaysD fa fn K) : ∃ fd, FunD K d_Hand_stand.name d_Hand_stand.qual (defArgs s_Hand_stand) (defBody s_Hand_stand) (defScope s_Hand_stand) (d_Hand_stand.dvs K) [] (He.fAd K ("Hand", some "stand")) fd := d.def_ 69 (d := d_Hand_stand) rfl
theorem fu_Hand_go_out (d : He.SaysD fa fn K) : ∃ fd, FunD K d_Hand_go_out.name d_Hand_go_out.qual (defArgs s_Hand_go_out) (defBody s_Hand_go_out) (defScope s_Hand_go_out) (d_Hand_go_out.dvs K) [] (He.fAd K ("Hand", some "go_out")) fd := d.def_ 70 (d := d_Hand_go_out) rfl
theorem fu_Hand_note (d : He.SaysD fa fn K) : ∃ fd, FunD K d_Hand_note.name d_Hand_note.qual (defArgs s_Hand_note) (defBody s_Hand_note) (defScope s_Hand_note) (d_Hand_note.dvs K) [] (He.fAd K ("Hand", some "note")) fd := d.def_ 71 (d := d_Hand_note) rfl
theorem fu_Hand_go_by (d : He.SaysD fa fn K) : ∃ fd, FunD K d_Hand_go_by.name d_Hand_go_by.qual (defArgs s_Hand_go_by) (defBody s_Hand_go_by) (defScope s_Hand_go_by) (d_Hand_go_by.dvs K) [] (He.fAd K ("Hand", some "go_by")) fd := d.def_ 72 (d := d_Hand_go_by) rfl
theorem fu_Hand_settle (d : He.SaysD fa fn K) : ∃ fd, FunD K d_Hand_settle.name d_Hand_settle.qual (defArgs s_Hand_settle) (defBody s_Hand_settle) (defScope s_Hand_settle) (d_Hand_settle.dvs K) [] (He.fAd K ("Hand", some "settle")) fd := d.def_ 73 (d := d_Hand_settle) rfl
theorem fu_Hand_call (d : He.SaysD fa fn K) : ∃ fd, FunD K d_Hand_call.name d_Hand_call.qual (defArgs s_Hand_call) (defBody s_Hand_call) (defScope s_Hand_call) (d_Hand_call.dvs K) [] (He.fAd K ("Hand", some "call")) fd := d.def_ 74 (d := d_Hand_call) rfl
theorem fu_Hand_renew (d : He.SaysD fa fn K) : ∃ fd, FunD K d_Hand_renew.name d_Hand_renew.qual (defArgs s_Hand_renew) (defBody s_Hand_renew) (defScope s_Hand_renew) (d_Hand_renew.dvs K) [] (He.fAd K ("Hand", some "renew")) fd := d.def_ 75 (d := d_Hand_renew) rfl
theorem fu_Hand_suspect (d : He.SaysD fa fn K) : ∃ fd, FunD K d_Hand_suspect.name d_Hand_suspect.qual (defArgs s_Hand_suspect) (defBody s_Hand_suspect) (defScope s_Hand_suspect) (d_Hand_suspect.dvs K) [] (He.fAd K ("Hand", some "suspect")) fd := d.def_ 76 (d := d_Hand_suspect) rfl
theorem fu_Hand_leave (d : He.SaysD fa fn K) : ∃ fd, FunD K d_Hand_leave.name d_Hand_leave.qual (defArgs s_Hand_leave) (defBody s_Hand_leave) (defScope s_Hand_leave) (d_Hand_leave.dvs K) [] (He.fAd K ("Hand", some "leave")) fd := d.def_ 77 (d := d_Hand_leave) rfl
theorem fu_Hand_come (d : He.SaysD fa fn K) : ∃ fd, FunD K d_Hand_come.name d_Hand_come.qual (defArgs s_Hand_come) (defBody s_Hand_come) (defScope s_Hand_come) (d_Hand_come.dvs K) [] (He.fAd K ("Hand", some "come")) fd := d.def_ 78 (d := d_Hand_come) rfl
theorem fu_Hand_letter (d : He.SaysD fa fn K) : ∃ fd, FunD K d_Hand_letter.name d_Hand_letter.qual (defArgs s_Hand_letter) (defBody s_Hand_letter) (defScope s_Hand_letter) (d_Hand_letter.dvs K) [] (He.fAd K ("Hand", some "letter")) fd := d.def_ 79 (d := d_Hand_letter) rfl
theorem fu_Hand_hear (d : He.SaysD fa fn K) : ∃ fd, FunD K d_Hand_hear.name d_Hand_hear.qual (defArgs s_Hand_hear) (defBody s_Hand_hear) (defScope s_Hand_hear) (d_Hand_hear.dvs K) [] (He.fAd K ("Hand", some "hear")) fd := d.def_ 80 (d := d_Hand_hear) rfl
theorem fu_Hand_hear_away (d : He.SaysD fa fn K) : ∃ fd, FunD K d_Hand_hear_away.name d_Hand_hear_away.qual (defArgs s_Hand_hear_away) (defBody s_Hand_hear_away) (defScope s_Hand_hear_away) (d_Hand_hear_away.dvs K) [] (He.fAd K ("Hand", some "hear_away")) fd := d.def_ 81 (d := d_Hand_hear_away) rfl
theorem fu_Hand_hear_list (d : He.SaysD fa fn K) : ∃ fd, FunD K d_Hand_hear_list.name d_Hand_hear_list.qual (defArgs s_Hand_hear_list) (defBody s_Hand_hear_list) (defScope s_Hand_hear_list) (d_Hand_hear_list.dvs K) [] (He.fAd K ("Hand", some "hear_list")) fd := d.def_ 82 (d := d_Hand_hear_list) rfl
theorem fu_Hand_events (d : He.SaysD fa fn K) : ∃ fd, FunD K d_Hand_events.name d_Hand_events.qual (defArgs s_Hand_events) (defBody s_Hand_events) (defScope s_Hand_events) (d_Hand_events.dvs K) [] (He.fAd K ("Hand", some "events")) fd := d.def_ 83 (d := d_Hand_events) rfl
theorem fu_Hand_standing (d : He.SaysD fa fn K) : ∃ fd, FunD K d_Hand_standing.name d_Hand_standing.qual (defArgs s_Hand_standing) (defBody s_Hand_standing) (defScope s_Hand_standing) (d_Hand_standing.dvs K) [] (He.fAd K ("Hand", some "standing")) fd := d.def_ 84 (d := d_Hand_standing) rfl
theorem fu_Hand_kept (d : He.SaysD fa fn K) : ∃ fd, FunD K d_Hand_kept.name d_Hand_kept.qual (defArgs s_Hand_kept) (defBody s_Hand_kept) (defScope s_Hand_kept) (d_Hand_kept.dvs K) [] (He.fAd K ("Hand", some "kept")) fd := d.def_ 85 (d := d_Hand_kept) rfl
theorem fu_law_cell_at (d : He.SaysD fa fn K) : ∃ fd, FunD K d_law_cell_at.name d_law_cell_at.qual (defArgs s_law_cell_at) (defBody s_law_cell_at) (defScope s_law_cell_at) (d_law_cell_at.dvs K) [] (He.fAd K ("_law_cell_at", none)) fd := d.def_ 86 (d := d_law_cell_at) rfl
theorem fu_law_mixed (d : He.SaysD fa fn K) : ∃ fd, FunD K d_law_mixed.name d_law_mixed.qual (defArgs s_law_mixed) (defBody s_law_mixed) (defScope s_law_mixed) (d_law_mixed.dvs K) [] (He.fAd K ("_law_mixed", none)) fd := d.def_ 87 (d := d_law_mixed) rfl
theorem fu_law_drawn (d : He.SaysD fa fn K) : ∃ fd, FunD K d_law_drawn.name d_law_drawn.qual (defArgs s_law_drawn) (defBody s_law_drawn) (defScope s_law_drawn) (d_law_drawn.dvs K) [] (He.fAd K ("_law_drawn", none)) fd := d.def_ 88 (d := d_law_drawn) rfl
theorem fu_law_word (d : He.SaysD fa fn K) : ∃ fd, FunD K d_law_word.name d_law_word.qual (defArgs s_law_word) (defBody s_law_word) (defScope s_law_word) (d_law_word.dvs K) [] (He.fAd K ("_law_word", none)) fd := d.def_ 89 (d := d_law_word) rfl
theorem fu_law_hands (d : He.SaysD fa fn K) : ∃ fd, FunD K d_law_hands.name d_law_hands.qual (defArgs s_law_hands) (defBody s_law_hands) (defScope s_law_hands) (d_law_hands.dvs K) [] (He.fAd K ("_law_hands", none)) fd := d.def_ 90 (d := d_law_hands) rfl
theorem fu_law_world (d : He.SaysD fa fn K) : ∃ fd, FunD K d_law_world.name d_law_world.qual (defArgs s_law_world) (defBody s_law_world) (defScope s_law_world) (d_law_world.dvs K) [] (He.fAd K ("_law_world", none)) fd := d.def_ 91 (d := d_law_world) rfl
theorem fu_law_counts (d : He.SaysD fa fn K) : ∃ fd, FunD K d_law_counts.name d_law_counts.qual (defArgs s_law_counts) (defBody s_law_counts) (defScope s_law_counts) (d_law_counts.dvs K) [] (He.fAd K ("_law_counts", none)) fd := d.def_ 92 (d := d_law_counts) rfl
theorem fu_law_call (d : He.SaysD fa fn K) : ∃ fd, FunD K d_law_call.name d_law_call.qual (defArgs s_law_call) (defBody s_law_call) (defScope s_law_call) (d_law_call.dvs K) [] (He.fAd K ("_law_call", none)) fd := d.def_ 93 (d := d_law_call) rfl
theorem fu_law_leave (d : He.SaysD fa fn K) : ∃ fd, FunD K d_law_leave.name d_law_leave.qual (defArgs s_law_leave) (defBody s_law_leave) (defScope s_law_leave) (d_law_leave.dvs K) [] (He.fAd K ("_law_leave", none)) fd := d.def_ 94 (d := d_law_leave) rfl
theorem fu_law_round (d : He.SaysD fa fn K) : ∃ fd, FunD K d_law_round.name d_law_round.qual (defArgs s_law_round) (defBody s_law_round) (defScope s_law_round) (d_law_round.dvs K) [] (He.fAd K ("_law_round", none)) fd := d.def_ 95 (d := d_law_round) rfl
theorem fu_law_small (d : He.SaysD fa fn K) : ∃ fd, FunD K d_law_small.name d_law_small.qual (defArgs s_law_small) (defBody s_law_small) (defScope s_law_small) (d_law_small.dvs K) [] (He.fAd K ("_law_small", none)) fd := d.def_ 96 (d := d_law_small) rfl
theorem fu_law_parted (d : He.SaysD fa fn K) : ∃ fd, FunD K d_law_parted.name d_law_parted.qual (defArgs s_law_parted) (defBody s_law_parted) (defScope s_law_parted) (d_law_parted.dvs K) [] (He.fAd K ("_law_parted", none)) fd := d.def_ 97 (d := d_law_parted) rfl
theorem fu_law_gathered (d : He.SaysD fa fn K) : ∃ fd, FunD K d_law_gathered.name d_law_gathered.qual (defArgs s_law_gathered) (defBody s_law_gathered) (defScope s_law_gathered) (d_law_gathered.dvs K) [] (He.fAd K ("_law_gathered", none)) fd := d.def_ 98 (d := d_law_gathered) rfl
theorem fu_law_deed (d : He.SaysD fa fn K) : ∃ fd, FunD K d_law_deed.name d_law_deed.qual (defArgs s_law_deed) (defBody s_law_deed) (defScope s_law_deed) (d_law_deed.dvs K) [] (He.fAd K ("_law_deed", none)) fd := d.def_ 99 (d := d_law_deed) rfl
theorem fu_law_taken (d : He.SaysD fa fn K) : ∃ fd, FunD K d_law_taken.name d_law_taken.qual (defArgs s_law_taken) (defBody s_law_taken) (defScope s_law_taken) (d_law_taken.dvs K) [] (He.fAd K ("_law_taken", none)) fd := d.def_ 100 (d := d_law_taken) rfl
theorem fu_law_right (d : He.SaysD fa fn K) : ∃ fd, FunD K d_law_right.name d_law_right.qual (defArgs s_law_right) (defBody s_law_right) (defScope s_law_right) (d_law_right.dvs K) [] (He.fAd K ("_law_right", none)) fd := d.def_ 101 (d := d_law_right) rfl
theorem fu_law (d : He.SaysD fa fn K) : ∃ fd, FunD K d_law.name d_law.qual (defArgs s_law) (defBody s_law) (defScope s_law) (d_law.dvs K) [] (He.fAd K ("law", none)) fd := d.def_ 102 (d := d_law) rfl
theorem fu_OwnCall_init (d : He.SaysD fa fn K) : ∃ fd, FunD K d_OwnCall_init.name d_OwnCall_init.qual (defArgs s_Call_init) (defBody s_Call_init) (defScope s_Call_init) (d_OwnCall_init.dvs K) [] (He.fAd K ("OwnCall", some "__init__")) fd := d.def_ 103 (d := d_OwnCall_init) rfl
theorem fu_OwnCall_name (d : He.SaysD fa fn K) : ∃ fd, FunD K d_OwnCall_name.name d_OwnCall_name.qual (defArgs s_Call_name) (defBody s_Call_name) (defScope s_Call_name) (d_OwnCall_name.dvs K) [] (He.fAd K ("OwnCall", some "name")) fd := d.def_ 104 (d := d_OwnCall_name) rfl
theorem fu_OwnCall_free (d : He.SaysD fa fn K) : ∃ fd, FunD K d_OwnCall_free.name d_OwnCall_free.qual (defArgs s_Call_free) (defBody s_Call_free) (defScope s_Call_free) (d_OwnCall_free.dvs K) [] (He.fAd K ("OwnCall", some "free")) fd := d.def_ 105 (d := d_OwnCall_free) rfl
theorem fu_OwnCall_asks_place (d : He.SaysD fa fn K) : ∃ fd, FunD K d_OwnCall_asks_place.name d_OwnCall_asks_place.qual (defArgs s_Call_asks_place) (defBody s_Call_asks_place) (defScope s_Call_asks_place) (d_OwnCall_asks_place.dvs K) [] (He.fAd K ("OwnCall", some "asks_place")) fd := d.def_ 106 (d := d_OwnCall_asks_place) rfl
theorem fu_OwnCall_told (d : He.SaysD fa fn K) : ∃ fd, FunD K d_OwnCall_told.name d_OwnCall_told.qual (defArgs s_Call_told) (defBody s_Call_told) (defScope s_Call_told) (d_OwnCall_told.dvs K) [] (He.fAd K ("OwnCall", some "told")) fd := d.def_ 107 (d := d_OwnCall_told) rfl
theorem fu_HeardCall_init (d : He.SaysD fa fn K) : ∃ fd, FunD K d_HeardCall_init.name d_HeardCall_init.qual (defArgs s_Call_init) (defBody s_Call_init) (defScope s_Call_init) (d_HeardCall_init.dvs K) [] (He.fAd K ("HeardCall", some "__init__")) fd := d.def_ 108 (d := d_HeardCall_init) rfl
theorem fu_HeardCall_name (d : He.SaysD fa fn K) : ∃ fd, FunD K d_HeardCall_name.name d_HeardCall_name.qual (defArgs s_Call_name) (defBody s_Call_name) (defScope s_Call_name) (d_HeardCall_name.dvs K) [] (He.fAd K ("HeardCall", some "name")) fd := d.def_ 109 (d := d_HeardCall_name) rfl
theorem fu_HeardCall_asks_place (d : He.SaysD fa fn K) : ∃ fd, FunD K d_HeardCall_asks_place.name d_HeardCall_asks_place.qual (defArgs s_Call_asks_place) (defBody s_Call_asks_place) (defScope s_Call_asks_place) (d_HeardCall_asks_place.dvs K) [] (He.fAd K ("HeardCall", some "asks_place")) fd := d.def_ 110 (d := d_HeardCall_asks_place) rfl
theorem fu_HeardCall_told (d : He.SaysD fa fn K) : ∃ fd, FunD K d_HeardCall_told.name d_HeardCall_told.qual (defArgs s_Call_told) (defBody s_Call_told) (defScope s_Call_told) (d_HeardCall_told.dvs K) [] (He.fAd K ("HeardCall", some "told")) fd := d.def_ 111 (d := d_HeardCall_told) rfl
theorem fu_OneCall_init (d : He.SaysD fa fn K) : ∃ fd, FunD K d_OneCall_init.name d_OneCall_init.qual (defArgs s_Call_init) (defBody s_Call_init) (defScope s_Call_init) (d_OneCall_init.dvs K) [] (He.fAd K ("OneCall", some "__init__")) fd := d.def_ 112 (d := d_OneCall_init) rfl
theorem fu_OneCall_name (d : He.SaysD fa fn K) : ∃ fd, FunD K d_OneCall_name.name d_OneCall_name.qual (defArgs s_Call_name) (defBody s_Call_name) (defScope s_Call_name) (d_OneCall_name.dvs K) [] (He.fAd K ("OneCall", some "name")) fd := d.def_ 113 (d := d_OneCall_name) rfl
theorem fu_OneCall_free (d : He.SaysD fa fn K) : ∃ fd, FunD K d_OneCall_free.name d_OneCall_free.qual (defArgs s_HeardCall_free) (defBody s_HeardCall_free) (defScope s_HeardCall_free) (d_OneCall_free.dvs K) [] (He.fAd K ("OneCall", some "free")) fd := d.def_ 114 (d := d_OneCall_free) rfl
theorem fu_OneCall_told (d : He.SaysD fa fn K) : ∃ fd, FunD K d_OneCall_told.name d_OneCall_told.qual (defArgs s_Call_told) (defBody s_Call_told) (defScope s_Call_told) (d_OneCall_told.dvs K) [] (He.fAd K ("OneCall", some "told")) fd := d.def_ 115 (d := d_OneCall_told) rfl
end
end G
namespace G
open PySem PySem.Spec L2
open PyProof.Rows hiding St
section
variable {P : Program} {w : World} {K : PySem.W.Frag} {mg : Str → Option Value} {base : Heap} {CT : Addr × Addr}
/-! ### the plain side: counts -/
abbrev Cn := List (Int × Int)
abbrev Nm := Int × Int × Int
def encC (kvs : Cn) : List (Key × V) := kvs.map fun p => (Sum.inl p.1, V.int p.2)
def getC (kvs : Cn) (c : Int) : Option Int := (kvs.find? fun p => decide (p.1 = c)).map (·.2)
def cnt (kvs : Cn) (c : Int) : Int := (getC kvs c).getD 0
def putC (kvs : Cn) (c k : Int) : Cn := if (kvs.any fun p => decide (p.1 = c)) = true then kvs.map (fun p => if p.1 = c then (p.1, k) else p) else kvs ++ [(c, k)]
structure Cnt (cs : List Int) (kvs : Cn) : Prop where
  nd : (kvs.map (·.1)).Nodup
  cs : ∀ p ∈ kvs, p.1 ∈ cs
  pos : ∀ p ∈ kvs, 1 ≤ p.2
theorem getC_nil (c : Int) : getC [] c = none := rfl
theorem getC_cons (p : Int × Int) (r : Cn) (c : Int) : getC (p :: r) c = if p.1 = c then some p.2 else getC r c := by
  unfold getC
  rw [List.find?_cons]
  by_cases h : p.1 = c
  · rw [decide_eq_true h, if_pos h]; rfl
  · rw [decide_eq_false h, if_neg h]
theorem valV_enc (c : Int) : ∀ kvs : Cn, valV (encC kvs) (Sum.inl c : Key) = (getC kvs c).map V.int
  | [] => rfl
  | p :: r => by
    rw [getC_cons]
    by_cases h : p.1 = c
    · rw [if_pos h]
      exact valV_pos (p := ((Sum.inl p.1 : Key), V.int p.2)) (congrArg Sum.inl h)
    · rw [if_neg h]
      exact (valV_neg (p := ((Sum.inl p.1 : Key), V.int p.2)) fun z => h (Sum.inl.inj z)).trans (valV_enc c r)
theorem cnt_enc (c : Int) (kvs : Cn) : (valV (encC kvs) (Sum.inl c : Key)).getD (.int 0) = .int (cnt kvs c) := by
  rw [valV_enc]
  unfold cnt
  cases getC kvs c <;> rfl
theorem any_enc (c : Int) : ∀ kvs : Cn, ((encC kvs).any fun kv => decide (kv.1 = (Sum.inl c : Key))) = (kvs.any fun p => decide (p.1 = c))
  | [] => rfl
  | p :: r => by
    have ih := any_enc c r
    unfold encC at ih ⊢
    rw [List.map_cons, List.any_cons, List.any_cons, ih]
    congr 1
    by_cases h : p.1 = c
    · rw [decide_eq_true h, decide_eq_true (congrArg Sum.inl h)]
    · rw [decide_eq_false h, decide_eq_false fun z => h (Sum.inl.inj z)]
theorem putK_enc (kvs : Cn) (c k : Int) : putK (encC kvs) (Sum.inl c : Key) (.int k) = encC (putC kvs c k) := by
  unfold putK putC
  rw [any_enc]
  split
  · unfold encC
    rw [List.map_map, List.map_map]
    apply List.map_congr_left
    intro p _
    show (if (Sum.inl p.1 : Key) = Sum.inl c then ((Sum.inl p.1 : Key), V.int k) else (Sum.inl p.1, V.int p.2)) = ((Sum.inl (if p.1 = c then (p.1, k) else p).1 : Key), V.int (if p.1 = c then (p.1, k) else p).2)
    by_cases h : p.1 = c
    · rw [if_pos h, if_pos (congrArg Sum.inl h)]
    · rw [if_neg h, if_neg fun z => h (Sum.inl.inj z)]
  · unfold encC
    rw [List.map_append]; rfl
theorem len_enc (kvs : Cn) : (encC kvs).length = kvs.length := List.length_map ..
theorem getC_any (c : Int) : ∀ kvs : Cn, (kvs.any fun p => decide (p.1 = c)) = (getC kvs c).isSome
  | [] => rfl
  | p :: r => by
    rw [List.any_cons, getC_cons, getC_any c r]
    by_cases h : p.1 = c
    · rw [if_pos h, decide_eq_true h]; rfl
    · rw [if_neg h, decide_eq_false h]; rfl
theorem getC_append (c : Int) (q : Int × Int) : ∀ kvs : Cn, getC (kvs ++ [q]) c = match getC kvs c with
    | some k => some k
    | none => if q.1 = c then some q.2 else none
  | [] => by rw [List.nil_append, getC_cons, getC_nil]
  | p :: r => by
    rw [List.cons_append, getC_cons, getC_cons, getC_append c q r]
    by_cases h : p.1 = c
    · simp only [if_pos h]
    · simp only [if_neg h]
theorem getC_map (c d k : Int) : ∀ kvs : Cn, getC (kvs.map fun p => if p.1 = c then (p.1, k) else p) d = if d = c then (getC kvs d).map (fun _ => k) else getC kvs d
  | [] => by rw [List.map_nil, getC_nil]; split <;> rfl
  | p :: r => by
    rw [List.map_cons, getC_cons, getC_cons, getC_map c d k r]
    by_cases h : p.1 = c
    · rw [if_pos h]
      by_cases h2 : d = c
      · rw [if_pos h2, if_pos h2, if_pos (show p.1 = d by rw [h, h2]), if_pos (show p.1 = d by rw [h, h2])]; rfl
      · rw [if_neg h2, if_neg h2, if_neg (show ¬ p.1 = d by rw [h]; exact fun z => h2 z.symm), if_neg (show ¬ p.1 = d by rw [h]; exact fun z => h2 z.symm)]
    · rw [if_neg h]
      by_cases h3 : p.1 = d
      · rw [if_pos h3, if_pos h3, if_neg (show ¬ d = c by rw [← h3]; exact h)]
      · rw [if_neg h3, if_neg h3]
theorem getC_put (kvs : Cn) (c k d : Int) : getC (putC kvs c k) d = if d = c then some k else getC kvs d := by
  unfold putC
  rw [getC_any]
  cases e : getC kvs c with
  | some x =>
    rw [if_pos (show (some x).isSome = true from rfl), getC_map]
    by_cases h : d = c
    · rw [if_pos h, if_pos h, h, e]; rfl
    · rw [if_neg h, if_neg h]
  | none =>
    rw [if_neg (by decide), getC_append]
    by_cases h : d = c
    · rw [if_pos h, h, e]; show (if c = c then some k else none) = some k; rw [if_pos rfl]
    · rw [if_neg h]
      cases getC kvs d with
      | some _ => rfl
      | none => show (if c = d then some k else none) = none; rw [if_neg fun z => h z.symm]
theorem cnt_put (kvs : Cn) (c k d : Int) : cnt (putC kvs c k) d = if d = c then k else cnt kvs d := by
  unfold cnt
  rw [getC_put]
  split <;> rfl
theorem cnt_nil (c : Int) : cnt [] c = 0 := rfl
theorem getC_mem {kvs : Cn} {c k : Int} (h : getC kvs c = some k) : (c, k) ∈ kvs := by
  unfold getC at h
  obtain ⟨p, hp, e⟩ := Option.map_eq_some_iff.mp h
  have h1 := List.find?_some hp
  have h2 := List.mem_of_find?_eq_some hp
  have h3 : p.1 = c := of_decide_eq_true h1
  rw [← h3, ← e]
  exact h2
theorem getC_of_mem {c k : Int} : ∀ {kvs : Cn}, (kvs.map (·.1)).Nodup → (c, k) ∈ kvs → getC kvs c = some k
  | [], _, h => nomatch h
  | p :: r, nd, h => by
    rw [List.map_cons, List.nodup_cons] at nd
    rw [getC_cons]
    rcases List.mem_cons.mp h with e | h
    · rw [← e, if_pos rfl]
    · rw [if_neg (fun z => nd.1 (by rw [z]; exact List.mem_map.mpr ⟨_, h, rfl⟩))]
      exact getC_of_mem nd.2 h
theorem getC_none {kvs : Cn} {c : Int} (h : c ∉ kvs.map (·.1)) : getC kvs c = none := by
  cases e : getC kvs c with
  | none => rfl
  | some k => exact absurd (List.mem_map.mpr ⟨_, getC_mem e, rfl⟩) h
theorem keys_putC (kvs : Cn) (c k : Int) : ∀ p ∈ putC kvs c k, p = (c, k) ∨ p ∈ kvs := by
  intro p hp
  unfold putC at hp
  split at hp
  · obtain ⟨q, hq, e⟩ := List.mem_map.mp hp
    by_cases h : q.1 = c
    · rw [if_pos h] at e
      exact .inl (by rw [← e, h])
    · rw [if_neg h] at e
      exact .inr (by rw [← e]; exact hq)
  · rcases List.mem_append.mp hp with h | h
    · exact .inr h
    · exact .inl (List.mem_singleton.mp h)
theorem nd_putC {kvs : Cn} {c k : Int} (nd : (kvs.map (·.1)).Nodup) : ((putC kvs c k).map (·.1)).Nodup := by
  unfold putC
  split
  · rw [List.map_map]
    have e : kvs.map ((fun p : Int × Int => p.1) ∘ fun p => if p.1 = c then (p.1, k) else p) = kvs.map (·.1) := by
      apply List.map_congr_left
      intro p _
      show (if p.1 = c then (p.1, k) else p).1 = p.1
      split <;> rfl
    rw [e]; exact nd
  · rename_i h
    rw [List.map_append]
    refine List.nodup_append.mpr ⟨nd, List.nodup_cons.mpr ⟨fun z => (nomatch z), List.nodup_nil⟩, ?_⟩
    intro a ha b hb e
    have hb' : b = c := List.mem_singleton.mp hb
    obtain ⟨p, hp, e2⟩ := List.mem_map.mp ha
    exact h (List.any_eq_true.mpr ⟨p, hp, decide_eq_true (by rw [e2, e, hb'])⟩)
theorem Cnt.put {cs : List Int} {kvs : Cn} {c k : Int} (h : Cnt cs kvs) (hc : c ∈ cs) (hk : 1 ≤ k) : Cnt cs (putC kvs c k) :=
  ⟨nd_putC h.nd, fun p hp => (keys_putC kvs c k p hp).elim (fun e => by rw [e]; exact hc) (h.cs p), fun p hp => (keys_putC kvs c k p hp).elim (fun e => by rw [e]; exact hk) (h.pos p)⟩
theorem Cnt.nil {cs : List Int} : Cnt cs [] := ⟨List.nodup_nil, fun _ h => (nomatch h), fun _ h => (nomatch h)⟩
theorem Cnt.nonneg {cs : List Int} {kvs : Cn} (h : Cnt cs kvs) (c : Int) : 0 ≤ cnt kvs c := by
  unfold cnt
  cases e : getC kvs c with
  | none => exact Int.le_refl _
  | some k => have := h.pos _ (getC_mem e); show 0 ≤ k; simp only at this; omega
theorem Cnt.mem_cs {cs : List Int} {kvs : Cn} (h : Cnt cs kvs) {c : Int} (hc : 1 ≤ cnt kvs c) : c ∈ cs := by
  unfold cnt at hc
  cases e : getC kvs c with
  | none => rw [e] at hc; exact absurd hc (by decide)
  | some k => exact h.cs _ (getC_mem e)
theorem nodup_len {α : Type} [DecidableEq α] : ∀ {l m : List α}, l.Nodup → (∀ x ∈ l, x ∈ m) → l.length ≤ m.length
  | [], _, _, _ => Nat.zero_le _
  | x :: r, m, nd, h => by
    rw [List.nodup_cons] at nd
    have hx := h x List.mem_cons_self
    have ih := nodup_len (l := r) (m := m.erase x) nd.2 fun y hy => (List.mem_erase_of_ne fun e => nd.1 (by rw [← e]; exact hy)).mpr (h y (List.mem_cons_of_mem _ hy))
    rw [List.length_erase_of_mem hx] at ih
    have := List.length_pos_of_mem hx
    rw [List.length_cons]
    omega
theorem Cnt.len {cs : List Int} {kvs : Cn} (h : Cnt cs kvs) : kvs.length ≤ cs.length := by
  have := nodup_len h.nd fun x hx => by
    obtain ⟨p, hp, e⟩ := List.mem_map.mp hx
    rw [← e]; exact h.cs p hp
  rwa [List.length_map] at this
theorem Cnt.take {cs : List Int} {kvs : Cn} (h : Cnt cs kvs) (n : Nat) : Cnt cs (kvs.take n) :=
  ⟨by rw [List.map_take]; exact h.nd.sublist (List.take_sublist _ _), fun p hp => h.cs p (List.mem_of_mem_take hp), fun p hp => h.pos p (List.mem_of_mem_take hp)⟩
theorem getC_take_succ {kvs : Cn} {j : Nat} {c k : Int} (nd : (kvs.map (·.1)).Nodup) (h : kvs[j]? = some (c, k)) (d : Int) : getC (kvs.take (j + 1)) d = if d = c then some k else getC (kvs.take j) d := by
  rw [List.take_add_one, h]
  show getC (kvs.take j ++ [(c, k)]) d = _
  rw [getC_append]
  have hc : getC (kvs.take j) c = none := by
    refine getC_none fun hm => ?_
    obtain ⟨p, hp, e⟩ := List.mem_map.mp hm
    obtain ⟨i, hi, ei⟩ := List.mem_take_iff_getElem.mp hp
    obtain ⟨hj, ej⟩ := List.getElem?_eq_some_iff.mp h
    have h1 : (kvs.map (·.1))[i]'(by rw [List.length_map]; omega) = (kvs.map (·.1))[j]'(by rw [List.length_map]; exact hj) := by
      rw [List.getElem_map, List.getElem_map, ei, ej, e]
    exact List.pairwise_iff_getElem.mp nd i j (by rw [List.length_map]; omega) (by rw [List.length_map]; exact hj) (by omega) h1
  by_cases hd : d = c
  · rw [if_pos hd, hd, hc]; show (if c = c then some k else none) = _; rw [if_pos rfl]
  · rw [if_neg hd]
    cases getC (kvs.take j) d with
    | some _ => rfl
    | none => show (if c = d then some k else none) = none; rw [if_neg fun z => hd z.symm]
theorem cnt_take_succ {kvs : Cn} {j : Nat} {c k : Int} (nd : (kvs.map (·.1)).Nodup) (h : kvs[j]? = some (c, k)) (d : Int) : cnt (kvs.take (j + 1)) d = if d = c then k else cnt (kvs.take j) d := by
  unfold cnt
  rw [getC_take_succ nd h]
  split <;> rfl
theorem cnt_take_self {kvs : Cn} {j : Nat} {c k : Int} (nd : (kvs.map (·.1)).Nodup) (h : kvs[j]? = some (c, k)) : cnt (kvs.take j) c = 0 := by
  have e := getC_take_succ nd h c
  have h2 : getC (kvs.take j ++ [(c, k)]) c = some k := by
    rw [List.take_add_one, h] at e
    rw [if_pos rfl] at e; exact e
  rw [getC_append] at h2
  unfold cnt
  cases q : getC (kvs.take j) c with
  | none => rfl
  | some x =>
    rw [q] at h2
    exfalso
    have hm := getC_mem q
    obtain ⟨i, hi, ei⟩ := List.mem_take_iff_getElem.mp hm
    obtain ⟨hj, ej⟩ := List.getElem?_eq_some_iff.mp h
    have h1 : (kvs.map (·.1))[i]'(by rw [List.length_map]; omega) = (kvs.map (·.1))[j]'(by rw [List.length_map]; exact hj) := by
      rw [List.getElem_map, List.getElem_map, ei, ej]
    exact List.pairwise_iff_getElem.mp nd i j (by rw [List.length_map]; omega) (by rw [List.length_map]; exact hj) (by omega) h1
theorem cnt_congr_perm {k1 k2 : Cn} (n1 : (k1.map (·.1)).Nodup) (p : k2.Perm k1) (c : Int) : cnt k2 c = cnt k1 c := by
  have n2 : (k2.map (·.1)).Nodup := (p.map (·.1)).nodup_iff.mpr n1
  unfold cnt
  cases e : getC k2 c with
  | some k => rw [getC_of_mem n1 (p.mem_iff.mp (getC_mem e))]
  | none =>
    cases e2 : getC k1 c with
    | none => rfl
    | some k => rw [getC_of_mem n2 (p.mem_iff.mpr (getC_mem e2))] at e; cases e
theorem Cnt.perm {cs : List Int} {k1 k2 : Cn} (h : Cnt cs k1) (p : k2.Perm k1) : Cnt cs k2 :=
  ⟨(p.map (·.1)).nodup_iff.mpr h.nd, fun x hx => h.cs x (p.mem_iff.mp hx), fun x hx => h.pos x (p.mem_iff.mp hx)⟩
/-- the dict that pairs, read one by one, leave -/
def mkC (kvs : Cn) : Cn := kvs.foldl (fun f p => putC f p.1 p.2) []
theorem mkC_take_succ {kvs : Cn} {j : Nat} {c k : Int} (h : kvs[j]? = some (c, k)) : mkC (kvs.take (j + 1)) = putC (mkC (kvs.take j)) c k := by
  unfold mkC
  rw [List.take_add_one, h]
  show List.foldl _ [] (kvs.take j ++ [(c, k)]) = _
  rw [List.foldl_append]; rfl
theorem putC_len (kvs : Cn) (c k : Int) : (putC kvs c k).length ≤ kvs.length + 1 := by
  unfold putC
  split
  · rw [List.length_map]; omega
  · rw [List.length_append]; simp
theorem mkC_nd : ∀ {kvs : Cn} {f : Cn}, ((f ++ kvs).map (·.1)).Nodup → kvs.foldl (fun f p => putC f p.1 p.2) f = f ++ kvs
  | [], f, _ => by rw [List.append_nil]; rfl
  | p :: r, f, nd => by
    rw [List.foldl_cons]
    have hp : putC f p.1 p.2 = f ++ [p] := by
      unfold putC
      rw [if_neg]
      intro h
      obtain ⟨q, hq, e⟩ := List.any_eq_true.mp h
      rw [List.map_append, List.nodup_append] at nd
      exact nd.2.2 q.1 (List.mem_map.mpr ⟨q, hq, rfl⟩) p.1 (List.mem_map.mpr ⟨p, List.mem_cons_self, rfl⟩) (of_decide_eq_true e)
    rw [hp, mkC_nd (f := f ++ [p]) (by rw [List.append_assoc]; exact nd), List.append_assoc]; rfl
theorem mkC_self {kvs : Cn} (nd : (kvs.map (·.1)).Nodup) : mkC kvs = kvs := by
  unfold mkC
  rw [mkC_nd (by rw [List.nil_append]; exact nd), List.nil_append]

end
end G
namespace G
open PySem PySem.Spec L2
open PyProof.Rows hiding St
section
variable {P : Program} {w : World} {K : PySem.W.Frag} {mg : Str → Option Value} {base : Heap} {CT : Addr × Addr}
/-! ### sets of hands -/
def bit (S h : Int) : Bool := decide (V.int (Builtin.bitAnd (S / 2 ^ h.toNat) 1) = V.int 1)
def circN (S : Int) (n : Nat) : List Int := ((List.range n).map Int.ofNat).filter (bit S)
def circ (S : Int) : List Int := circN S 63
theorem circN_succ (S : Int) (i : Nat) : circN S (i + 1) = circN S i ++ (if bit S (Int.ofNat i) then [Int.ofNat i] else []) := by
  unfold circN
  rw [List.range_succ, List.map_append, List.filter_append]
  congr 1
  show List.filter (bit S) [Int.ofNat i] = _
  rw [List.filter_cons, List.filter_nil]
theorem circN_len (S : Int) (i : Nat) : (circN S i).length ≤ i := by
  refine Nat.le_trans (List.length_filter_le _ _) ?_
  rw [List.length_map, List.length_range]
  exact Nat.le_refl _
def spHas : Sp := fun vs H Q _ => ∃ S h : Int, vs = [.int S, .int h] ∧ 0 ≤ h ∧ Q (.bl (bit S h)) H
theorem ok_has (A : All P w K mg base CT) : DOk P w K mg base CX0 1 "has" ["hands", "hand"] [] spHas := by
  obtain ⟨fd, F⟩ := fu_has A.d
  refine ⟨_, fd, [], FunD.ok0 F sc_has (fun vs H Q E h => ?_) (fun cdv A0 outer s H vs Q E hr h => ?_), gl_has A.kin A.ns A.d, F.kp, F.bindsN fun _ _ _ _ _ _ us hl => match us, hl with | [_, _], _ => rfl, .nil⟩
  · obtain ⟨S, h, rfl, h0, k⟩ := h
    rfl
  · obtain ⟨S, h, rfl, h0, k⟩ := h
    have hu := hu_of hr
    refine ⟨_, pss_one (ps_ret (pe_cmpR op_eq (pe_op op_and (pe_op op_shr (pv 0) (pv 1)) pe_int) pe_int (nomark _))), ?_⟩
    exact ⟨_, rfl, _, rfl, _, _, rfl, rfl, h0, _, _, rfl, rfl, rfl, k⟩
def spHandsOf : Sp := fun vs H Q _ => ∃ S : Int, vs = [.int S] ∧ ∀ p H', H p = none → Same H H' → H' p = some (.lst ((circ S).map V.int)) → Q (.ref p) H'
theorem ok_hands_of (A : All P w K mg base CT) : DOk P w K mg base CX0 2 "hands_of" ["hands"] [] spHandsOf := by
  obtain ⟨fd, F⟩ := fu_hands_of A.d
  refine ⟨_, fd, [], FunD.ok0 F sc_hands_of (fun vs H Q E h => ?_) (fun cdv A0 outer s H vs Q E hr h => ?_), gl_hands_of A.kin A.ns A.d, F.kp, F.bindsN fun _ _ _ _ _ _ us hl => match us, hl with | [_], _ => rfl, .nil⟩
  · obtain ⟨S, rfl, k⟩ := h
    rfl
  · obtain ⟨S, rfl, k⟩ := h
    have hu := hu_of hr
    refine ⟨_, pss_one (ps_ret (pe_lc (own := [("hand", 1)]) (g := gName 1) rfl sc_hands_of.nd (pi_range1 (by rfl) (fr_range A.kin A.ns A.d) (pa_cons pe_int pa_nil)) (blkOk_by (N := ["hands", "hand"]) (sc := defScope s_hands_of) (by decide +kernel)) (fun _ _ _ _ _ => pg_name (i := 1) sc_hands_of.nd rfl (Or.inl rfl)) (fun _ _ _ _ _ => (pts_one (pt_val ((ok_has A).pe hr pass0 (pa_cons (pv 0) (pa_cons (pv 1) pa_nil)))))) (fun _ _ _ _ _ => (pv 1)))), ?_⟩
    refine ⟨63, rfl, by decide, by decide, fun D hD => lc_range (lo := 0) (n := 63) (fun i H1 => Same H H1 ∧ H1 D = some (.lst ((circN S i).map V.int))) ⟨same_new hD, upd_same⟩ (fun i H1 hi ⟨s1, h1⟩ => ?_) (fun H1 ⟨s1, h1⟩ => k D H1 hD s1 h1)⟩
    refine ⟨rfl, _, rfl, _, rfl, S, 0 + (i : Int), rfl, by omega, _, rfl, ?_⟩
    rw [show (0 : Int) + (i : Int) = Int.ofNat i by simp]
    cases hb : bit S (Int.ofNat i) with
    | true =>
      refine iteT ⟨_, rfl, _, h1, ?_, fun b o e => ?_, ?_⟩
      · rw [List.length_map]
        exact Nat.lt_of_le_of_lt (circN_len S i) (small1000 (by omega))
      · rw [upd_ne (ne_of_none e hD)]; exact s1 b o e
      · rw [upd_same, circN_succ, hb, List.map_append]; rfl
    | false =>
      refine iteF ⟨s1, ?_⟩
      rw [circN_succ, hb, if_neg (by decide), List.append_nil]
      exact h1
theorem or_nn {x y : Int} (hx : 0 ≤ x) (hy : 0 ≤ y) : 0 ≤ Builtin.bitOr x y := Bits.bitOr_nonneg hx hy
theorem and_nnR {x y : Int} (hy : 0 ≤ y) : 0 ≤ Builtin.bitAnd x y := (PyProof.Rows.bitAnd_range x hy).1
theorem and_nnL {x y : Int} (hx : 0 ≤ x) : 0 ≤ Builtin.bitAnd x y := by rw [PyProof.Rows.bitAnd_comm]; exact and_nnR hx
def spSetOf : Sp := fun vs H Q _ => ∃ (a : Addr) (ns : List Int), vs = [.ref a] ∧ H a = some (.lst (ns.map V.int)) ∧ (∀ n ∈ ns, 0 ≤ n ∧ n ≤ 1000) ∧ ∀ r : Int, 0 ≤ r → Q (.int r) H
theorem ok_set_of (A : All P w K mg base CT) : DOk P w K mg base CX0 1 "set_of" ["some"] [] spSetOf := by
  obtain ⟨fd, F⟩ := fu_set_of A.d
  refine ⟨_, fd, [], FunD.ok0 F sc_set_of (fun vs H Q E h => ?_) (fun cdv A0 outer s H vs Q E hr h => ?_), gl_set_of A.kin A.ns A.d, F.kp, F.bindsN fun _ _ _ _ _ _ us hl => match us, hl with | [_], _ => rfl, .nil⟩
  · obtain ⟨a, ns, rfl, ha, hn, k⟩ := h
    rfl
  · obtain ⟨a, ns, rfl, ha, hn, k⟩ := h
    have hu := hu_of hr
    refine ⟨_, pss_cons (ps_set (i := 1) sc_set_of.nd rfl (by first | exact Or.inl rfl | exact Or.inr rfl) pe_int)
      (pss_cons (ps_for PassesOwn.never rfl (pi_list (pv 0)) (pg_name (i := 2) sc_set_of.nd rfl (by first | exact Or.inl rfl | exact Or.inr rfl)) (pss_one (ps_set (i := 1) sc_set_of.nd rfl (by first | exact Or.inl rfl | exact Or.inr rfl) (pe_op op_or (pv 1) (pe_op op_shl pe_int (pv 2))))))
      (pss_one (ps_ret (pv 1)))), ?_⟩
    refine ⟨_, rfl, a, rfl, ⟨_, SqL.of ha⟩, for_list (K := K) (a := a) (xs := ns.map V.int) (fun i σ H1 => ∃ (f : Int) (v : Option V), σ = [some (.ref a), some (.int f), v] ∧ H1 = H ∧ 0 ≤ f) ⟨0, none, rfl, rfl, Int.le_refl _⟩ (fun i σ H1 _ ⟨_, _, _, e, _⟩ => by rw [e]; exact SqL.of ha) ?_ ?_⟩
    · rintro i x σ H1 hx ⟨f, v, rfl, rfl, f0⟩
      rw [List.getElem?_map] at hx
      obtain ⟨n, en, rfl⟩ := Option.map_eq_some_iff.mp hx
      obtain ⟨n0, n1⟩ := hn n (List.mem_of_getElem? en)
      exact ⟨_, rfl, _, rfl, _, _, rfl, rfl, ⟨n0, by omega, by decide⟩, _, _, rfl, rfl, _, _, rfl, rfl, or_nn f0 (by rw [Int.one_mul]; exact Int.le_of_lt (Int.pow_pos (by decide)))⟩
    · rintro σ H1 ⟨f, v, rfl, rfl, f0⟩
      exact ⟨_, rfl, k f f0⟩
theorem and_pred (S : Int) (h : 0 < S) : 0 ≤ Builtin.bitAnd S (S - 1) ∧ Builtin.bitAnd S (S - 1) < S := by
  rw [PyProof.Rows.bitAnd_pp (by omega) (by omega)]
  have := Nat.and_le_right (n := S.toNat) (m := (S - 1).toNat)
  omega
/-- how many bits, as far as it is asked -/
structure PM (S r : Int) : Prop where
  z : S ≤ 0 → r = 0
  o : 0 < S → Builtin.bitAnd S (S - 1) = 0 → r = 1
  m : 0 < S → 0 < Builtin.bitAnd S (S - 1) → 2 ≤ r
def spMany : Sp := fun vs H Q _ => ∃ S : Int, vs = [.int S] ∧ ∀ r : Int, PM S r → Q (.int r) H
theorem ok_many (A : All P w K mg base CT) : DOk P w K mg base CX0 1 "many" ["hands"] [] spMany := by
  obtain ⟨fd, F⟩ := fu_many A.d
  refine ⟨_, fd, [], FunD.ok0 F sc_many (fun vs H Q E h => ?_) (fun cdv A0 outer s H vs Q E hr h => ?_), gl_many A.kin A.ns A.d, F.kp, F.bindsN fun _ _ _ _ _ _ us hl => match us, hl with | [_], _ => rfl, .nil⟩
  · obtain ⟨S0, rfl, k⟩ := h
    rfl
  · obtain ⟨S0, rfl, k⟩ := h
    have hu := hu_of hr
    refine ⟨_, pss_cons (ps_set (i := 1) sc_many.nd rfl (by first | exact Or.inl rfl | exact Or.inr rfl) pe_int)
      (pss_cons (ps_while PassesOwn.never (pt_cmpR op_gt (pv 0) pe_int (nomark _)) (pss_cons (ps_set (i := 0) sc_many.nd rfl (by first | exact Or.inl rfl | exact Or.inr rfl) (pe_op op_and (pv 0) (pe_op op_sub (pv 0) pe_int))) (pss_one (ps_set (i := 1) sc_many.nd rfl (by first | exact Or.inl rfl | exact Or.inr rfl) (pe_op op_add (pv 1) pe_int)))))
      (pss_one (ps_ret (pv 1)))), ?_⟩
    refine ⟨fun m σ H1 => ∃ S f : Int, σ = [some (.int S), some (.int f)] ∧ H1 = H ∧ m = S.toNat ∧ ((S = S0 ∧ f = 0) ∨ (0 < S0 ∧ S = Builtin.bitAnd S0 (S0 - 1) ∧ f = 1) ∨ (0 < S0 ∧ 0 < Builtin.bitAnd S0 (S0 - 1) ∧ 2 ≤ f)), ⟨_, S0, 0, rfl, rfl, rfl, .inl ⟨rfl, rfl⟩⟩, ?_⟩
    rintro m σ H1 ⟨S, f, rfl, rfl, rfl, hcase⟩
    refine ⟨_, rfl, _, _, rfl, rfl, _, rfl, ite2 (fun hc => ?_) (fun hc => ⟨_, rfl, k f ?_⟩)⟩
    · have h0 : 0 < S := of_decide_eq_true hc
      obtain ⟨p1, p2⟩ := and_pred S h0
      refine ⟨fun σ' H' => ∃ f : Int, σ' = [some (.int (Builtin.bitAnd S (S - 1))), some (.int f)] ∧ H' = H1 ∧ ((0 < S0 ∧ Builtin.bitAnd S (S - 1) = Builtin.bitAnd S0 (S0 - 1) ∧ f = 1) ∨ (0 < S0 ∧ 0 < Builtin.bitAnd S0 (S0 - 1) ∧ 2 ≤ f)), fun σ' H' ⟨f, e1, e2, e3⟩ => ⟨_, by omega, _, f, e1, e2, rfl, .inr e3⟩, _, rfl, _, rfl, _, _, rfl, rfl, _, _, rfl, rfl, _, rfl, _, _, rfl, rfl, _, rfl, rfl, ?_⟩
      rcases hcase with ⟨e1, e2⟩ | ⟨e0, e1, e2⟩ | ⟨e0, e1, e2⟩
      · exact .inl ⟨by omega, by rw [e1], by omega⟩
      · exact .inr ⟨e0, by omega, by omega⟩
      · exact .inr ⟨e0, e1, by omega⟩
    · have h0 : ¬ 0 < S := fun z => hc (decide_eq_true (p := S > 0) z)
      rcases hcase with ⟨e1, e2⟩ | ⟨e0, e1, e2⟩ | ⟨e0, e1, e2⟩
      · exact ⟨fun _ => e2, fun z => absurd (by omega) h0, fun z => absurd (by omega) h0⟩
      · exact ⟨fun z => absurd e0 (by omega), fun _ _ => e2, fun _ z => absurd (by omega) h0⟩
      · exact ⟨fun z => absurd e0 (by omega), fun _ z => absurd e1 (by omega), fun _ _ => e2⟩
def spLeast : Sp := fun vs H Q _ => ∃ S : Int, vs = [.int S] ∧ ∀ v : V, (v = .non ∨ ∃ i, v = .int i) → Q v H
theorem ok_least (A : All P w K mg base CT) : DOk P w K mg base CX0 2 "least" ["hands"] [] spLeast := by
  obtain ⟨fd, F⟩ := fu_least A.d
  refine ⟨_, fd, [], FunD.ok0 F sc_least (fun vs H Q E h => ?_) (fun cdv A0 outer s H vs Q E hr h => ?_), gl_least A.kin A.ns A.d, F.kp, F.bindsN fun _ _ _ _ _ _ us hl => match us, hl with | [_], _ => rfl, .nil⟩
  · obtain ⟨S, rfl, k⟩ := h
    rfl
  · obtain ⟨S, rfl, k⟩ := h
    have hu := hu_of hr
    refine ⟨_, pss_cons (ps_for PassesOwn.never rfl (pi_range1 (by rfl) (fr_range A.kin A.ns A.d) (pa_cons pe_int pa_nil)) (pg_name (i := 1) sc_least.nd rfl (by first | exact Or.inl rfl | exact Or.inr rfl)) (pss_one (ps_if (pt_val ((ok_has A).pe hr pass0 (pa_cons (pv 0) (pa_cons (pv 1) pa_nil)))) (pss_one (ps_ret (pv 1))) pss_nil)))
      (pss_one (ps_ret pe_non)), ?_⟩
    refine ⟨63, rfl, by decide, by decide, for_range (lo := 0) (n := 63) (fun i σ H1 => ∃ v : Option V, σ = [some (.int S), v] ∧ H1 = H) ⟨none, rfl, rfl⟩ ?_ ?_⟩
    · rintro i σ H1 hi ⟨v, rfl, rfl⟩
      exact ⟨_, rfl, _, rfl, S, 0 + (i : Int), rfl, by omega, _, rfl, ite2 (fun _ => ⟨_, rfl, k _ (.inr ⟨_, rfl⟩)⟩) fun _ => ⟨_, rfl, rfl⟩⟩
    · rintro σ H1 ⟨v, rfl, rfl⟩
      exact k _ (.inl rfl)
def spMoreThanHalf : Sp := fun vs H Q _ => ∃ S T : Int, vs = [.int S, .int T] ∧ ∀ r1 r2 : Int, PM (Builtin.bitAnd S T) r1 → PM T r2 → Q (.bl (decide (2 * r1 > r2))) H
theorem ok_more_than_half (A : All P w K mg base CT) : DOk P w K mg base CX0 2 "more_than_half" ["some", "hands"] [] spMoreThanHalf := by
  obtain ⟨fd, F⟩ := fu_more_than_half A.d
  refine ⟨_, fd, [], FunD.ok0 F sc_more_than_half (fun vs H Q E h => ?_) (fun cdv A0 outer s H vs Q E hr h => ?_), gl_more_than_half A.kin A.ns A.d, F.kp, F.bindsN fun _ _ _ _ _ _ us hl => match us, hl with | [_, _], _ => rfl, .nil⟩
  · obtain ⟨S, T, rfl, k⟩ := h
    rfl
  · obtain ⟨S, T, rfl, k⟩ := h
    have hu := hu_of hr
    refine ⟨_, pss_one (ps_ret (pe_cmpR op_gt (pe_op op_mul pe_int ((ok_many A).pe hr pass0 (pa_cons (pe_op op_and (pv 0) (pv 1)) pa_nil))) ((ok_many A).pe hr pass0 (pa_cons (pv 1) pa_nil)) (nomark _))), ?_⟩
    exact ⟨_, rfl, _, rfl, _, _, rfl, rfl, _, rfl, fun r h1 => ⟨_, _, rfl, rfl, .inl ⟨by decide, by decide⟩, _, rfl, _, rfl, fun r2 h2 => ⟨_, _, rfl, rfl, k r r2 h1 h2⟩⟩⟩
/-! one hand alone -/
theorem pw (k : Nat) : (0 : Int) < 2 ^ k := Int.pow_pos (by decide)
theorem pw_pred (k : Nat) : Builtin.bitAnd ((2 : Int) ^ k) (2 ^ k - 1) = 0 := by
  rw [PySem.W.kbt_mask, Int.emod_self]
theorem PM.one {k : Nat} {r : Int} (h : PM (2 ^ k) r) : r = 1 := h.o (pw k) (pw_pred k)
/-- the vote of one is more than half: it stands alone -/
theorem alone_of {T : Int} {k : Nat} {r1 r2 : Int} (h1 : PM (Builtin.bitAnd (2 ^ k) T) r1) (h2 : PM T r2) (hT : 0 ≤ T) (h : 2 * r1 > r2) : T = 2 ^ k := by
  rw [PySem.W.kbt_bit'] at h1
  have hr2 : 0 ≤ r2 := by
    by_cases z : T ≤ 0
    · exact Int.le_of_eq (h2.z z).symm
    · have h0 : 0 < T := by omega
      by_cases e : Builtin.bitAnd T (T - 1) = 0
      · rw [h2.o h0 e]; decide
      · have := and_pred T h0
        have := h2.m h0 (by omega); omega
  have hb : T / 2 ^ k % 2 = 0 ∨ T / 2 ^ k % 2 = 1 := by omega
  rcases hb with hb | hb
  · rw [hb, Int.zero_mul] at h1
    have := h1.z (Int.le_refl _); omega
  · rw [hb, Int.one_mul] at h1
    have e1 := h1.one
    have h0 : 0 < T := by
      by_cases z : T = 0
      · rw [z, Int.zero_ediv] at hb; omega
      · omega
    have e0 : Builtin.bitAnd T (T - 1) = 0 := by
      by_cases e : Builtin.bitAnd T (T - 1) = 0
      · exact e
      · have := and_pred T h0
        have := h2.m h0 (by omega); omega
    obtain ⟨n, rfl⟩ := Int.eq_ofNat_of_zero_le hT
    have hn : n ≠ 0 := by omega
    have e2 : n &&& (n - 1) = 0 := by
      rw [PyProof.Rows.bitAnd_pp (by omega) (by omega)] at e0
      have e3 : ((n : Int)).toNat = n := Int.toNat_natCast n
      have e4 : ((n : Int) - 1).toNat = n - 1 := by omega
      rw [e3, e4] at e0
      omega
    obtain ⟨j, rfl⟩ := (Nat.and_sub_one_eq_zero_iff_isPowerOfTwo hn).mp e2
    have e5 : (2 ^ j : Nat) / 2 ^ k % 2 = 1 := by
      have : (((2 ^ j : Nat) / 2 ^ k % 2 : Nat) : Int) = 1 := by
        push_cast
        push_cast at hb
        exact hb
      omega
    have e6 : (2 ^ j : Nat).testBit k = true := by
      rw [Nat.testBit_eq_decide_div_mod_eq, e5]; rfl
    rw [Nat.testBit_two_pow] at e6
    rw [of_decide_eq_true e6]
    push_cast; rfl
theorem circ_pow : ∀ k : Nat, k < 63 → circ ((2 : Int) ^ k) = [(k : Int)] := by decide +kernel
theorem decV0 (a b : Int) : decide (V.int a = V.int b) = decide (a = b) := by
  by_cases h : a = b
  · rw [decide_eq_true h, decide_eq_true (congrArg V.int h)]
  · rw [decide_eq_false h, decide_eq_false fun z => h (by injection z)]
theorem bit_off (S : Int) (k : Nat) : bit (Builtin.bitAnd S (Builtin.bitNot (1 * 2 ^ k))) (k : Int) = false := by
  unfold bit
  rw [decV0, PyProof.Rows.bitAnd_m1, Int.one_mul, PyProof.Rows.bitAnd_not, PySem.W.kbt_bit, Int.toNat_natCast]
  refine decide_eq_false ?_
  have : (S - S / 2 ^ k % 2 * 2 ^ k) / 2 ^ k = S / 2 ^ k - S / 2 ^ k % 2 := by
    rw [Int.sub_ediv_of_dvd _ (Int.dvd_mul_left _ _), Int.mul_ediv_cancel _ (Int.ne_of_gt (pw k))]
  rw [this]; omega
theorem bit_zero (k : Int) : bit 0 k = false := by
  unfold bit
  rw [Int.zero_ediv]; rfl
theorem or_zero_pow (k : Nat) : Builtin.bitOr 0 ((2 : Int) ^ k) = 2 ^ k := by
  rw [PyProof.Rows.bitOr_comm, PyProof.Rows.bitOr_and, PyProof.Rows.bitAnd_zero]; omega

end
end G
namespace G
open PySem PySem.Spec L2
open PyProof.Rows hiding St
section
variable {P : Program} {w : World} {K : PySem.W.Frag} {mg : Str → Option Value} {base : Heap} {CT : Addr × Addr}
/-! ### walks over a dict's pairs and keys; == of a list and [] -/
theorem for_items {d : Addr} {o : Obj} {kvs : List (Key × V)} {g : TG} {tb : TS} {D : Ends} {σ : St} {H : Hp} (Pv : Nat → St → Hp → Prop) (h0 : Pv 0 σ H) (hl : ∀ i σ H, Pv i σ H → H d = some (.frz o (.dK kvs)))
    (hs : ∀ i k v T σ H, kvs[i]? = some (k, v) → Pv i σ H → H T = none → g (.ref T) σ (upd H T (.tup [kV k, v])) fun σ2 H2 => tb { D with nx := Pv (i + 1), ct := Pv (i + 1), bk := D.nx } σ2 H2) (hd : ∀ σ H, Pv kvs.length σ H → D.nx σ H) :
    ∃ W : Nat → Nat → St → Hp → Prop, (∃ m, W 0 m σ H) ∧ ∀ i m σ H, W i m σ H →
      ((Iti d o kvs).stop i H ∧ D.nx σ H) ∨ ((Iti d o kvs).go i H ∧ ∃ N : St → Hp → Prop, (∀ σ' H', N σ' H' → ∃ m', m' < m ∧ W (i + 1) m' σ' H') ∧ ∀ x H', (Iti d o kvs).yld i H x H' → g x σ H' fun σ2 H2 => tb { D with nx := N, ct := N, bk := D.nx } σ2 H2) := by
  refine ⟨fun i m σ H => m = kvs.length - i ∧ i ≤ kvs.length ∧ Pv i σ H, ⟨kvs.length, rfl, Nat.zero_le _, h0⟩, ?_⟩
  rintro i m σ H ⟨rfl, hi, p⟩
  have q := hl i σ H p
  by_cases hlt : i < kvs.length
  · refine .inr ⟨⟨q, hlt⟩, Pv (i + 1), fun σ' H' p' => ⟨kvs.length - (i + 1), by omega, rfl, hlt, p'⟩, ?_⟩
    rintro x H' ⟨T, k, v, e, rfl, hT, rfl⟩
    exact hs i k v T σ H e p hT
  · have e : i = kvs.length := by omega
    subst e
    exact .inl ⟨⟨q, Nat.le_refl _⟩, hd σ H p⟩
theorem for_keys {d : Addr} {o : Obj} {kvs : List (Key × V)} {g : TG} {tb : TS} {D : Ends} {σ : St} {H : Hp} (Pv : Nat → St → Hp → Prop) (h0 : Pv 0 σ H) (hl : ∀ i σ H, Pv i σ H → H d = some (.frz o (.dK kvs)))
    (hs : ∀ i k v σ H, kvs[i]? = some (k, v) → Pv i σ H → g (kV k) σ H fun σ2 H2 => tb { D with nx := Pv (i + 1), ct := Pv (i + 1), bk := D.nx } σ2 H2) (hd : ∀ σ H, Pv kvs.length σ H → D.nx σ H) :
    ∃ W : Nat → Nat → St → Hp → Prop, (∃ m, W 0 m σ H) ∧ ∀ i m σ H, W i m σ H →
      ((Itk d o kvs).stop i H ∧ D.nx σ H) ∨ ((Itk d o kvs).go i H ∧ ∃ N : St → Hp → Prop, (∀ σ' H', N σ' H' → ∃ m', m' < m ∧ W (i + 1) m' σ' H') ∧ ∀ x H', (Itk d o kvs).yld i H x H' → g x σ H' fun σ2 H2 => tb { D with nx := N, ct := N, bk := D.nx } σ2 H2) := by
  refine ⟨fun i m σ H => m = kvs.length - i ∧ i ≤ kvs.length ∧ Pv i σ H, ⟨kvs.length, rfl, Nat.zero_le _, h0⟩, ?_⟩
  rintro i m σ H ⟨rfl, hi, p⟩
  have q := hl i σ H p
  by_cases hlt : i < kvs.length
  · refine .inr ⟨⟨q, hlt⟩, Pv (i + 1), fun σ' H' p' => ⟨kvs.length - (i + 1), by omega, rfl, hlt, p'⟩, ?_⟩
    rintro x H' ⟨rfl, k, v, e, rfl⟩
    exact hs i k v σ _ e p
  · have e : i = kvs.length := by omega
    subst e
    exact .inl ⟨⟨q, Nat.le_refl _⟩, hd σ H p⟩
def rEqNil (K : PySem.W.Frag) : R2 := fun x y H Q => ∃ a b xs, x = .ref a ∧ y = .ref b ∧ SqL K H a xs ∧ SqL K H b [] ∧ Q (.bl xs.isEmpty) H
theorem op_eqNil {X : Cx} (hu : X.A.units + 1 < cLine) : OpR X (compareOp .Eq) (rEqNil X.K) := by
  intro pins s σ H x y v u Q I rx ry h
  obtain ⟨a, b, xs, rfl, rfl, h1, h2, q⟩ := h
  obtain rfl : v = Value.ref a := rx
  obtain rfl : u = Value.ref b := ry
  obtain ⟨its, r1, p1, _⟩ := I.list h1
  obtain ⟨jts, r2, p2, _⟩ := I.list h2
  have l1 := r1.length
  have l2 := r2.length
  have hj : jts = [] := by cases jts with
    | nil => rfl
    | cons _ _ => cases l2
  subst hj
  cases xs with
  | nil =>
    have hi : its = [] := by cases its with
      | nil => rfl
      | cons _ _ => cases l1
    subst hi
    refine SeqAt.eq_listAt (e := fun _ => true) p1.isList p2.isList rfl (by omega) (fun j h1 _ => absurd h1 (Nat.not_lt_zero _)) ?_
    exact ⟨.bl true, H, I, rfl, q⟩
  | cons y ys =>
    cases its with
    | nil => cases l1
    | cons i is =>
      refine SeqAt.eq_list_lengthsAt p1.isList p2.isList (by simp) (by omega) ?_
      exact ⟨.bl false, H, I, rfl, q⟩
theorem same_lock {H : Hp} {d : Addr} {u : HO} {od : Obj} {H1 : Hp} (hd : H d = some u) (s : Same (upd H d (.frz od u)) H1) : Same H (upd H1 d u) := fun b o e => by
  by_cases hb : b = d
  · rw [hb, upd_same, ← hd, ← hb]; exact e
  · rw [upd_ne hb]; exact s b o (by rw [upd_ne hb]; exact e)
theorem kp_lock {H : Hp} {d : Addr} {u : HO} {od : Obj} {F : List Addr} {H1 : Hp} (hd : H d = some u) (s : Kp F (upd H d (.frz od u)) H1) : Kp F H (upd H1 d u) := fun b o e n => by
  by_cases hb : b = d
  · rw [hb, upd_same, ← hd, ← hb]; exact e
  · rw [upd_ne hb]; exact s b o (by rw [upd_ne hb]; exact e) n
theorem rd_lock {H : Hp} {a d : Addr} {u x : HO} {od : Obj} (hd : H d = some u) (h : Rd H a x) (hu : ∀ o z, u ≠ .frz o z) : Rd (upd H d (.frz od u)) a x := by
  by_cases hb : a = d
  · subst hb
    rcases h with h | ⟨o, h⟩
    · rw [hd] at h; cases h; exact .inr ⟨od, upd_same⟩
    · rw [hd] at h; exact absurd (Option.some.inj h) (hu _ _)
  · rcases h with h | ⟨o, h⟩
    · exact .inl (by rw [upd_ne hb]; exact h)
    · exact .inr ⟨o, by rw [upd_ne hb]; exact h⟩
theorem rd_same {H H1 : Hp} {a : Addr} {x : HO} (s : Same H H1) (h : Rd H a x) : Rd H1 a x := h.elim (fun h => .inl (s _ _ h)) fun ⟨o, h⟩ => .inr ⟨o, s _ _ h⟩
theorem rd_some {H : Hp} {a : Addr} {x : HO} (h : Rd H a x) : ∃ o, H a = some o := h.elim (fun h => ⟨_, h⟩) fun ⟨_, h⟩ => ⟨_, h⟩
/-! ### counts -/
theorem cs_small {cs : List Int} {kvs : Cn} (h : Cnt cs kvs) (hl : cs.length ≤ 100) : (encC kvs).length < sizeLine := by
  rw [len_enc]
  exact small1000 (Nat.le_trans h.len (by omega))
def spCountOf : Sp := fun vs H Q _ => ∃ a kvs c, vs = [.ref a, .int c] ∧ Rd H a (.dK (encC kvs)) ∧ Q (.int (cnt kvs c)) H
theorem ok_count_of (A : All P w K mg base CT) : DOk P w K mg base CX0 1 "count_of" ["counts", "hand"] [] spCountOf := by
  obtain ⟨fd, F⟩ := fu_count_of A.d
  refine ⟨_, fd, [], FunD.ok0 F sc_count_of (fun vs H Q E h => ?_) (fun cdv A0 outer s H vs Q E hr h => ?_), gl_count_of A.kin A.ns A.d, F.kp, F.bindsN fun _ _ _ _ _ _ us hl => match us, hl with | [_, _], _ => rfl, .nil⟩
  · obtain ⟨a, kvs, c, rfl, ha, k⟩ := h
    rfl
  · obtain ⟨a, kvs, c, rfl, ha, k⟩ := h
    have hu := hu_of hr
    refine ⟨_, pss_one (ps_ret (pe_dget2 hu (pv 0) (pv 1) pe_int ⟨rfl, rfl, rfl, rfl⟩)), ?_⟩
    refine ⟨_, rfl, a, rfl, .inl ⟨_, ha⟩, _, rfl, _, .inl ⟨encC kvs, .inl c, ha, rfl, rfl⟩, ?_⟩
    rw [cnt_enc]
    exact k
def coversB (one other : Cn) : Bool := other.all fun p => decide (p.2 ≤ cnt one p.1)
def spCovers : Sp := fun vs H Q _ => ∃ a b k1 k2, vs = [.ref a, .ref b] ∧ Rd H a (.dK (encC k1)) ∧ H b = some (.dK (encC k2)) ∧ ∀ H', Same H H' → Q (.bl (coversB k1 k2)) H'
theorem ok_covers (A : All P w K mg base CT) : DOk P w K mg base CX0 2 "covers" ["one", "other"] [] spCovers := by
  obtain ⟨fd, F⟩ := fu_covers A.d
  refine ⟨_, fd, [], FunD.ok0 F sc_covers (fun vs H Q E h => ?_) (fun cdv A0 outer s H vs Q E hr h => ?_), gl_covers A.kin A.ns A.d, F.kp, F.bindsN fun _ _ _ _ _ _ us hl => match us, hl with | [_, _], _ => rfl, .nil⟩
  · obtain ⟨a, b, k1, k2, rfl, ha, hb, k⟩ := h
    rfl
  · obtain ⟨a, b, k1, k2, rfl, ha, hb, k⟩ := h
    have hu := hu_of hr
    refine ⟨_, pss_cons (ps_lock (ps_for PassesOwn.never rfl (pi_items (pv 1)) (pg_tup rfl (pgs_cons (pg_name (i := 2) sc_covers.nd rfl (by first | exact Or.inl rfl | exact Or.inr rfl)) (pgs_cons (pg_name (i := 3) sc_covers.nd rfl (by first | exact Or.inl rfl | exact Or.inr rfl)) pgs_nil))) (pss_one (ps_if (pt_cmpR op_lt ((ok_count_of A).pe hr pass0 (pa_cons (pv 0) (pa_cons (pv 2) pa_nil))) (pv 3) (nomark _)) (pss_one (ps_ret pe_bl)) pss_nil))))
      (pss_one (ps_ret pe_bl)), ?_⟩
    refine ⟨b, _, hb, trivial, fun od => ⟨_, rfl, b, od, _, rfl, upd_same, for_items (fun i σ H1 => ∃ v3 v4, σ = [some (.ref a), some (.ref b), v3, v4] ∧ Same (upd H b (.frz od (.dK (encC k2)))) H1 ∧ coversB k1 (k2.take i) = true) ⟨none, none, rfl, Same.refl _, rfl⟩ (fun i σ H1 ⟨_, _, _, s1, _⟩ => s1 _ _ upd_same) ?_ ?_⟩⟩
    · rintro i key v T σ H1 e ⟨v3, v4, rfl, s1, hc⟩ hT
      unfold encC at e
      rw [List.getElem?_map] at e
      obtain ⟨⟨c, n⟩, e1, e2⟩ := Option.map_eq_some_iff.mp e
      cases e2
      have s2 := s1.trans (same_new (o := .tup [kV (Sum.inl c), V.int n]) hT)
      refine ⟨T, _, rfl, SqT.of upd_same, rfl, _, _, rfl, _, _, rfl, rfl, ?_⟩
      refine ⟨_, rfl, _, rfl, a, k1, c, rfl, rd_same s2 (rd_lock hb ha (fun _ _ z => nomatch z)), _, rfl, _, _, rfl, rfl, _, rfl, ?_⟩
      have hl : k2.take (i + 1) = k2.take i ++ [(c, n)] := by rw [List.take_add_one, e1]; rfl
      refine ite2 (fun hlt => ?_) (fun hlt => ?_)
      · refine ⟨s2 _ _ upd_same, ?_⟩
        have hf : coversB k1 k2 = false := by
          cases h : coversB k1 k2 with
          | false => rfl
          | true =>
            have h2 := of_decide_eq_true (List.all_eq_true.mp h (c, n) (List.mem_of_getElem? e1))
            have h3 := of_decide_eq_true hlt
            simp only at h2
            omega
        rw [← hf]
        exact k _ (same_lock hb s2)
      · refine ⟨_, _, rfl, s2, ?_⟩
        unfold coversB at hc ⊢
        rw [hl, List.all_append, hc]
        have h3 : ¬ cnt k1 c < n := fun z => hlt (decide_eq_true z)
        show (decide (n ≤ cnt k1 c) && true) = true
        rw [decide_eq_true (by omega)]; rfl
    · rintro σ H1 ⟨v3, v4, rfl, s1, hc⟩
      refine ⟨s1 _ _ upd_same, ?_⟩
      rw [len_enc, List.take_length] at hc
      have := k _ (same_lock hb s1)
      rw [hc] at this
      exact this
def spCoversName : Sp := fun vs H Q _ => ∃ a t k1 n c k, vs = [.ref a, .ref t] ∧ Rd H a (.dK (encC k1)) ∧ H t = some (.tup [.int n, .int c, .int k]) ∧ Q (.bl (decide (k ≤ cnt k1 c))) H
theorem ok_covers_name (A : All P w K mg base CT) : DOk P w K mg base CX0 2 "covers_name" ["counts", "name"] [] spCoversName := by
  obtain ⟨fd, F⟩ := fu_covers_name A.d
  refine ⟨_, fd, [], FunD.ok0 F sc_covers_name (fun vs H Q E h => ?_) (fun cdv A0 outer s H vs Q E hr h => ?_), gl_covers_name A.kin A.ns A.d, F.kp, F.bindsN fun _ _ _ _ _ _ us hl => match us, hl with | [_, _], _ => rfl, .nil⟩
  · obtain ⟨a, t, k1, n, c, k, rfl, ha, ht, q⟩ := h
    rfl
  · obtain ⟨a, t, k1, n, c, k, rfl, ha, ht, q⟩ := h
    have hu := hu_of hr
    refine ⟨_, pss_one (ps_ret (pe_cmpR op_ge ((ok_count_of A).pe hr pass0 (pa_cons (pv 0) (pa_cons (pe_ix ix_tup (pv 1) pe_int (fun _ _ => rfl)) pa_nil))) (pe_ix ix_tup (pv 1) pe_int (fun _ _ => rfl)) (nomark _))), ?_⟩
    exact ⟨_, rfl, _, rfl, _, _, _, _, rfl, rfl, SqT.of ht, rfl, a, k1, c, rfl, ha, _, rfl, _, _, _, _, rfl, rfl, SqT.of ht, rfl, _, _, rfl, rfl, q⟩

end
end G
namespace G
open PySem PySem.Spec L2
open PyProof.Rows hiding St
section
variable {P : Program} {w : World} {K : PySem.W.Frag} {mg : Str → Option Value} {base : Heap} {CT : Addr × Addr}
theorem same_set {H H1 : Hp} {d : Addr} {o : HO} (s : Same H H1) (h : H d = none) : Same H (upd H1 d o) := fun b u e => by
  rw [upd_ne (ne_of_none e h)]; exact s b u e
def PackAt (H : Hp) (t : Addr) (ps : List (Addr × Int × Int)) : Prop := H t = some (.tup (ps.map fun p => V.ref p.1)) ∧ ∀ p ∈ ps, H p.1 = some (.tup [.int p.2.1, .int p.2.2])
theorem PackAt.same {H H1 : Hp} {t : Addr} {ps : List (Addr × Int × Int)} (s : Same H H1) (h : PackAt H t ps) : PackAt H1 t ps := ⟨s _ _ h.1, fun p hp => s _ _ (h.2 p hp)⟩
theorem PackAt.ext {H H1 : Hp} {t : Addr} {ps : List (Addr × Int × Int)} (s : Ext H H1) (h : PackAt H t ps) : PackAt H1 t ps := ⟨s _ _ h.1 trivial, fun p hp => s _ _ (h.2 p hp) trivial⟩
def spUnpacked : Sp := fun vs H Q _ => ∃ t ps, vs = [.ref t] ∧ PackAt H t ps ∧ ps.length ≤ 1000 ∧ ∀ p H', H p = none → Same H H' → H' p = some (.dK (encC (mkC (ps.map (·.2))))) → Q (.ref p) H'
theorem mkC_len (l : Cn) : (mkC l).length ≤ l.length := by
  unfold mkC
  suffices h : ∀ (l f : Cn), (l.foldl (fun f p => putC f p.1 p.2) f).length ≤ f.length + l.length by
    have := h l []
    simpa using this
  intro l
  induction l with
  | nil => intro f; exact Nat.le_refl _
  | cons p r ih =>
    intro f
    rw [List.foldl_cons]
    have h1 := ih (putC f p.1 p.2)
    have h2 := putC_len f p.1 p.2
    rw [List.length_cons]
    omega
theorem ok_unpacked (A : All P w K mg base CT) : DOk P w K mg base CX0 1 "unpacked" ["pairs"] [] spUnpacked := by
  obtain ⟨fd, F⟩ := fu_unpacked A.d
  refine ⟨_, fd, [], FunD.ok0 F sc_unpacked (fun vs H Q E h => ?_) (fun cdv A0 outer s H vs Q E hr h => ?_), gl_unpacked A.kin A.ns A.d, F.kp, F.bindsN fun _ _ _ _ _ _ us hl => match us, hl with | [_], _ => rfl, .nil⟩
  · obtain ⟨t, ps, rfl, ht, hl, k⟩ := h
    rfl
  · obtain ⟨t, ps, rfl, ht, hl, k⟩ := h
    have hu := hu_of hr
    refine ⟨_, pss_cons (ps_set (i := 1) sc_unpacked.nd rfl (by first | exact Or.inl rfl | exact Or.inr rfl) pe_dnewK)
      (pss_cons (ps_for PassesOwn.never rfl (pi_tup (pv 0)) (pg_tup rfl (pgs_cons (pg_name (i := 2) sc_unpacked.nd rfl (by first | exact Or.inl rfl | exact Or.inr rfl)) (pgs_cons (pg_name (i := 3) sc_unpacked.nd rfl (by first | exact Or.inl rfl | exact Or.inr rfl)) pgs_nil))) (pss_one (ps_dput hu (pv 1) (pv 2) (pv 3) rfl)))
      (pss_one (ps_ret (pv 1)))), ?_⟩
    intro d hd
    have s0 : Same H (upd H d (.dK [])) := same_new hd
    refine ⟨_, rfl, t, rfl, ⟨_, SqT.of (s0 _ _ ht.1)⟩, for_tup (K := K) (a := t) (xs := ps.map fun p => V.ref p.1) (fun i σ H1 => ∃ v2 v3, σ = [some (.ref t), some (.ref d), v2, v3] ∧ Same H H1 ∧ H1 d = some (.dK (encC (mkC ((ps.map (·.2)).take i))))) ⟨none, none, rfl, s0, by rw [upd_same]; rfl⟩ (fun i σ H1 _ ⟨_, _, _, s1, _⟩ => SqT.of (s1 _ _ ht.1)) ?_ ?_⟩
    · rintro i x σ H1 hx ⟨v2, v3, rfl, s1, h1⟩
      rw [List.getElem?_map] at hx
      obtain ⟨p, ep, rfl⟩ := Option.map_eq_some_iff.mp hx
      have hp := s1 _ _ (ht.2 p (List.mem_of_getElem? ep))
      have e2 : (ps.map (·.2))[i]? = some (p.2.1, p.2.2) := by rw [List.getElem?_map, ep]; rfl
      have hsz : (encC (mkC ((ps.map (·.2)).take i))).length < sizeLine := by
        rw [len_enc]
        refine small1000 (Nat.le_trans (mkC_len _) ?_)
        rw [List.length_take, List.length_map]
        omega
      refine ⟨p.1, _, rfl, SqT.of hp, rfl, _, _, rfl, _, _, rfl, rfl, ?_⟩
      refine ⟨_, rfl, _, rfl, _, rfl, d, _, rfl, DPut.k (k := Sum.inl p.2.1) h1 hsz, _, _, rfl, same_set s1 hd, ?_⟩
      rw [upd_same, putK_enc, mkC_take_succ e2]
    · rintro σ H1 ⟨v2, v3, rfl, s1, h1⟩
      refine ⟨_, rfl, k d H1 hd s1 ?_⟩
      rw [h1, List.length_map, ← List.length_map (f := fun p : Addr × Int × Int => p.2), List.take_length]
theorem enc_keys (kvs : Cn) : (encC kvs).map (·.1) = (kvs.map (·.1)).map Sum.inl := by
  unfold encC
  rw [List.map_map, List.map_map]; rfl
theorem self_keys : ∀ {kvs : Cn}, (kvs.map (·.1)).Nodup → (kvs.map (·.1)).map (fun c => (c, cnt kvs c)) = kvs := by
  intro kvs nd
  rw [List.map_map]
  conv => rhs; rw [← List.map_id kvs]
  apply List.map_congr_left
  intro p hp
  show (p.1, cnt kvs p.1) = p
  unfold cnt
  rw [getC_of_mem (k := p.2) nd hp]
  rfl
def spPacked (cs : List Int) : Sp := fun vs H Q _ => ∃ a kvs, vs = [.ref a] ∧ Rd H a (.dK (encC kvs)) ∧ Cnt cs kvs ∧ cs.length ≤ 60 ∧ ∀ t ps H', H t = none → Same H H' → PackAt H' t ps → (ps.map (·.2)).Perm kvs → Q (.ref t) H'
theorem ok_packed (A : All P w K mg base CT) {cs : List Int}: DOk P w K mg base CX0 1 "packed" ["counts"] [] (spPacked cs) := by
  obtain ⟨fd, F⟩ := fu_packed A.d
  refine ⟨_, fd, [], FunD.ok0 F sc_packed (fun vs H Q E h => ?_) (fun cdv A0 outer s H vs Q E hr h => ?_), gl_packed A.kin A.ns A.d, F.kp, F.bindsN fun _ _ _ _ _ _ us hl => match us, hl with | [_], _ => rfl, .nil⟩
  · obtain ⟨a, kvs, rfl, ha, hc, hl, k⟩ := h
    rfl
  · obtain ⟨a, kvs, rfl, ha, hc, hl, k⟩ := h
    have hu := hu_of hr
    refine ⟨_, pss_one (ps_ret (pe_callTy (call_tuple_of) (by rfl) (fr_tuple A.kin A.ns A.d) (by decide +kernel) (pa_cons (pe_lc (own := [("hand", 1)]) (g := gName 1) rfl sc_packed.nd (pi_list (pe_callB (call_sortedDI rfl) (by rfl) (fr_sorted A.kin A.ns A.d) (by decide +kernel) (pa_cons (pv 0) pa_nil))) (blkOk_by (N := ["counts", "hand"]) (sc := defScope s_packed) (by decide +kernel)) (fun _ _ _ _ _ => pg_name (i := 1) sc_packed.nd rfl (Or.inl rfl)) (fun _ _ _ _ _ => (pts_one (pt_cmpR op_gt (pe_dget hu (pv 0) (pv 1) (fun _ _ => rfl)) pe_int (nomark _)))) (fun _ _ _ _ _ => (pe_tup (pa_cons (pv 1) (pa_cons (pe_dget hu (pv 0) (pv 1) (fun _ _ => rfl)) pa_nil))))) pa_nil))), ?_⟩
    have l60 : (kvs.map (·.1)).length < 64 := by
      rw [List.length_map]
      have := hc.len
      omega
    refine ⟨_, rfl, a, encC kvs, kvs.map (·.1), rfl, ha, enc_keys kvs, l60, fun ys p0 hp _ h0 => ?_⟩
    have s0 : Same H (upd H p0 (.lst (ys.map V.int))) := same_new h0
    have hyl : ys.length < 64 := by rw [hp.length_eq]; exact l60
    refine ⟨p0, rfl, ⟨_, SqL.of upd_same⟩, fun D hD => ?_⟩
    have hDH : H D = none := s0.free hD
    have hne : p0 ≠ D := fun z => by rw [z, upd_same] at hD; cases hD
    refine lc_list (K := K) (a := p0) (xs := ys.map V.int) (fun i H1 => Same H H1 ∧ H1 p0 = some (.lst (ys.map V.int)) ∧ ∃ ps : List (Addr × Int × Int), H1 D = some (.lst (ps.map fun p => V.ref p.1)) ∧ (∀ p ∈ ps, H1 p.1 = some (.tup [.int p.2.1, .int p.2.2])) ∧ ps.map (·.2) = (ys.take i).map fun c => (c, cnt kvs c)) ⟨same_set s0 hDH, by rw [upd_ne hne, upd_same], [], upd_same, fun _ h => (nomatch h), rfl⟩ (fun i H1 _ ⟨_, h1, _⟩ => SqL.of h1) ?_ ?_
    · rintro i x H1 hx ⟨s1, h1, ps, h2, h3, h4⟩
      rw [List.getElem?_map] at hx
      obtain ⟨c, ec, rfl⟩ := Option.map_eq_some_iff.mp hx
      have hm : c ∈ kvs.map (·.1) := hp.mem_iff.mp (List.mem_of_getElem? ec)
      have hi : i < ys.length := (List.getElem?_eq_some_iff.mp ec).1
      obtain ⟨q, hq, eq⟩ := List.mem_map.mp hm
      have eg : getC kvs c = some (cnt kvs c) := by
        have e := getC_of_mem (c := q.1) (k := q.2) hc.nd hq
        rw [eq] at e
        unfold cnt
        rw [e]; rfl
      have hpos : 1 ≤ cnt kvs c := by
        have e := hc.pos _ (getC_mem eg)
        exact e
      have dg : ∀ H2, Same H H2 → DGet H2 a (.int c) (some (.int (cnt kvs c))) := fun H2 s2 => .inl ⟨encC kvs, .inl c, rd_same s2 ha, rfl, by rw [valV_enc, eg]; rfl⟩
      refine ⟨rfl, _, rfl, _, rfl, a, _, rfl, dg _ s1, _, _, rfl, rfl, _, rfl, ?_⟩
      rw [decide_eq_true (show 0 < cnt kvs c by omega)]
      refine iteT ⟨_, rfl, _, rfl, _, rfl, a, _, rfl, dg _ s1, (by show 2 ≤ sizeLine; decide), fun T hT => ?_⟩
      have hDT : D ≠ T := ne_of_none h2 hT
      have s2 : Same H1 (upd H1 T (.tup [.int c, .int (cnt kvs c)])) := same_new hT
      have hps : ps.length = i := by
        have := congrArg List.length h4
        rw [List.length_map, List.length_map, List.length_take] at this
        omega
      refine ⟨_, s2 _ _ h2, by rw [List.length_map, hps]; exact small1000 (by omega), same_set (s1.trans s2) hDH, by rw [upd_ne hne]; exact s2 _ _ h1, ps ++ [(T, c, cnt kvs c)], ?_, ?_, ?_⟩
      · rw [upd_same, List.map_append]; rfl
      · intro p hp2
        have hpD : p.1 ≠ D → upd (upd H1 T (.tup [.int c, .int (cnt kvs c)])) D (.lst (ps.map (fun p => V.ref p.1) ++ [.ref T])) p.1 = upd H1 T (.tup [.int c, .int (cnt kvs c)]) p.1 := fun z => upd_ne z
        rcases List.mem_append.mp hp2 with hp2 | hp2
        · have e := h3 p hp2
          rw [hpD (ne_of e h2 (by intro z; cases z))]
          exact s2 _ _ e
        · have e := List.mem_singleton.mp hp2
          subst e
          rw [hpD hDT.symm]
          exact upd_same
      · rw [List.map_append, h4, List.take_add_one, ec]
        show _ = List.map _ (ys.take i ++ [c])
        rw [List.map_append]; rfl
    · rintro H1 ⟨s1, h1, ps, h2, h3, h4⟩
      rw [List.length_map, List.take_length] at h4
      refine ⟨D, _, rfl, .inl ⟨SqL.of h2, fun t ht => ?_⟩⟩
      have s2 : Same H1 (upd H1 t (.tup (ps.map fun p => V.ref p.1))) := same_new ht
      refine k t ps _ (s1.free ht) (s1.trans s2) ⟨upd_same, fun p hp2 => s2 _ _ (h3 p hp2)⟩ ?_
      rw [h4]
      conv => rhs; rw [← self_keys hc.nd]
      exact hp.map _

end
end G
namespace G
open PySem PySem.Spec L2
open PyProof.Rows hiding St
section
variable {P : Program} {w : World} {K : PySem.W.Frag} {mg : Str → Option Value} {base : Heap} {CT : Addr × Addr}
def spJoined (cs : List Int) : Sp := fun vs H Q _ => ∃ a b k1 k2, vs = [.ref a, .ref b] ∧ H a = some (.dK (encC k1)) ∧ H b = some (.dK (encC k2)) ∧ Cnt cs k1 ∧ Cnt cs k2 ∧ cs.length ≤ 60 ∧
  ∀ p kv H', H p = none → Same H H' → H' p = some (.dK (encC kv)) → Cnt cs kv → (∀ c, cnt kv c = max (cnt k1 c) (cnt k2 c)) → Q (.ref p) H'
def tgtJ (k1 k2 : Cn) (i : Nat) (c : Int) : Int := match i with
  | 0 => 0
  | 1 => cnt k1 c
  | _ => max (cnt k1 c) (cnt k2 c)
theorem notin1 {a b : Addr} (h : a ≠ b) : a ∉ [b] := fun z => h (List.mem_singleton.mp z)
theorem ok_joined (A : All P w K mg base CT) {cs : List Int}: DOk P w K mg base CX0 2 "joined" ["one", "other"] [] (spJoined cs) := by
  obtain ⟨fd, F⟩ := fu_joined A.d
  refine ⟨_, fd, [], FunD.ok0 F sc_joined (fun vs H Q E h => ?_) (fun cdv A0 outer s H vs Q E hr h => ?_), gl_joined A.kin A.ns A.d, F.kp, F.bindsN fun _ _ _ _ _ _ us hl => match us, hl with | [_, _], _ => rfl, .nil⟩
  · obtain ⟨a, b, k1, k2, rfl, ha, hb, c1, c2, hl, k⟩ := h
    rfl
  · obtain ⟨a, b, k1, k2, rfl, ha, hb, c1, c2, hl, k⟩ := h
    have hu := hu_of hr
    refine ⟨_, pss_cons (ps_set (i := 2) sc_joined.nd rfl (by first | exact Or.inl rfl | exact Or.inr rfl) pe_dnewK)
      (pss_cons (ps_for PassesOwn.never rfl (pi_list (pe_lst (pa_cons (pv 0) (pa_cons (pv 1) pa_nil)))) (pg_name (i := 3) sc_joined.nd rfl (by first | exact Or.inl rfl | exact Or.inr rfl)) (pss_one (ps_lock (ps_for PassesOwn.never rfl (pi_items (pv 3)) (pg_tup rfl (pgs_cons (pg_name (i := 4) sc_joined.nd rfl (by first | exact Or.inl rfl | exact Or.inr rfl)) (pgs_cons (pg_name (i := 5) sc_joined.nd rfl (by first | exact Or.inl rfl | exact Or.inr rfl)) pgs_nil))) (pss_one (ps_if (pt_cmpR op_gt (pv 5) ((ok_count_of A).pe hr pass0 (pa_cons (pv 2) (pa_cons (pv 4) pa_nil))) (nomark _)) (pss_one (ps_dput hu (pv 2) (pv 4) (pv 5) rfl)) pss_nil))))))
      (pss_one (ps_ret (pv 2)))), ?_⟩
    intro f hf
    have naf : a ≠ f := ne_of_none ha hf
    have nbf : b ≠ f := ne_of_none hb hf
    have s0 : Same H (upd H f (.dK [])) := same_new hf
    refine ⟨_, rfl, _, rfl, (by show 2 ≤ sizeLine; decide), fun l0 hl0 => ?_⟩
    have hl0H : H l0 = none := s0.free hl0
    have nfl : f ≠ l0 := ne_of_none (upd_same) hl0
    refine ⟨l0, rfl, ⟨_, SqL.of upd_same⟩, for_list (K := K) (a := l0) (xs := [V.ref a, V.ref b]) (fun i σ H1 => ∃ v3 v4 v5 fk, σ = [some (.ref a), some (.ref b), some (.ref f), v3, v4, v5] ∧ Same H H1 ∧ H1 l0 = some (.lst [.ref a, .ref b]) ∧ H1 f = some (.dK (encC fk)) ∧ Cnt cs fk ∧ ∀ c, cnt fk c = tgtJ k1 k2 i c) ⟨none, none, none, [], rfl, same_set s0 hl0H, upd_same, by rw [upd_ne nfl, upd_same]; rfl, Cnt.nil, fun _ => rfl⟩ (fun i σ H1 _ ⟨_, _, _, _, _, _, h, _⟩ => SqL.of h) ?_ ?_⟩
    · rintro i x σ H1 hx ⟨v3, v4, v5, fk, rfl, s1, h1, h2, hck, ht⟩
      have key : ∃ d kc, x = V.ref d ∧ H d = some (.dK (encC kc)) ∧ Cnt cs kc ∧ ∀ c, tgtJ k1 k2 (i + 1) c = max (tgtJ k1 k2 i c) (cnt kc c) := by
        match i, hx with
        | 0, hx =>
          cases hx
          refine ⟨a, k1, rfl, ha, c1, fun c => ?_⟩
          have := c1.nonneg c
          show cnt k1 c = max 0 (cnt k1 c)
          omega
        | 1, hx =>
          cases hx
          exact ⟨b, k2, rfl, hb, c2, fun c => rfl⟩
        | n + 2, hx => cases hx
      obtain ⟨d, kc, rfl, hd, cc, he⟩ := key
      have ndf : d ≠ f := ne_of_none hd hf
      have hd1 := s1 _ _ hd
      refine ⟨d, _, hd1, trivial, fun od => ⟨_, rfl, d, od, _, rfl, upd_same, for_items (fun j σ H2 => ∃ v4 v5 fk', σ = [some (.ref a), some (.ref b), some (.ref f), some (.ref d), v4, v5] ∧ Kp [f] (upd H1 d (.frz od (.dK (encC kc)))) H2 ∧ H2 f = some (.dK (encC fk')) ∧ Cnt cs fk' ∧ ∀ c, cnt fk' c = max (cnt fk c) (cnt (kc.take j) c)) ⟨v4, v5, fk, rfl, Kp.refl, by rw [upd_ne ndf.symm]; exact h2, hck, fun c => ?_⟩ (fun j σ H2 ⟨_, _, _, _, kp, _⟩ => kp _ _ upd_same (notin1 ndf)) ?_ ?_⟩⟩
      · have := hck.nonneg c
        show cnt fk c = max (cnt fk c) 0
        omega
      · rintro j key v T σ H2 e ⟨v4, v5, fk', rfl, kp, hf2, cf, hm⟩ hT
        unfold encC at e
        rw [List.getElem?_map] at e
        obtain ⟨⟨c0, n⟩, e1, e2⟩ := Option.map_eq_some_iff.mp e
        cases e2
        have nfT : f ≠ T := ne_of_none hf2 hT
        have hfT : upd H2 T (.tup [kV (Sum.inl c0), V.int n]) f = some (.dK (encC fk')) := by rw [upd_ne nfT]; exact hf2
        have hmem := List.mem_of_getElem? e1
        have hn1 : 1 ≤ n := cc.pos _ hmem
        have t0 := cnt_take_self cc.nd e1
        have ts := cnt_take_succ cc.nd e1
        refine ⟨T, _, rfl, SqT.of upd_same, rfl, _, _, rfl, _, _, rfl, rfl, ?_⟩
        refine ⟨_, rfl, _, rfl, _, rfl, f, fk', c0, rfl, .inl hfT, _, _, rfl, rfl, _, rfl, ?_⟩
        have kp2 : Kp [f] (upd H1 d (.frz od (.dK (encC kc)))) (upd H2 T (.tup [kV (Sum.inl c0), V.int n])) := kp.new hT
        refine ite2 (fun hlt => ?_) (fun hlt => ?_)
        · have hlt' := of_decide_eq_true hlt
          refine ⟨_, rfl, _, rfl, _, rfl, f, _, rfl, DPut.k (k := Sum.inl c0) hfT (cs_small cf (by omega)), _, _, putC fk' c0 n, rfl, kp2.upd List.mem_cons_self, ?_, cf.put (cc.cs _ hmem) hn1, fun c => ?_⟩
          · rw [upd_same, putK_enc]
          · rw [cnt_put, ts]
            have h3 := hm c
            have h4 := hm c0
            by_cases hc : c = c0
            · rw [if_pos hc, if_pos hc, hc]; rw [t0] at h4; omega
            · rw [if_neg hc, if_neg hc]; exact h3
        · have hlt' : ¬ cnt fk' c0 < n := fun z => hlt (decide_eq_true z)
          refine ⟨_, _, fk', rfl, kp2, hfT, cf, fun c => ?_⟩
          rw [ts]
          have h3 := hm c
          have h4 := hm c0
          by_cases hc : c = c0
          · rw [if_pos hc, hc]; rw [t0] at h4; omega
          · rw [if_neg hc]; exact h3
      · rintro σ H2 ⟨v4, v5, fk', rfl, kp, hf2, cf, hm⟩
        have kp3 : Kp [f] H1 (upd H2 d (.dK (encC kc))) := kp_lock hd1 kp
        have nle : l0 ≠ f := fun z => nfl z.symm
        refine ⟨kp _ _ upd_same (notin1 ndf), _, _, _, fk', rfl, fun b' o e' => ?_, kp3 _ _ h1 (notin1 nle), by rw [upd_ne ndf.symm]; exact hf2, cf, fun c => ?_⟩
        · exact kp3 _ _ (s1 _ _ e') (notin1 (ne_of_none e' hf))
        · rw [hm c, len_enc, List.take_length, he c, ht c]
    · rintro σ H1 ⟨v3, v4, v5, fk, rfl, s1, h1, h2, hck, ht⟩
      exact ⟨_, rfl, k f fk H1 hf s1 h2 hck ht⟩

end
end G
namespace G
open PySem PySem.Spec L2
open PyProof.Rows hiding St
section
variable {P : Program} {w : World} {K : PySem.W.Frag} {mg : Str → Option Value} {base : Heap} {CT : Addr × Addr}
def spCommon (K : PySem.W.Frag) (cs : List Int) : Sp := fun vs H Q _ => ∃ (l : Addr) (L : List (Addr × Cn)), vs = [.ref l] ∧ H l = some (.lst (L.map fun e => V.ref e.1)) ∧ (∀ e ∈ L, H e.1 = some (.dK (encC e.2)) ∧ Cnt cs e.2) ∧ L.length ≤ 100 ∧ cs.length ≤ 60 ∧
  ∀ p fl H', H p = none → Same H H' → H' p = some (.dK (encC fl)) → Cnt cs fl → (∀ c k, 1 ≤ k → (k ≤ cnt fl c ↔ L ≠ [] ∧ ∀ e ∈ L, k ≤ cnt e.2 c)) → Q (.ref p) H'
theorem ok_common (A : All P w K mg base CT) {cs : List Int}: DOk P w K mg base CX0 2 "common" ["some"] [] (spCommon K cs) := by
  obtain ⟨fd, F⟩ := fu_common A.d
  refine ⟨_, fd, [], FunD.ok0 F sc_common (fun vs H Q E h => ?_) (fun cdv A0 outer s H vs Q E hr h => ?_), gl_common A.kin A.ns A.d, F.kp, F.bindsN fun _ _ _ _ _ _ us hl => match us, hl with | [_], _ => rfl, .nil⟩
  · obtain ⟨l, L, rfl, hls, hL, hLl, hcl, k⟩ := h
    rfl
  · obtain ⟨l, L, rfl, hls, hL, hLl, hcl, k⟩ := h
    have hu := hu_of hr
    refine ⟨_, pss_cons (ps_set (i := 1) sc_common.nd rfl (by first | exact Or.inl rfl | exact Or.inr rfl) pe_dnewK)
      (pss_cons (ps_if (pt_cmpR (op_eqNil hu) (pv 0) (pe_lst pa_nil) (nomark _)) (pss_one (ps_ret (pv 1))) pss_nil)
      (pss_cons (ps_lock (ps_for PassesOwn.never rfl (pi_keys (pe_ix ix_list (pv 0) pe_int (fun _ _ => rfl))) (pg_name (i := 2) sc_common.nd rfl (by first | exact Or.inl rfl | exact Or.inr rfl)) (pss_cons (ps_set (i := 3) sc_common.nd rfl (by first | exact Or.inl rfl | exact Or.inr rfl) (pe_callB (cr_min rfl) (by rfl) (fr_min A.kin A.ns A.d) (by decide +kernel) (pa_cons (pe_lc (own := [("counts", 4)]) (g := gName 4) (tt := tYes) rfl sc_common.nd (pi_list (pv 0)) (blkOk_by (N := ["some", "found", "hand", "many", "counts"]) (sc := defScope s_common) (by decide +kernel)) (fun _ _ _ _ _ => pg_name (i := 4) sc_common.nd rfl (Or.inl rfl)) (fun _ _ _ _ _ => pts_nil) (fun _ _ _ _ _ => ((ok_count_of A).pe hr pass0 (pa_cons (pv 4) (pa_cons (pv 2) pa_nil))))) pa_nil))) (pss_one (ps_if (pt_cmpR op_gt (pv 3) pe_int (nomark _)) (pss_one (ps_dput hu (pv 1) (pv 2) (pv 3) rfl)) pss_nil)))))
      (pss_one (ps_ret (pv 1))))), ?_⟩
    intro f hf
    have s0 : Same H (upd H f (.dK [])) := same_new hf
    refine ⟨_, rfl, Nat.zero_le _, fun q hq => ⟨l, q, _, rfl, rfl, SqL.of (same_new2 s0 hq _ _ hls), SqL.of upd_same, _, rfl, ?_⟩⟩
    have s1 : Same H (upd (upd H f (.dK [])) q (.lst [])) := same_new2 s0 hq
    have hqf : f ≠ q := ne_of_none upd_same hq
    generalize hH1 : upd (upd H f (.dK [])) q (.lst []) = H1 at s1 ⊢
    have h1f : H1 f = some (.dK []) := by rw [← hH1, upd_ne hqf, upd_same]
    cases L with
    | nil => exact iteT ⟨_, rfl, k f [] H1 hf s1 h1f Cnt.nil fun c m hm => ⟨fun z => by rw [cnt_nil] at z; omega, fun z => absurd rfl z.1⟩⟩
    | cons e0 L0 =>
      refine iteF ?_
      obtain ⟨hd, c0⟩ := hL e0 List.mem_cons_self
      have hd1 := s1 _ _ hd
      have hl1 := s1 _ _ hls
      have ndf : e0.1 ≠ f := ne_of_none hd hf
      have nlf : l ≠ f := ne_of_none hls hf
      have nld : l ≠ e0.1 := ne_of hls hd (by intro z; cases z)
      have rdE : ∀ (od : Obj) (H2 : Hp), Kp [f] (upd H1 e0.1 (.frz od (.dK (encC e0.2)))) H2 → ∀ e ∈ e0 :: L0, Rd H2 e.1 (.dK (encC e.2)) := fun od H2 kp e he => by
        have he1 := s1 _ _ (hL e he).1
        have nef : e.1 ≠ f := ne_of_none (hL e he).1 hf
        rcases rd_lock hd1 (od := od) (.inl he1) (fun _ _ z => nomatch z) with h | ⟨o, h⟩
        · exact .inl (kp _ _ h (notin1 nef))
        · exact .inr ⟨o, kp _ _ h (notin1 nef)⟩
      refine ⟨e0.1, _, hd1, trivial, fun od => ⟨_, rfl, l, _, 0, .ref e0.1, rfl, rfl, SqL.of (by rw [upd_ne nld]; exact hl1), atI_nat (j := 0) rfl, e0.1, od, rfl, .inl ⟨_, upd_same, for_keys (fun j σ H2 => ∃ v2 v3 v4 fl, σ = [some (.ref l), some (.ref f), v2, v3, v4] ∧ Kp [f] (upd H1 e0.1 (.frz od (.dK (encC e0.2)))) H2 ∧ H2 f = some (.dK (encC fl)) ∧ Cnt cs fl ∧ ∀ c m, 1 ≤ m → (m ≤ cnt fl c ↔ c ∈ (e0.2.take j).map (·.1) ∧ ∀ e ∈ e0 :: L0, m ≤ cnt e.2 c)) ⟨none, none, none, [], rfl, Kp.refl, by rw [upd_ne ndf.symm]; exact h1f, Cnt.nil, fun c m hm => ⟨fun z => by rw [cnt_nil] at z; omega, fun z => (nomatch z.1)⟩⟩ (fun j σ H2 ⟨_, _, _, _, _, kp, _⟩ => kp _ _ upd_same (notin1 ndf)) ?_ ?_⟩⟩⟩
      · rintro j key v σ H2 e ⟨v2, v3, v4, fl, rfl, kp, hf2, cf, hm⟩
        unfold encC at e
        rw [List.getElem?_map] at e
        obtain ⟨⟨cj, n⟩, e1, e2⟩ := Option.map_eq_some_iff.mp e
        cases e2
        have hl2 : H2 l = some (.lst ((e0 :: L0).map fun e => V.ref e.1)) := kp _ _ (by rw [upd_ne nld]; exact hl1) (notin1 nlf)
        refine ⟨_, rfl, l, rfl, ⟨_, SqL.of hl2⟩, fun D hD => ?_⟩
        have nlD : l ≠ D := ne_of_none hl2 hD
        refine lc_list (K := K) (a := l) (xs := (e0 :: L0).map fun e => V.ref e.1) (fun i H3 => Same H2 H3 ∧ H3 D = some (.lst ((((e0 :: L0).take i).map fun e => cnt e.2 cj).map V.int))) ⟨same_new hD, upd_same⟩ (fun i H3 _ ⟨s3, _⟩ => SqL.of (s3 _ _ hl2)) ?_ ?_
        · rintro i x H3 hx ⟨s3, h3⟩
          rw [List.getElem?_map] at hx
          obtain ⟨e, ee, rfl⟩ := Option.map_eq_some_iff.mp hx
          have hi : i < (e0 :: L0).length := (List.getElem?_eq_some_iff.mp ee).1
          refine ⟨rfl, _, rfl, _, rfl, e.1, e.2, cj, rfl, rd_same s3 (rdE od H2 kp e (List.mem_of_getElem? ee)), _, h3, ?_, same_set s3 hD, ?_⟩
          · rw [List.length_map, List.length_map, List.length_take]
            exact small1000 (by omega)
          · rw [upd_same, List.take_add_one, ee]
            show _ = some (HO.lst (((((e0 :: L0).take i) ++ [e]).map fun e => cnt e.2 cj).map V.int))
            rw [List.map_append, List.map_append]; rfl
        · rintro H3 ⟨s3, h3⟩
          rw [List.length_map, List.take_length] at h3
          refine ⟨D, _, rfl, SqL.of h3, by simp, fun m hm1 hm2 => ⟨_, rfl, _, _, rfl, rfl, _, rfl, ?_⟩⟩
          have kp3 : Kp [f] (upd H1 e0.1 (.frz od (.dK (encC e0.2)))) H3 := kp.trans (Kp.of s3)
          have hall : ∀ z, (z ≤ m ↔ ∀ e ∈ e0 :: L0, z ≤ cnt e.2 cj) := fun z => ⟨fun hz e he => Int.le_trans hz (hm2 _ (List.mem_map.mpr ⟨e, he, rfl⟩)), fun hz => by
            obtain ⟨e, he, ee⟩ := List.mem_map.mp hm1
            rw [← ee]; exact hz e he⟩
          have hkeys : ∀ c, c ∈ (e0.2.take (j + 1)).map (·.1) ↔ c ∈ (e0.2.take j).map (·.1) ∨ c = cj := fun c => by
            rw [List.take_add_one, e1]
            show c ∈ ((e0.2.take j) ++ [(cj, n)]).map (·.1) ↔ _
            rw [List.map_append, List.mem_append]
            exact or_congr Iff.rfl List.mem_singleton
          have hf3 := s3 _ _ hf2
          refine ite2 (fun hlt => ?_) (fun hlt => ?_)
          · have hlt' : 0 < m := of_decide_eq_true hlt
            refine ⟨_, rfl, _, rfl, _, rfl, f, _, rfl, DPut.k (k := Sum.inl cj) hf3 (cs_small cf (by omega)), _, _, _, putC fl cj m, rfl, kp3.upd List.mem_cons_self, by rw [upd_same, putK_enc], cf.put (c0.cs _ (List.mem_of_getElem? e1)) (by omega), fun c z hz => ?_⟩
            rw [cnt_put, hkeys]
            by_cases hc : c = cj
            · rw [if_pos hc, hc, hall]
              exact ⟨fun h => ⟨.inr rfl, h⟩, fun h => h.2⟩
            · rw [if_neg hc, hm c z hz]
              exact ⟨fun h => ⟨.inl h.1, h.2⟩, fun h => ⟨h.1.resolve_right hc, h.2⟩⟩
          · have hlt' : ¬ 0 < m := fun z => hlt (decide_eq_true z)
            refine ⟨_, _, _, fl, rfl, kp3, hf3, cf, fun c z hz => ?_⟩
            rw [hkeys]
            by_cases hc : c = cj
            · rw [hm c z hz, hc]
              refine ⟨fun h => ⟨.inl h.1, h.2⟩, fun h => ?_⟩
              have := (hall z).mpr h.2
              omega
            · rw [hm c z hz]
              exact ⟨fun h => ⟨.inl h.1, h.2⟩, fun h => ⟨h.1.resolve_right hc, h.2⟩⟩
      · rintro σ H2 ⟨v2, v3, v4, fl, rfl, kp, hf2, cf, hm⟩
        have kp3 : Kp [f] H1 (upd H2 e0.1 (.dK (encC e0.2))) := kp_lock hd1 kp
        refine ⟨kp _ _ upd_same (notin1 ndf), _, rfl, k f fl _ hf (fun b' o e' => kp3 _ _ (s1 _ _ e') (notin1 (ne_of_none e' hf))) (by rw [upd_ne ndf.symm]; exact hf2) cf fun c z hz => ?_⟩
        rw [hm c z hz, len_enc, List.take_length]
        refine ⟨fun h => ⟨List.cons_ne_nil _ _, h.2⟩, fun h => ⟨?_, h.2⟩⟩
        have h1 := h.2 e0 List.mem_cons_self
        unfold cnt at h1
        cases e : getC e0.2 c with
        | none => rw [e] at h1; exact absurd h1 (by show ¬ z ≤ 0; omega)
        | some y => exact List.mem_map.mpr ⟨_, getC_mem e, rfl⟩

end
end G
namespace G
open PySem PySem.Spec L2
open PyProof.Rows hiding St
section
variable {P : Program} {w : World} {K : PySem.W.Frag} {mg : Str → Option Value} {base : Heap} {CT : Addr × Addr}
/-! ### calls -/
inductive Kd where
  | own | heard | one
def kdS : Kd → Str
  | .own => "own"
  | .heard => "heard"
  | .one => "one"
def kdC (K : PySem.W.Frag) : Kd → Addr
  | .own => He.ga K "OwnCall"
  | .heard => He.ga K "HeardCall"
  | .one => He.ga K "OneCall"
theorem cl_kd (d : He.SaysD fa fn K) : ∀ kd, Cls K (kdC K kd)
  | .own => cl_OwnCall d
  | .heard => cl_HeardCall d
  | .one => cl_OneCall d
structure Cd where
  n : Int
  c : Int
  k : Int
  w : Int
  kd : Kd
  z : Addr
  zs : List (Addr × Int × Int)
def callFs (n c k w : Int) (z : Addr) : List (Str × V) := [("number", .int n), ("caller", .int c), ("count", .int k), ("word", .int w), ("causes", .ref z)]
def CallAt (K : PySem.W.Frag) (H : Hp) (a : Addr) (d : Cd) : Prop := (∃ dx, H a = some (.ins (kdC K d.kd) dx (callFs d.n d.c d.k d.w d.z))) ∧ PackAt H d.z d.zs
theorem CallAt.same {H H1 : Hp} {a : Addr} {d : Cd} (s : Same H H1) (h : CallAt K H a d) : CallAt K H1 a d := ⟨h.1.elim fun dx e => ⟨dx, s _ _ e⟩, h.2.same s⟩
theorem CallAt.ext {H H1 : Hp} {a : Addr} {d : Cd} (s : Ext H H1) (h : CallAt K H a d) : CallAt K H1 a d := ⟨h.1.elim fun dx e => ⟨dx, s _ _ e rfl⟩, h.2.ext s⟩
theorem look_number {n c k w : Int} {z : Addr} : (callFs n c k w z).lookup ("number" : Str) = some (.int n) := by kernel_rfl
theorem look_caller {n c k w : Int} {z : Addr} : (callFs n c k w z).lookup ("caller" : Str) = some (.int c) := by kernel_rfl
theorem look_count {n c k w : Int} {z : Addr} : (callFs n c k w z).lookup ("count" : Str) = some (.int k) := by kernel_rfl
theorem look_word {n c k w : Int} {z : Addr} : (callFs n c k w z).lookup ("word" : Str) = some (.int w) := by kernel_rfl
theorem look_causes {n c k w : Int} {z : Addr} : (callFs n c k w z).lookup ("causes" : Str) = some (.ref z) := by kernel_rfl
theorem no_kd_number (d : He.SaysD fa fn K) : ∀ kd, NoAttr K (kdC K kd) "number"
  | .own => no_OwnCall_number d
  | .heard => no_HeardCall_number d
  | .one => no_OneCall_number d
theorem no_kd_caller (d : He.SaysD fa fn K) : ∀ kd, NoAttr K (kdC K kd) "caller"
  | .own => no_OwnCall_caller d
  | .heard => no_HeardCall_caller d
  | .one => no_OneCall_caller d
theorem no_kd_count (d : He.SaysD fa fn K) : ∀ kd, NoAttr K (kdC K kd) "count"
  | .own => no_OwnCall_count d
  | .heard => no_HeardCall_count d
  | .one => no_OneCall_count d
theorem no_kd_word (d : He.SaysD fa fn K) : ∀ kd, NoAttr K (kdC K kd) "word"
  | .own => no_OwnCall_word d
  | .heard => no_HeardCall_word d
  | .one => no_OneCall_word d
theorem no_kd_causes (d : He.SaysD fa fn K) : ∀ kd, NoAttr K (kdC K kd) "causes"
  | .own => no_OwnCall_causes d
  | .heard => no_HeardCall_causes d
  | .one => no_OneCall_causes d
/-- a field of a call of any class -/
def tCf (K : PySem.W.Frag) (g : Cd → V) (te : TE) : TE := fun σ H Q => te σ H fun x H1 => ∃ a d, x = .ref a ∧ CallAt K H1 a d ∧ Q (g d) H1
theorem pe_cf {X : Cx} {e : Expr} {f : Str} {g : Cd → V} {t : TE} {pos : Pos} (c : ∀ kd, Cls X.K (kdC X.K kd)) (n : ∀ kd, NoAttr X.K (kdC X.K kd) f) (l : ∀ d : Cd, (callFs d.n d.c d.k d.w d.z).lookup f = some (g d)) (he : PE X e t)
    (hb : attributeBase e f X.env (eval e X.env) = eval e X.env := by rfl) : PE X (.Attribute e f pos) (tCf X.K g t) := by
  refine ⟨fun pins s σ H Q I h => ?_⟩
  refine attr_of hb (thn (he.run pins s σ H _ I h) fun u s1 ⟨x, H1, I1, rx, a, d, ex, ⟨⟨dx, ea⟩, _⟩, q⟩ => ?_)
  subst ex
  obtain rfl : u = Value.ref a := rx
  exact getattr_ok I1 ea (c d.kd) (n d.kd) (l d) fun u' s2 I2 ru => ⟨g d, H1, I2, ru, q⟩
/-- a method of a call of any class -/
def M3 (P : Program) (w : World) (K : PySem.W.Frag) (mg : Str → Option Value) (base : Heap) (k : Nat) (m : Str) (ps : List Str) (sp : Kd → Sp) : Prop := ∀ kd, MOk P w K mg base CX0 k (kdC K kd) m ps [] (sp kd)
def tM3 (K : PySem.W.Frag) (m : Str) (sp : Kd → Sp) (ta : TE) (t : TA) : TE := fun σ H Q => ta σ H fun x H1 => ∃ a dx kd n c k w z, x = .ref a ∧ H1 a = some (.ins (kdC K kd) dx (callFs n c k w z)) ∧ (callFs n c k w z).lookup m = none ∧ t σ H1 fun vs H2 => sp kd (x :: vs) H2 Q E0
section
variable {X : Cx} {k j : Nat} {m : Str} {ps : List Str} {sp : Kd → Sp} {pos apos : Pos} {o e : Expr} {es : List Expr} {ta : TE} {t : TA}
theorem M3.pe {pl : Sem Bool} (D : M3 X.prog X.w X.K X.mg X.base k m ps sp) (hr : Room j X.A) (ho : PE X o ta) (ha : PA X (e :: es) t) (hk : k ≤ j := by decide)
    (hst : starEach (e :: es) X.env = (false, eval e X.env) :: starEach es X.env := by rfl) (hpl : (backTo pos (starEach es X.env)).any (·.1) = false := by rfl)
    (ht : eval (.Call (.Attribute o m apos) (e :: es) [] pos) X.env = (do
      let ov ← eval o X.env
      standAt apos.atName
      let (f, first) ← holding [ov] (getMethod ov m pl)
      callWith pos f first (backTo pos (starEach (e :: es) X.env)) (backToKw pos (keywordEach [] X.env))) := by rfl) :
    PE X (.Call (.Attribute o m apos) (e :: es) [] pos) (tM3 X.K m sp ta t) := by
  refine ⟨fun pins s σ H Q I h => ?_⟩
  refine PySem.W.methodCall_KW (pl := pl) (thn (ho.run pins s σ H _ I h) fun u s1 ⟨x, H1, I1, rx, a, dx, kd, n, c, k, w, z, ex, ea, l, q⟩ => ?_) ht
  subst ex
  obtain rfl : u = Value.ref a := rx
  obtain ⟨f, fd, ds, F, hm, b, v⟩ := (D kd).ok
  refine getmeth_ok I1 ea (D kd).cl hm l ?_
  refine PySem.W.callWith_K (first := [.ref a]) (h₀ := X.base) I.ok.mod.kin hm.kp (thn (ha.run pos pins s1 σ H1 _ I1 q) fun us s2 ⟨vs, H2, I2, r, q2⟩ => ⟨I2.kIn, ?_⟩) hst hpl
  exact run_fn (us := .ref a :: us) (vs := .ref a :: vs) F (hr.mono hk) b v pass0 I2 (.cons rfl r) (by rw [List.append_nil]; exact q2)
theorem M3.pe0 {pl : Sem Bool} (D : M3 X.prog X.w X.K X.mg X.base k m ps sp) (hr : Room j X.A) (ho : PE X o ta) (hk : k ≤ j := by decide)
    (ht : eval (.Call (.Attribute o m apos) [] [] pos) X.env = (do
      let ov ← eval o X.env
      standAt apos.atName
      let (f, first) ← holding [ov] (getMethod ov m pl)
      callWith pos f first (backTo pos (starEach [] X.env)) (backToKw pos (keywordEach [] X.env))) := by rfl) :
    PE X (.Call (.Attribute o m apos) [] [] pos) (tM3 X.K m sp ta tNil) := by
  refine ⟨fun pins s σ H Q I h => ?_⟩
  refine PySem.W.methodCall_KW (pl := pl) (thn (ho.run pins s σ H _ I h) fun u s1 ⟨x, H1, I1, rx, a, dx, kd, n, c, k, w, z, ex, ea, l, q⟩ => ?_) ht
  subst ex
  obtain rfl : u = Value.ref a := rx
  obtain ⟨f, fd, ds, F, hm, b, v⟩ := (D kd).ok
  refine getmeth_ok I1 ea (D kd).cl hm l ?_
  exact PySem.W.callWith_K0 (first := [.ref a]) I1.kIn hm.kp (run_fn (us := [.ref a]) (vs := [.ref a]) F (hr.mono hk) b v pass0 I1 (.cons rfl .nil) q)
end
theorem decV (a b : Int) : decide (V.int a = V.int b) = decide (a = b) := by
  by_cases h : a = b
  · rw [h, decide_eq_true rfl, decide_eq_true rfl]
  · rw [decide_eq_false h, decide_eq_false fun z => h (V.int.inj z)]
def spInRow : Sp := fun vs H Q _ => ∃ a kvs c k, vs = [.ref a, .int c, .int k] ∧ Rd H a (.dK (encC kvs)) ∧ Q (.bl (decide (cnt kvs c = k - 1))) H
theorem ok_in_row (A : All P w K mg base CT) : DOk P w K mg base CX0 2 "in_row" ["counts", "caller", "count"] [] spInRow := by
  obtain ⟨fd, F⟩ := fu_in_row A.d
  refine ⟨_, fd, [], FunD.ok0 F sc_in_row (fun vs H Q E h => ?_) (fun cdv A0 outer s H vs Q E hr h => ?_), gl_in_row A.kin A.ns A.d, F.kp, F.bindsN fun _ _ _ _ _ _ us hl => match us, hl with | [_, _, _], _ => rfl, .nil⟩
  · obtain ⟨a, kvs, c, k, rfl, ha, q⟩ := h
    rfl
  · obtain ⟨a, kvs, c, k, rfl, ha, q⟩ := h
    have hu := hu_of hr
    refine ⟨_, pss_one (ps_ret (pe_cmpR op_eq ((ok_count_of A).pe hr pass0 (pa_cons (pv 0) (pa_cons (pv 1) pa_nil))) (pe_op op_sub (pv 2) pe_int) (nomark _))), ?_⟩
    refine ⟨_, rfl, _, rfl, a, kvs, c, rfl, ha, _, rfl, _, _, rfl, rfl, rfl, ?_⟩
    rw [decV]
    exact q
def spCallInit (C : Addr) : Sp := fun vs H Q _ => ∃ p dx n c k w z, vs = [.ref p, .int n, .int c, .int k, .int w, .ref z] ∧ H p = some (.ins C dx []) ∧ Q .non (upd H p (.ins C dx (callFs n c k w z)))
theorem callFs_eq {n c k w : Int} {z : Addr} : putF "causes" (.ref z) (putF "word" (.int w) (putF "count" (.int k) (putF "caller" (.int c) (putF "number" (.int n) [])))) = callFs n c k w z := by kernel_rfl
theorem putF_len (f : Str) (v : V) (fs : List (Str × V)) {m : Nat} (h : fs.length < m) (hm : m < 1000) : (putF f v fs).length < m + 1 ∧ m + 1 ≤ 1000 := by
  have := length_putF f v fs
  omega
theorem mk_ok_OwnCall (A : All P w K mg base CT) : KOk P w K mg base CX0 1 "OwnCall" (He.ga K "OwnCall") ["self", "number", "caller", "count", "word", "causes"] [] (spCallInit (He.ga K "OwnCall")) := by
  obtain ⟨fd, F⟩ := fu_OwnCall_init A.d
  refine ⟨_, fd, [], FunD.ok0 F sc_Call_init (fun vs H Q E h => ?_) (fun cdv A0 outer s H vs Q E hr h => ?_), mk_OwnCall A.d, gl_OwnCall A.kin A.ns A.d, F.bindsN fun _ _ _ _ _ _ us hl => match us, hl with | [_, _, _, _, _, _], _ => rfl, .nil⟩
  · obtain ⟨p, dx, n, c, k, w, z, rfl, hp, q⟩ := h
    rfl
  · obtain ⟨p, dx, n, c, k, w, z, rfl, hp, q⟩ := h
    have hu := hu_of hr
    refine ⟨_, pss_cons (ps_fld (pv 0) (pv 1) rfl)
      (pss_cons (ps_fld (pv 0) (pv 2) rfl)
      (pss_cons (ps_fld (pv 0) (pv 3) rfl)
      (pss_cons (ps_fld (pv 0) (pv 4) rfl)
      (pss_one (ps_fld (pv 0) (pv 5) rfl))))), ?_⟩
    have l1 := putF_len "number" (.int n) [] (m := 1) (by decide) (by decide)
    have l2 := putF_len "caller" (.int c) _ l1.1 (by decide)
    have l3 := putF_len "count" (.int k) _ l2.1 (by decide)
    have l4 := putF_len "word" (.int w) _ l3.1 (by decide)
    refine ⟨_, rfl, _, rfl, p, _, dx, _, rfl, hp, cl_OwnCall A.d, no_OwnCall_number A.d, by decide, ?_⟩
    refine ⟨_, rfl, _, rfl, p, _, dx, _, rfl, upd_same, cl_OwnCall A.d, no_OwnCall_caller A.d, by have := l1.1; omega, ?_⟩
    refine ⟨_, rfl, _, rfl, p, _, dx, _, rfl, upd_same, cl_OwnCall A.d, no_OwnCall_count A.d, by have := l2.1; omega, ?_⟩
    refine ⟨_, rfl, _, rfl, p, _, dx, _, rfl, upd_same, cl_OwnCall A.d, no_OwnCall_word A.d, by have := l3.1; omega, ?_⟩
    refine ⟨_, rfl, _, rfl, p, _, dx, _, rfl, upd_same, cl_OwnCall A.d, no_OwnCall_causes A.d, by have := l4.1; omega, ?_⟩
    show Q .non _
    rw [upd_upd, upd_upd, upd_upd, upd_upd, callFs_eq]
    exact q
theorem mk_ok_HeardCall (A : All P w K mg base CT) : KOk P w K mg base CX0 1 "HeardCall" (He.ga K "HeardCall") ["self", "number", "caller", "count", "word", "causes"] [] (spCallInit (He.ga K "HeardCall")) := by
  obtain ⟨fd, F⟩ := fu_HeardCall_init A.d
  refine ⟨_, fd, [], FunD.ok0 F sc_Call_init (fun vs H Q E h => ?_) (fun cdv A0 outer s H vs Q E hr h => ?_), mk_HeardCall A.d, gl_HeardCall A.kin A.ns A.d, F.bindsN fun _ _ _ _ _ _ us hl => match us, hl with | [_, _, _, _, _, _], _ => rfl, .nil⟩
  · obtain ⟨p, dx, n, c, k, w, z, rfl, hp, q⟩ := h
    rfl
  · obtain ⟨p, dx, n, c, k, w, z, rfl, hp, q⟩ := h
    have hu := hu_of hr
    refine ⟨_, pss_cons (ps_fld (pv 0) (pv 1) rfl)
      (pss_cons (ps_fld (pv 0) (pv 2) rfl)
      (pss_cons (ps_fld (pv 0) (pv 3) rfl)
      (pss_cons (ps_fld (pv 0) (pv 4) rfl)
      (pss_one (ps_fld (pv 0) (pv 5) rfl))))), ?_⟩
    have l1 := putF_len "number" (.int n) [] (m := 1) (by decide) (by decide)
    have l2 := putF_len "caller" (.int c) _ l1.1 (by decide)
    have l3 := putF_len "count" (.int k) _ l2.1 (by decide)
    have l4 := putF_len "word" (.int w) _ l3.1 (by decide)
    refine ⟨_, rfl, _, rfl, p, _, dx, _, rfl, hp, cl_HeardCall A.d, no_HeardCall_number A.d, by decide, ?_⟩
    refine ⟨_, rfl, _, rfl, p, _, dx, _, rfl, upd_same, cl_HeardCall A.d, no_HeardCall_caller A.d, by have := l1.1; omega, ?_⟩
    refine ⟨_, rfl, _, rfl, p, _, dx, _, rfl, upd_same, cl_HeardCall A.d, no_HeardCall_count A.d, by have := l2.1; omega, ?_⟩
    refine ⟨_, rfl, _, rfl, p, _, dx, _, rfl, upd_same, cl_HeardCall A.d, no_HeardCall_word A.d, by have := l3.1; omega, ?_⟩
    refine ⟨_, rfl, _, rfl, p, _, dx, _, rfl, upd_same, cl_HeardCall A.d, no_HeardCall_causes A.d, by have := l4.1; omega, ?_⟩
    show Q .non _
    rw [upd_upd, upd_upd, upd_upd, upd_upd, callFs_eq]
    exact q
theorem mk_ok_OneCall (A : All P w K mg base CT) : KOk P w K mg base CX0 1 "OneCall" (He.ga K "OneCall") ["self", "number", "caller", "count", "word", "causes"] [] (spCallInit (He.ga K "OneCall")) := by
  obtain ⟨fd, F⟩ := fu_OneCall_init A.d
  refine ⟨_, fd, [], FunD.ok0 F sc_Call_init (fun vs H Q E h => ?_) (fun cdv A0 outer s H vs Q E hr h => ?_), mk_OneCall A.d, gl_OneCall A.kin A.ns A.d, F.bindsN fun _ _ _ _ _ _ us hl => match us, hl with | [_, _, _, _, _, _], _ => rfl, .nil⟩
  · obtain ⟨p, dx, n, c, k, w, z, rfl, hp, q⟩ := h
    rfl
  · obtain ⟨p, dx, n, c, k, w, z, rfl, hp, q⟩ := h
    have hu := hu_of hr
    refine ⟨_, pss_cons (ps_fld (pv 0) (pv 1) rfl)
      (pss_cons (ps_fld (pv 0) (pv 2) rfl)
      (pss_cons (ps_fld (pv 0) (pv 3) rfl)
      (pss_cons (ps_fld (pv 0) (pv 4) rfl)
      (pss_one (ps_fld (pv 0) (pv 5) rfl))))), ?_⟩
    have l1 := putF_len "number" (.int n) [] (m := 1) (by decide) (by decide)
    have l2 := putF_len "caller" (.int c) _ l1.1 (by decide)
    have l3 := putF_len "count" (.int k) _ l2.1 (by decide)
    have l4 := putF_len "word" (.int w) _ l3.1 (by decide)
    refine ⟨_, rfl, _, rfl, p, _, dx, _, rfl, hp, cl_OneCall A.d, no_OneCall_number A.d, by decide, ?_⟩
    refine ⟨_, rfl, _, rfl, p, _, dx, _, rfl, upd_same, cl_OneCall A.d, no_OneCall_caller A.d, by have := l1.1; omega, ?_⟩
    refine ⟨_, rfl, _, rfl, p, _, dx, _, rfl, upd_same, cl_OneCall A.d, no_OneCall_count A.d, by have := l2.1; omega, ?_⟩
    refine ⟨_, rfl, _, rfl, p, _, dx, _, rfl, upd_same, cl_OneCall A.d, no_OneCall_word A.d, by have := l3.1; omega, ?_⟩
    refine ⟨_, rfl, _, rfl, p, _, dx, _, rfl, upd_same, cl_OneCall A.d, no_OneCall_causes A.d, by have := l4.1; omega, ?_⟩
    show Q .non _
    rw [upd_upd, upd_upd, upd_upd, upd_upd, callFs_eq]
    exact q

end
end G
namespace G
open PySem PySem.Spec L2
open PyProof.Rows hiding St
section
variable {P : Program} {w : World} {K : PySem.W.Frag} {mg : Str → Option Value} {base : Heap} {CT : Addr × Addr}
section
variable {X : Cx} {e : Expr} {t : TE} {pos : Pos}
theorem cf_number (d : He.SaysD fa fn X.K) (he : PE X e t) (hb : attributeBase e "number" X.env (eval e X.env) = eval e X.env := by rfl) : PE X (.Attribute e "number" pos) (tCf X.K (fun d => .int d.n) t) := pe_cf (cl_kd d) (no_kd_number d) (fun _ => look_number) he hb
theorem cf_caller (d : He.SaysD fa fn X.K) (he : PE X e t) (hb : attributeBase e "caller" X.env (eval e X.env) = eval e X.env := by rfl) : PE X (.Attribute e "caller" pos) (tCf X.K (fun d => .int d.c) t) := pe_cf (cl_kd d) (no_kd_caller d) (fun _ => look_caller) he hb
theorem cf_count (d : He.SaysD fa fn X.K) (he : PE X e t) (hb : attributeBase e "count" X.env (eval e X.env) = eval e X.env := by rfl) : PE X (.Attribute e "count" pos) (tCf X.K (fun d => .int d.k) t) := pe_cf (cl_kd d) (no_kd_count d) (fun _ => look_count) he hb
theorem cf_word (d : He.SaysD fa fn X.K) (he : PE X e t) (hb : attributeBase e "word" X.env (eval e X.env) = eval e X.env := by rfl) : PE X (.Attribute e "word" pos) (tCf X.K (fun d => .int d.w) t) := pe_cf (cl_kd d) (no_kd_word d) (fun _ => look_word) he hb
theorem cf_causes (d : He.SaysD fa fn X.K) (he : PE X e t) (hb : attributeBase e "causes" X.env (eval e X.env) = eval e X.env := by rfl) : PE X (.Attribute e "causes" pos) (tCf X.K (fun d => .ref d.z) t) := pe_cf (cl_kd d) (no_kd_causes d) (fun _ => look_causes) he hb
end
/-- the name of a call -/
def nmV (x : Nm) : List V := [.int x.1, .int x.2.1, .int x.2.2]
def Cd.nm (d : Cd) : Nm := (d.n, d.c, d.k)
def spName (K : PySem.W.Frag) (kd : Kd) : Sp := fun vs H Q _ => ∃ a d, vs = [.ref a] ∧ CallAt K H a d ∧ ∀ t H', H t = none → Same H H' → H' t = some (.tup (nmV d.nm)) → Q (.ref t) H'
theorem ok_OwnCall_name (A : All P w K mg base CT) : MOk P w K mg base CX0 1 (He.ga K "OwnCall") "name" ["self"] [] (spName K .own) := by
  obtain ⟨fd, F⟩ := fu_OwnCall_name A.d
  refine ⟨cl_OwnCall A.d, _, fd, [], FunD.ok0 F sc_Call_name (fun vs H Q E h => ?_) (fun cdv A0 outer s H vs Q E hr h => ?_), me_OwnCall_name A.d, F.bindsN fun _ _ _ _ _ _ us hl => match us, hl with | [_], _ => rfl, .nil⟩
  · obtain ⟨a, d, rfl, ha, k⟩ := h
    rfl
  · obtain ⟨a, d, rfl, ha, k⟩ := h
    have hu := hu_of hr
    refine ⟨_, pss_one (ps_ret (pe_tup (pa_cons (cf_number A.d (pv 0)) (pa_cons (cf_caller A.d (pv 0)) (pa_cons (cf_count A.d (pv 0)) pa_nil))))), ?_⟩
    exact ⟨_, rfl, a, d, rfl, ha, _, rfl, a, d, rfl, ha, _, rfl, a, d, rfl, ha, (by show 3 ≤ sizeLine; decide), fun t ht => k t _ ht (same_new ht) upd_same⟩
theorem ok_HeardCall_name (A : All P w K mg base CT) : MOk P w K mg base CX0 1 (He.ga K "HeardCall") "name" ["self"] [] (spName K .heard) := by
  obtain ⟨fd, F⟩ := fu_HeardCall_name A.d
  refine ⟨cl_HeardCall A.d, _, fd, [], FunD.ok0 F sc_Call_name (fun vs H Q E h => ?_) (fun cdv A0 outer s H vs Q E hr h => ?_), me_HeardCall_name A.d, F.bindsN fun _ _ _ _ _ _ us hl => match us, hl with | [_], _ => rfl, .nil⟩
  · obtain ⟨a, d, rfl, ha, k⟩ := h
    rfl
  · obtain ⟨a, d, rfl, ha, k⟩ := h
    have hu := hu_of hr
    refine ⟨_, pss_one (ps_ret (pe_tup (pa_cons (cf_number A.d (pv 0)) (pa_cons (cf_caller A.d (pv 0)) (pa_cons (cf_count A.d (pv 0)) pa_nil))))), ?_⟩
    exact ⟨_, rfl, a, d, rfl, ha, _, rfl, a, d, rfl, ha, _, rfl, a, d, rfl, ha, (by show 3 ≤ sizeLine; decide), fun t ht => k t _ ht (same_new ht) upd_same⟩
theorem ok_OneCall_name (A : All P w K mg base CT) : MOk P w K mg base CX0 1 (He.ga K "OneCall") "name" ["self"] [] (spName K .one) := by
  obtain ⟨fd, F⟩ := fu_OneCall_name A.d
  refine ⟨cl_OneCall A.d, _, fd, [], FunD.ok0 F sc_Call_name (fun vs H Q E h => ?_) (fun cdv A0 outer s H vs Q E hr h => ?_), me_OneCall_name A.d, F.bindsN fun _ _ _ _ _ _ us hl => match us, hl with | [_], _ => rfl, .nil⟩
  · obtain ⟨a, d, rfl, ha, k⟩ := h
    rfl
  · obtain ⟨a, d, rfl, ha, k⟩ := h
    have hu := hu_of hr
    refine ⟨_, pss_one (ps_ret (pe_tup (pa_cons (cf_number A.d (pv 0)) (pa_cons (cf_caller A.d (pv 0)) (pa_cons (cf_count A.d (pv 0)) pa_nil))))), ?_⟩
    exact ⟨_, rfl, a, d, rfl, ha, _, rfl, a, d, rfl, ha, _, rfl, a, d, rfl, ha, (by show 3 ≤ sizeLine; decide), fun t ht => k t _ ht (same_new ht) upd_same⟩
theorem ok_call_name (A : All P w K mg base CT) : M3 P w K mg base 1 "name" ["self"] (spName K)
  | .own => ok_OwnCall_name A
  | .heard => ok_HeardCall_name A
  | .one => ok_OneCall_name A
def spKind (kd : Kd) : Sp := fun vs H Q _ => ∃ a, vs = [.ref a] ∧ Q (.str (kdS kd)) H
theorem ok_OwnCall_kind (A : All P w K mg base CT) : MOk P w K mg base CX0 1 (He.ga K "OwnCall") "kind" ["self"] [] (spKind .own) := by
  obtain ⟨fd, F⟩ := fu_OwnCall_kind A.d
  refine ⟨cl_OwnCall A.d, _, fd, [], FunD.ok0 F sc_OwnCall_kind (fun vs H Q E h => ?_) (fun cdv A0 outer s H vs Q E hr h => ?_), me_OwnCall_kind A.d, F.bindsN fun _ _ _ _ _ _ us hl => match us, hl with | [_], _ => rfl, .nil⟩
  · obtain ⟨a, rfl, k⟩ := h
    rfl
  · obtain ⟨a, rfl, k⟩ := h
    have hu := hu_of hr
    refine ⟨_, pss_one (ps_ret pe_str), ?_⟩
    exact k
theorem ok_HeardCall_kind (A : All P w K mg base CT) : MOk P w K mg base CX0 1 (He.ga K "HeardCall") "kind" ["self"] [] (spKind .heard) := by
  obtain ⟨fd, F⟩ := fu_HeardCall_kind A.d
  refine ⟨cl_HeardCall A.d, _, fd, [], FunD.ok0 F sc_HeardCall_kind (fun vs H Q E h => ?_) (fun cdv A0 outer s H vs Q E hr h => ?_), me_HeardCall_kind A.d, F.bindsN fun _ _ _ _ _ _ us hl => match us, hl with | [_], _ => rfl, .nil⟩
  · obtain ⟨a, rfl, k⟩ := h
    rfl
  · obtain ⟨a, rfl, k⟩ := h
    have hu := hu_of hr
    refine ⟨_, pss_one (ps_ret pe_str), ?_⟩
    exact k
theorem ok_OneCall_kind (A : All P w K mg base CT) : MOk P w K mg base CX0 1 (He.ga K "OneCall") "kind" ["self"] [] (spKind .one) := by
  obtain ⟨fd, F⟩ := fu_OneCall_kind A.d
  refine ⟨cl_OneCall A.d, _, fd, [], FunD.ok0 F sc_OneCall_kind (fun vs H Q E h => ?_) (fun cdv A0 outer s H vs Q E hr h => ?_), me_OneCall_kind A.d, F.bindsN fun _ _ _ _ _ _ us hl => match us, hl with | [_], _ => rfl, .nil⟩
  · obtain ⟨a, rfl, k⟩ := h
    rfl
  · obtain ⟨a, rfl, k⟩ := h
    have hu := hu_of hr
    refine ⟨_, pss_one (ps_ret pe_str), ?_⟩
    exact k
def isOne : Kd → Bool
  | .one => true
  | _ => false
def spAsksPlace (kd : Kd) : Sp := fun vs H Q _ => ∃ a, vs = [.ref a] ∧ Q (.bl (isOne kd)) H
theorem ok_OwnCall_asks_place (A : All P w K mg base CT) : MOk P w K mg base CX0 1 (He.ga K "OwnCall") "asks_place" ["self"] [] (spAsksPlace .own) := by
  obtain ⟨fd, F⟩ := fu_OwnCall_asks_place A.d
  refine ⟨cl_OwnCall A.d, _, fd, [], FunD.ok0 F sc_Call_asks_place (fun vs H Q E h => ?_) (fun cdv A0 outer s H vs Q E hr h => ?_), me_OwnCall_asks_place A.d, F.bindsN fun _ _ _ _ _ _ us hl => match us, hl with | [_], _ => rfl, .nil⟩
  · obtain ⟨a, rfl, k⟩ := h
    rfl
  · obtain ⟨a, rfl, k⟩ := h
    have hu := hu_of hr
    refine ⟨_, pss_one (ps_ret pe_bl), ?_⟩
    exact k
theorem ok_HeardCall_asks_place (A : All P w K mg base CT) : MOk P w K mg base CX0 1 (He.ga K "HeardCall") "asks_place" ["self"] [] (spAsksPlace .heard) := by
  obtain ⟨fd, F⟩ := fu_HeardCall_asks_place A.d
  refine ⟨cl_HeardCall A.d, _, fd, [], FunD.ok0 F sc_Call_asks_place (fun vs H Q E h => ?_) (fun cdv A0 outer s H vs Q E hr h => ?_), me_HeardCall_asks_place A.d, F.bindsN fun _ _ _ _ _ _ us hl => match us, hl with | [_], _ => rfl, .nil⟩
  · obtain ⟨a, rfl, k⟩ := h
    rfl
  · obtain ⟨a, rfl, k⟩ := h
    have hu := hu_of hr
    refine ⟨_, pss_one (ps_ret pe_bl), ?_⟩
    exact k
theorem ok_OneCall_asks_place (A : All P w K mg base CT) : MOk P w K mg base CX0 1 (He.ga K "OneCall") "asks_place" ["self"] [] (spAsksPlace .one) := by
  obtain ⟨fd, F⟩ := fu_OneCall_asks_place A.d
  refine ⟨cl_OneCall A.d, _, fd, [], FunD.ok0 F sc_OneCall_asks_place (fun vs H Q E h => ?_) (fun cdv A0 outer s H vs Q E hr h => ?_), me_OneCall_asks_place A.d, F.bindsN fun _ _ _ _ _ _ us hl => match us, hl with | [_], _ => rfl, .nil⟩
  · obtain ⟨a, rfl, k⟩ := h
    rfl
  · obtain ⟨a, rfl, k⟩ := h
    have hu := hu_of hr
    refine ⟨_, pss_one (ps_ret pe_bl), ?_⟩
    exact k
theorem ok_call_asks_place (A : All P w K mg base CT) : M3 P w K mg base 1 "asks_place" ["self"] spAsksPlace
  | .own => ok_OwnCall_asks_place A
  | .heard => ok_HeardCall_asks_place A
  | .one => ok_OneCall_asks_place A
/-- a call as it is told -/
def ToldV (d : Cd) : List V := [.int d.n, .int d.c, .int d.k, .str (kdS d.kd), .int d.w, .ref d.z]
def spTold (K : PySem.W.Frag) (kd : Kd) : Sp := fun vs H Q _ => ∃ a d, vs = [.ref a] ∧ CallAt K H a d ∧ d.kd = kd ∧ ∀ t H', H t = none → Same H H' → H' t = some (.tup (ToldV d)) → Q (.ref t) H'
theorem ok_OwnCall_told (A : All P w K mg base CT) : MOk P w K mg base CX0 2 (He.ga K "OwnCall") "told" ["self"] [] (spTold K .own) := by
  obtain ⟨fd, F⟩ := fu_OwnCall_told A.d
  refine ⟨cl_OwnCall A.d, _, fd, [], FunD.ok0 F sc_Call_told (fun vs H Q E h => ?_) (fun cdv A0 outer s H vs Q E hr h => ?_), me_OwnCall_told A.d, F.bindsN fun _ _ _ _ _ _ us hl => match us, hl with | [_], _ => rfl, .nil⟩
  · obtain ⟨a, d, rfl, ha, hk, k⟩ := h
    rfl
  · obtain ⟨a, d, rfl, ha, hk, k⟩ := h
    have hu := hu_of hr
    refine ⟨_, pss_one (ps_ret (pe_tup (pa_cons (cf_number A.d (pv 0)) (pa_cons (cf_caller A.d (pv 0)) (pa_cons (cf_count A.d (pv 0)) (pa_cons ((ok_OwnCall_kind A).pe0 hr pass0 (pv 0)) (pa_cons (cf_word A.d (pv 0)) (pa_cons (cf_causes A.d (pv 0)) pa_nil)))))))), ?_⟩
    obtain ⟨⟨dx, h1⟩, h2⟩ := id ha
    rw [hk] at h1
    refine ⟨_, rfl, a, d, rfl, ha, _, rfl, a, d, rfl, ha, _, rfl, a, d, rfl, ha, _, rfl, a, dx, _, rfl, h1, by kernel_rfl, a, rfl, ?_⟩
    refine ⟨_, rfl, a, d, rfl, ha, _, rfl, a, d, rfl, ha, (by show 6 ≤ sizeLine; decide), fun t ht => k t _ ht (same_new ht) ?_⟩
    rw [upd_same, ToldV, hk]
theorem ok_HeardCall_told (A : All P w K mg base CT) : MOk P w K mg base CX0 2 (He.ga K "HeardCall") "told" ["self"] [] (spTold K .heard) := by
  obtain ⟨fd, F⟩ := fu_HeardCall_told A.d
  refine ⟨cl_HeardCall A.d, _, fd, [], FunD.ok0 F sc_Call_told (fun vs H Q E h => ?_) (fun cdv A0 outer s H vs Q E hr h => ?_), me_HeardCall_told A.d, F.bindsN fun _ _ _ _ _ _ us hl => match us, hl with | [_], _ => rfl, .nil⟩
  · obtain ⟨a, d, rfl, ha, hk, k⟩ := h
    rfl
  · obtain ⟨a, d, rfl, ha, hk, k⟩ := h
    have hu := hu_of hr
    refine ⟨_, pss_one (ps_ret (pe_tup (pa_cons (cf_number A.d (pv 0)) (pa_cons (cf_caller A.d (pv 0)) (pa_cons (cf_count A.d (pv 0)) (pa_cons ((ok_HeardCall_kind A).pe0 hr pass0 (pv 0)) (pa_cons (cf_word A.d (pv 0)) (pa_cons (cf_causes A.d (pv 0)) pa_nil)))))))), ?_⟩
    obtain ⟨⟨dx, h1⟩, h2⟩ := id ha
    rw [hk] at h1
    refine ⟨_, rfl, a, d, rfl, ha, _, rfl, a, d, rfl, ha, _, rfl, a, d, rfl, ha, _, rfl, a, dx, _, rfl, h1, by kernel_rfl, a, rfl, ?_⟩
    refine ⟨_, rfl, a, d, rfl, ha, _, rfl, a, d, rfl, ha, (by show 6 ≤ sizeLine; decide), fun t ht => k t _ ht (same_new ht) ?_⟩
    rw [upd_same, ToldV, hk]
theorem ok_OneCall_told (A : All P w K mg base CT) : MOk P w K mg base CX0 2 (He.ga K "OneCall") "told" ["self"] [] (spTold K .one) := by
  obtain ⟨fd, F⟩ := fu_OneCall_told A.d
  refine ⟨cl_OneCall A.d, _, fd, [], FunD.ok0 F sc_Call_told (fun vs H Q E h => ?_) (fun cdv A0 outer s H vs Q E hr h => ?_), me_OneCall_told A.d, F.bindsN fun _ _ _ _ _ _ us hl => match us, hl with | [_], _ => rfl, .nil⟩
  · obtain ⟨a, d, rfl, ha, hk, k⟩ := h
    rfl
  · obtain ⟨a, d, rfl, ha, hk, k⟩ := h
    have hu := hu_of hr
    refine ⟨_, pss_one (ps_ret (pe_tup (pa_cons (cf_number A.d (pv 0)) (pa_cons (cf_caller A.d (pv 0)) (pa_cons (cf_count A.d (pv 0)) (pa_cons ((ok_OneCall_kind A).pe0 hr pass0 (pv 0)) (pa_cons (cf_word A.d (pv 0)) (pa_cons (cf_causes A.d (pv 0)) pa_nil)))))))), ?_⟩
    obtain ⟨⟨dx, h1⟩, h2⟩ := id ha
    rw [hk] at h1
    refine ⟨_, rfl, a, d, rfl, ha, _, rfl, a, d, rfl, ha, _, rfl, a, d, rfl, ha, _, rfl, a, dx, _, rfl, h1, by kernel_rfl, a, rfl, ?_⟩
    refine ⟨_, rfl, a, d, rfl, ha, _, rfl, a, d, rfl, ha, (by show 6 ≤ sizeLine; decide), fun t ht => k t _ ht (same_new ht) ?_⟩
    rw [upd_same, ToldV, hk]
theorem ok_call_told (A : All P w K mg base CT) : M3 P w K mg base 2 "told" ["self"] (spTold K)
  | .own => ok_OwnCall_told A
  | .heard => ok_HeardCall_told A
  | .one => ok_OneCall_told A
def freeB (k1 : Cn) (d : Cd) : Bool := decide (cnt k1 d.c = d.k - 1) && (match d.kd with
  | .own => true
  | _ => coversB k1 (mkC (d.zs.map (·.2))))
def spFree (K : PySem.W.Frag) (kd : Kd) : Sp := fun vs H Q _ => ∃ a b d k1, vs = [.ref a, .ref b] ∧ CallAt K H a d ∧ d.kd = kd ∧ d.zs.length ≤ 1000 ∧ Rd H b (.dK (encC k1)) ∧ ∀ H', Same H H' → Q (.bl (freeB k1 d)) H'
theorem ok_OwnCall_free (A : All P w K mg base CT) : MOk P w K mg base CX0 3 (He.ga K "OwnCall") "free" ["self", "counts"] [] (spFree K .own) := by
  obtain ⟨fd, F⟩ := fu_OwnCall_free A.d
  refine ⟨cl_OwnCall A.d, _, fd, [], FunD.ok0 F sc_Call_free (fun vs H Q E h => ?_) (fun cdv A0 outer s H vs Q E hr h => ?_), me_OwnCall_free A.d, F.bindsN fun _ _ _ _ _ _ us hl => match us, hl with | [_, _], _ => rfl, .nil⟩
  · obtain ⟨a, b, d, k1, rfl, ha, hk, hz, hb, k⟩ := h
    rfl
  · obtain ⟨a, b, d, k1, rfl, ha, hk, hz, hb, k⟩ := h
    have hu := hu_of hr
    refine ⟨_, pss_one (ps_ret ((ok_in_row A).pe hr pass0 (pa_cons (pv 1) (pa_cons (cf_caller A.d (pv 0)) (pa_cons (cf_count A.d (pv 0)) pa_nil))))), ?_⟩
    refine ⟨_, rfl, _, rfl, a, d, rfl, ha, _, rfl, a, d, rfl, ha, b, k1, d.c, d.k, rfl, hb, ?_⟩
    have := k H (Same.refl H)
    unfold freeB at this
    rw [hk, Bool.and_true] at this
    exact this
theorem ok_HeardCall_free (A : All P w K mg base CT) : MOk P w K mg base CX0 3 (He.ga K "HeardCall") "free" ["self", "counts"] [] (spFree K .heard) := by
  obtain ⟨fd, F⟩ := fu_HeardCall_free A.d
  refine ⟨cl_HeardCall A.d, _, fd, [], FunD.ok0 F sc_HeardCall_free (fun vs H Q E h => ?_) (fun cdv A0 outer s H vs Q E hr h => ?_), me_HeardCall_free A.d, F.bindsN fun _ _ _ _ _ _ us hl => match us, hl with | [_, _], _ => rfl, .nil⟩
  · obtain ⟨a, b, d, k1, rfl, ha, hk, hz, hb, k⟩ := h
    rfl
  · obtain ⟨a, b, d, k1, rfl, ha, hk, hz, hb, k⟩ := h
    have hu := hu_of hr
    refine ⟨_, pss_one (ps_ret (pe_and ((ok_in_row A).pe hr pass0 (pa_cons (pv 1) (pa_cons (cf_caller A.d (pv 0)) (pa_cons (cf_count A.d (pv 0)) pa_nil)))) (pe_one ((ok_covers A).pe hr pass0 (pa_cons (pv 1) (pa_cons ((ok_unpacked A).pe hr pass0 (pa_cons (cf_causes A.d (pv 0)) pa_nil)) pa_nil)))))), ?_⟩
    refine ⟨_, rfl, _, rfl, a, d, rfl, ha, _, rfl, a, d, rfl, ha, b, k1, d.c, d.k, rfl, hb, _, rfl, ite2 (fun h => ?_) (fun h => ?_)⟩
    · refine ⟨_, rfl, _, rfl, a, d, rfl, ha, d.z, d.zs, rfl, ha.2, hz, fun p H1 hp s1 h1 => ⟨b, p, k1, _, rfl, rd_same s1 hb, h1, fun H2 s2 => ?_⟩⟩
      have := k H2 (s1.trans s2)
      unfold freeB at this
      rw [hk, h, Bool.true_and] at this
      exact this
    · have := k H (Same.refl H)
      unfold freeB at this
      rw [show decide (cnt k1 d.c = d.k - 1) = false by cases q : decide (cnt k1 d.c = d.k - 1) with | false => rfl | true => exact absurd q h, Bool.false_and] at this
      exact this
theorem ok_OneCall_free (A : All P w K mg base CT) : MOk P w K mg base CX0 3 (He.ga K "OneCall") "free" ["self", "counts"] [] (spFree K .one) := by
  obtain ⟨fd, F⟩ := fu_OneCall_free A.d
  refine ⟨cl_OneCall A.d, _, fd, [], FunD.ok0 F sc_HeardCall_free (fun vs H Q E h => ?_) (fun cdv A0 outer s H vs Q E hr h => ?_), me_OneCall_free A.d, F.bindsN fun _ _ _ _ _ _ us hl => match us, hl with | [_, _], _ => rfl, .nil⟩
  · obtain ⟨a, b, d, k1, rfl, ha, hk, hz, hb, k⟩ := h
    rfl
  · obtain ⟨a, b, d, k1, rfl, ha, hk, hz, hb, k⟩ := h
    have hu := hu_of hr
    refine ⟨_, pss_one (ps_ret (pe_and ((ok_in_row A).pe hr pass0 (pa_cons (pv 1) (pa_cons (cf_caller A.d (pv 0)) (pa_cons (cf_count A.d (pv 0)) pa_nil)))) (pe_one ((ok_covers A).pe hr pass0 (pa_cons (pv 1) (pa_cons ((ok_unpacked A).pe hr pass0 (pa_cons (cf_causes A.d (pv 0)) pa_nil)) pa_nil)))))), ?_⟩
    refine ⟨_, rfl, _, rfl, a, d, rfl, ha, _, rfl, a, d, rfl, ha, b, k1, d.c, d.k, rfl, hb, _, rfl, ite2 (fun h => ?_) (fun h => ?_)⟩
    · refine ⟨_, rfl, _, rfl, a, d, rfl, ha, d.z, d.zs, rfl, ha.2, hz, fun p H1 hp s1 h1 => ⟨b, p, k1, _, rfl, rd_same s1 hb, h1, fun H2 s2 => ?_⟩⟩
      have := k H2 (s1.trans s2)
      unfold freeB at this
      rw [hk, h, Bool.true_and] at this
      exact this
    · have := k H (Same.refl H)
      unfold freeB at this
      rw [show decide (cnt k1 d.c = d.k - 1) = false by cases q : decide (cnt k1 d.c = d.k - 1) with | false => rfl | true => exact absurd q h, Bool.false_and] at this
      exact this
theorem ok_call_free (A : All P w K mg base CT) : M3 P w K mg base 3 "free" ["self", "counts"] (spFree K)
  | .own => ok_OwnCall_free A
  | .heard => ok_HeardCall_free A
  | .one => ok_OneCall_free A

end
end G
namespace G
open PySem PySem.Spec L2
open PyProof.Rows hiding St
section
variable {P : Program} {w : World} {K : PySem.W.Frag} {mg : Str → Option Value} {base : Heap} {CT : Addr × Addr}
def spMakeCall (K : PySem.W.Frag) : Sp := fun vs H Q _ => ∃ n c k kd w z zs, vs = [.int n, .int c, .int k, .str (kdS kd), .int w, .ref z] ∧ w.natAbs < 10 ^ 60 ∧ PackAt H z zs ∧
  ∀ p d H', H p = none → Same H H' → CallAt K H' p d → d.n = n ∧ d.c = c ∧ d.k = k ∧ d.kd = kd ∧ d.w = w ∧ d.zs.length ≤ zs.length → Q (.ref p) H'
theorem new_call {K : PySem.W.Frag} {H H1 : Hp} {x dx : Addr} {d : Cd} (s : Same H H1) (hx : H1 x = none) (hdx : H1 dx = none) (hne : dx ≠ x) (hz : PackAt H1 d.z d.zs) :
    H x = none ∧ Same H (upd (upd (upd H1 dx (.own x)) x (.ins (kdC K d.kd) dx [])) x (.ins (kdC K d.kd) dx (callFs d.n d.c d.k d.w d.z))) ∧ CallAt K (upd (upd (upd H1 dx (.own x)) x (.ins (kdC K d.kd) dx [])) x (.ins (kdC K d.kd) dx (callFs d.n d.c d.k d.w d.z))) x d := by
  rw [upd_upd]
  have hx2 : upd H1 dx (.own x) x = none := by rw [upd_ne hne.symm]; exact hx
  have s2 : Same H1 (upd (upd H1 dx (.own x)) x (.ins (kdC K d.kd) dx (callFs d.n d.c d.k d.w d.z))) := (same_new hdx).trans (same_new hx2)
  exact ⟨s.free hx, s.trans s2, ⟨dx, upd_same⟩, hz.same s2⟩
theorem word_ok {w : Int} (h : w.natAbs < 10 ^ 60) : decide ((10 : Int) ^ (Int.toNat 60) ≤ if w < 0 then -w else w) = false := by
  refine decide_eq_false fun z => ?_
  have e : (10 : Int) ^ (Int.toNat 60) = ((10 ^ 60 : Nat) : Int) := by decide +kernel
  rw [e] at z
  generalize (10 ^ 60 : Nat) = B at h z
  split at z <;> omega
theorem ok_make_call (A : All P w K mg base CT) : DOk P w K mg base CX0 3 "make_call" ["number", "caller", "count", "kind", "word", "causes"] [] (spMakeCall K) := by
  obtain ⟨fd, F⟩ := fu_make_call A.d
  refine ⟨_, fd, [], FunD.ok0 F sc_make_call (fun vs H Q E h => ?_) (fun cdv A0 outer s H vs Q E hr h => ?_), gl_make_call A.kin A.ns A.d, F.kp, F.bindsN fun _ _ _ _ _ _ us hl => match us, hl with | [_, _, _, _, _, _], _ => rfl, .nil⟩
  · obtain ⟨n, c, k, kd, w, z, zs, rfl, hw, hz, q⟩ := h
    rfl
  · obtain ⟨n, c, k, kd, w, z, zs, rfl, hw, hz, q⟩ := h
    have hu := hu_of hr
    refine ⟨_, pss_cons (ps_if (pt_cmpR op_notIn_seq (pv 3) (pe_tup (pa_cons pe_str (pa_cons pe_str (pa_cons pe_str pa_nil)))) (by rfl)) (pss_one ps_never) pss_nil)
      (pss_cons (ps_if (PW.pt (pw_or (pt_not (pt_val (pe_callB call_isi (by rfl) (fr_isinstance A.kin A.ns A.d) (by decide +kernel) (pa_cons (pv 4) (pa_cons (pe_bltn (v := .ty "int") (u := .type "int") (by rfl) (fr_int A.kin A.ns A.d) (by decide +kernel) rfl) pa_nil))))) (pw_or (pt_val (pe_callB call_isi (by rfl) (fr_isinstance A.kin A.ns A.d) (by decide +kernel) (pa_cons (pv 4) (pa_cons (pe_bltn (v := .ty "bool") (u := .type "bool") (by rfl) (fr_bool A.kin A.ns A.d) (by decide +kernel) rfl) pa_nil)))) (pw_or1 (pt_cmpR op_ge (pe_callB call_abs (by rfl) (fr_abs A.kin A.ns A.d) (by decide +kernel) (pa_cons (pv 4) pa_nil)) (pe_op op_pow pe_int pe_int) (nomark _)))))) (pss_one ps_never) pss_nil)
      (pss_cons (ps_if (pt_cmpR op_eq (pv 3) pe_str (nomark _)) (pss_one (ps_ret ((mk_ok_OwnCall A).pe hr pass0 (pa_cons (pv 0) (pa_cons (pv 1) (pa_cons (pv 2) (pa_cons (pv 4) (pa_cons (pe_tup pa_nil) pa_nil)))))))) pss_nil)
      (pss_cons (ps_if (pt_cmpR op_eq (pv 3) pe_str (nomark _)) (pss_one (ps_ret ((mk_ok_HeardCall A).pe hr pass0 (pa_cons (pv 0) (pa_cons (pv 1) (pa_cons (pv 2) (pa_cons (pv 4) (pa_cons (pv 5) pa_nil)))))))) pss_nil)
      (pss_one (ps_ret ((mk_ok_OneCall A).pe hr pass0 (pa_cons (pv 0) (pa_cons (pv 1) (pa_cons (pv 2) (pa_cons (pv 4) (pa_cons (pv 5) pa_nil))))))))))), ?_⟩
    refine ⟨_, rfl, (by show 3 ≤ sizeLine; decide), fun t ht => ⟨t, _, rfl, .inr (SqT.of upd_same), rfl, rfl, _, rfl, ?_⟩⟩
    have s1 : Same H (upd H t (.tup [.str "own", .str "heard", .str "one"])) := same_new ht
    have hz1 := hz.same s1
    generalize hH1 : upd H t (.tup [.str "own", .str "heard", .str "one"]) = H1 at s1 hz1 ⊢
    have e1 : (!inV (.str (kdS kd)) [.str "own", .str "heard", .str "one"]) = false := by cases kd <;> decide +kernel
    show if (!inV (.str (kdS kd)) [.str "own", .str "heard", .str "one"]) = true then _ else _
    rw [e1]
    refine iteF ⟨_, rfl, _, _, _, _, true, rfl, .ty "int", .base (.int w), kit_ty (by decide +kernel), _, rfl, ?_⟩
    refine iteF ⟨_, rfl, _, _, _, _, false, rfl, .ty "bool", .base (.int w), kit_ty (by decide +kernel), _, rfl, ?_⟩
    refine iteF ⟨_, rfl, _, rfl, _, _, rfl, rfl, ⟨by decide, by decide, by decide⟩, _, _, rfl, rfl, _, rfl, ?_⟩
    rw [word_ok hw]
    refine iteF ⟨_, rfl, rfl, _, rfl, ?_⟩
    cases kd with
    | own =>
      rw [show decide (V.str (kdS .own) = V.str "own") = true by decide +kernel]
      refine iteT ⟨_, rfl, _, rfl, _, rfl, _, rfl, Nat.zero_le _, fun z1 hz1' x dx hx hdx hne => ⟨x, dx, n, c, k, w, z1, rfl, upd_same, rfl, ?_⟩⟩
      obtain ⟨a1, a2, a3⟩ := new_call (K := K) (d := ⟨n, c, k, w, .own, z1, []⟩) (same_new2 s1 hz1') hx hdx hne ⟨upd_same, fun _ h => (nomatch h)⟩
      exact q x _ _ a1 a2 a3 ⟨rfl, rfl, rfl, rfl, rfl, Nat.zero_le _⟩
    | heard =>
      rw [show decide (V.str (kdS .heard) = V.str "own") = false by decide +kernel]
      refine iteF ⟨_, rfl, rfl, _, rfl, ?_⟩
      rw [show decide (V.str (kdS .heard) = V.str "heard") = true by decide +kernel]
      refine iteT ⟨_, rfl, _, rfl, _, rfl, _, rfl, _, rfl, fun x dx hx hdx hne => ⟨x, dx, n, c, k, w, z, rfl, upd_same, rfl, ?_⟩⟩
      obtain ⟨a1, a2, a3⟩ := new_call (K := K) (d := ⟨n, c, k, w, .heard, z, zs⟩) s1 hx hdx hne hz1
      exact q x _ _ a1 a2 a3 ⟨rfl, rfl, rfl, rfl, rfl, Nat.le_refl _⟩
    | one =>
      rw [show decide (V.str (kdS .one) = V.str "own") = false by decide +kernel]
      refine iteF ⟨_, rfl, rfl, _, rfl, ?_⟩
      rw [show decide (V.str (kdS .one) = V.str "heard") = false by decide +kernel]
      refine iteF ⟨_, rfl, _, rfl, _, rfl, _, rfl, _, rfl, fun x dx hx hdx hne => ⟨x, dx, n, c, k, w, z, rfl, upd_same, rfl, ?_⟩⟩
      obtain ⟨a1, a2, a3⟩ := new_call (K := K) (d := ⟨n, c, k, w, .one, z, zs⟩) s1 hx hdx hne hz1
      exact q x _ _ a1 a2 a3 ⟨rfl, rfl, rfl, rfl, rfl, Nat.le_refl _⟩
def ToldAt (H : Hp) (t : Addr) (d : Cd) : Prop := H t = some (.tup (ToldV d)) ∧ PackAt H d.z d.zs
theorem ToldAt.same {H H1 : Hp} {t : Addr} {d : Cd} (s : Same H H1) (h : ToldAt H t d) : ToldAt H1 t d := ⟨s _ _ h.1, h.2.same s⟩
theorem ToldAt.ext {H H1 : Hp} {t : Addr} {d : Cd} (s : Ext H H1) (h : ToldAt H t d) : ToldAt H1 t d := ⟨s _ _ h.1 trivial, h.2.ext s⟩
def spCallOf (K : PySem.W.Frag) : Sp := fun vs H Q _ => ∃ t d, vs = [.ref t] ∧ ToldAt H t d ∧ d.w.natAbs < 10 ^ 60 ∧
  ∀ p d' H', H p = none → Same H H' → CallAt K H' p d' → d'.n = d.n ∧ d'.c = d.c ∧ d'.k = d.k ∧ d'.kd = d.kd ∧ d'.w = d.w ∧ d'.zs.length ≤ d.zs.length → Q (.ref p) H'
theorem ok_call_of (A : All P w K mg base CT) : DOk P w K mg base CX0 4 "call_of" ["told"] [] (spCallOf K) := by
  obtain ⟨fd, F⟩ := fu_call_of A.d
  refine ⟨_, fd, [], FunD.ok0 F sc_call_of (fun vs H Q E h => ?_) (fun cdv A0 outer s H vs Q E hr h => ?_), gl_call_of A.kin A.ns A.d, F.kp, F.bindsN fun _ _ _ _ _ _ us hl => match us, hl with | [_], _ => rfl, .nil⟩
  · obtain ⟨t, d, rfl, ht, hw, q⟩ := h
    rfl
  · obtain ⟨t, d, rfl, ht, hw, q⟩ := h
    have hu := hu_of hr
    refine ⟨_, pss_one (ps_ret ((ok_make_call A).pe hr pass0 (pa_cons (pe_ix ix_tup (pv 0) pe_int (fun _ _ => rfl)) (pa_cons (pe_ix ix_tup (pv 0) pe_int (fun _ _ => rfl)) (pa_cons (pe_ix ix_tup (pv 0) pe_int (fun _ _ => rfl)) (pa_cons (pe_ix ix_tup (pv 0) pe_int (fun _ _ => rfl)) (pa_cons (pe_ix ix_tup (pv 0) pe_int (fun _ _ => rfl)) (pa_cons (pe_ix ix_tup (pv 0) pe_int (fun _ _ => rfl)) pa_nil)))))))), ?_⟩
    exact ⟨_, rfl, _, _, _, _, rfl, rfl, SqT.of ht.1, rfl, _, rfl, _, _, _, _, rfl, rfl, SqT.of ht.1, rfl, _, rfl, _, _, _, _, rfl, rfl, SqT.of ht.1, rfl, _, rfl, _, _, _, _, rfl, rfl, SqT.of ht.1, rfl, _, rfl, _, _, _, _, rfl, rfl, SqT.of ht.1, rfl, _, rfl, _, _, _, _, rfl, rfl, SqT.of ht.1, rfl, d.n, d.c, d.k, d.kd, d.w, d.z, d.zs, rfl, hw, ht.2, q⟩

end
end G
namespace G
open PySem PySem.Spec L2
open PyProof.Rows hiding St
section
variable {P : Program} {w : World} {K : PySem.W.Frag} {mg : Str → Option Value} {base : Heap} {CT : Addr × Addr}
/-! ### the plain side: tables with keys -/
section
variable {κ α : Type} [DecidableEq κ]
def getG (l : List (κ × α)) (c : κ) : Option α := (l.find? fun p => decide (p.1 = c)).map (·.2)
def putG (l : List (κ × α)) (c : κ) (x : α) : List (κ × α) := if (l.any fun p => decide (p.1 = c)) = true then l.map (fun p => if p.1 = c then (p.1, x) else p) else l ++ [(c, x)]
theorem getG_cons (p : κ × α) (r : List (κ × α)) (c : κ) : getG (p :: r) c = if p.1 = c then some p.2 else getG r c := by
  unfold getG
  rw [List.find?_cons]
  by_cases h : p.1 = c
  · rw [decide_eq_true h, if_pos h]; rfl
  · rw [decide_eq_false h, if_neg h]
theorem getG_any (c : κ) : ∀ l : List (κ × α), (l.any fun p => decide (p.1 = c)) = (getG l c).isSome
  | [] => rfl
  | p :: r => by
    rw [List.any_cons, getG_cons, getG_any c r]
    by_cases h : p.1 = c
    · rw [if_pos h, decide_eq_true h]; rfl
    · rw [if_neg h, decide_eq_false h]; rfl
theorem getG_append (c : κ) (q : κ × α) : ∀ l : List (κ × α), getG (l ++ [q]) c = match getG l c with
    | some k => some k
    | none => if q.1 = c then some q.2 else none
  | [] => by rw [List.nil_append, getG_cons]; rfl
  | p :: r => by
    rw [List.cons_append, getG_cons, getG_cons, getG_append c q r]
    by_cases h : p.1 = c
    · simp only [if_pos h]
    · simp only [if_neg h]
theorem getG_map (c d : κ) (x : α) : ∀ l : List (κ × α), getG (l.map fun p => if p.1 = c then (p.1, x) else p) d = if d = c then (getG l d).map (fun _ => x) else getG l d
  | [] => by rw [List.map_nil]; split <;> rfl
  | p :: r => by
    rw [List.map_cons, getG_cons, getG_cons, getG_map c d x r]
    by_cases h : p.1 = c
    · rw [if_pos h]
      by_cases h2 : d = c
      · rw [if_pos h2, if_pos h2, if_pos (show p.1 = d by rw [h, h2]), if_pos (show p.1 = d by rw [h, h2])]; rfl
      · rw [if_neg h2, if_neg h2, if_neg (show ¬ p.1 = d by rw [h]; exact fun z => h2 z.symm), if_neg (show ¬ p.1 = d by rw [h]; exact fun z => h2 z.symm)]
    · rw [if_neg h]
      by_cases h3 : p.1 = d
      · rw [if_pos h3, if_pos h3, if_neg (show ¬ d = c by rw [← h3]; exact h)]
      · rw [if_neg h3, if_neg h3]
theorem getG_put (l : List (κ × α)) (c d : κ) (x : α) : getG (putG l c x) d = if d = c then some x else getG l d := by
  unfold putG
  rw [getG_any]
  cases e : getG l c with
  | some y =>
    rw [if_pos (show (some y).isSome = true from rfl), getG_map]
    by_cases h : d = c
    · rw [if_pos h, if_pos h, h, e]; rfl
    · rw [if_neg h, if_neg h]
  | none =>
    rw [if_neg (show ¬ (none : Option α).isSome = true from fun z => Bool.noConfusion z), getG_append]
    by_cases h : d = c
    · rw [if_pos h, h, e]; show (if c = c then some x else none) = some x; rw [if_pos rfl]
    · rw [if_neg h]
      cases getG l d with
      | some _ => rfl
      | none => show (if c = d then some x else none) = none; rw [if_neg fun z => h z.symm]
theorem getG_mem {l : List (κ × α)} {c : κ} {x : α} (h : getG l c = some x) : (c, x) ∈ l := by
  unfold getG at h
  obtain ⟨p, hp, e⟩ := Option.map_eq_some_iff.mp h
  have h1 := List.find?_some hp
  have h2 := List.mem_of_find?_eq_some hp
  have h3 : p.1 = c := of_decide_eq_true h1
  rw [← h3, ← e]
  exact h2
theorem getG_of_mem {c : κ} {x : α} : ∀ {l : List (κ × α)}, (l.map (·.1)).Nodup → (c, x) ∈ l → getG l c = some x
  | [], _, h => nomatch h
  | p :: r, nd, h => by
    rw [List.map_cons, List.nodup_cons] at nd
    rw [getG_cons]
    rcases List.mem_cons.mp h with e | h
    · rw [← e, if_pos rfl]
    · rw [if_neg (fun z => nd.1 (by rw [z]; exact List.mem_map.mpr ⟨_, h, rfl⟩))]
      exact getG_of_mem nd.2 h
theorem mem_putG {l : List (κ × α)} {c : κ} {x : α} : ∀ p ∈ putG l c x, p = (c, x) ∨ p ∈ l := by
  intro p hp
  unfold putG at hp
  split at hp
  · obtain ⟨q, hq, e⟩ := List.mem_map.mp hp
    by_cases h : q.1 = c
    · rw [if_pos h] at e
      exact .inl (by rw [← e, h])
    · rw [if_neg h] at e
      exact .inr (by rw [← e]; exact hq)
  · rcases List.mem_append.mp hp with h | h
    · exact .inr h
    · exact .inl (List.mem_singleton.mp h)
theorem nd_putG {l : List (κ × α)} {c : κ} {x : α} (nd : (l.map (·.1)).Nodup) : ((putG l c x).map (·.1)).Nodup := by
  unfold putG
  split
  · rw [List.map_map]
    have e : l.map ((fun p : κ × α => p.1) ∘ fun p => if p.1 = c then (p.1, x) else p) = l.map (·.1) := by
      apply List.map_congr_left
      intro p _
      show (if p.1 = c then (p.1, x) else p).1 = p.1
      split <;> rfl
    rw [e]; exact nd
  · rename_i h
    rw [List.map_append]
    refine List.nodup_append.mpr ⟨nd, List.nodup_cons.mpr ⟨fun z => (nomatch z), List.nodup_nil⟩, ?_⟩
    intro a ha b hb e
    have hb' : b = c := List.mem_singleton.mp hb
    obtain ⟨p, hp, e2⟩ := List.mem_map.mp ha
    exact h (List.any_eq_true.mpr ⟨p, hp, decide_eq_true (by rw [e2, e, hb'])⟩)
theorem keys_putG {l : List (κ × α)} {c d : κ} {x : α} : d ∈ (putG l c x).map (·.1) ↔ d = c ∨ d ∈ l.map (·.1) := by
  constructor
  · intro h
    obtain ⟨p, hp, e⟩ := List.mem_map.mp h
    rcases mem_putG p hp with h2 | h2
    · exact .inl (by rw [← e, h2])
    · exact .inr (List.mem_map.mpr ⟨p, h2, e⟩)
  · intro h
    have e := getG_put l c d x
    have key : ∀ y, getG (putG l c x) d = some y → d ∈ (putG l c x).map (·.1) := fun y hy => List.mem_map.mpr ⟨_, getG_mem hy, rfl⟩
    by_cases hd : d = c
    · rw [if_pos hd] at e; exact key _ e
    · rw [if_neg hd] at e
      have h2 := h.resolve_left hd
      obtain ⟨p, hp, e2⟩ := List.mem_map.mp h2
      have h3 := getG_any d l
      rw [List.any_eq_true.mpr ⟨p, hp, decide_eq_true e2⟩] at h3
      cases e3 : getG l d with
      | none => rw [e3] at h3; cases h3
      | some y => rw [e3] at e; exact key _ e
/-- the same by values -/
theorem valV_map_g {μ : Type} [DecidableEq μ] (f : κ → μ) (hf : ∀ a b, f a = f b → a = b) (g : α → V) (c : κ) : ∀ l : List (κ × α), valV (l.map fun p => (f p.1, g p.2)) (f c) = (getG l c).map g
  | [] => rfl
  | p :: r => by
    rw [getG_cons]
    by_cases h : p.1 = c
    · rw [if_pos h]
      exact valV_pos (p := (f p.1, g p.2)) (congrArg f h)
    · rw [if_neg h]
      exact (valV_neg (p := (f p.1, g p.2)) fun z => h (hf _ _ z)).trans (valV_map_g f hf g c r)
theorem putK_map_g {μ : Type} [DecidableEq μ] (f : κ → μ) (hf : ∀ a b, f a = f b → a = b) (g : α → V) (l : List (κ × α)) (c : κ) (x : α) : putK (l.map fun p => (f p.1, g p.2)) (f c) (g x) = (putG l c x).map fun p => (f p.1, g p.2) := by
  unfold putK putG
  rw [valV_any, valV_map_g f hf g c l, getG_any]
  have e : ((getG l c).map g).isSome = (getG l c).isSome := by cases getG l c <;> rfl
  rw [e]
  split
  · rw [List.map_map, List.map_map]
    apply List.map_congr_left
    intro p _
    show (if f p.1 = f c then (f p.1, g x) else (f p.1, g p.2)) = (f (if p.1 = c then (p.1, x) else p).1, g (if p.1 = c then (p.1, x) else p).2)
    by_cases h : p.1 = c
    · rw [if_pos h, if_pos (congrArg f h)]
    · rw [if_neg h, if_neg fun z => h (hf _ _ z)]
  · rw [List.map_append]; rfl
theorem len_putG (l : List (κ × α)) (c : κ) (x : α) : (putG l c x).length ≤ l.length + 1 := by
  unfold putG
  split
  · rw [List.length_map]; omega
  · rw [List.length_append]; simp
end
theorem eqV_int (a b : Int) : eqV (.int a) (.int b) = decide (a = b) := by
  by_cases h : a = b
  · rw [h, decide_eq_true rfl]; simp [eqV]
  · rw [decide_eq_false h]; simp [eqV, h]
theorem inV_int (g : Int) : ∀ hs : List Int, inV (.int g) (hs.map V.int) = decide (g ∈ hs)
  | [] => by rw [decide_eq_false (fun h => nomatch h)]; rfl
  | h :: r => by
    have ih := inV_int g r
    unfold inV at ih ⊢
    rw [List.map_cons, List.any_cons, ih, eqV_int]
    by_cases e : h = g
    · rw [decide_eq_true e, decide_eq_true (show g ∈ h :: r by rw [e]; exact List.mem_cons_self)]; rfl
    · rw [decide_eq_false e, Bool.false_or]
      by_cases m : g ∈ r
      · rw [decide_eq_true m, decide_eq_true (List.mem_cons_of_mem _ m)]
      · rw [decide_eq_false m, decide_eq_false fun z => (List.mem_cons.mp z).elim (fun y => e y.symm) m]
theorem flat_ints (hs : List Int) : (hs.map V.int).all flatV = true := by
  rw [List.all_map, List.all_eq_true]
  intro x _
  rfl

end
end G
namespace G
open PySem PySem.Spec L2
open PyProof.Rows hiding St
section
variable {P : Program} {w : World} {K : PySem.W.Frag} {mg : Str → Option Value} {base : Heap} {CT : Addr × Addr}
/-! ### what is known of others -/
theorem pe_frz {X : Cx} {e : Expr} {t : TE} (h : PE X e t) : PE X e (tFrz t) := by
  refine ⟨fun pins s σ H Q I hw => thn (h.run pins s σ H _ I hw) fun u s1 ⟨v, H1, I1, r, a, x, ev, ha, mu, q⟩ => ?_⟩
  obtain ⟨od, I2⟩ := I1.lock ha mu
  exact ⟨v, _, I2, r, q od⟩
theorem same_frz {H H1 : Hp} {a : Addr} {o : HO} (s : Same H H1) (h : H a = none) : Same H (upd H1 a o) := same_set s h
abbrev Rows := List (Int × Addr × Cn)
def encR (R : Rows) : List (Key × V) := R.map fun e => ((Sum.inl e.1 : Key), V.ref e.2.1)
def rowR (R : Rows) (g : Int) : Cn := match getG R g with
  | some x => x.2
  | none => []
def KnAt (K : PySem.W.Frag) (cs : List Int) (H : Hp) (p t : Addr) (hs : List Int) (R : Rows) : Prop :=
  (∃ dx ci od, H p = some (.ins (He.ga K "Known") dx (KnownR.fs ⟨.ref ci, .ref t⟩)) ∧ H ci = some (.frz od (.lst (hs.map V.int)))) ∧ H t = some (.dK (encR R)) ∧
  (∀ e ∈ R, (∃ od, H e.2.1 = some (.frz od (.dK (encC e.2.2)))) ∧ Cnt cs e.2.2 ∧ e.1 ∈ hs) ∧ (R.map (·.1)).Nodup ∧ hs.length ≤ 63
theorem KnAt.keep {K : PySem.W.Frag} {cs hs : List Int} {H H1 : Hp} {p t : Addr} {R : Rows} (h : KnAt K cs H p t hs R) (kp : ∀ o, H p = some o → H1 p = some o) (kt : ∀ o, H t = some o → H1 t = some o) (x : Ext H H1) : KnAt K cs H1 p t hs R := by
  obtain ⟨⟨dx, ci, od, h1, h2⟩, h3, h4, h5, h6⟩ := h
  exact ⟨⟨dx, ci, od, kp _ h1, x _ _ h2 trivial⟩, kt _ h3, fun e he => ⟨(h4 e he).1.elim fun od z => ⟨od, x _ _ z trivial⟩, (h4 e he).2⟩, h5, h6⟩
theorem KnAt.same {K : PySem.W.Frag} {cs hs : List Int} {H H1 : Hp} {p t : Addr} {R : Rows} (h : KnAt K cs H p t hs R) (s : Same H H1) : KnAt K cs H1 p t hs R := h.keep (fun _ => s _ _) (fun _ => s _ _) (.of s)
theorem KnAt.len {K : PySem.W.Frag} {cs hs : List Int} {H : Hp} {p t : Addr} {R : Rows} (h : KnAt K cs H p t hs R) : R.length ≤ 63 := by
  obtain ⟨_, _, h4, h5, h6⟩ := h
  have := nodup_len h5 (m := hs) fun x hx => by
    obtain ⟨e, he, ee⟩ := List.mem_map.mp hx
    rw [← ee]; exact (h4 e he).2.2
  rw [List.length_map] at this
  omega
theorem KnAt.row {K : PySem.W.Frag} {cs hs : List Int} {H : Hp} {p t : Addr} {R : Rows} (h : KnAt K cs H p t hs R) (g : Int) : Cnt cs (rowR R g) := by
  unfold rowR
  cases e : getG R g with
  | none => exact Cnt.nil
  | some x => exact (h.2.2.1 _ (getG_mem e)).2.1
theorem val_encR (R : Rows) (g : Int) : valV (encR R) (Sum.inl g : Key) = (getG R g).map fun x => V.ref x.1 := valV_map_g (f := fun c => (Sum.inl c : Key)) (fun _ _ z => Sum.inl.inj z) (fun x : Addr × Cn => V.ref x.1) g R
theorem put_encR (R : Rows) (g : Int) (x : Addr × Cn) : putK (encR R) (Sum.inl g : Key) (.ref x.1) = encR (putG R g x) := putK_map_g (f := fun c => (Sum.inl c : Key)) (fun _ _ z => Sum.inl.inj z) (fun x : Addr × Cn => V.ref x.1) R g x
theorem row_put (R : Rows) (g g' : Int) (x : Addr × Cn) : rowR (putG R g x) g' = if g' = g then x.2 else rowR R g' := by
  unfold rowR
  rw [getG_put]
  by_cases h : g' = g
  · rw [if_pos h, if_pos h]
  · rw [if_neg h, if_neg h]
def spKnInit (K : PySem.W.Frag) (cs : List Int) : Sp := fun vs H Q _ => ∃ p dx S, vs = [.ref p, .int S] ∧ H p = some (.ins (He.ga K "Known") dx []) ∧
  ∀ t H', H t = none → Kp [p] H H' → KnAt K cs H' p t (circ S) [] → Q .non H'
theorem KnownR_fs {a b : V} : putF "table" b (putF "circle" a []) = KnownR.fs ⟨a, b⟩ := by kernel_rfl
theorem mk_ok_Known (A : All P w K mg base CT) {cs : List Int}: KOk P w K mg base CX0 3 "Known" (He.ga K "Known") ["self", "hands"] [] (spKnInit K cs) := by
  obtain ⟨fd, F⟩ := fu_Known_init A.d
  refine ⟨_, fd, [], FunD.ok0 F sc_Known_init (fun vs H Q E h => ?_) (fun cdv A0 outer s H vs Q E hr h => ?_), mk_Known A.d, gl_Known A.kin A.ns A.d, F.bindsN fun _ _ _ _ _ _ us hl => match us, hl with | [_, _], _ => rfl, .nil⟩
  · obtain ⟨p, dx, S, rfl, hp, k⟩ := h
    rfl
  · obtain ⟨p, dx, S, rfl, hp, k⟩ := h
    have hu := hu_of hr
    refine ⟨_, pss_cons (ps_fld (pv 0) (pe_frz ((ok_hands_of A).pe hr pass0 (pa_cons (pv 1) pa_nil))) rfl) (pss_one (ps_fld (pv 0) pe_dnewK rfl)), ?_⟩
    refine ⟨_, rfl, S, rfl, fun ci H1 hci s1 h1 => ⟨ci, _, rfl, h1, trivial, fun od => ?_⟩⟩
    have npc : p ≠ ci := ne_of_none hp hci
    refine ⟨_, rfl, p, _, dx, _, rfl, by rw [upd_ne npc]; exact s1 _ _ hp, cl_Known A.d, no_Known_circle A.d, by decide, ?_⟩
    obtain ⟨H2, hH2⟩ : ∃ H2, H2 = upd (upd H1 ci (.frz od (.lst ((circ S).map V.int)))) p (.ins (He.ga K "Known") dx (putF "circle" (.ref ci) [])) := ⟨_, rfl⟩
    have h2p : H2 p = some (.ins (He.ga K "Known") dx (putF "circle" (.ref ci) [])) := by rw [hH2, upd_same]
    have h2c : H2 ci = some (.frz od (.lst ((circ S).map V.int))) := by rw [hH2, upd_ne npc.symm, upd_same]
    have k2 : Kp [p] H H2 := by
      rw [hH2]
      exact Kp.upd (fun b o e _ => by rw [upd_ne (ne_of_none e hci)]; exact s1 _ _ e) List.mem_cons_self
    intro t ht0
    have ht : H2 t = none := by rw [hH2]; exact ht0
    have l1 := putF_len "circle" (.ref ci) [] (m := 1) (by decide) (by decide)
    have npt : p ≠ t := ne_of_none h2p ht
    have nct : ci ≠ t := ne_of_none h2c ht
    have htH : H t = none := by
      cases e : H t with
      | none => rfl
      | some o =>
        exfalso
        have := k2 t o e (notin1 npt.symm)
        rw [ht] at this; cases this
    subst hH2
    refine ⟨_, rfl, p, _, dx, _, rfl, by rw [upd_ne npt]; exact h2p, cl_Known A.d, no_Known_table A.d, by have := l1.1; omega, ?_⟩
    rw [KnownR_fs]
    refine k t _ htH (Kp.upd (k2.new ht) List.mem_cons_self) ⟨⟨dx, ci, od, upd_same, by rw [upd_ne npc.symm, upd_ne nct]; exact h2c⟩, by rw [upd_ne npt.symm, upd_same]; rfl, fun _ h => (nomatch h), List.nodup_nil, circN_len S 63⟩
def spRowOf (K : PySem.W.Frag) (cs : List Int) : Sp := fun vs H Q _ => ∃ p t hs R g, vs = [.ref p, .int g] ∧ KnAt K cs H p t hs R ∧ ∀ q H', H q = none → Same H H' → H' q = some (.dK (encC (rowR R g))) → Q (.ref q) H'
theorem ok_Known_row_of (A : All P w K mg base CT) {cs : List Int}: MOk P w K mg base CX0 1 (He.ga K "Known") "row_of" ["self", "hand"] [] (spRowOf K cs) := by
  obtain ⟨fd, F⟩ := fu_Known_row_of A.d
  refine ⟨cl_Known A.d, _, fd, [], FunD.ok0 F sc_Known_row_of (fun vs H Q E h => ?_) (fun cdv A0 outer s H vs Q E hr h => ?_), me_Known_row_of A.d, F.bindsN fun _ _ _ _ _ _ us hl => match us, hl with | [_, _], _ => rfl, .nil⟩
  · obtain ⟨p, t, hs, R, g, rfl, hk, k⟩ := h
    rfl
  · obtain ⟨p, t, hs, R, g, rfl, hk, k⟩ := h
    have hu := hu_of hr
    refine ⟨_, pss_one (ps_ret (pe_callTy (call_dictD) (by rfl) (fr_dict A.kin A.ns A.d) (by decide +kernel) (pa_cons (pe_dget2 hu (pe_Known_table A.d (pv 0)) (pv 1) pe_dnewK ⟨rfl, rfl, rfl, rfl⟩) pa_nil))), ?_⟩
    obtain ⟨⟨dx, ci, od, h1, h2⟩, h3, h4, h5, h6⟩ := id hk
    refine ⟨_, rfl, p, dx, _, rfl, h1, t, rfl, .inl ⟨_, .inl h3⟩, _, rfl, fun q hq => ⟨_, .inl ⟨encR R, .inl g, .inl (same_new hq _ _ h3), rfl, rfl⟩, ?_⟩⟩
    have s1 : Same H (upd H q (.dK [])) := same_new hq
    rw [val_encR]
    have key : ∃ a, ((getG R g).map fun x => V.ref x.1).getD (.ref q) = .ref a ∧ Rd (upd H q (.dK [])) a (.dK (encC (rowR R g))) := by
      unfold rowR
      cases e : getG R g with
      | none => exact ⟨q, rfl, .inl upd_same⟩
      | some x =>
        obtain ⟨⟨od2, z⟩, _⟩ := h4 _ (getG_mem e)
        exact ⟨x.1, rfl, .inr ⟨od2, s1 _ _ z⟩⟩
    obtain ⟨a, e1, e2⟩ := key
    rw [e1]
    exact ⟨a, _, rfl, e2, fun r hr' => k r _ (s1.free hr') (same_new2 s1 hr') upd_same⟩
def spLearn (K : PySem.W.Frag) (cs : List Int) : Sp := fun vs H Q _ => ∃ p t hs R g a kv, vs = [.ref p, .int g, .ref a] ∧ KnAt K cs H p t hs R ∧ H a = some (.dK (encC kv)) ∧ Cnt cs kv ∧ cs.length ≤ 60 ∧
  ∀ R' H', Kp [t] H H' → KnAt K cs H' p t hs R' → (∀ g' ∈ hs, ∀ c, cnt (rowR R' g') c = if g' = g then max (cnt (rowR R g') c) (cnt kv c) else cnt (rowR R g') c) → Q .non H'
theorem ok_Known_learn (A : All P w K mg base CT) {cs : List Int}: MOk P w K mg base CX0 3 (He.ga K "Known") "learn" ["self", "hand", "counts"] [] (spLearn K cs) := by
  obtain ⟨fd, F⟩ := fu_Known_learn A.d
  refine ⟨cl_Known A.d, _, fd, [], FunD.ok0 F sc_Known_learn (fun vs H Q E h => ?_) (fun cdv A0 outer s H vs Q E hr h => ?_), me_Known_learn A.d, F.bindsN fun _ _ _ _ _ _ us hl => match us, hl with | [_, _, _], _ => rfl, .nil⟩
  · obtain ⟨p, t, hs, R, g, a, kv, rfl, hk, ha, hkv, hl, k⟩ := h
    rfl
  · obtain ⟨p, t, hs, R, g, a, kv, rfl, hk, ha, hkv, hl, k⟩ := h
    have hu := hu_of hr
    refine ⟨_, pss_one (ps_if (pt_cmpR op_in_seq (pv 1) (pe_Known_circle A.d (pv 0)) (by rfl)) (pss_one (ps_dput hu (pe_Known_table A.d (pv 0)) (pv 1) (pe_frz ((ok_joined A (cs := cs)).pe hr pass0 (pa_cons ((ok_Known_row_of A (cs := cs)).pe hr pass0 (pv 0) (pa_cons (pv 1) pa_nil)) (pa_cons (pv 2) pa_nil)))) rfl)) pss_nil), ?_⟩
    obtain ⟨⟨dx, ci, od, h1, h2⟩, h3, h4, h5, h6⟩ := id hk
    refine ⟨_, rfl, _, rfl, p, dx, _, rfl, h1, ci, _, rfl, .inl (.inl (.inr ⟨od, h2⟩)), rfl, flat_ints hs, _, rfl, ?_⟩
    show if inV (.int g) (hs.map V.int) = true then _ else _
    rw [inV_int]
    refine ite2 (fun hg => ?_) (fun hg => ?_)
    · have hg' : g ∈ hs := of_decide_eq_true hg
      refine ⟨_, rfl, p, dx, _, rfl, h1, by kernel_rfl, _, rfl, p, t, hs, R, g, rfl, hk, fun q H1 hq s1 hq1 => ⟨_, rfl, q, a, _, kv, rfl, hq1, s1 _ _ ha, hk.row g, hkv, hl, fun r kv' H2 hr2 s2 h2r c2 hm => ⟨r, _, rfl, h2r, trivial, fun od2 => ?_⟩⟩⟩
      have hrH : H r = none := s1.free hr2
      have s3 : Same H (upd H2 r (.frz od2 (.dK (encC kv')))) := same_set (s1.trans s2) hrH
      have h3' := s3 _ _ h3
      have ntr : t ≠ r := ne_of_none h3 hrH
      have hsz : (encR R).length < sizeLine := by
        unfold encR
        rw [List.length_map]
        exact small1000 (Nat.le_trans hk.len (by omega))
      refine ⟨_, rfl, p, dx, _, rfl, s3 _ _ h1, _, rfl, t, _, rfl, DPut.k (k := Sum.inl g) h3' hsz, ?_⟩
      rw [put_encR R g (r, kv')]
      have npt : p ≠ t := ne_of h1 h3 (by intro z; cases z)
      have nct : ci ≠ t := ne_of h2 h3 (by intro z; cases z)
      have kp : Kp [t] H (upd (upd H2 r (.frz od2 (.dK (encC kv')))) t (.dK (encR (putG R g (r, kv'))))) := Kp.upd (Kp.of s3) List.mem_cons_self
      refine k (putG R g (r, kv')) _ kp ⟨⟨dx, ci, od, kp _ _ h1 (notin1 npt), kp _ _ h2 (notin1 nct)⟩, upd_same, fun e he => ?_, nd_putG h5, h6⟩ fun g' _ c => ?_
      · rcases mem_putG e he with he | he
        · rw [he]
          exact ⟨⟨od2, by rw [upd_ne ntr.symm, upd_same]⟩, c2, hg'⟩
        · obtain ⟨⟨o, z⟩, z2⟩ := h4 e he
          exact ⟨⟨o, kp _ _ z (notin1 (ne_of z h3 (by intro y; cases y)))⟩, z2⟩
      · rw [row_put]
        by_cases e : g' = g
        · rw [if_pos e, if_pos e, e]; exact hm c
        · rw [if_neg e, if_neg e]
    · have hg' : g ∉ hs := fun z => hg (decide_eq_true z)
      refine k R H Kp.refl hk fun g' m c => ?_
      rw [if_neg (fun e => hg' (by rw [← e]; exact m))]

end
end G
namespace G
open PySem PySem.Spec L2
open PyProof.Rows hiding St
section
variable {P : Program} {w : World} {K : PySem.W.Frag} {mg : Str → Option Value} {base : Heap} {CT : Addr × Addr}
def FL (R : Rows) (hs : List Int) (c k : Int) : Prop := hs ≠ [] ∧ ∀ g ∈ hs, k ≤ cnt (rowR R g) c
def spFloor (K : PySem.W.Frag) (cs : List Int) : Sp := fun vs H Q _ => ∃ p t hs R, vs = [.ref p] ∧ KnAt K cs H p t hs R ∧ cs.length ≤ 60 ∧
  ∀ q fl H', H q = none → Same H H' → H' q = some (.dK (encC fl)) → Cnt cs fl → (∀ c k, 1 ≤ k → (k ≤ cnt fl c ↔ FL R hs c k)) → Q (.ref q) H'
theorem ok_Known_floor (A : All P w K mg base CT) {cs : List Int}: MOk P w K mg base CX0 3 (He.ga K "Known") "floor" ["self"] [] (spFloor K cs) := by
  obtain ⟨fd, F⟩ := fu_Known_floor A.d
  refine ⟨cl_Known A.d, _, fd, [], FunD.ok0 F sc_Known_floor (fun vs H Q E h => ?_) (fun cdv A0 outer s H vs Q E hr h => ?_), me_Known_floor A.d, F.bindsN fun _ _ _ _ _ _ us hl => match us, hl with | [_], _ => rfl, .nil⟩
  · obtain ⟨p, t, hs, R, rfl, hk, hl, k⟩ := h
    rfl
  · obtain ⟨p, t, hs, R, rfl, hk, hl, k⟩ := h
    have hu := hu_of hr
    refine ⟨_, pss_one (ps_ret ((ok_common A (cs := cs)).pe hr pass0 (pa_cons (pe_lc (own := [("hand", 1)]) (g := gName 1) (tt := tYes) rfl sc_Known_floor.nd (pi_list (pe_Known_circle A.d (pv 0))) (blkOk_by (N := ["self", "hand"]) (sc := defScope s_Known_floor) (by decide +kernel)) (fun _ _ _ _ _ => pg_name (i := 1) sc_Known_floor.nd rfl (Or.inl rfl)) (fun _ _ _ _ _ => pts_nil) (fun _ _ _ _ _ => ((ok_Known_row_of A (cs := cs)).pe hr pass0 (pv 0) (pa_cons (pv 1) pa_nil)))) pa_nil))), ?_⟩
    obtain ⟨⟨dx, ci, od, h1, h2⟩, h3, h4, h5, h6⟩ := id hk
    have hci : ∀ H1, Same H H1 → SqL K H1 ci (hs.map V.int) := fun H1 s1 => .inl (.inr ⟨od, s1 _ _ h2⟩)
    refine ⟨_, rfl, p, dx, _, rfl, h1, ci, rfl, ⟨_, hci H (Same.refl H)⟩, fun D hD => ?_⟩
    refine lc_list (K := K) (a := ci) (xs := hs.map V.int) (fun i H1 => Same H H1 ∧ ∃ L : List (Addr × Cn), H1 D = some (.lst (L.map fun e => V.ref e.1)) ∧ (∀ e ∈ L, H1 e.1 = some (.dK (encC e.2))) ∧ L.map (·.2) = (hs.take i).map (rowR R)) ⟨same_new hD, [], upd_same, fun _ h => (nomatch h), rfl⟩ (fun i H1 _ ⟨s1, _⟩ => hci H1 s1) ?_ ?_
    · rintro i x H1 hx ⟨s1, L, hL1, hL2, hL3⟩
      rw [List.getElem?_map] at hx
      obtain ⟨g, eg, rfl⟩ := Option.map_eq_some_iff.mp hx
      have hi : i < hs.length := (List.getElem?_eq_some_iff.mp eg).1
      have hlen : L.length = i := by
        have := congrArg List.length hL3
        rw [List.length_map, List.length_map, List.length_take] at this
        omega
      refine ⟨rfl, _, rfl, p, dx, _, rfl, s1 _ _ h1, by kernel_rfl, _, rfl, p, t, hs, R, g, rfl, hk.same s1, fun q H2 hq s2 h2q => ⟨_, s2 _ _ hL1, by rw [List.length_map, hlen]; exact small1000 (by omega), same_set (s1.trans s2) hD, L ++ [(q, rowR R g)], by rw [upd_same, List.map_append]; rfl, fun e he => ?_, ?_⟩⟩
      · rcases List.mem_append.mp he with he | he
        · have z := s2 _ _ (hL2 e he)
          rw [upd_ne (ne_of (hL2 e he) hL1 (by intro y; cases y))]; exact z
        · have e2 := List.mem_singleton.mp he
          subst e2
          rw [upd_ne (ne_of h2q (s2 _ _ hL1) (by intro y; cases y))]; exact h2q
      · rw [List.map_append, hL3, List.take_add_one, eg]
        show _ = List.map (rowR R) (hs.take i ++ [g])
        rw [List.map_append]; rfl
    · rintro H1 ⟨s1, L, hL1, hL2, hL3⟩
      rw [List.length_map, List.take_length] at hL3
      have hmem : ∀ e ∈ L, ∃ g ∈ hs, e.2 = rowR R g := fun e he => by
        have : e.2 ∈ hs.map (rowR R) := by rw [← hL3]; exact List.mem_map.mpr ⟨e, he, rfl⟩
        obtain ⟨g, hg, eg⟩ := List.mem_map.mp this
        exact ⟨g, hg, eg.symm⟩
      have hlen : L.length = hs.length := by
        have := congrArg List.length hL3
        rwa [List.length_map, List.length_map] at this
      refine ⟨D, L, rfl, hL1, fun e he => ⟨hL2 e he, ?_⟩, by omega, hl, fun q fl H2 hq s2 hq2 cf hm => k q fl H2 (s1.free hq) (s1.trans s2) hq2 cf fun c m hm1 => ?_⟩
      · obtain ⟨g, _, eg⟩ := hmem e he
        rw [eg]; exact hk.row g
      · rw [hm c m hm1]
        unfold FL
        constructor
        · rintro ⟨a1, a2⟩
          refine ⟨fun z => a1 (List.eq_nil_of_length_eq_zero (by rw [hlen, z]; rfl)), fun g hg => ?_⟩
          have : rowR R g ∈ L.map (·.2) := by rw [hL3]; exact List.mem_map.mpr ⟨g, hg, rfl⟩
          obtain ⟨e, he, ee⟩ := List.mem_map.mp this
          rw [← ee]; exact a2 e he
        · rintro ⟨a1, a2⟩
          refine ⟨fun z => a1 (List.eq_nil_of_length_eq_zero (by rw [← hlen, z]; rfl)), fun e he => ?_⟩
          obtain ⟨g, hg, eg⟩ := hmem e he
          rw [eg]; exact a2 g hg
def spReach (K : PySem.W.Frag) (cs : List Int) : Sp := fun vs H Q _ => ∃ p t hs R a nm, vs = [.ref p, .ref a] ∧ KnAt K cs H p t hs R ∧ H a = some (.tup (nmV nm)) ∧ ∀ (r : Int) H', Same H H' → Q (.int r) H'
theorem ok_Known_reach (A : All P w K mg base CT) {cs : List Int}: MOk P w K mg base CX0 3 (He.ga K "Known") "reach" ["self", "name"] [] (spReach K cs) := by
  obtain ⟨fd, F⟩ := fu_Known_reach A.d
  refine ⟨cl_Known A.d, _, fd, [], FunD.ok0 F sc_Known_reach (fun vs H Q E h => ?_) (fun cdv A0 outer s H vs Q E hr h => ?_), me_Known_reach A.d, F.bindsN fun _ _ _ _ _ _ us hl => match us, hl with | [_, _], _ => rfl, .nil⟩
  · obtain ⟨p, t, hs, R, a, nm, rfl, hk, ha, k⟩ := h
    rfl
  · obtain ⟨p, t, hs, R, a, nm, rfl, hk, ha, k⟩ := h
    have hu := hu_of hr
    refine ⟨_, pss_cons (ps_set (i := 2) sc_Known_reach.nd rfl (by first | exact Or.inl rfl | exact Or.inr rfl) pe_int)
      (pss_cons (ps_for PassesOwn.never rfl (pi_list (pe_Known_circle A.d (pv 0))) (pg_name (i := 3) sc_Known_reach.nd rfl (by first | exact Or.inl rfl | exact Or.inr rfl)) (pss_one (ps_if (pt_val ((ok_covers_name A).pe hr pass0 (pa_cons ((ok_Known_row_of A (cs := cs)).pe hr pass0 (pv 0) (pa_cons (pv 3) pa_nil)) (pa_cons (pv 1) pa_nil)))) (pss_one (ps_aug (i := 2) sc_Known_reach.nd rfl (Or.inl rfl) pe_int ip_add)) pss_nil)))
      (pss_one (ps_ret (pv 2)))), ?_⟩
    obtain ⟨⟨dx, ci, od, h1, h2⟩, h3, h4, h5, h6⟩ := id hk
    have hci : ∀ H1, Same H H1 → SqL K H1 ci (hs.map V.int) := fun H1 s1 => .inl (.inr ⟨od, s1 _ _ h2⟩)
    refine ⟨_, rfl, p, dx, _, rfl, h1, ci, rfl, ⟨_, hci H (Same.refl H)⟩, for_list (K := K) (a := ci) (xs := hs.map V.int) (fun i σ H1 => ∃ (r : Int) (v : Option V), σ = [some (.ref p), some (.ref a), some (.int r), v] ∧ Same H H1) ⟨0, none, rfl, Same.refl H⟩ (fun i σ H1 _ ⟨_, _, _, s1⟩ => hci H1 s1) ?_ ?_⟩
    · rintro i x σ H1 hx ⟨r, v, rfl, s1⟩
      rw [List.getElem?_map] at hx
      obtain ⟨g, eg, rfl⟩ := Option.map_eq_some_iff.mp hx
      refine ⟨_, rfl, p, dx, _, rfl, s1 _ _ h1, by kernel_rfl, _, rfl, p, t, hs, R, g, rfl, hk.same s1, fun q H2 hq s2 h2q => ⟨_, rfl, q, a, _, nm.1, nm.2.1, nm.2.2, rfl, .inl h2q, s2 _ _ (s1 _ _ ha), _, rfl, ?_⟩⟩
      exact ite2 (fun _ => ⟨_, rfl, _, _, rfl, rfl, _, _, rfl, s1.trans s2⟩) fun _ => ⟨_, _, rfl, s1.trans s2⟩
    · rintro σ H1 ⟨r, v, rfl, s1⟩
      exact ⟨_, rfl, k r H1 s1⟩
def OrdL (H : Hp) (os : List (Addr × Nm)) : Prop := ∀ o ∈ os, H o.1 = some (.tup (nmV o.2))
theorem OrdL.same {H H1 : Hp} {os : List (Addr × Nm)} (h : OrdL H os) (s : Same H H1) : OrdL H1 os := fun o ho => s _ _ (h o ho)
theorem OrdL.ext {H H1 : Hp} {os : List (Addr × Nm)} (h : OrdL H os) (s : Ext H H1) : OrdL H1 os := fun o ho => s _ _ (h o ho) trivial
def refsO (os : List (Addr × Nm)) : List V := os.map fun o => V.ref o.1
def spSure (K : PySem.W.Frag) (cs : List Int) : Sp := fun vs H Q _ => ∃ p t hs R a os, vs = [.ref p, .ref a] ∧ KnAt K cs H p t hs R ∧ SqL K H a (refsO os) ∧ OrdL H os ∧ ∀ (r : Int) H', Same H H' → Q (.int r) H'
theorem ok_Known_sure (A : All P w K mg base CT) {cs : List Int}: MOk P w K mg base CX0 4 (He.ga K "Known") "sure" ["self", "places"] [] (spSure K cs) := by
  obtain ⟨fd, F⟩ := fu_Known_sure A.d
  refine ⟨cl_Known A.d, _, fd, [], FunD.ok0 F sc_Known_sure (fun vs H Q E h => ?_) (fun cdv A0 outer s H vs Q E hr h => ?_), me_Known_sure A.d, F.bindsN fun _ _ _ _ _ _ us hl => match us, hl with | [_, _], _ => rfl, .nil⟩
  · obtain ⟨p, t, hs, R, a, os, rfl, hk, ha, ho, k⟩ := h
    rfl
  · obtain ⟨p, t, hs, R, a, os, rfl, hk, ha, ho, k⟩ := h
    have hu := hu_of hr
    refine ⟨_, pss_cons (ps_set (i := 2) sc_Known_sure.nd rfl (by first | exact Or.inl rfl | exact Or.inr rfl) pe_int)
      (pss_cons (ps_for PassesOwn.never rfl (pi_list (pv 1)) (pg_name (i := 3) sc_Known_sure.nd rfl (by first | exact Or.inl rfl | exact Or.inr rfl)) (pss_cons (ps_if (pt_cmpR op_le (pe_op op_mul pe_int ((ok_Known_reach A (cs := cs)).pe hr pass0 (pv 0) (pa_cons (pv 3) pa_nil))) (pe_callB call_len_seq (by rfl) (fr_len A.kin A.ns A.d) (by decide +kernel) (pa_cons (pe_Known_circle A.d (pv 0)) pa_nil)) (nomark _)) (pss_one ps_break) pss_nil) (pss_one (ps_aug (i := 2) sc_Known_sure.nd rfl (Or.inl rfl) pe_int ip_add))))
      (pss_one (ps_ret (pv 2)))), ?_⟩
    obtain ⟨⟨dx, ci, od, h1, h2⟩, h3, h4, h5, h6⟩ := id hk
    have hci : ∀ H1, Same H H1 → SqL K H1 ci (hs.map V.int) := fun H1 s1 => .inl (.inr ⟨od, s1 _ _ h2⟩)
    refine ⟨_, rfl, a, rfl, ⟨_, ha⟩, for_list (K := K) (a := a) (xs := refsO os) (fun i σ H1 => ∃ (r : Int) (v : Option V), σ = [some (.ref p), some (.ref a), some (.int r), v] ∧ Same H H1) ⟨0, none, rfl, Same.refl H⟩ (fun i σ H1 _ ⟨_, _, _, s1⟩ => s1.seq ha) ?_ ?_⟩
    · rintro i x σ H1 hx ⟨r, v, rfl, s1⟩
      unfold refsO at hx
      rw [List.getElem?_map] at hx
      obtain ⟨o, eo, rfl⟩ := Option.map_eq_some_iff.mp hx
      refine ⟨_, rfl, p, dx, _, rfl, s1 _ _ h1, by kernel_rfl, _, rfl, p, t, hs, R, o.1, o.2, rfl, hk.same s1, s1 _ _ (ho o (List.mem_of_getElem? eo)), fun q H2 s2 => ⟨_, _, rfl, rfl, .inl ⟨by decide, by decide⟩, _, rfl, p, dx, _, rfl, s2 _ _ (s1 _ _ h1), ci, _, rfl, .inl (hci _ (s1.trans s2)), _, _, rfl, rfl, _, rfl, ?_⟩⟩
      exact ite2 (fun _ => ⟨_, rfl, k _ _ (s1.trans s2)⟩) fun _ => ⟨_, rfl, _, _, rfl, rfl, _, _, rfl, s1.trans s2⟩
    · rintro σ H1 ⟨r, v, rfl, s1⟩
      exact ⟨_, rfl, k r H1 s1⟩

end
end G
namespace G
open PySem PySem.Spec L2
open PyProof.Rows hiding St
section
variable {P : Program} {w : World} {K : PySem.W.Frag} {mg : Str → Option Value} {base : Heap} {CT : Addr × Addr}
theorem packed_data {K : PySem.W.Frag} {H : Hp} : ∀ {ps : List (Addr × Int × Int)}, (∀ p ∈ ps, H p.1 = some (.tup [.int p.2.1, .int p.2.2])) → DpAll K H (ps.map fun p => V.ref p.1) (ps.map fun p => .tuple [.int p.2.1, .int p.2.2])
  | [], _ => .nil
  | p :: r, h => .cons (.tup (SqT.of (h p List.mem_cons_self)) (.cons (.int _) (.cons (.int _) .nil))) (packed_data fun q hq => h q (List.mem_cons_of_mem _ hq))
theorem packed_lay : ∀ ps : List (Addr × Int × Int), PyData.canLayAll0 (ps.map fun p => PyData.tuple [.int p.2.1, .int p.2.2]) = true ∧ PyData.depthAll (ps.map fun p => PyData.tuple [.int p.2.1, .int p.2.2]) ≤ 1
  | [] => ⟨by simp [PyData.canLayAll0], by simp [PyData.depthAll]⟩
  | p :: r => by
    obtain ⟨h1, h2⟩ := packed_lay r
    simp only [List.map_cons, PyData.canLayAll0, PyData.canLay0, PyData.depthAll, PyData.depth, h1, Bool.and_true, true_and]
    omega
theorem packed_shaped (ps : List (Addr × Int × Int)) : SeqAt.shaped (.tuple (ps.map fun p => PyData.tuple [.int p.2.1, .int p.2.2])) = true := by
  obtain ⟨h1, h2⟩ := packed_lay ps
  unfold SeqAt.shaped
  simp only [PyData.canLay0, PyData.depth, h1, Bool.true_and]
  exact decide_eq_true (by omega)
abbrev LE := Addr × Int × Addr × List (Addr × Int × Int)
def LE.lc (e : LE) : Cn := e.2.2.2.map (·.2)
def ListedAt (cs : List Int) (H : Hp) (t : Addr) (L : List LE) : Prop := H t = some (.tup (L.map fun e => V.ref e.1)) ∧ L.length ≤ 63 ∧ ∀ e ∈ L, H e.1 = some (.tup [.int e.2.1, .ref e.2.2.1]) ∧ PackAt H e.2.2.1 e.2.2.2 ∧ Cnt cs (LE.lc e)
theorem ListedAt.ext {cs : List Int} {H H1 : Hp} {t : Addr} {L : List LE} (h : ListedAt cs H t L) (s : Ext H H1) : ListedAt cs H1 t L := ⟨s _ _ h.1 trivial, h.2.1, fun e he => ⟨s _ _ (h.2.2 e he).1 trivial, (h.2.2 e he).2.1.ext s, (h.2.2 e he).2.2⟩⟩
theorem ListedAt.same {cs : List Int} {H H1 : Hp} {t : Addr} {L : List LE} (h : ListedAt cs H t L) (s : Same H H1) : ListedAt cs H1 t L := h.ext (.of s)
def spListed (K : PySem.W.Frag) (cs : List Int) : Sp := fun vs H Q _ => ∃ p t hs R, vs = [.ref p] ∧ KnAt K cs H p t hs R ∧ cs.length ≤ 60 ∧
  ∀ q L H', H q = none → Same H H' → ListedAt cs H' q L → (∀ e ∈ L, e.2.1 ∈ hs ∧ ∀ c, cnt (LE.lc e) c = cnt (rowR R e.2.1) c) → Q (.ref q) H'
theorem ok_Known_listed (A : All P w K mg base CT) {cs : List Int}: MOk P w K mg base CX0 3 (He.ga K "Known") "listed" ["self"] [] (spListed K cs) := by
  obtain ⟨fd, F⟩ := fu_Known_listed A.d
  refine ⟨cl_Known A.d, _, fd, [], FunD.ok0 F sc_Known_listed (fun vs H Q E h => ?_) (fun cdv A0 outer s H vs Q E hr h => ?_), me_Known_listed A.d, F.bindsN fun _ _ _ _ _ _ us hl => match us, hl with | [_], _ => rfl, .nil⟩
  · obtain ⟨p, t, hs, R, rfl, hk, hl, k⟩ := h
    rfl
  · obtain ⟨p, t, hs, R, rfl, hk, hl, k⟩ := h
    have hu := hu_of hr
    refine ⟨_, pss_cons (ps_set (i := 1) sc_Known_listed.nd rfl (by first | exact Or.inl rfl | exact Or.inr rfl) (pe_lst pa_nil))
      (pss_cons (ps_for PassesOwn.never rfl (pi_list (pe_callB (call_sortedDI rfl) (by rfl) (fr_sorted A.kin A.ns A.d) (by decide +kernel) (pa_cons (pe_Known_table A.d (pv 0)) pa_nil))) (pg_name (i := 2) sc_Known_listed.nd rfl (by first | exact Or.inl rfl | exact Or.inr rfl)) (pss_cons (ps_set (i := 3) sc_Known_listed.nd rfl (by first | exact Or.inl rfl | exact Or.inr rfl) ((ok_packed A (cs := cs)).pe hr pass0 (pa_cons (pe_dget hu (pe_Known_table A.d (pv 0)) (pv 2) (fun _ _ => rfl)) pa_nil))) (pss_one (ps_if (pt_cmpR (op_neD hr.units) (pv 3) (pe_tup pa_nil) (nomark _)) (pss_one (ps_expr (pe_bm PySem.F.plainAttrs_list PySem.F.slot_list_append PySem.F.type_list_append mt_append (pv 1) (pa_cons (pe_tup (pa_cons (pv 2) (pa_cons (pv 3) pa_nil))) pa_nil)))) pss_nil))))
      (pss_one (ps_ret (pe_callTy (call_tuple_of) (by rfl) (fr_tuple A.kin A.ns A.d) (by decide +kernel) (pa_cons (pv 1) pa_nil))))), ?_⟩
    obtain ⟨⟨dx, ci, od, h1, h2⟩, h3, h4, h5, h6⟩ := id hk
    refine ⟨Nat.zero_le _, fun f hf => ?_⟩
    have s0 : Same H (upd H f (.lst [])) := same_new hf
    have hRl := hk.len
    have keys : (encR R).map (·.1) = (R.map (·.1)).map Sum.inl := by
      unfold encR
      rw [List.map_map, List.map_map]; rfl
    refine ⟨_, rfl, p, dx, _, rfl, s0 _ _ h1, t, encR R, R.map (·.1), rfl, .inl (s0 _ _ h3), keys, by rw [List.length_map]; omega, fun ys q0 hp _ hq0 => ?_⟩
    have hq0H : H q0 = none := s0.free hq0
    have nfq : f ≠ q0 := ne_of_none upd_same hq0
    have hyl : ys.length ≤ 63 := by rw [hp.length_eq, List.length_map]; omega
    refine ⟨q0, rfl, ⟨_, SqL.of upd_same⟩, for_list (K := K) (a := q0) (xs := ys.map V.int) (fun i σ H1 => ∃ (v2 v3 : Option V) (L : List LE), σ = [some (.ref p), some (.ref f), v2, v3] ∧ Same H H1 ∧ H1 q0 = some (.lst (ys.map V.int)) ∧ H1 f = some (.lst (L.map fun e => V.ref e.1)) ∧ L.length ≤ i ∧ (∀ e ∈ L, H1 e.1 = some (.tup [.int e.2.1, .ref e.2.2.1]) ∧ PackAt H1 e.2.2.1 e.2.2.2 ∧ Cnt cs (LE.lc e)) ∧ ∀ e ∈ L, e.2.1 ∈ hs ∧ ∀ c, cnt (LE.lc e) c = cnt (rowR R e.2.1) c)
      ⟨none, none, [], rfl, same_set s0 hq0H, upd_same, by rw [upd_ne nfq, upd_same]; rfl, Nat.le_refl _, fun _ h => (nomatch h), fun _ h => (nomatch h)⟩ (fun i σ H1 _ ⟨_, _, _, _, _, h, _⟩ => SqL.of h) ?_ ?_⟩
    · rintro i x σ H1 hx ⟨v2, v3, L, rfl, s1, hq1, hf1, hLi, hL, hL2⟩
      rw [List.getElem?_map] at hx
      obtain ⟨g, eg, rfl⟩ := Option.map_eq_some_iff.mp hx
      have hi : i < ys.length := (List.getElem?_eq_some_iff.mp eg).1
      have hgR : g ∈ R.map (·.1) := hp.mem_iff.mp (List.mem_of_getElem? eg)
      obtain ⟨e, he, ee⟩ := List.mem_map.mp hgR
      have egR : getG R g = some e.2 := by rw [← ee]; exact getG_of_mem h5 he
      obtain ⟨⟨od2, z1⟩, z2, z3⟩ := h4 e he
      have hrow : rowR R g = e.2.2 := by unfold rowR; rw [egR]
      refine ⟨_, rfl, p, dx, _, rfl, s1 _ _ h1, _, rfl, t, _, rfl, .inl ⟨encR R, .inl g, .inl (s1 _ _ h3), rfl, ?_⟩, e.2.1, e.2.2, rfl, .inr ⟨od2, s1 _ _ z1⟩, z2, hl, fun T ps H2 hT s2 hpk hperm => ?_⟩
      · rw [val_encR, egR]; rfl
      · have hcnt : ∀ c, cnt (ps.map (·.2)) c = cnt (rowR R g) c := fun c => by rw [hrow]; exact cnt_congr_perm z2.nd hperm c
        refine ⟨_, rfl, Nat.zero_le _, fun u hu2 => ⟨_, _, .tup (SqT.of (same_new hu2 _ _ hpk.1)) (packed_data (ps := ps) fun x hx => same_new hu2 _ _ (hpk.2 x hx)), .tup (SqT.of upd_same) .nil, packed_shaped ps, by rfl, _, rfl, ?_⟩⟩
        have s3 : Same H2 (upd H2 u (.tup [])) := same_new hu2
        have s13 := s2.trans s3
        refine ite2 (fun _ => ?_) (fun _ => ?_)
        · refine ⟨_, rfl, .inl ⟨rfl, _, .inl (.inl (s13 _ _ hf1))⟩, _, rfl, _, rfl, (by show 2 ≤ sizeLine; decide), fun W hW => ?_⟩
          have s4 : Same (upd H2 u (.tup [])) (upd (upd H2 u (.tup [])) W (.tup [.int g, .ref T])) := same_new hW
          have s14 := s13.trans s4
          have hf4 := s14 _ _ hf1
          refine ⟨f, _, _, rfl, rfl, hf4, by rw [List.length_map]; exact small1000 (by omega), _, _, L ++ [(W, g, T, ps)], rfl, same_set (s1.trans s14) hf, ?_, by rw [upd_same, List.map_append]; rfl, by rw [List.length_append]; exact Nat.add_le_add_right hLi 1, fun y hy => ?_, fun y hy => ?_⟩
          · rw [upd_ne nfq.symm]; exact s14 _ _ hq1
          · have step : ∀ y : LE, (upd (upd H2 u (.tup [])) W (.tup [.int g, .ref T])) y.1 = some (.tup [.int y.2.1, .ref y.2.2.1]) → PackAt (upd (upd H2 u (.tup [])) W (.tup [.int g, .ref T])) y.2.2.1 y.2.2.2 → Cnt cs (LE.lc y) →
                upd (upd (upd H2 u (.tup [])) W (.tup [.int g, .ref T])) f (.lst (L.map (fun e => V.ref e.1) ++ [.ref W])) y.1 = some (.tup [.int y.2.1, .ref y.2.2.1]) ∧ PackAt (upd (upd (upd H2 u (.tup [])) W (.tup [.int g, .ref T])) f (.lst (L.map (fun e => V.ref e.1) ++ [.ref W]))) y.2.2.1 y.2.2.2 ∧ Cnt cs (LE.lc y) := fun y a1 a2 a3 => by
              have ex : Ext (upd (upd H2 u (.tup [])) W (.tup [.int g, .ref T])) (upd (upd (upd H2 u (.tup [])) W (.tup [.int g, .ref T])) f (.lst (L.map (fun e => V.ref e.1) ++ [.ref W]))) := Kp.ext (F := [f]) (Kp.upd Kp.refl List.mem_cons_self) fun x hx o ho => by
                rw [List.mem_singleton.mp hx, hf4] at ho; cases ho; exact fun z => z
              exact ⟨ex _ _ a1 trivial, a2.ext ex, a3⟩
            rcases List.mem_append.mp hy with hy | hy
            · obtain ⟨a1, a2, a3⟩ := hL y hy
              exact step y (s14 _ _ a1) (a2.same s14) a3
            · have e2 := List.mem_singleton.mp hy
              subst e2
              exact step _ upd_same ((hpk.same s3).same s4) (z2.perm hperm)
          · rcases List.mem_append.mp hy with hy | hy
            · exact hL2 y hy
            · have e2 := List.mem_singleton.mp hy
              subst e2
              exact ⟨by rw [← ee]; exact z3, hcnt⟩
        · exact ⟨_, _, L, rfl, s1.trans s13, s13 _ _ hq1, s13 _ _ hf1, Nat.le_succ_of_le hLi, fun y hy => ⟨s13 _ _ (hL y hy).1, (hL y hy).2.1.same s13, (hL y hy).2.2⟩, hL2⟩
    · rintro σ H1 ⟨v2, v3, L, rfl, s1, hq1, hf1, hLi, hL, hL2⟩
      rw [List.length_map] at hLi
      refine ⟨_, rfl, f, _, rfl, .inl ⟨SqL.of hf1, fun T hT => ?_⟩⟩
      have s2 : Same H1 (upd H1 T (.tup (L.map fun e => V.ref e.1))) := same_new hT
      exact k T L _ (s1.free hT) (s1.trans s2) ⟨upd_same, by omega, fun e he => ⟨s2 _ _ (hL e he).1, (hL e he).2.1.same s2, (hL e he).2.2⟩⟩ hL2
def spMerge (K : PySem.W.Frag) (cs : List Int) : Sp := fun vs H Q _ => ∃ p t hs R q L, vs = [.ref p, .ref q] ∧ KnAt K cs H p t hs R ∧ ListedAt cs H q L ∧ cs.length ≤ 60 ∧
  ∀ R' H', Kp [t] H H' → KnAt K cs H' p t hs R' → (∀ g ∈ hs, ∀ c, cnt (rowR R g) c ≤ cnt (rowR R' g) c) → (∀ g ∈ hs, ∀ c m, m ≤ cnt (rowR R' g) c → m ≤ cnt (rowR R g) c ∨ ∃ e ∈ L, e.2.1 = g ∧ m ≤ cnt (LE.lc e) c) → Q .non H'
theorem ok_Known_merge (A : All P w K mg base CT) {cs : List Int}: MOk P w K mg base CX0 4 (He.ga K "Known") "merge" ["self", "listed"] [] (spMerge K cs) := by
  obtain ⟨fd, F⟩ := fu_Known_merge A.d
  refine ⟨cl_Known A.d, _, fd, [], FunD.ok0 F sc_Known_merge (fun vs H Q E h => ?_) (fun cdv A0 outer s H vs Q E hr h => ?_), me_Known_merge A.d, F.bindsN fun _ _ _ _ _ _ us hl => match us, hl with | [_, _], _ => rfl, .nil⟩
  · obtain ⟨p, t, hs, R, q, L, rfl, hk, hq, hl, k⟩ := h
    rfl
  · obtain ⟨p, t, hs, R, q, L, rfl, hk, hq, hl, k⟩ := h
    have hu := hu_of hr
    refine ⟨_, pss_one (ps_for PassesOwn.never rfl (pi_tup (pv 1)) (pg_tup rfl (pgs_cons (pg_name (i := 2) sc_Known_merge.nd rfl (by first | exact Or.inl rfl | exact Or.inr rfl)) (pgs_cons (pg_name (i := 3) sc_Known_merge.nd rfl (by first | exact Or.inl rfl | exact Or.inr rfl)) pgs_nil))) (pss_one (ps_expr ((ok_Known_learn A (cs := cs)).pe hr pass0 (pv 0) (pa_cons (pv 2) (pa_cons ((ok_unpacked A).pe hr pass0 (pa_cons (pv 3) pa_nil)) pa_nil)))))), ?_⟩
    have htt := hk.2.1
    have exK : ∀ H1, Kp [t] H H1 → Ext H H1 := fun H1 kp => kp.ext fun x hx o ho => by
      rw [List.mem_singleton.mp hx, htt] at ho; cases ho; exact fun z => z
    refine ⟨_, rfl, q, rfl, ⟨_, SqT.of hq.1⟩, for_tup (K := K) (a := q) (xs := L.map fun e => V.ref e.1) (fun i σ H1 => ∃ (v2 v3 : Option V) (R' : Rows), σ = [some (.ref p), some (.ref q), v2, v3] ∧ Kp [t] H H1 ∧ KnAt K cs H1 p t hs R' ∧ (∀ g ∈ hs, ∀ c, cnt (rowR R g) c ≤ cnt (rowR R' g) c) ∧ (∀ g ∈ hs, ∀ c m, m ≤ cnt (rowR R' g) c → m ≤ cnt (rowR R g) c ∨ ∃ e ∈ L, e.2.1 = g ∧ m ≤ cnt (LE.lc e) c))
      ⟨none, none, R, rfl, Kp.refl, hk, fun _ _ _ => Int.le_refl _, fun _ _ _ _ h => .inl h⟩ (fun i σ H1 _ ⟨_, _, _, _, kp, _⟩ => SqT.of (exK H1 kp _ _ hq.1 trivial)) ?_ ?_⟩
    · rintro i x σ H1 hx ⟨v2, v3, R1, rfl, kp, hk1, hm1, hm2⟩
      rw [List.getElem?_map] at hx
      obtain ⟨e, ee, rfl⟩ := Option.map_eq_some_iff.mp hx
      have heL := List.mem_of_getElem? ee
      obtain ⟨a1, a2, a3⟩ := (hq.ext (exK H1 kp)).2.2 e heL
      have hnd : mkC (LE.lc e) = LE.lc e := mkC_self a3.nd
      have hlen : e.2.2.2.length ≤ 1000 := by
        have := a3.len
        unfold LE.lc at this
        rw [List.length_map] at this
        omega
      obtain ⟨⟨dx, ci, od, h1, h2⟩, _⟩ := id hk1
      refine ⟨e.1, _, rfl, SqT.of a1, rfl, _, _, rfl, _, _, rfl, rfl, ?_⟩
      refine ⟨_, rfl, p, dx, _, rfl, h1, by kernel_rfl, _, rfl, _, rfl, _, e.2.2.2, rfl, a2, hlen, fun u H2 hu2 s2 h2u => ⟨p, t, hs, R1, e.2.1, u, LE.lc e, rfl, hk1.same s2, by rw [h2u]; show some (HO.dK (encC (mkC (LE.lc e)))) = _; rw [hnd], a3, hl, fun R2 H3 kp3 hk3 hr3 => ?_⟩⟩
      refine ⟨_, _, R2, rfl, (kp.trans (Kp.of s2)).trans kp3, hk3, fun g hg c => ?_, fun g hg c m hm => ?_⟩
      · have h3 := hr3 g hg c
        have h4 := hm1 g hg c
        by_cases hge : g = e.2.1
        · rw [if_pos hge] at h3; omega
        · rw [if_neg hge] at h3; omega
      · have h3 := hr3 g hg c
        by_cases hge : g = e.2.1
        · rw [if_pos hge] at h3
          by_cases h5 : m ≤ cnt (rowR R1 g) c
          · exact hm2 g hg c m h5
          · exact .inr ⟨e, heL, hge.symm, by omega⟩
        · rw [if_neg hge] at h3
          exact hm2 g hg c m (by omega)
    · rintro σ H1 ⟨v2, v3, R1, rfl, kp, hk1, hm1, hm2⟩
      exact k R1 H1 kp hk1 hm1 hm2

end
end G
namespace G
open PySem PySem.Spec L2
open PyProof.Rows hiding St
section
variable {P : Program} {w : World} {K : PySem.W.Frag} {mg : Str → Option Value} {base : Heap} {CT : Addr × Addr}
/-! ### keys of sorted and min: a def that gives a pair of whole numbers and leaves all as it was, by the state itself -/
section
variable {X : Cx} {pins : List (Addr × Obj)} {σ : L2.St} {H : Hp} {s : Shared} {Q : Value → Shared → Prop} {E : Value → Shared → Prop}
theorem x_name {i : Nat} {x : Str} {p : Pos} {v : V} (I : Inv X pins σ H s) (hN : X.N[i]? = some x) (hk : X.env.scope.names.lookup x = some .local) (hs : σ[i]? = some (some v)) (hd : (x == ("__debug__" : Str)) = false) (h : ∀ u, RelV v u → Q u s) :
    wpAny (model X.prog X.w) X.A (eval (.Name x p) X.env) Q E s := by
  obtain ⟨m, hn, hl⟩ := I.loc
  obtain ⟨u, r, l⟩ := hl i x v hN hs (.inl hk)
  rcases l with ⟨k, hm⟩ | ⟨k, _⟩
  · exact wpAny_Name (wpAny_loadName_local I.ok.kind k hn hm (h u r)) hd
  · have k2 : X.env.kindOf x = some .local := hk
    rw [k2] at k
    rcases k with k | k <;> cases k
theorem x_attr {a C dx : Addr} {fs : List (Str × V)} {f : Str} {v : V} {A : Around} {b : Bool} (I : Inv X pins σ H s) (e : H a = some (.ins C dx fs)) (c : Cls X.K C) (n : NoAttr X.K C f) (l : fs.lookup f = some v) (h : ∀ u, RelV v u → Q u { s with toks := s.toks + 1 }) :
    wpAny (model X.prog X.w) A (getAttr (.ref a) f b) Q E s := by
  obtain ⟨mA, O, r, _, _, _⟩ := ins_get I.hok e
  obtain ⟨u, hu, ru⟩ := RelO.some_of (v := v) (o := mA f) (by rw [← l]; exact r f)
  exact get_map I.kIn O (c.get f) c.hd n hu (handed_of ru) (h u ru)
/-- a name's field, a name's item -/
def XE1 (X : Cx) (e : Expr) (σ : L2.St) (H : Hp) (i : Int) : Prop := ∀ (pins : List (Addr × Obj)) (s : Shared) (Q E : Value → Shared → Prop), Inv X pins σ H s → (∀ t tk, Q (.int i t) { s with toks := tk }) → wpAny (model X.prog X.w) X.A (eval e X.env) Q E s
theorem xe_field {j : Nat} {x f : Str} {p pos : Pos} {a C dx : Addr} {fs : List (Str × V)} {i : Int} (hN : X.N[j]? = some x) (hk : X.env.scope.names.lookup x = some .local) (hs : σ[j]? = some (some (.ref a))) (hd : (x == ("__debug__" : Str)) = false)
    (hb : attributeBase (.Name x p) f X.env (eval (.Name x p) X.env) = eval (.Name x p) X.env) (e : H a = some (.ins C dx fs)) (c : Cls X.K C) (n : NoAttr X.K C f) (l : fs.lookup f = some (.int i)) : XE1 X (.Attribute (.Name x p) f pos) σ H i := fun pins s Q E I h => by
  refine attr_of hb (x_name I hN hk hs hd fun u ru => ?_)
  obtain rfl : u = Value.ref a := ru
  refine x_attr I e c n l fun u2 r2 => ?_
  obtain ⟨t, rfl⟩ := r2
  exact h t _
theorem xe_item {j k : Nat} {x : Str} {p q pos : Pos} {a : Addr} {xs : List V} {i z : Int} (hN : X.N[j]? = some x) (hk : X.env.scope.names.lookup x = some .local) (hs : σ[j]? = some (some (.ref a))) (hd : (x == ("__debug__" : Str)) = false)
    (e : SqT X.K H a xs) (l : atI xs z = some (.int i)) (hx : PlainIx (.Constant (.int z) k q)) : XE1 X (.Subscript (.Name x p) (.Constant (.int z) k q) pos) σ H i := fun pins s Q E I h => by
  refine Subscript_ (x_name I hN hk hs hd fun u ru => ?_)
  obtain rfl : u = Value.ref a := ru
  refine wpAny_Constant_int ?_
  have I1 := I.tok (s.toks + 1)
  obtain ⟨its, r, pl, hz⟩ := I1.tuple e
  obtain ⟨m, h1, h2, h3, h4, h5⟩ := atI_get l
  obtain ⟨w, ew, rw'⟩ := r.get h2
  obtain ⟨t, rfl⟩ := rw'
  have hl := r.length
  have hn := line63
  exact subscriptTail_builtinR (x := .int i t) pl.typeIs slot_tuple_getitem.lookup
    (getItem_tuple (j := m) (Q := fun r s' => r = .int i t ∧ Q r s') pl (by omega) (by omega) (by rw [List.size_toArray, ← hl]; exact h1) (by simpa using ew) ⟨rfl, h t _⟩) (hx _ _)
end
def KeyP (i j : Int) (s1 : Shared) (v : Value) (s2 : Shared) : Prop := ∃ h' tk T t u, s2 = { s1 with heap := h', toks := tk } ∧ (∀ b o, s1.heap.get? b = some o → h'.get? b = some o) ∧ v = .ref T ∧ s1.heap.get? T = none ∧ h'.get? T = some { cls := .type "tuple", data := .seq (List.toArray [.int i t, .int j u]) }
theorem KeyP.pure {i j : Int} {s1 s2 : Shared} {v : Value} (h : KeyP i j s1 v s2) : PySem.W.KeyPure (.tuple [.int i, .int j]) s1 v s2 := by
  obtain ⟨h', tk, T, t, u, rfl, kp, rfl, hn, hT⟩ := h
  exact ⟨h', tk, rfl, kp, PySem.Reads.tuple hT rfl rfl (PySem.ReadsAll.cons (PySem.Reads.int i t) (PySem.ReadsAll.cons (PySem.Reads.int j u) PySem.ReadsAll.nil))⟩
/-- return (e1, e2) -/
theorem key_run {x qual : Str} {params : Arguments} {scope : Scope} {dvs : List V} {kws : List (Str × V)} {f : Addr} {fd : FuncData} {N ps : List Str} {e1 e2 : Expr} {k1 : Nat} {p1 p2 : Pos} {A : Around} {outer : List Env} {s : Shared} {H : Hp} {us : List Value} {vs : List V} {i1 i2 : Int} {E : Value → Shared → Prop}
    (F : FunD K x qual params [.Return (some (.Tuple [e1, e2] k1 p1)) p2] scope dvs kws f fd) (S : FnScope N ps scope) (hb : BindsTo s fd ⟨us, []⟩ (ps.zip us)) (hl : vs.length = ps.length) (r : Vals vs us) (hr : Room 1 A) (e0 : Env0 P w K mg base A outer s H)
    (h1 : ∀ cd, XE1 (cxOf CX0 P w K mg base N qual scope f cd A outer s H E0) e1 (start N vs) H i1) (h2 : ∀ cd, XE1 (cxOf CX0 P w K mg base N qual scope f cd A outer s H E0) e2 (start N vs) H i2)
    (hbt : ∀ env, backTo p1 (starEach [e1, e2] env) = [(false, eval e1 env), (false, eval e2 env)]) :
    wpAny (model P w) A (call (.ref f) us) (KeyP i1 i2 s) E s := by
  obtain ⟨oc, od, dV, kV, doc, pm, an, cdv, ct, osl, rfl, lk, hcd, _, _⟩ := F.ex
  have KX : K.In s.heap := e0.mod.kin.keeps fun b o e => (e0.bs b o e).1
  have lim : s.heap.NoLimit := e0.mod.nolimit.keeps fun b o e => (e0.bs b o e).1
  have hkind : ∀ y ∈ ps.zip us, scope.names.lookup y.1 = some .local ∨ (scope.names.lookup y.1 = some .cell ∧ ((cellsFrom (s.heap.objs.size + 1) scope.names []).lookup y.1).isSome = true) := fun ⟨n, v⟩ hy => by
    rcases S.par n (List.of_mem_zip hy).1 with q | q
    · exact .inl q
    · exact .inr ⟨q, PySem.W.cellsFrom_some _ _ _ (.inl q)⟩
  refine wpAny_call (codeAny_call_function hr.depth (KX _ _ lk) rfl S.co S.gen rfl (PySem.W.codeRec_of KX hcd) (hb _ _ _ _ ?_))
  refine wpAny_newFunctionEnv_cells S.kind hkind fun env he s1 x => ?_
  subst he
  refine ⟨lim.keeps x.toInCall.keep, codeAny_func ?_⟩
  have I := inv_start (CX := CX0) (E := E0) (w := w) (cd := cdv) (qual := qual) (f := f) S hr.hd e0 hl r x
  obtain ⟨hh, tk, rfl, keep⟩ := x.done
  refine wpAny_execs_cons (wpAny_Return_some (wpAny_Tuple_spliced ?_))
  rw [hbt]
  refine Calls.spliced_cons (h1 cdv [] _ _ _ I fun t1 tk1 => ?_)
  refine Calls.spliced_cons (h2 cdv [] _ _ _ (I.tok tk1) fun t2 tk2 => ?_)
  refine Calls.spliced_nil ⟨(by show 2 ≤ sizeLine; decide), ?_⟩
  refine ⟨hh.push { cls := .type "tuple", data := .seq (List.toArray [.int i1 t1, .int i2 t2]) }, tk2, hh.objs.size, t1, t2, rfl, fun b o e => Heap.get?_push_of_some _ (keep b o e), rfl, ?_, Heap.get?_push_size _ rfl⟩
  cases q : s.heap.get? hh.objs.size with
  | none => rfl
  | some o => exact absurd (Heap.lt_size (keep _ _ q)) (Nat.lt_irrefl _)

end
end G
namespace G
open PySem PySem.Spec L2
open PyProof.Rows hiding St
section
variable {P : Program} {w : World} {K : PySem.W.Frag} {mg : Str → Option Value} {base : Heap} {CT : Addr × Addr}
/-! ### sorted(.., key=f), f a def that gives a pair -/
def KeyFn (X : Cx) (f : Addr) (H : Hp) (x : V) (ij : Int × Int) : Prop := ∀ (A0 : Around) (s' : Shared) (u : Value) (E : Value → Shared → Prop), Env0 X.prog X.w X.K X.mg X.base A0 X.stack s' H → Room 1 A0 → RelV x u →
  wpAny (model X.prog X.w) A0 (call (.ref f) [u]) (KeyP ij.1 ij.2 s') E s'
def kD (kf : V → Int × Int) (x : V) : PyData := .tuple [.int (kf x).1, .int (kf x).2]
theorem kD_alike (kf : V → Int × Int) (l : List V) : PySem.W.AllAlike (l.map (kD kf)) := PySem.W.AllAlike.of fun _ _ => by simp [PySem.W.alike, PySem.W.alikeAll, kD]
theorem each_vals : ∀ {us : List Value} {xs : List V}, PySem.W.EachIs (fun v x => RelV x v) us xs → Vals xs us
  | _, _, .nil => .nil
  | _, _, .cons h t => .cons h (each_vals t)
theorem vals_each : ∀ {us : List Value} {xs : List V}, Vals xs us → PySem.W.EachIs (fun v x => RelV x v) us xs
  | _, _, .nil => .nil
  | _, _, .cons h t => .cons h (vals_each t)
section
variable {X : Cx} {f : Addr}
theorem key_turn {pins : List (Addr × Obj)} {σ : L2.St} {H : Hp} {s : Shared} {kf : V → Int × Int} {xs : List V} {x : V} {v : Value} {j : Nat} (I : Inv X pins σ H s) (hr : Room j X.A) (hj : 3 ≤ j) (hk : ∀ x ∈ xs, KeyFn X f H x (kf x)) (rv : RelV x v) (hx : x ∈ xs) (h : Heap) (tk : Nat)
    (kp : ∀ b o, s.heap.get? b = some o → h.get? b = some o) : wpAny (model X.prog X.w) X.A.in1.in1 (call (.ref f) [v]) (PySem.W.KeyPure (kD kf x) { s with heap := h, toks := tk }) (fun _ _ => False) { s with heap := h, toks := tk } := by
  have I1 : Inv X pins σ H { s with heap := h, toks := tk } := I.kept kp
  exact wpAny_mono (hk x hx _ _ v _ I1.env0.in1.in1 (Room.in1 (Room.in1 (hr.mono hj))) rv) (fun _ _ q => q.pure) fun _ _ q => q
def rSortKey (X : Cx) (f : Addr) : List V → List V → Hp → VK → Prop := fun vs zs H Q => ∃ (a : Addr) (xs : List V) (kf : V → Int × Int), vs = [.ref a] ∧ zs = [.ref f] ∧ SqL X.K H a xs ∧ (∀ x ∈ xs, KeyFn X f H x (kf x)) ∧ ∀ ys p, ys.Perm xs → H p = none → Q (.ref p) (upd H p (.lst ys))
theorem cr_sortKey {j : Nat} (hr : Room j X.A) (hj : 3 ≤ j) : CallRK X (.builtin "sorted") [Str.ofString "key"] (rSortKey X f) := by
  intro pins s σ H vs zs us ws Q I r rz h
  obtain ⟨a, xs, kf, rfl, rfl, hs, hk, q⟩ := h
  obtain rfl := Vals.ref1 r
  obtain ⟨w1, rfl, e1⟩ := vals1 rz
  obtain rfl : w1 = Value.ref f := e1
  obtain ⟨its, rv, hl, hz⟩ := I.list hs
  refine PySem.W.sorted_key_data (b := false) (kD kf) hl.isList (vals_each rv) (kD_alike kf xs) (PySem.W.Sortable.tuples fun _ => ⟨_, _, rfl⟩) hz (fun x _ => ?_) (PyProof.Rows.ksk_s1 _ _) (fun _ => PyProof.Rows.ksk_l1 _ _) (fun _ => PyProof.Rows.ksk_t1 _ _)
    (fun v x rx hx h tk kp => key_turn I hr hj hk rx hx h tk kp) fun out c h' tk kp hn ho hlen eo => ?_
  · have hd : (kD kf x).depth = 1 := by simp [kD, PyData.depth, PyData.depthAll]
    have := hr.units
    omega
  · have rv2 := each_vals eo
    exact ⟨.ref _, upd H (s.heap.objs.size + 1) (.lst _), I.laid (t' := tk) kp (Nat.le_succ _) ⟨by rw [List.length_mergeSort]; exact hz, out, c, rv2, ho⟩, rfl, q _ _ (List.mergeSort_perm _ _) (I.hok.fresh (Nat.le_succ _))⟩
end

end
end G
namespace G
open PySem PySem.Spec L2
open PyProof.Rows hiding St
section
variable {P : Program} {w : World} {K : PySem.W.Frag} {mg : Str → Option Value} {base : Heap} {CT : Addr × Addr}
/-! ### the two key defs -/
def toI : Option V → Int
  | some (.int i) => i
  | _ => 0
def callKey (H : Hp) : V → Int × Int
  | .ref a => match H a with
    | some (.ins _ _ fs) => (toI (fs.lookup ("caller" : Str)), toI (fs.lookup ("count" : Str)))
    | _ => (0, 0)
  | _ => (0, 0)
def rowKey (H : Hp) : V → Int × Int
  | .ref a => match H a with
    | some (.tup xs) => (toI (xs[1]?), toI (xs[2]?))
    | _ => (0, 0)
  | _ => (0, 0)
theorem callKey_of {K : PySem.W.Frag} {H : Hp} {a : Addr} {d : Cd} (h : CallAt K H a d) : callKey H (.ref a) = (d.c, d.k) := by
  obtain ⟨⟨dx, e⟩, _⟩ := h
  show (match H a with
    | some (.ins _ _ fs) => (toI (fs.lookup ("caller" : Str)), toI (fs.lookup ("count" : Str)))
    | _ => (0, 0)) = _
  rw [e]
  show (toI ((callFs d.n d.c d.k d.w d.z).lookup ("caller" : Str)), toI ((callFs d.n d.c d.k d.w d.z).lookup ("count" : Str))) = _
  rw [look_caller, look_count]; rfl
theorem rank_key {X : Cx} (A : All X.prog X.w X.K X.mg X.base CT) {H : Hp} {a : Addr} {d : Cd} (h : CallAt X.K H a d) : KeyFn X (He.ga X.K "rank") H (.ref a) (callKey H (.ref a)) := by
  rw [callKey_of h]
  intro A0 s' u E e0 hr rv
  obtain ⟨fd, F⟩ := fu_rank A.d
  obtain ⟨⟨dx, e⟩, _⟩ := h
  have bnd : Binds X.K fd ["call"] [] := F.bindsN fun _ _ _ _ _ _ us hl => match us, hl with | [_], _ => rfl
  have b := bnd s' [u] (e0.mod.kin.keeps fun b o e => (e0.bs b o e).1) rfl
  rw [List.append_nil] at b
  exact key_run F sc_rank b rfl (.cons rv .nil) hr e0
    (fun cd => xe_field (j := 0) (x := "call") (a := a) rfl rfl rfl (by decide) rfl e (cl_kd A.d d.kd) (no_kd_caller A.d d.kd) look_caller)
    (fun cd => xe_field (j := 0) (x := "call") (a := a) rfl rfl rfl (by decide) rfl e (cl_kd A.d d.kd) (no_kd_count A.d d.kd) look_count) fun _ => rfl
theorem rowKey_of {H : Hp} {a : Addr} {x y z : V} {c k : Int} (h : H a = some (.tup [x, .int c, .int k, y, z])) : rowKey H (.ref a) = (c, k) := by
  show (match H a with
    | some (.tup xs) => (toI (xs[1]?), toI (xs[2]?))
    | _ => (0, 0)) = _
  rw [h]; rfl
theorem by_row_key {X : Cx} (A : All X.prog X.w X.K X.mg X.base CT) {H : Hp} {a : Addr} {x y z : V} {c k : Int} (h : H a = some (.tup [x, .int c, .int k, y, z])) : KeyFn X (He.ga X.K "by_row") H (.ref a) (rowKey H (.ref a)) := by
  rw [rowKey_of h]
  intro A0 s' u E e0 hr rv
  obtain ⟨fd, F⟩ := fu_by_row A.d
  have bnd : Binds X.K fd ["row"] [] := F.bindsN fun _ _ _ _ _ _ us hl => match us, hl with | [_], _ => rfl
  have b := bnd s' [u] (e0.mod.kin.keeps fun b o e => (e0.bs b o e).1) rfl
  rw [List.append_nil] at b
  exact key_run F sc_by_row b rfl (.cons rv .nil) hr e0
    (fun cd => xe_item (j := 0) (x := "row") (a := a) (z := 1) (i := c) rfl rfl rfl (by decide) (SqT.of h) rfl (fun _ _ => rfl))
    (fun cd => xe_item (j := 0) (x := "row") (a := a) (z := 2) (i := k) rfl rfl rfl (by decide) (SqT.of h) rfl (fun _ _ => rfl)) fun _ => rfl

end
end G
namespace G
open PySem PySem.Spec L2
open PyProof.Rows hiding St
section
variable {P : Program} {w : World} {K : PySem.W.Frag} {mg : Str → Option Value} {base : Heap} {CT : Addr × Addr}
/-! ### min(.., key=f) -/
section
variable {X : Cx} {f : Addr}
def rMinKey (X : Cx) (f : Addr) : List V → List V → Hp → VK → Prop := fun vs zs H Q => ∃ (a : Addr) (xs : List V) (kf : V → Int × Int), vs = [.ref a] ∧ zs = [.ref f] ∧ SqL X.K H a xs ∧ xs ≠ [] ∧ (∀ x ∈ xs, KeyFn X f H x (kf x)) ∧ ∀ x ∈ xs, Q x H
theorem cr_minKey {j : Nat} (hr : Room j X.A) (hj : 3 ≤ j) (hc : X.calm = true) : CallRK X (.builtin "min") [Str.ofString "key"] (rMinKey X f) := by
  intro pins s σ H vs zs us ws Q I r rz h
  obtain ⟨a, xs, kf, rfl, rfl, hs, hne, hk, q⟩ := h
  obtain rfl := Vals.ref1 r
  obtain ⟨w1, rfl, e1⟩ := vals1 rz
  obtain rfl : w1 = Value.ref f := e1
  obtain ⟨its, rv, hl, hz⟩ := I.list hs
  have hlen := rv.length
  refine PySem.call_min_walkK (PySem.W.iter_listW (A := X.A.in1) (I.ok.hd hc) hl.isList fun s2 es2 W hst hfp hold kp => ?_)
  have hs2 : s2.heap.objs.size = s.heap.objs.size + 1 := by rw [es2]; exact Heap.size_push _ _
  have frS : ∀ b o, s.heap.get? b = some o → b ≠ s2.heap.objs.size ∧ b ≠ s.heap.objs.size := fun b o e => ⟨by rw [hs2]; exact Nat.ne_of_lt (Nat.lt_succ_of_lt (Heap.lt_size e)), Nat.ne_of_lt (Heap.lt_size e)⟩
  have hget : ∀ (i : Nat) (v : Value), its.toArray[i]? = some v → ∃ x, xs[i]? = some x ∧ RelV x v := fun i v e => by
    have e2 : its[i]? = some v := by simpa using e
    have hi : i < its.length := (List.getElem?_eq_some_iff.mp e2).1
    obtain ⟨x, ex⟩ : ∃ x, xs[i]? = some x := ⟨_, List.getElem?_eq_getElem (by omega)⟩
    obtain ⟨w, ew, rw'⟩ := rv.get ex
    rw [e2] at ew; cases ew
    exact ⟨x, ex, rw'⟩
  refine ⟨_, _, _, _, its.toArray.size, _, _, (fun s' => ∃ h tk, s' = { s with heap := h, toks := tk } ∧ ∀ b o, s.heap.get? b = some o → h.get? b = some o),
    (fun i k s' => ∃ T t u x, xs[i]? = some x ∧ k = .ref T ∧ T ≠ s2.heap.objs.size ∧ T ≠ s.heap.objs.size ∧ s'.heap.get? T = some { cls := .type "tuple", data := .seq (List.toArray [.int (kf x).1 t, .int (kf x).2 u]) }),
    (fun i j => PySem.W.dataLt (kD kf (xs.getD i .non)) (kD kf (xs.getD j .non))), rfl, W, hst, hfp, ?_, ⟨?_, ?_, ?_, ?_⟩, ?_, ?_⟩
  · have := List.length_pos_iff.mpr hne
    rw [List.size_toArray]; omega
  · rintro s' s'' ⟨h, tk, rfl, k1⟩ hm
    refine ⟨s''.heap, s''.toks, (Moved.eq_with hm).trans rfl, fun b o e => hm.heap b o (fun hb => ?_) (k1 b o e)⟩
    obtain ⟨n1, n2⟩ := frS b o e
    rcases List.mem_cons.mp hb with z | z
    · exact n1 z
    · exact n2 (List.mem_singleton.mp z)
  · rintro i k s' s'' ⟨T, t, u, x, ex, rfl, n1, n2, hT⟩ hm
    refine ⟨T, t, u, x, ex, rfl, n1, n2, hm.heap T _ (fun hb => ?_) hT⟩
    rcases List.mem_cons.mp hb with z | z
    · exact n1 z
    · exact n2 (List.mem_singleton.mp z)
  · rintro i v s' o Q' E' hi hP ⟨h, tk, rfl, k1⟩ hst' hS hQ
    obtain ⟨x, ex, rx⟩ := hget i v hP
    have I1 : Inv X pins σ H { s with heap := h, toks := tk } := I.kept k1
    have hmem : x ∈ xs := List.mem_of_getElem? ex
    refine wpAny_mono (hk x hmem _ _ v (fun _ _ => False) I1.env0.in1 (Room.mono (Room.in1 (hr.mono hj)) (by decide)) rx) (fun k s'' z => ?_) fun _ _ z => z.elim
    obtain ⟨h', tk', T, t, u, rfl, kp', rfl, hn, hT⟩ := z
    refine hQ (.ref T) _ ⟨h', tk', rfl, fun b o e => kp' b o (k1 b o e)⟩ ⟨hst'.1.at fun oi e => kp' _ _ e, ?_⟩ (kp' _ _ hS) ⟨T, t, u, x, ex, rfl, fun z => ?_, fun z => ?_, hT⟩ ?_
    · obtain ⟨ol, el, rl⟩ := hst'.2
      exact ⟨ol, kp' _ _ el, rl⟩
    · subst z
      rw [hS] at hn; cases hn
    · subst z
      obtain ⟨oi, ei, _⟩ := hst'.1
      rw [show h.get? s.heap.objs.size = some oi from ei] at hn; cases hn
    · rintro j k' ⟨T2, t2, u2, x2, ex2, rfl, m1, m2, hT2⟩
      exact ⟨T2, t2, u2, x2, ex2, rfl, m1, m2, kp' _ _ hT2⟩
  · rintro i j ki kj s' Q' E' ⟨h, tk, rfl, k1⟩ ⟨T, t, u, x, ex, rfl, _, _, hT⟩ ⟨T2, t2, u2, x2, ex2, rfl, _, _, hT2⟩ hq
    have e1 : xs.getD i .non = x := by rw [List.getD_eq_getElem?_getD, ex]; rfl
    have e2 : xs.getD j .non = x2 := by rw [List.getD_eq_getElem?_getD, ex2]; rfl
    rw [e1, e2] at hq
    have r1 : Reads h (.ref T) (kD kf x) [] := PySem.Reads.tuple hT rfl rfl (PySem.ReadsAll.cons (PySem.Reads.int _ t) (PySem.ReadsAll.cons (PySem.Reads.int _ u) PySem.ReadsAll.nil))
    have r2 : Reads h (.ref T2) (kD kf x2) [] := PySem.Reads.tuple hT2 rfl rfl (PySem.ReadsAll.cons (PySem.Reads.int _ t2) (PySem.ReadsAll.cons (PySem.Reads.int _ u2) PySem.ReadsAll.nil))
    refine PySem.W.rcLt_alike (kD kf x) (kD kf x2) X.A.in1 _ _ _ _ _ r1 r2 (by simp [PySem.W.alike, PySem.W.alikeAll, kD]) (by unfold kD; exact fun z => nomatch z) ?_ X.prog X.w E' Q' hq
    have hd : ∀ x, (kD kf x).depth = 1 := fun x => by simp [kD, PyData.depth, PyData.depthAll]
    rw [hd, hd]
    have := (Room.in1 (hr.mono hj)).units
    omega
  · exact ⟨s2.heap, s2.toks, by rw [es2], kp⟩
  · rintro v s' hP ⟨h, tk, rfl, k1⟩
    obtain ⟨x, ex, rx⟩ := hget _ v hP
    exact ⟨x, H, I.kept k1, rx, q x (List.mem_of_getElem? ex)⟩
end
/-! ### d.values() of a dict with tuple keys, as a thing -/
def valsO (p d : Addr) : HO := .ext fun h => h.IsValuesView p d
theorem valsO_ok {P : Program} {w : World} {H : Hp} {h : Heap} {p d : Addr} (e : h.get? p = some { cls := .type "dict_values", data := .fields #[.ref d] }) : ObjOk P w H h p (valsO p d) :=
  ⟨⟨_, e, rfl, rfl⟩, ⟨_, e⟩, fun h1 h2 x k => let ⟨o, ho, r⟩ := x; ⟨o, k o ho, r⟩⟩
section
variable {X : Cx} {f : Addr}
def rValsT : V → List V → Hp → VK → Prop := fun x xs H Q => ∃ (a : Addr) (kvs : List (List L2.Key × V)), x = .ref a ∧ xs = [] ∧ H a = some (.dT kvs) ∧ ∀ p, H p = none → Q (.ref p) (upd H p (valsO p a))
theorem mt_valsT : MtR X "dict.values" rValsT := by
  intro pins s σ H x xs v us Q I rx rxs h
  obtain ⟨a, kvs, rfl, rfl, ha, q⟩ := h
  cases rx
  cases rxs
  obtain ⟨z, hd, xs', rel, dd⟩ := dt_of I.hok ha
  obtain ⟨es, ep, raw, _⟩ := dd.raw
  refine call_meetsIn PySem.F.slot_dict_values raw.typeIs PySem.F.entry_dict_values (PySem.F.args_dict_values_1 _) (PySem.meets_dict_values_raw a hd) ⟨⟨es, ep, raw⟩, ?_⟩
  have hf : H s.heap.objs.size = none := I.hok.fresh (Nat.le_refl _)
  exact ⟨.ref s.heap.objs.size, upd H s.heap.objs.size (valsO s.heap.objs.size a), I.laid (t' := s.toks) (fun b u e => Heap.get?_push_of_some _ e) (Nat.le_refl _) (valsO_ok (Heap.get?_push_size _ rfl)), rfl, q _ hf⟩
theorem vals_of_get : ∀ {xs : List V} {us : List Value}, xs.length = us.length → (∀ (i : Nat) (v : Value), us[i]? = some v → ∃ x, xs[i]? = some x ∧ RelV x v) → Vals xs us
  | [], [], _, _ => .nil
  | [], _ :: _, h, _ => by cases h
  | _ :: _, [], h, _ => by cases h
  | x :: xs, u :: us, hl, h => by
    obtain ⟨y, e, r⟩ := h 0 u rfl
    cases e
    exact .cons r (vals_of_get (Nat.succ.inj hl) fun i v e => h (i + 1) v e)
/-- the values of such a dict, as a source -/
theorem dt_src {pins : List (Addr × Obj)} {σ : L2.St} {H : Hp} {s : Shared} {p a : Addr} {kvs : List (List L2.Key × V)} (I : Inv X pins σ H s) (hp : H p = some (valsO p a)) (ha : Rd H a (.dT kvs)) :
    ∃ es ep, s.heap.IsValuesView p a ∧ s.heap.DictRaw a es ep ∧ es.size ≤ sizeLine ∧ ∀ acc : Array Value, ItemsOf (fun i v => ∃ hi : i < es.size, v = es[i].val) acc es.size → Vals (kvs.map (·.2)) acc.toList := by
  have view : s.heap.IsValuesView p a := (show ObjOk X.prog X.w H s.heap p (valsO p a) from I.hok p _ hp).1
  obtain ⟨z, hd, xs', rel, dd⟩ := dt_rd I.hok ha
  obtain ⟨es, ep, raw, hsz, hx⟩ := dd.raw
  have hl : kvs.length = xs'.length := Paired.length rel
  refine ⟨es, ep, view, raw, by omega, fun acc it => vals_of_get ?_ fun i v e => ?_⟩
  · have i1 := it.1
    have e1 : acc.toList.length = acc.size := Array.length_toList
    rw [List.length_map]; omega
  · obtain ⟨hi, ev⟩ := it.2 i v (by rw [← Array.getElem?_toList]; exact e)
    obtain ⟨y, ey, _, e2, _⟩ := hx i hi
    obtain ⟨pr, epr, r1, r2, r3⟩ := L2.DX.pget rel ey
    refine ⟨pr.2, by rw [List.getElem?_map, epr]; rfl, ?_⟩
    rw [ev, e2]; exact r3
def rListV : List V → Hp → VK → Prop := fun vs H Q => ∃ (p a : Addr) (kvs : List (List L2.Key × V)), vs = [.ref p] ∧ H p = some (valsO p a) ∧ Rd H a (.dT kvs) ∧ ∀ q, H q = none → Q (.ref q) (upd H q (.lst (kvs.map (·.2))))
theorem call_listV (hc : X.calm = true) : CallR X (.type "list") rListV := by
  intro pins s σ H vs us Q I r h
  obtain ⟨p, a, kvs, rfl, hp, ha, q⟩ := h
  obtain rfl := Vals.ref1 r
  obtain ⟨es, ep, view, raw, hz, hv⟩ := dt_src I hp ha
  refine PySem.W.kdl_call (PySem.KdlSrc.rawValues (es := es) (ep := ep)) (I.ok.hd hc) ⟨view, raw⟩ hz fun h' tk acc' c' kp e it => ?_
  have rv := hv _ it
  have hl := rv.length
  refine ⟨.ref s.heap.objs.size, _, I.laid (t' := tk) (o := .lst (kvs.map (·.2))) kp (Nat.le_refl _) ⟨?_, acc'.toList, c', rv, by rw [Array.toArray_toList]; exact e⟩, rfl, q _ (I.hok.fresh (Nat.le_refl _))⟩
  rw [hl, Array.length_toList, it.1]; exact hz
def rSortV (X : Cx) (f : Addr) : List V → List V → Hp → VK → Prop := fun vs zs H Q => ∃ (p a : Addr) (kvs : List (List L2.Key × V)) (kf : V → Int × Int), vs = [.ref p] ∧ zs = [.ref f] ∧ H p = some (valsO p a) ∧ Rd H a (.dT kvs) ∧ (∀ x ∈ kvs.map (·.2), KeyFn X f H x (kf x)) ∧
  ∀ ys q, ys.Perm (kvs.map (·.2)) → H q = none → Q (.ref q) (upd H q (.lst ys))
theorem cr_sortV {j : Nat} (hr : Room j X.A) (hj : 3 ≤ j) (hc : X.calm = true) : CallRK X (.builtin "sorted") [Str.ofString "key"] (rSortV X f) := by
  intro pins s σ H vs zs us ws Q I r rz h
  obtain ⟨p, a, kvs, kf, rfl, rfl, hp, ha, hk, q⟩ := h
  obtain rfl := Vals.ref1 r
  obtain ⟨w1, rfl, e1⟩ := vals1 rz
  obtain rfl : w1 = Value.ref f := e1
  obtain ⟨es, ep, view, raw, hz, hv⟩ := dt_src I hp ha
  refine PyProof.Rows.call_function_entry_kw kind_sorted plain_sorted entry_sorted (PyProof.Rows.ksk_s1 _ _) ?_
  unfold Builtin.«sorted»
  refine wpAny_bind (m := checkCount "sorted" 1 1 _) (wpAny_pure ?_)
  refine wpAny_bind (PySem.W.kdu_collect (A := X.A.in1) (PySem.KdlSrc.rawValues (es := es) (ep := ep)) (I.ok.hd hc) ⟨view, raw⟩ hz fun h' tk acc kp it => ?_)
  have rv := hv _ it
  have hl := rv.length
  have hL : acc.toList.length ≤ sizeLine := by rw [Array.length_toList, it.1]; exact hz
  refine wpAny_bind (wpAny_newList ?_ hL)
  have kp2 : ∀ b o, s.heap.get? b = some o → (h'.push { cls := .type "list", data := .seq acc.toList.toArray }).get? b = some o := fun b o e => Heap.get?_push_of_some _ (kp b o e)
  have I1 : Inv X pins σ H { s with heap := h', toks := tk } := I.kept kp
  have hfr : H h'.objs.size = none := I1.hok.fresh (Nat.le_refl _)
  refine wpAny_bind (wpAny_holding (wpAny_mono (PySem.W.list_sort_key_data (A := X.A.in1) (b := false) (a := h'.objs.size) (n := 0) (vs := acc.toList) (kD kf) (Heap.get?_push_size _ rfl) (vals_each rv) (kD_alike kf _) (PySem.W.Sortable.tuples fun _ => ⟨_, _, rfl⟩) (by rw [hl]; exact hL) (fun x _ => ?_)
    (PyProof.Rows.ksk_l1 _ _) (PyProof.Rows.ksk_t1 _ _) (fun v x rx hx h2 tk2 kp3 => ?_) (Q := fun _ s' => EP X pins σ Q (.ref h'.objs.size) s') fun out c h2 tk2 kp3 ho hlen eo => ?_) (fun _ s' x => ?_) fun _ _ e => e))
  · have hd : (kD kf x).depth = 1 := by simp [kD, PyData.depth, PyData.depthAll]
    have := (Room.in1 (hr.mono hj)).units
    rw [hd]; omega
  · exact key_turn I1 hr hj hk rx hx h2 tk2 fun b o e => kp3 b o (Nat.ne_of_lt (Heap.lt_size e)) (Heap.get?_push_of_some _ e)
  · have rv2 := each_vals eo
    refine ⟨.ref _, upd H h'.objs.size (.lst _), I1.laid (t' := tk2) (fun b o e => kp3 b o (Nat.ne_of_lt (Heap.lt_size e)) (Heap.get?_push_of_some _ e)) (Nat.le_refl _) ⟨by rw [List.length_mergeSort, hl]; exact hL, out, c, rv2, ho⟩, rfl, q _ _ (List.mergeSort_perm _ _) hfr⟩
  · exact wpAny_pure ⟨_, rfl, x⟩
end

end
end G
namespace G
open PySem PySem.Spec L2
open PyProof.Rows hiding St
section
variable {P : Program} {w : World} {K : PySem.W.Frag} {mg : Str → Option Value} {base : Heap} {CT : Addr × Addr}
/-! ### sorted of tuples (n, c, k) -/
def nmI (nm : Nm) : List Int := [nm.1, nm.2.1, nm.2.2]
def nmD (nm : Nm) : PyData := .tuple ((nmI nm).map .int)
def nmLe (p q : Nm) : Bool := decide (nmI p ≤ nmI q)
theorem nmD_le : PySem.W.dataLe false nmD = nmLe := by
  funext p q
  show (!PySem.W.dataLt (.tuple ((nmI q).map .int)) (.tuple ((nmI p).map .int))) = _
  rw [PySem.W.dataLt_tuple]
  show (!PySem.W.rowLt ((nmI q).map .int) ((nmI p).map .int)) = _
  rw [PySem.W.dataLt_ints]
  unfold nmLe
  by_cases h : nmI q < nmI p
  · have h' : ¬ nmI p ≤ nmI q := fun r => List.not_lt.mpr r h
    simp [h, h']
  · have h' : nmI p ≤ nmI q := List.not_lt.mp h
    simp [h, h']
theorem nmLe_trans (a b c : Nm) (h : nmLe a b = true) (h' : nmLe b c = true) : nmLe a c = true := decide_eq_true (List.le_trans (of_decide_eq_true h) (of_decide_eq_true h'))
theorem nmLe_total (a b : Nm) : (nmLe a b || nmLe b a) = true := by
  rcases List.le_total (nmI a) (nmI b) with h | h
  · unfold nmLe; rw [decide_eq_true h]; rfl
  · unfold nmLe; rw [decide_eq_true h, Bool.or_true]
/-- a table's names in order -/
def nmSort {α : Type} (f : α → Nm) (l : List α) : List α := l.mergeSort fun a b => nmLe (f a) (f b)
theorem nmSort_self {α : Type} (f : α → Nm) (l : List α) : nmSort f (nmSort f l) = nmSort f l :=
  List.mergeSort_of_pairwise (List.pairwise_mergeSort (le := fun a b => nmLe (f a) (f b)) (fun a b c => nmLe_trans (f a) (f b) (f c)) (fun a b => nmLe_total (f a) (f b)) l)
theorem nmSort_perm {α : Type} (f : α → Nm) (l : List α) : (nmSort f l).Perm l := List.mergeSort_perm _ _
theorem dataLe_nm {α : Type} (f : α → Nm) : PySem.W.dataLe false (fun x => nmD (f x)) = fun a b => nmLe (f a) (f b) := by
  funext a b
  have h := congrFun (congrFun nmD_le (f a)) (f b)
  exact h
section
variable {X : Cx}
/-- references to names -/
abbrev NL := List (Addr × Nm)
def refsN (l : NL) : List V := l.map fun p => V.ref p.1
def NmAt (H : Hp) (l : NL) : Prop := ∀ p ∈ l, H p.1 = some (.tup (nmV p.2))
theorem nm_reads {pins : List (Addr × Obj)} {σ : L2.St} {H : Hp} {s : Shared} {p : Addr × Nm} (I : Inv X pins σ H s) (h : H p.1 = some (.tup (nmV p.2))) : Reads s.heap (.ref p.1) (nmD p.2) [] := by
  obtain ⟨its, r, ⟨o, ho, hc, n, hd⟩, _⟩ := I.tuple (SqT.of (K := X.K) h)
  obtain ⟨a, b, c⟩ := p
  cases r with
  | cons r1 r =>
    cases r with
    | cons r2 r =>
      cases r with
      | cons r3 r =>
        cases r
        obtain ⟨t1, rfl⟩ := r1
        obtain ⟨t2, rfl⟩ := r2
        obtain ⟨t3, rfl⟩ := r3
        exact PySem.Reads.tuple ho hc hd (PySem.ReadsAll.cons (PySem.Reads.int _ t1) (PySem.ReadsAll.cons (PySem.Reads.int _ t2) (PySem.ReadsAll.cons (PySem.Reads.int _ t3) PySem.ReadsAll.nil)))
theorem refs_each : ∀ l : NL, PySem.W.EachIs (fun (v : Value) (p : Addr × Nm) => v = .ref p.1) (l.map fun p => Value.ref p.1) l
  | [] => .nil
  | _ :: r => .cons rfl (refs_each r)
theorem each_refs : ∀ {us : List Value} {l : NL}, PySem.W.EachIs (fun (v : Value) (p : Addr × Nm) => v = .ref p.1) us l → us = l.map fun p => Value.ref p.1
  | _, _, .nil => rfl
  | _, _, .cons h t => by rw [h, each_refs t]; rfl
theorem valsN : ∀ l : NL, Vals (refsN l) (l.map fun p => Value.ref p.1)
  | [] => .nil
  | _ :: r => .cons rfl (valsN r)
theorem refsN_us : ∀ {l : NL} {us : List Value}, Vals (refsN l) us → us = l.map fun p => Value.ref p.1
  | [], _, .nil => rfl
  | _ :: r, _, .cons h t => by rw [show _ = Value.ref _ from h, refsN_us t]; rfl
theorem each_reads {h : Heap} : ∀ {l : NL}, (∀ p ∈ l, Reads h (.ref p.1) (nmD p.2) []) → PySem.W.EachIs (fun (v : Value) (p : Addr × Nm) => ∃ as, Reads h v (nmD p.2) as) (l.map fun p => Value.ref p.1) l
  | [], _ => .nil
  | p :: r, h => .cons ⟨_, h p List.mem_cons_self⟩ (each_reads fun q hq => h q (List.mem_cons_of_mem _ hq))
theorem nm_alike (l : NL) : PySem.W.AllAlike (l.map fun p => nmD p.2) := PySem.W.AllAlike.of fun b b' => by simp [PySem.W.alike, PySem.W.alikeAll, nmD, nmI]
theorem nm_depth (n : Nm) : (nmD n).depth = 1 := by simp [nmD, nmI, PyData.depth, PyData.depthAll]
def rSortN (K : PySem.W.Frag) : List V → Hp → VK → Prop := fun vs H Q => ∃ (a : Addr) (l : NL), vs = [.ref a] ∧ SqL K H a (refsN l) ∧ NmAt H l ∧ ∀ q, H q = none → Q (.ref q) (upd H q (.lst (refsN (nmSort (·.2) l))))
theorem cr_sortN {j : Nat} (hr : Room j X.A) : CallR X (.builtin "sorted") (rSortN X.K) := by
  intro pins s σ H vs us Q I r h
  obtain ⟨a, l, rfl, hs, hn, q⟩ := h
  obtain rfl := Vals.ref1 r
  obtain ⟨its, rv, hl, hz⟩ := I.list hs
  have eu := refsN_us rv
  subst eu
  refine PySem.W.sorted_data (enc := fun p : Addr × Nm => nmD p.2) (R := fun v p => v = .ref p.1) hl.isList (refs_each l) (each_reads fun p hp => nm_reads I (hn p hp)) (nm_alike l) (PySem.W.Sortable.tuples fun p => ⟨_, _, rfl⟩) (by unfold refsN at hz; rw [List.length_map] at hz; exact hz) (fun p _ => ?_) fun out hlen eo => ?_
  · have := hr.units
    rw [nm_depth]; omega
  · rw [dataLe_nm] at eo
    have e2 := each_refs eo
    subst e2
    obtain ⟨c, hc⟩ := PyProof.Rows.sortedAll_at s.heap (l.map fun p => Value.ref p.1) (List.toArray ((nmSort (·.2) l).map fun p => Value.ref p.1))
    refine ⟨.ref _, upd H (s.heap.objs.size + 1) (.lst (refsN (nmSort (·.2) l))), I.laid (t' := s.toks) (fun _ _ => PyProof.Rows.sortedAll_old) (Nat.le_succ _) ⟨?_, _, c, valsN _, hc⟩, rfl, q _ (I.hok.fresh (Nat.le_succ _))⟩
    unfold refsN at hz ⊢
    rw [List.length_map] at hz ⊢
    rw [(nmSort_perm _ l).length_eq]; exact hz
def rSortKeys : List V → Hp → VK → Prop := fun vs H Q => ∃ (a : Addr) (kvs : List (List L2.Key × V)) (ns : List Nm), vs = [.ref a] ∧ Rd H a (.dT kvs) ∧ kvs.map (fun p => p.1.map kV) = ns.map nmV ∧
  ∀ (l : NL) q, H q = none → NmAt H l → l.map (·.2) = nmSort id ns → Q (.ref q) (upd H q (.lst (refsN l)))
theorem nmV_inj {a b : Nm} (h : nmV a = nmV b) : a = b := by
  obtain ⟨a1, a2, a3⟩ := a
  obtain ⟨b1, b2, b3⟩ := b
  unfold nmV at h
  simp only [List.cons.injEq, V.int.injEq, and_true] at h
  obtain ⟨rfl, rfl, rfl⟩ := h
  rfl
theorem nmSort_map {α : Type} (f : α → Nm) (l : List α) : (nmSort f l).map f = nmSort id (l.map f) := by
  unfold nmSort
  rw [List.map_mergeSort (s := fun a b => nmLe a b)]
  · rfl
  · intro a _ b _; rfl
theorem cr_sortKeys {j : Nat} (hr : Room j X.A) (hc : X.calm = true) : CallR X (.builtin "sorted") rSortKeys := by
  intro pins s σ H vs us Q I r h
  obtain ⟨a, kvs, ns, rfl, ha, hns, q⟩ := h
  obtain rfl := Vals.ref1 r
  obtain ⟨z, hd, xs', rel, dd⟩ := dt_rd I.hok ha
  obtain ⟨es, ep, raw, hsz, hx⟩ := dd.raw
  have hl : kvs.length = xs'.length := Paired.length rel
  have hnl : kvs.length = ns.length := by have := congrArg List.length hns; rwa [List.length_map, List.length_map] at this
  refine PySem.Calls.call_function_entry PyProof.Rows.kind_sorted PyProof.Rows.plain_sorted PyProof.Rows.entry_sorted (PyProof.Rows.args_sorted1 _) ?_
  unfold Builtin.«sorted»
  refine wpAny_bind (m := checkCount "sorted" 1 1 _) (wpAny_pure ?_)
  refine wpAny_bind (PySem.W.kdu_collect (A := X.A.in1) (PySem.KdlSrc.rawDict (es := es) (ep := ep) hd) (I.ok.hd hc) raw (by omega) fun h' tk acc kp it => ?_)
  have I1 : Inv X pins σ H { s with heap := h', toks := tk } := I.kept kp
  have hal : acc.toList.length = acc.size := Array.length_toList
  have i1 := it.1
  have hget : ∀ (i : Nat) (v : Value), acc.toList[i]? = some v → ∃ (q : Addr) (n : Nm), v = .ref q ∧ ns[i]? = some n ∧ H q = some (.tup (nmV n)) := fun i v e => by
    obtain ⟨hi, ev⟩ := it.2 i v (by rw [← Array.getElem?_toList]; exact e)
    obtain ⟨y, ey, e1, _, _⟩ := hx i hi
    obtain ⟨pr, epr, r1, r2, r3⟩ := L2.DX.pget rel ey
    have e3 : (kvs.map fun p => p.1.map kV)[i]? = some (pr.1.map kV) := by rw [List.getElem?_map, epr]; rfl
    rw [hns, List.getElem?_map] at e3
    obtain ⟨n, en, e4⟩ := Option.map_eq_some_iff.mp e3
    exact ⟨y.2.1, n, by rw [ev, e1], en, by rw [r2, e4]⟩
  obtain ⟨l, el, hn, em⟩ : ∃ l : NL, acc.toList = l.map (fun p => Value.ref p.1) ∧ NmAt H l ∧ l.map (·.2) = ns := by
    have key : ∀ (us : List Value) (ns : List Nm), us.length = ns.length → (∀ (i : Nat) (v : Value), us[i]? = some v → ∃ (q : Addr) (n : Nm), v = .ref q ∧ ns[i]? = some n ∧ H q = some (.tup (nmV n))) →
        ∃ l : NL, us = l.map (fun p => Value.ref p.1) ∧ NmAt H l ∧ l.map (·.2) = ns := by
      intro us
      induction us with
      | nil => intro ns hl _; cases ns with
        | nil => exact ⟨[], rfl, fun _ h => (nomatch h), rfl⟩
        | cons _ _ => cases hl
      | cons u us ih =>
        intro ns hl h
        cases ns with
        | nil => cases hl
        | cons n ns =>
          obtain ⟨q, m, e1, e2, e3⟩ := h 0 u rfl
          cases e2
          obtain ⟨l, f1, f2, f3⟩ := ih ns (Nat.succ.inj hl) fun i v e => h (i + 1) v e
          refine ⟨(q, n) :: l, by rw [e1, f1]; rfl, fun p hp => ?_, by rw [List.map_cons, f3]⟩
          rcases List.mem_cons.mp hp with z | z
          · rw [z]; exact e3
          · exact f2 p z
    exact key _ _ (by omega) hget
  have hL : acc.toList.length ≤ sizeLine := by omega
  refine wpAny_bind (wpAny_newList ?_ hL)
  have hfr : H h'.objs.size = none := I1.hok.fresh (Nat.le_refl _)
  rw [el]
  have lle : l.length ≤ sizeLine := by rw [el, List.length_map] at hL; exact hL
  refine wpAny_bind (wpAny_holding (wpAny_mono (PySem.W.list_sort_data (A := X.A.in1) (a := h'.objs.size) (n := 0) (vs := l.map fun p => Value.ref p.1) (enc := fun p : Addr × Nm => nmD p.2) (R := fun v p => v = .ref p.1) (Heap.get?_push_size _ rfl) (refs_each l) ?_ (nm_alike l) (PySem.W.Sortable.tuples fun p => ⟨_, _, rfl⟩) lle (fun p _ => ?_)
    (Q := fun _ s' => EP X pins σ Q (.ref h'.objs.size) s') fun out hlen eo => ?_) (fun _ s' x => ?_) fun _ _ e => e))
  · have key : ∀ {g : Heap} {l : NL}, (∀ p ∈ l, Reads g (.ref p.1) (nmD p.2) []) → PySem.W.EachIs (fun (v : Value) (p : Addr × Nm) => ∃ as, Reads g v (nmD p.2) as ∧ h'.objs.size ∉ as) (l.map fun p => Value.ref p.1) l := by
      intro g l
      induction l with
      | nil => intro _; exact .nil
      | cons p r ih => intro h; exact .cons ⟨[], h p List.mem_cons_self, fun z => (nomatch z)⟩ (ih fun q hq => h q (List.mem_cons_of_mem _ hq))
    exact key fun p hp => PyProof.Rows.Reads.keeps (fun _ _ e => Heap.get?_push_of_some _ e) (nm_reads I1 (hn p hp))
  · have := hr.units
    show X.A.units + 1 + 1 + _ < cLine
    rw [nm_depth]; omega
  · rw [dataLe_nm] at eo
    have e2 := each_refs eo
    subst e2
    obtain ⟨c, hc⟩ := PyProof.Rows.sortedHeap_at (h := h'.push { cls := .type "list", data := .seq (l.map fun p => Value.ref p.1).toArray }) (a := h'.objs.size) (n := 0) (vs := l.map fun p => Value.ref p.1) (out := List.toArray ((nmSort (·.2) l).map fun p => Value.ref p.1)) (Heap.get?_push_size _ rfl)
    refine ⟨.ref _, upd H h'.objs.size (.lst (refsN (nmSort (·.2) l))), I1.laid (t' := tk) (fun b o e => ?_) (Nat.le_refl _) ⟨?_, _, c, valsN _, hc⟩, rfl, q _ _ hfr (fun p hp => hn p ((nmSort_perm _ l).mem_iff.mp hp)) (by rw [nmSort_map, em])⟩
    · have hlt := Heap.lt_size e
      show (PyProof.Rows.sortedHeap _ _ _ _).get? b = some o
      rw [PyProof.Rows.sortedHeap_old (Nat.ne_of_lt hlt) (by rw [Heap.size_push]; exact Nat.lt_succ_of_lt hlt)]
      exact Heap.get?_push_of_some _ e
    · unfold refsN
      rw [List.length_map, (nmSort_perm _ l).length_eq]; exact lle
  · exact wpAny_pure ⟨_, rfl, x⟩
end

end
end G
namespace G
open PySem PySem.Spec L2
open PyProof.Rows hiding St
section
variable {P : Program} {w : World} {K : PySem.W.Frag} {mg : Str → Option Value} {base : Heap} {CT : Addr × Addr}
/-! ### list != [] -/
def rNeNil (K : PySem.W.Frag) : R2 := fun x y H Q => ∃ a b xs, x = .ref a ∧ y = .ref b ∧ SqL K H a xs ∧ SqL K H b [] ∧ Q (.bl (!xs.isEmpty)) H
theorem op_neNil {X : Cx} (hu : X.A.units + 1 < cLine) : OpR X (compareOp .NotEq) (rNeNil X.K) := by
  intro pins s σ H x y v u Q I rx ry h
  obtain ⟨a, b, xs, rfl, rfl, h1, h2, q⟩ := h
  obtain rfl : v = Value.ref a := rx
  obtain rfl : u = Value.ref b := ry
  obtain ⟨its, r1, p1, _⟩ := I.list h1
  obtain ⟨jts, r2, p2, _⟩ := I.list h2
  have l1 := r1.length
  have l2 := r2.length
  have hj : jts = [] := by cases jts with
    | nil => rfl
    | cons _ _ => cases l2
  subst hj
  cases xs with
  | nil =>
    have hi : its = [] := by cases its with
      | nil => rfl
      | cons _ _ => cases l1
    subst hi
    refine PySem.SeqAt.RcNeAt.lists (e := fun _ => true) p1.isList p2.isList rfl (by omega) (fun j h1 _ => absurd h1 (Nat.not_lt_zero _)) X.prog X.w _ _ ?_
    exact ⟨.bl false, H, I, rfl, q⟩
  | cons y ys =>
    cases its with
    | nil => cases l1
    | cons i is =>
      refine PySem.SeqAt.RcNeAt.lists_lengths p1.isList p2.isList (by simp) (by omega) X.prog X.w _ _ ?_
      exact ⟨.bl true, H, I, rfl, q⟩
/-! ### len of a set of tuples -/
section
variable {X : Cx}
def rLenSetT (P : Program) (w : World) (K : PySem.W.Frag) : List V → Hp → VK → Prop := fun vs H Q => ∃ (a : Addr) (L : List (Addr × List Int)), vs = [.ref a] ∧ H a = some (SetTO P w a L) ∧ (∀ p ∈ L, SqT K H p.1 (p.2.map V.int)) ∧ ((L.map (·.2)).Nodup → Q (.int (L.length : Nat)) H)
theorem cr_lenSetT : CallR X (.builtin "len") (rLenSetT X.prog X.w X.K) := by
  intro pins s σ H vs us Q I r h
  obtain ⟨a, L, rfl, ha, hk, q⟩ := h
  have R0 : SetT0 X.prog X.w s.heap a L := (I.hok a _ ha).1
  obtain ⟨es, ep, t, R⟩ := R0.full fun p hp => I.isT (hk p hp)
  rw [Vals.ref1 r]
  obtain ⟨o, ho, hex, hd⟩ := R.ob
  have hs := R.size
  have hf := R.few
  refine call_len_set ho hex hd R.fits (by rw [hs]; omega) ?_
  rw [hs]
  exact ⟨.int (L.length : Nat), H, I.tok _, ⟨_, rfl⟩, q R.nd⟩
end
/-! ### for k, v in d.items(), keys tuples -/
def Itit (d : Addr) (o : Obj) (kvs : List (List Key × V)) : It :=
  ⟨fun i H => H d = some (.frz o (.dT kvs)) ∧ i < kvs.length, fun i H x H' => ∃ T q k v, kvs[i]? = some (k, v) ∧ x = .ref T ∧ H T = none ∧ H q = some (.tup (k.map kV)) ∧ H' = upd H T (.tup [.ref q, v]), fun i H => H d = some (.frz o (.dT kvs)) ∧ kvs.length ≤ i⟩
section
variable {X : Cx} {pins : List (Addr × Obj)} {σ : L2.St} {H : Hp} {s : Shared} {d : Addr} {o : Obj}
theorem frzT2 {kvs : List (List Key × V)} (I : Inv X pins σ H s) (h : H d = some (.frz o (.dT kvs))) :
    (d == sysModules) = false ∧ ∃ (es : Array DictEntry) (ep : Nat), o.data = .dict es ep ∧ s.heap.DictRaw d es ep ∧ es.size = kvs.length ∧
      ∀ (i : Nat) (hi : i < es.size) (k : List Key) (v : V), kvs[i]? = some (k, v) → ∃ q : Addr, es[i].key = .ref q ∧ H q = some (.tup (k.map kV)) ∧ RelV v es[i].val := by
  obtain ⟨hd, z, hs, xs, pr, o', es, ep, ho, hx, hdt, he, _⟩ := I.hok d _ h
  rw [hd] at ho
  cases ho
  have l1 : es.size = xs.length := size_of_entries he
  have l2 : kvs.length = xs.length := Paired.length pr
  refine ⟨hs, es, ep, hdt, ⟨_, hd, hx, hdt⟩, by omega, fun i hi k v e => ?_⟩
  obtain ⟨b, hb, e1, e2, e3⟩ := paired_get pr e
  have q := entry_at he i
  rw [hb, Array.getElem?_eq_getElem hi] at q
  have q2 := Option.some.inj q
  rw [q2]
  exact ⟨b.2.1, rfl, e2, e3⟩
end
section
variable {P : Program} {w : World} {K : PySem.W.Frag} {d : Addr} {o : Obj} {es : Array DictEntry} {ep : Nat}
theorem turn_itemsT {kvs : List (List Key × V)} {elts : List Expr} {kk : Nat} {tpos : Pos} (it : Addr) (hod : o.data = .dict es ep) :
    Turn P w K (.Tuple elts kk tpos) (Itit d o kvs) [it] it (fun i h => ∃ ok ov, IsItemIter h it d i kvs.length ep ok ov) where
  mem := by simp
  obj := fun i h st b hb => by
    have e : b = it := by simpa using hb
    subst e
    obtain ⟨ok, ov, e⟩ := st
    exact ⟨_, e, fun v z => nomatch z⟩
  keep := fun i h h' st k => let ⟨ok, ov, e⟩ := st; ⟨ok, ov, k it (by simp) _ e⟩
  item := by
    intro X hP hw hK hc i pins s σ H E I hf st hg
    subst hP hw hK
    obtain ⟨hd, hi⟩ := hg
    obtain ⟨hs, es', ep', hdt, raw, hsz, ent⟩ := frzT2 I hd
    obtain ⟨rfl, rfl⟩ := dict_ep hod hdt
    obtain ⟨⟨k, v⟩, hkv⟩ : ∃ p, kvs[i]? = some p := ⟨kvs[i], List.getElem?_eq_getElem hi⟩
    have hi2 : i < es'.size := by omega
    obtain ⟨q, hkey, hq, hv⟩ := ent i hi2 k v hkv
    obtain ⟨ok, ov, he⟩ := st
    rw [← hsz] at he
    have hlt : it < s.heap.objs.size := Heap.lt_size he
    refine wpAny_pyNext_items_item_raw he raw hi2 fun h' ho hT hz hk => ?_
    refine ⟨_, rfl, wpAny_letOwnedTupleGo_items (s := { s with heap := h' }) ho fun h'' he' sb => ?_⟩
    have hT2 : h''.get? s.heap.objs.size = some { cls := .type "tuple", data := .seq #[es'[i].key, es'[i].val] } := (sb.2 _ (Nat.ne_of_gt hlt)).trans hT
    have new : ObjOk X.prog X.w (upd H s.heap.objs.size (.tup [.ref q, v])) h'' s.heap.objs.size (.tup [.ref q, v]) :=
      ⟨by show 2 ≤ sizeLine; decide, [es'[i].key, es'[i].val], .cons hkey (.cons hv .nil), ⟨_, hT2, rfl, _, rfl⟩⟩
    have I1 : Inv X pins σ (upd H s.heap.objs.size (.tup [.ref q, v])) { s with heap := h'' } :=
      I.turnedNew (t' := s.toks) (ch := [it]) (fun b ob hb e => (sb.2 b (by simpa using hb)).trans (hk b ob (by simpa using hb) e)) hf (Nat.le_refl _) new
    refine ⟨.ref s.heap.objs.size, _, I1, rfl, ⟨_, q, k, v, hkv, rfl, I.hok.fresh (Nat.le_refl _), hq, rfl⟩, ⟨es'[i].key, es'[i].val, ?_⟩, fun b hb => ?_⟩
    · rw [← hsz]; exact he'
    · have e : b = it := by simpa using hb
      rw [e, upd_ne (Nat.ne_of_lt hlt)]
      exact (hf it (by simp)).1
  done := by
    intro X hP hw hK hc i pins s σ H E I hf st hg
    subst hP hw hK
    obtain ⟨hd, hi⟩ := hg
    obtain ⟨f0, f1, f2, f3, f4, f5⟩ := hf it (by simp)
    obtain ⟨hs, es', ep', hdt, raw, hsz, ent⟩ := frzT2 I hd
    obtain ⟨rfl, rfl⟩ := dict_ep hod hdt
    obtain ⟨ok, ov, he⟩ := st
    rw [← hsz] at he
    exact wpAny_pyNext_items_end_raw (I.ok.hd hc) he raw (by omega) fun h' eb => ⟨rfl, I.turned (t' := s.toks) (fun b ob hb e => eb b ob hb e) f0 f1 f3 f4 f5⟩
  self := fun A i s Q E st h => let ⟨_, _, e⟩ := st; PySem.W.kcp_self e h
end
def iItemsT (td : TE) : TI := fun σ H R => td σ H fun x H1 => ∃ d o kvs, x = .ref d ∧ H1 d = some (.frz o (.dT kvs)) ∧ R (Itit d o kvs) H1
section
variable {X : Cx} {e : Expr} {td : TE} {apos cpos : Pos}
theorem pi_itemsT {elts : List Expr} {kk : Nat} {tpos : Pos} (he : PE X e td) (hbase : attributeBase e "items" X.env (eval e X.env) = eval e X.env := by rfl) (hline : (apos.endLine == cpos.line) = true := by rfl) :
    PI X (.Tuple elts kk tpos) (.Call (.Attribute e "items" apos) [] [] cpos) (iItemsT td) := by
  refine ⟨fun pins s σ H R I h => ?_⟩
  refine wpAny_Call_method (T := "dict") (id := "dict.items") hbase rfl hline F.plainAttrs_dict F.slot_dict_items F.type_dict_items (thn (he.run pins s σ H _ I h) fun u s1 ⟨x, H1, I1, rx, d, o, kvs, ex, hd, q⟩ => ?_)
  subst ex
  obtain rfl : u = Value.ref d := rx
  obtain ⟨hs, es, ep, hdt, raw, hsz, ent⟩ := frzT2 I1 hd
  refine ⟨raw.typeIs, ?_, ?_⟩
  · intro b e
    cases e
    obtain ⟨ob, hob, hx, _⟩ := raw
    exact ⟨ob, hob, hx.2.1⟩
  have I2 : Inv X pins σ H1 { s1 with heap := s1.heap.push { cls := .type "dict_items", data := .fields #[.ref d] } } := I1.kept (t' := s1.toks) fun b ob q => Heap.get?_push_of_some _ q
  have fin : wpAny (model X.prog X.w) X.A (pyIter (.ref s1.heap.objs.size)) (PIE X pins σ (.Tuple elts kk tpos) R) X.xe { s1 with heap := s1.heap.push { cls := .type "dict_items", data := .fields #[.ref d] } } := by
    refine wpAny_pyIter_items_raw (d := d) ⟨_, Heap.get?_push_size _ rfl, rfl, rfl⟩ (raw.push _) (pi_one (tk := s1.toks) I2 _ (turn_itemsT _ hdt) ⟨.none, .none, ?_⟩ q)
    rw [← hsz]
    exact Heap.get?_push_size _ rfl
  show wpAny _ _ (callWith cpos (.builtin "dict.items") [.ref d] [] []) _ X.xe s1
  exact method_meetsIn F.slot_dict_items F.entry_dict_items rfl (PySem.evalArgs_none ⟨rfl, raw.typeIs, F.args_dict_items_1 _, _, PySem.meets_dict_items_raw d hs, ⟨es, ep, raw⟩, fin⟩)
end
theorem for_itemsT {d : Addr} {o : Obj} {kvs : List (List Key × V)} {g : TG} {tb : TS} {D : Ends} {σ : L2.St} {H : Hp} (Pv : Nat → L2.St → Hp → Prop) (h0 : Pv 0 σ H) (hl : ∀ i σ H, Pv i σ H → H d = some (.frz o (.dT kvs)))
    (hs : ∀ i k v T q σ H, kvs[i]? = some (k, v) → Pv i σ H → H T = none → H q = some (.tup (k.map kV)) → g (.ref T) σ (upd H T (.tup [.ref q, v])) fun σ2 H2 => tb { D with nx := Pv (i + 1), ct := Pv (i + 1), bk := D.nx } σ2 H2) (hd : ∀ σ H, Pv kvs.length σ H → D.nx σ H) :
    ∃ W : Nat → Nat → L2.St → Hp → Prop, (∃ m, W 0 m σ H) ∧ ∀ i m σ H, W i m σ H →
      ((Itit d o kvs).stop i H ∧ D.nx σ H) ∨ ((Itit d o kvs).go i H ∧ ∃ N : L2.St → Hp → Prop, (∀ σ' H', N σ' H' → ∃ m', m' < m ∧ W (i + 1) m' σ' H') ∧ ∀ x H', (Itit d o kvs).yld i H x H' → g x σ H' fun σ2 H2 => tb { D with nx := N, ct := N, bk := D.nx } σ2 H2) := by
  refine ⟨fun i m σ H => m = kvs.length - i ∧ i ≤ kvs.length ∧ Pv i σ H, ⟨kvs.length, rfl, Nat.zero_le _, h0⟩, ?_⟩
  rintro i m σ H ⟨rfl, hi, p⟩
  have q := hl i σ H p
  by_cases hlt : i < kvs.length
  · refine .inr ⟨⟨q, hlt⟩, Pv (i + 1), fun σ' H' p' => ⟨kvs.length - (i + 1), by omega, rfl, hlt, p'⟩, ?_⟩
    rintro x H' ⟨T, b, k, v, e, rfl, hT, hb, rfl⟩
    exact hs i k v T b σ H e p hT hb
  · have e : i = kvs.length := by omega
    subst e
    exact .inl ⟨⟨q, Nat.le_refl _⟩, hd σ H p⟩
theorem for_keysT {d : Addr} {o : Obj} {kvs : List (List Key × V)} {g : TG} {tb : TS} {D : Ends} {σ : L2.St} {H : Hp} (Pv : Nat → L2.St → Hp → Prop) (h0 : Pv 0 σ H) (hl : ∀ i σ H, Pv i σ H → H d = some (.frz o (.dT kvs)))
    (hs : ∀ i k v q σ H, kvs[i]? = some (k, v) → Pv i σ H → H q = some (.tup (k.map kV)) → g (.ref q) σ H fun σ2 H2 => tb { D with nx := Pv (i + 1), ct := Pv (i + 1), bk := D.nx } σ2 H2) (hd : ∀ σ H, Pv kvs.length σ H → D.nx σ H) :
    ∃ W : Nat → Nat → L2.St → Hp → Prop, (∃ m, W 0 m σ H) ∧ ∀ i m σ H, W i m σ H →
      ((Itkt d o kvs).stop i H ∧ D.nx σ H) ∨ ((Itkt d o kvs).go i H ∧ ∃ N : L2.St → Hp → Prop, (∀ σ' H', N σ' H' → ∃ m', m' < m ∧ W (i + 1) m' σ' H') ∧ ∀ x H', (Itkt d o kvs).yld i H x H' → g x σ H' fun σ2 H2 => tb { D with nx := N, ct := N, bk := D.nx } σ2 H2) := by
  refine ⟨fun i m σ H => m = kvs.length - i ∧ i ≤ kvs.length ∧ Pv i σ H, ⟨kvs.length, rfl, Nat.zero_le _, h0⟩, ?_⟩
  rintro i m σ H ⟨rfl, hi, p⟩
  have q := hl i σ H p
  by_cases hlt : i < kvs.length
  · refine .inr ⟨⟨q, hlt⟩, Pv (i + 1), fun σ' H' p' => ⟨kvs.length - (i + 1), by omega, rfl, hlt, p'⟩, ?_⟩
    rintro x H' ⟨rfl, k, v, b, e, rfl, hb⟩
    exact hs i k v b σ H' e p hb
  · have e : i = kvs.length := by omega
    subst e
    exact .inl ⟨⟨q, Nat.le_refl _⟩, hd σ H p⟩
/-! ### d.setdefault(t, v), keys tuples -/
def tDSetdT (td ty tx : TE) : TE := fun σ H Q => td σ H fun x H1 => ∃ a, x = .ref a ∧ IsD H1 a ∧ ty σ H1 fun y H2 => tx σ H2 fun z H3 => ∃ (kvs : List (List Key × V)) (k : List Key) (b : Addr), H3 a = some (.dT kvs) ∧ y = .ref b ∧ H3 b = some (.tup (k.map kV)) ∧ kvs.length < sizeLine ∧
  (∀ v, valV kvs k = some v → Q v H3) ∧ (valV kvs k = none → Q z (upd H3 a (.dT (putK kvs k z))))
section
variable {X : Cx} {o e f : Expr} {td ty tx : TE} {apos cpos : Pos}
theorem pe_dsetdT (hu : X.A.units + 1 < cLine) (ho : PE X o td) (he : PE X e ty) (hf : PE X f tx) (m : M2 X o "setdefault" apos e f cpos) : PE X (.Call (.Attribute o "setdefault" apos) [e, f] [] cpos) (tDSetdT td ty tx) := by
  refine ⟨fun pins s σ H Q I h => ?_⟩
  refine wpAny_Call_method m.base m.few m.line PySem.F.plainAttrs_dict PySem.F.slot_dict_setdefault PySem.F.type_dict_setdefault (thn (ho.run pins s σ H _ I h) fun u s1 ⟨x, H1, I1, rx, a, ex, d, q1⟩ => ?_)
  subst ex
  obtain rfl : u = Value.ref a := rx
  obtain ⟨t1, t2, _⟩ := isD_at I1 d
  refine ⟨t1, t2, ?_⟩
  rw [m.trees]
  refine Calls.callWith_builtin rfl (Calls.evalArgs_plain (Calls.spliced_cons (thn (he.run pins s1 σ H1 _ I1 q1) fun iv s2 ⟨y, H2, I2, ry, q2⟩ =>
    Calls.spliced_cons (thn (hf.run pins s2 σ H2 _ I2 q2) fun fv s3 ⟨z, H3, I3, rz, kvs, k, b, ea, ey, eb, hl, q3, q4⟩ => Calls.spliced_nil ?_))))
  subst ey
  obtain rfl : iv = Value.ref b := ry
  obtain ⟨zz, hd, xs, rel, dd⟩ := dt_of I3.hok ea
  have hz : xs.length ≤ sizeLine := by rw [← Paired.length rel]; exact zz
  have hval := rel.val k
  refine call_setdefault_heap (hsz := hz) (tupleKind_room_in1 hu) (key_of I3.hok eb) hd dd (fun p hp => ?_) fun hn h' dd' hs => ?_
  · rw [hp] at hval
    cases ev : valV kvs k with
    | none => rw [ev] at hval; exact (show False from hval).elim
    | some v => rw [ev] at hval; exact ⟨v, H3, I3.tok _, hval, q3 v ev⟩
  · rw [hn] at hval
    have ev : valV kvs k = none := by
      cases ev : valV kvs k with
      | none => rfl
      | some v => rw [ev] at hval; exact (show False from hval).elim
    have hl2 : (putK kvs k z).length ≤ sizeLine := by have := length_putK kvs k z; omega
    obtain ⟨q, es, ep, hq, h2, h3, h4, _, h5⟩ := dd'
    refine ⟨z, upd H3 a (.dT (putK kvs k z)), d_write I3 (by rw [ea]; exact True.intro) hs ⟨q, hq⟩ ⟨hl2, hd, _, (rel.put k eb rz).keeps fun c ys ec => ?_, q, es, ep, hq, h2, h3, h4, h5⟩, rz, q4 ev⟩
    rw [upd_ne (ne_of ec ea (fun z => nomatch z))]
    exact ec
end

end
end G
namespace G
open PySem PySem.Spec L2
open PyProof.Rows hiding St
section
variable {P : Program} {w : World} {K : PySem.W.Frag} {mg : Str → Option Value} {base : Heap} {CT : Addr × Addr}
/-! ### list + list -/
def rCatL : R2 := fun x y H Q => ∃ a b xs ys, x = .ref a ∧ y = .ref b ∧ H a = some (.lst xs) ∧ H b = some (.lst ys) ∧ xs.length + ys.length ≤ sizeLine ∧ ∀ p, H p = none → Q (.ref p) (upd H p (.lst (xs ++ ys)))
theorem op_catL {X : Cx} : OpR X (binaryOp .Add) rCatL := by
  intro pins s σ H x y v u Q I rx ry h
  obtain ⟨a, b, xs, ys, rfl, rfl, ha, hb, hz, q⟩ := h
  cases rx
  cases ry
  obtain ⟨z, its, n, r, hl, e⟩ := I.lstM ha
  obtain ⟨z2, its2, n2, r2, hl2, e2⟩ := I.lstM hb
  refine concat_meets ⟨_, e, rfl⟩ ⟨_, e2, rfl⟩ noFill_list_add seq_list_add F.slot_list_add F.entry_list_add (F.args_list_add_2 _ _) (AutoSeq1.list___add___list_list_0 a its.toArray n b its2.toArray n2 (by rw [List.size_toArray, List.size_toArray]; omega)) ⟨e, e2, ?_⟩
  refine ⟨.ref s.heap.objs.size, upd H s.heap.objs.size (.lst (xs ++ ys)), I.laid (t' := s.toks) (fun b ob q => Heap.get?_push_of_some _ q) (Nat.le_refl _) ⟨by rw [List.length_append]; exact hz, its ++ its2, 0, r.append r2, ?_⟩, rfl, q _ (I.hok.fresh (Nat.le_refl _))⟩
  rw [show its.toArray ++ its2.toArray = (its ++ its2).toArray by simp]
  exact Heap.get?_push_size _ rfl
/-! ### the plain side of taking -/
def nextO (kv : Cn) (os : List (Addr × Nm)) : Option (Addr × Nm) := os.find? fun o => !decide (o.2.2.2 ≤ cnt kv o.2.2.1)
def optR : Option (Addr × Nm) → V
  | some o => .ref o.1
  | none => .non
def takeB (kv : Cn) (os : List (Addr × Nm)) (d : Cd) : Bool := freeB kv d && (!isOne d.kd || decide ((nextO kv os).map (·.2) = some d.nm))
theorem freeB_congr {k1 k2 : Cn} (h : ∀ c, cnt k1 c = cnt k2 c) (d : Cd) : freeB k1 d = freeB k2 d := by
  have hc : ∀ kz : Cn, coversB k1 kz = coversB k2 kz := fun kz => by
    unfold coversB
    congr 1
    funext p
    rw [h]
  unfold freeB
  rw [h d.c]
  cases d.kd with
  | own => rfl
  | heard => show (_ && coversB _ _) = _; rw [hc]
  | one => show (_ && coversB _ _) = _; rw [hc]
theorem nextO_congr {k1 k2 : Cn} (h : ∀ c, cnt k1 c = cnt k2 c) (os : List (Addr × Nm)) : nextO k1 os = nextO k2 os := by
  unfold nextO
  congr 1
  funext o
  rw [h]
theorem takeB_congr {k1 k2 : Cn} (h : ∀ c, cnt k1 c = cnt k2 c) (os : List (Addr × Nm)) (d : Cd) : takeB k1 os d = takeB k2 os d := by
  unfold takeB
  rw [freeB_congr h, nextO_congr h]
theorem freeB_next {kv : Cn} {d : Cd} (h : freeB kv d = true) : cnt kv d.c = d.k - 1 := by
  unfold freeB at h
  exact of_decide_eq_true (Bool.and_eq_true_iff.mp h).1
theorem takeB_next {kv : Cn} {os : List (Addr × Nm)} {d : Cd} (h : takeB kv os d = true) : cnt kv d.c = d.k - 1 := freeB_next (Bool.and_eq_true_iff.mp h).1
abbrev CL := List (Addr × Cd)
def keyC (x : Addr × Cd) : Int × Int := (x.2.c, x.2.k)
def refsC (l : CL) : List V := l.map fun p => V.ref p.1
/-- calls as they lie -/
def ClAt (K : PySem.W.Frag) (cs : List Int) (H : Hp) (l : CL) : Prop := ∀ x ∈ l, CallAt K H x.1 x.2 ∧ x.2.zs.length ≤ 1000 ∧ 1 ≤ x.2.k ∧ x.2.c ∈ cs
theorem ClAt.same {K : PySem.W.Frag} {cs : List Int} {H H1 : Hp} {l : CL} (h : ClAt K cs H l) (s : Same H H1) : ClAt K cs H1 l := fun x hx => ⟨(h x hx).1.same s, (h x hx).2⟩
theorem ClAt.ext {K : PySem.W.Frag} {cs : List Int} {H H1 : Hp} {l : CL} (h : ClAt K cs H l) (s : Ext H H1) : ClAt K cs H1 l := fun x hx => ⟨(h x hx).1.ext s, (h x hx).2⟩
theorem ClAt.sub {K : PySem.W.Frag} {cs : List Int} {H : Hp} {l m : CL} (h : ClAt K cs H l) (s : ∀ x ∈ m, x ∈ l) : ClAt K cs H m := fun x hx => h x (s x hx)
/-- a pass of calls from the counts k0 to the counts k1 -/
structure Pass (cs : List Int) (k0 : Cn) (calls row : CL) (k1 : Cn) : Prop where
  sub : ∀ x ∈ row, x ∈ calls
  nd : (row.map keyC).Nodup
  cn : Cnt cs k1
  up : ∀ c, cnt k0 c ≤ cnt k1 c
  ex : ∀ c k, cnt k0 c < k → k ≤ cnt k1 c → ∃ x ∈ row, x.2.c = c ∧ x.2.k = k
  iff : ∀ x ∈ row, cnt k0 x.2.c < x.2.k ∧ x.2.k ≤ cnt k1 x.2.c
theorem Pass.nil {cs : List Int} {k0 k1 : Cn} {calls : CL} (h : Cnt cs k1) (e : ∀ c, cnt k1 c = cnt k0 c) : Pass cs k0 calls [] k1 :=
  ⟨fun _ h => (nomatch h), List.nodup_nil, h, fun c => by rw [e]; exact Int.le_refl _, fun c k a b => by rw [e] at b; omega, fun _ h => (nomatch h)⟩
theorem Pass.step {cs : List Int} {k0 k1 : Cn} {calls row : CL} {x : Addr × Cd} (h : Pass cs k0 calls row k1) (hx : x ∈ calls) (hc : x.2.c ∈ cs) (h1 : 1 ≤ x.2.k) (hn : cnt k1 x.2.c = x.2.k - 1) : Pass cs k0 calls (row ++ [x]) (putC k1 x.2.c x.2.k) := by
  have hp := cnt_put k1 x.2.c x.2.k
  have hup := h.up x.2.c
  refine ⟨fun y hy => ?_, ?_, h.cn.put hc h1, fun c => ?_, fun c k a b => ?_, fun y hy => ?_⟩
  · rcases List.mem_append.mp hy with hy | hy
    · exact h.sub y hy
    · rw [List.mem_singleton.mp hy]; exact hx
  · rw [List.map_append]
    refine List.nodup_append.mpr ⟨h.nd, List.nodup_cons.mpr ⟨fun z => (nomatch z), List.nodup_nil⟩, ?_⟩
    intro a ha b hb e
    have hb' : b = keyC x := List.mem_singleton.mp hb
    obtain ⟨y, hy, ey⟩ := List.mem_map.mp ha
    have e3 : keyC y = keyC x := by rw [ey, e, hb']
    have e4 : y.2.c = x.2.c := congrArg Prod.fst e3
    have e5 : y.2.k = x.2.k := congrArg Prod.snd e3
    have := (h.iff y hy).2
    rw [e4, e5, hn] at this
    omega
  · rw [hp]
    by_cases e : c = x.2.c
    · rw [if_pos e, e]; omega
    · rw [if_neg e]; exact h.up c
  · rw [hp] at b
    by_cases e : c = x.2.c
    · rw [if_pos e] at b
      subst e
      by_cases e2 : k = x.2.k
      · exact ⟨x, List.mem_append_right _ List.mem_cons_self, rfl, e2.symm⟩
      · obtain ⟨y, hy, e3⟩ := h.ex _ k a (by omega)
        exact ⟨y, List.mem_append_left _ hy, e3⟩
    · rw [if_neg e] at b
      obtain ⟨y, hy, e3⟩ := h.ex c k a b
      exact ⟨y, List.mem_append_left _ hy, e3⟩
  · rw [hp]
    rcases List.mem_append.mp hy with hy | hy
    · have := h.iff y hy
      refine ⟨this.1, ?_⟩
      by_cases e : y.2.c = x.2.c
      · rw [if_pos e]; rw [e] at this; omega
      · rw [if_neg e]; exact this.2
    · have e := List.mem_singleton.mp hy
      subst e
      rw [if_pos rfl]
      omega
theorem Pass.len {cs : List Int} {k0 k1 : Cn} {calls row : CL} (h : Pass cs k0 calls row k1) : row.length ≤ calls.length := by
  have := nodup_len h.nd (m := calls.map keyC) fun k hk => by
    obtain ⟨x, hx, e⟩ := List.mem_map.mp hk
    rw [← e]; exact List.mem_map.mpr ⟨x, h.sub x hx, rfl⟩
  rwa [List.length_map, List.length_map] at this
theorem Pass.trans {cs : List Int} {k0 k1 k2 : Cn} {calls r1 r2 : CL} (h : Pass cs k0 calls r1 k1) (g : Pass cs k1 calls r2 k2) : Pass cs k0 calls (r1 ++ r2) k2 := by
  refine ⟨fun y hy => ?_, ?_, g.cn, fun c => Int.le_trans (h.up c) (g.up c), fun c k a b => ?_, fun y hy => ?_⟩
  · rcases List.mem_append.mp hy with hy | hy
    · exact h.sub y hy
    · exact g.sub y hy
  · rw [List.map_append]
    refine List.nodup_append.mpr ⟨h.nd, g.nd, ?_⟩
    intro a ha b hb e
    obtain ⟨y, hy, ey⟩ := List.mem_map.mp ha
    obtain ⟨z, hz, ez⟩ := List.mem_map.mp hb
    have e3 : keyC y = keyC z := by rw [ey, e, ez]
    have e4 : y.2.c = z.2.c := congrArg Prod.fst e3
    have e5 : y.2.k = z.2.k := congrArg Prod.snd e3
    have q1 := (h.iff y hy).2
    have q2 := (g.iff z hz).1
    rw [e4, e5] at q1
    omega
  · by_cases hk : k ≤ cnt k1 c
    · obtain ⟨y, hy, e⟩ := h.ex c k a hk
      exact ⟨y, List.mem_append_left _ hy, e⟩
    · obtain ⟨y, hy, e⟩ := g.ex c k (by omega) b
      exact ⟨y, List.mem_append_right _ hy, e⟩
  · rcases List.mem_append.mp hy with hy | hy
    · exact ⟨(h.iff y hy).1, Int.le_trans (h.iff y hy).2 (g.up _)⟩
    · exact ⟨Int.lt_of_le_of_lt (h.up _) (g.iff y hy).1, (g.iff y hy).2⟩
/-- calls that are not yet behind the counts -/
def leftN (kv : Cn) (calls : CL) : Nat := (calls.filter fun x => decide (cnt kv x.2.c < x.2.k)).length
theorem filter_len_le {α : Type} {p q : α → Bool} : ∀ {l : List α}, (∀ x ∈ l, q x = true → p x = true) → (l.filter q).length ≤ (l.filter p).length
  | [], _ => Nat.le_refl _
  | x :: r, h => by
    have ih := filter_len_le (p := p) (q := q) (l := r) fun y hy => h y (List.mem_cons_of_mem _ hy)
    rw [List.filter_cons, List.filter_cons]
    cases e : q x with
    | true => rw [h x List.mem_cons_self e, if_pos rfl, if_pos rfl, List.length_cons, List.length_cons]; omega
    | false =>
      rw [if_neg (by decide)]
      split
      · rw [List.length_cons]; omega
      · exact ih
theorem filter_len_lt {α : Type} {p q : α → Bool} : ∀ {l : List α} {y : α}, (∀ x ∈ l, q x = true → p x = true) → y ∈ l → p y = true → q y = false → (l.filter q).length < (l.filter p).length
  | [], _, _, hy, _, _ => nomatch hy
  | x :: r, y, h, hy, py, qy => by
    rw [List.filter_cons, List.filter_cons]
    rcases List.mem_cons.mp hy with e | hy
    · subst e
      have := filter_len_le (p := p) (q := q) (l := r) fun y hy => h y (List.mem_cons_of_mem _ hy)
      rw [qy, py, if_neg (by decide), if_pos rfl, List.length_cons]
      omega
    · have ih := filter_len_lt (p := p) (q := q) (l := r) (y := y) (fun z hz => h z (List.mem_cons_of_mem _ hz)) hy py qy
      cases e : q x with
      | true => rw [h x List.mem_cons_self e, if_pos rfl, if_pos rfl, List.length_cons, List.length_cons]; omega
      | false =>
        rw [if_neg (by decide)]
        split
        · rw [List.length_cons]; omega
        · exact ih
theorem Pass.left {cs : List Int} {k0 k1 : Cn} {calls row : CL} (h : Pass cs k0 calls row k1) (hne : row ≠ []) : leftN k1 calls < leftN k0 calls := by
  obtain ⟨x, hx⟩ := List.exists_mem_of_ne_nil row hne
  have q := h.iff x hx
  unfold leftN
  refine filter_len_lt (y := x) (fun y hy e => ?_) (h.sub x hx) (decide_eq_true q.1) (decide_eq_false (by omega))
  have := of_decide_eq_true e
  have := h.up y.2.c
  exact decide_eq_true (by omega)
theorem Pass.nil_eq {cs : List Int} {k0 k1 : Cn} {calls : CL} (h : Pass cs k0 calls [] k1) (c : Int) : cnt k1 c = cnt k0 c := by
  have h1 := h.up c
  by_cases e : cnt k1 c = cnt k0 c
  · exact e
  · obtain ⟨x, hx, _⟩ := h.ex c (cnt k1 c) (by omega) (Int.le_refl _)
    exact nomatch hx
theorem Pass.perm {cs : List Int} {k0 k1 : Cn} {calls c2 row : CL} (h : Pass cs k0 calls row k1) (p : ∀ x, x ∈ calls → x ∈ c2) : Pass cs k0 c2 row k1 := ⟨fun x hx => p x (h.sub x hx), h.nd, h.cn, h.up, h.ex, h.iff⟩
theorem Pass.frm {cs : List Int} {k0 k0' k1 : Cn} {calls row : CL} (h : Pass cs k0 calls row k1) (e : ∀ c, cnt k0' c = cnt k0 c) : Pass cs k0' calls row k1 :=
  ⟨h.sub, h.nd, h.cn, fun c => by rw [e]; exact h.up c, fun c k a b => h.ex c k (by rw [← e]; exact a) b, fun x hx => by rw [e]; exact h.iff x hx⟩

end
end G
namespace G
open PySem PySem.Spec L2
open PyProof.Rows hiding St
section
variable {P : Program} {w : World} {K : PySem.W.Frag} {mg : Str → Option Value} {base : Heap} {CT : Addr × Addr}
section
variable {X : Cx} {K : PySem.W.Frag}
theorem sl_tupK (hK : X.K = K := by rfl) : SlR X (rSlT K) := by subst hK; exact sl_tup
theorem sl_listK (hK : X.K = K := by rfl) : SlR X (rSlL K) := by subst hK; exact sl_list
theorem ix_tupK (hK : X.K = K := by rfl) : IxR X (rIxT K) := by subst hK; exact ix_tup
theorem ix_listK (hK : X.K = K := by rfl) : IxR X (rIxL K) := by subst hK; exact ix_list
end
section
variable {X : Cx} {K : PySem.W.Frag} {k j : Nat} {m : Str} {ps : List Str} {sp : Kd → Sp} {pos apos : Pos} {o e : Expr} {es : List Expr} {ta : TE} {t : TA}
theorem M3.peK {pl : Sem Bool} (D : M3 X.prog X.w K X.mg X.base k m ps sp) (hr : Room j X.A) (ho : PE X o ta) (ha : PA X (e :: es) t) (hK : X.K = K := by rfl) (hk : k ≤ j := by decide)
    (hst : starEach (e :: es) X.env = (false, eval e X.env) :: starEach es X.env := by rfl) (hpl : (backTo pos (starEach es X.env)).any (·.1) = false := by rfl)
    (ht : eval (.Call (.Attribute o m apos) (e :: es) [] pos) X.env = (do
      let ov ← eval o X.env
      standAt apos.atName
      let (f, first) ← holding [ov] (getMethod ov m pl)
      callWith pos f first (backTo pos (starEach (e :: es) X.env)) (backToKw pos (keywordEach [] X.env))) := by rfl) :
    PE X (.Call (.Attribute o m apos) (e :: es) [] pos) (tM3 K m sp ta t) := by
  subst hK
  exact M3.pe D hr ho ha hk hst hpl ht
theorem M3.pe0K {pl : Sem Bool} (D : M3 X.prog X.w K X.mg X.base k m ps sp) (hr : Room j X.A) (ho : PE X o ta) (hK : X.K = K := by rfl) (hk : k ≤ j := by decide)
    (ht : eval (.Call (.Attribute o m apos) [] [] pos) X.env = (do
      let ov ← eval o X.env
      standAt apos.atName
      let (f, first) ← holding [ov] (getMethod ov m pl)
      callWith pos f first (backTo pos (starEach [] X.env)) (backToKw pos (keywordEach [] X.env))) := by rfl) :
    PE X (.Call (.Attribute o m apos) [] [] pos) (tM3 K m sp ta tNil) := by
  subst hK
  exact M3.pe0 D hr ho hk ht
end
theorem dp_nm {K : PySem.W.Frag} {H : Hp} {t : Addr} {nm : Nm} (h : H t = some (.tup (nmV nm))) : Dp K H (.ref t) (nmD nm) := .tup (SqT.of h) (.cons (.int _) (.cons (.int _) (.cons (.int _) .nil)))
theorem nm_shaped (nm : Nm) : SeqAt.shaped (nmD nm) = true := by
  unfold SeqAt.shaped
  rw [nm_depth]
  simp [nmD, nmI, PyData.canLay0, PyData.canLayAll0]
theorem nm_eqv (a b : Nm) : PyData.eqv (nmD a) (nmD b) = decide (a = b) := by
  obtain ⟨a1, a2, a3⟩ := a
  obtain ⟨b1, b2, b3⟩ := b
  by_cases h : (a1, a2, a3) = (b1, b2, b3)
  · rw [decide_eq_true h]
    cases h
    simp [nmD, nmI, PyData.eqv, PyData.eqvAll]
  · rw [decide_eq_false h]
    simp only [Prod.mk.injEq] at h
    simp only [nmD, nmI, List.map, PyData.eqv, PyData.eqvAll]
    simp
    omega
theorem nm_eqv_none (a : Nm) : PyData.eqv (nmD a) .none = false := by simp [nmD, PyData.eqv]
def spNextName (K : PySem.W.Frag) : Sp := fun vs H Q _ => ∃ a b os kv, vs = [.ref a, .ref b] ∧ SqL K H a (refsO os) ∧ OrdL H os ∧ Rd H b (.dK (encC kv)) ∧ Q (optR (nextO kv os)) H
theorem nextO_append {kv : Cn} {os : List (Addr × Nm)} {o : Addr × Nm} (h : nextO kv os = none) : nextO kv (os ++ [o]) = if o.2.2.2 ≤ cnt kv o.2.2.1 then none else some o := by
  unfold nextO at h ⊢
  rw [List.find?_append, h, Option.none_or, List.find?_cons]
  by_cases e : o.2.2.2 ≤ cnt kv o.2.2.1
  · rw [if_pos e, decide_eq_true e]; rfl
  · rw [if_neg e, decide_eq_false e]; rfl
theorem nextO_found {kv : Cn} {os r : List (Addr × Nm)} {o : Addr × Nm} (h : nextO kv os = none) (e : ¬ o.2.2.2 ≤ cnt kv o.2.2.1) : nextO kv (os ++ o :: r) = some o := by
  unfold nextO at h ⊢
  rw [List.find?_append, h, Option.none_or, List.find?_cons, decide_eq_false e]; rfl
theorem take_drop_at {α : Type} {l : List α} {i : Nat} {x : α} (h : l[i]? = some x) : l = l.take i ++ x :: l.drop (i + 1) := by
  obtain ⟨hi, e⟩ := List.getElem?_eq_some_iff.mp h
  conv => lhs; rw [← List.take_append_drop i l]
  rw [List.drop_eq_getElem_cons hi, e]
theorem ok_next_name (A : All P w K mg base CT) : DOk P w K mg base CX0 3 "next_name" ["places", "counts"] [] (spNextName K) := by
  obtain ⟨fd, F⟩ := fu_next_name A.d
  refine ⟨_, fd, [], FunD.ok0 F sc_next_name (fun vs H Q E h => ?_) (fun cdv A0 outer s H vs Q E hr h => ?_), gl_next_name A.kin A.ns A.d, F.kp, F.bindsN fun _ _ _ _ _ _ us hl => match us, hl with | [_, _], _ => rfl, .nil⟩
  · obtain ⟨a, b, os, kv, rfl, ha, ho, hb, q⟩ := h
    rfl
  · obtain ⟨a, b, os, kv, rfl, ha, ho, hb, q⟩ := h
    have hu := hu_of hr
    refine ⟨_, pss_cons (ps_for PassesOwn.never rfl (pi_list (pv 0)) (pg_name (i := 2) sc_next_name.nd rfl (by first | exact Or.inl rfl | exact Or.inr rfl)) (pss_one (ps_if (pt_not (pt_val ((ok_covers_name A).pe hr pass0 (pa_cons (pv 1) (pa_cons (pv 2) pa_nil))))) (pss_one (ps_ret (pv 2))) pss_nil)))
      (pss_one (ps_ret pe_non)), ?_⟩
    refine ⟨_, rfl, a, rfl, ⟨_, ha⟩, for_list (K := K) (a := a) (xs := refsO os) (fun i σ H1 => ∃ (v : Option V), σ = [some (.ref a), some (.ref b), v] ∧ H1 = H ∧ nextO kv (os.take i) = none) ⟨none, rfl, rfl, rfl⟩ (fun i σ H1 _ ⟨_, _, e, _⟩ => by rw [e]; exact ha) ?_ ?_⟩
    · rintro i x σ H1 hx ⟨v, rfl, rfl, hn⟩
      unfold refsO at hx
      rw [List.getElem?_map] at hx
      obtain ⟨o, eo, rfl⟩ := Option.map_eq_some_iff.mp hx
      refine ⟨_, rfl, _, rfl, b, o.1, kv, o.2.1, o.2.2.1, o.2.2.2, rfl, hb, ho o (List.mem_of_getElem? eo), _, rfl, ?_⟩
      by_cases e : o.2.2.2 ≤ cnt kv o.2.2.1
      · rw [decide_eq_true e]
        refine ⟨_, rfl, rfl, ?_⟩
        rw [List.take_add_one, eo]
        show nextO kv (os.take i ++ [o]) = none
        rw [nextO_append hn, if_pos e]
      · rw [decide_eq_false e]
        refine ⟨_, rfl, ?_⟩
        have e2 : nextO kv os = some o := by rw [take_drop_at eo]; exact nextO_found hn e
        rw [e2] at q
        exact q
    · rintro σ H1 ⟨v, rfl, rfl, hn⟩
      have hl : (refsO os).length = os.length := List.length_map _
      rw [hl, List.take_length] at hn
      rw [hn] at q
      exact q
def optD : Option (Addr × Nm) → PyData
  | some o => nmD o.2
  | none => .none
def spCanTake (K : PySem.W.Frag) : Sp := fun vs H Q _ => ∃ a b p d kv os, vs = [.ref a, .ref b, .ref p] ∧ CallAt K H a d ∧ d.zs.length ≤ 1000 ∧ Rd H b (.dK (encC kv)) ∧ SqL K H p (refsO os) ∧ OrdL H os ∧ ∀ H', Same H H' → Q (.bl (takeB kv os d)) H'
theorem ok_can_take (A : All P w K mg base CT) : DOk P w K mg base CX0 4 "can_take" ["call", "counts", "places"] [] (spCanTake K) := by
  obtain ⟨fd, F⟩ := fu_can_take A.d
  refine ⟨_, fd, [], FunD.ok0 F sc_can_take (fun vs H Q E h => ?_) (fun cdv A0 outer s H vs Q E hr h => ?_), gl_can_take A.kin A.ns A.d, F.kp, F.bindsN fun _ _ _ _ _ _ us hl => match us, hl with | [_, _, _], _ => rfl, .nil⟩
  · obtain ⟨a, b, p, d, kv, os, rfl, ha, hz, hb, hp, ho, k⟩ := h
    rfl
  · obtain ⟨a, b, p, d, kv, os, rfl, ha, hz, hb, hp, ho, k⟩ := h
    have hu := hu_of hr
    refine ⟨_, pss_cons (ps_if (pt_not (pt_val (M3.peK (ok_call_free A) hr (pv 0) (pa_cons (pv 1) pa_nil)))) (pss_one (ps_ret pe_bl)) pss_nil)
      (pss_one (ps_ret (pe_or (pe_not (M3.pe0K (ok_call_asks_place A) hr (pv 0))) (pe_one (pe_cmpR (op_eqD hr.units) (M3.pe0 (ok_call_name A) hr (pv 0)) ((ok_next_name A).pe hr pass0 (pa_cons (pv 2) (pa_cons (pv 1) pa_nil))) (nomark _)))))), ?_⟩
    obtain ⟨⟨dx, h1⟩, h2⟩ := id ha
    refine ⟨_, rfl, a, dx, d.kd, _, _, _, _, _, rfl, h1, by kernel_rfl, _, rfl, a, b, d, kv, rfl, ha, rfl, hz, hb, fun H1 s1 => ?_⟩
    refine ⟨_, rfl, ?_⟩
    have q := k H1 s1
    unfold takeB at q
    cases hf : freeB kv d with
    | false =>
      rw [hf, Bool.false_and] at q
      exact q
    | true =>
      rw [hf, Bool.true_and] at q
      refine ⟨_, rfl, a, dx, d.kd, _, _, _, _, _, rfl, s1 _ _ h1, by kernel_rfl, a, rfl, ?_⟩
      refine ⟨_, rfl, _, rfl, ?_⟩
      cases h1k : isOne d.kd with
      | false =>
        rw [h1k] at q
        exact q
      | true =>
        rw [h1k] at q
        refine ⟨_, rfl, a, dx, d.kd, _, _, _, _, _, rfl, s1 _ _ h1, by kernel_rfl, a, d, rfl, ha.same s1, fun t H2 ht s2 h2t => ?_⟩
        have s12 := s1.trans s2
        refine ⟨_, rfl, _, rfl, p, b, os, kv, rfl, s12.seq hp, ho.same s12, rd_same s12 hb, nmD d.nm, optD (nextO kv os), dp_nm h2t, ?_, nm_shaped _, ?_, ?_⟩
        · cases hn : nextO kv os with
          | none => exact .non
          | some o => exact dp_nm (ho.same s12 o (List.mem_of_find?_eq_some hn))
        · cases nextO kv os with
          | none => rfl
          | some o => exact nm_shaped _
        · have q2 := k H2 s12
          unfold takeB at q2
          rw [hf, h1k, Bool.true_and] at q2
          have e : (!true || decide ((nextO kv os).map (·.2) = some d.nm)) = PyData.eqv (nmD d.nm) (optD (nextO kv os)) := by
            cases nextO kv os with
            | none => exact (nm_eqv_none _).symm
            | some o =>
              show (false || decide (some o.2 = some d.nm)) = PyData.eqv (nmD d.nm) (nmD o.2)
              rw [nm_eqv, Bool.false_or]
              by_cases z : d.nm = o.2
              · rw [decide_eq_true z, decide_eq_true (congrArg some z.symm)]
              · rw [decide_eq_false z, decide_eq_false fun y => z (Option.some.inj y).symm]
          rw [← e]
          exact q2

end
end G
namespace G
open PySem PySem.Spec L2
open PyProof.Rows hiding St
section
variable {P : Program} {w : World} {K : PySem.W.Frag} {mg : Str → Option Value} {base : Heap} {CT : Addr × Addr}
theorem perm_map {α β : Type} {f : α → β} {xs ys : List β} (h : ys.Perm xs) : ∀ l : List α, xs = l.map f → ∃ l' : List α, l'.Perm l ∧ ys = l'.map f := by
  induction h with
  | nil =>
    intro l e
    cases l with
    | nil => exact ⟨[], .nil, rfl⟩
    | cons _ _ => cases e
  | cons x _ ih =>
    intro l e
    cases l with
    | nil => cases e
    | cons y l =>
      rw [List.map_cons] at e
      injection e with e1 e2
      obtain ⟨l', p, e3⟩ := ih l e2
      exact ⟨y :: l', p.cons y, by rw [List.map_cons, e1, e3]⟩
  | swap x y l0 =>
    intro l e
    cases l with
    | nil => cases e
    | cons u l =>
      cases l with
      | nil => cases e
      | cons v l =>
        rw [List.map_cons, List.map_cons] at e
        injection e with e1 e2
        injection e2 with e2 e3
        exact ⟨v :: u :: l, List.Perm.swap u v l, by rw [List.map_cons, List.map_cons, e1, e2, e3]⟩
  | trans _ _ ih1 ih2 =>
    intro l e
    obtain ⟨l2, p2, e2⟩ := ih2 l e
    obtain ⟨l1, p1, e1⟩ := ih1 l2 e2
    exact ⟨l1, p1.trans p2, e1⟩
def spRun (K : PySem.W.Frag) (cs : List Int) : Sp := fun vs H Q _ => ∃ a b p kv calls os, vs = [.ref a, .ref b, .ref p] ∧ Rd H a (.dK (encC kv)) ∧ Cnt cs kv ∧ cs.length ≤ 60 ∧ SqL K H b (refsC calls) ∧ ClAt K cs H calls ∧ calls.length ≤ 1000000 ∧ SqL K H p (refsO os) ∧ OrdL H os ∧
  ∀ t r e row kv' H', Same H H' → H t = none → H r = none → H e = none → H' t = some (.tup [.ref r, .ref e]) → H' r = some (.lst (refsC row)) → H' e = some (.dK (encC kv')) → Pass cs kv calls row kv' → (∀ x ∈ calls, takeB kv' os x.2 = false) → Q (.ref t) H'
theorem refsC_len (l : CL) : (refsC l).length = l.length := List.length_map _
theorem refsC_get {l : CL} {i : Nat} {x : V} (h : (refsC l)[i]? = some x) : ∃ y, l[i]? = some y ∧ x = .ref y.1 := by
  unfold refsC at h
  rw [List.getElem?_map] at h
  obtain ⟨y, e, z⟩ := Option.map_eq_some_iff.mp h
  exact ⟨y, e, z.symm⟩
theorem refsC_app (l : CL) (x : Addr × Cd) : refsC (l ++ [x]) = refsC l ++ [.ref x.1] := by unfold refsC; rw [List.map_append]; rfl
theorem small6 {n : Nat} (h : n ≤ 2000000) : n < sizeLine := by rw [sizeLine_eq]; omega
theorem ok_run (A : All P w K mg base CT) {cs : List Int}: DOk P w K mg base CX0 5 "run" ["counts", "calls", "places"] [] (spRun K cs) := by
  obtain ⟨fd, F⟩ := fu_run A.d
  refine ⟨_, fd, [], FunD.ok0 F sc_run (fun vs H Q E h => ?_) (fun cdv A0 outer s H vs Q E hr h => ?_), gl_run A.kin A.ns A.d, F.kp, F.bindsN fun _ _ _ _ _ _ us hl => match us, hl with | [_, _, _], _ => rfl, .nil⟩
  · obtain ⟨a, b, p, kv, calls, os, rfl, ha, hkv, hl, hb, hcl, hN, hp, ho, k⟩ := h
    rfl
  · obtain ⟨a, b, p, kv, calls, os, rfl, ha, hkv, hl, hb, hcl, hN, hp, ho, k⟩ := h
    have hu := hu_of hr
    refine ⟨_, pss_cons (ps_set (i := 3) sc_run.nd rfl (by first | exact Or.inl rfl | exact Or.inr rfl) ((ok_unpacked A).pe hr pass0 (pa_cons ((ok_packed A (cs := cs)).pe hr pass0 (pa_cons (pv 0) pa_nil)) pa_nil)))
      (pss_cons (ps_set (i := 4) sc_run.nd rfl (by first | exact Or.inl rfl | exact Or.inr rfl) (pe_callBK (cr_sortKey (f := He.ga K "rank") hr (by decide)) (by rfl) (fr_sorted A.kin A.ns A.d) (by decide +kernel) (pa_cons (pv 1) pa_nil) (pk_cons (pe_glob (v := .ref (He.ga K "rank")) (by rfl) (gl_rank A.kin A.ns A.d) rfl) pk_nil)))
      (pss_cons (ps_set (i := 5) sc_run.nd rfl (by first | exact Or.inl rfl | exact Or.inr rfl) (pe_lst pa_nil))
      (pss_cons (ps_set (i := 6) sc_run.nd rfl (by first | exact Or.inl rfl | exact Or.inr rfl) (pe_un un_neg pe_int))
      (pss_cons (ps_while PassesOwn.never (pt_cmpR op_lt (pv 6) (pe_callB call_len_seq (by rfl) (fr_len A.kin A.ns A.d) (by decide +kernel) (pa_cons (pv 5) pa_nil)) (nomark _)) (pss_cons (ps_set (i := 6) sc_run.nd rfl (by first | exact Or.inl rfl | exact Or.inr rfl) (pe_callB call_len_seq (by rfl) (fr_len A.kin A.ns A.d) (by decide +kernel) (pa_cons (pv 5) pa_nil))) (pss_one (ps_for PassesOwn.never rfl (pi_list (pv 4)) (pg_name (i := 7) sc_run.nd rfl (by first | exact Or.inl rfl | exact Or.inr rfl)) (pss_one (ps_if (pt_val ((ok_can_take A).pe hr pass0 (pa_cons (pv 7) (pa_cons (pv 3) (pa_cons (pv 2) pa_nil))))) (pss_cons (ps_dput hu (pv 3) (cf_caller A.d (pv 7)) (cf_count A.d (pv 7)) rfl) (pss_one (ps_expr (pe_bm PySem.F.plainAttrs_list PySem.F.slot_list_append PySem.F.type_list_append mt_append (pv 5) (pa_cons (pv 7) pa_nil))))) pss_nil))))))
      (pss_one (ps_ret (pe_tup (pa_cons (pv 5) (pa_cons (pv 3) pa_nil))))))))), ?_⟩
    refine ⟨_, rfl, a, kv, rfl, ha, hkv, hl, fun t0 ps H1 ht0 s1 hpk hperm => ⟨t0, ps, rfl, hpk, ?_, fun E H2 hE s2 hE2 => ?_⟩⟩
    · have h1 := hperm.length_eq
      have h2 := hkv.len
      rw [List.length_map] at h1
      omega
    have s12 := s1.trans s2
    have hEH : H E = none := s1.free hE
    have ndp : ((ps.map (·.2)).map (·.1)).Nodup := (hperm.map (·.1)).nodup_iff.mpr hkv.nd
    rw [mkC_self ndp] at hE2
    have ck : Cnt cs (ps.map (·.2)) := hkv.perm hperm
    have ce : ∀ c, cnt (ps.map (·.2)) c = cnt kv c := fun c => cnt_congr_perm hkv.nd hperm c
    generalize ps.map (·.2) = kv0 at hE2 ck ce
    refine ⟨_, rfl, b, refsC calls, callKey H2, rfl, rfl, s12.seq hb, fun x hx => ?_, fun ys R hys hR => ?_⟩
    · obtain ⟨y, hy, ey⟩ := List.mem_map.mp hx
      rw [← ey]
      exact rank_key A ((hcl y hy).1.same s12)
    obtain ⟨rk, hrk, rfl⟩ := perm_map (f := fun p : Addr × Cd => V.ref p.1) hys calls rfl
    have hRH : H R = none := s12.free hR
    have nER : E ≠ R := ne_of_none hE2 hR
    refine ⟨Nat.zero_le _, fun W hW => ?_⟩
    have s3 : Same H2 (upd H2 R (.lst (refsC rk))) := same_new hR
    have hWH : H W = none := (s12.trans s3).free hW
    have nRW : R ≠ W := ne_of_none upd_same hW
    have nEW : E ≠ W := ne_of_none (s3 _ _ hE2) hW
    obtain ⟨H3, hH3⟩ : ∃ H3, H3 = upd (upd H2 R (.lst (refsC rk))) W (.lst []) := ⟨_, rfl⟩
    have s03 : Same H H3 := by rw [hH3]; exact same_set (s12.trans s3) hWH
    have e3 : H3 E = some (.dK (encC kv0)) := by rw [hH3, upd_ne nEW]; exact s3 _ _ hE2
    have r3 : H3 R = some (.lst (refsC rk)) := by rw [hH3, upd_ne nRW]; exact upd_same
    have w3 : H3 W = some (.lst (refsC [])) := by rw [hH3]; exact upd_same
    have hrkc : ∀ x, x ∈ rk ↔ x ∈ calls := fun x => hrk.mem_iff
    have hrkl : rk.length = calls.length := hrk.length_eq
    subst hH3
    refine ⟨_, rfl, fun m σ H1 => ∃ (n : Int) (v7 : Option V) (row : CL) (kv' : Cn), σ = [some (.ref a), some (.ref b), some (.ref p), some (.ref E), some (.ref R), some (.ref W), some (.int n), v7] ∧ Same H H1 ∧ H1 R = some (.lst (refsC rk)) ∧ H1 E = some (.dK (encC kv')) ∧ H1 W = some (.lst (refsC row)) ∧ Pass cs kv calls row kv' ∧
      (n < row.length ∨ (n = row.length ∧ ∀ x ∈ calls, takeB kv' os x.2 = false)) ∧ m = 2 * (calls.length - row.length) + (if n < row.length then 1 else 0), ⟨_, -1, none, [], kv0, rfl, s03, r3, e3, w3, Pass.nil ck ce, .inl (by decide), rfl⟩, ?_⟩
    rintro m σ H4 ⟨n, v7, row, kv', rfl, s4, r4, e4, w4, hps, hn, rfl⟩
    have hpl := hps.len
    refine ⟨_, rfl, _, rfl, W, _, rfl, .inl (SqL.of w4), _, _, rfl, rfl, ?_⟩
    rw [refsC_len]
    refine ⟨_, rfl, ?_⟩
    refine ite2 (fun hlt => ?_) (fun hlt => ?_)
    · have hlt' := of_decide_eq_true hlt
      refine ⟨fun σ' H' => ∃ (v7 : Option V) (row' : CL) (kv' : Cn), σ' = [some (.ref a), some (.ref b), some (.ref p), some (.ref E), some (.ref R), some (.ref W), some (.int (row.length : Nat)), v7] ∧ Same H H' ∧ H' R = some (.lst (refsC rk)) ∧ H' E = some (.dK (encC kv')) ∧ H' W = some (.lst (refsC row')) ∧ Pass cs kv calls row' kv' ∧ row.length ≤ row'.length ∧
        (row'.length = row.length → ∀ x ∈ calls, takeB kv' os x.2 = false), ?_, ?_⟩
      · rintro σ' H' ⟨v7', row', kv2, rfl, s5, r5, e5, w5, hps', hle, hno⟩
        have hpl' := hps'.len
        by_cases hq : row'.length = row.length
        · refine ⟨_, ?_, (row.length : Nat), v7', row', kv2, rfl, s5, r5, e5, w5, hps', .inr ⟨by rw [hq], hno hq⟩, rfl⟩
          rw [if_neg (by rw [hq]; omega), if_pos hlt', hq]
          omega
        · refine ⟨_, ?_, (row.length : Nat), v7', row', kv2, rfl, s5, r5, e5, w5, hps', .inl (by omega), rfl⟩
          rw [if_pos (by omega), if_pos hlt']
          omega
      · refine ⟨_, rfl, W, _, rfl, .inl (SqL.of w4), ?_⟩
        rw [refsC_len]
        refine ⟨_, rfl, R, rfl, ⟨_, SqL.of r4⟩, for_list (K := K) (a := R) (xs := refsC rk) (fun i σ H1 => ∃ (v7 : Option V) (row' : CL) (kv' : Cn), σ = [some (.ref a), some (.ref b), some (.ref p), some (.ref E), some (.ref R), some (.ref W), some (.int (row.length : Nat)), v7] ∧ Same H H1 ∧ H1 R = some (.lst (refsC rk)) ∧ H1 E = some (.dK (encC kv')) ∧ H1 W = some (.lst (refsC row')) ∧ Pass cs kv calls row' kv' ∧ row.length ≤ row'.length ∧
          (row'.length = row.length → ∀ x ∈ rk.take i, takeB kv' os x.2 = false)) ⟨v7, row, kv', rfl, s4, r4, e4, w4, hps, Nat.le_refl _, fun _ x hx => by rw [List.take_zero] at hx; cases hx⟩ (fun i σ H1 _ ⟨_, _, _, _, _, h, _⟩ => SqL.of h) ?_ ?_⟩
        · rintro i x σ H5 hx ⟨v7', row', kv2, rfl, s5, r5, e5, w5, hps', hle, hno⟩
          obtain ⟨y, ey, rfl⟩ := refsC_get hx
          have hyc : y ∈ calls := (hrkc y).mp (List.mem_of_getElem? ey)
          obtain ⟨c1, c2, c3, c4⟩ := hcl y hyc
          have hpl' := hps'.len
          refine ⟨_, rfl, _, rfl, _, rfl, y.1, E, p, y.2, kv2, os, rfl, c1.same s5, c2, .inl e5, s5.seq hp, ho.same s5, fun H6 s6 => ?_⟩
          have s56 := s5.trans s6
          refine ⟨_, rfl, ?_⟩
          cases ht : takeB kv2 os y.2 with
          | true =>
            have hnx := takeB_next ht
            have e6 := s6 _ _ e5
            have w6 := s6 _ _ w5
            have r6 := s6 _ _ r5
            refine iteT ⟨_, rfl, y.1, y.2, rfl, c1.same s56, _, rfl, _, rfl, y.1, y.2, rfl, c1.same s56, E, _, rfl, DPut.k (k := Sum.inl y.2.c) e6 (cs_small hps'.cn (by omega)), ?_⟩
            rw [putK_enc]
            have nEW' : W ≠ E := nEW.symm
            have w7 : upd H6 E (.dK (encC (putC kv2 y.2.c y.2.k))) W = some (.lst (refsC row')) := by rw [upd_ne nEW']; exact w6
            refine ⟨_, rfl, .inl ⟨rfl, _, .inl (.inl w7)⟩, _, rfl, W, _, _, rfl, rfl, w7, by rw [refsC_len]; exact small6 (by omega), some (.ref y.1), row' ++ [y], putC kv2 y.2.c y.2.k, rfl, same_set (same_set s56 hEH) hWH, ?_, ?_, ?_, hps'.step hyc c4 c3 hnx, ?_, fun hz => ?_⟩
            · rw [upd_ne nRW, upd_ne nER.symm]; exact r6
            · rw [upd_ne nEW, upd_same]
            · rw [upd_same, refsC_app]
            · rw [List.length_append]; exact Nat.le_trans hle (Nat.le_add_right _ _)
            · rw [List.length_append] at hz
              have : [y].length = 1 := rfl
              omega
          | false =>
            refine iteF ⟨_, row', kv2, rfl, s56, s6 _ _ r5, s6 _ _ e5, s6 _ _ w5, hps', hle, fun hz x hx => ?_⟩
            rw [List.take_add_one, ey] at hx
            rcases List.mem_append.mp hx with hx | hx
            · exact hno hz x hx
            · rw [List.mem_singleton.mp hx]; exact ht
        · rintro σ H5 ⟨v7', row', kv2, rfl, s5, r5, e5, w5, hps', hle, hno⟩
          refine ⟨v7', row', kv2, rfl, s5, r5, e5, w5, hps', hle, fun hz x hx => hno hz x ?_⟩
          rw [refsC_len, List.take_length]
          exact (hrkc x).mpr hx
    · have hge : ¬ n < row.length := fun z => hlt (decide_eq_true z)
      obtain ⟨_, hno⟩ : n = row.length ∧ ∀ x ∈ calls, takeB kv' os x.2 = false := hn.resolve_left hge
      refine ⟨_, rfl, _, rfl, (by show 2 ≤ sizeLine; decide), fun T hT => ?_⟩
      have s5 : Same H4 (upd H4 T (.tup [.ref W, .ref E])) := same_new hT
      exact k T W E row kv' _ (s4.trans s5) (s4.free hT) hWH hEH upd_same (s5 _ _ w4) (s5 _ _ e4) hps hno

end
end G
namespace G
open PySem PySem.Spec L2
open PyProof.Rows hiding St
section
variable {P : Program} {w : World} {K : PySem.W.Frag} {mg : Str → Option Value} {base : Heap} {CT : Addr × Addr}
theorem u65 {k : Nat} {A : Around} (r : Room k A) : A.units + 65 < cLine := by have := r.un; omega
def spFirst (K : PySem.W.Frag) (cs : List Int) : Sp := fun vs H Q _ => ∃ a b kv calls, vs = [.ref a, .ref b] ∧ SqL K H a (refsC calls) ∧ ClAt K cs H calls ∧ calls.length ≤ 1000000 ∧ Rd H b (.dK (encC kv)) ∧
  ∀ v H', Same H H' → (v = .non ∨ ∃ x ∈ calls, v = .ref x.1 ∧ isOne x.2.kd = true ∧ freeB kv x.2 = true) → Q v H'
theorem ok_first_asking (A : All P w K mg base CT) {cs : List Int}: DOk P w K mg base CX0 5 "first_asking" ["calls", "counts"] [] (spFirst K cs) := by
  obtain ⟨fd, F⟩ := fu_first_asking A.d
  refine ⟨_, fd, [], FunD.ok0 F sc_first_asking (fun vs H Q E h => ?_) (fun cdv A0 outer s H vs Q E hr h => ?_), gl_first_asking A.kin A.ns A.d, F.kp, F.bindsN fun _ _ _ _ _ _ us hl => match us, hl with | [_, _], _ => rfl, .nil⟩
  · obtain ⟨a, b, kv, calls, rfl, ha, hcl, hN, hb, k⟩ := h
    rfl
  · obtain ⟨a, b, kv, calls, rfl, ha, hcl, hN, hb, k⟩ := h
    have hu := hu_of hr
    refine ⟨_, pss_cons (ps_setLc (i := 2) (own := [("call", 3)]) (g := gName 3) rfl sc_first_asking.nd rfl rfl (sw_true rfl rfl rfl (by decide +kernel)) (pi_list (pv 0)) (blkOk_by (N := ["calls", "counts", "asking", "call"]) (sc := defScope s_first_asking) (by decide +kernel)) (fun _ _ _ _ _ => pg_name (i := 3) sc_first_asking.nd rfl (Or.inl rfl)) (fun _ _ _ _ _ => (pts_one (PW.pt (pw_and (pt_val (M3.pe0K (ok_call_asks_place A) hr (pv 3))) (pw_and1 (pt_val (M3.peK (ok_call_free A) hr (pv 3) (pa_cons (pv 1) pa_nil)))))))) (fun _ _ _ _ _ => (pv 3)))
      (pss_cons (ps_if (pt_cmpR (op_eqNil hu) (pv 2) (pe_lst pa_nil) (nomark _)) (pss_one (ps_ret pe_non)) pss_nil)
      (pss_one (ps_ret (pe_callBK (cr_minKey (f := He.ga K "rank") hr (by decide) rfl) (by rfl) (fr_min A.kin A.ns A.d) (by decide +kernel) (pa_cons (pv 2) pa_nil) (pk_cons (pe_glob (v := .ref (He.ga K "rank")) (by rfl) (gl_rank A.kin A.ns A.d) rfl) pk_nil))))), ?_⟩
    refine ⟨_, rfl, a, rfl, ⟨_, ha⟩, fun D hD => lc_list (K := K) (a := a) (xs := refsC calls) (fun i H1 => Same H H1 ∧ ∃ l : CL, H1 D = some (.lst (refsC l)) ∧ l.length ≤ i ∧ ∀ x ∈ l, x ∈ calls ∧ isOne x.2.kd = true ∧ freeB kv x.2 = true) ⟨same_new hD, [], upd_same, Nat.le_refl _, fun _ h => (nomatch h)⟩ (fun i H1 _ ⟨s1, _⟩ => s1.seq ha) ?_ ?_⟩
    · rintro i x H1 hx ⟨s1, l, h2, hli, h3⟩
      obtain ⟨y, ey, rfl⟩ := refsC_get hx
      obtain ⟨c1, c2, c3, c4⟩ := hcl y (List.mem_of_getElem? ey)
      have hi := (List.getElem?_eq_some_iff.mp ey).1
      obtain ⟨⟨dx, e1⟩, _⟩ := id c1
      refine ⟨rfl, _, rfl, y.1, dx, y.2.kd, _, _, _, _, _, rfl, s1 _ _ e1, by kernel_rfl, y.1, rfl, ?_⟩
      have skip : Same H H1 ∧ ∃ l : CL, H1 D = some (.lst (refsC l)) ∧ l.length ≤ i + 1 ∧ ∀ x ∈ l, x ∈ calls ∧ isOne x.2.kd = true ∧ freeB kv x.2 = true := ⟨s1, l, h2, Nat.le_succ_of_le hli, h3⟩
      refine ⟨_, rfl, ?_⟩
      cases hone : isOne y.2.kd with
      | false => exact skip
      | true =>
        refine ⟨_, rfl, y.1, dx, y.2.kd, _, _, _, _, _, rfl, s1 _ _ e1, by kernel_rfl, _, rfl, y.1, b, y.2, kv, rfl, c1.same s1, rfl, c2, rd_same s1 hb, fun H2 s2 => ?_⟩
        have h22 := s2 _ _ h2
        refine ⟨_, rfl, ?_⟩
        cases hfr : freeB kv y.2 with
        | false => exact ⟨s1.trans s2, l, h22, Nat.le_succ_of_le hli, h3⟩
        | true =>
          refine ⟨_, rfl, _, h22, ?_, same_set (s1.trans s2) hD, l ++ [y], ?_, ?_, fun x hx => ?_⟩
          · rw [refsC_len]; exact small6 (by omega)
          · rw [upd_same, refsC_app]
          · rw [List.length_append]; exact Nat.add_le_add_right hli 1
          · rcases List.mem_append.mp hx with hx | hx
            · exact h3 x hx
            · rw [List.mem_singleton.mp hx]; exact ⟨List.mem_of_getElem? ey, hone, hfr⟩
    · rintro H1 ⟨s1, l, h2, hli, h3⟩
      refine ⟨_, rfl, Nat.zero_le _, fun u hu2 => ⟨D, u, refsC l, rfl, rfl, SqL.of (same_new hu2 _ _ h2), SqL.of upd_same, ?_⟩⟩
      have s2 : Same H1 (upd H1 u (.lst [])) := same_new hu2
      have s12 := s1.trans s2
      refine ⟨_, rfl, ?_⟩
      cases l with
      | nil => exact k .non _ s12 (.inl rfl)
      | cons z r =>
        refine ⟨_, rfl, D, refsC (z :: r), callKey (upd H1 u (.lst [])), rfl, rfl, SqL.of (s2 _ _ h2), (fun z => nomatch z), fun x hx => ?_, fun x hx => ?_⟩
        · obtain ⟨y, hy, ey⟩ := List.mem_map.mp hx
          rw [← ey]
          exact rank_key A ((hcl y (h3 y hy).1).1.same s12)
        · obtain ⟨y, hy, ey⟩ := List.mem_map.mp hx
          exact k x _ s12 (.inr ⟨y, (h3 y hy).1, ey.symm, (h3 y hy).2⟩)
theorem cut_to (xs : List V) (j : Nat) : cutV xs none (some (j : Int)) = xs.take j := by
  unfold cutV
  rw [HT.sIx_none, HT.sIx_nat, List.drop_zero, Nat.sub_zero]
  by_cases h : j ≤ xs.length
  · rw [Nat.min_eq_left h]
  · rw [Nat.min_eq_right (by omega), List.take_length, List.take_of_length_le (by omega)]
theorem cut_from (xs : List V) (j : Nat) : cutV xs (some (j : Int)) none = xs.drop j := by
  unfold cutV
  rw [HT.sIx_none, HT.sIx_nat]
  by_cases h : j ≤ xs.length
  · rw [Nat.min_eq_left h]
    exact List.take_of_length_le (by rw [List.length_drop]; omega)
  · rw [Nat.min_eq_right (by omega), List.drop_length, List.take_nil, List.drop_of_length_le (by omega)]
def spCovered (K : PySem.W.Frag) : Sp := fun vs H Q _ => ∃ a b os kv, vs = [.ref a, .ref b] ∧ H a = some (.lst (refsO os)) ∧ OrdL H os ∧ Rd H b (.dK (encC kv)) ∧
  ∀ q os' H', H q = none → Same H H' → H' q = some (.lst (refsO os')) → (∀ o ∈ os', o ∈ os) → nextO kv os' = none → os'.length ≤ os.length → Q (.ref q) H'
theorem dpAll_ord {K : PySem.W.Frag} {H : Hp} : ∀ {os : List (Addr × Nm)}, OrdL H os → DpAll K H (refsO os) (os.map fun o => nmD o.2)
  | [], _ => .nil
  | o :: r, h => .cons (dp_nm (h o List.mem_cons_self)) (dpAll_ord fun q hq => h q (List.mem_cons_of_mem _ hq))
theorem ord_lay : ∀ os : List (Addr × Nm), PyData.canLayAll0 (os.map fun o => nmD o.2) = true ∧ PyData.depthAll (os.map fun o => nmD o.2) ≤ 1
  | [] => ⟨by simp [PyData.canLayAll0], by simp [PyData.depthAll]⟩
  | o :: r => by
    obtain ⟨h1, h2⟩ := ord_lay r
    have h3 := nm_depth o.2
    have h4 : (nmD o.2).canLay0 = true := by simp [nmD, nmI, PyData.canLay0, PyData.canLayAll0]
    simp only [List.map_cons, PyData.canLayAll0, PyData.depthAll, h1, h4, Bool.and_true, true_and]
    omega
theorem ord_shaped (os : List (Addr × Nm)) : SeqAt.shaped (.list (os.map fun o => nmD o.2)) = true := by
  obtain ⟨h1, h2⟩ := ord_lay os
  unfold SeqAt.shaped
  simp only [PyData.canLay0, PyData.depth, h1, Bool.true_and]
  exact decide_eq_true (by omega)
theorem nextO_place {kv : Cn} : ∀ {os : List (Addr × Nm)} {o : Addr × Nm}, nextO kv os = some o → ∃ j, os[j]? = some o ∧ nextO kv (os.take j) = none ∧ ∀ (m : Nat) (o' : Addr × Nm), m < j → os[m]? = some o' → o'.2 ≠ o.2
  | [], _, h => by cases h
  | p :: r, o, h => by
    unfold nextO at h
    rw [List.find?_cons] at h
    by_cases e : p.2.2.2 ≤ cnt kv p.2.2.1
    · rw [decide_eq_true e] at h
      obtain ⟨j, h1, h2, h3⟩ := nextO_place (kv := kv) (os := r) h
      refine ⟨j + 1, h1, ?_, fun m o' hm ho' => ?_⟩
      · unfold nextO at h2 ⊢
        rw [List.take_succ_cons, List.find?_cons, decide_eq_true e]
        exact h2
      · cases m with
        | zero =>
          cases ho'
          intro z
          have q := List.find?_some h
          rw [← z, decide_eq_true e] at q
          cases q
        | succ m => exact h3 m o' (by omega) ho'
    · rw [decide_eq_false e] at h
      have e2 : p = o := Option.some.inj h
      exact ⟨0, by rw [e2]; rfl, rfl, fun m _ hm => absurd hm (Nat.not_lt_zero _)⟩
theorem ok_covered (A : All P w K mg base CT) : DOk P w K mg base CX0 4 "covered" ["places", "counts"] [] (spCovered K) := by
  obtain ⟨fd, F⟩ := fu_covered A.d
  refine ⟨_, fd, [], FunD.ok0 F sc_covered (fun vs H Q E h => ?_) (fun cdv A0 outer s H vs Q E hr h => ?_), gl_covered A.kin A.ns A.d, F.kp, F.bindsN fun _ _ _ _ _ _ us hl => match us, hl with | [_, _], _ => rfl, .nil⟩
  · obtain ⟨a, b, os, kv, rfl, ha0, ho, hb, k⟩ := h
    rfl
  · obtain ⟨a, b, os, kv, rfl, ha0, ho, hb, k⟩ := h
    have hu := hu_of hr
    refine ⟨_, pss_cons (ps_set (i := 2) sc_covered.nd rfl (by first | exact Or.inl rfl | exact Or.inr rfl) ((ok_next_name A).pe hr pass0 (pa_cons (pv 0) (pa_cons (pv 1) pa_nil))))
      (pss_cons (ps_if (pt_cmpR op_isN (pv 2) pe_non (nomark _)) (pss_one (ps_ret (pe_callTy (call_list_of) (by rfl) (fr_list A.kin A.ns A.d) (by decide +kernel) (pa_cons (pv 0) pa_nil)))) pss_nil)
      (pss_one (ps_ret (pe_slice sl_list (pv 0) po_none (po_some (pe_bm PySem.F.plainAttrs_list PySem.F.slot_list_index PySem.F.type_list_index (mt_indexD (u65 hr)) (pv 0) (pa_cons (pv 2) pa_nil))))))), ?_⟩
    have ha : SqL K H a (refsO os) := SqL.of ha0
    refine ⟨_, rfl, _, rfl, a, b, os, kv, rfl, ha, ho, hb, ?_⟩
    cases hn : nextO kv os with
    | none =>
      refine ⟨_, rfl, rfl, _, rfl, ?_⟩
      refine ⟨_, rfl, a, _, rfl, .inl ha, fun q hq => ?_⟩
      exact k q os _ hq (same_new hq) upd_same (fun _ h => h) hn (Nat.le_refl _)
    | some o =>
      obtain ⟨j, h1, h2, h3⟩ := nextO_place hn
      refine ⟨_, rfl, rfl, _, rfl, ?_⟩
      have hj : (os.map fun o => nmD o.2)[j]? = some (nmD o.2) := by rw [List.getElem?_map, h1]; rfl
      have hom : o ∈ os := List.mem_of_getElem? h1
      refine iteF ⟨_, rfl, _, rfl, .inl ⟨rfl, _, .inl (.inl ha0)⟩, _, rfl, a, .ref o.1, nmD o.2, os.map fun o => nmD o.2, j, nmD o.2, rfl, rfl, .lst ha (dpAll_ord ho), dp_nm (ho o hom), ord_shaped os, nm_shaped _, hj, by rw [nm_eqv, decide_eq_true rfl], fun m z' hm hz' => ?_, ?_⟩
      · rw [List.getElem?_map] at hz'
        obtain ⟨o', eo', rfl⟩ := Option.map_eq_some_iff.mp hz'
        rw [nm_eqv]
        exact decide_eq_false (h3 m o' hm eo')
      · refine ⟨_, rfl, a, refsO os, rfl, ha, fun q hq => k q (os.take j) _ hq (same_new hq) ?_ (fun o' ho' => List.mem_of_mem_take ho') h2 (by rw [List.length_take]; exact Nat.min_le_right _ _)⟩
        rw [upd_same, cut_to]
        unfold refsO
        rw [List.map_take]

end
end G
namespace G
open PySem PySem.Spec L2
open PyProof.Rows hiding St
section
variable {P : Program} {w : World} {K : PySem.W.Frag} {mg : Str → Option Value} {base : Heap} {CT : Addr × Addr}
def spPlaced (K : PySem.W.Frag) (cs : List Int) : Sp := fun vs H Q _ => ∃ a b p kv calls os, vs = [.ref a, .ref b, .ref p] ∧ Rd H a (.dK (encC kv)) ∧ Cnt cs kv ∧ cs.length ≤ 60 ∧ SqL K H b (refsC calls) ∧ ClAt K cs H calls ∧ calls.length ≤ 1000000 ∧ SqL K H p (refsO os) ∧ OrdL H os ∧ os.length ≤ 5000000 ∧
  ∀ t r o row kv' os' H', Same H H' → H t = none → H r = none → H o = none → H' t = some (.tup [.ref r, .ref o]) → H' r = some (.lst (refsC row)) → H' o = some (.lst (refsO os')) → OrdL H' os' → os'.length ≤ os.length + calls.length → Pass cs kv calls row kv' → Q (.ref t) H'
theorem leftN_le (kv : Cn) (calls : CL) : leftN kv calls ≤ calls.length := List.length_filter_le _ _
theorem refsO_app (l : List (Addr × Nm)) (x : Addr × Nm) : refsO (l ++ [x]) = refsO l ++ [.ref x.1] := by unfold refsO; rw [List.map_append]; rfl
theorem refsC_app2 (l m : CL) : refsC (l ++ m) = refsC l ++ refsC m := by unfold refsC; rw [List.map_append]
theorem ok_placed (A : All P w K mg base CT) {cs : List Int}: DOk P w K mg base CX0 6 "placed" ["counts", "calls", "places"] [] (spPlaced K cs) := by
  obtain ⟨fd, F⟩ := fu_placed A.d
  refine ⟨_, fd, [], FunD.ok0 F sc_placed (fun vs H Q E h => ?_) (fun cdv A0 outer s H vs Q E hr h => ?_), gl_placed A.kin A.ns A.d, F.kp, F.bindsN fun _ _ _ _ _ _ us hl => match us, hl with | [_, _, _], _ => rfl, .nil⟩
  · obtain ⟨a, b, p, kv, calls, os, rfl, ha, hkv, hl, hb, hcl, hN, hp, ho, hO, k⟩ := h
    rfl
  · obtain ⟨a, b, p, kv, calls, os, rfl, ha, hkv, hl, hb, hcl, hN, hp, ho, hO, k⟩ := h
    have hu := hu_of hr
    refine ⟨_, pss_cons (ps_asg ((ok_run A (cs := cs)).pe hr pass0 (pa_cons (pv 0) (pa_cons (pv 1) (pa_cons (pv 2) pa_nil)))) (pg_tup rfl (pgs_cons (pg_name (i := 3) sc_placed.nd rfl (by first | exact Or.inl rfl | exact Or.inr rfl)) (pgs_cons (pg_name (i := 4) sc_placed.nd rfl (by first | exact Or.inl rfl | exact Or.inr rfl)) pgs_nil))))
      (pss_cons (ps_set (i := 5) sc_placed.nd rfl (by first | exact Or.inl rfl | exact Or.inr rfl) (pe_callTy (call_list_of) (by rfl) (fr_list A.kin A.ns A.d) (by decide +kernel) (pa_cons (pv 2) pa_nil)))
      (pss_cons (ps_set (i := 6) sc_placed.nd rfl (by first | exact Or.inl rfl | exact Or.inr rfl) ((ok_first_asking A (cs := cs)).pe hr pass0 (pa_cons (pv 1) (pa_cons (pv 4) pa_nil))))
      (pss_cons (ps_while PassesOwn.never (pt_cmpR op_notN (pv 6) pe_non (nomark _)) (pss_cons (ps_set (i := 5) sc_placed.nd rfl (by first | exact Or.inl rfl | exact Or.inr rfl) (pe_op op_catL ((ok_covered A).pe hr pass0 (pa_cons (pv 5) (pa_cons (pv 4) pa_nil))) (pe_lst (pa_cons (M3.pe0K (ok_call_name A) hr (pv 6)) pa_nil)))) (pss_cons (ps_asg ((ok_run A (cs := cs)).pe hr pass0 (pa_cons (pv 4) (pa_cons (pv 1) (pa_cons (pv 5) pa_nil)))) (pg_tup rfl (pgs_cons (pg_name (i := 7) sc_placed.nd rfl (by first | exact Or.inl rfl | exact Or.inr rfl)) (pgs_cons (pg_name (i := 4) sc_placed.nd rfl (by first | exact Or.inl rfl | exact Or.inr rfl)) pgs_nil)))) (pss_cons (ps_set (i := 3) sc_placed.nd rfl (by first | exact Or.inl rfl | exact Or.inr rfl) (pe_op op_catL (pv 3) (pv 7))) (pss_one (ps_set (i := 6) sc_placed.nd rfl (by first | exact Or.inl rfl | exact Or.inr rfl) ((ok_first_asking A (cs := cs)).pe hr pass0 (pa_cons (pv 1) (pa_cons (pv 4) pa_nil)))))))))
      (pss_one (ps_ret (pe_tup (pa_cons (pv 3) (pa_cons (pv 5) pa_nil)))))))), ?_⟩
    refine ⟨_, rfl, _, rfl, _, rfl, a, b, p, kv, calls, os, rfl, ha, hkv, hl, hb, hcl, hN, hp, ho, fun t0 R E row kv0 H1 s1 _ hR hE ht0 hR1 hE1 ps0 _ => ?_⟩
    refine ⟨t0, _, rfl, SqT.of ht0, rfl, _, _, rfl, _, _, rfl, rfl, ?_⟩
    refine ⟨_, rfl, p, _, rfl, .inl (s1.seq hp), fun O hO1 => ?_⟩
    have hOH : H O = none := s1.free hO1
    have s2 : Same H1 (upd H1 O (.lst (refsO os))) := same_new hO1
    have s12 := s1.trans s2
    refine ⟨_, rfl, _, rfl, b, E, kv0, calls, rfl, s12.seq hb, hcl.same s12, hN, .inl (s2 _ _ hE1), fun v H3 s3 hv => ?_⟩
    have s13 := s12.trans s3
    refine ⟨fun m σ H1 => ∃ (R E O : Addr) (v : V) (w : Option V) (row : CL) (kv' : Cn) (os' : List (Addr × Nm)), σ = [some (.ref a), some (.ref b), some (.ref p), some (.ref R), some (.ref E), some (.ref O), some v, w] ∧ Same H H1 ∧ H R = none ∧ H O = none ∧ H1 R = some (.lst (refsC row)) ∧ H1 E = some (.dK (encC kv')) ∧ H1 O = some (.lst (refsO os')) ∧ OrdL H1 os' ∧ Pass cs kv calls row kv' ∧ os'.length + leftN kv' calls ≤ os.length + calls.length ∧
      (v = .non ∨ ∃ x ∈ calls, v = .ref x.1 ∧ isOne x.2.kd = true ∧ freeB kv' x.2 = true) ∧ m = leftN kv' calls, ⟨_, R, E, O, v, none, row, kv0, os, rfl, s13, hR, hOH, s3 _ _ (s2 _ _ hR1), s3 _ _ (s2 _ _ hE1), s3 _ _ upd_same, ho.same s13, ps0, Nat.add_le_add_left (leftN_le _ _) _, hv, rfl⟩, ?_⟩
    rintro m σ H1 ⟨R, E, O, v, w, row, kv', os', rfl, s1, hR, hO2, r1, e1, o1, ho1, ps, hlen, hv, rfl⟩
    refine ⟨_, rfl, rfl, _, rfl, ?_⟩
    rcases hv with rfl | ⟨x, hx, rfl, hx1, hx2⟩
    · refine iteF ⟨_, rfl, _, rfl, (by show 2 ≤ sizeLine; decide), fun T hT => ?_⟩
      have s5 : Same H1 (upd H1 T (.tup [.ref R, .ref O])) := same_new hT
      exact k T R O row kv' os' _ (s1.trans s5) (s1.free hT) hR hO2 upd_same (s5 _ _ r1) (s5 _ _ o1) (ho1.same s5) (by omega) ps
    · have hpl := ps.len
      obtain ⟨c1, c2, c3, c4⟩ := hcl x hx
      refine iteT ⟨fun σ' H' => ∃ (R E O : Addr) (v : V) (w : Option V) (row : CL) (kv2 : Cn) (os' : List (Addr × Nm)), σ' = [some (.ref a), some (.ref b), some (.ref p), some (.ref R), some (.ref E), some (.ref O), some v, w] ∧ Same H H' ∧ H R = none ∧ H O = none ∧ H' R = some (.lst (refsC row)) ∧ H' E = some (.dK (encC kv2)) ∧ H' O = some (.lst (refsO os')) ∧ OrdL H' os' ∧ Pass cs kv calls row kv2 ∧ os'.length + leftN kv2 calls ≤ os.length + calls.length ∧
        (v = .non ∨ ∃ x ∈ calls, v = .ref x.1 ∧ isOne x.2.kd = true ∧ freeB kv2 x.2 = true) ∧ leftN kv2 calls < leftN kv' calls, fun σ' H' ⟨R, E, O, v, w, row, kv2, os', h1, h2, h3, h4, h5, h6, h7, h8, h9, h10, h11, h12⟩ => ⟨_, h12, R, E, O, v, w, row, kv2, os', h1, h2, h3, h4, h5, h6, h7, h8, h9, h10, h11, rfl⟩, ?_⟩
      refine ⟨_, rfl, _, rfl, O, E, os', kv', rfl, o1, ho1, .inl e1, fun q os2 H2 hq s2 hq2 hsub hnx hl2 => ?_⟩
      have c12 := (c1.same s1).same s2
      obtain ⟨⟨dx, ex⟩, _⟩ := id c12
      refine ⟨_, rfl, x.1, dx, x.2.kd, _, _, _, _, _, rfl, ex, by kernel_rfl, x.1, x.2, rfl, c12, fun t H3 ht s3 ht3 => ?_⟩
      refine ⟨(by show 1 ≤ sizeLine; decide), fun l hl3 => ?_⟩
      have s4 : Same H3 (upd H3 l (.lst [.ref t])) := same_new hl3
      refine ⟨q, l, _, _, rfl, rfl, s4 _ _ (s3 _ _ hq2), upd_same, ?_, fun O3 hO3 => ?_⟩
      · unfold refsO
        rw [List.length_map, sizeLine_eq]
        show os2.length + 1 ≤ _
        omega
      have s5 := same_new (o := .lst (refsO os2 ++ [.ref t])) hO3
      have s25 := ((s2.trans s3).trans s4).trans s5
      have s15 := s1.trans s25
      have hO3H : H O3 = none := (((s1.trans s2).trans s3).trans s4).free hO3
      have ho3 : OrdL (upd (upd H3 l (.lst [.ref t])) O3 (.lst (refsO os2 ++ [.ref t]))) (os2 ++ [(t, x.2.nm)]) := fun o hoo => by
        rcases List.mem_append.mp hoo with hoo | hoo
        · exact s25 _ _ (ho1 o (hsub o hoo))
        · rw [List.mem_singleton.mp hoo]
          exact s5 _ _ (s4 _ _ ht3)
      have hO4 : (upd (upd H3 l (.lst [.ref t])) O3 (.lst (refsO os2 ++ [.ref t]))) O3 = some (.lst (refsO (os2 ++ [(t, x.2.nm)]))) := by rw [upd_same, refsO_app]
      refine ⟨_, rfl, _, rfl, _, rfl, E, b, O3, kv', calls, os2 ++ [(t, x.2.nm)], rfl, .inl (s25 _ _ e1), ps.cn, hl, s15.seq hb, hcl.same s15, hN, SqL.of hO4, ho3, fun t5 r5 e5 row2 kv2 H5 s6 ht5 hr5 he5 ht5' hr5' he5' ps2 hno => ?_⟩
      refine ⟨t5, _, rfl, SqT.of ht5', rfl, _, _, rfl, _, _, rfl, rfl, ?_⟩
      have s16 := s15.trans s6
      have hpl2 := ps2.len
      refine ⟨_, rfl, _, rfl, R, r5, _, _, rfl, rfl, s6 _ _ (s25 _ _ r1), hr5', ?_, fun R7 hR7 => ?_⟩
      · rw [refsC_len, refsC_len, sizeLine_eq]; omega
      have s7 := same_new (o := .lst (refsC row ++ refsC row2)) hR7
      have s17 := s16.trans s7
      refine ⟨_, rfl, _, rfl, b, e5, kv2, calls, rfl, s17.seq hb, hcl.same s17, hN, .inl (s7 _ _ he5'), fun v2 H8 s8 hv2 => ?_⟩
      have s18 := s17.trans s8
      have hne : row2 ≠ [] := by
        rintro rfl
        have hcg := ps2.nil_eq
        have h1 := hno x hx
        rw [takeB_congr hcg] at h1
        have h2 : takeB kv' (os2 ++ [(t, x.2.nm)]) x.2 = true := by
          unfold takeB
          rw [hx2, hx1, nextO_append hnx, if_neg (by have := freeB_next hx2; show ¬ x.2.k ≤ cnt kv' x.2.c; omega)]
          show (true && (!true || decide (some x.2.nm = some x.2.nm))) = true
          rw [decide_eq_true rfl]; rfl
        rw [h1] at h2; cases h2
      have hlt := ps2.left hne
      refine ⟨R7, e5, O3, v2, _, row ++ row2, kv2, os2 ++ [(t, x.2.nm)], rfl, s18, s16.free hR7, hO3H, s8 _ _ (by rw [upd_same, refsC_app2]), s8 _ _ (s7 _ _ he5'), s8 _ _ (s7 _ _ (s6 _ _ hO4)), ((ho3.same s6).same s7).same s8, ps.trans ps2, ?_, hv2, hlt⟩
      rw [List.length_append]
      show os2.length + 1 + _ ≤ _
      omega

end
end G
namespace G
open PySem PySem.Spec L2
open PyProof.Rows hiding St
section
variable {P : Program} {w : World} {K : PySem.W.Frag} {mg : Str → Option Value} {base : Heap} {CT : Addr × Addr}
/-! ### errors with an own __init__ -/
theorem oex_of {C : Str} (h : exB K C = true) : OexC K (He.ga K C) := by
  unfold exB at h
  rw [Bool.and_eq_true, Bool.and_eq_true, Bool.and_eq_true, Bool.and_eq_true] at h
  obtain ⟨h1, h2, h3, h4, h5⟩ := h
  refine ⟨?_, of_decide_eq_true h2, of_decide_eq_true h3, of_decide_eq_true h4, h5⟩
  unfold oexB at h1
  split at h1
  · rename_i dct cd sl e
    split at h1
    · rename_i C' bm k0 k1 k2 k3 n k5 e1 e2
      rw [Bool.and_eq_true, Bool.and_eq_true, Bool.and_eq_true, Bool.and_eq_true] at h1
      obtain ⟨g1, g2, g3, g4, g5⟩ := h1
      obtain ⟨nm, bs, mro, ns, qn, hd, sn, sb, ab, col, del⟩ := cd
      dsimp only at g3 g4 g5
      have z1 := of_decide_eq_true g1
      have z2 := of_decide_eq_true g2
      have z4 : hd = true := g4
      have z3 : del = false := by
        cases del with
        | false => rfl
        | true => cases g3
      subst z4 z3 z2
      have e3 : sl = #[k0, k1, k2, k3, some (.builtin "ValueError.__new__"), k5] := by
        have := congrArg List.toArray e2
        rwa [Array.toArray_toList] at this
      refine ⟨nm, qn, ns, bs, bm, sn, sb, ab, col, dct, k0, k1, k2, k3, k5, ?_, g5⟩
      have e4 : mro = .ref C' :: bm := e1
      rw [e, e4, e3, z1]
    · cases h1
  · cases h1
theorem oex_Held (A : All P w K mg base CT) : OexC K (He.ga K "Held") := oex_of (Bool.and_eq_true_iff.mp A.more).2
theorem oex_Stopped (A : All P w K mg base CT) : OexC K (He.ga K "Stopped") := oex_of (Bool.and_eq_true_iff.mp A.more).1
theorem is_fn {K : PySem.W.Frag} {v : Value} (h : PySem.W.isFn K v = true) : PySem.W.typeIn K v = some (.type "function") := by
  unfold PySem.W.isFn at h
  exact beq_iff_eq.mp h
/-- the heap behind the making of an error -/
def ExAt (H H' : Hp) (cls : Value) (d : Option Addr) (C : Addr) : Prop := cls = .ref C ∧ Same H H'
def spHeldInit (K : PySem.W.Frag) : Sp := fun vs H Q _ => ∃ a y z, vs = [.ref a, y, z] ∧ H a = some (exo a (He.ga K "Held") none) ∧ ∀ dx fs, H dx = none → dx ≠ a → Q .non (upd (upd (upd H dx (exd dx [("many", y)])) a (exo a (He.ga K "Held") (some dx))) dx (exd dx fs))
theorem fk_Held_init (A : All P w K mg base CT) : ∃ fd, FunD K d_Held_init.name d_Held_init.qual (defArgs s_Held_init) (defBody s_Held_init) (defScope s_Held_init) (d_Held_init.dvs K) [] (He.fAd K ("Held", some "__init__")) fd ∧ FnOk P w K mg base CX0 1 (He.fAd K ("Held", some "__init__")) fd ["self", "many", "room"] (spHeldInit K) := by
  obtain ⟨fd, F⟩ := fu_Held_init A.d
  refine ⟨fd, F, FunD.ok0 F sc_Held_init (fun vs H Q E h => ?_) (fun cdv A0 outer s H vs Q E hr h => ?_)⟩
  · obtain ⟨a, y, z, rfl, ha, k⟩ := h
    rfl
  · obtain ⟨a, y, z, rfl, ha, k⟩ := h
    refine ⟨_, pss_cons (ps_ost (pv 0) (pv 1)) (pss_one (ps_ost (pv 0) (pv 2))), ?_⟩
    refine ⟨_, rfl, _, rfl, a, He.ga K "Held", rfl, oex_Held A, no_Held_many A.d, .inl ⟨ha, fun dx hdx hne => ?_⟩⟩
    refine ⟨_, rfl, _, rfl, a, He.ga K "Held", rfl, oex_Held A, no_Held_room A.d, .inr ⟨dx, _, upd_same, by rw [upd_ne hne, upd_same], by show 1 ≤ 900; decide, ?_⟩⟩
    exact k dx _ hdx hne
def spStoppedInit (K : PySem.W.Frag) : Sp := fun vs H Q _ => ∃ a y, vs = [.ref a, y] ∧ H a = some (exo a (He.ga K "Stopped") none) ∧ ∀ dx, H dx = none → dx ≠ a → Q .non (upd (upd H dx (exd dx [("ballot", y)])) a (exo a (He.ga K "Stopped") (some dx)))
theorem fk_Stopped_init (A : All P w K mg base CT) : ∃ fd, FunD K d_Stopped_init.name d_Stopped_init.qual (defArgs s_Stopped_init) (defBody s_Stopped_init) (defScope s_Stopped_init) (d_Stopped_init.dvs K) [] (He.fAd K ("Stopped", some "__init__")) fd ∧ FnOk P w K mg base CX0 1 (He.fAd K ("Stopped", some "__init__")) fd ["self", "ballot"] (spStoppedInit K) := by
  obtain ⟨fd, F⟩ := fu_Stopped_init A.d
  refine ⟨fd, F, FunD.ok0 F sc_Stopped_init (fun vs H Q E h => ?_) (fun cdv A0 outer s H vs Q E hr h => ?_)⟩
  · obtain ⟨a, y, rfl, ha, k⟩ := h
    rfl
  · obtain ⟨a, y, rfl, ha, k⟩ := h
    refine ⟨_, pss_one (ps_ost (pv 0) (pv 1)), ?_⟩
    exact ⟨_, rfl, _, rfl, a, He.ga K "Stopped", rfl, oex_Stopped A, no_Stopped_ballot A.d, .inl ⟨ha, fun dx hdx hne => k dx hdx hne⟩⟩
/-! what an error leaves of the heap -/
theorem same_del {H1 H2 : Hp} {a d : Addr} {fs : List (Str × V)} (ha : H1 a = none) (hd : H1 d = none) (h : ∀ b o, b ≠ a → b ≠ d → H1 b = some o → H2 b = some o) : Same H1 (upd (del H2 a) d (.xd fs)) := fun b o e => by
  rw [upd_ne (ne_of_none e hd), del_ne (ne_of_none e ha)]
  exact h b o (ne_of_none e ha) (ne_of_none e hd) e
theorem held_heap {H1 : Hp} {C a dx : Addr} {y : V} {fs : List (Str × V)} (ha : H1 a = none) (hdx : upd H1 a (exo a C none) dx = none) (hne : dx ≠ a) :
    (upd (upd (upd (upd H1 a (exo a C none)) dx (exd dx [("many", y)])) a (exo a C (some dx))) dx (exd dx fs)) a = some (exo a C (some dx)) ∧ (upd (upd (upd (upd H1 a (exo a C none)) dx (exd dx [("many", y)])) a (exo a C (some dx))) dx (exd dx fs)) dx = some (exd dx fs) ∧ H1 dx = none ∧
    Same H1 (upd (del (upd (upd (upd (upd H1 a (exo a C none)) dx (exd dx [("many", y)])) a (exo a C (some dx))) dx (exd dx fs)) a) dx (.xd fs)) := by
  have h1 : H1 dx = none := by rw [upd_ne hne] at hdx; exact hdx
  refine ⟨by rw [upd_ne hne.symm, upd_same], upd_same, h1, same_del ha h1 fun b o n1 n2 e => ?_⟩
  rw [upd_ne n2, upd_ne n1, upd_ne n2, upd_ne n1]
  exact e
theorem stopped_heap {H1 : Hp} {C a dx : Addr} {y : V} (ha : H1 a = none) (hdx : upd H1 a (exo a C none) dx = none) (hne : dx ≠ a) :
    (upd (upd (upd H1 a (exo a C none)) dx (exd dx [("ballot", y)])) a (exo a C (some dx))) a = some (exo a C (some dx)) ∧ (upd (upd (upd H1 a (exo a C none)) dx (exd dx [("ballot", y)])) a (exo a C (some dx))) dx = some (exd dx [("ballot", y)]) ∧ H1 dx = none ∧
    Same H1 (upd (del (upd (upd (upd H1 a (exo a C none)) dx (exd dx [("ballot", y)])) a (exo a C (some dx))) a) dx (.xd [("ballot", y)])) := by
  have h1 : H1 dx = none := by rw [upd_ne hne] at hdx; exact hdx
  refine ⟨upd_same, by rw [upd_ne hne, upd_same], h1, same_del ha h1 fun b o n1 n2 e => ?_⟩
  rw [upd_ne n1, upd_ne n2, upd_ne n1]
  exact e
section
variable {X : Cx} {es : List Expr} {e : Expr} {ta : TA} {p pos : Pos}
theorem pmk_Held {j : Nat} (A : All X.prog X.w X.K X.mg X.base CT) (hr : Room j X.A) (ha : PA X (e :: es) ta) (hj : 2 ≤ j := by decide) (hg : Gl X "Held" := by rfl) (he : starEach (e :: es) X.env = (false, eval e X.env) :: starEach es X.env := by rfl) (hpl : (backTo pos (starEach es X.env)).any (·.1) = false := by rfl) :
    PMk X (.Call (.Name "Held" p) (e :: es) [] pos) (tMkO (He.ga X.K "Held") (spHeldInit X.K) [] ta) := by
  obtain ⟨fd, F, ok⟩ := fk_Held_init A
  have M := me_Held_init A.d
  have b : Binds X.K fd ["self", "many", "room"] [] := F.bindsN fun _ _ _ _ _ _ us hl => match us, hl with | [_, _, _], _ => rfl
  exact pmk_oex (CX := CX0) (x := "Held") (p := p) (pos := pos) (oex_Held A) M.at_ (is_fn M.fn) ok (hr.mono hj) b .nil pass0 hg (gl_Held A.kin A.ns A.d) ha (by decide) he hpl
theorem pmk_Stopped {j : Nat} (A : All X.prog X.w X.K X.mg X.base CT) (hr : Room j X.A) (ha : PA X (e :: es) ta) (hj : 2 ≤ j := by decide) (hg : Gl X "Stopped" := by rfl) (he : starEach (e :: es) X.env = (false, eval e X.env) :: starEach es X.env := by rfl) (hpl : (backTo pos (starEach es X.env)).any (·.1) = false := by rfl) :
    PMk X (.Call (.Name "Stopped" p) (e :: es) [] pos) (tMkO (He.ga X.K "Stopped") (spStoppedInit X.K) [] ta) := by
  obtain ⟨fd, F, ok⟩ := fk_Stopped_init A
  have M := me_Stopped_init A.d
  have b : Binds X.K fd ["self", "ballot"] [] := F.bindsN fun _ _ _ _ _ _ us hl => match us, hl with | [_, _], _ => rfl
  exact pmk_oex (CX := CX0) (x := "Stopped") (p := p) (pos := pos) (oex_Stopped A) M.at_ (is_fn M.fn) ok (hr.mono hj) b .nil pass0 hg (gl_Stopped A.kin A.ns A.d) ha (by decide) he hpl
theorem pmk_NotIn {m : Str} {j : Nat} {p2 : Pos} (A : All X.prog X.w X.K X.mg X.base CT) (hg : Gl X "NotIn" := by rfl) : PMk X (.Call (.Name "NotIn" p) [.Constant (.str m) j p2] [] pos) (fun _ H Q => Q (.ref (He.ga X.K "NotIn")) none H) :=
  let h := ec_NotIn A.d
  pmk_own F.excBase_ValueError h.1 (gl_NotIn A.kin A.ns A.d) h.2.1 (raises_own h.2.2.1 h.2.2.2) hg
end

end
end G
namespace G
open PySem PySem.Spec L2
open PyProof.Rows hiding St
section
variable {P : Program} {w : World} {K : PySem.W.Frag} {mg : Str → Option Value} {base : Heap} {CT : Addr × Addr}
/-! ### the page -/
def nmK (nm : Nm) : List Key := [.inl nm.1, .inl nm.2.1, .inl nm.2.2]
theorem nmK_V (nm : Nm) : (nmK nm).map kV = nmV nm := rfl
theorem nmK_inj {a b : Nm} (h : nmK a = nmK b) : a = b := by
  obtain ⟨a1, a2, a3⟩ := a
  obtain ⟨b1, b2, b3⟩ := b
  unfold nmK at h
  simp only [List.cons.injEq, Sum.inl.injEq, and_true] at h
  obtain ⟨rfl, rfl, rfl⟩ := h
  rfl
def encH (l : CL) : List (List Key × V) := l.map fun x => (nmK x.2.nm, V.ref x.1)
theorem encH_len (l : CL) : (encH l).length = l.length := List.length_map _
theorem encH_vals (l : CL) : (encH l).map (·.2) = refsC l := by unfold encH refsC; rw [List.map_map]; rfl
theorem encH_app (l : CL) (x : Addr × Cd) : encH (l ++ [x]) = encH l ++ [(nmK x.2.nm, V.ref x.1)] := by unfold encH; rw [List.map_append]; rfl
theorem encH_keys (l : CL) : (encH l).map (fun p => p.1.map kV) = (l.map (·.2.nm)).map nmV := by unfold encH; rw [List.map_map, List.map_map]; rfl
theorem putK_new {κ : Type} [DecidableEq κ] {kvs : List (κ × V)} {k : κ} {v : V} (h : ∀ p ∈ kvs, p.1 ≠ k) : putK kvs k v = kvs ++ [(k, v)] := by
  unfold putK
  rw [if_neg]
  intro z
  obtain ⟨p, hp, e⟩ := List.any_eq_true.mp z
  exact h p hp (of_decide_eq_true e)
theorem encH_fresh {l : CL} {nm : Nm} (h : nm ∉ l.map (·.2.nm)) : ∀ p ∈ encH l, p.1 ≠ nmK nm := by
  intro p hp e
  obtain ⟨x, hx, ex⟩ := List.mem_map.mp hp
  rw [← ex] at e
  exact h (List.mem_map.mpr ⟨x, hx, nmK_inj e⟩)
theorem valV_encH (l : CL) (nm : Nm) : valV (encH l) (nmK nm) = (l.find? fun x => decide (x.2.nm = nm)).map fun x => V.ref x.1 := by
  induction l with
  | nil => rfl
  | cons x r ih =>
    by_cases h : x.2.nm = nm
    · rw [List.find?_cons, decide_eq_true h]
      exact valV_pos (p := (nmK x.2.nm, V.ref x.1)) (congrArg nmK h)
    · rw [List.find?_cons, decide_eq_false h]
      exact (valV_neg (p := (nmK x.2.nm, V.ref x.1)) fun z => h (nmK_inj z)).trans ih
structure Pg where
  me : Int
  num : Int
  hands : Int
  room : Int
  made : Int
  dx : Addr
  dD : Addr
  dH : Addr
  oA : Addr
  tA : Addr
  tt : Addr
  aA : Addr
  ta : Addr
  pA : Addr
  kv : Cn
  hd : CL
  os : List (Addr × Nm)
  T : Rows
  B : Rows
  past : CL
def Pg.rc (S : Pg) : PageR := ⟨.int S.me, .int S.num, .int S.hands, .int S.room, .ref S.dD, .ref S.dH, .ref S.oA, .ref S.tA, .ref S.aA, .int S.made, .ref S.pA⟩
abbrev pgO (K : PySem.W.Frag) (S : Pg) : HO := .ins (He.ga K "Page") S.dx (PageR.fs S.rc)
/-- a call of this list, made by one of the hands -/
structure GC (cs : List Int) (n : Int) (ms : List Nm) (d : Cd) : Prop where
  n : d.n = n
  ms : d.nm ∈ ms
  k : 1 ≤ d.k
  c : d.c ∈ cs
  w : d.w.natAbs < 10 ^ 60
  z : d.zs.length ≤ 60
theorem GC.mono {cs : List Int} {n : Int} {ms ms' : List Nm} {d : Cd} (h : GC cs n ms d) (s : ∀ x ∈ ms, x ∈ ms') : GC cs n ms' d := ⟨h.n, s _ h.ms, h.k, h.c, h.w, h.z⟩
structure PageAt (K : PySem.W.Frag) (cs : List Int) (ms : List Nm) (H : Hp) (p : Addr) (S : Pg) : Prop where
  ins : H p = some (pgO K S)
  dn : H S.dD = some (.dK (encC S.kv))
  cn : Cnt cs S.kv
  hl : H S.dH = some (.dT (encH S.hd))
  hc : ∀ x ∈ S.hd, CallAt K H x.1 x.2
  gc : ∀ x ∈ S.hd, GC cs S.num ms x.2
  nd : (S.hd.map (·.2.nm)).Nodup
  od : H S.oA = some (.lst (refsO S.os))
  ord : OrdL H S.os
  tl : KnAt K cs H S.tA S.tt (circ S.hands) S.T
  ab : KnAt K cs H S.aA S.ta (circ S.hands) S.B
  ps : H S.pA = some (.lst (refsC S.past))
  pst : ∀ x ∈ S.past, ToldAt H x.1 x.2
  n1 : S.dD ≠ S.tt
  n2 : S.dD ≠ S.ta
  n3 : S.tt ≠ S.ta
  n4 : S.oA ≠ S.pA
def Pg.foot (S : Pg) (p : Addr) : List Addr := [p, S.dD, S.dH, S.oA, S.tA, S.tt, S.aA, S.ta, S.pA]
theorem PageAt.keep {K : PySem.W.Frag} {cs : List Int} {ms : List Nm} {H H1 : Hp} {p : Addr} {S : Pg} (h : PageAt K cs ms H p S) (kp : ∀ b ∈ S.foot p, ∀ o, H b = some o → H1 b = some o) (x : Ext H H1) : PageAt K cs ms H1 p S := by
  have m : ∀ b, b ∈ S.foot p → ∀ o, H b = some o → H1 b = some o := kp
  unfold Pg.foot at m
  exact ⟨m _ (by simp) _ h.ins, m _ (by simp) _ h.dn, h.cn, m _ (by simp) _ h.hl, fun y hy => (h.hc y hy).ext x, h.gc, h.nd, m _ (by simp) _ h.od, h.ord.ext x, h.tl.keep (m _ (by simp)) (m _ (by simp)) x, h.ab.keep (m _ (by simp)) (m _ (by simp)) x, m _ (by simp) _ h.ps, fun y hy => (h.pst y hy).ext x, h.n1, h.n2, h.n3, h.n4⟩
theorem PageAt.same {K : PySem.W.Frag} {cs : List Int} {ms : List Nm} {H H1 : Hp} {p : Addr} {S : Pg} (h : PageAt K cs ms H p S) (s : Same H H1) : PageAt K cs ms H1 p S := h.keep (fun b _ o => s b o) (.of s)
theorem PageAt.mono {K : PySem.W.Frag} {cs : List Int} {ms ms' : List Nm} {H : Hp} {p : Addr} {S : Pg} (h : PageAt K cs ms H p S) (s : ∀ x ∈ ms, x ∈ ms') : PageAt K cs ms' H p S :=
  ⟨h.ins, h.dn, h.cn, h.hl, h.hc, fun x hx => (h.gc x hx).mono s, h.nd, h.od, h.ord, h.tl, h.ab, h.ps, h.pst, h.n1, h.n2, h.n3, h.n4⟩
theorem PageAt.cl {K : PySem.W.Frag} {cs : List Int} {ms : List Nm} {H : Hp} {p : Addr} {S : Pg} (h : PageAt K cs ms H p S) : ClAt K cs H S.hd := fun x hx => ⟨h.hc x hx, by have := (h.gc x hx).z; omega, (h.gc x hx).k, (h.gc x hx).c⟩
theorem PageAt.hlen {K : PySem.W.Frag} {cs : List Int} {ms : List Nm} {H : Hp} {p : Addr} {S : Pg} (h : PageAt K cs ms H p S) : S.hd.length ≤ ms.length := by
  have := nodup_len h.nd (m := ms) fun x hx => by
    obtain ⟨y, hy, e⟩ := List.mem_map.mp hx
    rw [← e]; exact (h.gc y hy).ms
  rwa [List.length_map] at this
def spSorted (K : PySem.W.Frag) (cs : List Int) (ms : List Nm) : Sp := fun vs H Q _ => ∃ p S, vs = [.ref p] ∧ PageAt K cs ms H p S ∧ ∀ q rk H', H q = none → Same H H' → H' q = some (.lst (refsC rk)) → rk.Perm S.hd → Q (.ref q) H'
theorem ok_Page_sorted_calls (A : All P w K mg base CT) {cs : List Int} {ms : List Nm}: MOk P w K mg base CX0 4 (He.ga K "Page") "sorted_calls" ["self"] [] (spSorted K cs ms) := by
  obtain ⟨fd, F⟩ := fu_Page_sorted_calls A.d
  refine ⟨cl_Page A.d, _, fd, [], FunD.ok0 F sc_Page_sorted_calls (fun vs H Q E h => ?_) (fun cdv A0 outer s H vs Q E hr h => ?_), me_Page_sorted_calls A.d, F.bindsN fun _ _ _ _ _ _ us hl => match us, hl with | [_], _ => rfl, .nil⟩
  · obtain ⟨p, S, rfl, hp, k⟩ := h
    rfl
  · obtain ⟨p, S, rfl, hp, k⟩ := h
    have hu := hu_of hr
    refine ⟨_, pss_one (ps_ret (pe_callBK (cr_sortV (f := He.ga K "rank") hr (by decide) rfl) (by rfl) (fr_sorted A.kin A.ns A.d) (by decide +kernel) (pa_cons (pe_bm0 PySem.F.plainAttrs_dict PySem.F.slot_dict_values PySem.F.type_dict_values mt_valsT (pe_Page_held A.d (pv 0))) pa_nil) (pk_cons (pe_glob (v := .ref (He.ga K "rank")) (by rfl) (gl_rank A.kin A.ns A.d) rfl) pk_nil))), ?_⟩
    refine ⟨_, rfl, p, S.dx, S.rc, rfl, hp.ins, (.inr (.inr (.inl ⟨rfl, .inr ⟨_, hp.hl⟩⟩))), ?_⟩
    refine ⟨S.dH, _, rfl, rfl, hp.hl, fun w hw => ?_⟩
    have s1 : Same H (upd H w (valsO w S.dH)) := same_new hw
    refine ⟨w, S.dH, _, callKey (upd H w (valsO w S.dH)), rfl, rfl, upd_same, .inl (s1 _ _ hp.hl), fun x hx => ?_, fun ys q hys hq => ?_⟩
    · rw [encH_vals] at hx
      obtain ⟨y, hy, ey⟩ := List.mem_map.mp hx
      rw [← ey]
      exact rank_key A ((hp.hc y hy).same s1)
    · rw [encH_vals] at hys
      obtain ⟨rk, hrk, rfl⟩ := perm_map (f := fun p : Addr × Cd => V.ref p.1) hys S.hd rfl
      exact k q rk _ (s1.free hq) (s1.trans (same_new hq)) upd_same hrk
def spTake (K : PySem.W.Frag) : Sp := fun vs H Q _ => ∃ p dx, ∃ r : PageR, ∃ pA l t y, vs = [.ref p, .ref t, .str y] ∧ H p = some (.ins (He.ga K "Page") dx (PageR.fs { r with past_ := .ref pA })) ∧ H pA = some (.lst (refsC l)) ∧ l.length ≤ 5000000 ∧
  ∀ q, upd H pA (.lst (refsC l ++ [.ref t])) q = none → Q (.ref q) (upd (upd H pA (.lst (refsC l ++ [.ref t]))) q (.tup [.ref t, .str y]))
theorem ok_Page_take (A : All P w K mg base CT) : MOk P w K mg base CX0 1 (He.ga K "Page") "take" ["self", "told", "why"] [] (spTake K) := by
  obtain ⟨fd, F⟩ := fu_Page_take A.d
  refine ⟨cl_Page A.d, _, fd, [], FunD.ok0 F sc_Page_take (fun vs H Q E h => ?_) (fun cdv A0 outer s H vs Q E hr h => ?_), me_Page_take A.d, F.bindsN fun _ _ _ _ _ _ us hl => match us, hl with | [_, _, _], _ => rfl, .nil⟩
  · obtain ⟨p, dx, r, pA, l, t, y, rfl, hp, hl, hN, k⟩ := h
    rfl
  · obtain ⟨p, dx, r, pA, l, t, y, rfl, hp, hl, hN, k⟩ := h
    have hu := hu_of hr
    refine ⟨_, pss_cons (ps_expr (pe_bm PySem.F.plainAttrs_list PySem.F.slot_list_append PySem.F.type_list_append mt_append (pe_Page_past A.d (pv 0)) (pa_cons (pv 1) pa_nil)))
      (pss_one (ps_ret (pe_tup (pa_cons (pv 1) (pa_cons (pv 2) pa_nil))))), ?_⟩
    refine ⟨_, rfl, p, dx, _, rfl, hp, .inl ⟨rfl, refsC l, .inl (.inl hl)⟩, _, rfl, pA, refsC l, _, rfl, rfl, hl, by rw [refsC_len, sizeLine_eq]; omega, ?_⟩
    exact ⟨_, rfl, _, rfl, (by show 2 ≤ sizeLine; decide), fun q hq => k q hq⟩
def Pg.rest (S : Pg) (fl : Cn) : CL := S.hd.filter fun x => decide (cnt fl x.2.c < x.2.k)
/-- the parts that are laid anew are fresh -/
structure Fr (H : Hp) (S S' : Pg) : Prop where
  dD : S'.dD = S.dD ∨ H S'.dD = none
  dH : S'.dH = S.dH ∨ H S'.dH = none
  oA : S'.oA = S.oA ∨ H S'.oA = none
def spLetGo (K : PySem.W.Frag) (cs : List Int) (ms : List Nm) : Sp := fun vs H Q _ => ∃ p S, vs = [.ref p] ∧ PageAt K cs ms H p S ∧ cs.length ≤ 60 ∧ ms.length ≤ 1000 ∧
  ∀ dR hd' H', H dR = none → Kp [p] H H' → PageAt K cs ms H' p { S with dH := dR, hd := hd' } → (∀ x, x ∈ hd' ↔ x ∈ S.hd ∧ ¬ FL S.T (circ S.hands) x.2.c x.2.k) → hd'.length ≤ S.hd.length → Q .non H'
theorem ok_Page_let_go (A : All P w K mg base CT) {cs : List Int} {ms : List Nm}: MOk P w K mg base CX0 4 (He.ga K "Page") "let_go" ["self"] [] (spLetGo K cs ms) := by
  obtain ⟨fd, F⟩ := fu_Page_let_go A.d
  refine ⟨cl_Page A.d, _, fd, [], FunD.ok0 F sc_Page_let_go (fun vs H Q E h => ?_) (fun cdv A0 outer s H vs Q E hr h => ?_), me_Page_let_go A.d, F.bindsN fun _ _ _ _ _ _ us hl => match us, hl with | [_], _ => rfl, .nil⟩
  · obtain ⟨p, S, rfl, hp, hcs, hms, k⟩ := h
    rfl
  · obtain ⟨p, S, rfl, hp, hcs, hms, k⟩ := h
    have hu := hu_of hr
    refine ⟨_, pss_cons (ps_set (i := 1) sc_Page_let_go.nd rfl (by first | exact Or.inl rfl | exact Or.inr rfl) ((ok_Known_floor A (cs := cs)).pe0 hr pass0 (pe_Page_tells A.d (pv 0))))
      (pss_cons (ps_set (i := 2) sc_Page_let_go.nd rfl (by first | exact Or.inl rfl | exact Or.inr rfl) pe_dnewT)
      (pss_cons (ps_lock (ps_for PassesOwn.never rfl (pi_itemsT (pe_Page_held A.d (pv 0))) (pg_tup rfl (pgs_cons (pg_name (i := 3) sc_Page_let_go.nd rfl (by first | exact Or.inl rfl | exact Or.inr rfl)) (pgs_cons (pg_name (i := 4) sc_Page_let_go.nd rfl (by first | exact Or.inl rfl | exact Or.inr rfl)) pgs_nil))) (pss_one (ps_if (pt_cmpR op_gt (cf_count A.d (pv 4)) ((ok_count_of A).pe hr pass0 (pa_cons (pv 1) (pa_cons (cf_caller A.d (pv 4)) pa_nil))) (nomark _)) (pss_one (ps_dput hu (pv 2) (pv 3) (pv 4) rfl)) pss_nil))))
      (pss_one (ps_Page_held A.d (pv 0) (pv 2))))), ?_⟩
    obtain ⟨⟨dxt, cit, odt, ht1, ht2⟩, _⟩ := id hp.tl
    refine ⟨_, rfl, p, S.dx, S.rc, rfl, hp.ins, S.tA, dxt, _, rfl, ht1, by kernel_rfl, S.tA, S.tt, circ S.hands, S.T, rfl, hp.tl, hcs, fun f fl H1 hf s1 hf1 cfl hfl => ?_⟩
    intro R hR
    have hRH : H R = none := s1.free hR
    have s2 : Same H (upd H1 R (.dT [])) := same_set s1 hRH
    have h2 := hp.hlen
    obtain ⟨H2, hH2⟩ : ∃ H2, H2 = upd H1 R (.dT []) := ⟨_, rfl⟩
    rw [← hH2] at s2
    have hR2 : H2 R = some (.dT (encH [])) := by rw [hH2]; exact upd_same
    have hf2 : H2 f = some (.dK (encC fl)) := by rw [hH2, upd_ne (ne_of_none hf1 hR)]; exact hf1
    have nHR : S.dH ≠ R := ne_of_none hp.hl hRH
    subst hH2
    refine ⟨S.dH, _, s2 _ _ hp.hl, trivial, fun od => ?_⟩
    have npH : p ≠ S.dH := ne_of hp.ins hp.hl (by intro z; cases z)
    have npR : p ≠ R := ne_of_none hp.ins hRH
    have nfH : f ≠ S.dH := ne_of hf2 (s2 _ _ hp.hl) (by intro z; cases z)
    have nfR : f ≠ R := ne_of_none hf1 hR
    have n2 : ∀ b, b ≠ S.dH → b ≠ R → b ∉ [S.dH, R] := fun b a1 a2 z => by
      rcases List.mem_cons.mp z with z | z
      · exact a1 z
      · exact a2 (List.mem_singleton.mp z)
    have ext : ∀ H', Kp [S.dH, R] (upd H1 R (.dT [])) H' → Ext H H' := fun H' kp => (Ext.of s2).trans (kp.ext fun x hx o ho => by
      rcases List.mem_cons.mp hx with z | z
      · rw [z, s2 _ _ hp.hl] at ho; cases ho; exact fun z => z
      · rw [List.mem_singleton.mp z, hR2] at ho; cases ho; exact fun z => z)
    refine ⟨_, rfl, p, S.dx, S.rc, rfl, by rw [upd_ne npH]; exact s2 _ _ hp.ins, S.dH, od, _, rfl, upd_same, for_itemsT (fun i σ H' => ∃ (v3 v4 : Option V), σ = [some (.ref p), some (.ref f), some (.ref R), v3, v4] ∧ Kp [S.dH, R] (upd H1 R (.dT [])) H' ∧ H' S.dH = some (.frz od (.dT (encH S.hd))) ∧ H' R = some (.dT (encH ((S.hd.take i).filter fun x => decide (cnt fl x.2.c < x.2.k)))))
      ⟨none, none, rfl, Kp.upd Kp.refl List.mem_cons_self, upd_same, by rw [upd_ne nHR.symm]; exact hR2⟩ (fun i σ H' ⟨_, _, _, _, h, _⟩ => h) ?_ ?_⟩
    · rintro i key v T q σ H' ek ⟨v3, v4, rfl, kp, hH', hR'⟩ hT hq
      unfold encH at ek
      rw [List.getElem?_map] at ek
      obtain ⟨x, ex, e2⟩ := Option.map_eq_some_iff.mp ek
      cases e2
      have hxm := List.mem_of_getElem? ex
      have hi := (List.getElem?_eq_some_iff.mp ex).1
      have kp2 : Kp [S.dH, R] (upd H1 R (.dT [])) (upd H' T (.tup [.ref q, .ref x.1])) := kp.new hT
      have cx : CallAt K (upd H' T (.tup [.ref q, .ref x.1])) x.1 x.2 := (hp.hc x hxm).ext (ext _ kp2)
      have hf' : upd H' T (.tup [.ref q, .ref x.1]) f = some (.dK (encC fl)) := kp2 _ _ hf2 (n2 f nfH nfR)
      have sT : Same H' (upd H' T (.tup [.ref q, .ref x.1])) := same_new hT
      refine ⟨T, _, rfl, SqT.of upd_same, rfl, _, _, rfl, _, _, rfl, rfl, ?_⟩
      refine ⟨_, rfl, x.1, x.2, rfl, cx, _, rfl, _, rfl, x.1, x.2, rfl, cx, f, fl, x.2.c, rfl, .inl hf', _, _, rfl, rfl, _, rfl, ?_⟩
      have htk : (S.hd.take (i + 1)).filter (fun x => decide (cnt fl x.2.c < x.2.k)) = (S.hd.take i).filter (fun x => decide (cnt fl x.2.c < x.2.k)) ++ (if cnt fl x.2.c < x.2.k then [x] else []) := by
        rw [List.take_add_one, ex]
        show List.filter _ (_ ++ [x]) = _
        rw [List.filter_append, List.filter_cons, List.filter_nil]
        by_cases h : cnt fl x.2.c < x.2.k
        · rw [if_pos h, decide_eq_true h]; rfl
        · rw [if_neg h, decide_eq_false h]; rfl
      refine ite2 (fun h => ?_) (fun h => ?_)
      · have h' := of_decide_eq_true h
        have hle : (encH ((S.hd.take i).filter fun x => decide (cnt fl x.2.c < x.2.k))).length < sizeLine := by
          rw [encH_len]
          have := List.length_filter_le (fun x : Addr × Cd => decide (cnt fl x.2.c < x.2.k)) (S.hd.take i)
          rw [List.length_take] at this
          exact small6 (by omega)
        have hfr : x.2.nm ∉ ((S.hd.take i).filter fun x => decide (cnt fl x.2.c < x.2.k)).map (·.2.nm) := fun z => by
          obtain ⟨y, hy, ey⟩ := List.mem_map.mp z
          have hy2 := (List.mem_filter.mp hy).1
          obtain ⟨j, hj, ej⟩ := List.mem_take_iff_getElem.mp hy2
          obtain ⟨hi2, ei⟩ := List.getElem?_eq_some_iff.mp ex
          have h1 : (S.hd.map (·.2.nm))[j]'(by rw [List.length_map]; omega) = (S.hd.map (·.2.nm))[i]'(by rw [List.length_map]; exact hi2) := by
            rw [List.getElem_map, List.getElem_map, ej, ei]; exact ey
          exact List.pairwise_iff_getElem.mp hp.nd j i (by rw [List.length_map]; omega) (by rw [List.length_map]; exact hi2) (by omega) h1
        refine ⟨_, rfl, _, rfl, _, rfl, R, _, rfl, DPut.t (k := nmK x.2.nm) (sT _ _ hR') (sT _ _ hq) hle, _, _, rfl, kp2.upd (by simp), ?_, ?_⟩
        · rw [upd_ne nHR]; exact sT _ _ hH'
        · rw [upd_same, htk, if_pos h', putK_new (encH_fresh hfr), encH_app]
      · have h' : ¬ cnt fl x.2.c < x.2.k := fun z => h (decide_eq_true z)
        refine ⟨_, _, rfl, kp2, sT _ _ hH', ?_⟩
        rw [htk, if_neg h', List.append_nil]
        exact sT _ _ hR'
    · rintro σ H' ⟨v3, v4, rfl, kp, hH', hR'⟩
      rw [encH_len, List.take_length] at hR'
      refine ⟨hH', ?_⟩
      have kp3 : ∀ b o, H b = some o → upd H' S.dH (.dT (encH S.hd)) b = some o := fun b o e => by
        by_cases z : b = S.dH
        · rw [z, upd_same, ← hp.hl, ← z]; exact e
        · rw [upd_ne z]
          exact kp _ _ (s2 _ _ e) (n2 b z (ne_of_none e hRH))
      have hR3 : upd H' S.dH (.dT (encH S.hd)) R = some (.dT (encH (S.hd.filter fun x => decide (cnt fl x.2.c < x.2.k)))) := by rw [upd_ne nHR.symm]; exact hR'
      refine ⟨_, rfl, _, rfl, p, S.dx, S.rc, rfl, kp3 _ _ hp.ins, ?_⟩
      have kpf : Kp [p] H (upd (upd H' S.dH (.dT (encH S.hd))) p (.ins (He.ga K "Page") S.dx (PageR.fs { S.rc with held_ := .ref R }))) := Kp.upd (fun b o e _ => kp3 b o e) List.mem_cons_self
      have exf : Ext H (upd (upd H' S.dH (.dT (encH S.hd))) p (.ins (He.ga K "Page") S.dx (PageR.fs { S.rc with held_ := .ref R }))) := kpf.ext fun x hx o ho => by
        rw [List.mem_singleton.mp hx, hp.ins] at ho; cases ho; exact fun z => nomatch z
      have hsub : ∀ x, x ∈ S.hd.filter (fun x => decide (cnt fl x.2.c < x.2.k)) → x ∈ S.hd := fun x hx => (List.mem_filter.mp hx).1
      have km : ∀ b, b ≠ p → ∀ o, H b = some o → (upd (upd H' S.dH (.dT (encH S.hd))) p (.ins (He.ga K "Page") S.dx (PageR.fs { S.rc with held_ := .ref R }))) b = some o := fun b hb o e => kpf b o e (notin1 hb)
      have npt : ∀ {b : Addr} {o : HO}, H b = some o → o ≠ pgO K S → b ≠ p := fun {b o} e ne z => by
        rw [z, hp.ins] at e; cases e; exact ne rfl
      obtain ⟨⟨dxa, cia, oda, ha1, ha2⟩, _⟩ := id hp.ab
      refine k R (S.hd.filter fun x => decide (cnt fl x.2.c < x.2.k)) _ hRH kpf ⟨upd_same, km _ (npt hp.dn (by intro z; cases z)) _ hp.dn, hp.cn, by rw [upd_ne npR.symm]; exact hR3, fun x hx => (hp.hc x (hsub x hx)).ext exf, fun x hx => hp.gc x (hsub x hx), hp.nd.sublist ((List.filter_sublist).map _), km _ (npt hp.od (by intro z; cases z)) _ hp.od, hp.ord.ext exf,
        hp.tl.keep (km _ (npt ht1 ?_)) (km _ (npt hp.tl.2.1 (by intro z; cases z))) exf, hp.ab.keep (km _ (npt ha1 ?_)) (km _ (npt hp.ab.2.1 (by intro z; cases z))) exf, km _ (npt hp.ps (by intro z; cases z)) _ hp.ps, fun x hx => (hp.pst x hx).ext exf, hp.n1, hp.n2, hp.n3, hp.n4⟩ (fun x => ?_) (List.length_filter_le _ _)
      · intro z
        injection z with _ _ z
        exact absurd (congrArg List.length z) (by show ¬ (2 = 11); decide)
      · intro z
        injection z with _ _ z
        exact absurd (congrArg List.length z) (by show ¬ (2 = 11); decide)
      · rw [List.mem_filter]
        refine and_congr_right fun hx => ?_
        have h1 := hfl x.2.c x.2.k (hp.gc x hx).k
        rw [decide_eq_true_iff, ← h1]
        omega
structure Sep (p : Addr) (S : Pg) : Prop where
  pD : S.dD ≠ p
  pH : S.dH ≠ p
  pO : S.oA ≠ p
  pT : S.tA ≠ p
  pt : S.tt ≠ p
  pB : S.aA ≠ p
  pb : S.ta ≠ p
  pP : S.pA ≠ p
  DH : S.dD ≠ S.dH
  DO : S.dD ≠ S.oA
  DT : S.dD ≠ S.tA
  Dt : S.dD ≠ S.tt
  DB : S.dD ≠ S.aA
  Db : S.dD ≠ S.ta
  DP : S.dD ≠ S.pA
  HO : S.dH ≠ S.oA
  HT : S.dH ≠ S.tA
  Ht : S.dH ≠ S.tt
  HB : S.dH ≠ S.aA
  Hb : S.dH ≠ S.ta
  HP : S.dH ≠ S.pA
  OT : S.oA ≠ S.tA
  Ot : S.oA ≠ S.tt
  OB : S.oA ≠ S.aA
  Ob : S.oA ≠ S.ta
  OP : S.oA ≠ S.pA
  Tt : S.tA ≠ S.tt
  TB : S.tA ≠ S.aA
  Tb : S.tA ≠ S.ta
  TP : S.tA ≠ S.pA
  tB : S.tt ≠ S.aA
  tb : S.tt ≠ S.ta
  tP : S.tt ≠ S.pA
  Bb : S.aA ≠ S.ta
  BP : S.aA ≠ S.pA
  bP : S.ta ≠ S.pA
theorem PageAt.sep {K : PySem.W.Frag} {cs : List Int} {ms : List Nm} {H : Hp} {p : Addr} {S : Pg} (h : PageAt K cs ms H p S) : Sep p S := by
  obtain ⟨⟨dxt, cit, odt, ht1, ht2⟩, ht3, _⟩ := id h.tl
  obtain ⟨⟨dxa, cia, oda, ha1, ha2⟩, ha3, _⟩ := id h.ab
  have e1 := h.ins
  have e2 := h.dn
  have e3 := h.hl
  have e4 := h.od
  have e5 := h.ps
  have len : ∀ {x y : V} {dx dx' C C' : Addr}, (HO.ins C dx (KnownR.fs ⟨x, y⟩)) ≠ .ins C' dx' (PageR.fs S.rc) := by
    intro x y dx dx' C C' z
    injection z with _ _ z
    exact absurd (congrArg List.length z) (by show ¬ (2 = 11); decide)
  have ntb : S.tA ≠ S.aA := fun z => by
    rw [z, ha1] at ht1
    have z1 := Option.some.inj ht1
    injection z1 with _ _ z2
    have z3 : (KnownR.fs ⟨.ref cia, .ref S.ta⟩).lookup ("table" : Str) = (KnownR.fs ⟨.ref cit, .ref S.tt⟩).lookup ("table" : Str) := by rw [z2]
    rw [KnownR.get_table, KnownR.get_table] at z3
    injection z3 with z3
    injection z3 with z3
    exact h.n3 z3.symm
  exact ⟨ne_of e2 e1 (by intro z; cases z), ne_of e3 e1 (by intro z; cases z), ne_of e4 e1 (by intro z; cases z), ne_of ht1 e1 len, ne_of ht3 e1 (by intro z; cases z), ne_of ha1 e1 len, ne_of ha3 e1 (by intro z; cases z), ne_of e5 e1 (by intro z; cases z),
    ne_of e2 e3 (by intro z; cases z), ne_of e2 e4 (by intro z; cases z), ne_of e2 ht1 (by intro z; cases z), h.n1, ne_of e2 ha1 (by intro z; cases z), h.n2, ne_of e2 e5 (by intro z; cases z),
    ne_of e3 e4 (by intro z; cases z), ne_of e3 ht1 (by intro z; cases z), ne_of e3 ht3 (by intro z; cases z), ne_of e3 ha1 (by intro z; cases z), ne_of e3 ha3 (by intro z; cases z), ne_of e3 e5 (by intro z; cases z),
    ne_of e4 ht1 (by intro z; cases z), ne_of e4 ht3 (by intro z; cases z), ne_of e4 ha1 (by intro z; cases z), ne_of e4 ha3 (by intro z; cases z), h.n4,
    ne_of ht1 ht3 (by intro z; cases z), ntb, ne_of ht1 ha3 (by intro z; cases z), ne_of ht1 e5 (by intro z; cases z),
    ne_of ht3 ha1 (by intro z; cases z), h.n3, ne_of ht3 e5 (by intro z; cases z), ne_of ha1 ha3 (by intro z; cases z), ne_of ha1 e5 (by intro z; cases z), ne_of ha3 e5 (by intro z; cases z)⟩

end
end G
namespace G
open PySem PySem.Spec L2
open PyProof.Rows hiding St
section
variable {P : Program} {w : World} {K : PySem.W.Frag} {mg : Str → Option Value} {base : Heap} {CT : Addr × Addr}
/-- a statement with a middle: what holds behind it is enough -/
def tCut (t : TS) : TS := fun D σ H => ∃ N : L2.St → Hp → Prop, t { D with nx := N } σ H ∧ ∀ σ' H', N σ' H' → D.nx σ' H'
theorem ps_cut {X : Cx} {st : Stmt} {t : TS} (h : PS X st t) : PS X st (tCut t) := by
  refine ⟨fun pins s σ H D I ⟨N, h1, h2⟩ => thn (h.run pins s σ H _ I h1) fun f s' q => ?_⟩
  cases f with
  | next =>
    obtain ⟨σ', H', I', n⟩ := q
    exact ⟨σ', H', I', h2 _ _ n⟩
  | brk => exact q
  | cont => exact q
  | ret u => exact q
section
variable {K : PySem.W.Frag} {cs : List Int} {ms : List Nm} {H H' : Hp} {p : Addr} {S : Pg}
theorem kp_fresh {F : List Addr} {H1 : Hp} {W : Addr} {o : HO} (k : Kp F H H1) (h : H W = none) : Kp F H (upd H1 W o) := fun b u e n => by
  rw [upd_ne (ne_of_none e h)]; exact k b u e n
theorem known_imm {K : PySem.W.Frag} {dx : Addr} {r : KnownR} : ¬ Imm (.ins (He.ga K "Known") dx r.fs) := fun z => absurd z (by show ¬ (2 = 5); decide)
theorem PageAt.setB {B' : Rows} (h : PageAt K cs ms H p S) (kp : Kp [S.ta] H H') (hk : KnAt K cs H' S.aA S.ta (circ S.hands) B') : PageAt K cs ms H' p { S with B := B' } := by
  have s := h.sep
  have x : Ext H H' := kp.ext fun y hy o ho => by
    rw [List.mem_singleton.mp hy, h.ab.2.1] at ho; cases ho; exact fun z => z
  have m : ∀ b o, b ≠ S.ta → H b = some o → H' b = some o := fun b o n e => kp b o e (notin1 n)
  obtain ⟨⟨dxt, cit, odt, ht1, ht2⟩, ht3, _⟩ := id h.tl
  exact ⟨m _ _ s.pb.symm h.ins, m _ _ s.Db h.dn, h.cn, m _ _ s.Hb h.hl, fun y hy => (h.hc y hy).ext x, h.gc, h.nd, m _ _ s.Ob h.od, h.ord.ext x, h.tl.keep (fun o => m _ _ s.Tb) (fun o => m _ _ s.tb) x, hk, m _ _ s.bP.symm h.ps, fun y hy => (h.pst y hy).ext x, h.n1, h.n2, h.n3, h.n4⟩
theorem PageAt.setT {T' : Rows} (h : PageAt K cs ms H p S) (kp : Kp [S.tt] H H') (hk : KnAt K cs H' S.tA S.tt (circ S.hands) T') : PageAt K cs ms H' p { S with T := T' } := by
  have s := h.sep
  have x : Ext H H' := kp.ext fun y hy o ho => by
    rw [List.mem_singleton.mp hy, h.tl.2.1] at ho; cases ho; exact fun z => z
  have m : ∀ b o, b ≠ S.tt → H b = some o → H' b = some o := fun b o n e => kp b o e (notin1 n)
  exact ⟨m _ _ s.pt.symm h.ins, m _ _ s.Dt h.dn, h.cn, m _ _ s.Ht h.hl, fun y hy => (h.hc y hy).ext x, h.gc, h.nd, m _ _ s.Ot h.od, h.ord.ext x, hk, h.ab.keep (fun o => m _ _ s.tB.symm) (fun o => m _ _ s.tb.symm) x, m _ _ s.tP.symm h.ps, fun y hy => (h.pst y hy).ext x, h.n1, h.n2, h.n3, h.n4⟩
theorem PageAt.setPast {past' : CL} (h : PageAt K cs ms H p S) (kp : Kp [S.pA] H H') (hk : H' S.pA = some (.lst (refsC past'))) (ht : ∀ x ∈ past', ToldAt H' x.1 x.2) : PageAt K cs ms H' p { S with past := past' } := by
  have s := h.sep
  have x : Ext H H' := kp.ext fun y hy o ho => by
    rw [List.mem_singleton.mp hy, h.ps] at ho; cases ho; exact fun z => z
  have m : ∀ b o, b ≠ S.pA → H b = some o → H' b = some o := fun b o n e => kp b o e (notin1 n)
  exact ⟨m _ _ s.pP.symm h.ins, m _ _ s.DP h.dn, h.cn, m _ _ s.HP h.hl, fun y hy => (h.hc y hy).ext x, h.gc, h.nd, m _ _ s.OP h.od, h.ord.ext x, h.tl.keep (fun o => m _ _ s.TP) (fun o => m _ _ s.tP) x, h.ab.keep (fun o => m _ _ s.BP) (fun o => m _ _ s.bP) x, hk, ht, h.n1, h.n2, h.n3, h.n4⟩
theorem page_imm {S : Pg} : ¬ Imm (pgO K S) := fun z => absurd z (by show ¬ (11 = 5); decide)
theorem PageAt.ext (h : PageAt K cs ms H p S) (kp : Kp [p] H H') : Ext H H' := kp.ext fun y hy o ho => by
  rw [List.mem_singleton.mp hy, h.ins] at ho; cases ho; exact page_imm
theorem PageAt.setO {o' : Addr} {os' : List (Addr × Nm)} (h : PageAt K cs ms H p S) (ho : H o' = some (.lst (refsO os'))) (hos : OrdL H os') (ne : o' ≠ S.pA) : PageAt K cs ms (upd H p (pgO K { S with oA := o', os := os' })) p { S with oA := o', os := os' } := by
  have s := h.sep
  have kp : Kp [p] H (upd H p (pgO K { S with oA := o', os := os' })) := Kp.upd Kp.refl List.mem_cons_self
  have x := h.ext kp
  have m : ∀ b o, b ≠ p → H b = some o → upd H p (pgO K { S with oA := o', os := os' }) b = some o := fun b o n e => kp b o e (notin1 n)
  exact ⟨upd_same, m _ _ s.pD h.dn, h.cn, m _ _ s.pH h.hl, fun y hy => (h.hc y hy).ext x, h.gc, h.nd, m _ _ (ne_of ho h.ins (by intro z; cases z)) ho, hos.ext x, h.tl.keep (fun o => m _ _ s.pT) (fun o => m _ _ s.pt) x, h.ab.keep (fun o => m _ _ s.pB) (fun o => m _ _ s.pb) x, m _ _ s.pP h.ps, fun y hy => (h.pst y hy).ext x, h.n1, h.n2, h.n3, ne⟩
theorem PageAt.setD {d' : Addr} {kv' : Cn} (h : PageAt K cs ms H p S) (hd : H d' = some (.dK (encC kv'))) (hc : Cnt cs kv') (n1 : d' ≠ S.tt) (n2 : d' ≠ S.ta) : PageAt K cs ms (upd H p (pgO K { S with dD := d', kv := kv' })) p { S with dD := d', kv := kv' } := by
  have s := h.sep
  have kp : Kp [p] H (upd H p (pgO K { S with dD := d', kv := kv' })) := Kp.upd Kp.refl List.mem_cons_self
  have x := h.ext kp
  have m : ∀ b o, b ≠ p → H b = some o → upd H p (pgO K { S with dD := d', kv := kv' }) b = some o := fun b o n e => kp b o e (notin1 n)
  exact ⟨upd_same, m _ _ (ne_of hd h.ins (by intro z; cases z)) hd, hc, m _ _ s.pH h.hl, fun y hy => (h.hc y hy).ext x, h.gc, h.nd, m _ _ s.pO h.od, h.ord.ext x, h.tl.keep (fun o => m _ _ s.pT) (fun o => m _ _ s.pt) x, h.ab.keep (fun o => m _ _ s.pB) (fun o => m _ _ s.pb) x, m _ _ s.pP h.ps, fun y hy => (h.pst y hy).ext x, n1, n2, h.n3, h.n4⟩
end
theorem kp_free {F : List Addr} {H H' : Hp} {W : Addr} (k : Kp F H H') (h : H' W = none) (hF : ∀ b ∈ F, H' b ≠ none) : H W = none := by
  cases e : H W with
  | none => rfl
  | some o =>
    by_cases m : W ∈ F
    · exact absurd h (hF W m)
    · rw [k W o e m] at h; cases h
theorem ntn {H : Hp} {b : Addr} {o : HO} (h : H b = some o) : H b ≠ none := fun z => by rw [h] at z; cases z
abbrev TkL := List (Addr × Addr × Str × Cd)
/-- the takes as they lie -/
def TkAt (H : Hp) (L : TkL) : Prop := ∀ e ∈ L, H e.1 = some (.tup [.ref e.2.1, .str e.2.2.1]) ∧ ToldAt H e.2.1 e.2.2.2
def refsT (L : TkL) : List V := L.map fun e => V.ref e.1
def TkL.told (L : TkL) : CL := L.map fun e => (e.2.1, e.2.2.2)
theorem TkAt.ext {H H1 : Hp} {L : TkL} (h : TkAt H L) (s : Ext H H1) : TkAt H1 L := fun e he => ⟨s _ _ (h e he).1 trivial, (h e he).2.ext s⟩
theorem TkAt.same {H H1 : Hp} {L : TkL} (h : TkAt H L) (s : Same H H1) : TkAt H1 L := h.ext (.of s)
theorem refsT_app (L : TkL) (x : Addr × Addr × Str × Cd) : refsT (L ++ [x]) = refsT L ++ [.ref x.1] := by unfold refsT; rw [List.map_append]; rfl
theorem told_app (L : TkL) (x : Addr × Addr × Str × Cd) : TkL.told (L ++ [x]) = TkL.told L ++ [(x.2.1, x.2.2.2)] := by unfold TkL.told; rw [List.map_append]; rfl
theorem cutO (os : List (Addr × Nm)) (r : Int) : ∃ os', cutV (refsO os) none (some r) = refsO os' ∧ (∀ o ∈ os', o ∈ os) := by
  refine ⟨(os.drop (HT.sIx (refsO os).length 0 none)).take (HT.sIx (refsO os).length (refsO os).length (some r) - HT.sIx (refsO os).length 0 none), ?_, fun o ho => List.mem_of_mem_drop (List.mem_of_mem_take ho)⟩
  unfold cutV refsO
  rw [List.map_take, List.map_drop]
theorem tk_step {H7 H9 : Hp} {F : List Addr} {pA W q t : Addr} {past : CL} {L : TkL} {d : Cd} (why : Str) (hF : pA ∈ F) (k9 : Kp F H7 H9) (hW : H7 W = none) (hp9 : H9 pA = some (.lst (refsC (past ++ TkL.told L)))) (hW9 : H9 W = some (.lst (refsT L))) (hL : TkAt H9 L) (ht : ToldAt H9 t d) (nWp : pA ≠ W)
    (hq : upd H9 pA (.lst (refsC (past ++ TkL.told L) ++ [.ref t])) q = none) :
    upd (upd H9 pA (.lst (refsC (past ++ TkL.told L) ++ [.ref t]))) q (.tup [.ref t, .str why]) W = some (.lst (refsT L)) ∧
    Kp F H7 (upd (upd (upd H9 pA (.lst (refsC (past ++ TkL.told L) ++ [.ref t]))) q (.tup [.ref t, .str why])) W (.lst (refsT L ++ [.ref q]))) ∧
    (upd (upd (upd H9 pA (.lst (refsC (past ++ TkL.told L) ++ [.ref t]))) q (.tup [.ref t, .str why])) W (.lst (refsT L ++ [.ref q]))) pA = some (.lst (refsC (past ++ TkL.told (L ++ [(q, t, why, d)])))) ∧
    (upd (upd (upd H9 pA (.lst (refsC (past ++ TkL.told L) ++ [.ref t]))) q (.tup [.ref t, .str why])) W (.lst (refsT L ++ [.ref q]))) W = some (.lst (refsT (L ++ [(q, t, why, d)]))) ∧
    TkAt (upd (upd (upd H9 pA (.lst (refsC (past ++ TkL.told L) ++ [.ref t]))) q (.tup [.ref t, .str why])) W (.lst (refsT L ++ [.ref q]))) (L ++ [(q, t, why, d)]) := by
  have nqP : pA ≠ q := ne_of_none upd_same hq
  have nqW : W ≠ q := ne_of_none (by rw [upd_ne nWp.symm]; exact hW9) hq
  have hW10 : upd (upd H9 pA (.lst (refsC (past ++ TkL.told L) ++ [.ref t]))) q (.tup [.ref t, .str why]) W = some (.lst (refsT L)) := by
    rw [upd_ne nqW, upd_ne nWp.symm]; exact hW9
  refine ⟨hW10, ?_, ?_, ?_, fun e he => ?_⟩
  · exact kp_fresh ((k9.upd hF).new hq) hW
  · rw [upd_ne nWp, upd_ne nqP, upd_same, told_app, ← List.append_assoc, refsC_app]
  · rw [upd_same, refsT_app]
  · have ex9 : Ext H9 (upd (upd (upd H9 pA (.lst (refsC (past ++ TkL.told L) ++ [.ref t]))) q (.tup [.ref t, .str why])) W (.lst (refsT L ++ [.ref q]))) := by
      have kk : Kp [pA, W] H9 (upd (upd (upd H9 pA (.lst (refsC (past ++ TkL.told L) ++ [.ref t]))) q (.tup [.ref t, .str why])) W (.lst (refsT L ++ [.ref q]))) := ((Kp.upd Kp.refl (by simp)).new hq).upd (by simp)
      exact kk.ext fun z hz o ho => by
        rcases List.mem_cons.mp hz with zz | zz
        · rw [zz, hp9] at ho; cases ho; exact fun z => z
        · rw [List.mem_singleton.mp zz, hW9] at ho; cases ho; exact fun z => z
    rcases List.mem_append.mp he with he | he
    · exact ⟨ex9 _ _ (hL e he).1 trivial, (hL e he).2.ext ex9⟩
    · have e2 := List.mem_singleton.mp he
      subst e2
      exact ⟨by show upd _ W _ q = _; rw [upd_ne nqW.symm, upd_same], ht.ext ex9⟩
/-- what a step leaves, in plain words -/
structure StepOut (cs : List Int) (S S' : Pg) (row : CL) (L : TkL) : Prop where
  me : S'.me = S.me
  num : S'.num = S.num
  hands : S'.hands = S.hands
  room : S'.room = S.room
  made : S'.made = S.made
  tA : S'.tA = S.tA
  tt : S'.tt = S.tt
  aA : S'.aA = S.aA
  ta : S'.ta = S.ta
  pA : S'.pA = S.pA
  pass : Pass cs S.kv S.hd row S'.kv
  lcd : L.map (·.2.2.2) = row.map (·.2)
  past : S'.past = S.past ++ TkL.told L
  os : S'.os.length ≤ S.os.length + S.hd.length
  tells : ∀ g ∈ circ S.hands, ∀ c, cnt (rowR S'.T g) c = if g = S.me then max (cnt (rowR S.T g) c) (cnt S'.kv c) else cnt (rowR S.T g) c
  held : ∀ x, x ∈ S'.hd ↔ x ∈ S.hd ∧ ¬ FL S'.T (circ S.hands) x.2.c x.2.k
  hlen : S'.hd.length ≤ S.hd.length
def spStep (K : PySem.W.Frag) (cs : List Int) (ms : List Nm) : Sp := fun vs H Q _ => ∃ p S, vs = [.ref p] ∧ PageAt K cs ms H p S ∧ cs.length ≤ 60 ∧ ms.length ≤ 1000 ∧ S.os.length ≤ 4000000 ∧ S.past.length ≤ 4000000 ∧
  ∀ q L row S' H', H q = none → Kp [p, S.tt, S.ta, S.pA] H H' → PageAt K cs ms H' p S' → StepOut cs S S' row L → Fr H S S' → H' q = some (.lst (refsT L)) → TkAt H' L → Q (.ref q) H'
theorem ok_Page_step (A : All P w K mg base CT) {cs : List Int} {ms : List Nm}: MOk P w K mg base CX0 7 (He.ga K "Page") "step" ["self"] [] (spStep K cs ms) := by
  obtain ⟨fd, F⟩ := fu_Page_step A.d
  refine ⟨cl_Page A.d, _, fd, [], FunD.ok0 F sc_Page_step (fun vs H Q E h => ?_) (fun cdv A0 outer s H vs Q E hr h => ?_), me_Page_step A.d, F.bindsN fun _ _ _ _ _ _ us hl => match us, hl with | [_], _ => rfl, .nil⟩
  · obtain ⟨p, S, rfl, hp, hcs, hms, hO, hP, k⟩ := h
    rfl
  · obtain ⟨p, S, rfl, hp, hcs, hms, hO, hP, k⟩ := h
    have hu := hu_of hr
    refine ⟨_, pss_cons (ps_set (i := 1) sc_Page_step.nd rfl (by first | exact Or.inl rfl | exact Or.inr rfl) ((ok_Page_sorted_calls A (cs := cs) (ms := ms)).pe0 hr pass0 (pv 0)))
      (pss_cons (ps_cut (ps_if (pt_cmpR op_eq (pe_Page_me A.d (pv 0)) ((ok_least A).pe hr pass0 (pa_cons (pe_Page_hands A.d (pv 0)) pa_nil)) (nomark _)) (pss_one (ps_Page_order A.d (pv 0) (pe_ix ix_tup ((ok_placed A (cs := cs)).pe hr pass0 (pa_cons (pe_Page_done A.d (pv 0)) (pa_cons (pv 1) (pa_cons (pe_Page_order A.d (pv 0)) pa_nil)))) pe_int (fun _ _ => rfl)))) pss_nil))
      (pss_cons (ps_expr ((ok_Known_learn A (cs := cs)).pe hr pass0 (pe_Page_ables A.d (pv 0)) (pa_cons (pe_Page_me A.d (pv 0)) (pa_cons (pe_ix ix_tup ((ok_run A (cs := cs)).pe hr pass0 (pa_cons (pe_Page_done A.d (pv 0)) (pa_cons (pv 1) (pa_cons (pe_Page_order A.d (pv 0)) pa_nil)))) pe_int (fun _ _ => rfl)) pa_nil))))
      (pss_cons (ps_set (i := 2) sc_Page_step.nd rfl (by first | exact Or.inl rfl | exact Or.inr rfl) (pe_slice sl_list (pe_Page_order A.d (pv 0)) po_none (po_some ((ok_Known_sure A (cs := cs)).pe hr pass0 (pe_Page_ables A.d (pv 0)) (pa_cons (pe_Page_order A.d (pv 0)) pa_nil)))))
      (pss_cons (ps_asg ((ok_run A (cs := cs)).pe hr pass0 (pa_cons (pe_Page_done A.d (pv 0)) (pa_cons (pv 1) (pa_cons (pv 2) pa_nil)))) (pg_tup rfl (pgs_cons (pg_name (i := 3) sc_Page_step.nd rfl (by first | exact Or.inl rfl | exact Or.inr rfl)) (pgs_cons (pg_name (i := 4) sc_Page_step.nd rfl (by first | exact Or.inl rfl | exact Or.inr rfl)) pgs_nil))))
      (pss_cons (ps_set (i := 5) sc_Page_step.nd rfl (by first | exact Or.inl rfl | exact Or.inr rfl) (pe_lst pa_nil))
      (pss_cons (ps_for PassesOwn.never rfl (pi_list (pv 3)) (pg_name (i := 6) sc_Page_step.nd rfl (by first | exact Or.inl rfl | exact Or.inr rfl)) (pss_cons (ps_set (i := 7) sc_Page_step.nd rfl (by first | exact Or.inl rfl | exact Or.inr rfl) pe_str) (pss_cons (ps_if (pt_val (M3.pe0K (ok_call_asks_place A) hr (pv 6))) (pss_one (ps_set (i := 7) sc_Page_step.nd rfl (by first | exact Or.inl rfl | exact Or.inr rfl) pe_str)) pss_nil) (pss_one (ps_expr (pe_bm PySem.F.plainAttrs_list PySem.F.slot_list_append PySem.F.type_list_append mt_append (pv 5) (pa_cons ((ok_Page_take A).pe hr pass0 (pv 0) (pa_cons (M3.pe0K (ok_call_told A) hr (pv 6)) (pa_cons (pv 7) pa_nil))) pa_nil)))))))
      (pss_cons (ps_Page_done A.d (pv 0) (pv 4))
      (pss_cons (ps_expr ((ok_Known_learn A (cs := cs)).pe hr pass0 (pe_Page_tells A.d (pv 0)) (pa_cons (pe_Page_me A.d (pv 0)) (pa_cons (pv 4) pa_nil))))
      (pss_cons (ps_expr ((ok_Page_let_go A (cs := cs) (ms := ms)).pe0 hr pass0 (pv 0)))
      (pss_one (ps_ret (pv 5)))))))))))), ?_⟩
    refine ⟨_, rfl, p, S.dx, _, rfl, hp.ins, by kernel_rfl, p, S, rfl, hp, fun q0 rk H1 hq0 s1 hq1 hrk => ?_⟩
    have hp1 := hp.same s1
    refine ⟨fun σ' H' => ∃ oA' os', σ' = [some (.ref p), some (.ref q0), none, none, none, none, none, none] ∧ Kp [p] H H' ∧ H' q0 = some (.lst (refsC rk)) ∧ PageAt K cs ms H' p { S with oA := oA', os := os' } ∧ os'.length ≤ S.os.length + S.hd.length ∧ (oA' = S.oA ∨ H oA' = none), ?_, ?_⟩
    · refine ⟨_, rfl, p, S.dx, S.rc, rfl, hp1.ins, _, rfl, p, S.dx, S.rc, rfl, hp1.ins, S.hands, rfl, fun v hv => ⟨?_, _, rfl, ?_⟩⟩
      · rcases hv with rfl | ⟨i, rfl⟩ <;> rfl
      · refine ite2 (fun _ => ?_) (fun _ => ?_)
        · refine ⟨_, rfl, p, S.dx, S.rc, rfl, hp1.ins, _, rfl, _, rfl, p, S.dx, S.rc, rfl, hp1.ins, S.dD, q0, S.oA, S.kv, rk, S.os, rfl, .inl hp1.dn, hp.cn, hcs, SqL.of hq1, hp1.cl.sub fun x hx => hrk.mem_iff.mp hx, ?_, SqL.of hp1.od, hp1.ord, by omega, fun t r o row kv' os' H2 s2 ht _ ho ht2 _ ho2 hord hlen _ => ?_⟩
          · have := hp.hlen; have := hrk.length_eq; omega
          · refine ⟨_, _, _, _, rfl, rfl, SqT.of ht2, rfl, _, rfl, p, S.dx, S.rc, rfl, s2 _ _ hp1.ins, ?_⟩
            have hp2 := hp1.same s2
            have hp3 := hp2.setO ho2 hord (ne_of_none hp1.ps ho).symm
            have kp3 : Kp [p] H (upd H2 p (pgO K { S with oA := o, os := os' })) := Kp.upd (Kp.of (s1.trans s2)) List.mem_cons_self
            refine ⟨o, os', rfl, kp3, ?_, hp3, by have := hrk.length_eq; omega, .inr (s1.free ho)⟩
            rw [upd_ne (ne_of_none hp.ins hq0).symm]
            exact s2 _ _ hq1
        · exact ⟨S.oA, S.os, rfl, Kp.of s1, hq1, hp1, by omega, .inl rfl⟩
    · rintro σ2 H2 ⟨oA', os', rfl, kp2, hq2, hp2, hlen2, hoA⟩
      clear hp1 hq1 s1 H1
      have hrl := hrk.length_eq
      have hhl := hp.hlen
      have hcl : ∀ H', PageAt K cs ms H' p { S with oA := oA', os := os' } → ClAt K cs H' rk := fun H' h => h.cl.sub fun x hx => hrk.mem_iff.mp hx
      have sp2 := hp2.sep
      obtain ⟨⟨dxa, cia, oda, ha1, ha2⟩, ha3, _⟩ := id hp2.ab
      refine ⟨_, rfl, p, S.dx, _, rfl, hp2.ins, S.aA, dxa, _, rfl, ha1, by kernel_rfl, _, rfl, p, S.dx, _, rfl, hp2.ins, _, rfl, p, S.dx, _, rfl, hp2.ins, _, rfl, _, rfl, p, S.dx, _, rfl, hp2.ins, S.dD, q0, oA', S.kv, rk, os', rfl, .inl hp2.dn, hp.cn, hcs, SqL.of hq2, hcl _ hp2, by omega, SqL.of hp2.od, hp2.ord, fun t3 r3 e3 row3 kv3 H3 s3 _ _ _ ht3 _ he3 ps3 _ => ?_⟩
      have hp3 := hp2.same s3
      refine ⟨_, _, _, _, rfl, rfl, SqT.of ht3, rfl, S.aA, S.ta, circ S.hands, S.B, S.me, e3, kv3, rfl, hp3.ab, he3, ps3.cn, hcs, fun B' H4 kp4 hk4 _ => ?_⟩
      have hp4 := hp3.setB kp4 hk4
      have kp24 : Kp [S.ta] H2 H4 := (Kp.of s3).trans kp4
      have nqta : q0 ≠ S.ta := ne_of hq2 ha3 (by intro z; cases z)
      have hq4 : H4 q0 = some (.lst (refsC rk)) := kp24 _ _ hq2 (notin1 nqta)
      have kpH4 : Kp [p, S.tt, S.ta, S.pA] H H4 := (kp2.mono (by simp)).trans (kp24.mono (by simp))
      clear hp3 kp4 hk4 ht3 he3 ps3 s3 kp24
      obtain ⟨S4, hS4⟩ : ∃ S4 : Pg, ({ S with oA := oA', os := os', B := B' } : Pg) = S4 := ⟨_, rfl⟩
      have hp4 : PageAt K cs ms H4 p S4 := hS4 ▸ hp4
      have q_me : S4.me = S.me := by rw [← hS4]
      have q_num : S4.num = S.num := by rw [← hS4]
      have q_hands : S4.hands = S.hands := by rw [← hS4]
      have q_kv : S4.kv = S.kv := by rw [← hS4]
      have q_hd : S4.hd = S.hd := by rw [← hS4]
      have q_past : S4.past = S.past := by rw [← hS4]
      have q_os : S4.os = os' := by rw [← hS4]
      have q_tt : S4.tt = S.tt := by rw [← hS4]
      have q_ta : S4.ta = S.ta := by rw [← hS4]
      have q_pA : S4.pA = S.pA := by rw [← hS4]
      have q_T : S4.T = S.T := by rw [← hS4]
      rw [← q_tt, ← q_ta, ← q_pA] at kpH4
      rw [← q_os] at hlen2
      clear hp2 sp2 hcl
      -- sure
      obtain ⟨⟨dx4, ci4, od4, ha4, _⟩, ha4', _⟩ := id hp4.ab
      refine ⟨_, rfl, p, S4.dx, _, rfl, hp4.ins, _, rfl, p, S4.dx, _, rfl, hp4.ins, S4.aA, dx4, _, rfl, ha4, by kernel_rfl, _, rfl, p, S4.dx, _, rfl, hp4.ins, S4.aA, S4.ta, circ S4.hands, S4.B, S4.oA, S4.os, rfl, hp4.ab, SqL.of hp4.od, hp4.ord, fun r5 H5 s5 => ?_⟩
      have hp5 := hp4.same s5
      refine ⟨_, rfl, S4.oA, refsO S4.os, rfl, SqL.of hp5.od, fun q5 hq5 => ?_⟩
      obtain ⟨os5, e5, hos5⟩ := cutO S4.os r5
      rw [e5]
      have s6 : Same H5 (upd H5 q5 (.lst (refsO os5))) := same_new hq5
      have hp6 := hp5.same s6
      have ord6 : OrdL (upd H5 q5 (.lst (refsO os5))) os5 := fun o ho => hp6.ord o (hos5 o ho)
      have hq6 : upd H5 q5 (.lst (refsO os5)) q0 = some (.lst (refsC rk)) := s6 _ _ (s5 _ _ hq4)
      refine ⟨_, rfl, p, S4.dx, _, rfl, hp6.ins, _, rfl, _, rfl, S4.dD, q0, q5, S4.kv, rk, os5, rfl, .inl hp6.dn, hp4.cn, hcs, SqL.of hq6, hp6.cl.sub (fun x hx => by rw [q_hd]; exact hrk.mem_iff.mp hx), by omega, SqL.of upd_same, ord6, fun t7 r7 e7 row kv7 H7 s7 ht7 hr7 he7 ht7' hr7' he7' ps7 _ => ?_⟩
      refine ⟨t7, _, rfl, SqT.of ht7', rfl, _, _, rfl, _, _, rfl, rfl, ?_⟩
      have s47 : Same H4 H7 := (s5.trans s6).trans s7
      have hp7 := hp6.same s7
      have kpH7 : Kp [p, S4.tt, S4.ta, S4.pA] H H7 := kpH4.trans (Kp.of s47)
      have e7H4 : H4 e7 = none := s5.free (s6.free he7)
      have frH4 : ∀ {b : Addr}, H4 b = none → H b = none := fun {b} hb => kp_free kpH4 hb fun z hz => by
        rcases List.mem_cons.mp hz with zz | hz
        · rw [zz]; exact ntn hp4.ins
        · rcases List.mem_cons.mp hz with zz | hz
          · rw [zz]; exact ntn hp4.tl.2.1
          · rcases List.mem_cons.mp hz with zz | hz
            · rw [zz]; exact ntn hp4.ab.2.1
            · rw [List.mem_singleton.mp hz]; exact ntn hp4.ps
      have e7H : H e7 = none := frH4 e7H4
      have rowsub : ∀ x ∈ row, x ∈ S.hd := fun x hx => hrk.mem_iff.mp (ps7.sub x hx)
      have rowlen := ps7.len
      have e7tt : e7 ≠ S4.tt := (ne_of_none hp4.tl.2.1 e7H4).symm
      have e7ta : e7 ≠ S4.ta := (ne_of_none hp4.ab.2.1 e7H4).symm
      have e7pA : e7 ≠ S4.pA := (ne_of_none hp4.ps e7H4).symm
      have nrp : r7 ≠ S4.pA := (ne_of_none hp6.ps hr7).symm
      clear hp6 hp5 hq6 ord6 s7 s6 s5 ht7 hr7 he7 ht7' e7H4 hq4 hq2 nqta
      refine ⟨Nat.zero_le _, fun W hW => ?_⟩
      have hW1 : (upd H7 W (.lst [])) W = some (.lst []) := upd_same
      have s8 : Same H7 (upd H7 W (.lst [])) := same_new hW
      have nWr : r7 ≠ W := ne_of_none hr7' hW
      have nWe : e7 ≠ W := ne_of_none he7' hW
      have nWp : S4.pA ≠ W := ne_of_none hp7.ps hW
      refine ⟨_, rfl, r7, rfl, ⟨_, SqL.of (s8 _ _ hr7')⟩, for_list (K := K) (a := r7) (xs := refsC row) (fun i σ H' => ∃ (v6 v7 : Option V) (L : TkL), σ = [some (.ref p), some (.ref q0), some (.ref q5), some (.ref r7), some (.ref e7), some (.ref W), v6, v7] ∧ Kp [S4.pA] H7 H' ∧ H' S4.pA = some (.lst (refsC (S4.past ++ TkL.told L))) ∧ H' W = some (.lst (refsT L)) ∧ TkAt H' L ∧ L.map (·.2.2.2) = (row.take i).map (·.2))
        ⟨none, none, [], rfl, kp_fresh Kp.refl hW, ?_, by rw [upd_same]; rfl, fun _ h => (nomatch h), rfl⟩ (fun i σ H' _ ⟨_, _, _, _, kp, _⟩ => SqL.of (kp _ _ hr7' (notin1 nrp))) ?_ ?_⟩
      · rw [upd_ne nWp]
        have := hp7.ps
        rw [show S4.past ++ TkL.told [] = S4.past from List.append_nil _]
        exact this
      · rintro i x σ H8 hx ⟨v6, v7, L, rfl, kp8, hpa8, hW8, hL8, hcd⟩
        obtain ⟨y, ey, rfl⟩ := refsC_get hx
        have hyr := List.mem_of_getElem? ey
        have hys : y ∈ S.hd := rowsub y hyr
        have hi := (List.getElem?_eq_some_iff.mp ey).1
        have ex78 : Ext H7 H8 := kp8.ext fun z hz o ho => by
          rw [List.mem_singleton.mp hz, hp7.ps] at ho; cases ho; exact fun z => z
        have cy : CallAt K H8 y.1 y.2 := (hp7.hc y (by rw [q_hd]; exact hys)).ext ex78
        have hp8 : PageAt K cs ms H8 p { S4 with past := S4.past ++ TkL.told L } := hp7.setPast kp8 hpa8 fun z hz => by
          rcases List.mem_append.mp hz with hz | hz
          · exact (hp7.pst z hz).ext ex78
          · obtain ⟨e, he, ee⟩ := List.mem_map.mp hz
            rw [← ee]; exact (hL8 e he).2
        have hLl : L.length = i := by
          have := congrArg List.length hcd
          rw [List.length_map, List.length_map, List.length_take] at this
          omega
        obtain ⟨⟨dx, e1⟩, _⟩ := id cy
        refine ⟨_, rfl, y.1, dx, y.2.kd, _, _, _, _, _, rfl, e1, by kernel_rfl, y.1, rfl, _, rfl, ?_⟩
        refine ite2 (fun _ => ?_) (fun _ => ?_)
        all_goals
          refine ⟨_, rfl, .inl ⟨rfl, _, .inl (.inl hW8)⟩, _, rfl, p, S4.dx, _, rfl, hp8.ins, by kernel_rfl, _, rfl, y.1, dx, y.2.kd, _, _, _, _, _, rfl, e1, by kernel_rfl, y.1, y.2, rfl, cy, rfl, fun t H9 ht s9 h9 => ?_⟩
          have hp9 := hp8.same s9
          refine ⟨_, rfl, p, S4.dx, Pg.rc { S4 with past := S4.past ++ TkL.told L }, S4.pA, S4.past ++ TkL.told L, t, _, rfl, hp9.ins, hp9.ps, ?_, fun q hq => ?_⟩
          · rw [List.length_append]
            have : (TkL.told L).length = L.length := List.length_map _
            have := hp.hlen
            rw [q_past]
            omega
          obtain ⟨g1, g2, g3, g4, g5⟩ := tk_step _ List.mem_cons_self (kp8.trans (Kp.of s9)) hW hp9.ps (s9 _ _ hW8) (hL8.same s9) (⟨h9, cy.2.same s9⟩ : ToldAt H9 t y.2) nWp hq
          refine ⟨W, refsT L, _, rfl, rfl, g1, ?_, some (.ref y.1), _, L ++ [(q, t, _, y.2)], rfl, g2, g3, g4, g5, ?_⟩
          · unfold refsT
            rw [List.length_map]
            have := hp.hlen
            exact small6 (by omega)
          · rw [List.map_append, hcd, List.take_add_one, ey]
            show _ = List.map _ (_ ++ [y])
            rw [List.map_append]; rfl
      · rintro σ H8 ⟨v6, v7, L, rfl, kp8, hpa8, hW8, hL8, hcd⟩
        rw [refsC_len, List.take_length] at hcd
        have ex78 : Ext H7 H8 := kp8.ext fun z hz o ho => by
          rw [List.mem_singleton.mp hz, hp7.ps] at ho; cases ho; exact fun z => z
        have hp8 : PageAt K cs ms H8 p { S4 with past := S4.past ++ TkL.told L } := hp7.setPast kp8 hpa8 fun z hz => by
          rcases List.mem_append.mp hz with hz | hz
          · exact (hp7.pst z hz).ext ex78
          · obtain ⟨e, he, ee⟩ := List.mem_map.mp hz
            rw [← ee]; exact (hL8 e he).2
        have he8 : H8 e7 = some (.dK (encC kv7)) := kp8 _ _ he7' (notin1 e7pA)
        have hp9 := hp8.setD he8 ps7.cn e7tt e7ta
        refine ⟨_, rfl, _, rfl, p, S4.dx, _, rfl, hp8.ins, ?_⟩
        obtain ⟨⟨dx9, ci9, od9, ht9, _⟩, ht9', _⟩ := id hp9.tl
        have he9 : upd H8 p (pgO K { S4 with past := S4.past ++ TkL.told L, dD := e7, kv := kv7 }) e7 = some (.dK (encC kv7)) := hp9.dn
        refine ⟨_, rfl, p, S4.dx, _, rfl, hp9.ins, S4.tA, dx9, _, rfl, ht9, by kernel_rfl, _, rfl, p, S4.dx, _, rfl, hp9.ins, _, rfl, S4.tA, S4.tt, circ S4.hands, S4.T, S4.me, e7, kv7, rfl, hp9.tl, he9, ps7.cn, hcs, fun T' H10 kp10 hk10 hT' => ?_⟩
        have hp10 := hp9.setT kp10 hk10
        refine ⟨_, rfl, p, S4.dx, _, rfl, hp10.ins, by kernel_rfl, p, _, rfl, hp10, hcs, hms, fun dR hd' H11 hdR kp11 hp11 hmem hlen => ?_⟩
        have nWq : W ≠ S4.tt := fun z => by rw [z] at hW; exact ntn hp7.tl.2.1 hW
        have nWp2 : W ≠ p := fun z => by rw [z] at hW; exact ntn hp7.ins hW
        have kp8' : Kp [p, S4.tt, S4.ta, S4.pA] H8 H11 := (Kp.upd (F := [p, S4.tt, S4.ta, S4.pA]) Kp.refl (by simp)).trans ((kp10.mono (by simp)).trans (kp11.mono (by simp)))
        have ex811 : Ext H8 H11 := kp8'.ext fun z hz o ho => by
          rcases List.mem_cons.mp hz with zz | hz
          · rw [zz, hp8.ins] at ho; cases ho; exact page_imm
          · rcases List.mem_cons.mp hz with zz | hz
            · rw [zz, hp8.tl.2.1] at ho; cases ho; exact fun z => z
            · rcases List.mem_cons.mp hz with zz | hz
              · rw [zz, hp8.ab.2.1] at ho; cases ho; exact fun z => z
              · rw [List.mem_singleton.mp hz, hp8.ps] at ho; cases ho; exact fun z => z
        have nWta : W ≠ S4.ta := fun z => by rw [z] at hW; exact ntn hp7.ab.2.1 hW
        have hW11 : H11 W = some (.lst (refsT L)) := kp8' _ _ hW8 (by
          intro z
          rcases List.mem_cons.mp z with zz | z
          · exact nWp2 zz
          · rcases List.mem_cons.mp z with zz | z
            · exact nWq zz
            · rcases List.mem_cons.mp z with zz | z
              · exact nWta zz
              · exact nWp.symm (List.mem_singleton.mp z))
        have kpAll : Kp [p, S4.tt, S4.ta, S4.pA] H H11 := kpH7.trans ((kp8.mono (by simp)).trans kp8')
        have hWH : H W = none := kp_free kpH7 hW fun b hb => by
          rcases List.mem_cons.mp hb with zz | hb
          · rw [zz]; exact ntn hp7.ins
          · rcases List.mem_cons.mp hb with zz | hb
            · rw [zz]; exact ntn hp7.tl.2.1
            · rcases List.mem_cons.mp hb with zz | hb
              · rw [zz]; exact ntn hp7.ab.2.1
              · rw [List.mem_singleton.mp hb]; exact ntn hp7.ps
        rw [q_tt, q_ta, q_pA] at kpAll
        have hdRH : H dR = none := by
          have kp10' : Kp [p, S4.tt, S4.ta, S4.pA] H _ := kpH7.trans ((kp8.mono (by simp)).trans ((Kp.upd (F := [p, S4.tt, S4.ta, S4.pA]) (o := pgO K { S4 with past := S4.past ++ TkL.told L, dD := e7, kv := kv7 }) Kp.refl (by simp)).trans (kp10.mono (by simp))))
          refine kp_free kp10' hdR fun b hb => ?_
          rcases List.mem_cons.mp hb with zz | hb
          · rw [zz]; exact ntn hp10.ins
          · rcases List.mem_cons.mp hb with zz | hb
            · rw [zz]; exact ntn hp10.tl.2.1
            · rcases List.mem_cons.mp hb with zz | hb
              · rw [zz]; exact ntn hp10.ab.2.1
              · rw [List.mem_singleton.mp hb]; exact ntn hp10.ps
        refine ⟨_, rfl, k W L row _ H11 hWH kpAll hp11 ?_ ⟨.inr e7H, .inr hdRH, ?_⟩ hW11 (hL8.ext ex811)⟩
        rotate_left
        · rw [← hS4]; exact hoA
        subst hS4
        refine ⟨rfl, rfl, rfl, rfl, rfl, rfl, rfl, rfl, rfl, rfl, ps7.perm fun x hx => hrk.mem_iff.mp hx, hcd, rfl, hlen2, hT', fun x => hmem x, hlen⟩

end
end G
namespace G
open PySem PySem.Spec L2
open PyProof.Rows hiding St
section
variable {P : Program} {w : World} {K : PySem.W.Frag} {mg : Str → Option Value} {base : Heap} {CT : Addr × Addr}
section
variable {K : PySem.W.Frag} {cs : List Int} {ms : List Nm} {H H' : Hp} {p : Addr} {S : Pg}
theorem PageAt.setM {m' : Int} (h : PageAt K cs ms H p S) : PageAt K cs ms (upd H p (pgO K { S with made := m' })) p { S with made := m' } := by
  have s := h.sep
  have kp : Kp [p] H (upd H p (pgO K { S with made := m' })) := Kp.upd Kp.refl List.mem_cons_self
  have x := h.ext kp
  have m : ∀ b o, b ≠ p → H b = some o → upd H p (pgO K { S with made := m' }) b = some o := fun b o n e => kp b o e (notin1 n)
  exact ⟨upd_same, m _ _ s.pD h.dn, h.cn, m _ _ s.pH h.hl, fun y hy => (h.hc y hy).ext x, h.gc, h.nd, m _ _ s.pO h.od, h.ord.ext x, h.tl.keep (fun o => m _ _ s.pT) (fun o => m _ _ s.pt) x, h.ab.keep (fun o => m _ _ s.pB) (fun o => m _ _ s.pb) x, m _ _ s.pP h.ps, fun y hy => (h.pst y hy).ext x, h.n1, h.n2, h.n3, h.n4⟩
theorem PageAt.addH {y : Addr × Cd} (h : PageAt K cs ms H p S) (hc : CallAt K H y.1 y.2) (hg : GC cs S.num ms y.2) (hn : y.2.nm ∉ S.hd.map (·.2.nm)) : PageAt K cs ms (upd H S.dH (.dT (encH (S.hd ++ [y])))) p { S with hd := S.hd ++ [y] } := by
  have s := h.sep
  have kp : Kp [S.dH] H (upd H S.dH (.dT (encH (S.hd ++ [y])))) := Kp.upd Kp.refl List.mem_cons_self
  have x : Ext H (upd H S.dH (.dT (encH (S.hd ++ [y])))) := kp.ext fun z hz o ho => by
    rw [List.mem_singleton.mp hz, h.hl] at ho; cases ho; exact fun z => z
  have m : ∀ b o, b ≠ S.dH → H b = some o → upd H S.dH (.dT (encH (S.hd ++ [y]))) b = some o := fun b o n e => kp b o e (notin1 n)
  refine ⟨m _ _ s.pH.symm h.ins, m _ _ s.DH h.dn, h.cn, upd_same, fun z hz => ?_, fun z hz => ?_, ?_, m _ _ s.HO.symm h.od, h.ord.ext x, h.tl.keep (fun o => m _ _ s.HT.symm) (fun o => m _ _ s.Ht.symm) x, h.ab.keep (fun o => m _ _ s.HB.symm) (fun o => m _ _ s.Hb.symm) x, m _ _ s.HP.symm h.ps, fun y hy => (h.pst y hy).ext x, h.n1, h.n2, h.n3, h.n4⟩
  · rcases List.mem_append.mp hz with hz | hz
    · exact (h.hc z hz).ext x
    · rw [List.mem_singleton.mp hz]; exact hc.ext x
  · rcases List.mem_append.mp hz with hz | hz
    · exact h.gc z hz
    · rw [List.mem_singleton.mp hz]; exact hg
  · rw [List.map_append]
    refine List.nodup_append.mpr ⟨h.nd, List.nodup_cons.mpr ⟨fun z => (nomatch z), List.nodup_nil⟩, ?_⟩
    intro a ha b hb e
    have hb' : b = y.2.nm := List.mem_singleton.mp hb
    rw [hb'] at e
    exact hn (by rw [← e]; exact ha)
end
def spUtter (K : PySem.W.Frag) (cs : List Int) (ms : List Nm) : Sp := fun vs H Q E => ∃ p S kd w, vs = [.ref p, .str (kdS kd), .int w] ∧ PageAt K cs ms H p S ∧ w.natAbs < 10 ^ 60 ∧ cs.length ≤ 60 ∧ ms.length ≤ 900 ∧ S.os.length ≤ 3000000 ∧ S.past.length ≤ 3000000 ∧ 0 ≤ S.made ∧ S.me ∈ cs ∧ (S.num, S.me, S.made + 1) ∉ ms ∧
  (∀ q L row S' H' y, H q = none → Kp [p, S.dH, S.tt, S.ta, S.pA] H H' → y.2.nm = (S.num, S.me, S.made + 1) → PageAt K cs (ms ++ [(S.num, S.me, S.made + 1)]) H' p S' → StepOut cs { S with made := S.made + 1, hd := S.hd ++ [y] } S' row L → Fr H S S' → H' q = some (.lst (refsT L)) → TkAt H' L → Q (.ref q) H') ∧
  ∀ d H', Same H H' → E (.ref (He.ga K "Held")) d H'
theorem ok_Page_utter (A : All P w K mg base CT) {cs : List Int} {ms : List Nm}: MOk P w K mg base (CX P w) 8 (He.ga K "Page") "utter" ["self", "kind", "word"] [] (spUtter K cs ms) := by
  obtain ⟨fd, F⟩ := fu_Page_utter A.d
  refine ⟨cl_Page A.d, _, fd, [], FunD.ok F sc_Page_utter (fun vs H Q E h => ?_) (fun cdv A0 outer s H vs Q E hr h => ?_), me_Page_utter A.d, F.bindsN fun _ _ _ _ _ _ us hl => match us, hl with | [_, _, _], _ => rfl, .nil⟩
  · obtain ⟨p, S, kd, w, rfl, hp, hw, hcs, hms, hO, hP, hm0, hme, hnm, k, kE⟩ := h
    rfl
  · obtain ⟨p, S, kd, w, rfl, hp, hw, hcs, hms, hO, hP, hm0, hme, hnm, k, kE⟩ := h
    have hu := hu_of hr
    refine ⟨_, pss_cons (ps_set (i := 3) sc_Page_utter.nd rfl (by first | exact Or.inl rfl | exact Or.inr rfl) (pe_op op_sub (pe_Page_made A.d (pv 0)) ((ok_count_of A).pe hr pass0 (pa_cons ((ok_Known_floor A (cs := cs)).pe0 hr pass0 (pe_Page_tells A.d (pv 0))) (pa_cons (pe_Page_me A.d (pv 0)) pa_nil)))))
      (pss_cons (ps_if (pt_cmpR op_ge (pv 3) (pe_Page_room A.d (pv 0)) (nomark _)) (pss_one (ps_raise rfl (takes_of rfl rfl rfl rfl) (pmk_Held A hr (pa_cons (pv 3) (pa_cons (pe_Page_room A.d (pv 0)) pa_nil))))) pss_nil)
      (pss_cons (ps_set (i := 4) sc_Page_utter.nd rfl (by first | exact Or.inl rfl | exact Or.inr rfl) ((ok_make_call A).pe hr pass0 (pa_cons (pe_Page_number A.d (pv 0)) (pa_cons (pe_Page_me A.d (pv 0)) (pa_cons (pe_op op_add (pe_Page_made A.d (pv 0)) pe_int) (pa_cons (pv 1) (pa_cons (pv 2) (pa_cons ((ok_packed A (cs := cs)).pe hr pass0 (pa_cons (pe_Page_done A.d (pv 0)) pa_nil)) pa_nil))))))))
      (pss_cons (ps_Page_made A.d (pv 0) (pe_op op_add (pe_Page_made A.d (pv 0)) pe_int))
      (pss_cons (ps_dput hu (pe_Page_held A.d (pv 0)) (M3.pe0K (ok_call_name A) hr (pv 4)) (pv 4) rfl)
      (pss_one (ps_ret ((ok_Page_step A (cs := cs) (ms := ms ++ [(S.num, S.me, S.made + 1)])).pe0 hr pass0 (pv 0)))))))), ?_⟩
    obtain ⟨⟨dxt, cit, odt, ht1, ht2⟩, _⟩ := id hp.tl
    refine ⟨_, rfl, p, S.dx, _, rfl, hp.ins, _, rfl, p, S.dx, _, rfl, hp.ins, S.tA, dxt, _, rfl, ht1, by kernel_rfl, S.tA, S.tt, circ S.hands, S.T, rfl, hp.tl, hcs, fun f fl H1 hf s1 hf1 cfl hfl => ?_⟩
    have hp1 := hp.same s1
    refine ⟨_, rfl, p, S.dx, _, rfl, hp1.ins, f, fl, S.me, rfl, .inl hf1, _, _, rfl, rfl, ?_⟩
    refine ⟨_, rfl, _, rfl, p, S.dx, _, rfl, hp1.ins, _, _, rfl, rfl, _, rfl, ite2 (fun _ => ?_) (fun _ => ?_)⟩
    · refine ⟨_, rfl, _, rfl, p, S.dx, _, rfl, hp1.ins, (by show 2 ≤ 1000; decide), fun a ha => ⟨a, _, _, rfl, upd_same, fun dx fs hdx hne => ⟨rfl, dx, fs, ?_⟩⟩⟩
      obtain ⟨g1, g2, g3, g4⟩ := held_heap (fs := fs) ha hdx hne
      exact ⟨g1, g2, g3, kE _ _ (s1.trans g4)⟩
    · refine ⟨_, rfl, p, S.dx, _, rfl, hp1.ins, _, rfl, p, S.dx, _, rfl, hp1.ins, _, rfl, p, S.dx, _, rfl, hp1.ins, _, _, rfl, rfl, _, rfl, _, rfl, _, rfl, p, S.dx, _, rfl, hp1.ins, S.dD, S.kv, rfl, .inl hp1.dn, hp.cn, hcs, fun t ps H2 ht s2 hpk hperm => ?_⟩
      refine ⟨_, _, _, kd, w, t, ps, rfl, hw, hpk, fun a d H3 ha s3 hca hd => ?_⟩
      have hp3 := (hp1.same s2).same s3
      obtain ⟨hd1, hd2, hd3, hd4, hd5, hd6⟩ := hd
      refine ⟨_, rfl, p, S.dx, _, rfl, hp3.ins, _, _, rfl, rfl, _, rfl, p, S.dx, _, rfl, hp3.ins, ?_⟩
      have hp4 := hp3.setM (m' := S.made + 1)
      have s14 : Kp [p] H3 (upd H3 p (pgO K { S with made := S.made + 1 })) := Kp.upd Kp.refl List.mem_cons_self
      have hca4 := hca.ext (hp3.ext s14)
      have hnm2 : d.nm = (S.num, S.me, S.made + 1) := by unfold Cd.nm; rw [hd1, hd2, hd3]
      obtain ⟨⟨dxc, ec⟩, _⟩ := id hca4
      refine ⟨_, rfl, _, rfl, p, S.dx, _, rfl, hp4.ins, _, rfl, a, dxc, d.kd, _, _, _, _, _, rfl, ec, by kernel_rfl, a, d, rfl, hca4, fun t5 H5 ht5 s5 h5 => ?_⟩
      have hp5 := (hp4.same s5).mono (ms' := ms ++ [(S.num, S.me, S.made + 1)]) fun x hx => List.mem_append_left _ hx
      have hfr : d.nm ∉ S.hd.map (·.2.nm) := fun z => by
        obtain ⟨x, hx, e⟩ := List.mem_map.mp z
        exact hnm (by rw [← hnm2, ← e]; exact (hp.gc x hx).ms)
      have hzl := hperm.length_eq
      have hkl := hp.cn.len
      rw [List.length_map] at hzl
      have hgc : GC cs S.num (ms ++ [(S.num, S.me, S.made + 1)]) d := ⟨hd1, List.mem_append_right _ (by rw [hnm2]; exact List.mem_cons_self), by rw [hd3]; omega, by rw [hd2]; exact hme, by rw [hd5]; exact hw, by omega⟩
      have hp6 := hp5.addH (y := (a, d)) (hca4.same s5) hgc hfr
      have hhl := hp.hlen
      refine ⟨S.dH, _, rfl, DPut.t (k := nmK d.nm) hp5.hl h5 (by rw [encH_len]; exact small6 (by show S.hd.length ≤ _; omega)), ?_⟩
      rw [putK_new (encH_fresh hfr)]
      rw [show encH S.hd ++ [(nmK d.nm, V.ref a)] = encH (S.hd ++ [(a, d)]) from (encH_app S.hd (a, d)).symm]
      refine ⟨_, rfl, p, S.dx, _, rfl, hp6.ins, by kernel_rfl, p, _, rfl, hp6, hcs, by rw [List.length_append]; show ms.length + 1 ≤ 1000; omega, by show S.os.length ≤ _; omega, by show S.past.length ≤ _; omega, fun q L row S' H' hq kp' hp' so fr hq' hL' => ?_⟩
      have kpa : Kp [p, S.dH, S.tt, S.ta, S.pA] H3 (upd H5 S.dH (.dT (encH (S.hd ++ [(a, d)])))) := Kp.upd ((s14.mono (by simp)).trans (Kp.of s5)) (by simp)
      have kpb : Kp [p, S.dH, S.tt, S.ta, S.pA] H (upd H5 S.dH (.dT (encH (S.hd ++ [(a, d)])))) := (Kp.of ((s1.trans s2).trans s3)).trans kpa
      have frb : ∀ {b : Addr}, upd H5 S.dH (.dT (encH (S.hd ++ [(a, d)]))) b = none → H b = none := fun {b} hb => kp_free kpb hb fun z hz => by
        rcases List.mem_cons.mp hz with zz | hb
        · rw [zz]; exact ntn hp6.ins
        · rcases List.mem_cons.mp hb with zz | hb
          · rw [zz]; exact ntn hp6.hl
          · rcases List.mem_cons.mp hb with zz | hb
            · rw [zz]; exact ntn hp6.tl.2.1
            · rcases List.mem_cons.mp hb with zz | hb
              · rw [zz]; exact ntn hp6.ab.2.1
              · rw [List.mem_singleton.mp hb]; exact ntn hp6.ps
      exact k q L row S' H' (a, d) (frb hq) (kpb.trans (kp'.mono (by simp))) hnm2 hp' so ⟨fr.dD.imp id frb, fr.dH.imp id frb, fr.oA.imp id frb⟩ hq' hL'

end
end G
namespace G
open PySem PySem.Spec L2
open PyProof.Rows hiding St
section
variable {P : Program} {w : World} {K : PySem.W.Frag} {mg : Str → Option Value} {base : Heap} {CT : Addr × Addr}
/-! ### reports and pieces -/
theorem cutC (l : CL) (lo hi : Option Int) : ∃ l', cutV (refsC l) lo hi = refsC l' ∧ (∀ x ∈ l', x ∈ l) ∧ l'.length ≤ l.length := by
  refine ⟨(l.drop (HT.sIx (refsC l).length 0 lo)).take (HT.sIx (refsC l).length (refsC l).length hi - HT.sIx (refsC l).length 0 lo), ?_, fun o ho => List.mem_of_mem_drop (List.mem_of_mem_take ho), ?_⟩
  · unfold cutV refsC
    rw [List.map_take, List.map_drop]
  · rw [List.length_take, List.length_drop]; omega
structure Rp where
  me : Int
  F : Addr
  fp : List (Addr × Int × Int)
  C : Addr
  told : CL
  O : Addr
  os : List (Addr × Nm)
  lv : Bool
def Rp.fl (R : Rp) : Cn := R.fp.map (·.2)
structure RepAt (H : Hp) (t : Addr) (R : Rp) : Prop where
  tup : H t = some (.tup [.int R.me, .ref R.F, .ref R.C, .ref R.O, .bl R.lv])
  F : PackAt H R.F R.fp
  C : H R.C = some (.tup (refsC R.told))
  told : ∀ x ∈ R.told, ToldAt H x.1 x.2
  O : H R.O = some (.tup (refsO R.os))
  ord : OrdL H R.os
theorem RepAt.ext {H H1 : Hp} {t : Addr} {R : Rp} (h : RepAt H t R) (x : Ext H H1) : RepAt H1 t R := ⟨x _ _ h.tup trivial, h.F.ext x, x _ _ h.C trivial, fun y hy => (h.told y hy).ext x, x _ _ h.O trivial, h.ord.ext x⟩
/-- what holds of every report -/
structure RepOK (cs : List Int) (n : Int) (ms : List Nm) (R : Rp) : Prop where
  fl : Cnt cs R.fl
  gc : ∀ x ∈ R.told, GC cs n ms x.2
  me : 0 ≤ R.me ∧ R.me ≤ 62
  len : R.told.length ≤ 1000
theorem RepOK.mono {cs : List Int} {n : Int} {ms ms' : List Nm} {R : Rp} (h : RepOK cs n ms R) (s : ∀ x ∈ ms, x ∈ ms') : RepOK cs n ms' R := ⟨h.fl, fun x hx => (h.gc x hx).mono s, h.me, h.len⟩
def spReport (K : PySem.W.Frag) (cs : List Int) (ms : List Nm) : Sp := fun vs H Q _ => ∃ p S lv, vs = [.ref p, .bl lv] ∧ PageAt K cs ms H p S ∧ cs.length ≤ 60 ∧ ms.length ≤ 1000 ∧ S.os.length ≤ 4000000 ∧ 0 ≤ S.me ∧ S.me ≤ 62 ∧
  ∀ t R H', H t = none → Same H H' → RepAt H' t R → RepOK cs S.num ms R → R.os.length ≤ S.os.length → Q (.ref t) H'
theorem ok_Page_report (A : All P w K mg base CT) {cs : List Int} {ms : List Nm}: MOk P w K mg base CX0 5 (He.ga K "Page") "report" ["self", "leaves"] [] (spReport K cs ms) := by
  obtain ⟨fd, F⟩ := fu_Page_report A.d
  refine ⟨cl_Page A.d, _, fd, [], FunD.ok0 F sc_Page_report (fun vs H Q E h => ?_) (fun cdv A0 outer s H vs Q E hr h => ?_), me_Page_report A.d, F.bindsN fun _ _ _ _ _ _ us hl => match us, hl with | [_, _], _ => rfl, .nil⟩
  · obtain ⟨p, S, lv, rfl, hp, hcs, hms, hO, h0, h62, k⟩ := h
    rfl
  · obtain ⟨p, S, lv, rfl, hp, hcs, hms, hO, h0, h62, k⟩ := h
    have hu := hu_of hr
    refine ⟨_, pss_cons (ps_set (i := 2) sc_Page_report.nd rfl (by first | exact Or.inl rfl | exact Or.inr rfl) (pe_callTy (call_tuple_of) (by rfl) (fr_tuple A.kin A.ns A.d) (by decide +kernel) (pa_cons (pe_lc (own := [("call", 3)]) (g := gName 3) (tt := tYes) rfl sc_Page_report.nd (pi_list ((ok_Page_sorted_calls A (cs := cs) (ms := ms)).pe0 hr pass0 (pv 0))) (blkOk_by (N := ["self", "leaves", "calls", "call"]) (sc := defScope s_Page_report) (by decide +kernel)) (fun _ _ _ _ _ => pg_name (i := 3) sc_Page_report.nd rfl (Or.inl rfl)) (fun _ _ _ _ _ => pts_nil) (fun _ _ _ _ _ => (M3.pe0K (ok_call_told A) hr (pv 3)))) pa_nil)))
      (pss_one (ps_ret (pe_tup (pa_cons (pe_Page_me A.d (pv 0)) (pa_cons ((ok_packed A (cs := cs)).pe hr pass0 (pa_cons ((ok_Known_floor A (cs := cs)).pe0 hr pass0 (pe_Page_tells A.d (pv 0))) pa_nil)) (pa_cons (pv 2) (pa_cons (pe_callTy (call_tuple_of) (by rfl) (fr_tuple A.kin A.ns A.d) (by decide +kernel) (pa_cons (pe_Page_order A.d (pv 0)) pa_nil)) (pa_cons (pv 1) pa_nil)))))))), ?_⟩
    refine ⟨_, rfl, p, S.dx, _, rfl, hp.ins, by kernel_rfl, p, S, rfl, hp, fun q rk H1 hq s1 hq1 hrk => ⟨q, rfl, ⟨_, SqL.of hq1⟩, fun D hD => ?_⟩⟩
    have hp1 := hp.same s1
    have nqD : q ≠ D := ne_of_none hq1 hD
    refine lc_list (K := K) (a := q) (xs := refsC rk) (fun i H2 => Same H H2 ∧ H2 q = some (.lst (refsC rk)) ∧ ∃ l : CL, H2 D = some (.lst (refsC l)) ∧ (∀ x ∈ l, ToldAt H2 x.1 x.2) ∧ l.map (·.2) = (rk.take i).map (·.2)) ⟨same_set s1 (s1.free hD), by rw [upd_ne nqD]; exact hq1, [], upd_same, fun _ h => (nomatch h), rfl⟩ (fun i H2 _ ⟨_, h, _⟩ => SqL.of h) ?_ ?_
    · rintro i x H2 hx ⟨s2, hq2, l, hl, hl2, hl3⟩
      obtain ⟨y, ey, rfl⟩ := refsC_get hx
      have hi := (List.getElem?_eq_some_iff.mp ey).1
      have cy := (hp.hc y (hrk.mem_iff.mp (List.mem_of_getElem? ey))).same s2
      obtain ⟨⟨dx, e1⟩, _⟩ := id cy
      refine ⟨rfl, _, rfl, y.1, dx, y.2.kd, _, _, _, _, _, rfl, e1, by kernel_rfl, y.1, y.2, rfl, cy, rfl, fun t H3 ht s3 h3 => ?_⟩
      have hlen : l.length = i := by
        have := congrArg List.length hl3
        rw [List.length_map, List.length_map, List.length_take] at this
        omega
      have hhl := hp.hlen
      have hrl := hrk.length_eq
      have exD : Ext H3 (upd H3 D (.lst (refsC l ++ [.ref t]))) := Kp.ext (F := [D]) (Kp.upd Kp.refl List.mem_cons_self) fun z hz o ho => by
        rw [List.mem_singleton.mp hz, s3 _ _ hl] at ho; cases ho; exact fun z => z
      refine ⟨_, s3 _ _ hl, by rw [refsC_len]; exact small6 (by omega), same_set (s2.trans s3) (s1.free hD), by rw [upd_ne nqD]; exact s3 _ _ hq2, l ++ [(t, y.2)], by rw [upd_same, refsC_app], fun z hz => ?_, ?_⟩
      · rcases List.mem_append.mp hz with hz | hz
        · exact ((hl2 z hz).same s3).ext exD
        · rw [List.mem_singleton.mp hz]
          exact ToldAt.ext exD ⟨h3, cy.2.same s3⟩
      · rw [List.map_append, hl3, List.take_add_one, ey]
        show _ = List.map _ (_ ++ [y])
        rw [List.map_append]; rfl
    · rintro H2 ⟨s2, hq2, l, hl, hl2, hl3⟩
      rw [refsC_len, List.take_length] at hl3
      have hp2 := hp.same s2
      refine ⟨D, _, rfl, .inl ⟨SqL.of hl, fun C hC => ?_⟩⟩
      have s3 : Same H2 (upd H2 C (.tup (refsC l))) := same_new hC
      have hp3 := hp2.same s3
      obtain ⟨⟨dxt, cit, odt, ht1, ht2⟩, _⟩ := id hp3.tl
      refine ⟨_, rfl, p, S.dx, _, rfl, hp3.ins, _, rfl, p, S.dx, _, rfl, hp3.ins, S.tA, dxt, _, rfl, ht1, by kernel_rfl, S.tA, S.tt, circ S.hands, S.T, rfl, hp3.tl, hcs, fun f fl H4 hf s4 hf4 cfl hfl => ?_⟩
      refine ⟨f, fl, rfl, .inl hf4, cfl, hcs, fun F fp H5 hF s5 hpk hperm => ?_⟩
      have hp5 := (hp3.same s4).same s5
      refine ⟨_, rfl, _, rfl, p, S.dx, _, rfl, hp5.ins, S.oA, _, rfl, .inl ⟨SqL.of hp5.od, fun O hO2 => ?_⟩⟩
      have s6 : Same H5 (upd H5 O (.tup (refsO S.os))) := same_new hO2
      refine ⟨_, rfl, (by show 5 ≤ sizeLine; decide), fun t ht => ?_⟩
      have s7 : Same (upd H5 O (.tup (refsO S.os))) (upd (upd H5 O (.tup (refsO S.os))) t (.tup [.int S.me, .ref F, .ref C, .ref O, .bl lv])) := same_new ht
      have s27 := ((s3.trans s4).trans (s5.trans s6)).trans s7
      have hperm2 : (l.map (·.2)).Perm (S.hd.map (·.2)) := by rw [hl3]; exact hrk.map _
      have hlen2 : l.length = S.hd.length := by have := hperm2.length_eq; rwa [List.length_map, List.length_map] at this
      have hhl := hp.hlen
      refine k t ⟨S.me, F, fp, C, l, O, S.os, lv⟩ _ ((s2.trans ((s3.trans s4).trans (s5.trans s6))).free ht) (s2.trans s27) ⟨upd_same, (hpk.same s6).same s7, s7 _ _ (s6 _ _ (s5 _ _ (s4 _ _ upd_same))), fun x hx => (hl2 x hx).same s27, s7 _ _ upd_same, (hp5.ord.same s6).same s7⟩ ⟨cfl.perm hperm, fun x hx => ?_, ⟨h0, h62⟩, by show l.length ≤ 1000; omega⟩ (Nat.le_refl _)
      have hm : x.2 ∈ S.hd.map (·.2) := hperm2.mem_iff.mp (List.mem_map.mpr ⟨x, hx, rfl⟩)
      obtain ⟨y, hy, ey⟩ := List.mem_map.mp hm
      rw [← ey]; exact hp.gc y hy

end
end G
namespace G
open PySem PySem.Spec L2
open PyProof.Rows hiding St
section
variable {P : Program} {w : World} {K : PySem.W.Frag} {mg : Str → Option Value} {base : Heap} {CT : Addr × Addr}
structure Pc where
  O : Addr
  os : List (Addr × Nm)
  tT : Addr
  LT : List LE
  tB : Addr
  LB : List LE
  C : Addr
  told : CL
structure PcAt (cs : List Int) (H : Hp) (t : Addr) (c : Pc) : Prop where
  tup : H t = some (.tup [.ref c.O, .ref c.tT, .ref c.tB, .ref c.C])
  O : H c.O = some (.tup (refsO c.os))
  ord : OrdL H c.os
  T : ListedAt cs H c.tT c.LT
  B : ListedAt cs H c.tB c.LB
  C : H c.C = some (.tup (refsC c.told))
  told : ∀ x ∈ c.told, ToldAt H x.1 x.2
theorem PcAt.ext {cs : List Int} {H H1 : Hp} {t : Addr} {c : Pc} (h : PcAt cs H t c) (x : Ext H H1) : PcAt cs H1 t c := ⟨x _ _ h.tup trivial, x _ _ h.O trivial, h.ord.ext x, h.T.ext x, h.B.ext x, x _ _ h.C trivial, fun y hy => (h.told y hy).ext x⟩
def spPiece (K : PySem.W.Frag) (cs : List Int) (ms : List Nm) : Sp := fun vs H Q _ => ∃ p S sk mv, vs = [.ref p, .int sk, mv] ∧ (mv = .non ∨ ∃ i, mv = .int i) ∧ PageAt K cs ms H p S ∧ cs.length ≤ 60 ∧ ms.length ≤ 1000 ∧ S.os.length ≤ 4000000 ∧
  ∀ t c H', H t = none → Same H H' → PcAt cs H' t c → (∀ x ∈ c.told, GC cs S.num ms x.2) → c.told.length ≤ 1000 → c.os.length ≤ S.os.length → (∀ e ∈ c.LT, e.2.1 ∈ circ S.hands ∧ ∀ c, cnt (LE.lc e) c = cnt (rowR S.T e.2.1) c) → Q (.ref t) H'
theorem fk_Page_piece (A : All P w K mg base CT) {cs : List Int} {ms : List Nm}: ∃ fd, FunD K d_Page_piece.name d_Page_piece.qual (defArgs s_Page_piece) (defBody s_Page_piece) (defScope s_Page_piece) (d_Page_piece.dvs K) [] (He.fAd K ("Page", some "piece")) fd ∧ FnOk P w K mg base CX0 5 (He.fAd K ("Page", some "piece")) fd ["self", "skip", "many"] (spPiece K cs ms) := by
  obtain ⟨fd, F⟩ := fu_Page_piece A.d
  refine ⟨fd, F, FunD.ok0 F sc_Page_piece (fun vs H Q E h => ?_) (fun cdv A0 outer s H vs Q E hr h => ?_)⟩
  · obtain ⟨p, S, sk, mv, rfl, hmv, hp, hcs, hms, hO, k⟩ := h
    rfl
  · obtain ⟨p, S, sk, mv, rfl, hmv, hp, hcs, hms, hO, k⟩ := h
    have hu := hu_of hr
    refine ⟨_, pss_cons (ps_set (i := 3) sc_Page_piece.nd rfl (by first | exact Or.inl rfl | exact Or.inr rfl) (pe_slice sl_list ((ok_Page_sorted_calls A (cs := cs) (ms := ms)).pe0 hr pass0 (pv 0)) (po_some (pv 1)) po_none))
      (pss_cons (ps_cut (ps_if (pt_cmpR op_notN (pv 2) pe_non (nomark _)) (pss_one (ps_set (i := 3) sc_Page_piece.nd rfl (by first | exact Or.inl rfl | exact Or.inr rfl) (pe_slice sl_list (pv 3) po_none (po_some (pv 2))))) pss_nil))
      (pss_cons (ps_set (i := 4) sc_Page_piece.nd rfl (by first | exact Or.inl rfl | exact Or.inr rfl) (pe_callTy (call_tuple_of) (by rfl) (fr_tuple A.kin A.ns A.d) (by decide +kernel) (pa_cons (pe_lc (own := [("call", 5)]) (g := gName 5) (tt := tYes) rfl sc_Page_piece.nd (pi_list (pv 3)) (blkOk_by (N := ["self", "skip", "many", "calls", "told", "call"]) (sc := defScope s_Page_piece) (by decide +kernel)) (fun _ _ _ _ _ => pg_name (i := 5) sc_Page_piece.nd rfl (Or.inl rfl)) (fun _ _ _ _ _ => pts_nil) (fun _ _ _ _ _ => (M3.pe0K (ok_call_told A) hr (pv 5)))) pa_nil)))
      (pss_one (ps_ret (pe_tup (pa_cons (pe_callTy (call_tuple_of) (by rfl) (fr_tuple A.kin A.ns A.d) (by decide +kernel) (pa_cons (pe_Page_order A.d (pv 0)) pa_nil)) (pa_cons ((ok_Known_listed A (cs := cs)).pe0 hr pass0 (pe_Page_tells A.d (pv 0))) (pa_cons ((ok_Known_listed A (cs := cs)).pe0 hr pass0 (pe_Page_ables A.d (pv 0))) (pa_cons (pv 4) pa_nil))))))))), ?_⟩
    refine ⟨_, rfl, p, S.dx, _, rfl, hp.ins, by kernel_rfl, p, S, rfl, hp, fun q rk H1 hq s1 hq1 hrk => ?_⟩
    refine ⟨_, rfl, _, rfl, q, _, rfl, SqL.of hq1, fun q2 hq2 => ?_⟩
    obtain ⟨l2, e2, hl2, hl2n⟩ := cutC rk (some sk) none
    rw [e2]
    have s2 : Same H1 (upd H1 q2 (.lst (refsC l2))) := same_new hq2
    have hhl := hp.hlen
    have hrl := hrk.length_eq
    refine ⟨fun σ' H' => ∃ q3 l3, σ' = [some (.ref p), some (.int sk), some mv, some (.ref q3), none, none] ∧ Same H H' ∧ H' q3 = some (.lst (refsC l3)) ∧ (∀ x ∈ l3, x ∈ S.hd) ∧ l3.length ≤ 1000, ?_, ?_⟩
    · refine ⟨_, rfl, rfl, _, rfl, ?_⟩
      rcases hmv with rfl | ⟨i, rfl⟩
      · exact iteF ⟨q2, l2, rfl, s1.trans s2, upd_same, fun x hx => hrk.mem_iff.mp (hl2 x hx), by omega⟩
      · refine iteT ⟨_, rfl, _, rfl, _, rfl, q2, _, rfl, SqL.of upd_same, fun q3 hq3 => ?_⟩
        obtain ⟨l3, e3, hl3, hl3n⟩ := cutC l2 none (some i)
        rw [e3]
        exact ⟨q3, l3, rfl, (s1.trans s2).trans (same_new hq3), upd_same, fun x hx => hrk.mem_iff.mp (hl2 x (hl3 x hx)), by omega⟩
    clear s2 hl2 hl2n e2 hq2 q2 l2 hq1 s1 hrk hrl
    rintro σ3 H3 ⟨q3, rk, rfl, s1, hq1, hrk, hrl⟩
    clear H1
    refine ⟨_, rfl, q3, rfl, ⟨_, SqL.of hq1⟩, fun D hD => ?_⟩
    have nqD : q3 ≠ D := ne_of_none hq1 hD
    refine lc_list (K := K) (a := q3) (xs := refsC rk) (fun i H2 => Same H H2 ∧ H2 q3 = some (.lst (refsC rk)) ∧ ∃ l : CL, H2 D = some (.lst (refsC l)) ∧ (∀ x ∈ l, ToldAt H2 x.1 x.2) ∧ l.map (·.2) = (rk.take i).map (·.2)) ⟨same_set s1 (s1.free hD), by rw [upd_ne nqD]; exact hq1, [], upd_same, fun _ h => (nomatch h), rfl⟩ (fun i H2 _ ⟨_, h, _⟩ => SqL.of h) ?_ ?_
    · rintro i x H2 hx ⟨s2, hq2, l, hl, hl2, hl3⟩
      obtain ⟨y, ey, rfl⟩ := refsC_get hx
      have hi := (List.getElem?_eq_some_iff.mp ey).1
      have cy := (hp.hc y (hrk y (List.mem_of_getElem? ey))).same s2
      obtain ⟨⟨dx, e1⟩, _⟩ := id cy
      refine ⟨rfl, _, rfl, y.1, dx, y.2.kd, _, _, _, _, _, rfl, e1, by kernel_rfl, y.1, y.2, rfl, cy, rfl, fun t H3 ht s3 h3 => ?_⟩
      have hlen : l.length = i := by
        have := congrArg List.length hl3
        rw [List.length_map, List.length_map, List.length_take] at this
        omega
      have exD : Ext H3 (upd H3 D (.lst (refsC l ++ [.ref t]))) := Kp.ext (F := [D]) (Kp.upd Kp.refl List.mem_cons_self) fun z hz o ho => by
        rw [List.mem_singleton.mp hz, s3 _ _ hl] at ho; cases ho; exact fun z => z
      refine ⟨_, s3 _ _ hl, by rw [refsC_len]; exact small6 (by omega), same_set (s2.trans s3) (s1.free hD), by rw [upd_ne nqD]; exact s3 _ _ hq2, l ++ [(t, y.2)], by rw [upd_same, refsC_app], fun z hz => ?_, ?_⟩
      · rcases List.mem_append.mp hz with hz | hz
        · exact ((hl2 z hz).same s3).ext exD
        · rw [List.mem_singleton.mp hz]
          exact ToldAt.ext exD ⟨h3, cy.2.same s3⟩
      · rw [List.map_append, hl3, List.take_add_one, ey]
        show _ = List.map _ (_ ++ [y])
        rw [List.map_append]; rfl
    · rintro H2 ⟨s2, hq2, l, hl, hl2, hl3⟩
      rw [refsC_len, List.take_length] at hl3
      have hp2 := hp.same s2
      refine ⟨D, _, rfl, .inl ⟨SqL.of hl, fun C hC => ?_⟩⟩
      have s3 : Same H2 (upd H2 C (.tup (refsC l))) := same_new hC
      have hp3 := hp2.same s3
      refine ⟨_, rfl, p, S.dx, _, rfl, hp3.ins, S.oA, _, rfl, .inl ⟨SqL.of hp3.od, fun O hO2 => ?_⟩⟩
      have s4 : Same (upd H2 C (.tup (refsC l))) (upd (upd H2 C (.tup (refsC l))) O (.tup (refsO S.os))) := same_new hO2
      have hp4 := hp3.same s4
      obtain ⟨⟨dxt, cit, odt, ht1, ht2⟩, _⟩ := id hp4.tl
      refine ⟨_, rfl, p, S.dx, _, rfl, hp4.ins, S.tA, dxt, _, rfl, ht1, by kernel_rfl, S.tA, S.tt, circ S.hands, S.T, rfl, hp4.tl, hcs, fun tT LT H5 hT s5 hLT hLT2 => ?_⟩
      have hp5 := hp4.same s5
      obtain ⟨⟨dxa, cia, oda, ha1, ha2⟩, _⟩ := id hp5.ab
      refine ⟨_, rfl, p, S.dx, _, rfl, hp5.ins, S.aA, dxa, _, rfl, ha1, by kernel_rfl, S.aA, S.ta, circ S.hands, S.B, rfl, hp5.ab, hcs, fun tB LB H6 hB s6 hLB hLB2 => ?_⟩
      refine ⟨_, rfl, (by show 4 ≤ sizeLine; decide), fun t ht => ?_⟩
      have s7 : Same H6 (upd H6 t (.tup [.ref O, .ref tT, .ref tB, .ref C])) := same_new ht
      have s37 := (s3.trans (s4.trans (s5.trans s6))).trans s7
      have hlen2 : l.length = rk.length := by have := congrArg List.length hl3; rwa [List.length_map, List.length_map] at this
      refine k t ⟨O, S.os, tT, LT, tB, LB, C, l⟩ _ ((s2.trans (s3.trans (s4.trans (s5.trans s6)))).free ht) (s2.trans s37) ⟨upd_same, s7 _ _ (s6 _ _ (s5 _ _ upd_same)), ((hp4.ord.same s5).same s6).same s7, (hLT.same s6).same s7, hLB.same s7, s7 _ _ (s6 _ _ (s5 _ _ (s4 _ _ upd_same))), fun x hx => (hl2 x hx).same s37⟩ (fun x hx => ?_) (by show l.length ≤ 1000; omega) (Nat.le_refl _) hLT2
      have hm : x.2 ∈ rk.map (·.2) := by rw [← hl3]; exact List.mem_map.mpr ⟨x, hx, rfl⟩
      obtain ⟨y, hy, ey⟩ := List.mem_map.mp hm
      rw [← ey]; exact hp.gc y (hrk y hy)
theorem ok_Page_piece (A : All P w K mg base CT) {cs : List Int} {ms : List Nm}: MOk P w K mg base CX0 5 (He.ga K "Page") "piece" ["self", "skip", "many"] [] (spPiece K cs ms) := by
  obtain ⟨fd, F, ok⟩ := fk_Page_piece A (cs := cs) (ms := ms)
  obtain ⟨ds, v, b⟩ := F.binds1 (ps := ["self", "skip", "many"]) 3 2 (fun z => nomatch z) rfl (fun T kV doc pm an cdv ct us its h1 h2 => match us, its, h1, h2 with | [_, _, _], [_, _], _, _ => ⟨_, rfl, rfl⟩)
  exact ⟨cl_Page A.d, _, fd, ds, ok, me_Page_piece A.d, b, v⟩

end
end G
namespace G
open PySem PySem.Spec L2
open PyProof.Rows hiding St
section
variable {P : Program} {w : World} {K : PySem.W.Frag} {mg : Str → Option Value} {base : Heap} {CT : Addr × Addr}
/-- what listening adds to a page before its step -/
structure LisOut (S : Pg) (c : Pc) (S1 : Pg) : Prop where
  me : S1.me = S.me
  num : S1.num = S.num
  hands : S1.hands = S.hands
  room : S1.room = S.room
  made : S1.made = S.made
  kv : S1.kv = S.kv
  tA : S1.tA = S.tA
  tt : S1.tt = S.tt
  aA : S1.aA = S.aA
  ta : S1.ta = S.ta
  pA : S1.pA = S.pA
  dH : S1.dH = S.dH
  past : S1.past = S.past
  hd : ∀ x ∈ S.hd, x ∈ S1.hd
  os : S1.os.length ≤ max S.os.length c.os.length
  up : ∀ g ∈ circ S.hands, ∀ k, cnt (rowR S.T g) k ≤ cnt (rowR S1.T g) k
  fr : ∀ g ∈ circ S.hands, ∀ k m, m ≤ cnt (rowR S1.T g) k → m ≤ cnt (rowR S.T g) k ∨ ∃ e ∈ c.LT, e.2.1 = g ∧ m ≤ cnt (LE.lc e) k
def spListen (K : PySem.W.Frag) (cs : List Int) (ms : List Nm) : Sp := fun vs H Q _ => ∃ p S t c, vs = [.ref p, .ref t] ∧ PageAt K cs ms H p S ∧ PcAt cs H t c ∧ (∀ x ∈ c.told, GC cs S.num ms x.2) ∧ cs.length ≤ 60 ∧ ms.length ≤ 1000 ∧ S.os.length ≤ 3000000 ∧ c.os.length ≤ 3000000 ∧ S.past.length ≤ 3000000 ∧
  ∀ q L row S1 S' H', H q = none → Kp [p, S.dH, S.tt, S.ta, S.pA] H H' → PageAt K cs ms H' p S' → LisOut S c S1 → (S1.hd.map (·.2.nm)).Nodup → S1.hd.length ≤ ms.length → (∀ x ∈ S1.hd, GC cs S1.num ms x.2) → StepOut cs S1 S' row L → Fr H S S' → H' q = some (.lst (refsT L)) → TkAt H' L → Q (.ref q) H'
theorem ok_Page_listen (A : All P w K mg base CT) {cs : List Int} {ms : List Nm}: MOk P w K mg base CX0 8 (He.ga K "Page") "listen" ["self", "piece"] [] (spListen K cs ms) := by
  obtain ⟨fd, F⟩ := fu_Page_listen A.d
  refine ⟨cl_Page A.d, _, fd, [], FunD.ok0 F sc_Page_listen (fun vs H Q E h => ?_) (fun cdv A0 outer s H vs Q E hr h => ?_), me_Page_listen A.d, F.bindsN fun _ _ _ _ _ _ us hl => match us, hl with | [_, _], _ => rfl, .nil⟩
  · obtain ⟨p, S, t, c, rfl, hp, hc, hgc, hcs, hms, hO, hO2, hP, k⟩ := h
    rfl
  · obtain ⟨p, S, t, c, rfl, hp, hc, hgc, hcs, hms, hO, hO2, hP, k⟩ := h
    have hu := hu_of hr
    refine ⟨_, pss_cons (ps_cut (ps_for PassesOwn.never rfl (pi_tup (pe_ix ix_tup (pv 1) pe_int (fun _ _ => rfl))) (pg_name (i := 2) sc_Page_listen.nd rfl (by first | exact Or.inl rfl | exact Or.inr rfl)) (pss_cons (ps_set (i := 3) sc_Page_listen.nd rfl (by first | exact Or.inl rfl | exact Or.inr rfl) ((ok_call_of A).pe hr pass0 (pa_cons (pv 2) pa_nil))) (pss_one (ps_if (pt_cmpR op_gt (cf_count A.d (pv 3)) ((ok_count_of A).pe hr pass0 (pa_cons (pe_Page_done A.d (pv 0)) (pa_cons (cf_caller A.d (pv 3)) pa_nil))) (nomark _)) (pss_one (ps_expr (pe_dsetdT hu (pe_Page_held A.d (pv 0)) (M3.pe0K (ok_call_name A) hr (pv 3)) (pv 3) ⟨rfl, rfl, rfl, rfl⟩))) pss_nil)))))
      (pss_cons (ps_cut (ps_if (pt_cmpR op_gt (pe_callB call_len_seq (by rfl) (fr_len A.kin A.ns A.d) (by decide +kernel) (pa_cons (pe_ix ix_tup (pv 1) pe_int (fun _ _ => rfl)) pa_nil)) (pe_callB call_len_seq (by rfl) (fr_len A.kin A.ns A.d) (by decide +kernel) (pa_cons (pe_Page_order A.d (pv 0)) pa_nil)) (nomark _)) (pss_one (ps_Page_order A.d (pv 0) (pe_callTy (call_list_of) (by rfl) (fr_list A.kin A.ns A.d) (by decide +kernel) (pa_cons (pe_ix ix_tup (pv 1) pe_int (fun _ _ => rfl)) pa_nil)))) pss_nil))
      (pss_cons (ps_expr ((ok_Known_merge A (cs := cs)).pe hr pass0 (pe_Page_tells A.d (pv 0)) (pa_cons (pe_ix ix_tup (pv 1) pe_int (fun _ _ => rfl)) pa_nil)))
      (pss_cons (ps_expr ((ok_Known_merge A (cs := cs)).pe hr pass0 (pe_Page_ables A.d (pv 0)) (pa_cons (pe_ix ix_tup (pv 1) pe_int (fun _ _ => rfl)) pa_nil)))
      (pss_one (ps_ret ((ok_Page_step A (cs := cs) (ms := ms)).pe0 hr pass0 (pv 0))))))), ?_⟩
    refine ⟨fun σ' H' => ∃ v2 v3 hd1, σ' = [some (.ref p), some (.ref t), v2, v3] ∧ Kp [S.dH] H H' ∧ PageAt K cs ms H' p { S with hd := hd1 } ∧ ∀ x ∈ S.hd, x ∈ hd1, ?_, ?_⟩
    · refine ⟨_, rfl, _, _, _, _, rfl, rfl, SqT.of hc.tup, rfl, c.C, rfl, ⟨_, SqT.of hc.C⟩, for_tup (K := K) (a := c.C) (xs := refsC c.told) (fun i σ' H' => ∃ v2 v3 hd1, σ' = [some (.ref p), some (.ref t), v2, v3] ∧ Kp [S.dH] H H' ∧ PageAt K cs ms H' p { S with hd := hd1 } ∧ ∀ x ∈ S.hd, x ∈ hd1) ⟨none, none, S.hd, rfl, Kp.refl, hp, fun _ h => h⟩ (fun i σ' H' _ ⟨_, _, _, _, kp, _⟩ => SqT.of (kp _ _ hc.C (notin1 (ne_of hc.C hp.hl (by intro z; cases z))))) ?_ ?_⟩
      · rintro i x σ1 H1 hx ⟨v2, v3, hd1, rfl, kp1, hp1, hsub⟩
        obtain ⟨y, ey, rfl⟩ := refsC_get hx
        have hy := List.mem_of_getElem? ey
        have ex1 : Ext H H1 := kp1.ext fun z hz o ho => by
          rw [List.mem_singleton.mp hz, hp.hl] at ho; cases ho; exact fun z => z
        have ht := (hc.told y hy).ext ex1
        have g := hgc y hy
        refine ⟨_, rfl, y.1, y.2, rfl, ht, g.w, fun a d H2 ha s2 hca hd => ?_⟩
        obtain ⟨g1, g2, g3, g4, g5, g6⟩ := hd
        have hp2 := hp1.same s2
        refine ⟨_, rfl, a, d, rfl, hca, _, rfl, p, S.dx, _, rfl, hp2.ins, _, rfl, a, d, rfl, hca, S.dD, S.kv, d.c, rfl, .inl hp2.dn, _, _, rfl, rfl, _, rfl, ite2 (fun _ => ?_) (fun _ => ?_)⟩
        · obtain ⟨⟨dxc, ec⟩, _⟩ := id hca
          refine ⟨_, rfl, p, S.dx, _, rfl, hp2.ins, S.dH, rfl, .inr ⟨_, .inl hp2.hl⟩, _, rfl, a, dxc, d.kd, _, _, _, _, _, rfl, ec, by kernel_rfl, a, d, rfl, hca, fun u H3 hu3 s3 h3 => ?_⟩
          have hp3 := hp2.same s3
          have hl1 : hd1.length ≤ ms.length := hp1.hlen
          refine ⟨_, rfl, encH hd1, nmK d.nm, u, hp3.hl, rfl, h3, by rw [encH_len]; exact small6 (by omega), fun v hv => ?_, fun hv => ?_⟩
          · exact ⟨_, _, hd1, rfl, (kp1.trans (Kp.of s2)).trans (Kp.of s3), hp3, hsub⟩
          · have hfr : d.nm ∉ hd1.map (·.2.nm) := fun z => by
              obtain ⟨x, hx, e⟩ := List.mem_map.mp z
              rw [valV_encH] at hv
              cases hfi : hd1.find? (fun x => decide (x.2.nm = d.nm)) with
              | some r => rw [hfi] at hv; cases hv
              | none => exact absurd (decide_eq_true e) (List.find?_eq_none.mp hfi x hx)
            rw [putK_new (encH_fresh hfr), show encH hd1 ++ [(nmK d.nm, V.ref a)] = encH (hd1 ++ [(a, d)]) from (encH_app hd1 (a, d)).symm]
            have hnm : d.nm = y.2.nm := by unfold Cd.nm; rw [g1, g2, g3]
            have hg : GC cs S.num ms d := ⟨by rw [g1]; exact g.n, by rw [hnm]; exact g.ms, by rw [g3]; exact g.k, by rw [g2]; exact g.c, by rw [g5]; exact g.w, Nat.le_trans g6 g.z⟩
            refine ⟨_, _, hd1 ++ [(a, d)], rfl, ((kp1.trans (Kp.of s2)).trans (Kp.of s3)).upd List.mem_cons_self, hp3.addH (y := (a, d)) (hca.same s3) hg hfr, fun x hx => List.mem_append_left _ (hsub x hx)⟩
        · exact ⟨_, _, hd1, rfl, kp1.trans (Kp.of s2), hp2, hsub⟩
      · rintro σ1 H1 ⟨v2, v3, hd1, h1, h2, h3, h4⟩
        exact ⟨v2, v3, hd1, h1, h2, h3, h4⟩
    rintro σ1 H1 ⟨v2, v3, hd1, rfl, kp1, hp1, hsub⟩
    have ex1 : Ext H H1 := kp1.ext fun z hz o ho => by
      rw [List.mem_singleton.mp hz, hp.hl] at ho; cases ho; exact fun z => z
    have hc1 := hc.ext ex1
    refine ⟨fun σ' H' => ∃ oA' os', σ' = [some (.ref p), some (.ref t), v2, v3] ∧ Kp [p, S.dH] H H' ∧ PageAt K cs ms H' p { S with hd := hd1, oA := oA', os := os' } ∧ os'.length ≤ max S.os.length c.os.length ∧ (oA' = S.oA ∨ H oA' = none), ?_, ?_⟩
    · refine ⟨_, rfl, _, _, _, _, rfl, rfl, SqT.of hc1.tup, rfl, c.O, _, rfl, .inr (SqT.of hc1.O), _, rfl, p, S.dx, _, rfl, hp1.ins, S.oA, _, rfl, .inl (SqL.of hp1.od), _, _, rfl, rfl, _, rfl, ite2 (fun _ => ?_) (fun _ => ?_)⟩
      · refine ⟨_, rfl, _, _, _, _, rfl, rfl, SqT.of hc1.tup, rfl, c.O, _, rfl, .inr (SqT.of hc1.O), fun l hl => ?_⟩
        have s2 : Same H1 (upd H1 l (.lst (refsO c.os))) := same_new hl
        have hp2 := hp1.same s2
        refine ⟨_, rfl, p, S.dx, _, rfl, hp2.ins, l, c.os, rfl, ((kp1.mono (by simp)).trans (Kp.of s2)).upd (by simp), ?_, Nat.le_max_right _ _, .inr (kp_free kp1 hl fun b hb => by rw [List.mem_singleton.mp hb]; exact ntn hp1.hl)⟩
        exact hp2.setO (o' := l) (os' := c.os) upd_same (hc1.ord.same s2) (ne_of_none hp1.ps hl).symm
      · exact ⟨S.oA, S.os, rfl, kp1.mono (by simp), hp1, Nat.le_max_left _ _, .inl rfl⟩
    rintro σ2 H2 ⟨oA', os', rfl, kp2, hp2, hos, hoA⟩
    have ex2 : Ext H H2 := kp2.ext fun z hz o ho => by
      rcases List.mem_cons.mp hz with zz | zz
      · rw [zz, hp.ins] at ho; cases ho; exact page_imm
      · rw [List.mem_singleton.mp zz, hp.hl] at ho; cases ho; exact fun z => z
    have hc2 := hc.ext ex2
    obtain ⟨⟨dxt, cit, odt, ht1, ht2⟩, ht3, _⟩ := id hp2.tl
    refine ⟨_, rfl, p, S.dx, _, rfl, hp2.ins, S.tA, dxt, _, rfl, ht1, by kernel_rfl, _, rfl, _, _, _, _, rfl, rfl, SqT.of hc2.tup, rfl, S.tA, S.tt, circ S.hands, S.T, c.tT, c.LT, rfl, hp2.tl, hc2.T, hcs, fun T' H3 kp3 hk3 hm1 hm2 => ?_⟩
    have hp3 := hp2.setT kp3 hk3
    have ex3 : Ext H2 H3 := kp3.ext fun z hz o ho => by
      rw [List.mem_singleton.mp hz] at ho
      rw [show H2 S.tt = _ from ht3] at ho; cases ho; exact fun z => z
    have hc3 := hc2.ext ex3
    obtain ⟨⟨dxa, cia, oda, ha1, ha2⟩, ha3, _⟩ := id hp3.ab
    refine ⟨_, rfl, p, S.dx, _, rfl, hp3.ins, S.aA, dxa, _, rfl, ha1, by kernel_rfl, _, rfl, _, _, _, _, rfl, rfl, SqT.of hc3.tup, rfl, S.aA, S.ta, circ S.hands, S.B, c.tB, c.LB, rfl, hp3.ab, hc3.B, hcs, fun B' H4 kp4 hk4 _ _ => ?_⟩
    have hp4 := hp3.setB kp4 hk4
    have kp04 : Kp [p, S.dH, S.tt, S.ta, S.pA] H H4 := (kp2.mono (by simp)).trans ((kp3.mono (by simp)).trans (kp4.mono (by simp)))
    obtain ⟨S1, hS1⟩ : ∃ S1 : Pg, ({ S with hd := hd1, oA := oA', os := os', T := T', B := B' } : Pg) = S1 := ⟨_, rfl⟩
    have hp4 : PageAt K cs ms H4 p S1 := hS1 ▸ hp4
    have lo : LisOut S c S1 := by
      subst hS1
      exact ⟨rfl, rfl, rfl, rfl, rfl, rfl, rfl, rfl, rfl, rfl, rfl, rfl, rfl, hsub, hos, hm1, hm2⟩
    have hmx := lo.os
    refine ⟨_, rfl, p, S1.dx, _, rfl, hp4.ins, by kernel_rfl, p, S1, rfl, hp4, hcs, hms, by omega, by rw [lo.past]; omega, fun q L row S' H' hq kp' hp' so fr hq' hL' => ?_⟩
    rw [lo.tt, lo.ta, lo.pA] at kp'
    have frb : ∀ {b : Addr}, H4 b = none → H b = none := fun {b} hb => kp_free kp04 hb fun z hz => by
      rcases List.mem_cons.mp hz with zz | hb
      · rw [zz]; exact ntn hp4.ins
      · rcases List.mem_cons.mp hb with zz | hb
        · rw [zz, ← lo.dH]; exact ntn hp4.hl
        · rcases List.mem_cons.mp hb with zz | hb
          · rw [zz, ← lo.tt]; exact ntn hp4.tl.2.1
          · rcases List.mem_cons.mp hb with zz | hb
            · rw [zz, ← lo.ta]; exact ntn hp4.ab.2.1
            · rw [List.mem_singleton.mp hb, ← lo.pA]; exact ntn hp4.ps
    refine k q L row S1 S' H' (frb hq) (kp04.trans (kp'.mono (by simp))) hp' lo hp4.nd hp4.hlen hp4.gc so ⟨?_, ?_, ?_⟩ hq' hL'
    · rw [show S.dD = S1.dD by rw [← hS1]]; exact fr.dD.imp id frb
    · rw [← lo.dH]; exact fr.dH.imp id frb
    · rcases fr.oA with e | e
      · rcases hoA with e2 | e2
        · exact .inl (by rw [e, ← hS1]; exact e2)
        · exact .inr (by rw [e, ← hS1]; exact e2)
      · exact .inr (frb e)

end
end G
namespace G
open PySem PySem.Spec L2
open PyProof.Rows hiding St
section
variable {P : Program} {w : World} {K : PySem.W.Frag} {mg : Str → Option Value} {base : Heap} {CT : Addr × Addr}
/-! ### finish, rows, kept, the making of a page -/
structure FinOut (cs : List Int) (S S' : Pg) (rw : CL) (L : TkL) : Prop where
  eq : S' = { S with kv := S'.kv, past := S.past ++ TkL.told L }
  cd : ∀ e ∈ L, ∃ x ∈ rw, e.2.2.2 = x.2
  len : L.length ≤ rw.length
def spFinish (K : PySem.W.Frag) (cs : List Int) (ms : List Nm) : Sp := fun vs H Q _ => ∃ p S r rw, vs = [.ref p, .ref r] ∧ PageAt K cs ms H p S ∧ H r = some (.tup (refsC rw)) ∧ (∀ x ∈ rw, ToldAt H x.1 x.2) ∧ (∀ x ∈ rw, 1 ≤ x.2.k ∧ x.2.c ∈ cs) ∧ rw.length ≤ 1000 ∧ cs.length ≤ 60 ∧ S.past.length ≤ 3000000 ∧
  ∀ q L S' H', H q = none → Kp [S.dD, S.pA] H H' → PageAt K cs ms H' p S' → FinOut cs S S' rw L → H' q = some (.lst (refsT L)) → TkAt H' L → Q (.ref q) H'
theorem PageAt.setK {K : PySem.W.Frag} {cs : List Int} {ms : List Nm} {H : Hp} {p : Addr} {S : Pg} {kv' : Cn} (h : PageAt K cs ms H p S) (hc : Cnt cs kv') : PageAt K cs ms (upd H S.dD (.dK (encC kv'))) p { S with kv := kv' } := by
  have s := h.sep
  have kp : Kp [S.dD] H (upd H S.dD (.dK (encC kv'))) := Kp.upd Kp.refl List.mem_cons_self
  have x : Ext H (upd H S.dD (.dK (encC kv'))) := kp.ext fun z hz o ho => by
    rw [List.mem_singleton.mp hz, h.dn] at ho; cases ho; exact fun z => z
  have m : ∀ b o, b ≠ S.dD → H b = some o → upd H S.dD (.dK (encC kv')) b = some o := fun b o n e => kp b o e (notin1 n)
  exact ⟨m _ _ s.pD.symm h.ins, upd_same, hc, m _ _ s.DH.symm h.hl, fun y hy => (h.hc y hy).ext x, h.gc, h.nd, m _ _ s.DO.symm h.od, h.ord.ext x, h.tl.keep (fun o => m _ _ s.DT.symm) (fun o => m _ _ s.Dt.symm) x, h.ab.keep (fun o => m _ _ s.DB.symm) (fun o => m _ _ s.Db.symm) x, m _ _ s.DP.symm h.ps, fun y hy => (h.pst y hy).ext x, h.n1, h.n2, h.n3, h.n4⟩
theorem PageAt.wr {K : PySem.W.Frag} {cs : List Int} {ms : List Nm} {H : Hp} {p W : Addr} {S : Pg} {xs ys : List V} (h : PageAt K cs ms H p S) (hW : H W = some (.lst xs)) (n1 : S.oA ≠ W) (n2 : S.pA ≠ W) : PageAt K cs ms (upd H W (.lst ys)) p S := by
  have x : Ext H (upd H W (.lst ys)) := Kp.ext (F := [W]) (Kp.upd Kp.refl List.mem_cons_self) fun z hz o ho => by
    rw [List.mem_singleton.mp hz, hW] at ho; cases ho; exact fun z => z
  have m : ∀ b o, b ≠ W → H b = some o → upd H W (.lst ys) b = some o := fun b o n e => by rw [upd_ne n]; exact e
  obtain ⟨⟨dxt, cit, odt, ht1, ht2⟩, ht3, _⟩ := id h.tl
  obtain ⟨⟨dxa, cia, oda, ha1, ha2⟩, ha3, _⟩ := id h.ab
  exact ⟨m _ _ (ne_of h.ins hW (by intro z; cases z)) h.ins, m _ _ (ne_of h.dn hW (by intro z; cases z)) h.dn, h.cn, m _ _ (ne_of h.hl hW (by intro z; cases z)) h.hl, fun y hy => (h.hc y hy).ext x, h.gc, h.nd, m _ _ n1 h.od, h.ord.ext x, h.tl.keep (fun o => m _ _ (ne_of ht1 hW (by intro z; cases z))) (fun o => m _ _ (ne_of ht3 hW (by intro z; cases z))) x, h.ab.keep (fun o => m _ _ (ne_of ha1 hW (by intro z; cases z))) (fun o => m _ _ (ne_of ha3 hW (by intro z; cases z))) x, m _ _ n2 h.ps, fun y hy => (h.pst y hy).ext x, h.n1, h.n2, h.n3, h.n4⟩
theorem ok_Page_finish (A : All P w K mg base CT) {cs : List Int} {ms : List Nm}: MOk P w K mg base CX0 3 (He.ga K "Page") "finish" ["self", "row"] [] (spFinish K cs ms) := by
  obtain ⟨fd, F⟩ := fu_Page_finish A.d
  refine ⟨cl_Page A.d, _, fd, [], FunD.ok0 F sc_Page_finish (fun vs H Q E h => ?_) (fun cdv A0 outer s H vs Q E hr h => ?_), me_Page_finish A.d, F.bindsN fun _ _ _ _ _ _ us hl => match us, hl with | [_, _], _ => rfl, .nil⟩
  · obtain ⟨p, S, r, rw_, rfl, hp, hr0, hrt, hrc, hrl, hcs, hP, k⟩ := h
    rfl
  · obtain ⟨p, S, r, rw_, rfl, hp, hr0, hrt, hrc, hrl, hcs, hP, k⟩ := h
    have hu := hu_of hr
    refine ⟨_, pss_cons (ps_set (i := 2) sc_Page_finish.nd rfl (by first | exact Or.inl rfl | exact Or.inr rfl) (pe_lst pa_nil))
      (pss_cons (ps_for PassesOwn.never rfl (pi_tup (pv 1)) (pg_name (i := 3) sc_Page_finish.nd rfl (by first | exact Or.inl rfl | exact Or.inr rfl)) (pss_one (ps_if (pt_cmpR op_gt (pe_ix ix_tup (pv 3) pe_int (fun _ _ => rfl)) ((ok_count_of A).pe hr pass0 (pa_cons (pe_Page_done A.d (pv 0)) (pa_cons (pe_ix ix_tup (pv 3) pe_int (fun _ _ => rfl)) pa_nil))) (nomark _)) (pss_cons (ps_dput hu (pe_Page_done A.d (pv 0)) (pe_ix ix_tup (pv 3) pe_int (fun _ _ => rfl)) (pe_ix ix_tup (pv 3) pe_int (fun _ _ => rfl)) rfl) (pss_one (ps_expr (pe_bm PySem.F.plainAttrs_list PySem.F.slot_list_append PySem.F.type_list_append mt_append (pv 2) (pa_cons ((ok_Page_take A).pe hr pass0 (pv 0) (pa_cons (pv 3) (pa_cons pe_str pa_nil))) pa_nil))))) pss_nil)))
      (pss_one (ps_ret (pv 2)))), ?_⟩
    refine ⟨Nat.zero_le _, fun W hW => ?_⟩
    have s0 : Same H (upd H W (.lst [])) := same_new hW
    have sp := hp.sep
    have nPW : S.pA ≠ W := ne_of_none hp.ps hW
    have nDW : S.dD ≠ W := ne_of_none hp.dn hW
    have nrD : r ≠ S.dD := ne_of hr0 hp.dn (by intro z; cases z)
    have nrP : r ≠ S.pA := ne_of hr0 hp.ps (by intro z; cases z)
    have nr2 : r ∉ [S.dD, S.pA] := fun z => by
      rcases List.mem_cons.mp z with z | z
      · exact nrD z
      · exact nrP (List.mem_singleton.mp z)
    refine ⟨_, rfl, r, rfl, ⟨_, SqT.of (s0 _ _ hr0)⟩, for_tup (K := K) (a := r) (xs := refsC rw_) (fun i σ' H' => ∃ v3 L kv', σ' = [some (.ref p), some (.ref r), some (.ref W), v3] ∧ Kp [S.dD, S.pA] H H' ∧ PageAt K cs ms H' p { S with kv := kv', past := S.past ++ TkL.told L } ∧ H' W = some (.lst (refsT L)) ∧ TkAt H' L ∧ (∀ e ∈ L, ∃ x ∈ rw_, e.2.2.2 = x.2) ∧ L.length ≤ i) ⟨none, [], S.kv, rfl, Kp.of s0, ?_, upd_same, fun _ h => (nomatch h), fun _ h => (nomatch h), Nat.le_refl _⟩ (fun i σ' H' _ ⟨_, _, _, _, kp, _⟩ => SqT.of (kp _ _ hr0 nr2)) ?_ ?_⟩
    · have e : S.past ++ TkL.told [] = S.past := List.append_nil _
      rw [e]
      exact hp.same s0
    · rintro i x σ1 H1 hx ⟨v3, L, kv', rfl, kp1, hp1, hW1, hL1, hcd, hLi⟩
      obtain ⟨y, ey, rfl⟩ := refsC_get hx
      have hy := List.mem_of_getElem? ey
      have hi := (List.getElem?_eq_some_iff.mp ey).1
      have ex1 : Ext H H1 := kp1.ext fun z hz o ho => by
        rcases List.mem_cons.mp hz with zz | zz
        · rw [zz, hp.dn] at ho; cases ho; exact fun z => z
        · rw [List.mem_singleton.mp zz, hp.ps] at ho; cases ho; exact fun z => z
      have ht := (hrt y hy).ext ex1
      obtain ⟨hk1, hcc⟩ := hrc y hy
      refine ⟨_, rfl, _, _, _, _, rfl, rfl, SqT.of ht.1, rfl, _, rfl, p, S.dx, _, rfl, hp1.ins, _, rfl, _, _, _, _, rfl, rfl, SqT.of ht.1, rfl, S.dD, kv', y.2.c, rfl, .inl hp1.dn, _, _, rfl, rfl, _, rfl, ite2 (fun _ => ?_) (fun _ => ?_)⟩
      · refine ⟨_, rfl, _, _, _, _, rfl, rfl, SqT.of ht.1, rfl, _, rfl, p, S.dx, _, rfl, hp1.ins, _, rfl, _, _, _, _, rfl, rfl, SqT.of ht.1, rfl, S.dD, _, rfl, DPut.k (k := Sum.inl y.2.c) hp1.dn (cs_small hp1.cn (by omega)), ?_⟩
        rw [putK_enc]
        have hp2 := hp1.setK (kv' := putC kv' y.2.c y.2.k) (hp1.cn.put hcc hk1)
        have hW2 : upd H1 S.dD (.dK (encC (putC kv' y.2.c y.2.k))) W = some (.lst (refsT L)) := by rw [upd_ne nDW.symm]; exact hW1
        have ex2 : Ext H1 (upd H1 S.dD (.dK (encC (putC kv' y.2.c y.2.k)))) := Kp.ext (F := [S.dD]) (Kp.upd Kp.refl List.mem_cons_self) fun z hz o ho => by
          rw [List.mem_singleton.mp hz] at ho
          rw [show H1 S.dD = _ from hp1.dn] at ho; cases ho; exact fun z => z
        have kp2 : Kp [S.dD, S.pA] H (upd H1 S.dD (.dK (encC (putC kv' y.2.c y.2.k)))) := kp1.upd (by simp)
        refine ⟨_, rfl, .inl ⟨rfl, _, .inl (.inl hW2)⟩, _, rfl, p, S.dx, _, rfl, hp2.ins, by kernel_rfl, _, rfl, p, S.dx, Pg.rc { S with kv := putC kv' y.2.c y.2.k, past := S.past ++ TkL.told L }, S.pA, S.past ++ TkL.told L, y.1, _, rfl, hp2.ins, hp2.ps, ?_, fun q hq => ?_⟩
        · rw [List.length_append]
          have : (TkL.told L).length = L.length := List.length_map _
          omega
        obtain ⟨g1, g2, g3, g4, g5⟩ := tk_step (d := y.2) "cut" (by simp) kp2 hW hp2.ps hW2 (hL1.ext ex2) (ht.ext ex2) nPW hq
        refine ⟨W, refsT L, _, rfl, rfl, g1, ?_, some (.ref y.1), L ++ [(q, y.1, ("cut" : Str), y.2)], putC kv' y.2.c y.2.k, rfl, g2, ?_, g4, g5, fun e he => ?_, ?_⟩
        · unfold refsT
          rw [List.length_map]
          exact small6 (by omega)
        · have hpA : PageAt K cs ms (upd (upd H1 S.dD (.dK (encC (putC kv' y.2.c y.2.k)))) S.pA (.lst (refsC (S.past ++ TkL.told L) ++ [.ref y.1]))) p { S with kv := putC kv' y.2.c y.2.k, past := (S.past ++ TkL.told L) ++ [y] } :=
            hp2.setPast (Kp.upd Kp.refl List.mem_cons_self) (by rw [refsC_app]; exact upd_same) fun x hx => by
              have exA : Ext (upd H1 S.dD (.dK (encC (putC kv' y.2.c y.2.k)))) (upd (upd H1 S.dD (.dK (encC (putC kv' y.2.c y.2.k)))) S.pA (.lst (refsC (S.past ++ TkL.told L) ++ [.ref y.1]))) := Kp.ext (F := [S.pA]) (Kp.upd Kp.refl List.mem_cons_self) fun z hz o ho => by
                rw [List.mem_singleton.mp hz] at ho
                rw [show upd H1 S.dD (.dK (encC (putC kv' y.2.c y.2.k))) S.pA = _ from hp2.ps] at ho; cases ho; exact fun z => z
              rcases List.mem_append.mp hx with hx | hx
              · exact (hp2.pst x hx).ext exA
              · rw [List.mem_singleton.mp hx]; exact (ht.ext ex2).ext exA
          have hpB := hpA.same (same_new (o := .tup [.ref y.1, .str "cut"]) hq)
          have hpC := hpB.wr (ys := refsT L ++ [.ref q]) g1 (ne_of_none hp.od hW) nPW
          rw [told_app, ← List.append_assoc]
          exact hpC
        · rcases List.mem_append.mp he with he | he
          · exact hcd e he
          · rw [List.mem_singleton.mp he]; exact ⟨y, hy, rfl⟩
        · rw [List.length_append]; exact Nat.add_le_add_right hLi 1
      · exact ⟨_, L, kv', rfl, kp1, hp1, hW1, hL1, hcd, Nat.le_succ_of_le hLi⟩
    · rintro σ1 H1 ⟨v3, L, kv', rfl, kp1, hp1, hW1, hL1, hcd, hLi⟩
      rw [refsC_len] at hLi
      exact ⟨_, rfl, k W L _ H1 hW kp1 hp1 ⟨rfl, hcd, hLi⟩ hW1 hL1⟩

end
end G
namespace G
open PySem PySem.Spec L2
open PyProof.Rows hiding St
section
variable {P : Program} {w : World} {K : PySem.W.Frag} {mg : Str → Option Value} {base : Heap} {CT : Addr × Addr}
def RowV (d : Cd) : List V := [.int d.n, .int d.c, .int d.k, .str (kdS d.kd), .int d.w]
def RowsAt (H : Hp) (l : CL) : Prop := ∀ x ∈ l, H x.1 = some (.tup (RowV x.2))
theorem RowsAt.ext {H H1 : Hp} {l : CL} (h : RowsAt H l) (x : Ext H H1) : RowsAt H1 l := fun y hy => x _ _ (h y hy) trivial
theorem cut_told (d : Cd) : cutV (ToldV d) none (some 5) = RowV d := rfl
theorem filter_split {α : Type} (f : α → Bool) : ∀ l : List α, (l.filter f).length + (l.filter fun x => !f x).length = l.length
  | [] => rfl
  | x :: r => by
    have ih := filter_split f r
    rw [List.filter_cons, List.filter_cons, List.length_cons]
    cases f x with
    | true => rw [if_pos rfl, if_neg (by decide), List.length_cons]; omega
    | false => rw [if_neg (by decide), if_pos (show (!false) = true from rfl), List.length_cons]; omega
theorem filter_take_succ {α : Type} (f : α → Bool) {l : List α} {i : Nat} {x : α} (h : l[i]? = some x) : (l.take (i + 1)).filter f = (l.take i).filter f ++ (if f x = true then [x] else []) := by
  rw [List.take_add_one, h]
  show List.filter _ (_ ++ [x]) = _
  rw [List.filter_append, List.filter_cons, List.filter_nil]
def spRows (K : PySem.W.Frag) (cs : List Int) (ms : List Nm) : Sp := fun vs H Q _ => ∃ p S, vs = [.ref p] ∧ PageAt K cs ms H p S ∧ S.past.length ≤ 4000000 ∧
  ∀ q rs H', H q = none → Same H H' → H' q = some (.lst (refsC rs)) → RowsAt H' rs → rs.length = S.past.length → Q (.ref q) H'
theorem ok_Page_rows (A : All P w K mg base CT) {cs : List Int} {ms : List Nm}: MOk P w K mg base CX0 5 (He.ga K "Page") "rows" ["self"] [] (spRows K cs ms) := by
  obtain ⟨fd, F⟩ := fu_Page_rows A.d
  refine ⟨cl_Page A.d, _, fd, [], FunD.ok0 F sc_Page_rows (fun vs H Q E h => ?_) (fun cdv A0 outer s H vs Q E hr h => ?_), me_Page_rows A.d, F.bindsN fun _ _ _ _ _ _ us hl => match us, hl with | [_], _ => rfl, .nil⟩
  · obtain ⟨p, S, rfl, hp, hN, k⟩ := h
    rfl
  · obtain ⟨p, S, rfl, hp, hN, k⟩ := h
    have hu := hu_of hr
    refine ⟨_, pss_cons (ps_setLc (i := 1) (own := [("told", 3)]) (g := gName 3) rfl sc_Page_rows.nd rfl rfl (sw_true rfl rfl rfl (by decide +kernel)) (pi_list (pe_Page_past A.d (pv 0))) (blkOk_by (N := ["self", "ones", "others", "told"]) (sc := defScope s_Page_rows) (by decide +kernel)) (fun _ _ _ _ _ => pg_name (i := 3) sc_Page_rows.nd rfl (Or.inl rfl)) (fun _ _ _ _ _ => (pts_one (pt_cmpR op_eq (pe_ix (ix_tupK (K := K)) (pv 3) pe_int (fun _ _ => rfl)) pe_str (nomark _)))) (fun _ _ _ _ _ => (pe_slice (sl_tupK (K := K)) (pv 3) po_none (po_some pe_int))))
      (pss_cons (ps_setLc (i := 2) (own := [("told", 3)]) (g := gName 3) rfl sc_Page_rows.nd rfl rfl (sw_true rfl rfl rfl (by decide +kernel)) (pi_list (pe_Page_past A.d (pv 0))) (blkOk_by (N := ["self", "ones", "others", "told"]) (sc := defScope s_Page_rows) (by decide +kernel)) (fun _ _ _ _ _ => pg_name (i := 3) sc_Page_rows.nd rfl (Or.inl rfl)) (fun _ _ _ _ _ => (pts_one (pt_cmpR op_ne (pe_ix (ix_tupK (K := K)) (pv 3) pe_int (fun _ _ => rfl)) pe_str (nomark _)))) (fun _ _ _ _ _ => (pe_slice (sl_tupK (K := K)) (pv 3) po_none (po_some pe_int))))
      (pss_one (ps_ret (pe_op op_catL (pv 1) (pe_callBK (cr_sortKey (f := He.ga K "by_row") hr (by decide)) (by rfl) (fr_sorted A.kin A.ns A.d) (by decide +kernel) (pa_cons (pv 2) pa_nil) (pk_cons (pe_glob (v := .ref (He.ga K "by_row")) (by rfl) (gl_by_row A.kin A.ns A.d) rfl) pk_nil)))))), ?_⟩
    refine ⟨_, rfl, p, S.dx, _, rfl, hp.ins, S.pA, rfl, ⟨_, SqL.of hp.ps⟩, fun D hD => lc_list (K := K) (a := S.pA) (xs := refsC S.past) (fun i H2 => Same H H2 ∧ ∃ l : CL, H2 D = some (.lst (refsC l)) ∧ RowsAt H2 l ∧ l.length = ((S.past.take i).filter fun x => isOne x.2.kd).length) ⟨same_new hD, [], upd_same, fun _ h => (nomatch h), rfl⟩ (fun i H2 _ ⟨s2, _⟩ => SqL.of (s2 _ _ hp.ps)) ?_ ?_⟩
    · rintro i x H2 hx ⟨s2, l, hl, hl2, hl3⟩
      obtain ⟨y, ey, rfl⟩ := refsC_get hx
      have hi := (List.getElem?_eq_some_iff.mp ey).1
      have ht := (hp.pst y (List.mem_of_getElem? ey)).same s2
      have eo : decide (V.str (kdS y.2.kd) = V.str "one") = isOne y.2.kd := by cases y.2.kd <;> decide +kernel
      refine ⟨rfl, _, rfl, _, _, _, _, rfl, rfl, SqT.of ht.1, rfl, rfl, _, rfl, ?_⟩
      rw [eo]
      have ft := filter_take_succ (fun x : Addr × Cd => isOne x.2.kd) ey
      cases hone : isOne y.2.kd with
      | true =>
        refine iteT ⟨_, rfl, _, rfl, y.1, _, rfl, SqT.of ht.1, fun z => absurd z.2 (by show ¬ (5 = 6); decide), fun t ht5 => ?_⟩
        have s3 : Same H2 (upd H2 t (.tup (cutV (ToldV y.2) none (some 5)))) := same_new ht5
        have exD : Ext (upd H2 t (.tup (cutV (ToldV y.2) none (some 5)))) (upd (upd H2 t (.tup (cutV (ToldV y.2) none (some 5)))) D (.lst (refsC l ++ [.ref t]))) := Kp.ext (F := [D]) (Kp.upd Kp.refl List.mem_cons_self) fun z hz o ho => by
          rw [List.mem_singleton.mp hz, s3 _ _ hl] at ho; cases ho; exact fun z => z
        have hle := List.length_filter_le (fun x : Addr × Cd => isOne x.2.kd) (S.past.take i)
        rw [List.length_take] at hle
        refine ⟨_, s3 _ _ hl, by rw [refsC_len, sizeLine_eq]; omega, same_set (s2.trans s3) hD, l ++ [(t, y.2)], by rw [upd_same, refsC_app], fun z hz => ?_, ?_⟩
        · rcases List.mem_append.mp hz with hz | hz
          · exact exD _ _ (s3 _ _ (hl2 z hz)) trivial
          · rw [List.mem_singleton.mp hz]
            exact exD _ _ (by rw [upd_same, cut_told]) trivial
        · rw [ft, hone, List.length_append, hl3, if_pos rfl, List.length_append]
          rfl
      | false =>
        refine iteF ⟨s2, l, hl, hl2, ?_⟩
        rw [ft, hone, hl3, if_neg (by decide), List.append_nil]
    rintro H1 ⟨s1, l1, hD1, hR1, hn1⟩
    have hp1 := hp.same s1
    rw [refsC_len, List.take_length] at hn1
    refine ⟨_, rfl, p, S.dx, _, rfl, hp1.ins, S.pA, rfl, ⟨_, SqL.of hp1.ps⟩, fun D2 hD2 => lc_list (K := K) (a := S.pA) (xs := refsC S.past) (fun i H2 => Same H1 H2 ∧ ∃ l : CL, H2 D2 = some (.lst (refsC l)) ∧ RowsAt H2 l ∧ l.length = ((S.past.take i).filter fun x => !isOne x.2.kd).length) ⟨same_new hD2, [], upd_same, fun _ h => (nomatch h), rfl⟩ (fun i H2 _ ⟨s2, _⟩ => SqL.of (s2 _ _ hp1.ps)) ?_ ?_⟩
    · rintro i x H2 hx ⟨s2, l, hl, hl2, hl3⟩
      obtain ⟨y, ey, rfl⟩ := refsC_get hx
      have hi := (List.getElem?_eq_some_iff.mp ey).1
      have ht := (hp1.pst y (List.mem_of_getElem? ey)).same s2
      have eo : (!decide (V.str (kdS y.2.kd) = V.str "one")) = !isOne y.2.kd := by cases y.2.kd <;> decide +kernel
      refine ⟨rfl, _, rfl, _, _, _, _, rfl, rfl, SqT.of ht.1, rfl, rfl, _, rfl, ?_⟩
      rw [eo]
      have ft := filter_take_succ (fun x : Addr × Cd => !isOne x.2.kd) ey
      cases hone : isOne y.2.kd with
      | false =>
        refine iteT ⟨_, rfl, _, rfl, y.1, _, rfl, SqT.of ht.1, fun z => absurd z.2 (by show ¬ (5 = 6); decide), fun t ht5 => ?_⟩
        have s3 : Same H2 (upd H2 t (.tup (cutV (ToldV y.2) none (some 5)))) := same_new ht5
        have exD : Ext (upd H2 t (.tup (cutV (ToldV y.2) none (some 5)))) (upd (upd H2 t (.tup (cutV (ToldV y.2) none (some 5)))) D2 (.lst (refsC l ++ [.ref t]))) := Kp.ext (F := [D2]) (Kp.upd Kp.refl List.mem_cons_self) fun z hz o ho => by
          rw [List.mem_singleton.mp hz, s3 _ _ hl] at ho; cases ho; exact fun z => z
        have hle := List.length_filter_le (fun x : Addr × Cd => !isOne x.2.kd) (S.past.take i)
        rw [List.length_take] at hle
        refine ⟨_, s3 _ _ hl, by rw [refsC_len, sizeLine_eq]; omega, same_set (s2.trans s3) hD2, l ++ [(t, y.2)], by rw [upd_same, refsC_app], fun z hz => ?_, ?_⟩
        · rcases List.mem_append.mp hz with hz | hz
          · exact exD _ _ (s3 _ _ (hl2 z hz)) trivial
          · rw [List.mem_singleton.mp hz]
            exact exD _ _ (by rw [upd_same, cut_told]) trivial
        · rw [ft, hone, List.length_append, hl3, if_pos (show (!false) = true from rfl), List.length_append]
          rfl
      | true =>
        refine iteF ⟨s2, l, hl, hl2, ?_⟩
        rw [ft, hone, hl3, if_neg (by decide), List.append_nil]
    rintro H2 ⟨s2, l2, hD22, hR2, hn2⟩
    rw [refsC_len, List.take_length] at hn2
    have hsp := filter_split (fun x : Addr × Cd => isOne x.2.kd) S.past
    refine ⟨_, rfl, _, rfl, D2, refsC l2, rowKey H2, rfl, rfl, SqL.of hD22, fun x hx => ?_, fun ys q hys hq => ?_⟩
    · obtain ⟨y, hy, ey⟩ := List.mem_map.mp hx
      rw [← ey]
      exact by_row_key A (hR2 y hy)
    obtain ⟨rk, hrk, rfl⟩ := perm_map (f := fun p : Addr × Cd => V.ref p.1) hys l2 rfl
    have s3 : Same H2 (upd H2 q (.lst (refsC rk))) := same_new hq
    have hrl := hrk.length_eq
    refine ⟨D, q, refsC l1, refsC rk, rfl, rfl, s3 _ _ (s2 _ _ hD1), upd_same, by rw [refsC_len, refsC_len, sizeLine_eq]; omega, fun u hu2 => ?_⟩
    have s4 : Same (upd H2 q (.lst (refsC rk))) (upd (upd H2 q (.lst (refsC rk))) u (.lst (refsC l1 ++ refsC rk))) := same_new hu2
    have s14 := s1.trans (s2.trans (s3.trans s4))
    refine k u (l1 ++ rk) _ ((s1.trans (s2.trans s3)).free hu2) s14 (by rw [upd_same, refsC_app2]) (fun x hx => ?_) (by rw [List.length_append]; omega)
    rcases List.mem_append.mp hx with hx | hx
    · exact s4 _ _ (s3 _ _ (s2 _ _ (hR1 x hx)))
    · exact s4 _ _ (s3 _ _ (hR2 x (hrk.mem_iff.mp hx)))
def spKept (K : PySem.W.Frag) (cs : List Int) (ms : List Nm) : Sp := fun vs H Q _ => ∃ p S, vs = [.ref p] ∧ PageAt K cs ms H p S ∧ ∀ q l H', H q = none → Same H H' → H' q = some (.lst (refsN l)) → NmAt H' l → l.map (·.2) = nmSort id (S.hd.map (·.2.nm)) → Q (.ref q) H'
theorem ok_Page_kept (A : All P w K mg base CT) {cs : List Int} {ms : List Nm}: MOk P w K mg base CX0 1 (He.ga K "Page") "kept" ["self"] [] (spKept K cs ms) := by
  obtain ⟨fd, F⟩ := fu_Page_kept A.d
  refine ⟨cl_Page A.d, _, fd, [], FunD.ok0 F sc_Page_kept (fun vs H Q E h => ?_) (fun cdv A0 outer s H vs Q E hr h => ?_), me_Page_kept A.d, F.bindsN fun _ _ _ _ _ _ us hl => match us, hl with | [_], _ => rfl, .nil⟩
  · obtain ⟨p, S, rfl, hp, k⟩ := h
    rfl
  · obtain ⟨p, S, rfl, hp, k⟩ := h
    have hu := hu_of hr
    refine ⟨_, pss_one (ps_ret (pe_callB (cr_sortKeys hr rfl) (by rfl) (fr_sorted A.kin A.ns A.d) (by decide +kernel) (pa_cons (pe_Page_held A.d (pv 0)) pa_nil))), ?_⟩
    refine ⟨_, rfl, p, S.dx, _, rfl, hp.ins, S.dH, encH S.hd, S.hd.map (·.2.nm), rfl, .inl hp.hl, encH_keys S.hd, fun l q hq hn hl => ?_⟩
    have s1 : Same H (upd H q (.lst (refsN l))) := same_new hq
    exact k q l _ hq s1 upd_same (fun x hx => s1 _ _ (hn x hx)) hl
def spPageInit (K : PySem.W.Frag) (cs : List Int) (ms : List Nm) : Sp := fun vs H Q _ => ∃ p dx me num hands room, vs = [.ref p, .int me, .int num, .int hands, .int room] ∧ H p = some (.ins (He.ga K "Page") dx []) ∧
  ∀ S H', Kp [p] H H' → PageAt K cs ms H' p S → (∀ b ∈ S.foot p, b = p ∨ H b = none) → S.me = me → S.num = num → S.hands = hands → S.room = room → S.made = 0 → S.kv = [] → S.hd = [] → S.os = [] → S.T = [] → S.past = [] → Q .non H'
theorem PageR_fs {a b c d e f g h i j k : V} : putF "past" k (putF "made" j (putF "ables" i (putF "tells" h (putF "order" g (putF "held" f (putF "done" e (putF "room" d (putF "hands" c (putF "number" b (putF "me" a [])))))))))) = PageR.fs ⟨a, b, c, d, e, f, g, h, i, j, k⟩ := by kernel_rfl
theorem put_len (f : Str) (v : V) (fs : List (Str × V)) {m : Nat} (h : fs.length ≤ m) : (putF f v fs).length ≤ m + 1 := by
  have := length_putF f v fs
  omega
theorem KnAt.keep0 {K : PySem.W.Frag} {cs hs : List Int} {H H1 : Hp} {p t q : Addr} {C dx : Addr} {fs : List (Str × V)} (h : KnAt K cs H p t hs []) (kp : ∀ b o, b ≠ q → H b = some o → H1 b = some o) (np : p ≠ q) (hq : H q = some (.ins C dx fs)) : KnAt K cs H1 p t hs [] := by
  obtain ⟨⟨dx, ci, od, h1, h2⟩, h3, h4, h5, h6⟩ := h
  exact ⟨⟨dx, ci, od, kp _ _ np h1, kp _ _ (ne_of h2 hq (by intro z; cases z)) h2⟩, kp _ _ (ne_of h3 hq (by intro z; cases z)) h3, fun _ h => (nomatch h), h5, h6⟩
theorem mk_ok_Page (A : All P w K mg base CT) {cs : List Int} {ms : List Nm}: KOk P w K mg base CX0 5 "Page" (He.ga K "Page") ["self", "me", "number", "hands", "room"] [] (spPageInit K cs ms) := by
  obtain ⟨fd, F⟩ := fu_Page_init A.d
  refine ⟨_, fd, [], FunD.ok0 F sc_Page_init (fun vs H Q E h => ?_) (fun cdv A0 outer s H vs Q E hr h => ?_), mk_Page A.d, gl_Page A.kin A.ns A.d, F.bindsN fun _ _ _ _ _ _ us hl => match us, hl with | [_, _, _, _, _], _ => rfl, .nil⟩
  · obtain ⟨p, dx, me, num, hands, room, rfl, hp, k⟩ := h
    rfl
  · obtain ⟨p, dx, me, num, hands, room, rfl, hp, k⟩ := h
    have hu := hu_of hr
    refine ⟨_, pss_cons (ps_fld (pv 0) (pv 1) rfl)
      (pss_cons (ps_fld (pv 0) (pv 2) rfl)
      (pss_cons (ps_fld (pv 0) (pv 3) rfl)
      (pss_cons (ps_cut (ps_fld (pv 0) (pv 4) rfl))
      (pss_cons (ps_cut (ps_fld (pv 0) pe_dnewK rfl))
      (pss_cons (ps_cut (ps_fld (pv 0) pe_dnewT rfl))
      (pss_cons (ps_cut (ps_fld (pv 0) (pe_lst pa_nil) rfl))
      (pss_cons (ps_cut (ps_fld (pv 0) ((mk_ok_Known A (cs := cs)).pe hr pass0 (pa_cons (pv 3) pa_nil)) rfl))
      (pss_cons (ps_cut (ps_fld (pv 0) ((mk_ok_Known A (cs := cs)).pe hr pass0 (pa_cons (pv 3) pa_nil)) rfl))
      (pss_cons (ps_fld (pv 0) pe_int rfl)
      (pss_one (ps_fld (pv 0) (pe_lst pa_nil) rfl))))))))))), ?_⟩
    have l1 := put_len "me" (.int me) [] (m := 0) (Nat.le_refl _)
    have l2 := put_len "number" (.int num) _ l1
    have l3 := put_len "hands" (.int hands) _ l2
    have l4 := put_len "room" (.int room) _ l3
    refine ⟨_, rfl, _, rfl, p, _, dx, _, rfl, hp, cl_Page A.d, no_Page_me A.d, by decide, ?_⟩
    refine ⟨_, rfl, _, rfl, p, _, dx, _, rfl, upd_same, cl_Page A.d, no_Page_number A.d, by omega, ?_⟩
    refine ⟨_, rfl, _, rfl, p, _, dx, _, rfl, upd_same, cl_Page A.d, no_Page_hands A.d, by omega, ?_⟩
    obtain ⟨f4, hf4⟩ : ∃ f4, f4 = putF "room" (.int room) (putF "hands" (.int hands) (putF "number" (.int num) (putF "me" (.int me) []))) := ⟨_, rfl⟩
    rw [← hf4] at l4
    refine ⟨fun σ' H' => σ' = [some (.ref p), some (.int me), some (.int num), some (.int hands), some (.int room)] ∧ Kp [p] H H' ∧ H' p = some (.ins (He.ga K "Page") dx f4), ⟨_, rfl, _, rfl, p, _, dx, _, rfl, upd_same, cl_Page A.d, no_Page_room A.d, by omega, ?_⟩, ?_⟩
    · rw [upd_upd, upd_upd, upd_upd, ← hf4]
      exact ⟨rfl, Kp.upd Kp.refl List.mem_cons_self, upd_same⟩
    rintro σ1 H1 ⟨rfl, kp1, h1⟩
    have fr : ∀ {H' : Hp} {d : Addr} {C x : Addr} {f : List (Str × V)}, Kp [p] H H' → H' p = some (.ins C x f) → H' d = none → H d = none := fun {H' d C x f} kp hp' hd => kp_free kp hd fun b hb => by rw [List.mem_singleton.mp hb]; exact ntn hp'
    have l5 : ∀ v, (putF "done" v f4).length ≤ 5 := fun v => put_len "done" v _ l4
    refine ⟨fun σ' H' => ∃ dD, σ' = [some (.ref p), some (.int me), some (.int num), some (.int hands), some (.int room)] ∧ Kp [p] H H' ∧ H' p = some (.ins (He.ga K "Page") dx (putF "done" (.ref dD) f4)) ∧ H' dD = some (.dK (encC [])) ∧ H dD = none, fun dD hdD => ⟨_, rfl, p, _, dx, _, rfl, by rw [upd_ne (ne_of_none h1 hdD)]; exact h1, cl_Page A.d, no_Page_done A.d, by omega, dD, rfl, Kp.upd (kp1.new hdD) List.mem_cons_self, upd_same, by rw [upd_ne (ne_of_none h1 hdD).symm]; exact upd_same, fr kp1 h1 hdD⟩, ?_⟩
    rintro σ2 H2 ⟨dD, rfl, kp2, h2, hD2, hD⟩
    have l6 : ∀ v w, (putF "held" v (putF "done" w f4)).length ≤ 6 := fun v w => put_len "held" v _ (l5 w)
    refine ⟨fun σ' H' => ∃ dH, σ' = [some (.ref p), some (.int me), some (.int num), some (.int hands), some (.int room)] ∧ Kp [p] H H' ∧ H' p = some (.ins (He.ga K "Page") dx (putF "held" (.ref dH) (putF "done" (.ref dD) f4))) ∧ H' dD = some (.dK (encC [])) ∧ H' dH = some (.dT (encH [])) ∧ H dH = none, fun dH hdH => ⟨_, rfl, p, _, dx, _, rfl, by rw [upd_ne (ne_of_none h2 hdH)]; exact h2, cl_Page A.d, no_Page_held A.d, by have := l5 (.ref dD); omega, dH, rfl, Kp.upd (kp2.new hdH) List.mem_cons_self, upd_same, by rw [upd_ne (ne_of hD2 h2 (by intro z; cases z)), upd_ne (ne_of_none hD2 hdH)]; exact hD2, by rw [upd_ne (ne_of_none h2 hdH).symm]; exact upd_same, fr kp2 h2 hdH⟩, ?_⟩
    clear kp1 h1 H1
    rintro σ3 H3 ⟨dH, rfl, kp3, h3, hD3, hH3, hH⟩
    have l7 : ∀ u v w, (putF "order" u (putF "held" v (putF "done" w f4))).length ≤ 7 := fun u v w => put_len "order" u _ (l6 v w)
    refine ⟨fun σ' H' => ∃ oA, σ' = [some (.ref p), some (.int me), some (.int num), some (.int hands), some (.int room)] ∧ Kp [p] H H' ∧ H' p = some (.ins (He.ga K "Page") dx (putF "order" (.ref oA) (putF "held" (.ref dH) (putF "done" (.ref dD) f4)))) ∧ H' dD = some (.dK (encC [])) ∧ H' dH = some (.dT (encH [])) ∧ H' oA = some (.lst (refsO [])) ∧ H oA = none, ⟨Nat.zero_le _, fun oA hoA => ⟨_, rfl, p, _, dx, _, rfl, by rw [upd_ne (ne_of_none h3 hoA)]; exact h3, cl_Page A.d, no_Page_order A.d, by have := l6 (.ref dH) (.ref dD); omega, oA, rfl, Kp.upd (kp3.new hoA) List.mem_cons_self, upd_same, by rw [upd_ne (ne_of hD3 h3 (by intro z; cases z)), upd_ne (ne_of_none hD3 hoA)]; exact hD3, by rw [upd_ne (ne_of hH3 h3 (by intro z; cases z)), upd_ne (ne_of_none hH3 hoA)]; exact hH3, by rw [upd_ne (ne_of_none h3 hoA).symm]; exact upd_same, fr kp3 h3 hoA⟩⟩, ?_⟩
    clear kp2 h2 hD2 H2
    rintro σ4 H4 ⟨oA, rfl, kp4, h4, hD4, hH4, hO4, hO⟩
    clear kp3 h3 hD3 hH3 H3
    have l8 : ∀ t u v w, (putF "tells" t (putF "order" u (putF "held" v (putF "done" w f4)))).length ≤ 8 := fun t u v w => put_len "tells" t _ (l7 u v w)
    have l9 : ∀ s t u v w, (putF "ables" s (putF "tells" t (putF "order" u (putF "held" v (putF "done" w f4))))).length ≤ 9 := fun s t u v w => put_len "ables" s _ (l8 t u v w)
    refine ⟨fun σ' H' => ∃ tA tt, σ' = [some (.ref p), some (.int me), some (.int num), some (.int hands), some (.int room)] ∧ Kp [p] H H' ∧ H' p = some (.ins (He.ga K "Page") dx (putF "tells" (.ref tA) (putF "order" (.ref oA) (putF "held" (.ref dH) (putF "done" (.ref dD) f4))))) ∧ H' dD = some (.dK (encC [])) ∧ H' dH = some (.dT (encH [])) ∧ H' oA = some (.lst (refsO [])) ∧ KnAt K cs H' tA tt (circ hands) [] ∧ H tA = none ∧ H tt = none ∧ dD ≠ tt ∧ tA ≠ p, ⟨_, rfl, fun tA dx2 htA hdx2 hne => ⟨tA, dx2, hands, rfl, upd_same, fun tt H5 htt kp5 hk5 => ?_⟩⟩, ?_⟩
    · have kpA : Kp [tA] (upd (upd H4 dx2 (.own tA)) tA (.ins (He.ga K "Known") dx2 [])) H5 := kp5
      have k45 : ∀ b o, H4 b = some o → H5 b = some o := fun b o e => kpA b o (by rw [upd_ne (ne_of_none e htA), upd_ne (ne_of_none e hdx2)]; exact e) (notin1 (ne_of_none e htA))
      have ntt4 : H4 tt = none := by
        cases e : H4 tt with
        | none => rfl
        | some o => rw [upd_ne (ne_of_none e htA), upd_ne (ne_of_none e hdx2), e] at htt; cases htt
      have npA : tA ≠ p := (ne_of_none h4 htA).symm
      have h5 := k45 _ _ h4
      refine ⟨rfl, _, rfl, p, _, dx, _, rfl, h5, cl_Page A.d, no_Page_tells A.d, by have := l7 (.ref oA) (.ref dH) (.ref dD); omega, tA, tt, rfl, Kp.upd (kp4.trans (Kp.of k45)) List.mem_cons_self, upd_same, by rw [upd_ne (ne_of hD4 h4 (by intro z; cases z))]; exact k45 _ _ hD4, by rw [upd_ne (ne_of hH4 h4 (by intro z; cases z))]; exact k45 _ _ hH4, by rw [upd_ne (ne_of hO4 h4 (by intro z; cases z))]; exact k45 _ _ hO4, hk5.keep0 (fun b o n e => by rw [upd_ne n]; exact e) npA h5, fr kp4 h4 htA, fr kp4 h4 ntt4, ne_of_none hD4 ntt4, npA⟩
    rintro σ5 H5 ⟨tA, tt, rfl, kp5, h5, hD5, hH5, hO5, hk5, hTA, hTT, nDt, npA⟩
    clear kp4 h4 hD4 hH4 hO4 H4
    refine ⟨fun σ' H' => ∃ aA ta, σ' = [some (.ref p), some (.int me), some (.int num), some (.int hands), some (.int room)] ∧ Kp [p] H H' ∧ H' p = some (.ins (He.ga K "Page") dx (putF "ables" (.ref aA) (putF "tells" (.ref tA) (putF "order" (.ref oA) (putF "held" (.ref dH) (putF "done" (.ref dD) f4)))))) ∧ H' dD = some (.dK (encC [])) ∧ H' dH = some (.dT (encH [])) ∧ H' oA = some (.lst (refsO [])) ∧ KnAt K cs H' tA tt (circ hands) [] ∧ KnAt K cs H' aA ta (circ hands) [] ∧ H aA = none ∧ H ta = none ∧ dD ≠ ta ∧ tt ≠ ta ∧ aA ≠ p, ⟨_, rfl, fun aA dx2 haA hdx2 hne => ⟨aA, dx2, hands, rfl, upd_same, fun ta H6 hta kp6 hk6 => ?_⟩⟩, ?_⟩
    · have kpA : Kp [aA] (upd (upd H5 dx2 (.own aA)) aA (.ins (He.ga K "Known") dx2 [])) H6 := kp6
      have k56 : ∀ b o, H5 b = some o → H6 b = some o := fun b o e => kpA b o (by rw [upd_ne (ne_of_none e haA), upd_ne (ne_of_none e hdx2)]; exact e) (notin1 (ne_of_none e haA))
      have nta5 : H5 ta = none := by
        cases e : H5 ta with
        | none => rfl
        | some o => rw [upd_ne (ne_of_none e haA), upd_ne (ne_of_none e hdx2), e] at hta; cases hta
      have npB : aA ≠ p := (ne_of_none h5 haA).symm
      have h6 := k56 _ _ h5
      refine ⟨rfl, _, rfl, p, _, dx, _, rfl, h6, cl_Page A.d, no_Page_ables A.d, by have := l8 (.ref tA) (.ref oA) (.ref dH) (.ref dD); omega, aA, ta, rfl, Kp.upd (kp5.trans (Kp.of k56)) List.mem_cons_self, upd_same, by rw [upd_ne (ne_of hD5 h5 (by intro z; cases z))]; exact k56 _ _ hD5, by rw [upd_ne (ne_of hH5 h5 (by intro z; cases z))]; exact k56 _ _ hH5, by rw [upd_ne (ne_of hO5 h5 (by intro z; cases z))]; exact k56 _ _ hO5, (hk5.same (H1 := H6) k56).keep0 (fun b o n e => by rw [upd_ne n]; exact e) npA h6, hk6.keep0 (fun b o n e => by rw [upd_ne n]; exact e) npB h6, fr kp5 h5 haA, fr kp5 h5 nta5, ne_of_none hD5 nta5, ne_of_none hk5.2.1 nta5, npB⟩
    rintro σ6 H6 ⟨aA, ta, rfl, kp6, h6, hD6, hH6, hO6, hk6, ha6, hAA, hTB, nDb, ntb, npB⟩
    clear kp5 h5 hD5 hH5 hO5 hk5 H5
    refine ⟨_, rfl, p, _, dx, _, rfl, h6, cl_Page A.d, no_Page_made A.d, by have := l9 (.ref aA) (.ref tA) (.ref oA) (.ref dH) (.ref dD); omega, ?_⟩
    refine ⟨Nat.zero_le _, fun pA hpA => ?_⟩
    have npp : p ≠ pA := ne_of_none upd_same hpA
    have hpA6 : H6 pA = none := by
      cases e : H6 pA with
      | none => rfl
      | some o => rw [upd_ne npp.symm, e] at hpA; cases hpA
    have l10 := put_len "made" (.int 0) _ (l9 (.ref aA) (.ref tA) (.ref oA) (.ref dH) (.ref dD))
    refine ⟨_, rfl, p, _, dx, _, rfl, by rw [upd_ne npp]; exact upd_same, cl_Page A.d, no_Page_past A.d, by omega, ?_⟩
    rw [hf4, PageR_fs]
    have km : ∀ b o, b ≠ p → H6 b = some o → upd (upd (upd H6 p (.ins (He.ga K "Page") dx (putF "made" (.int 0) (putF "ables" (.ref aA) (putF "tells" (.ref tA) (putF "order" (.ref oA) (putF "held" (.ref dH) (putF "done" (.ref dD) f4)))))))) pA (.lst [])) p (.ins (He.ga K "Page") dx (PageR.fs ⟨.int me, .int num, .int hands, .int room, .ref dD, .ref dH, .ref oA, .ref tA, .ref aA, .int 0, .ref pA⟩)) b = some o := fun b o n e => by
      rw [upd_ne n, upd_ne (ne_of_none e hpA6), upd_ne n]; exact e
    subst hf4
    refine k ⟨me, num, hands, room, 0, dx, dD, dH, oA, tA, tt, aA, ta, pA, [], [], [], [], [], []⟩ _ (Kp.upd ((kp6.upd List.mem_cons_self).new hpA) List.mem_cons_self) ⟨upd_same, km _ _ (ne_of hD6 h6 (by intro z; cases z)) hD6, Cnt.nil, km _ _ (ne_of hH6 h6 (by intro z; cases z)) hH6, fun _ h => (nomatch h), fun _ h => (nomatch h), List.nodup_nil, km _ _ (ne_of hO6 h6 (by intro z; cases z)) hO6, fun _ h => (nomatch h), hk6.keep0 km npA h6, ha6.keep0 km npB h6, ?_, fun _ h => (nomatch h), nDt, nDb, ntb, ne_of_none hO6 hpA6⟩ (fun b hb => ?_) rfl rfl rfl rfl rfl rfl rfl rfl rfl rfl
    · rw [upd_ne npp.symm, upd_same]; rfl
    · rcases List.mem_cons.mp hb with z | hb
      · exact .inl z
      · right
        have hPA : H pA = none := fr kp6 h6 hpA6
        simp only [List.mem_cons, List.not_mem_nil, or_false] at hb
        rcases hb with rfl | rfl | rfl | rfl | rfl | rfl | rfl | rfl
        · exact hD
        · exact hH
        · exact hO
        · exact hTA
        · exact hTT
        · exact hAA
        · exact hTB
        · exact hPA

end
end G
namespace G
open PySem PySem.Spec L2
open PyProof.Rows hiding St
section
variable {P : Program} {w : World} {K : PySem.W.Frag} {mg : Str → Option Value} {base : Heap} {CT : Addr × Addr}
/-! ### plans -/
abbrev RL := List (Addr × Rp)
def refsR (l : RL) : List V := l.map fun p => V.ref p.1
def RlAt (H : Hp) (l : RL) : Prop := ∀ x ∈ l, RepAt H x.1 x.2
theorem RlAt.same {H H1 : Hp} {l : RL} (h : RlAt H l) (s : Same H H1) : RlAt H1 l := fun x hx => (h x hx).ext (.of s)
theorem refsR_get {l : RL} {i : Nat} {x : V} (h : (refsR l)[i]? = some x) : ∃ y, l[i]? = some y ∧ x = .ref y.1 := by
  unfold refsR at h
  rw [List.getElem?_map] at h
  obtain ⟨y, e, z⟩ := Option.map_eq_some_iff.mp h
  exact ⟨y, e, z.symm⟩
theorem refsR_len (l : RL) : (refsR l).length = l.length := List.length_map _
def spBaseOf (K : PySem.W.Frag) (cs : List Int) : Sp := fun vs H Q _ => ∃ a l, vs = [.ref a] ∧ SqL K H a (refsR l) ∧ RlAt H l ∧ (∀ x ∈ l, Cnt cs x.2.fl) ∧ cs.length ≤ 60 ∧ ∀ q kv H', H q = none → Same H H' → H' q = some (.dK (encC kv)) → Cnt cs kv → Q (.ref q) H'
theorem fp_len {cs : List Int} {R : Rp} (h : Cnt cs R.fl) (hl : cs.length ≤ 60) : R.fp.length ≤ 60 := by
  have := h.len
  unfold Rp.fl at this
  rw [List.length_map] at this
  omega
theorem ok_base_of (A : All P w K mg base CT) {cs : List Int}: DOk P w K mg base CX0 3 "base_of" ["reports"] [] (spBaseOf K cs) := by
  obtain ⟨fd, F⟩ := fu_base_of A.d
  refine ⟨_, fd, [], FunD.ok0 F sc_base_of (fun vs H Q E h => ?_) (fun cdv A0 outer s H vs Q E hr h => ?_), gl_base_of A.kin A.ns A.d, F.kp, F.bindsN fun _ _ _ _ _ _ us hl => match us, hl with | [_], _ => rfl, .nil⟩
  · obtain ⟨a, l, rfl, ha, hl, hc, hcs, k⟩ := h
    rfl
  · obtain ⟨a, l, rfl, ha, hl, hc, hcs, k⟩ := h
    have hu := hu_of hr
    refine ⟨_, pss_cons (ps_set (i := 1) sc_base_of.nd rfl (by first | exact Or.inl rfl | exact Or.inr rfl) pe_dnewK)
      (pss_cons (ps_for PassesOwn.never rfl (pi_list (pv 0)) (pg_name (i := 2) sc_base_of.nd rfl (by first | exact Or.inl rfl | exact Or.inr rfl)) (pss_one (ps_set (i := 1) sc_base_of.nd rfl (by first | exact Or.inl rfl | exact Or.inr rfl) ((ok_joined A (cs := cs)).pe hr pass0 (pa_cons (pv 1) (pa_cons ((ok_unpacked A).pe hr pass0 (pa_cons (pe_ix ix_tup (pv 2) pe_int (fun _ _ => rfl)) pa_nil)) pa_nil))))))
      (pss_one (ps_ret (pv 1)))), ?_⟩
    intro b hb
    have s0 : Same H (upd H b (.dK [])) := same_new hb
    refine ⟨_, rfl, a, rfl, ⟨_, s0.seq ha⟩, for_list (K := K) (a := a) (xs := refsR l) (fun i σ' H' => ∃ b v kv, σ' = [some (.ref a), some (.ref b), v] ∧ Same H H' ∧ H b = none ∧ H' b = some (.dK (encC kv)) ∧ Cnt cs kv) ⟨b, none, [], rfl, s0, hb, upd_same, Cnt.nil⟩ (fun i σ' H' _ ⟨_, _, _, _, s, _⟩ => s.seq ha) ?_ ?_⟩
    · rintro i x σ1 H1 hx ⟨b, v, kv, rfl, s1, hbH, hb1, ckv⟩
      obtain ⟨y, ey, rfl⟩ := refsR_get hx
      have hy := List.mem_of_getElem? ey
      have hr1 := (hl y hy).ext (.of s1)
      refine ⟨_, rfl, _, rfl, _, _, _, _, rfl, rfl, SqT.of hr1.tup, rfl, y.2.F, y.2.fp, rfl, hr1.F, by have := fp_len (hc y hy) hcs; omega, fun u H2 hu2 s2 h2 => ?_⟩
      have e2 : mkC (y.2.fp.map (·.2)) = y.2.fl := mkC_self (hc y hy).nd
      rw [e2] at h2
      refine ⟨b, u, kv, y.2.fl, rfl, s2 _ _ hb1, h2, ckv, hc y hy, hcs, fun q kv2 H3 hq s3 hq3 c3 _ => ?_⟩
      exact ⟨q, _, kv2, rfl, (s1.trans s2).trans s3, (s1.trans s2).free hq, hq3, c3⟩
    · rintro σ1 H1 ⟨b, v, kv, rfl, s1, hbH, hb1, ckv⟩
      exact ⟨_, rfl, k b kv H1 hbH s1 hb1 ckv⟩
def spPlacesOf (K : PySem.W.Frag) : Sp := fun vs H Q _ => ∃ a l B, vs = [.ref a] ∧ SqL K H a (refsR l) ∧ RlAt H l ∧ (∀ x ∈ l, x.2.os.length ≤ B) ∧ ∀ t os H', Same H H' → H' t = some (.tup (refsO os)) → OrdL H' os → os.length ≤ B → Q (.ref t) H'
theorem ok_places_of (A : All P w K mg base CT) : DOk P w K mg base CX0 1 "places_of" ["reports"] [] (spPlacesOf K) := by
  obtain ⟨fd, F⟩ := fu_places_of A.d
  refine ⟨_, fd, [], FunD.ok0 F sc_places_of (fun vs H Q E h => ?_) (fun cdv A0 outer s H vs Q E hr h => ?_), gl_places_of A.kin A.ns A.d, F.kp, F.bindsN fun _ _ _ _ _ _ us hl => match us, hl with | [_], _ => rfl, .nil⟩
  · obtain ⟨a, l, B, rfl, ha, hl, hB, k⟩ := h
    rfl
  · obtain ⟨a, l, B, rfl, ha, hl, hB, k⟩ := h
    have hu := hu_of hr
    refine ⟨_, pss_cons (ps_set (i := 1) sc_places_of.nd rfl (by first | exact Or.inl rfl | exact Or.inr rfl) (pe_tup pa_nil))
      (pss_cons (ps_for PassesOwn.never rfl (pi_list (pv 0)) (pg_name (i := 2) sc_places_of.nd rfl (by first | exact Or.inl rfl | exact Or.inr rfl)) (pss_one (ps_if (pt_cmpR op_gt (pe_callB call_len_seq (by rfl) (fr_len A.kin A.ns A.d) (by decide +kernel) (pa_cons (pe_ix ix_tup (pv 2) pe_int (fun _ _ => rfl)) pa_nil)) (pe_callB call_len_seq (by rfl) (fr_len A.kin A.ns A.d) (by decide +kernel) (pa_cons (pv 1) pa_nil)) (nomark _)) (pss_one (ps_set (i := 1) sc_places_of.nd rfl (by first | exact Or.inl rfl | exact Or.inr rfl) (pe_ix ix_tup (pv 2) pe_int (fun _ _ => rfl)))) pss_nil)))
      (pss_one (ps_ret (pe_callTy (call_tuple_of) (by rfl) (fr_tuple A.kin A.ns A.d) (by decide +kernel) (pa_cons (pv 1) pa_nil))))), ?_⟩
    refine ⟨Nat.zero_le _, fun b hb => ?_⟩
    have s0 : Same H (upd H b (.tup [])) := same_new hb
    refine ⟨_, rfl, a, rfl, ⟨_, s0.seq ha⟩, for_list (K := K) (a := a) (xs := refsR l) (fun i σ' H' => ∃ b v os, σ' = [some (.ref a), some (.ref b), v] ∧ Same H H' ∧ H' b = some (.tup (refsO os)) ∧ OrdL H' os ∧ os.length ≤ B) ⟨b, none, [], rfl, s0, upd_same, fun _ h => (nomatch h), Nat.zero_le _⟩ (fun i σ' H' _ ⟨_, _, _, _, s, _⟩ => s.seq ha) ?_ ?_⟩
    · rintro i x σ1 H1 hx ⟨b, v, os, rfl, s1, hb1, ho1, hle⟩
      obtain ⟨y, ey, rfl⟩ := refsR_get hx
      have hy := List.mem_of_getElem? ey
      have hr1 := (hl y hy).ext (.of s1)
      refine ⟨_, rfl, _, _, _, _, rfl, rfl, SqT.of hr1.tup, rfl, y.2.O, _, rfl, .inr (SqT.of hr1.O), _, rfl, b, _, rfl, .inr (SqT.of hb1), _, _, rfl, rfl, _, rfl, ite2 (fun _ => ?_) (fun _ => ?_)⟩
      · exact ⟨_, rfl, _, _, _, _, rfl, rfl, SqT.of hr1.tup, rfl, y.2.O, _, y.2.os, rfl, s1, hr1.O, hr1.ord, hB y hy⟩
      · exact ⟨b, _, os, rfl, s1, hb1, ho1, hle⟩
    · rintro σ1 H1 ⟨b, v, os, rfl, s1, hb1, ho1, hle⟩
      exact ⟨_, rfl, b, _, rfl, .inr ⟨SqT.of hb1, k b os H1 s1 hb1 ho1 hle⟩⟩
def spBeyond (K : PySem.W.Frag) (cs : List Int) (n : Int) (ms : List Nm) : Sp := fun vs H Q _ => ∃ b a l kv, vs = [.ref b, .ref a] ∧ Rd H b (.dK (encC kv)) ∧ SqL K H a (refsR l) ∧ RlAt H l ∧ (∀ x ∈ l, RepOK cs n ms x.2) ∧ ms.length ≤ 1000 ∧
  ∀ q hd H', H q = none → Same H H' → H' q = some (.lst (refsC hd)) → (∀ x ∈ hd, CallAt K H' x.1 x.2 ∧ GC cs n ms x.2) → hd.length ≤ ms.length → Q (.ref q) H'
theorem cut_nm (d : Cd) : cutV (ToldV d) none (some 3) = nmV d.nm := rfl
theorem ok_calls_beyond (A : All P w K mg base CT) {cs : List Int} {n : Int} {ms : List Nm}: DOk P w K mg base CX0 5 "calls_beyond" ["base", "reports"] [] (spBeyond K cs n ms) := by
  obtain ⟨fd, F⟩ := fu_calls_beyond A.d
  refine ⟨_, fd, [], FunD.ok0 F sc_calls_beyond (fun vs H Q E h => ?_) (fun cdv A0 outer s H vs Q E hr h => ?_), gl_calls_beyond A.kin A.ns A.d, F.kp, F.bindsN fun _ _ _ _ _ _ us hl => match us, hl with | [_, _], _ => rfl, .nil⟩
  · obtain ⟨b, a, l, kv, rfl, hb, ha, hl, hok, hms, k⟩ := h
    rfl
  · obtain ⟨b, a, l, kv, rfl, hb, ha, hl, hok, hms, k⟩ := h
    have hu := hu_of hr
    refine ⟨_, pss_cons (ps_set (i := 2) sc_calls_beyond.nd rfl (by first | exact Or.inl rfl | exact Or.inr rfl) pe_dnewT)
      (pss_cons (ps_for PassesOwn.never rfl (pi_list (pv 1)) (pg_name (i := 3) sc_calls_beyond.nd rfl (by first | exact Or.inl rfl | exact Or.inr rfl)) (pss_one (ps_for PassesOwn.never rfl (pi_tup (pe_ix ix_tup (pv 3) pe_int (fun _ _ => rfl))) (pg_name (i := 4) sc_calls_beyond.nd rfl (by first | exact Or.inl rfl | exact Or.inr rfl)) (pss_one (ps_if (pt_cmpR op_gt (pe_ix ix_tup (pv 4) pe_int (fun _ _ => rfl)) ((ok_count_of A).pe hr pass0 (pa_cons (pv 0) (pa_cons (pe_ix ix_tup (pv 4) pe_int (fun _ _ => rfl)) pa_nil))) (nomark _)) (pss_one (ps_expr (pe_dsetdT hu (pv 2) (pe_slice sl_tup (pv 4) po_none (po_some pe_int)) ((ok_call_of A).pe hr pass0 (pa_cons (pv 4) pa_nil)) ⟨rfl, rfl, rfl, rfl⟩))) pss_nil)))))
      (pss_one (ps_ret (pe_callTy (call_listV rfl) (by rfl) (fr_list A.kin A.ns A.d) (by decide +kernel) (pa_cons (pe_bm0 PySem.F.plainAttrs_dict PySem.F.slot_dict_values PySem.F.type_dict_values mt_valsT (pv 2)) pa_nil))))), ?_⟩
    intro f hf
    have s0 : Same H (upd H f (.dT [])) := same_new hf
    have Pv0 : True := trivial
    let Pv : List (Option V) → Hp → Option V → Option V → Prop := fun σ' H' v3 v4 => ∃ hd : CL, σ' = [some (.ref b), some (.ref a), some (.ref f), v3, v4] ∧ Same H H' ∧ H' f = some (.dT (encH hd)) ∧ (∀ x ∈ hd, CallAt K H' x.1 x.2 ∧ GC cs n ms x.2) ∧ (hd.map (·.2.nm)).Nodup
    have hlen : ∀ {hd : CL}, (∀ x ∈ hd, GC cs n ms x.2) → (hd.map (·.2.nm)).Nodup → hd.length ≤ ms.length := fun {hd} h1 h2 => by
      have := nodup_len h2 (m := ms) fun x hx => by
        obtain ⟨y, hy, e⟩ := List.mem_map.mp hx
        rw [← e]; exact (h1 y hy).ms
      rwa [List.length_map] at this
    refine ⟨_, rfl, a, rfl, ⟨_, s0.seq ha⟩, for_list (K := K) (a := a) (xs := refsR l) (fun i σ' H' => ∃ v3 v4, Pv σ' H' v3 v4) ⟨none, none, [], rfl, s0, upd_same, fun _ h => (nomatch h), List.nodup_nil⟩ (fun i σ' H' _ ⟨_, _, _, _, s, _⟩ => s.seq ha) ?_ ?_⟩
    · rintro i x σ1 H1 hx ⟨v3, v4, hd, rfl, s1, hf1, hc1, hn1⟩
      obtain ⟨y, ey, rfl⟩ := refsR_get hx
      have hy := List.mem_of_getElem? ey
      have hr1 := (hl y hy).ext (.of s1)
      refine ⟨_, rfl, _, _, _, _, rfl, rfl, SqT.of hr1.tup, rfl, y.2.C, rfl, ⟨_, SqT.of hr1.C⟩, for_tup (K := K) (a := y.2.C) (xs := refsC y.2.told) (fun i σ' H' => ∃ v4, Pv σ' H' (some (.ref y.1)) v4) ⟨v4, hd, rfl, s1, hf1, hc1, hn1⟩ (fun i σ' H' _ ⟨_, _, _, s, _⟩ => SqT.of (s _ _ (hl y hy).C)) ?_ ?_⟩
      · rintro j x σ2 H2 hx2 ⟨v4, hd, rfl, s2, hf2, hc2, hn2⟩
        obtain ⟨z, ez, rfl⟩ := refsC_get hx2
        have hz := List.mem_of_getElem? ez
        have ht2 := ((hl y hy).told z hz).same s2
        have g := (hok y hy).gc z hz
        refine ⟨_, rfl, _, _, _, _, rfl, rfl, SqT.of ht2.1, rfl, _, rfl, _, rfl, _, _, _, _, rfl, rfl, SqT.of ht2.1, rfl, b, kv, z.2.c, rfl, rd_same s2 hb, _, _, rfl, rfl, _, rfl, ite2 (fun _ => ?_) (fun _ => ?_)⟩
        · refine ⟨_, rfl, f, rfl, .inr ⟨_, .inl hf2⟩, _, rfl, _, rfl, z.1, _, rfl, SqT.of ht2.1, fun zz => absurd zz.2 (by show ¬ (3 = 6); decide), fun t htn => ?_⟩
          have s3 : Same H2 (upd H2 t (.tup (cutV (ToldV z.2) none (some 3)))) := same_new htn
          refine ⟨_, rfl, z.1, z.2, rfl, ht2.same s3, g.w, fun u d H4 hu4 s4 hca hd' => ?_⟩
          obtain ⟨g1, g2, g3, g4, g5, g6⟩ := hd'
          have hnm : d.nm = z.2.nm := by unfold Cd.nm; rw [g1, g2, g3]
          have hg : GC cs n ms d := ⟨by rw [g1]; exact g.n, by rw [hnm]; exact g.ms, by rw [g3]; exact g.k, by rw [g2]; exact g.c, by rw [g5]; exact g.w, Nat.le_trans g6 g.z⟩
          have s34 := s3.trans s4
          have hl2 := hlen (fun x hx => (hc2 x hx).2) hn2
          refine ⟨encH hd, nmK d.nm, t, s34 _ _ hf2, rfl, ?_, by rw [encH_len]; exact small6 (by omega), fun v hv => ?_, fun hv => ?_⟩
          · rw [s4 _ _ upd_same, cut_nm, hnm]; rfl
          · exact ⟨_, hd, rfl, s2.trans s34, s34 _ _ hf2, fun x hx => ⟨(hc2 x hx).1.same s34, (hc2 x hx).2⟩, hn2⟩
          · have hfr : d.nm ∉ hd.map (·.2.nm) := fun zz => by
              obtain ⟨x, hx, e⟩ := List.mem_map.mp zz
              rw [valV_encH] at hv
              cases hfi : hd.find? (fun x => decide (x.2.nm = d.nm)) with
              | some r => rw [hfi] at hv; cases hv
              | none => exact absurd (decide_eq_true e) (List.find?_eq_none.mp hfi x hx)
            rw [putK_new (encH_fresh hfr), show encH hd ++ [(nmK d.nm, V.ref u)] = encH (hd ++ [(u, d)]) from (encH_app hd (u, d)).symm]
            have exf : Ext H4 (upd H4 f (.dT (encH (hd ++ [(u, d)])))) := Kp.ext (F := [f]) (Kp.upd Kp.refl List.mem_cons_self) fun zz hzz o ho => by
              rw [List.mem_singleton.mp hzz, s34 _ _ hf2] at ho; cases ho; exact fun z => z
            refine ⟨_, hd ++ [(u, d)], rfl, same_set (s2.trans s34) hf, upd_same, fun x hx => ?_, ?_⟩
            · rcases List.mem_append.mp hx with hx | hx
              · exact ⟨((hc2 x hx).1.same s34).ext exf, (hc2 x hx).2⟩
              · rw [List.mem_singleton.mp hx]; exact ⟨hca.ext exf, hg⟩
            · rw [List.map_append]
              refine List.nodup_append.mpr ⟨hn2, List.nodup_cons.mpr ⟨fun z => (nomatch z), List.nodup_nil⟩, ?_⟩
              intro a1 ha1 b1 hb1 e
              have hb' : b1 = d.nm := List.mem_singleton.mp hb1
              rw [hb'] at e
              exact hfr (by rw [← e]; exact ha1)
        · exact ⟨_, hd, rfl, s2, hf2, hc2, hn2⟩
      · rintro σ2 H2 ⟨v4, hd, rfl, s2, hf2, hc2, hn2⟩
        exact ⟨_, v4, hd, rfl, s2, hf2, hc2, hn2⟩
    · rintro σ1 H1 ⟨v3, v4, hd, rfl, s1, hf1, hc1, hn1⟩
      refine ⟨_, rfl, .inr (.inr (.inl ⟨rfl, .inr ⟨_, hf1⟩⟩)), f, _, rfl, rfl, hf1, fun w hw => ?_⟩
      have s2 : Same H1 (upd H1 w (valsO w f)) := same_new hw
      refine ⟨w, f, encH hd, rfl, upd_same, .inl (s2 _ _ hf1), fun q hq => ?_⟩
      rw [encH_vals]
      have s3 : Same (upd H1 w (valsO w f)) (upd (upd H1 w (valsO w f)) q (.lst (refsC hd))) := same_new hq
      exact k q hd _ ((s1.trans s2).free hq) ((s1.trans s2).trans s3) upd_same (fun x hx => ⟨((hc1 x hx).1.same s2).same s3, (hc1 x hx).2⟩) (hlen (fun x hx => (hc1 x hx).2) hn1)

end
end G
namespace G
open PySem PySem.Spec L2
open PyProof.Rows hiding St
section
variable {P : Program} {w : World} {K : PySem.W.Frag} {mg : Str → Option Value} {base : Heap} {CT : Addr × Addr}
structure Pl where
  on : Int
  fol : Int
  new : Int
  r : Addr
  rw_ : CL
structure PlAt (H : Hp) (t : Addr) (c : Pl) : Prop where
  tup : H t = some (.tup [.int c.on, .int c.fol, .int c.new, .ref c.r])
  r : H c.r = some (.tup (refsC c.rw_))
  told : ∀ x ∈ c.rw_, ToldAt H x.1 x.2
theorem PlAt.ext {H H1 : Hp} {t : Addr} {c : Pl} (h : PlAt H t c) (x : Ext H H1) : PlAt H1 t c := ⟨x _ _ h.tup trivial, x _ _ h.r trivial, fun y hy => (h.told y hy).ext x⟩
structure PlOK (cs : List Int) (n : Int) (ms : List Nm) (c : Pl) : Prop where
  gc : ∀ x ∈ c.rw_, GC cs n ms x.2
  len : c.rw_.length ≤ 100
  fol : 0 ≤ c.fol
theorem PlOK.mono {cs : List Int} {n : Int} {ms ms' : List Nm} {c : Pl} (h : PlOK cs n ms c) (s : ∀ x ∈ ms, x ∈ ms') : PlOK cs n ms' c := ⟨fun x hx => (h.gc x hx).mono s, h.len, h.fol⟩
def spFirstPlan (K : PySem.W.Frag) (cs : List Int) (n : Int) (ms : List Nm) : Sp := fun vs H Q _ => ∃ me hands a wi l, vs = [.int me, .int hands, .ref a, .int wi] ∧ 0 ≤ me ∧ me ≤ 62 ∧ 0 ≤ wi ∧ SqL K H a (refsR l) ∧ RlAt H l ∧ (∀ x ∈ l, RepOK cs n ms x.2) ∧ (∀ x ∈ l, x.2.os.length ≤ 4000000) ∧ l.length ≤ 1000 ∧ cs.length ≤ 60 ∧ ms.length ≤ 100 ∧
  ∀ t c H', H t = none → Same H H' → PlAt H' t c → PlOK cs n ms c → Q (.ref t) H'
theorem ok_first_plan (A : All P w K mg base CT) {cs : List Int} {n : Int} {ms : List Nm}: DOk P w K mg base CX0 7 "first_plan" ["me", "hands", "reports", "wishes"] [] (spFirstPlan K cs n ms) := by
  obtain ⟨fd, F⟩ := fu_first_plan A.d
  refine ⟨_, fd, [], FunD.ok0 F sc_first_plan (fun vs H Q E h => ?_) (fun cdv A0 outer s H vs Q E hr h => ?_), gl_first_plan A.kin A.ns A.d, F.kp, F.bindsN fun _ _ _ _ _ _ us hl => match us, hl with | [_, _, _, _], _ => rfl, .nil⟩
  · obtain ⟨me, hands, a, wi, l, rfl, h0, h62, hwi, ha, hl, hok, hO, hll, hcs, hms, k⟩ := h
    rfl
  · obtain ⟨me, hands, a, wi, l, rfl, h0, h62, hwi, ha, hl, hok, hO, hll, hcs, hms, k⟩ := h
    have hu := hu_of hr
    refine ⟨_, pss_cons (ps_set (i := 4) sc_first_plan.nd rfl (by first | exact Or.inl rfl | exact Or.inr rfl) ((ok_base_of A (cs := cs)).pe hr pass0 (pa_cons (pv 2) pa_nil)))
      (pss_cons (ps_cut (ps_set (i := 5) sc_first_plan.nd rfl (by first | exact Or.inl rfl | exact Or.inr rfl) (pe_ix ix_tup ((ok_placed A (cs := cs)).pe hr pass0 (pa_cons (pv 4) (pa_cons ((ok_calls_beyond A (cs := cs) (n := n) (ms := ms)).pe hr pass0 (pa_cons (pv 4) (pa_cons (pv 2) pa_nil))) (pa_cons (pe_callTy (call_list_of) (by rfl) (fr_list A.kin A.ns A.d) (by decide +kernel) (pa_cons ((ok_places_of A).pe hr pass0 (pa_cons (pv 2) pa_nil)) pa_nil)) pa_nil)))) pe_int (fun _ _ => rfl))))
      (pss_cons (ps_cut (ps_set (i := 6) sc_first_plan.nd rfl (by first | exact Or.inl rfl | exact Or.inr rfl) ((ok_set_of A).pe hr pass0 (pa_cons (pe_lc (own := [("report", 10)]) (g := gName 10) (tt := tYes) rfl sc_first_plan.nd (pi_list (pv 2)) (blkOk_by (N := ["me", "hands", "reports", "wishes", "base", "row", "on", "leaving", "new", "following", "report", "call"]) (sc := defScope s_first_plan) (by decide +kernel)) (fun _ _ _ _ _ => pg_name (i := 10) sc_first_plan.nd rfl (Or.inl rfl)) (fun _ _ _ _ _ => pts_nil) (fun _ _ _ _ _ => (pe_ix (ix_tupK (K := K)) (pv 10) pe_int (fun _ _ => rfl)))) pa_nil))))
      (pss_cons (ps_cut (ps_set (i := 7) sc_first_plan.nd rfl (by first | exact Or.inl rfl | exact Or.inr rfl) ((ok_set_of A).pe hr pass0 (pa_cons (pe_lc (own := [("report", 10)]) (g := gName 10) rfl sc_first_plan.nd (pi_list (pv 2)) (blkOk_by (N := ["me", "hands", "reports", "wishes", "base", "row", "on", "leaving", "new", "following", "report", "call"]) (sc := defScope s_first_plan) (by decide +kernel)) (fun _ _ _ _ _ => pg_name (i := 10) sc_first_plan.nd rfl (Or.inl rfl)) (fun _ _ _ _ _ => (pts_one (pt_val (pe_ix (ix_tupK (K := K)) (pv 10) pe_int (fun _ _ => rfl))))) (fun _ _ _ _ _ => (pe_ix (ix_tupK (K := K)) (pv 10) pe_int (fun _ _ => rfl)))) pa_nil))))
      (pss_cons (ps_set (i := 8) sc_first_plan.nd rfl (by first | exact Or.inl rfl | exact Or.inr rfl) (pe_op op_and (pv 3) (pe_un un_inv (pv 1))))
      (pss_cons (ps_set (i := 9) sc_first_plan.nd rfl (by first | exact Or.inl rfl | exact Or.inr rfl) (pe_op op_or (pe_op op_or (pe_op op_and (pv 6) (pe_un un_inv (pv 7))) (pe_op op_shl pe_int (pv 0))) (pv 8)))
      (pss_one (ps_ret (pe_tup (pa_cons (pv 6) (pa_cons (pv 9) (pa_cons (pv 8) (pa_cons (pe_callTy (call_tuple_of) (by rfl) (fr_tuple A.kin A.ns A.d) (by decide +kernel) (pa_cons (pe_lc (own := [("call", 11)]) (g := gName 11) (tt := tYes) rfl sc_first_plan.nd (pi_list (pv 5)) (blkOk_by (N := ["me", "hands", "reports", "wishes", "base", "row", "on", "leaving", "new", "following", "report", "call"]) (sc := defScope s_first_plan) (by decide +kernel)) (fun _ _ _ _ _ => pg_name (i := 11) sc_first_plan.nd rfl (Or.inl rfl)) (fun _ _ _ _ _ => pts_nil) (fun _ _ _ _ _ => (M3.pe0K (ok_call_told A) hr (pv 11)))) pa_nil)) pa_nil)))))))))))), ?_⟩
    refine ⟨_, rfl, a, l, rfl, ha, hl, fun x hx => (hok x hx).fl, hcs, fun b kv H1 hb s1 hb1 ckv => ?_⟩
    refine ⟨fun σ' H' => ∃ r row, σ' = [some (.int me), some (.int hands), some (.ref a), some (.int wi), some (.ref b), some (.ref r), none, none, none, none, none, none] ∧ Same H H' ∧ H' r = some (.lst (refsC row)) ∧ (∀ x ∈ row, CallAt K H' x.1 x.2 ∧ GC cs n ms x.2) ∧ row.length ≤ 100, ?_, ?_⟩
    · refine ⟨_, rfl, _, rfl, _, rfl, b, a, l, kv, rfl, .inl hb1, s1.seq ha, hl.same s1, hok, by omega, fun q hd H2 hq s2 hq2 hc2 hlen => ?_⟩
      have s12 := s1.trans s2
      refine ⟨_, rfl, a, l, 4000000, rfl, s12.seq ha, hl.same s12, hO, fun t os H3 s3 ht3 ho3 hle => ?_⟩
      have s13 := s12.trans s3
      refine ⟨t, _, rfl, .inr (SqT.of ht3), fun p hp => ?_⟩
      have s4 : Same H3 (upd H3 p (.lst (refsO os))) := same_new hp
      have s24 := (s2.trans s3).trans s4
      have s34 := s3.trans s4
      refine ⟨b, q, p, kv, hd, os, rfl, .inl (s24 _ _ hb1), ckv, hcs, SqL.of (s34 _ _ hq2), fun x hx => ⟨(hc2 x hx).1.same s34, by have := (hc2 x hx).2.z; omega, (hc2 x hx).2.k, (hc2 x hx).2.c⟩, by omega, SqL.of upd_same, ho3.same s4, by omega, fun t5 r o row kv' os' H5 s5 _ _ _ ht5 hr5 _ _ _ ps => ?_⟩
      have hpl := ps.len
      refine ⟨_, _, _, _, rfl, rfl, SqT.of ht5, rfl, r, row, rfl, (s13.trans s4).trans s5, hr5, fun x hx => ⟨((hc2 x (ps.sub x hx)).1.same s34).same s5, (hc2 x (ps.sub x hx)).2⟩, by omega⟩
    clear hb1 ckv s1 hb H1
    rintro σ1 H1 ⟨r, row, rfl, s1, hr1, hrow, hrl⟩
    have lcn : ∀ {H' : Hp} {D : Addr} {ns : List Int}, H' D = some (.lst (ns.map V.int)) → True := fun _ => trivial
    refine ⟨fun σ' H' => ∃ on : Int, σ' = [some (.int me), some (.int hands), some (.ref a), some (.int wi), some (.ref b), some (.ref r), some (.int on), none, none, none, none, none] ∧ Same H1 H' ∧ 0 ≤ on, ?_, ?_⟩
    · refine ⟨_, rfl, a, rfl, ⟨_, s1.seq ha⟩, fun D hD => lc_list (K := K) (a := a) (xs := refsR l) (fun i H' => Same H1 H' ∧ ∃ ns : List Int, H' D = some (.lst (ns.map V.int)) ∧ ns.length ≤ i ∧ ∀ m ∈ ns, 0 ≤ m ∧ m ≤ 1000) ⟨same_new hD, [], upd_same, Nat.le_refl _, fun _ h => (nomatch h)⟩ (fun i H' _ ⟨s, _⟩ => (s1.trans s).seq ha) ?_ ?_⟩
      · rintro i x H2 hx ⟨s2, ns, hD2, hnl, hns⟩
        obtain ⟨y, ey, rfl⟩ := refsR_get hx
        have hy := List.mem_of_getElem? ey
        have hi := (List.getElem?_eq_some_iff.mp ey).1
        have hr2 := (hl y hy).ext (.of (s1.trans s2))
        have m := (hok y hy).me
        refine ⟨rfl, _, rfl, _, _, _, _, rfl, rfl, SqT.of hr2.tup, rfl, _, hD2, by rw [List.length_map, sizeLine_eq]; omega, same_set s2 hD, ns ++ [y.2.me], by rw [upd_same, List.map_append]; rfl, by rw [List.length_append]; exact Nat.add_le_add_right hnl 1, fun z hz => ?_⟩
        rcases List.mem_append.mp hz with hz | hz
        · exact hns z hz
        · rw [List.mem_singleton.mp hz]; omega
      · rintro H2 ⟨s2, ns, hD2, hnl, hns⟩
        exact ⟨D, ns, rfl, hD2, hns, fun on hon => ⟨on, rfl, s2, hon⟩⟩
    rintro σ2 H2 ⟨on, rfl, s2, hon⟩
    have s02 := s1.trans s2
    refine ⟨fun σ' H' => ∃ lv : Int, σ' = [some (.int me), some (.int hands), some (.ref a), some (.int wi), some (.ref b), some (.ref r), some (.int on), some (.int lv), none, none, none, none] ∧ Same H1 H' ∧ 0 ≤ lv, ?_, ?_⟩
    · refine ⟨_, rfl, a, rfl, ⟨_, s02.seq ha⟩, fun D hD => lc_list (K := K) (a := a) (xs := refsR l) (fun i H' => Same H2 H' ∧ ∃ ns : List Int, H' D = some (.lst (ns.map V.int)) ∧ ns.length ≤ i ∧ ∀ m ∈ ns, 0 ≤ m ∧ m ≤ 1000) ⟨same_new hD, [], upd_same, Nat.le_refl _, fun _ h => (nomatch h)⟩ (fun i H' _ ⟨s, _⟩ => (s02.trans s).seq ha) ?_ ?_⟩
      · rintro i x H3 hx ⟨s3, ns, hD2, hnl, hns⟩
        obtain ⟨y, ey, rfl⟩ := refsR_get hx
        have hy := List.mem_of_getElem? ey
        have hi := (List.getElem?_eq_some_iff.mp ey).1
        have hr2 := (hl y hy).ext (.of (s02.trans s3))
        have m := (hok y hy).me
        refine ⟨rfl, _, rfl, _, _, _, _, rfl, rfl, SqT.of hr2.tup, rfl, _, rfl, ?_⟩
        cases y.2.lv with
        | true =>
          refine ⟨_, rfl, _, _, _, _, rfl, rfl, SqT.of hr2.tup, rfl, _, hD2, by rw [List.length_map, sizeLine_eq]; omega, same_set s3 hD, ns ++ [y.2.me], by rw [upd_same, List.map_append]; rfl, by rw [List.length_append]; exact Nat.add_le_add_right hnl 1, fun z hz => ?_⟩
          rcases List.mem_append.mp hz with hz | hz
          · exact hns z hz
          · rw [List.mem_singleton.mp hz]; omega
        | false => exact ⟨s3, ns, hD2, Nat.le_succ_of_le hnl, hns⟩
      · rintro H3 ⟨s3, ns, hD2, hnl, hns⟩
        exact ⟨D, ns, rfl, hD2, hns, fun lv hlv => ⟨lv, rfl, s2.trans s3, hlv⟩⟩
    clear s02 s2 H2
    rintro σ2 H2 ⟨lv, rfl, s2, hlv⟩
    refine ⟨_, rfl, _, rfl, _, rfl, _, _, rfl, rfl, ?_⟩
    refine ⟨_, rfl, _, rfl, _, rfl, _, _, rfl, rfl, _, rfl, _, _, rfl, rfl, ⟨h0, by omega, by decide⟩, _, _, rfl, rfl, _, rfl, _, _, rfl, rfl, ?_⟩
    have s02 := s1.trans s2
    have hr2 := s2 _ _ hr1
    have hrow2 : ∀ x ∈ row, CallAt K H2 x.1 x.2 := fun x hx => (hrow x hx).1.same s2
    refine ⟨_, rfl, _, rfl, _, rfl, _, rfl, r, rfl, ⟨_, SqL.of hr2⟩, fun D hD => ?_⟩
    have nrD : r ≠ D := ne_of_none hr2 hD
    refine lc_list (K := K) (a := r) (xs := refsC row) (fun i H' => Same H2 H' ∧ ∃ l : CL, H' D = some (.lst (refsC l)) ∧ (∀ x ∈ l, ToldAt H' x.1 x.2) ∧ l.map (·.2) = (row.take i).map (·.2)) ⟨same_new hD, [], upd_same, fun _ h => (nomatch h), rfl⟩ (fun i H' _ ⟨s, _⟩ => SqL.of (s _ _ hr2)) ?_ ?_
    · rintro i x H3 hx ⟨s3, l3, hl3, hlt, hlc⟩
      obtain ⟨y, ey, rfl⟩ := refsC_get hx
      have hi := (List.getElem?_eq_some_iff.mp ey).1
      have cy := (hrow2 y (List.mem_of_getElem? ey)).same s3
      obtain ⟨⟨dx, e1⟩, _⟩ := id cy
      refine ⟨rfl, _, rfl, y.1, dx, y.2.kd, _, _, _, _, _, rfl, e1, by kernel_rfl, y.1, y.2, rfl, cy, rfl, fun t H4 ht s4 h4 => ?_⟩
      have hlen : l3.length = i := by
        have := congrArg List.length hlc
        rw [List.length_map, List.length_map, List.length_take] at this
        omega
      have exD : Ext H4 (upd H4 D (.lst (refsC l3 ++ [.ref t]))) := Kp.ext (F := [D]) (Kp.upd Kp.refl List.mem_cons_self) fun z hz o ho => by
        rw [List.mem_singleton.mp hz, s4 _ _ hl3] at ho; cases ho; exact fun z => z
      refine ⟨_, s4 _ _ hl3, by rw [refsC_len]; exact small6 (by omega), same_set (s3.trans s4) hD, l3 ++ [(t, y.2)], by rw [upd_same, refsC_app], fun z hz => ?_, ?_⟩
      · rcases List.mem_append.mp hz with hz | hz
        · exact ((hlt z hz).same s4).ext exD
        · rw [List.mem_singleton.mp hz]
          exact ToldAt.ext exD ⟨h4, cy.2.same s4⟩
      · rw [List.map_append, hlc, List.take_add_one, ey]
        show _ = List.map _ (_ ++ [y])
        rw [List.map_append]; rfl
    · rintro H3 ⟨s3, l3, hl3, hlt, hlc⟩
      rw [refsC_len, List.take_length] at hlc
      have hlen2 : l3.length = row.length := by have := congrArg List.length hlc; rwa [List.length_map, List.length_map] at this
      refine ⟨D, _, rfl, .inl ⟨SqL.of hl3, fun C hC => ?_⟩⟩
      have s4 : Same H3 (upd H3 C (.tup (refsC l3))) := same_new hC
      refine ⟨(by show 4 ≤ sizeLine; decide), fun t ht => ?_⟩
      have s5 := same_new (o := .tup [.int on, .int (Builtin.bitOr (Builtin.bitOr (Builtin.bitAnd on (Builtin.bitNot lv)) (1 * 2 ^ me.toNat)) (Builtin.bitAnd wi (Builtin.bitNot hands))), .int (Builtin.bitAnd wi (Builtin.bitNot hands)), .ref C]) ht
      have s35 := (s3.trans s4).trans s5
      refine k t ⟨on, (Builtin.bitOr (Builtin.bitOr (Builtin.bitAnd on (Builtin.bitNot lv)) (1 * 2 ^ me.toNat)) (Builtin.bitAnd wi (Builtin.bitNot hands))), Builtin.bitAnd wi (Builtin.bitNot hands), C, l3⟩ _ ((s02.trans (s3.trans s4)).free ht) (s02.trans s35) ⟨upd_same, s5 _ _ upd_same, fun x hx => ((hlt x hx).same s4).same s5⟩ ⟨fun x hx => ?_, by show l3.length ≤ 100; omega, or_nn (or_nn (and_nnL hon) (by rw [Int.one_mul]; exact Int.le_of_lt (pw _))) (and_nnL hwi)⟩
      have hm : x.2 ∈ row.map (·.2) := by rw [← hlc]; exact List.mem_map.mpr ⟨x, hx, rfl⟩
      obtain ⟨y, hy, ey⟩ := List.mem_map.mp hm
      rw [← ey]; exact (hrow y hy).2

end
end G
namespace G
open PySem PySem.Spec L2
open PyProof.Rows hiding St
section
variable {P : Program} {w : World} {K : PySem.W.Frag} {mg : Str → Option Value} {base : Heap} {CT : Addr × Addr}
/-! ### changes -/
def BalV (H : Hp) (v : V) : Prop := v = .non ∨ ∃ a i j, v = .ref a ∧ H a = some (.tup [.int i, .int j])
def PlanV (cs : List Int) (n : Int) (ms : List Nm) (H : Hp) (v : V) : Prop := v = .non ∨ ∃ a c, v = .ref a ∧ PlAt H a c ∧ PlOK cs n ms c
def YesV (cs : List Int) (n : Int) (ms : List Nm) (H : Hp) (v : V) : Prop := v = .non ∨ ∃ a b p i j c, v = .ref a ∧ H a = some (.tup [.ref b, .ref p]) ∧ H b = some (.tup [.int i, .int j]) ∧ PlAt H p c ∧ PlOK cs n ms c
section
variable {cs : List Int} {n : Int} {ms ms' : List Nm} {H H1 : Hp} {v : V}
theorem BalV.ext (h : BalV H v) (x : Ext H H1) : BalV H1 v := h.imp id fun ⟨a, i, j, e, h⟩ => ⟨a, i, j, e, x _ _ h trivial⟩
theorem PlanV.ext (h : PlanV cs n ms H v) (x : Ext H H1) : PlanV cs n ms H1 v := h.imp id fun ⟨a, c, e, h, o⟩ => ⟨a, c, e, h.ext x, o⟩
theorem YesV.ext (h : YesV cs n ms H v) (x : Ext H H1) : YesV cs n ms H1 v := h.imp id fun ⟨a, b, p, i, j, c, e, h1, h2, h3, o⟩ => ⟨a, b, p, i, j, c, e, x _ _ h1 trivial, x _ _ h2 trivial, h3.ext x, o⟩
theorem PlanV.mono (h : PlanV cs n ms H v) (s : ∀ x ∈ ms, x ∈ ms') : PlanV cs n ms' H v := h.imp id fun ⟨a, c, e, h, o⟩ => ⟨a, c, e, h, o.mono s⟩
theorem YesV.mono (h : YesV cs n ms H v) (s : ∀ x ∈ ms, x ∈ ms') : YesV cs n ms' H v := h.imp id fun ⟨a, b, p, i, j, c, e, h1, h2, h3, o⟩ => ⟨a, b, p, i, j, c, e, h1, h2, h3, o.mono s⟩
theorem BalV.dp {K : PySem.W.Frag} (h : BalV H v) : ∃ d, Dp K H v d ∧ SeqAt.shaped d = true := by
  rcases h with rfl | ⟨a, i, j, rfl, h⟩
  · exact ⟨_, .non, rfl⟩
  · exact ⟨_, .tup (SqT.of h) (.cons (.int _) (.cons (.int _) .nil)), rfl⟩
end
/-- a ballot as it is written, None as none -/
def BalD (H : Hp) : V → Option (Int × Int)
  | .ref a => match H a with
    | some (.tup [.int i, .int j]) => some (i, j)
    | _ => none
  | _ => none
def YesD (H : Hp) : V → Option (Int × Int)
  | .ref a => match H a with
    | some (.tup [.ref b, _]) => BalD H (.ref b)
    | _ => none
  | _ => none
def balDat : Option (Int × Int) → PyData
  | none => .none
  | some x => .tuple [.int x.1, .int x.2]
theorem BalD_ref {H : Hp} {a : Addr} {i j : Int} (h : H a = some (.tup [.int i, .int j])) : BalD H (.ref a) = some (i, j) := by
  show (match H a with
    | some (.tup [.int i, .int j]) => some (i, j)
    | _ => none) = some (i, j)
  rw [h]
theorem YesD_ref {H : Hp} {a b p : Addr} {i j : Int} (h : H a = some (.tup [.ref b, .ref p])) (h2 : H b = some (.tup [.int i, .int j])) : YesD H (.ref a) = some (i, j) := by
  show (match H a with
    | some (.tup [.ref b, _]) => BalD H (.ref b)
    | _ => none) = some (i, j)
  rw [h]; exact BalD_ref h2
theorem BalV.ext_D {H H1 : Hp} {v : V} (h : BalV H v) (x : Ext H H1) : BalD H1 v = BalD H v := by
  rcases h with rfl | ⟨a, i, j, rfl, h⟩
  · rfl
  · rw [BalD_ref h, BalD_ref (x _ _ h trivial)]
theorem YesV.ext_D {cs : List Int} {n : Int} {ms : List Nm} {H H1 : Hp} {v : V} (h : YesV cs n ms H v) (x : Ext H H1) : YesD H1 v = YesD H v := by
  rcases h with rfl | ⟨a, b, p, i, j, c, rfl, h1, h2, _⟩
  · rfl
  · rw [YesD_ref h1 h2, YesD_ref (x _ _ h1 trivial) (x _ _ h2 trivial)]
theorem BalV.dp2 {K : PySem.W.Frag} {H : Hp} {v : V} (h : BalV H v) : Dp K H v (balDat (BalD H v)) ∧ SeqAt.shaped (balDat (BalD H v)) = true := by
  rcases h with rfl | ⟨a, i, j, rfl, h⟩
  · exact ⟨.non, rfl⟩
  · rw [BalD_ref h]
    exact ⟨.tup (SqT.of h) (.cons (.int _) (.cons (.int _) .nil)), rfl⟩
theorem balDat_eqv : ∀ x y : Option (Int × Int), PyData.eqv (balDat x) (balDat y) = decide (x = y)
  | none, none => by simp [balDat, PyData.eqv]
  | none, some y => by simp [balDat, PyData.eqv]
  | some x, none => by simp [balDat, PyData.eqv]
  | some (a, b), some (c, d) => by
    have : PyData.eqv (balDat (some (a, b))) (balDat (some (c, d))) = (decide (a = c) && (decide (b = d) && true)) := by
      simp [balDat, PyData.eqv, PyData.eqvAll]
      rfl
    rw [this, Bool.and_true]
    by_cases h1 : a = c <;> by_cases h2 : b = d <;> simp [h1, h2]
theorem isNone (v : V) (h : v = .non ∨ ∃ a, v = .ref a) : (v = .non ∧ decide (v = .non) = true) ∨ ((∃ a, v = .ref a) ∧ decide (v = .non) = false) := by
  rcases h with rfl | ⟨a, rfl⟩
  · exact .inl ⟨rfl, rfl⟩
  · exact .inr ⟨⟨a, rfl⟩, rfl⟩
def spUnder : Sp := fun vs H Q _ => ∃ x y, vs = [x, y] ∧ BalV H x ∧ BalV H y ∧ ∀ b, Q (.bl b) H
theorem ok_under (A : All P w K mg base CT) : DOk P w K mg base CX0 1 "under" ["one", "other"] [] spUnder := by
  obtain ⟨fd, F⟩ := fu_under A.d
  refine ⟨_, fd, [], FunD.ok0 F sc_under (fun vs H Q E h => ?_) (fun cdv A0 outer s H vs Q E hr h => ?_), gl_under A.kin A.ns A.d, F.kp, F.bindsN fun _ _ _ _ _ _ us hl => match us, hl with | [_, _], _ => rfl, .nil⟩
  · obtain ⟨x, y, rfl, hx, hy, k⟩ := h
    rfl
  · obtain ⟨x, y, rfl, hx, hy, k⟩ := h
    have hu := hu_of hr
    refine ⟨_, pss_cons (ps_if (pt_cmpR op_isN (pv 1) pe_non (nomark _)) (pss_one (ps_ret pe_bl)) pss_nil)
      (pss_cons (ps_if (pt_cmpR op_isN (pv 0) pe_non (nomark _)) (pss_one (ps_ret pe_bl)) pss_nil)
      (pss_one (ps_ret (pe_or (pe_cmpR op_lt (pe_ix ix_tup (pv 0) pe_int (fun _ _ => rfl)) (pe_ix ix_tup (pv 1) pe_int (fun _ _ => rfl)) (nomark _)) (pe_one (pe_and (pe_cmpR op_eq (pe_ix ix_tup (pv 0) pe_int (fun _ _ => rfl)) (pe_ix ix_tup (pv 1) pe_int (fun _ _ => rfl)) (nomark _)) (pe_one (pe_cmpR op_lt (pe_ix ix_tup (pv 0) pe_int (fun _ _ => rfl)) (pe_ix ix_tup (pv 1) pe_int (fun _ _ => rfl)) (nomark _))))))))), ?_⟩
    refine ⟨_, rfl, rfl, _, rfl, ?_⟩
    rcases hy with rfl | ⟨b, i2, j2, rfl, hb⟩
    · exact iteT (k _)
    refine iteF ⟨_, rfl, rfl, _, rfl, ?_⟩
    rcases hx with rfl | ⟨a, i1, j1, rfl, ha⟩
    · exact iteT (k _)
    refine iteF ⟨_, rfl, _, _, _, _, rfl, rfl, SqT.of ha, rfl, _, rfl, _, _, _, _, rfl, rfl, SqT.of hb, rfl, _, _, rfl, rfl, _, rfl, ite2 (fun _ => k _) (fun _ => ?_)⟩
    refine ⟨_, rfl, _, _, _, _, rfl, rfl, SqT.of ha, rfl, _, rfl, _, _, _, _, rfl, rfl, SqT.of hb, rfl, rfl, _, rfl, ite2 (fun _ => ?_) (fun _ => k _)⟩
    exact ⟨_, rfl, _, _, _, _, rfl, rfl, SqT.of ha, rfl, _, rfl, _, _, _, _, rfl, rfl, SqT.of hb, rfl, _, _, rfl, rfl, k _⟩
def spBallotOf (cs : List Int) (n : Int) (ms : List Nm) : Sp := fun vs H Q _ => ∃ y, vs = [y] ∧ YesV cs n ms H y ∧ ∀ v, BalV H v → Q v H
theorem ok_ballot_of (A : All P w K mg base CT) {cs : List Int} {n : Int} {ms : List Nm}: DOk P w K mg base CX0 1 "ballot_of" ["yes"] [] (spBallotOf cs n ms) := by
  obtain ⟨fd, F⟩ := fu_ballot_of A.d
  refine ⟨_, fd, [], FunD.ok0 F sc_ballot_of (fun vs H Q E h => ?_) (fun cdv A0 outer s H vs Q E hr h => ?_), gl_ballot_of A.kin A.ns A.d, F.kp, F.bindsN fun _ _ _ _ _ _ us hl => match us, hl with | [_], _ => rfl, .nil⟩
  · obtain ⟨y, rfl, hy, k⟩ := h
    rfl
  · obtain ⟨y, rfl, hy, k⟩ := h
    have hu := hu_of hr
    refine ⟨_, pss_cons (ps_if (pt_cmpR op_isN (pv 0) pe_non (nomark _)) (pss_one (ps_ret pe_non)) pss_nil)
      (pss_one (ps_ret (pe_ix ix_tup (pv 0) pe_int (fun _ _ => rfl)))), ?_⟩
    refine ⟨_, rfl, rfl, _, rfl, ?_⟩
    rcases hy with rfl | ⟨a, b, p, i, j, c, rfl, h1, h2, h3, h4⟩
    · exact iteT (k _ (.inl rfl))
    exact iteF ⟨_, rfl, _, _, _, _, rfl, rfl, SqT.of h1, rfl, k _ (.inr ⟨b, i, j, rfl, h2⟩)⟩
namespace Y
def spBallotOf (cs : List Int) (n : Int) (ms : List Nm) : Sp := fun vs H Q _ => ∃ y, vs = [y] ∧ YesV cs n ms H y ∧ ∀ v, BalV H v → BalD H v = YesD H y → Q v H
theorem ok_ballot_of (A : All P w K mg base CT) {cs : List Int} {n : Int} {ms : List Nm}: DOk P w K mg base CX0 1 "ballot_of" ["yes"] [] (spBallotOf cs n ms) := by
  obtain ⟨fd, F⟩ := fu_ballot_of A.d
  refine ⟨_, fd, [], FunD.ok0 F sc_ballot_of (fun vs H Q E h => ?_) (fun cdv A0 outer s H vs Q E hr h => ?_), gl_ballot_of A.kin A.ns A.d, F.kp, F.bindsN fun _ _ _ _ _ _ us hl => match us, hl with | [_], _ => rfl, .nil⟩
  · obtain ⟨y, rfl, hy, k⟩ := h
    rfl
  · obtain ⟨y, rfl, hy, k⟩ := h
    have hu := hu_of hr
    refine ⟨_, pss_cons (ps_if (pt_cmpR op_isN (pv 0) pe_non (nomark _)) (pss_one (ps_ret pe_non)) pss_nil)
      (pss_one (ps_ret (pe_ix ix_tup (pv 0) pe_int (fun _ _ => rfl)))), ?_⟩
    refine ⟨_, rfl, rfl, _, rfl, ?_⟩
    rcases hy with rfl | ⟨a, b, p, i, j, c, rfl, h1, h2, h3, h4⟩
    · exact iteT (k _ (.inl rfl) rfl)
    exact iteF ⟨_, rfl, _, _, _, _, rfl, rfl, SqT.of h1, rfl, k _ (.inr ⟨b, i, j, rfl, h2⟩) (by rw [BalD_ref h2, YesD_ref h1 h2])⟩
end Y
structure Ch where
  me : Int
  hands : Int
  votes : Int
  bal : V
  yes : V
  agr : V
  dx : Addr
  rD : Addr
  reps : List (Int × Addr)
def Ch.rc (C : Ch) : ChangeR := ⟨.int C.me, .int C.hands, C.bal, C.yes, .int C.votes, .ref C.rD, C.agr⟩
abbrev chO (K : PySem.W.Frag) (C : Ch) : HO := .ins (He.ga K "Change") C.dx (ChangeR.fs C.rc)
def encE (l : List (Int × Addr)) : List (Key × V) := l.map fun e => ((Sum.inl e.1 : Key), V.ref e.2)
/-- a report that is kept, with its yes -/
def EntAt (cs : List Int) (n : Int) (ms : List Nm) (B : Nat) (H : Hp) (a : Addr) : Prop := ∃ r R y, H a = some (.tup [.ref r, y]) ∧ RepAt H r R ∧ RepOK cs n ms R ∧ R.os.length ≤ B ∧ YesV cs n ms H y
theorem EntAt.ext {cs : List Int} {n : Int} {ms : List Nm} {B : Nat} {H H1 : Hp} {a : Addr} (h : EntAt cs n ms B H a) (x : Ext H H1) : EntAt cs n ms B H1 a := by
  obtain ⟨r, R, y, h1, h2, h3, h4, h5⟩ := h
  exact ⟨r, R, y, x _ _ h1 trivial, h2.ext x, h3, h4, h5.ext x⟩
theorem EntAt.mono {cs : List Int} {n : Int} {ms ms' : List Nm} {B B' : Nat} {H : Hp} {a : Addr} (h : EntAt cs n ms B H a) (s : ∀ x ∈ ms, x ∈ ms') (hB : B ≤ B') : EntAt cs n ms' B' H a := by
  obtain ⟨r, R, y, h1, h2, h3, h4, h5⟩ := h
  exact ⟨r, R, y, h1, h2, h3.mono s, Nat.le_trans h4 hB, h5.mono s⟩
structure ChAt (K : PySem.W.Frag) (cs : List Int) (n : Int) (ms : List Nm) (B : Nat) (H : Hp) (p : Addr) (C : Ch) : Prop where
  ins : H p = some (chO K C)
  bal : BalV H C.bal
  yes : YesV cs n ms H C.yes
  agr : PlanV cs n ms H C.agr
  rd : H C.rD = some (.dK (encE C.reps))
  ent : ∀ e ∈ C.reps, EntAt cs n ms B H e.2 ∧ e.1 ∈ cs
  nd : (C.reps.map (·.1)).Nodup
  me : 0 ≤ C.me ∧ C.me ≤ 62
theorem ChAt.keep {K : PySem.W.Frag} {cs : List Int} {n : Int} {ms : List Nm} {B : Nat} {H H1 : Hp} {p : Addr} {C : Ch} (h : ChAt K cs n ms B H p C) (kp : ∀ o, H p = some o → H1 p = some o) (kr : ∀ o, H C.rD = some o → H1 C.rD = some o) (x : Ext H H1) : ChAt K cs n ms B H1 p C :=
  ⟨kp _ h.ins, h.bal.ext x, h.yes.ext x, h.agr.ext x, kr _ h.rd, fun e he => ⟨(h.ent e he).1.ext x, (h.ent e he).2⟩, h.nd, h.me⟩
theorem ChAt.same {K : PySem.W.Frag} {cs : List Int} {n : Int} {ms : List Nm} {B : Nat} {H H1 : Hp} {p : Addr} {C : Ch} (h : ChAt K cs n ms B H p C) (s : Same H H1) : ChAt K cs n ms B H1 p C := h.keep (fun o => s _ _) (fun o => s _ _) (.of s)
theorem ChAt.mono {K : PySem.W.Frag} {cs : List Int} {n : Int} {ms ms' : List Nm} {B B' : Nat} {H : Hp} {p : Addr} {C : Ch} (h : ChAt K cs n ms B H p C) (s : ∀ x ∈ ms, x ∈ ms') (hB : B ≤ B') : ChAt K cs n ms' B' H p C :=
  ⟨h.ins, h.bal, h.yes.mono s, h.agr.mono s, h.rd, fun e he => ⟨(h.ent e he).1.mono s hB, (h.ent e he).2⟩, h.nd, h.me⟩
theorem ChAt.len {K : PySem.W.Frag} {cs : List Int} {n : Int} {ms : List Nm} {B : Nat} {H : Hp} {p : Addr} {C : Ch} (h : ChAt K cs n ms B H p C) : C.reps.length ≤ cs.length := by
  have := nodup_len h.nd (m := cs) fun x hx => by
    obtain ⟨e, he, ee⟩ := List.mem_map.mp hx
    rw [← ee]; exact (h.ent e he).2
  rwa [List.length_map] at this
theorem ch_imm {K : PySem.W.Frag} {C : Ch} : ¬ Imm (chO K C) := fun z => absurd z (by show ¬ (7 = 5); decide)
theorem ChAt.ext1 {K : PySem.W.Frag} {cs : List Int} {n : Int} {ms : List Nm} {B : Nat} {H H1 : Hp} {p : Addr} {C : Ch} (h : ChAt K cs n ms B H p C) (kp : Kp [p] H H1) : Ext H H1 := kp.ext fun z hz o ho => by
  rw [List.mem_singleton.mp hz, h.ins] at ho; cases ho; exact ch_imm
theorem ChAt.ext2 {K : PySem.W.Frag} {cs : List Int} {n : Int} {ms : List Nm} {B : Nat} {H H1 : Hp} {p : Addr} {C : Ch} (h : ChAt K cs n ms B H p C) (kp : Kp [p, C.rD] H H1) : Ext H H1 := kp.ext fun z hz o ho => by
  rcases List.mem_cons.mp hz with zz | zz
  · rw [zz, h.ins] at ho; cases ho; exact ch_imm
  · rw [List.mem_singleton.mp zz, h.rd] at ho; cases ho; exact fun z => z
/-- a field of it is written, the dict of reports stays -/
theorem ChAt.put {K : PySem.W.Frag} {cs : List Int} {n : Int} {ms : List Nm} {B : Nat} {H : Hp} {p : Addr} {C : Ch} {bal yes agr : V} {votes : Int} (h : ChAt K cs n ms B H p C) (hb : BalV H bal) (hy : YesV cs n ms H yes) (ha : PlanV cs n ms H agr) :
    ChAt K cs n ms B (upd H p (chO K { C with bal := bal, yes := yes, agr := agr, votes := votes })) p { C with bal := bal, yes := yes, agr := agr, votes := votes } := by
  have kp : Kp [p] H (upd H p (chO K { C with bal := bal, yes := yes, agr := agr, votes := votes })) := Kp.upd Kp.refl List.mem_cons_self
  have x := h.ext1 kp
  refine ⟨upd_same, hb.ext x, hy.ext x, ha.ext x, ?_, fun e he => ⟨(h.ent e he).1.ext x, (h.ent e he).2⟩, h.nd, h.me⟩
  show upd H p _ C.rD = _
  rw [upd_ne (ne_of h.rd h.ins (by intro z; cases z))]
  exact h.rd
theorem ChAt.putD {K : PySem.W.Frag} {cs : List Int} {n : Int} {ms : List Nm} {B : Nat} {H : Hp} {p d : Addr} {C : Ch} {l : List (Int × Addr)} (h : ChAt K cs n ms B H p C) (hd : H d = some (.dK (encE l))) (hl : ∀ e ∈ l, EntAt cs n ms B H e.2 ∧ e.1 ∈ cs) (hn : (l.map (·.1)).Nodup) :
    ChAt K cs n ms B (upd H p (chO K { C with rD := d, reps := l })) p { C with rD := d, reps := l } := by
  have kp : Kp [p] H (upd H p (chO K { C with rD := d, reps := l })) := Kp.upd Kp.refl List.mem_cons_self
  have x := h.ext1 kp
  refine ⟨upd_same, h.bal.ext x, h.yes.ext x, h.agr.ext x, ?_, fun e he => ⟨(hl e he).1.ext x, (hl e he).2⟩, hn, h.me⟩
  show upd H p _ d = _
  rw [upd_ne (ne_of hd h.ins (by intro z; cases z))]
  exact hd

end
end G
namespace G
open PySem PySem.Spec L2
open PyProof.Rows hiding St
section
variable {P : Program} {w : World} {K : PySem.W.Frag} {mg : Str → Option Value} {base : Heap} {CT : Addr × Addr}
def ChSame (C C' : Ch) : Prop := C'.me = C.me ∧ C'.hands = C.hands
/-- what settle does -/
structure StOut (C C' : Ch) : Prop where
  bal : C'.bal = C.bal
  yes : C'.yes = C.yes
  votes : C'.votes = C.votes
  stay : C.agr ≠ .non → C'.agr = C.agr
  fr : C.agr = .non → C'.agr ≠ .non → ∃ r1 r2, PM (Builtin.bitAnd C.votes C.hands) r1 ∧ PM C.hands r2 ∧ 2 * r1 > r2
  to : C.agr = .non → C.yes ≠ .non → (∀ r1 r2, PM (Builtin.bitAnd C.votes C.hands) r1 → PM C.hands r2 → 2 * r1 > r2) → C'.agr ≠ .non
def spChM (K : PySem.W.Frag) (cs : List Int) (n : Int) (ms : List Nm) (B : Nat) : Sp := fun vs H Q _ => ∃ p C, vs = [.ref p] ∧ ChAt K cs n ms B H p C ∧ ∀ C' H', Kp [p] H H' → ChAt K cs n ms B H' p C' → ChSame C C' → C'.rD = C.rD → C'.reps = C.reps → StOut C C' → Q .non H'
theorem ok_Change_settle (A : All P w K mg base CT) {cs : List Int} {n : Int} {ms : List Nm} {B : Nat}: MOk P w K mg base CX0 3 (He.ga K "Change") "settle" ["self"] [] (spChM K cs n ms B) := by
  obtain ⟨fd, F⟩ := fu_Change_settle A.d
  refine ⟨cl_Change A.d, _, fd, [], FunD.ok0 F sc_Change_settle (fun vs H Q E h => ?_) (fun cdv A0 outer s H vs Q E hr h => ?_), me_Change_settle A.d, F.bindsN fun _ _ _ _ _ _ us hl => match us, hl with | [_], _ => rfl, .nil⟩
  · obtain ⟨p, C, rfl, hp, k⟩ := h
    rfl
  · obtain ⟨p, C, rfl, hp, k⟩ := h
    have hu := hu_of hr
    refine ⟨_, pss_one (ps_if (PW.pt (pw_and (pt_cmpR op_isN (pe_Change_agreed A.d (pv 0)) pe_non (nomark _)) (pw_and (pt_cmpR op_notN (pe_Change_yes A.d (pv 0)) pe_non (nomark _)) (pw_and1 (pt_val ((ok_more_than_half A).pe hr pass0 (pa_cons (pe_Change_votes A.d (pv 0)) (pa_cons (pe_Change_hands A.d (pv 0)) pa_nil)))))))) (pss_one (ps_Change_agreed A.d (pv 0) (pe_ix ix_tup (pe_Change_yes A.d (pv 0)) pe_int (fun _ _ => rfl)))) pss_nil), ?_⟩
    have skip : StOut C C → Q .non H := k C H Kp.refl hp ⟨rfl, rfl⟩ rfl rfl
    obtain ⟨me, hands, votes, bal, yes, agr, dx, rD, reps⟩ := C
    have ha0 : PlanV cs n ms H agr := hp.agr
    have hy0 : YesV cs n ms H yes := hp.yes
    refine ⟨_, rfl, p, dx, _, rfl, hp.ins, rfl, _, rfl, ?_⟩
    rcases ha0 with rfl | ⟨a1, c1, rfl, _⟩
    · refine iteT ⟨_, rfl, p, dx, _, rfl, hp.ins, rfl, _, rfl, ?_⟩
      rcases hy0 with rfl | ⟨a, b, q, i, j, c, rfl, h1, h2, h3, h4⟩
      · exact iteF (skip ⟨rfl, rfl, rfl, fun _ => rfl, fun _ z => absurd rfl z, fun _ z => absurd rfl z⟩)
      · refine iteT ⟨_, rfl, p, dx, _, rfl, hp.ins, _, rfl, p, dx, _, rfl, hp.ins, votes, hands, rfl, fun r1 r2 p1 p2 => ⟨_, rfl, ?_⟩⟩
        refine ite2 (fun hb => ?_) (fun hb => skip ⟨rfl, rfl, rfl, fun _ => rfl, fun _ z => absurd rfl z, fun _ _ z => absurd (decide_eq_true (z r1 r2 p1 p2)) hb⟩)
        have h5 := hp.put (votes := votes) (agr := .ref q) hp.bal hp.yes (.inr ⟨q, c, rfl, h3, h4⟩)
        exact ⟨_, rfl, p, dx, _, rfl, hp.ins, _, _, _, _, rfl, rfl, SqT.of h1, rfl, _, rfl, p, dx, _, rfl, hp.ins, k _ _ (Kp.upd Kp.refl List.mem_cons_self) h5 ⟨rfl, rfl⟩ rfl rfl ⟨rfl, rfl, rfl, fun z => absurd rfl z, fun _ _ => ⟨r1, r2, p1, p2, of_decide_eq_true hb⟩, fun _ _ _ => fun z => nomatch z⟩⟩
    · exact iteF (skip ⟨rfl, rfl, rfl, fun _ => rfl, fun z => (nomatch z), fun z => nomatch z⟩)
/-- its ballot is its own and has no plan yet -/
def Unp (H : Hp) (C : Ch) : Prop := (∃ i, BalD H C.bal = some (i, C.me)) ∧ YesD H C.yes ≠ BalD H C.bal
theorem Unp.ext {K : PySem.W.Frag} {cs : List Int} {n : Int} {ms : List Nm} {B : Nat} {H H1 : Hp} {p : Addr} {C : Ch} (h : ChAt K cs n ms B H p C) (x : Ext H H1) : Unp H1 C ↔ Unp H C := by
  unfold Unp
  rw [h.bal.ext_D x, h.yes.ext_D x]
def spUnplanned (K : PySem.W.Frag) (cs : List Int) (n : Int) (ms : List Nm) (B : Nat) : Sp := fun vs H Q _ => ∃ p C, vs = [.ref p] ∧ ChAt K cs n ms B H p C ∧ (C.bal = .non → Q (.bl false) H) ∧ (C.bal ≠ .non → ∀ b : Bool, (b = true ↔ Unp H C) → Q (.bl b) H)
theorem ok_Change_unplanned (A : All P w K mg base CT) {cs : List Int} {n : Int} {ms : List Nm} {B : Nat}: MOk P w K mg base CX0 3 (He.ga K "Change") "unplanned" ["self"] [] (spUnplanned K cs n ms B) := by
  obtain ⟨fd, F⟩ := fu_Change_unplanned A.d
  refine ⟨cl_Change A.d, _, fd, [], FunD.ok0 F sc_Change_unplanned (fun vs H Q E h => ?_) (fun cdv A0 outer s H vs Q E hr h => ?_), me_Change_unplanned A.d, F.bindsN fun _ _ _ _ _ _ us hl => match us, hl with | [_], _ => rfl, .nil⟩
  · obtain ⟨p, C, rfl, hp, k0, k⟩ := h
    rfl
  · obtain ⟨p, C, rfl, hp, k0, k⟩ := h
    have hu := hu_of hr
    refine ⟨_, pss_cons (ps_if (PW.pt (pw_or (pt_cmpR op_isN (pe_Change_ballot A.d (pv 0)) pe_non (nomark _)) (pw_or1 (pt_cmpR op_ne (pe_ix ix_tup (pe_Change_ballot A.d (pv 0)) pe_int (fun _ _ => rfl)) (pe_Change_me A.d (pv 0)) (nomark _))))) (pss_one (ps_ret pe_bl)) pss_nil)
      (pss_one (ps_ret (pe_cmpR (op_neD hr.units) ((Y.ok_ballot_of A (cs := cs) (n := n) (ms := ms)).pe hr pass0 (pa_cons (pe_Change_yes A.d (pv 0)) pa_nil)) (pe_Change_ballot A.d (pv 0)) (nomark _)))), ?_⟩
    obtain ⟨me, hands, votes, bal, yes, agr, dx, rD, reps⟩ := C
    have hb0 : BalV H bal := hp.bal
    refine ⟨_, rfl, p, dx, _, rfl, hp.ins, rfl, _, rfl, ?_⟩
    rcases hb0 with rfl | ⟨a, i, j, rfl, h1⟩
    · exact iteT (k0 rfl)
    · have k := k fun z => nomatch z
      have eb : BalD H (.ref a) = some (i, j) := BalD_ref h1
      refine iteF ⟨_, rfl, p, dx, _, rfl, hp.ins, _, _, _, _, rfl, rfl, SqT.of h1, rfl, _, rfl, p, dx, _, rfl, hp.ins, rfl, _, rfl, ite2 (fun e => k _ ⟨fun z => (nomatch z), fun ⟨⟨i', z⟩, _⟩ => ?_⟩) (fun e => ?_)⟩
      · have z : BalD H (.ref a) = some (i', me) := z
        rw [eb] at z
        have ej : j = me := congrArg (fun x : Option (Int × Int) => (x.getD (0, 0)).2) z
        have e : (!decide (V.int j = V.int me)) = true := e
        rw [ej, decide_eq_true rfl] at e
        cases e
      · have ej : j = me := by
          by_cases z : j = me
          · exact z
          · exact absurd (by show (!decide (V.int j = V.int me)) = true; rw [decV, decide_eq_false z]; rfl) e
        refine ⟨_, rfl, p, dx, _, rfl, hp.ins, yes, rfl, hp.yes, fun v hv hvD => ?_⟩
        obtain ⟨q1, q2⟩ := hv.dp2 (K := K)
        obtain ⟨q3, q4⟩ := hp.bal.dp2 (K := K)
        refine ⟨_, rfl, p, dx, _, rfl, hp.ins, _, _, q1, q3, q2, q4, k _ ?_⟩
        rw [balDat_eqv, hvD]
        show (!decide (YesD H yes = BalD H (.ref a))) = true ↔ _
        rw [Bool.not_eq_true', decide_eq_false_iff_not]
        exact ⟨fun z => ⟨⟨i, by show BalD H (.ref a) = _; rw [eb, ej]⟩, z⟩, fun z => z.2⟩
def spSettled (K : PySem.W.Frag) (cs : List Int) (n : Int) (ms : List Nm) (B : Nat) : Sp := fun vs H Q _ => ∃ p C, vs = [.ref p] ∧ ChAt K cs n ms B H p C ∧ Q C.agr H
theorem ok_Change_settled (A : All P w K mg base CT) {cs : List Int} {n : Int} {ms : List Nm} {B : Nat}: MOk P w K mg base CX0 1 (He.ga K "Change") "settled" ["self"] [] (spSettled K cs n ms B) := by
  obtain ⟨fd, F⟩ := fu_Change_settled A.d
  refine ⟨cl_Change A.d, _, fd, [], FunD.ok0 F sc_Change_settled (fun vs H Q E h => ?_) (fun cdv A0 outer s H vs Q E hr h => ?_), me_Change_settled A.d, F.bindsN fun _ _ _ _ _ _ us hl => match us, hl with | [_], _ => rfl, .nil⟩
  · obtain ⟨p, C, rfl, hp, k⟩ := h
    rfl
  · obtain ⟨p, C, rfl, hp, k⟩ := h
    have hu := hu_of hr
    refine ⟨_, pss_one (ps_ret (pe_Change_agreed A.d (pv 0))), ?_⟩
    exact ⟨_, rfl, p, C.dx, C.rc, rfl, hp.ins, k⟩

end
end G
namespace G
open PySem PySem.Spec L2
open PyProof.Rows hiding St
section
variable {P : Program} {w : World} {K : PySem.W.Frag} {mg : Str → Option Value} {base : Heap} {CT : Addr × Addr}
def spRecYes (K : PySem.W.Frag) (cs : List Int) (n : Int) (ms : List Nm) (B : Nat) : Sp := fun vs H Q _ => ∃ p C y v, vs = [.ref p, y, .int v] ∧ ChAt K cs n ms B H p C ∧ YesV cs n ms H y ∧ ∀ C' H', Kp [p] H H' → ChAt K cs n ms B H' p C' → ChSame C C' → C'.rD = C.rD → C'.reps = C.reps → Q .non H'
theorem ok_Change_receive_yes (A : All P w K mg base CT) {cs : List Int} {n : Int} {ms : List Nm} {B : Nat}: MOk P w K mg base CX0 4 (He.ga K "Change") "receive_yes" ["self", "yes", "votes"] [] (spRecYes K cs n ms B) := by
  obtain ⟨fd, F⟩ := fu_Change_receive_yes A.d
  refine ⟨cl_Change A.d, _, fd, [], FunD.ok0 F sc_Change_receive_yes (fun vs H Q E h => ?_) (fun cdv A0 outer s H vs Q E hr h => ?_), me_Change_receive_yes A.d, F.bindsN fun _ _ _ _ _ _ us hl => match us, hl with | [_, _, _], _ => rfl, .nil⟩
  · obtain ⟨p, C, y, v, rfl, hp, hy, k⟩ := h
    rfl
  · obtain ⟨p, C, y, v, rfl, hp, hy, k⟩ := h
    have hu := hu_of hr
    refine ⟨_, pss_cons (ps_if (pt_cmpR op_isN (pv 1) pe_non (nomark _)) (pss_one ps_retN) pss_nil)
      (pss_cons (ps_cut (ps_if (PW.pt (pw_and (pt_cmpR (op_eqD hr.units) (pe_ix ix_tup (pv 1) pe_int (fun _ _ => rfl)) (pe_Change_ballot A.d (pv 0)) (nomark _)) (pw_and1 (pt_val ((ok_under A).pe hr pass0 (pa_cons ((ok_ballot_of A (cs := cs) (n := n) (ms := ms)).pe hr pass0 (pa_cons (pe_Change_yes A.d (pv 0)) pa_nil)) (pa_cons (pe_ix ix_tup (pv 1) pe_int (fun _ _ => rfl)) pa_nil))))))) (pss_cons (ps_Change_yes A.d (pv 0) (pv 1)) (pss_one (ps_Change_votes A.d (pv 0) (pe_op op_or (pv 2) (pe_op op_shl pe_int (pe_Change_me A.d (pv 0))))))) (pss_one (ps_if (pt_cmpR (op_eqD hr.units) (pe_ix ix_tup (pv 1) pe_int (fun _ _ => rfl)) ((ok_ballot_of A (cs := cs) (n := n) (ms := ms)).pe hr pass0 (pa_cons (pe_Change_yes A.d (pv 0)) pa_nil)) (nomark _)) (pss_one (ps_Change_votes A.d (pv 0) (pe_op op_or (pe_Change_votes A.d (pv 0)) (pv 2)))) pss_nil))))
      (pss_one (ps_expr ((ok_Change_settle A (cs := cs) (n := n) (ms := ms) (B := B)).pe0 hr pass0 (pv 0))))), ?_⟩
    refine ⟨_, rfl, rfl, _, rfl, ?_⟩
    rcases hy with rfl | ⟨a, b, q, i, j, c, rfl, h1, h2, h3, h4⟩
    · exact iteT (k C H Kp.refl hp ⟨rfl, rfl⟩ rfl rfl)
    have hy : YesV cs n ms H (.ref a) := .inr ⟨a, b, q, i, j, c, rfl, h1, h2, h3, h4⟩
    obtain ⟨me, hands, votes, bal, yes, agr, dx, rD, reps⟩ := C
    have dpb : Dp K H (.ref b) (.tuple [.int i, .int j]) := .tup (SqT.of h2) (.cons (.int _) (.cons (.int _) .nil))
    have m : 0 ≤ me ∧ me ≤ 62 := hp.me
    refine iteF ⟨fun σ' H' => ∃ bal' yes' votes', σ' = [some (.ref p), some (.ref a), some (.int v)] ∧ Kp [p] H H' ∧ ChAt K cs n ms B H' p ⟨me, hands, votes', bal', yes', agr, dx, rD, reps⟩, ?_, ?_⟩
    · obtain ⟨d2, q3, q4⟩ := hp.bal.dp (K := K)
      refine ⟨_, rfl, _, _, _, _, rfl, rfl, SqT.of h1, rfl, _, rfl, p, dx, _, rfl, hp.ins, _, d2, dpb, q3, rfl, q4, _, rfl, ?_⟩
      have elif : ∀ (b1 : Bool), True := fun _ => trivial
      have tail : ∃ bal' yes' votes', [some (V.ref p), some (V.ref a), some (V.int v)] = [some (.ref p), some (.ref a), some (.int v)] ∧ Kp [p] H H ∧ ChAt K cs n ms B H p ⟨me, hands, votes', bal', yes', agr, dx, rD, reps⟩ := ⟨_, _, _, rfl, Kp.refl, hp⟩
      refine ite2 (fun _ => ?_) (fun _ => ?_)
      · refine ⟨_, rfl, p, dx, _, rfl, hp.ins, yes, rfl, hp.yes, fun w hw => ⟨_, rfl, _, _, _, _, rfl, rfl, SqT.of h1, rfl, w, .ref b, rfl, hw, .inr ⟨b, i, j, rfl, h2⟩, fun b1 => ⟨_, rfl, ?_⟩⟩⟩
        refine ite2 (fun _ => ?_) (fun _ => ?_)
        · refine ⟨_, rfl, _, rfl, p, dx, _, rfl, hp.ins, ?_⟩
          have hp1 := hp.put (yes := .ref a) (votes := votes) hp.bal hy hp.agr
          refine ⟨_, rfl, _, rfl, p, dx, _, rfl, hp1.ins, _, _, rfl, rfl, ⟨m.1, by show me ≤ 1000000; omega, by decide⟩, _, _, rfl, rfl, _, rfl, p, dx, _, rfl, hp1.ins, ?_⟩
          have hp2 := hp1.put (votes := Builtin.bitOr v (1 * 2 ^ me.toNat)) hp1.bal hp1.yes hp1.agr
          exact ⟨_, _, _, rfl, Kp.upd (Kp.upd Kp.refl List.mem_cons_self) List.mem_cons_self, hp2⟩
        · refine ⟨_, rfl, _, _, _, _, rfl, rfl, SqT.of h1, rfl, _, rfl, p, dx, _, rfl, hp.ins, yes, rfl, hp.yes, fun w2 hw2 => ?_⟩
          obtain ⟨d5, q5, q6⟩ := hw2.dp (K := K)
          refine ⟨_, d5, dpb, q5, rfl, q6, _, rfl, ite2 (fun _ => ?_) (fun _ => tail)⟩
          refine ⟨_, rfl, p, dx, _, rfl, hp.ins, _, rfl, _, _, rfl, rfl, _, rfl, p, dx, _, rfl, hp.ins, ?_⟩
          have hp2 := hp.put (votes := Builtin.bitOr votes v) hp.bal hp.yes hp.agr
          exact ⟨_, _, _, rfl, Kp.upd Kp.refl List.mem_cons_self, hp2⟩
      · refine ⟨_, rfl, _, _, _, _, rfl, rfl, SqT.of h1, rfl, _, rfl, p, dx, _, rfl, hp.ins, yes, rfl, hp.yes, fun w2 hw2 => ?_⟩
        obtain ⟨d5, q5, q6⟩ := hw2.dp (K := K)
        refine ⟨_, d5, dpb, q5, rfl, q6, _, rfl, ite2 (fun _ => ?_) (fun _ => tail)⟩
        refine ⟨_, rfl, p, dx, _, rfl, hp.ins, _, rfl, _, _, rfl, rfl, _, rfl, p, dx, _, rfl, hp.ins, ?_⟩
        have hp2 := hp.put (votes := Builtin.bitOr votes v) hp.bal hp.yes hp.agr
        exact ⟨_, _, _, rfl, Kp.upd Kp.refl List.mem_cons_self, hp2⟩
    rintro σ1 H1 ⟨bal', yes', votes', rfl, kp1, hp1⟩
    refine ⟨_, rfl, p, dx, _, rfl, hp1.ins, by kernel_rfl, p, _, rfl, hp1, fun C' H' kp2 hp2 hs hr2 hr3 _ => ?_⟩
    exact k C' H' (kp1.trans kp2) hp2 hs hr2 hr3
structure Ms where
  h : Int
  bal : V
  yes : V
  votes : Int
  rep : V
def RepV (cs : List Int) (n : Int) (ms : List Nm) (B : Nat) (H : Hp) (v : V) : Prop := ∃ r R, v = .ref r ∧ RepAt H r R ∧ RepOK cs n ms R ∧ R.os.length ≤ B
theorem RepV.ext {cs : List Int} {n : Int} {ms : List Nm} {B : Nat} {H H1 : Hp} {v : V} (h : RepV cs n ms B H v) (x : Ext H H1) : RepV cs n ms B H1 v := by
  obtain ⟨r, R, e, h1, h2, h3⟩ := h
  exact ⟨r, R, e, h1.ext x, h2, h3⟩
theorem RepV.mono {cs : List Int} {n : Int} {ms ms' : List Nm} {B B' : Nat} {H : Hp} {v : V} (h : RepV cs n ms B H v) (s : ∀ x ∈ ms, x ∈ ms') (hB : B ≤ B') : RepV cs n ms' B' H v := by
  obtain ⟨r, R, e, h1, h2, h3⟩ := h
  exact ⟨r, R, e, h1, h2.mono s, Nat.le_trans h3 hB⟩
structure MsAt (cs : List Int) (n : Int) (ms : List Nm) (B : Nat) (H : Hp) (t : Addr) (M : Ms) : Prop where
  tup : H t = some (.tup [.int M.h, M.bal, M.yes, .int M.votes, M.rep])
  bal : BalV H M.bal
  yes : YesV cs n ms H M.yes
  rep : M.bal ≠ .non → RepV cs n ms B H M.rep
  h : M.h ∈ cs
theorem MsAt.ext {cs : List Int} {n : Int} {ms : List Nm} {B : Nat} {H H1 : Hp} {t : Addr} {M : Ms} (h : MsAt cs n ms B H t M) (x : Ext H H1) : MsAt cs n ms B H1 t M := ⟨x _ _ h.tup trivial, h.bal.ext x, h.yes.ext x, fun z => (h.rep z).ext x, h.h⟩
theorem MsAt.mono {cs : List Int} {n : Int} {ms ms' : List Nm} {B B' : Nat} {H : Hp} {t : Addr} {M : Ms} (h : MsAt cs n ms B H t M) (s : ∀ x ∈ ms, x ∈ ms') (hB : B ≤ B') : MsAt cs n ms' B' H t M := ⟨h.tup, h.bal, h.yes.mono s, fun z => (h.rep z).mono s hB, h.h⟩
def spMessage (K : PySem.W.Frag) (cs : List Int) (n : Int) (ms : List Nm) (B : Nat) : Sp := fun vs H Q _ => ∃ p C rv, vs = [.ref p, rv] ∧ ChAt K cs n ms B H p C ∧ C.me ∈ cs ∧ (C.bal ≠ .non → RepV cs n ms B H rv) ∧ ∀ t M H', H t = none → Same H H' → MsAt cs n ms B H' t M → Q (.ref t) H'
theorem ok_Change_message (A : All P w K mg base CT) {cs : List Int} {n : Int} {ms : List Nm} {B : Nat}: MOk P w K mg base CX0 1 (He.ga K "Change") "message" ["self", "report"] [] (spMessage K cs n ms B) := by
  obtain ⟨fd, F⟩ := fu_Change_message A.d
  refine ⟨cl_Change A.d, _, fd, [], FunD.ok0 F sc_Change_message (fun vs H Q E h => ?_) (fun cdv A0 outer s H vs Q E hr h => ?_), me_Change_message A.d, F.bindsN fun _ _ _ _ _ _ us hl => match us, hl with | [_, _], _ => rfl, .nil⟩
  · obtain ⟨p, C, rv, rfl, hp, hme, hrv, k⟩ := h
    rfl
  · obtain ⟨p, C, rv, rfl, hp, hme, hrv, k⟩ := h
    have hu := hu_of hr
    refine ⟨_, pss_one (ps_ret (pe_tup (pa_cons (pe_Change_me A.d (pv 0)) (pa_cons (pe_Change_ballot A.d (pv 0)) (pa_cons (pe_Change_yes A.d (pv 0)) (pa_cons (pe_Change_votes A.d (pv 0)) (pa_cons (pv 1) pa_nil))))))), ?_⟩
    refine ⟨_, rfl, p, C.dx, C.rc, rfl, hp.ins, _, rfl, p, C.dx, C.rc, rfl, hp.ins, _, rfl, p, C.dx, C.rc, rfl, hp.ins, _, rfl, p, C.dx, C.rc, rfl, hp.ins, _, rfl, (by show 5 ≤ sizeLine; decide), fun t ht => ?_⟩
    have s1 := same_new (o := .tup [.int C.me, C.bal, C.yes, .int C.votes, rv]) ht
    exact k t ⟨C.me, C.bal, C.yes, C.votes, rv⟩ _ ht s1 ⟨upd_same, hp.bal.ext (.of s1), hp.yes.ext (.of s1), fun z => (hrv z).ext (.of s1), hme⟩
theorem putK_encE (l : List (Int × Addr)) (h : Int) (T : Addr) : putK (encE l) (Sum.inl h : Key) (.ref T) = encE (putG l h T) := putK_map_g (f := fun c => (Sum.inl c : Key)) (fun _ _ z => Sum.inl.inj z) V.ref l h T
theorem valV_encE (l : List (Int × Addr)) (h : Int) : valV (encE l) (Sum.inl h : Key) = (getG l h).map V.ref := valV_map_g (f := fun c => (Sum.inl c : Key)) (fun _ _ z => Sum.inl.inj z) V.ref h l
theorem encE_len (l : List (Int × Addr)) : (encE l).length = l.length := List.length_map _
theorem ChAt.addE {K : PySem.W.Frag} {cs : List Int} {n : Int} {ms : List Nm} {B : Nat} {H : Hp} {p T : Addr} {C : Ch} {h : Int} (hp : ChAt K cs n ms B H p C) (hT : EntAt cs n ms B H T) (hh : h ∈ cs) : ChAt K cs n ms B (upd H C.rD (.dK (encE (putG C.reps h T)))) p { C with reps := putG C.reps h T } := by
  have kp : Kp [C.rD] H (upd H C.rD (.dK (encE (putG C.reps h T)))) := Kp.upd Kp.refl List.mem_cons_self
  have x : Ext H (upd H C.rD (.dK (encE (putG C.reps h T)))) := kp.ext fun z hz o ho => by
    rw [List.mem_singleton.mp hz, hp.rd] at ho; cases ho; exact fun z => z
  refine ⟨?_, hp.bal.ext x, hp.yes.ext x, hp.agr.ext x, upd_same, fun e he => ?_, nd_putG hp.nd, hp.me⟩
  · rw [upd_ne (ne_of hp.ins hp.rd (by intro z; cases z))]; exact hp.ins
  · rcases mem_putG e he with z | z
    · rw [z]; exact ⟨hT.ext x, hh⟩
    · exact ⟨(hp.ent e z).1.ext x, (hp.ent e z).2⟩
def spReceive (K : PySem.W.Frag) (cs : List Int) (n : Int) (ms : List Nm) (B : Nat) : Sp := fun vs H Q _ => ∃ p C t M, vs = [.ref p, .ref t] ∧ ChAt K cs n ms B H p C ∧ MsAt cs n ms B H t M ∧ cs.length ≤ 60 ∧ ∀ C' H', Kp [p, C.rD] H H' → ChAt K cs n ms B H' p C' → ChSame C C' → (C'.rD = C.rD ∨ H C'.rD = none) → Q .non H'
theorem ok_Change_receive (A : All P w K mg base CT) {cs : List Int} {n : Int} {ms : List Nm} {B : Nat}: MOk P w K mg base CX0 5 (He.ga K "Change") "receive" ["self", "message"] [] (spReceive K cs n ms B) := by
  obtain ⟨fd, F⟩ := fu_Change_receive A.d
  refine ⟨cl_Change A.d, _, fd, [], FunD.ok0 F sc_Change_receive (fun vs H Q E h => ?_) (fun cdv A0 outer s H vs Q E hr h => ?_), me_Change_receive A.d, F.bindsN fun _ _ _ _ _ _ us hl => match us, hl with | [_, _], _ => rfl, .nil⟩
  · obtain ⟨p, C, t, M, rfl, hp, hM, hcs, k⟩ := h
    rfl
  · obtain ⟨p, C, t, M, rfl, hp, hM, hcs, k⟩ := h
    have hu := hu_of hr
    refine ⟨_, pss_cons (ps_asg (pv 1) (pg_tup rfl (pgs_cons (pg_name (i := 2) sc_Change_receive.nd rfl (by first | exact Or.inl rfl | exact Or.inr rfl)) (pgs_cons (pg_name (i := 3) sc_Change_receive.nd rfl (by first | exact Or.inl rfl | exact Or.inr rfl)) (pgs_cons (pg_name (i := 4) sc_Change_receive.nd rfl (by first | exact Or.inl rfl | exact Or.inr rfl)) (pgs_cons (pg_name (i := 5) sc_Change_receive.nd rfl (by first | exact Or.inl rfl | exact Or.inr rfl)) (pgs_cons (pg_name (i := 6) sc_Change_receive.nd rfl (by first | exact Or.inl rfl | exact Or.inr rfl)) pgs_nil)))))))
      (pss_cons (ps_cut (ps_if (pt_val ((ok_under A).pe hr pass0 (pa_cons (pe_Change_ballot A.d (pv 0)) (pa_cons (pv 3) pa_nil)))) (pss_cons (ps_Change_ballot A.d (pv 0) (pv 3)) (pss_one (ps_Change_reports A.d (pv 0) pe_dnewK))) pss_nil))
      (pss_cons (ps_expr ((ok_Change_receive_yes A (cs := cs) (n := n) (ms := ms) (B := B)).pe hr pass0 (pv 0) (pa_cons (pv 4) (pa_cons (pv 5) pa_nil))))
      (pss_one (ps_if (PW.pt (pw_and (pt_cmpR op_notN (pv 3) pe_non (nomark _)) (pw_and (pt_cmpR (op_eqD hr.units) (pv 3) (pe_Change_ballot A.d (pv 0)) (nomark _)) (pw_and1 (pt_val ((ok_Change_unplanned A (cs := cs) (n := n) (ms := ms) (B := B)).pe0 hr pass0 (pv 0))))))) (pss_one (ps_dput hu (pe_Change_reports A.d (pv 0)) (pv 2) (pe_tup (pa_cons (pv 6) (pa_cons (pv 4) pa_nil))) rfl)) pss_nil)))), ?_⟩
    refine ⟨_, rfl, t, _, rfl, SqT.of hM.tup, rfl, _, _, rfl, _, _, rfl, _, _, rfl, _, _, rfl, _, _, rfl, rfl, ?_⟩
    refine ⟨fun σ' H' => ∃ C1, σ' = [some (.ref p), some (.ref t), some (.int M.h), some M.bal, some M.yes, some (.int M.votes), some M.rep] ∧ Kp [p] H H' ∧ ChAt K cs n ms B H' p C1 ∧ ChSame C C1 ∧ (C1.rD = C.rD ∨ H C1.rD = none), ?_, ?_⟩
    · refine ⟨_, rfl, p, C.dx, C.rc, rfl, hp.ins, _, rfl, C.bal, M.bal, rfl, hp.bal, hM.bal, fun b1 => ⟨_, rfl, ?_⟩⟩
      refine ite2 (fun _ => ?_) (fun _ => ?_)
      · refine ⟨_, rfl, _, rfl, p, C.dx, C.rc, rfl, hp.ins, ?_⟩
        have hp1 := hp.put (votes := C.votes) hM.bal hp.yes hp.agr
        refine fun d hd => ?_
        have hp2 := hp1.same (same_new (o := .dK []) hd)
        refine ⟨_, rfl, p, C.dx, _, rfl, hp2.ins, ?_⟩
        have hp3 := hp2.putD (l := []) (d := d) upd_same (fun _ h => (nomatch h)) List.nodup_nil
        have hdH : H d = none := by
          cases e : H d with
          | none => rfl
          | some o =>
            have nd : d ≠ p := (ne_of_none hp1.ins hd).symm
            rw [upd_ne nd, e] at hd; cases hd
        exact ⟨_, rfl, Kp.upd ((Kp.upd Kp.refl List.mem_cons_self).new hd) List.mem_cons_self, hp3, ⟨rfl, rfl⟩, .inr hdH⟩
      · exact ⟨C, rfl, Kp.refl, hp, ⟨rfl, rfl⟩, .inl rfl⟩
    rintro σ1 H1 ⟨C1, rfl, kp1, hp1, hs1, hr1⟩
    have x1 := hp.ext1 kp1
    have hM1 := hM.ext x1
    refine ⟨_, rfl, p, C1.dx, _, rfl, hp1.ins, by kernel_rfl, _, rfl, _, rfl, p, C1, M.yes, M.votes, rfl, hp1, hM1.yes, fun C2 H2 kp2 hp2 hs2 hr2 _ => ?_⟩
    have x2 := hp1.ext1 kp2
    have hM2 := hM1.ext x2
    have hsk : ChSame C C2 := ⟨hs2.1.trans hs1.1, hs2.2.trans hs1.2⟩
    have hrD : C2.rD = C.rD ∨ H C2.rD = none := by rw [hr2]; exact hr1
    have kp02 : Kp [p, C.rD] H H2 := (kp1.trans kp2).mono (by simp)
    have skip : Q .non H2 := k C2 H2 kp02 hp2 hsk hrD
    refine ⟨_, rfl, rfl, _, rfl, ?_⟩
    by_cases hb : M.bal = .non
    · rw [hb]
      exact iteF skip
    · have e : (!decide (M.bal = V.non)) = true := by rw [decide_eq_false hb]; rfl
      rw [e]
      obtain ⟨d1, q1, q2⟩ := hM2.bal.dp (K := K)
      obtain ⟨d2, q3, q4⟩ := hp2.bal.dp (K := K)
      refine iteT ⟨_, rfl, _, rfl, p, C2.dx, _, rfl, hp2.ins, d1, d2, q1, q3, q2, q4, _, rfl, ite2 (fun _ => ?_) (fun _ => skip)⟩
      refine ⟨_, rfl, p, C2.dx, _, rfl, hp2.ins, by kernel_rfl, p, C2, rfl, hp2, fun z => ?_, fun z b2 _ => ?_⟩
      · exact ⟨_, rfl, iteF skip⟩
      refine ⟨_, rfl, ite2 (fun _ => ?_) (fun _ => skip)⟩
      obtain ⟨r, R, er, hR1, hR2, hR3⟩ := hM2.rep hb
      refine ⟨_, rfl, _, rfl, (by show 2 ≤ sizeLine; decide), fun T hT => ?_⟩
      have s3 := same_new (o := .tup [M.rep, M.yes]) hT
      have hp3 := hp2.same s3
      have hl := hp3.len
      refine ⟨_, rfl, p, C2.dx, _, rfl, hp3.ins, _, rfl, C2.rD, _, rfl, DPut.k (k := Sum.inl M.h) hp3.rd (by rw [encE_len]; exact small6 (by omega)), ?_⟩
      have hT2 : EntAt cs n ms B (upd H2 T (.tup [M.rep, M.yes])) T := ⟨r, R, M.yes, by rw [upd_same, er], hR1.ext (.of s3), hR2, hR3, hM2.yes.ext (.of s3)⟩
      have hp4 := hp3.addE hT2 hM.h
      rw [putK_encE]
      refine k { C2 with reps := putG C2.reps M.h T } _ ?_ hp4 hsk hrD
      refine fun b o e n => ?_
      have nb : b ≠ C2.rD := fun z => by
        rcases hrD with z2 | z2
        · exact n (by rw [z, z2]; simp)
        · rw [z, z2] at e; cases e
      rw [upd_ne nb]
      exact (kp02.new hT) b o e n

end
end G
namespace G
open PySem PySem.Spec L2
open PyProof.Rows hiding St
section
variable {P : Program} {w : World} {K : PySem.W.Frag} {mg : Str → Option Value} {base : Heap} {CT : Addr × Addr}
theorem circ_mem {S h : Int} (hh : h ∈ circ S) : 0 ≤ h ∧ h ≤ 62 := by
  unfold circ circN at hh
  obtain ⟨i, hi, e⟩ := List.mem_map.mp (List.mem_filter.mp hh).1
  rw [← e]
  have := List.mem_range.mp hi
  show 0 ≤ ((i : Nat) : Int) ∧ ((i : Nat) : Int) ≤ 62
  omega
def spBegin (K : PySem.W.Frag) (cs : List Int) (n : Int) (ms : List Nm) (B : Nat) : Sp := fun vs H Q _ => ∃ p C mo rv, vs = [.ref p, .int mo, rv] ∧ ChAt K cs n ms B H p C ∧ C.me ∈ cs ∧ RepV cs n ms B H rv ∧ ∀ C' H', Kp [p] H H' → ChAt K cs n ms B H' p C' → ChSame C C' → H C'.rD = none → Q .non H'
theorem ok_Change_begin (A : All P w K mg base CT) {cs : List Int} {n : Int} {ms : List Nm} {B : Nat}: MOk P w K mg base CX0 1 (He.ga K "Change") "begin" ["self", "more", "report"] [] (spBegin K cs n ms B) := by
  obtain ⟨fd, F⟩ := fu_Change_begin A.d
  refine ⟨cl_Change A.d, _, fd, [], FunD.ok0 F sc_Change_begin (fun vs H Q E h => ?_) (fun cdv A0 outer s H vs Q E hr h => ?_), me_Change_begin A.d, F.bindsN fun _ _ _ _ _ _ us hl => match us, hl with | [_, _, _], _ => rfl, .nil⟩
  · obtain ⟨p, C, mo, rv, rfl, hp, hme, hrv, k⟩ := h
    rfl
  · obtain ⟨p, C, mo, rv, rfl, hp, hme, hrv, k⟩ := h
    have hu := hu_of hr
    refine ⟨_, pss_cons (ps_set (i := 3) sc_Change_begin.nd rfl (by first | exact Or.inl rfl | exact Or.inr rfl) pe_int)
      (pss_cons (ps_cut (ps_if (pt_cmpR op_notN (pe_Change_ballot A.d (pv 0)) pe_non (nomark _)) (pss_one (ps_set (i := 3) sc_Change_begin.nd rfl (by first | exact Or.inl rfl | exact Or.inr rfl) (pe_ix ix_tup (pe_Change_ballot A.d (pv 0)) pe_int (fun _ _ => rfl)))) pss_nil))
      (pss_cons (ps_Change_ballot A.d (pv 0) (pe_tup (pa_cons (pe_op op_add (pv 3) (pv 1)) (pa_cons (pe_Change_me A.d (pv 0)) pa_nil))))
      (pss_one (ps_Change_reports A.d (pv 0) (pe_disp (pps_cons (pe_Change_me A.d (pv 0)) (pe_tup (pa_cons (pv 2) (pa_cons (pe_Change_yes A.d (pv 0)) pa_nil))) pps_nil) rfl rfl (fun z => nomatch z) (by decide)))))), ?_⟩
    obtain ⟨me, hands, votes, bal, yes, agr, dx, rD, reps⟩ := C
    have hb0 : BalV H bal := hp.bal
    refine ⟨fun σ' H' => ∃ bg : Int, σ' = [some (.ref p), some (.int mo), some rv, some (.int bg)] ∧ H' = H, ⟨_, rfl, p, dx, _, rfl, hp.ins, rfl, _, rfl, ?_⟩, ?_⟩
    · rcases hb0 with rfl | ⟨a, i, j, rfl, h1⟩
      · exact iteF ⟨0, rfl, rfl⟩
      · exact iteT ⟨_, rfl, p, dx, _, rfl, hp.ins, _, _, _, _, rfl, rfl, SqT.of h1, rfl, i, rfl, rfl⟩
    rintro σ1 H1 ⟨bg, rfl, rfl⟩
    refine ⟨_, rfl, _, rfl, _, _, rfl, rfl, _, rfl, p, dx, _, rfl, hp.ins, (by show 2 ≤ sizeLine; decide), fun T hT => ?_⟩
    have s1 := same_new (o := .tup [.int (bg + mo), .int me]) hT
    have hp1 := hp.same s1
    refine ⟨_, rfl, p, dx, _, rfl, hp1.ins, ?_⟩
    have hp2 := hp1.put (votes := votes) (.inr ⟨T, bg + mo, me, rfl, upd_same⟩) hp1.yes hp1.agr
    intro d hd
    have s3 := same_new (o := .dK []) hd
    have hp3 := hp2.same s3
    refine ⟨_, rfl, p, dx, _, rfl, hp3.ins, _, rfl, _, rfl, p, dx, _, rfl, hp3.ins, (by show 2 ≤ sizeLine; decide), fun U hU => ?_⟩
    have s4 := same_new (o := .tup [rv, yes]) hU
    refine ⟨s4 _ _ upd_same, [(Sum.inl me, V.ref U)], rfl, by show 1 ≤ 15; decide, ?_⟩
    have hp4 := hp3.same s4
    have npd : p ≠ d := ne_of_none hp2.ins hd
    have nrd : rD ≠ d := ne_of_none hp2.rd hd
    have hd4 : (upd (upd (upd (upd H1 T (.tup [.int (bg + mo), .int me])) p (chO K ⟨me, hands, votes, .ref T, yes, agr, dx, rD, reps⟩)) d (.dK [])) U (.tup [rv, yes])) d = some (.dK []) := s4 _ _ upd_same
    have x5 : Ext (upd (upd (upd (upd H1 T (.tup [.int (bg + mo), .int me])) p (chO K ⟨me, hands, votes, .ref T, yes, agr, dx, rD, reps⟩)) d (.dK [])) U (.tup [rv, yes])) (upd (upd (upd (upd (upd H1 T (.tup [.int (bg + mo), .int me])) p (chO K ⟨me, hands, votes, .ref T, yes, agr, dx, rD, reps⟩)) d (.dK [])) U (.tup [rv, yes])) d (.dK (encE [(me, U)]))) := Kp.ext (F := [d]) (Kp.upd Kp.refl List.mem_cons_self) fun z hz o ho => by
      rw [List.mem_singleton.mp hz, hd4] at ho; cases ho; exact fun z => z
    have hp5 := hp4.keep (H1 := upd (upd (upd (upd (upd H1 T (.tup [.int (bg + mo), .int me])) p (chO K ⟨me, hands, votes, .ref T, yes, agr, dx, rD, reps⟩)) d (.dK [])) U (.tup [rv, yes])) d (.dK (encE [(me, U)]))) (fun o e => by rw [upd_ne npd]; exact e) (fun o e => by rw [upd_ne nrd]; exact e) x5
    have x14 : Ext H1 (upd (upd (upd (upd H1 T (.tup [.int (bg + mo), .int me])) p (chO K ⟨me, hands, votes, .ref T, yes, agr, dx, rD, reps⟩)) d (.dK [])) U (.tup [rv, yes])) := ((Ext.of s1).trans (hp1.ext1 (Kp.upd Kp.refl List.mem_cons_self))).trans (Ext.of (s3.trans s4))
    obtain ⟨r, R, er, hR1, hR2, hR3⟩ := hrv.ext (x14.trans x5)
    have hU : EntAt cs n ms B (upd (upd (upd (upd (upd H1 T (.tup [.int (bg + mo), .int me])) p (chO K ⟨me, hands, votes, .ref T, yes, agr, dx, rD, reps⟩)) d (.dK [])) U (.tup [rv, yes])) d (.dK (encE [(me, U)]))) U := ⟨r, R, yes, by rw [x5 _ _ upd_same trivial, er], hR1, hR2, hR3, hp.yes.ext (x14.trans x5)⟩
    have hp6 := hp5.putD (d := d) (l := [(me, U)]) upd_same (fun e he => by rw [List.mem_singleton.mp he]; exact ⟨hU, hme⟩) (List.nodup_cons.mpr ⟨fun z => (nomatch z), List.nodup_nil⟩)
    have hdH : H1 d = none := by
      cases e : H1 d with
      | none => rfl
      | some o => rw [upd_ne npd.symm, upd_ne (ne_of_none e hT), e] at hd; cases hd
    refine ⟨_, rfl, p, dx, _, rfl, hp5.ins, k _ _ ?_ hp6 ⟨rfl, rfl⟩ hdH⟩
    exact Kp.upd (kp_fresh (((Kp.upd (Kp.of s1) List.mem_cons_self).trans (Kp.of s3)).trans (Kp.of s4)) hdH) List.mem_cons_self

end
end G
namespace G
open PySem PySem.Spec L2
open PyProof.Rows hiding St
section
variable {P : Program} {w : World} {K : PySem.W.Frag} {mg : Str → Option Value} {base : Heap} {CT : Addr × Addr}
def spEnough (K : PySem.W.Frag) (cs : List Int) (n : Int) (ms : List Nm) (B : Nat) : Sp := fun vs H Q _ => ∃ p C d, vs = [.ref p, .int d] ∧ ChAt K cs n ms B H p C ∧ ∀ (b : Bool) H', Same H H' → (C.hands = 2 ^ C.me.toNat → bit d C.me = false → (b = true ↔ C.me ∈ C.reps.map (·.1))) → Q (.bl b) H'
theorem ok_Change_enough (A : All P w K mg base CT) {cs : List Int} {n : Int} {ms : List Nm} {B : Nat}: MOk P w K mg base CX0 3 (He.ga K "Change") "enough" ["self", "doubts"] [] (spEnough K cs n ms B) := by
  obtain ⟨fd, F⟩ := fu_Change_enough A.d
  refine ⟨cl_Change A.d, _, fd, [], FunD.ok0 F sc_Change_enough (fun vs H Q E h => ?_) (fun cdv A0 outer s H vs Q E hr h => ?_), me_Change_enough A.d, F.bindsN fun _ _ _ _ _ _ us hl => match us, hl with | [_, _], _ => rfl, .nil⟩
  · obtain ⟨p, C, d, rfl, hp, k⟩ := h
    rfl
  · obtain ⟨p, C, d, rfl, hp, k⟩ := h
    have hu := hu_of hr
    refine ⟨_, pss_cons (ps_set (i := 2) sc_Change_enough.nd rfl (by first | exact Or.inl rfl | exact Or.inr rfl) pe_int)
      (pss_cons (ps_for PassesOwn.never rfl (pi_list ((ok_hands_of A).pe hr pass0 (pa_cons (pe_Change_hands A.d (pv 0)) pa_nil))) (pg_name (i := 3) sc_Change_enough.nd rfl (by first | exact Or.inl rfl | exact Or.inr rfl)) (pss_one (ps_if (pt_cmp (pc_din hu (pv 3) (pe_Change_reports A.d (pv 0)))) (pss_one (ps_set (i := 2) sc_Change_enough.nd rfl (by first | exact Or.inl rfl | exact Or.inr rfl) (pe_op op_or (pv 2) (pe_op op_shl pe_int (pv 3))))) (pss_one (ps_if (pt_not (pt_val ((ok_has A).pe hr pass0 (pa_cons (pv 1) (pa_cons (pv 3) pa_nil))))) (pss_one (ps_ret pe_bl)) pss_nil)))))
      (pss_one (ps_ret ((ok_more_than_half A).pe hr pass0 (pa_cons (pv 2) (pa_cons (pe_Change_hands A.d (pv 0)) pa_nil)))))), ?_⟩
    have hcirc : C.hands = 2 ^ C.me.toNat → circ C.hands = [C.me] := fun e => by
      obtain ⟨m0, m62⟩ := hp.me
      rw [e, circ_pow _ (by omega)]
      congr 1
      omega
    refine ⟨_, rfl, p, C.dx, _, rfl, hp.ins, C.hands, rfl, fun l H1 hl s1 hl1 => ?_⟩
    refine ⟨l, rfl, ⟨_, SqL.of hl1⟩, for_list (K := K) (a := l) (xs := (circ C.hands).map V.int) (fun i σ' H' => ∃ (t : Int) (v : Option V), σ' = [some (.ref p), some (.int d), some (.int t), v] ∧ Same H1 H' ∧ (C.hands = 2 ^ C.me.toNat → bit d C.me = false → (i = 0 ∧ t = 0) ∨ (i = 1 ∧ C.me ∈ C.reps.map (·.1) ∧ t = Builtin.bitOr 0 (1 * 2 ^ C.me.toNat)))) ⟨0, none, rfl, Same.refl _, fun _ _ => .inl ⟨rfl, rfl⟩⟩ (fun i σ' H' _ ⟨_, _, _, s, _⟩ => SqL.of (s _ _ hl1)) ?_ ?_⟩
    · rintro i x σ2 H2 hx ⟨t, v, rfl, s2, hcase⟩
      rw [List.getElem?_map] at hx
      obtain ⟨h, eh, rfl⟩ := Option.map_eq_some_iff.mp hx
      have hm := circ_mem (List.mem_of_getElem? eh)
      have hp2 := (hp.same s1).same s2
      have one : C.hands = 2 ^ C.me.toNat → i = 0 ∧ h = C.me := fun e => by
        rw [hcirc e] at eh
        cases i with
        | zero => exact ⟨rfl, (Option.some.inj eh).symm⟩
        | succ i => exact (nomatch eh)
      have hin : ∀ h : Int, (valV (encE C.reps) (Sum.inl h : Key)).isSome = true ↔ h ∈ C.reps.map (·.1) := fun h => by
        constructor
        · intro z
          obtain ⟨v, ev⟩ := Option.isSome_iff_exists.mp z
          have := valV_in ev
          unfold encE at this
          rw [List.map_map] at this
          obtain ⟨y, hy, ey⟩ := List.mem_map.mp this
          exact List.mem_map.mpr ⟨y, hy, Sum.inl.inj ey⟩
        · intro z
          cases e : valV (encE C.reps) (Sum.inl h : Key) with
          | some v => rfl
          | none =>
            have := valV_not e
            unfold encE at this
            rw [List.map_map] at this
            obtain ⟨y, hy, ey⟩ := List.mem_map.mp z
            exact absurd (List.mem_map.mpr ⟨y, hy, by show (Sum.inl y.1 : Key) = _; rw [ey]⟩) this
      refine ⟨_, rfl, _, rfl, p, C.dx, _, rfl, hp2.ins, C.rD, _, rfl, DGet.k (k := Sum.inl h) hp2.rd, _, rfl, ?_⟩
      refine ite2 (fun hsome => ?_) (fun hnone => ?_)
      · refine ⟨_, rfl, _, rfl, _, _, rfl, rfl, ⟨hm.1, by show h ≤ 1000000; omega, by decide⟩, _, _, rfl, rfl, _, _, rfl, s2, fun e1 e2 => ?_⟩
        obtain ⟨rfl, rfl⟩ := one e1
        rcases hcase e1 e2 with ⟨_, rfl⟩ | ⟨z, _⟩
        · exact .inr ⟨rfl, (hin _).mp hsome, rfl⟩
        · exact absurd z (by decide)
      · refine ⟨_, rfl, _, rfl, d, h, rfl, hm.1, _, rfl, ?_⟩
        cases hb : bit d h with
        | false =>
          refine iteT (k _ _ (s1.trans s2) fun e1 e2 => ⟨fun z => (nomatch z), fun z => ?_⟩)
          obtain ⟨_, rfl⟩ := one e1
          exact absurd ((hin _).mpr z) hnone
        | true =>
          refine iteF ⟨_, _, rfl, s2, fun e1 e2 => ?_⟩
          obtain ⟨_, rfl⟩ := one e1
          rw [hb] at e2; cases e2
    · rintro σ2 H2 ⟨t, v, rfl, s2, hcase⟩
      have hp2 := (hp.same s1).same s2
      refine ⟨_, rfl, _, rfl, p, C.dx, _, rfl, hp2.ins, t, C.hands, rfl, fun r1 r2 p1 p2 => k _ _ (s1.trans s2) fun e1 e2 => ?_⟩
      rcases hcase e1 e2 with ⟨z, _⟩ | ⟨_, hmem, rfl⟩
      · rw [List.length_map, hcirc e1] at z; exact absurd z (by simp)
      · refine ⟨fun _ => hmem, fun _ => decide_eq_true ?_⟩
        rw [e1, Int.one_mul, or_zero_pow, PyProof.Rows.bitAnd_self] at p1
        rw [e1] at p2
        rw [p1.one, p2.one]; decide
def spChInit (K : PySem.W.Frag) (cs : List Int) (n : Int) (ms : List Nm) (B : Nat) : Sp := fun vs H Q _ => ∃ p dx me hands, vs = [.ref p, .int me, .int hands] ∧ H p = some (.ins (He.ga K "Change") dx []) ∧ 0 ≤ me ∧ me ≤ 62 ∧
  ∀ C H', Kp [p] H H' → ChAt K cs n ms B H' p C → C.me = me → C.hands = hands → C.bal = .non → H C.rD = none → C.agr = .non → C.reps = [] → Q .non H'
theorem ChangeR_fs {a b c d e f g : V} : putF "agreed" g (putF "reports" f (putF "votes" e (putF "yes" d (putF "ballot" c (putF "hands" b (putF "me" a [])))))) = ChangeR.fs ⟨a, b, c, d, e, f, g⟩ := by kernel_rfl
theorem mk_ok_Change (A : All P w K mg base CT) {cs : List Int} {n : Int} {ms : List Nm} {B : Nat}: KOk P w K mg base CX0 1 "Change" (He.ga K "Change") ["self", "me", "hands"] [] (spChInit K cs n ms B) := by
  obtain ⟨fd, F⟩ := fu_Change_init A.d
  refine ⟨_, fd, [], FunD.ok0 F sc_Change_init (fun vs H Q E h => ?_) (fun cdv A0 outer s H vs Q E hr h => ?_), mk_Change A.d, gl_Change A.kin A.ns A.d, F.bindsN fun _ _ _ _ _ _ us hl => match us, hl with | [_, _, _], _ => rfl, .nil⟩
  · obtain ⟨p, dx, me, hands, rfl, hp, h0, h62, k⟩ := h
    rfl
  · obtain ⟨p, dx, me, hands, rfl, hp, h0, h62, k⟩ := h
    have hu := hu_of hr
    refine ⟨_, pss_cons (ps_fld (pv 0) (pv 1) rfl)
      (pss_cons (ps_fld (pv 0) (pv 2) rfl)
      (pss_cons (ps_fld (pv 0) pe_non rfl)
      (pss_cons (ps_fld (pv 0) pe_non rfl)
      (pss_cons (ps_fld (pv 0) pe_int rfl)
      (pss_cons (ps_fld (pv 0) pe_dnewK rfl)
      (pss_one (ps_fld (pv 0) pe_non rfl))))))), ?_⟩
    have l1 := put_len "me" (.int me) [] (m := 0) (Nat.le_refl _)
    have l2 := put_len "hands" (.int hands) _ l1
    have l3 := put_len "ballot" .non _ l2
    have l4 := put_len "yes" .non _ l3
    have l5 := put_len "votes" (.int 0) _ l4
    refine ⟨_, rfl, _, rfl, p, _, dx, _, rfl, hp, cl_Change A.d, no_Change_me A.d, by decide, ?_⟩
    refine ⟨_, rfl, _, rfl, p, _, dx, _, rfl, upd_same, cl_Change A.d, no_Change_hands A.d, by omega, ?_⟩
    refine ⟨_, rfl, p, _, dx, _, rfl, upd_same, cl_Change A.d, no_Change_ballot A.d, by omega, ?_⟩
    refine ⟨_, rfl, p, _, dx, _, rfl, upd_same, cl_Change A.d, no_Change_yes A.d, by omega, ?_⟩
    refine ⟨_, rfl, p, _, dx, _, rfl, upd_same, cl_Change A.d, no_Change_votes A.d, by omega, ?_⟩
    rw [upd_upd, upd_upd, upd_upd, upd_upd]
    intro d hd
    have npd : p ≠ d := ne_of_none upd_same hd
    have hdH : H d = none := by
      cases e : H d with
      | none => rfl
      | some o => rw [upd_ne npd.symm, e] at hd; cases hd
    have l6 := put_len "reports" (.ref d) _ l5
    refine ⟨_, rfl, p, _, dx, _, rfl, by rw [upd_ne npd]; exact upd_same, cl_Change A.d, no_Change_reports A.d, by omega, ?_⟩
    refine ⟨_, rfl, p, _, dx, _, rfl, upd_same, cl_Change A.d, no_Change_agreed A.d, by omega, ?_⟩
    show Q .non _
    rw [upd_upd, ChangeR_fs]
    refine k ⟨me, hands, 0, .non, .non, .non, dx, d, []⟩ _ (Kp.upd ((Kp.upd Kp.refl List.mem_cons_self).new hd) List.mem_cons_self) ⟨upd_same, .inl rfl, .inl rfl, .inl rfl, ?_, fun _ h => (nomatch h), List.nodup_nil, ⟨h0, h62⟩⟩ rfl rfl rfl hdH rfl rfl
    show upd _ p _ d = _
    rw [upd_ne npd.symm, upd_same]; rfl

end
end G
namespace G
open PySem PySem.Spec L2
open PyProof.Rows hiding St
section
variable {P : Program} {w : World} {K : PySem.W.Frag} {mg : Str → Option Value} {base : Heap} {CT : Addr × Addr}
/-! ### a promise that may speak of the entry's heap and of the callers' frames (a function that is handed on captures cells of a caller) -/
abbrev SpS := Shared → List Env → Sp
structure FnS (P : Program) (w : World) (K : PySem.W.Frag) (mg : Str → Option Value) (base : Heap) (k : Nat) (f : Addr) (fd : FuncData) (ps : List Str) (sp : SpS) : Prop where
  len : ∀ s os vs H Q E, sp s os vs H Q E → vs.length = ps.length
  run : ∀ (A : Around) (outer : List Env) (s : Shared) (H : Hp) (args : Args) (us : List Value) (vs : List V) (Q : VK) (E : XK), Room k A → Env0 P w K mg base A outer s H → BindsTo s fd args (ps.zip us) → Vals vs us → sp s outer vs H Q E →
    codeAny (model P w) A (.call (.ref f) args) (CR CX0 outer P w H s Q E) s
section
variable {x qual : Str} {params : Arguments} {body : List Stmt} {scope : Scope} {dvs : List V} {kws : List (Str × V)} {f : Addr} {fd : FuncData} {N ps : List Str} {k : Nat}
/-- one call, the callers' frames and the entry fixed; the code object of the def is told -/
theorem run_def {CX : CXT} {E : XK} {A : Around} {outer : List Env} {s : Shared} {H : Hp} {args : Args} {us : List Value} {vs : List V} {Q : VK} (F : FunD K x qual params body scope dvs kws f fd) (S : FnScope N ps scope) (hl : vs.length = ps.length)
    (hr : Room (k + 1) A) (e0 : Env0 P w K mg base A outer s H) (hb : BindsTo s fd args (ps.zip us)) (r : Vals vs us)
    (hbody : ∀ cdv : Value, fd.code = cdv → PySem.W.codeIn K cdv qual = true → (∃ oc od osl, K.lookup f = some ⟨oc, od, .func fd, osl⟩) → Room k (A.deeper (envOfC qual scope s.heap.objs.size f cdv)) →
      ∃ t, PSs (cxOf CX P w K mg base N qual scope f cdv A outer s H E) body t ∧ t { nx := fun _ H' => Q .non H', rt := Q } (start N vs) H) :
    codeAny (model P w) A (.call (.ref f) args) (CR CX outer P w H s Q E) s := by
  obtain ⟨oc, od, dV, kV, doc, pm, an, cdv, ct, osl, rfl, lk, hcd, _, _⟩ := F.ex
  have hk : ∀ b o, base.get? b = some o → s.heap.get? b = some o := fun b o e => (e0.bs b o e).1
  have kin := e0.mod.kin.keeps hk
  have ks : ∀ y ∈ ps.zip us, scope.names.lookup y.1 = some .local ∨ (scope.names.lookup y.1 = some .cell ∧ ((cellsFrom (s.heap.objs.size + 1) scope.names []).lookup y.1).isSome = true) := fun y hy =>
    (S.par y.1 (List.of_mem_zip hy).1).imp id fun z => ⟨z, PySem.W.cellsFrom_some _ _ _ (.inl z)⟩
  refine codeAny_call_function hr.depth (kin _ _ lk) rfl S.co S.gen rfl (PySem.W.codeRec_of kin hcd) (hb _ _ _ _ (wpAny_newFunctionEnv_cells S.kind ks fun env he s1 y => ?_))
  subst he
  refine ⟨(e0.mod.nolimit.keeps hk).keeps y.toInCall.keep, codeAny_func ?_⟩
  obtain ⟨t, ht, hq⟩ := hbody cdv rfl hcd ⟨_, _, _, lk⟩ (hr.deeper _)
  refine wpAny_mono (ht.run [] s1 _ H _ (inv_start S hr.hd e0 hl r y) hq) (fun fl s' hs => ?_) fun e s' hs => hs
  cases fl with
  | ret u =>
    obtain ⟨v, σ', H', J, rv, q⟩ := hs
    exact ⟨v, H', J.os, J.bare, J.base, J.hok, rv, q⟩
  | next =>
    obtain ⟨σ', H', J, q⟩ := hs
    exact ⟨V.non, H', J.os, J.bare, J.base, J.hok, rfl, q⟩
  | brk =>
    obtain ⟨_, _, _, q⟩ := hs
    exact q.elim
  | cont =>
    obtain ⟨_, _, _, q⟩ := hs
    exact q.elim
end
/-- o.m(e, ..), an argument a function of this frame: its captured cells are told -/
def tMethS (C : Addr) (m : Str) (cl : List (Str × Addr)) (fr : List Str) (js : List Nat) (os : List Env) (sp : SpS) (E : XK) (ta : TE) (t : TA) : TE := fun σ H Q => ta σ H fun x H1 => ∃ a dx fs, x = .ref a ∧ H1 a = some (.ins C dx fs) ∧ fs.lookup m = none ∧
  t σ H1 fun vs H2 => ∀ s2 : Shared, NdefX.CellsAt cl fr (js.map (NdefX.slotAt σ)) s2.heap H2 → (∀ y c, cl.lookup y = some c → c ∉ frs os) → sp s2 os (x :: vs) H2 Q E
section
variable {X : Cx} {k j : Nat} {f C : Addr} {fd : FuncData} {ps fr : List Str} {sp : SpS} {E : XK} {m : Str} {pos apos : Pos} {e o : Expr} {es : List Expr} {ta : TE} {t : TA} {cl : List (Str × Addr)} {js : List Nat}
theorem pe_methS {pl : Sem Bool} (he : PE X o ta) (c : Cls X.K C) (hm : Meth X.K C m f) (F : FnS X.prog X.w X.K X.mg X.base k f fd ps sp) (hr : Room j X.A) (hk : k ≤ j) (hb : Binds X.K fd ps []) (ha : PA X (e :: es) t)
    (hs : X.stack = X.env :: X.outer) (hfr : X.env.frame = some X.env.locals) (hfn : ∀ y, X.fn y = true) (cp : X.Ok → NdefX.Caps X cl fr js)
    (hst : starEach (e :: es) X.env = (false, eval e X.env) :: starEach es X.env := by rfl) (hpl : (backTo pos (starEach es X.env)).any (·.1) = false := by rfl)
    (ht : eval (.Call (.Attribute o m apos) (e :: es) [] pos) X.env = (do
      let ov ← eval o X.env
      standAt apos.atName
      let (f, first) ← holding [ov] (getMethod ov m pl)
      callWith pos f first (backTo pos (starEach (e :: es) X.env)) (backToKw pos (keywordEach [] X.env))) := by rfl) :
    PE X (.Call (.Attribute o m apos) (e :: es) [] pos) (tMethS C m cl fr js X.stack sp E ta t) := by
  refine ⟨fun pins s σ H Q I h => ?_⟩
  refine PySem.W.methodCall_KW (pl := pl) (thn (he.run pins s σ H _ I h) fun u s1 ⟨x, H1, I1, rx, a, dx, fs, ex, ea, l, q⟩ => ?_) ht
  subst ex
  obtain rfl : u = Value.ref a := rx
  refine getmeth_ok I1 ea c hm l ?_
  refine PySem.W.callWith_K (first := [.ref a]) (h₀ := X.base) I.ok.mod.kin hm.kp (thn (ha.run pos pins s1 σ H1 _ I1 q) fun us s2 ⟨vs, H2, I2, r, q2⟩ => ⟨I2.kIn, ?_⟩) hst hpl
  have cap := cp I2.ok
  have q3 := q2 s2 (NdefX.cells_of I2 cap) fun y b hy hm => by
    have hc := cap.sub y b hy
    rw [hs] at hm
    unfold frs at hm
    rw [List.filterMap_cons, hfr] at hm
    rcases List.mem_cons.mp hm with z | z
    · exact I2.cne y b hc z
    · obtain ⟨_, o1, ho, _⟩ := I2.ok.funs.mem z
      exact Nat.not_lt.mpr (I2.ok.cab y b (hfn y) hc) (Heap.lt_size ho)
  have r2 : Vals (V.ref a :: vs) (Value.ref a :: us) := .cons rfl r
  have hl : (Value.ref a :: us).length = ps.length := by rw [← r2.length]; exact F.len _ _ _ _ _ _ q3
  refine wpAny_call (codeAny_mono (F.run X.A X.stack s2 H2 ⟨Value.ref a :: us, []⟩ (Value.ref a :: us) _ Q E (hr.mono hk) I2.env0 (by have := hb s2 (Value.ref a :: us) I2.kIn (by rw [List.append_nil]; exact hl); rwa [List.append_nil] at this) r2 q3) fun r s' hq => ?_)
  cases r with
  | error e => exact hq.elim
  | ok fl =>
    cases fl with
    | ret u => exact I2.after hq
    | next => exact False.elim hq
    | brk => exact False.elim hq
    | cont => exact False.elim hq
/-- x(e, ..), x a name that holds a function that was handed in, which captures cells of a caller -/
def tClo (F : NdefX.NF) (f : Addr) (ws : List (Option V)) (sp : List (Option V) → Sp) (E : XK) (i : Nat) (t : TA) : TE := fun σ H Q => σ[i]? = some (some (.ref f)) ∧ H f = some (NdefX.FnO f F) ∧ t σ H fun vs H1 => H1 f = some (NdefX.FnO f F) ∧ H1 F.c = some (LamX.CodeO F.c F.qual) ∧ sp ws vs H1 Q E
theorem pe_clo {F : NdefX.NF} {ws : List (Option V)} {sp : List (Option V) → Sp} {x : Str} {i : Nat} {p : Pos} (Fn : NdefX.NOk X.prog X.w X.K X.mg X.base CX0 k f F ps fr sp) (hc : NdefX.CellsAt F.cl fr ws X.s_0.heap X.H_0) (nf : ∀ y c, F.cl.lookup y = some c → c ∉ X.fs) (hex : X.ex = [])
    (hr : Room j X.A) (hk : k ≤ j) (hN : X.N[i]? = some x) (hv : Vis X.env.scope x) (ha : PA X (e :: es) t)
    (hd : (x == ("__debug__" : Str)) = false := by decide) (hcd : (x == ("__classdict__" : Str)) = false := by decide)
    (he : starEach (e :: es) X.env = (false, eval e X.env) :: starEach es X.env := by rfl) (hpl : (backTo pos (starEach es X.env)).any (·.1) = false := by rfl) :
    PE X (.Call (.Name x p) (e :: es) [] pos) (tClo F f ws sp E i t) := by
  refine ⟨fun pins s σ H Q I h => ?_⟩
  obtain ⟨h1, h2, h3⟩ := h
  refine wpAny_Call_Name_kw (thn ((pe_var (pos := p) hN hv hd hcd).run pins s σ H (fun v H1 => v = .ref f ∧ H1 = H) I ⟨.ref f, h1, rfl, rfl⟩) fun u s1 ⟨v, H1, I1, r1, ev, eH⟩ => ?_)
  subst ev
  rw [eH] at I1
  obtain rfl : u = Value.ref f := r1
  refine PySem.W.callWith_F (first := []) (NdefX.fnAt_of I1 h2) (thn (ha.run pos pins s1 σ H _ I1 h3) fun us s2 ⟨vs, H2, I2, r, q1, q2, q⟩ => ⟨NdefX.fnAt_of I2 q1, ?_⟩) he hpl
  refine wpAny_call (codeAny_mono (Fn.run X.A X.stack s2 H2 us vs ws Q E (hr.mono hk) I2.env0 q1 q2 (hc.later nf (fun _ c _ => by rw [hex]; exact fun z => nomatch z) I2) r q) fun r s' hq => ?_)
  cases r with
  | error e => exact hq.elim
  | ok fl =>
    cases fl with
    | ret u => exact I2.after hq
    | next => exact False.elim hq
    | brk => exact False.elim hq
    | cont => exact False.elim hq
end

end
end G
namespace G
open PySem PySem.Spec L2
open PyProof.Rows hiding St
section
variable {P : Program} {w : World} {K : PySem.W.Frag} {mg : Str → Option Value} {base : Heap} {CT : Addr × Addr}
/-! ### the def within Hand.settle -/
def s_make : Stmt := match defBody s_Hand_settle with
  | _ :: _ :: _ :: _ :: st :: _ => st
  | _ => .Pass ⟨0, 0, 0, 0⟩
abbrev makeF (cl : List (Str × Addr)) (c : Addr) : NdefX.NF := NdefX.NF.of s_make "make" "Hand.settle.<locals>.make" cl c
abbrev frM : List Str := ["me", "hands", "wished"]
theorem sc_make : NdefX.NScope ["reports", "me", "hands", "wished"] ["reports"] frM (C8.fnScope s_make) := NdefX.nscope_by (by decide +kernel)
theorem nd_make : NdefX.ndefB (defScope s_Hand_settle) (C8.fnScope s_make) frM = true := by decide +kernel
def wsM (me hands wi : Int) : List (Option V) := [some (.int me), some (.int hands), some (.int wi)]
def spMake (K : PySem.W.Frag) (cs : List Int) (n : Int) (ms : List Nm) : List (Option V) → Sp := fun ws vs H Q E => ∃ me hands wi a, ws = wsM me hands wi ∧ vs = [.ref a] ∧ spFirstPlan K cs n ms [.int me, .int hands, .ref a, .int wi] H Q E
theorem ok_make (A : All P w K mg base CT) {cs : List Int} {n : Int} {ms : List Nm} (f c : Addr) (cl : List (Str × Addr)) : NdefX.NOk P w K mg base CX0 8 f (makeF cl c) ["reports"] frM (spMake K cs n ms) := by
  refine NdefX.nok_of (N := ["reports", "me", "hands", "wished"]) sc_make (fun doc pm ctv us hl => match us, hl with | [u], _ => by rfl) (fun ws vs H Q E h => ?_) (fun A0 outer s H vs ws Q E hr _ _ _ h => ?_)
  · obtain ⟨me, hands, wi, a, rfl, rfl, _⟩ := h
    rfl
  · obtain ⟨me, hands, wi, a, rfl, rfl, k⟩ := h
    refine ⟨_, (pss_one (ps_ret ((ok_first_plan A (cs := cs) (n := n) (ms := ms)).pe hr pass0 (pa_cons (pv 1) (pa_cons (pv 2) (pa_cons (pv 0) (pa_cons (pv 3) pa_nil))))))), ?_⟩
    exact ⟨_, rfl, _, rfl, _, rfl, _, rfl, k⟩

end
end G
namespace G
open PySem PySem.Spec L2
open PyProof.Rows hiding St
section
variable {P : Program} {w : World} {K : PySem.W.Frag} {mg : Str → Option Value} {base : Heap} {CT : Addr × Addr}
/-! ### under, ballot_of: what None is told by -/
namespace Z
def spUnder : Sp := fun vs H Q _ => ∃ x y, vs = [x, y] ∧ BalV H x ∧ BalV H y ∧ ∀ b, (y = .non → b = false) → Q (.bl b) H
theorem ok_under (A : All P w K mg base CT) : DOk P w K mg base CX0 1 "under" ["one", "other"] [] spUnder := by
  obtain ⟨fd, F⟩ := fu_under A.d
  refine ⟨_, fd, [], FunD.ok0 F sc_under (fun vs H Q E h => ?_) (fun cdv A0 outer s H vs Q E hr h => ?_), gl_under A.kin A.ns A.d, F.kp, F.bindsN fun _ _ _ _ _ _ us hl => match us, hl with | [_, _], _ => rfl, .nil⟩
  · obtain ⟨x, y, rfl, hx, hy, k⟩ := h
    rfl
  · obtain ⟨x, y, rfl, hx, hy, k⟩ := h
    have hu := hu_of hr
    refine ⟨_, pss_cons (ps_if (pt_cmpR op_isN (pv 1) pe_non (nomark _)) (pss_one (ps_ret pe_bl)) pss_nil)
      (pss_cons (ps_if (pt_cmpR op_isN (pv 0) pe_non (nomark _)) (pss_one (ps_ret pe_bl)) pss_nil)
      (pss_one (ps_ret (pe_or (pe_cmpR op_lt (pe_ix ix_tup (pv 0) pe_int (fun _ _ => rfl)) (pe_ix ix_tup (pv 1) pe_int (fun _ _ => rfl)) (nomark _)) (pe_one (pe_and (pe_cmpR op_eq (pe_ix ix_tup (pv 0) pe_int (fun _ _ => rfl)) (pe_ix ix_tup (pv 1) pe_int (fun _ _ => rfl)) (nomark _)) (pe_one (pe_cmpR op_lt (pe_ix ix_tup (pv 0) pe_int (fun _ _ => rfl)) (pe_ix ix_tup (pv 1) pe_int (fun _ _ => rfl)) (nomark _))))))))), ?_⟩
    refine ⟨_, rfl, rfl, _, rfl, ?_⟩
    rcases hy with rfl | ⟨b, i2, j2, rfl, hb⟩
    · exact iteT (k _ fun _ => rfl)
    replace k : ∀ b : Bool, Q (.bl b) H := fun b => k b fun z => nomatch z
    refine iteF ⟨_, rfl, rfl, _, rfl, ?_⟩
    rcases hx with rfl | ⟨a, i1, j1, rfl, ha⟩
    · exact iteT (k _)
    refine iteF ⟨_, rfl, _, _, _, _, rfl, rfl, SqT.of ha, rfl, _, rfl, _, _, _, _, rfl, rfl, SqT.of hb, rfl, _, _, rfl, rfl, _, rfl, ite2 (fun _ => k _) (fun _ => ?_)⟩
    refine ⟨_, rfl, _, _, _, _, rfl, rfl, SqT.of ha, rfl, _, rfl, _, _, _, _, rfl, rfl, SqT.of hb, rfl, rfl, _, rfl, ite2 (fun _ => ?_) (fun _ => k _)⟩
    exact ⟨_, rfl, _, _, _, _, rfl, rfl, SqT.of ha, rfl, _, rfl, _, _, _, _, rfl, rfl, SqT.of hb, rfl, _, _, rfl, rfl, k _⟩
def spBallotOf (cs : List Int) (n : Int) (ms : List Nm) : Sp := fun vs H Q _ => ∃ y, vs = [y] ∧ YesV cs n ms H y ∧ ∀ v, BalV H v → (y = .non → v = .non) → Q v H
theorem ok_ballot_of (A : All P w K mg base CT) {cs : List Int} {n : Int} {ms : List Nm}: DOk P w K mg base CX0 1 "ballot_of" ["yes"] [] (spBallotOf cs n ms) := by
  obtain ⟨fd, F⟩ := fu_ballot_of A.d
  refine ⟨_, fd, [], FunD.ok0 F sc_ballot_of (fun vs H Q E h => ?_) (fun cdv A0 outer s H vs Q E hr h => ?_), gl_ballot_of A.kin A.ns A.d, F.kp, F.bindsN fun _ _ _ _ _ _ us hl => match us, hl with | [_], _ => rfl, .nil⟩
  · obtain ⟨y, rfl, hy, k⟩ := h
    rfl
  · obtain ⟨y, rfl, hy, k⟩ := h
    have hu := hu_of hr
    refine ⟨_, pss_cons (ps_if (pt_cmpR op_isN (pv 0) pe_non (nomark _)) (pss_one (ps_ret pe_non)) pss_nil)
      (pss_one (ps_ret (pe_ix ix_tup (pv 0) pe_int (fun _ _ => rfl)))), ?_⟩
    refine ⟨_, rfl, rfl, _, rfl, ?_⟩
    rcases hy with rfl | ⟨a, b, p, i, j, c, rfl, h1, h2, h3, h4⟩
    · exact iteT (k _ (.inl rfl) fun _ => rfl)
    exact iteF ⟨_, rfl, _, _, _, _, rfl, rfl, SqT.of h1, rfl, k _ (.inr ⟨b, i, j, rfl, h2⟩) fun z => nomatch z⟩
end Z

end
end G
namespace G
open PySem PySem.Spec L2
open PyProof.Rows hiding St
section
variable {P : Program} {w : World} {K : PySem.W.Frag} {mg : Str → Option Value} {base : Heap} {CT : Addr × Addr}
theorem getG_key {α : Type} {κ : Type} [DecidableEq κ] {h : κ} {l : List (κ × α)} (hn : (l.map (·.1)).Nodup) (hh : h ∈ l.map (·.1)) : ∃ t, getG l h = some t ∧ (h, t) ∈ l := by
  obtain ⟨⟨c, t⟩, hm, rfl⟩ := List.mem_map.mp hh
  exact ⟨t, getG_of_mem hn hm, hm⟩
theorem nox_of {X : Cx} {body : List Stmt} {D : Ends} {σ : St} {H : Hp} (h : ∃ t, PSs X.nox body t ∧ t D σ H) : ∃ t, PSs X body t ∧ t D σ H := h.imp fun _ z => ⟨z.1.nox, z.2⟩
theorem pe_Change_reportsK {X : Cx} {e : Expr} {t : TE} {pos : Pos} {K : PySem.W.Frag} (d : He.SaysD fa fn K) (he : PE X e t) (hK : X.K = K := by rfl) (hb : attributeBase e "reports" X.env (eval e X.env) = eval e X.env := by rfl) : PE X (.Attribute e "reports" pos) (tGet (He.ga K "Change") ChangeR.fs ChangeR.reports_ t) := by
  subst hK
  exact pe_Change_reports d he hb
/-- what propose does about what is agreed -/
structure PrOut (H : Hp) (d : Int) (C C' : Ch) : Prop where
  stay : C.agr ≠ .non → C'.agr ≠ .non
  two : C.agr = .non → 0 ≤ C.hands → C.hands ≠ 2 ^ C.me.toNat → C'.agr = .non
  one : C.agr = .non → C.hands = 2 ^ C.me.toNat → bit d C.me = false → Unp H C → C.me ∈ C.reps.map (·.1) → C'.agr ≠ .non
  no : C.hands = 2 ^ C.me.toNat → bit d C.me = false → ¬ (Unp H C ∧ C.me ∈ C.reps.map (·.1)) → C' = C
def spPropose (K : PySem.W.Frag) (cs : List Int) (n : Int) (ms : List Nm) (B : Nat) : SpS := fun s os vs H Q _ => ∃ p C d f c cl me hands wi, vs = [.ref p, .int d, .ref f] ∧ ChAt K cs n ms B H p C ∧ H f = some (NdefX.FnO f (makeF cl c)) ∧ H c = some (LamX.CodeO c "Hand.settle.<locals>.make") ∧
  NdefX.CellsAt cl frM (wsM me hands wi) s.heap H ∧ (∀ y b, cl.lookup y = some b → b ∉ frs os) ∧ 0 ≤ me ∧ me ≤ 62 ∧ 0 ≤ wi ∧ B ≤ 4000000 ∧ cs.length ≤ 60 ∧ ms.length ≤ 100 ∧
  ∀ C' b H', Kp [p] H H' → ChAt K cs n ms B H' p C' → ChSame C C' → C'.rD = C.rD → C'.reps = C.reps → PrOut H d C C' → Q (.bl b) H'
def BestV (cs : List Int) (n : Int) (ms : List Nm) (H : Hp) (x y : V) : Prop := (x = .non ∧ y = .non) ∨ ∃ a b i j t c, x = .ref a ∧ H a = some (.tup [.int i, .int j]) ∧ y = .ref t ∧ PlAt H t c ∧ PlOK cs n ms c ∧ b = a
theorem BestV.ext {cs : List Int} {n : Int} {ms : List Nm} {H H1 : Hp} {x y : V} (h : BestV cs n ms H x y) (s : Ext H H1) : BestV cs n ms H1 x y := h.imp id fun ⟨a, b, i, j, t, c, e, h1, e2, h2, h3, e4⟩ => ⟨a, b, i, j, t, c, e, s _ _ h1 trivial, e2, h2.ext s, h3, e4⟩
theorem BestV.bal {cs : List Int} {n : Int} {ms : List Nm} {H : Hp} {x y : V} (h : BestV cs n ms H x y) : BalV H x := by
  rcases h with ⟨rfl, _⟩ | ⟨a, b, i, j, t, c, rfl, h1, _⟩
  · exact .inl rfl
  · exact .inr ⟨a, i, j, rfl, h1⟩
theorem fs_Change_propose (A : All P w K mg base CT) {cs : List Int} {n : Int} {ms : List Nm} {B : Nat} : ∃ fd, FunD K d_Change_propose.name d_Change_propose.qual (defArgs s_Change_propose) (defBody s_Change_propose) (defScope s_Change_propose) (d_Change_propose.dvs K) [] (He.fAd K ("Change", some "propose")) fd ∧
    FnS P w K mg base 9 (He.fAd K ("Change", some "propose")) fd ["self", "doubts", "make"] (spPropose K cs n ms B) := by
  obtain ⟨fd, F⟩ := fu_Change_propose A.d
  refine ⟨fd, F, fun s os vs H Q E h => ?_, fun A0 outer s H args us vs Q E hr0 e0 hb r h => ?_⟩
  · obtain ⟨p, C, d, f, c, cl, me, hands, wi, rfl, _⟩ := h
    rfl
  obtain ⟨p, C, d, f, c, cl, me, hands, wi, rfl, hp, hf, hc, hcl, hnf, hm0, hm1, hwi, hB, hcs, hms, k⟩ := h
  refine run_def F sc_Change_propose rfl hr0 e0 hb r fun cdv _ _ _ hr => ?_
  have hu := hu_of hr
  refine nox_of ⟨_, pss_cons (ps_if (PW.pt (pw_or (pt_not (pt_val ((ok_Change_unplanned A (cs := cs) (n := n) (ms := ms) (B := B)).pe0 hr pass0 (pv 0)))) (pw_or1 (pt_not (pt_val ((ok_Change_enough A (cs := cs) (n := n) (ms := ms) (B := B)).pe hr pass0 (pv 0) (pa_cons (pv 1) pa_nil))))))) (pss_one (ps_ret pe_bl)) pss_nil)
      (pss_cons (ps_set (i := 3) sc_Change_propose.nd rfl (by first | exact Or.inl rfl | exact Or.inr rfl) pe_non)
      (pss_cons (ps_set (i := 4) sc_Change_propose.nd rfl (by first | exact Or.inl rfl | exact Or.inr rfl) pe_non)
      (pss_cons (ps_for PassesOwn.never rfl (pi_list (pe_callB (call_sortedDI rfl) (by rfl) (fr_sorted A.kin A.ns A.d) (by decide +kernel) (pa_cons (pe_Change_reports A.d (pv 0)) pa_nil))) (pg_name (i := 5) sc_Change_propose.nd rfl (by first | exact Or.inl rfl | exact Or.inr rfl)) (pss_cons (ps_set (i := 6) sc_Change_propose.nd rfl (by first | exact Or.inl rfl | exact Or.inr rfl) (pe_ix ix_tup (pe_dget hu (pe_Change_reports A.d (pv 0)) (pv 5) (fun _ _ => rfl)) pe_int (fun _ _ => rfl))) (pss_one (ps_if (pt_val ((Z.ok_under A).pe hr pass0 (pa_cons (pv 3) (pa_cons ((Z.ok_ballot_of A (cs := cs) (n := n) (ms := ms)).pe hr pass0 (pa_cons (pv 6) pa_nil)) pa_nil)))) (pss_one (ps_asg (pv 6) (pg_tup rfl (pgs_cons (pg_name (i := 3) sc_Change_propose.nd rfl (by first | exact Or.inl rfl | exact Or.inr rfl)) (pgs_cons (pg_name (i := 4) sc_Change_propose.nd rfl (by first | exact Or.inl rfl | exact Or.inr rfl)) pgs_nil))))) pss_nil))))
      (pss_cons (ps_cut (ps_if (pt_cmpR op_isN (pv 3) pe_non (nomark _)) (pss_one (ps_set (i := 4) sc_Change_propose.nd rfl (by first | exact Or.inl rfl | exact Or.inr rfl) (pe_clo (i := 2) (E := E0) (sp := spMake K cs n ms) (ok_make A (cs := cs) (n := n) (ms := ms) f c cl) hcl hnf rfl hr (by decide) rfl (Or.inl rfl) (pa_cons (pe_lc (own := [("hand", 5)]) (g := gName 5) (tt := tYes) rfl sc_Change_propose.nd (pi_list (pe_callB (call_sortedDI rfl) (by rfl) (fr_sorted A.kin A.ns A.d) (by decide +kernel) (pa_cons (pe_Change_reports A.d (pv 0)) pa_nil))) (blkOk_by (N := ["self", "doubts", "make", "best", "plan", "hand", "yes"]) (sc := defScope s_Change_propose) (by decide +kernel)) (fun _ _ _ _ _ => pg_name (i := 5) sc_Change_propose.nd rfl (Or.inl rfl)) (fun _ _ _ _ _ => pts_nil) (fun _ _ _ _ _ => (pe_ix (ix_tupK (K := K)) (pe_dget hu (pe_Change_reportsK A.d (pv 0)) (pv 5) (fun _ _ => rfl)) pe_int (fun _ _ => rfl)))) pa_nil)))) pss_nil))
      (pss_cons (ps_Change_yes A.d (pv 0) (pe_tup (pa_cons (pe_Change_ballot A.d (pv 0)) (pa_cons (pv 4) pa_nil))))
      (pss_cons (ps_Change_votes A.d (pv 0) (pe_op op_shl pe_int (pe_Change_me A.d (pv 0))))
      (pss_cons (ps_expr ((ok_Change_settle A (cs := cs) (n := n) (ms := ms) (B := B)).pe0 hr pass0 (pv 0)))
      (pss_one (ps_ret pe_bl))))))))), ?_⟩
  obtain ⟨me0, hds, votes, bal, yes, agr, dx, rD, reps⟩ := C
  have hlen : reps.length ≤ cs.length := hp.len
  have hrd : H rD = some (.dK (encE reps)) := hp.rd
  have hks : (encE reps).map (·.1) = (reps.map (·.1)).map Sum.inl := by
    unfold encE
    rw [List.map_map, List.map_map]; rfl
  have fin0 : ∀ b H', Same H H' → (hds = 2 ^ me0.toNat → bit d me0 = false → ¬ (Unp H ⟨me0, hds, votes, bal, yes, agr, dx, rD, reps⟩ ∧ me0 ∈ reps.map (·.1))) → Q (.bl b) H' := fun b H' s' hno => k _ b H' (Kp.of s') (hp.same s') ⟨rfl, rfl⟩ rfl rfl ⟨fun z => z, fun z _ _ => z, fun _ e1 e2 e3 e4 => absurd ⟨e3, e4⟩ (hno e1 e2), fun _ _ _ => rfl⟩
  refine ⟨_, rfl, p, dx, _, rfl, hp.ins, rfl, p, _, rfl, hp, fun hbn => ⟨_, rfl, iteT (fin0 _ _ (Same.refl _) fun _ _ ⟨⟨⟨i, z⟩, _⟩, _⟩ => by rw [show BalD H bal = none by rw [show bal = .non from hbn]; rfl] at z; cases z)⟩, fun hbn b hbu => ⟨_, rfl, ?_⟩⟩
  cases b with
  | false => exact iteT (fin0 _ _ (Same.refl _) fun _ _ z => nomatch hbu.mpr z.1)
  | true =>
  refine iteF ?_
  refine ⟨_, rfl, p, dx, _, rfl, hp.ins, rfl, _, rfl, p, _, d, rfl, hp, fun b1 H1 s1 hen => ⟨_, rfl, ?_⟩⟩
  cases b1 with
  | false => exact iteT (fin0 _ _ s1 fun e1 e2 z => nomatch (hen e1 e2).mpr z.2)
  | true =>
  refine iteF ?_
  have hp1 := hp.same s1
  have hrd1 := s1 _ _ hrd
  have h64 : (reps.map (·.1)).length < 64 := by rw [List.length_map]; omega
  refine ⟨_, rfl, p, dx, _, rfl, hp1.ins, rD, _, _, rfl, .inl hrd1, hks, h64, fun ys q hperm _ hq => ?_⟩
  have sq := same_new (o := .lst (ys.map V.int)) hq
  have ent : ∀ h ∈ ys, ∃ T, valV (encE reps) (Sum.inl h : Key) = some (.ref T) ∧ EntAt cs n ms B H1 T := fun h hh => by
    obtain ⟨T, e1, e2⟩ := getG_key hp.nd (hperm.subset hh)
    exact ⟨T, by rw [valV_encE, e1]; rfl, (hp1.ent _ e2).1⟩
  have ylen : ys.length < 64 := by rw [hperm.length_eq]; exact h64
  refine ⟨q, rfl, ⟨_, SqL.of upd_same⟩, for_list (K := K) (a := q) (xs := ys.map V.int) (fun i σ' H' => ∃ (x y : V) (v1 v2 : Option V), σ' = [some (.ref p), some (.int d), some (.ref f), some x, some y, v1, v2] ∧ Same H1 H' ∧ BestV cs n ms H' x y ∧ SqL K H' q (ys.map V.int))
    ⟨.non, .non, none, none, rfl, sq, .inl ⟨rfl, rfl⟩, SqL.of upd_same⟩ (fun i σ' H' _ ⟨_, _, _, _, _, _, _, h⟩ => h) ?_ ?_⟩
  · rintro i x σ2 H2 hx ⟨bx, by_, v1, v2, rfl, s2, hbv, hsq⟩
    rw [List.getElem?_map] at hx
    obtain ⟨h, eh, rfl⟩ := Option.map_eq_some_iff.mp hx
    obtain ⟨T, hT, r, R, y, e1, e2, e3, e4, e5⟩ := ent h (List.mem_of_getElem? eh)
    have hp2 := hp1.same s2
    have e5' := e5.ext (.of s2)
    refine ⟨_, rfl, p, dx, _, rfl, hp2.ins, _, rfl, rD, .ref T, rfl, .inl ⟨encE reps, .inl h, .inl (s2 _ _ hrd1), rfl, hT.symm⟩, _, _, _, _, rfl, rfl, SqT.of (s2 _ _ e1), rfl, ?_⟩
    refine ⟨_, rfl, _, rfl, y, rfl, e5', fun v hv hvn => ⟨bx, v, rfl, hbv.bal, hv, fun b hb => ⟨_, rfl, ?_⟩⟩⟩
    cases b with
    | false => exact iteF ⟨bx, by_, _, _, rfl, s2, hbv, hsq⟩
    | true =>
      refine iteT ?_
      rcases e5' with rfl | ⟨a, b, t, i1, j1, c1, rfl, g1, g2, g3, g4⟩
      · exact absurd (hb (hvn rfl)) (by decide)
      · exact ⟨_, rfl, a, _, rfl, SqT.of g1, rfl, _, _, rfl, _, _, rfl, rfl, .ref b, .ref t, _, _, rfl, s2, .inr ⟨b, b, i1, j1, t, c1, rfl, g2, rfl, g3, g4, rfl⟩, hsq⟩
  · rintro σ2 H2 ⟨bx, by_, v1, v2, rfl, s2, hbv, _⟩
    refine ⟨fun σ' H' => ∃ (t : Addr) (c1 : Pl) (x : V) (v1 v2 : Option V), σ' = [some (.ref p), some (.int d), some (.ref f), some x, some (.ref t), v1, v2] ∧ Same H1 H' ∧ PlAt H' t c1 ∧ PlOK cs n ms c1, ⟨_, rfl, rfl, _, rfl, ?_⟩, ?_⟩
    · rcases hbv with ⟨rfl, rfl⟩ | ⟨a, b, i, j, t, c1, rfl, h1, rfl, h2, h3, _⟩
      · refine iteT ⟨rfl, s2 _ _ (s1 _ _ hf), ?_⟩
        have hp2 := hp1.same s2
        refine ⟨_, rfl, p, dx, _, rfl, hp2.ins, rD, _, _, rfl, .inl (s2 _ _ hrd1), hks, h64, fun zs q2 hperm2 _ hq2 => ?_⟩
        have sq2 := same_new (o := .lst (zs.map V.int)) hq2
        have zlen : zs.length < 64 := by rw [hperm2.length_eq]; exact h64
        have ent2 : ∀ h ∈ zs, ∃ T, valV (encE reps) (Sum.inl h : Key) = some (.ref T) ∧ EntAt cs n ms B H1 T := fun h hh => ent h (hperm.symm.subset (hperm2.subset hh))
        refine ⟨q2, rfl, ⟨_, SqL.of upd_same⟩, fun D hD => lc_list (K := K) (a := q2) (xs := zs.map V.int) (fun i H' => Same (upd H2 q2 (.lst (zs.map V.int))) H' ∧ ∃ l : RL, H' D = some (.lst (refsR l)) ∧ l.length = i ∧ RlAt H' l ∧ (∀ x ∈ l, RepOK cs n ms x.2) ∧ ∀ x ∈ l, x.2.os.length ≤ B)
          ⟨same_new hD, [], upd_same, rfl, fun _ h => (nomatch h), fun _ h => (nomatch h), fun _ h => (nomatch h)⟩ (fun i H' _ ⟨s, _⟩ => SqL.of (s _ _ upd_same)) ?_ ?_⟩
        · rintro i x H3 hx ⟨s3, l, hl, hli, hl1, hl2, hl3⟩
          rw [List.getElem?_map] at hx
          obtain ⟨h, eh, rfl⟩ := Option.map_eq_some_iff.mp hx
          obtain ⟨T, hT, r, R, y, e1, e2, e3, e4, e5⟩ := ent2 h (List.mem_of_getElem? eh)
          have s23 := (s2.trans sq2).trans s3
          have hp3 := hp1.same s23
          have hi := (List.getElem?_eq_some_iff.mp eh).1
          have exD : Ext H3 (upd H3 D (.lst (refsR l ++ [.ref r]))) := Kp.ext (F := [D]) (Kp.upd Kp.refl List.mem_cons_self) fun z hz o ho => by
            rw [List.mem_singleton.mp hz, hl] at ho; cases ho; exact fun z => z
          refine ⟨rfl, _, rfl, p, dx, _, rfl, hp3.ins, _, rfl, rD, .ref T, rfl, .inl ⟨encE reps, .inl h, .inl (s23 _ _ hrd1), rfl, hT.symm⟩, _, _, _, _, rfl, rfl, SqT.of (s23 _ _ e1), rfl, _, hl, by rw [refsR_len]; exact small6 (by omega), same_set s3 hD, l ++ [(r, R)], by rw [upd_same]; unfold refsR; rw [List.map_append]; rfl, by rw [List.length_append, hli]; rfl, fun z hz => ?_, fun z hz => ?_, fun z hz => ?_⟩
          · rcases List.mem_append.mp hz with hz | hz
            · exact (hl1 z hz).ext exD
            · rw [List.mem_singleton.mp hz]; exact (e2.ext (.of s23)).ext exD
          · rcases List.mem_append.mp hz with hz | hz
            · exact hl2 z hz
            · rw [List.mem_singleton.mp hz]; exact e3
          · rcases List.mem_append.mp hz with hz | hz
            · exact hl3 z hz
            · rw [List.mem_singleton.mp hz]; exact e4
        · rintro H3 ⟨s3, l, hl, hli, hl1, hl2, hl3⟩
          have s13 := (s2.trans sq2).trans s3
          have s03 := s1.trans s13
          rw [List.length_map] at hli
          refine ⟨s03 _ _ hf, s03 _ _ hc, me, hands, wi, D, rfl, rfl, me, hands, D, wi, l, rfl, hm0, hm1, hwi, SqL.of hl, hl1, hl2, fun x hx => Nat.le_trans (hl3 x hx) hB, by omega, hcs, hms, fun t c1 H4 ht s4 h1 h2 => ?_⟩
          exact ⟨t, c1, _, _, _, rfl, s13.trans s4, h1, h2⟩
      · exact iteF ⟨t, c1, _, _, _, rfl, s2, h2, h3⟩
    · rintro σ3 H3 ⟨t, c1, x, w1, w2, rfl, s3, hpl, hplo⟩
      have hp3 := hp1.same s3
      have s03 := s1.trans s3
      have hbal : BalV H3 bal := hp3.bal
      rcases hbal with rfl | ⟨ba, bi, bj, rfl, hb1⟩
      · exact absurd rfl hbn
      refine ⟨_, rfl, p, dx, _, rfl, hp3.ins, _, rfl, (by show 2 ≤ sizeLine; decide), fun T hT => ?_⟩
      have s4 := same_new (o := .tup [.ref ba, .ref t]) hT
      have hp4 := hp3.same s4
      refine ⟨_, rfl, p, dx, _, rfl, hp4.ins, ?_⟩
      have hp5 := hp4.put (votes := votes) (yes := .ref T) hp4.bal (.inr ⟨T, ba, t, bi, bj, c1, rfl, upd_same, s4 _ _ hb1, hpl.ext (.of s4), hplo⟩) hp4.agr
      have hm := hp.me
      refine ⟨_, rfl, p, dx, _, rfl, hp5.ins, _, _, rfl, rfl, ⟨hm.1, by show me0 ≤ 1000000; have : me0 ≤ 62 := hm.2; omega, by decide⟩, _, rfl, p, dx, _, rfl, hp5.ins, ?_⟩
      have hp6 := hp5.put (votes := 1 * 2 ^ me0.toNat) hp5.bal hp5.yes hp5.agr
      refine ⟨_, rfl, p, dx, _, rfl, hp6.ins, rfl, p, _, rfl, hp6, fun C' H7 k7 hp7 cs7 e1 e2 so => ?_⟩
      have hMe : me0 = ((me0.toNat : Nat) : Int) := by have := hm.1; show me0 = _; have : 0 ≤ me0 := hm.1; omega
      refine k C' true H7 ((Kp.upd (Kp.upd ((Kp.of s03).trans (Kp.of s4)) List.mem_cons_self) List.mem_cons_self).trans k7) hp7 cs7 e1 e2 ⟨fun z => ?_, fun z1 z2 z3 => ?_, fun z1 z2 z3 z4 z5 => ?_, fun z1 z2 z3 => ?_⟩
      · rw [so.stay z]; exact z
      · cases ea : C'.agr with
        | non => rfl
        | _ =>
          obtain ⟨r1, r2, p1, p2, h12⟩ := so.fr z1 (by rw [ea]; exact fun z => nomatch z)
          have p1 : PM (Builtin.bitAnd (1 * 2 ^ me0.toNat) hds) r1 := p1
          rw [Int.one_mul] at p1
          exact absurd (alone_of p1 p2 z2 h12) z3
      · refine so.to z1 (fun z => nomatch z) fun r1 r2 p1 p2 => ?_
        have p1 : PM (Builtin.bitAnd (1 * 2 ^ me0.toNat) hds) r1 := p1
        have p2 : PM hds r2 := p2
        have z2 : hds = 2 ^ me0.toNat := z2
        rw [Int.one_mul, z2, PyProof.Rows.bitAnd_self] at p1
        rw [z2] at p2
        rw [p1.one, p2.one]; decide
      · exact absurd ⟨hbu.mp rfl, (hen z1 z2).mp rfl⟩ z3

end
end G
namespace G
open PySem PySem.Spec L2
open PyProof.Rows hiding St
section
variable {P : Program} {w : World} {K : PySem.W.Frag} {mg : Str → Option Value} {base : Heap} {CT : Addr × Addr}
/-! ### the hand -/
inductive Ev where
  | tk (x : Nm)
  | oth (y : Str)
def EvAt (H : Hp) (a : Addr) : Ev → Prop
  | .tk x => ∃ q rest, H a = some (.tup (.str "take" :: .ref q :: rest)) ∧ H q = some (.tup (nmV x))
  | .oth y => y ≠ "take" ∧ ∃ rest, H a = some (.tup (.str y :: rest))
theorem EvAt.ext {H H1 : Hp} {a : Addr} {e : Ev} (h : EvAt H a e) (x : Ext H H1) : EvAt H1 a e := by
  cases e with
  | tk n =>
    obtain ⟨q, rest, h1, h2⟩ := h
    exact ⟨q, rest, x _ _ h1 trivial, x _ _ h2 trivial⟩
  | oth y =>
    obtain ⟨h0, rest, h1⟩ := h
    exact ⟨h0, rest, x _ _ h1 trivial⟩
abbrev EL := List (Addr × Ev)
def refsE (l : EL) : List V := l.map fun e => V.ref e.1
theorem refsE_len (l : EL) : (refsE l).length = l.length := List.length_map _
theorem refsE_app (l : EL) (x : Addr × Ev) : refsE (l ++ [x]) = refsE l ++ [.ref x.1] := by unfold refsE; rw [List.map_append]; rfl
theorem refsE_get {l : EL} {i : Nat} {x : V} (h : (refsE l)[i]? = some x) : ∃ y, l[i]? = some y ∧ x = .ref y.1 := by
  unfold refsE at h
  rw [List.getElem?_map] at h
  obtain ⟨y, hy, e⟩ := Option.map_eq_some_iff.mp h
  exact ⟨y, hy, e.symm⟩
def ElAt (H : Hp) (l : EL) : Prop := ∀ e ∈ l, EvAt H e.1 e.2
theorem ElAt.ext {H H1 : Hp} {l : EL} (h : ElAt H l) (x : Ext H H1) : ElAt H1 l := fun e he => (h e he).ext x
theorem ElAt.snoc {H : Hp} {l : EL} {x : Addr × Ev} (h : ElAt H l) (hx : EvAt H x.1 x.2) : ElAt H (l ++ [x]) := fun e he => by
  rcases List.mem_append.mp he with he | he
  · exact h e he
  · rw [List.mem_singleton.mp he]; exact hx
/-- the names that it took -/
def tks (l : EL) : List Nm := l.filterMap fun e => match e.2 with
  | .tk x => some x
  | .oth _ => none
theorem tks_app (l r : EL) : tks (l ++ r) = tks l ++ tks r := List.filterMap_append
theorem tks_tk (a : Addr) (x : Nm) : tks [(a, .tk x)] = [x] := rfl
theorem tks_oth (a : Addr) (y : Str) : tks [(a, .oth y)] = [] := rfl
structure Hd where
  me : Int
  room : Int
  feared : Int
  wished : Int
  last : Int
  number : Int
  hands : Int
  leaving : Bool
  wishing : Bool
  hist : Addr
  pgs : Addr
  wA : Addr
  lost : V
  gone : V
  pv : V
  cv : V
  dx : Addr
  evs : EL
def Hd.rc (D : Hd) : HandR := ⟨.int D.me, .int D.room, .ref D.hist, .ref D.pgs, D.lost, .int D.feared, .int D.wished, .bl D.leaving, .bl D.wishing, .int D.last, .int D.number, .int D.hands, .ref D.wA, D.gone, D.pv, D.cv⟩
abbrev hdO (K : PySem.W.Frag) (D : Hd) : HO := .ins (He.ga K "Hand") D.dx (HandR.fs D.rc)
theorem hd_imm {K : PySem.W.Frag} {D : Hd} : ¬ Imm (hdO K D) := fun z => absurd z (by show ¬ (16 = 5); decide)
/-- the object, its history -/
structure HdC (K : PySem.W.Frag) (H : Hp) (h : Addr) (D : Hd) : Prop where
  ins : H h = some (hdO K D)
  hist : H D.hist = some (.lst (refsE D.evs))
  evs : ElAt H D.evs
section
variable {H H1 : Hp} {h : Addr} {D D' : Hd}
theorem HdC.ne (c : HdC K H h D) : D.hist ≠ h := ne_of c.hist c.ins (by intro z; cases z)
theorem HdC.keep (c : HdC K H h D) (k1 : H1 h = H h) (k2 : H1 D.hist = H D.hist) (x : Ext H H1) : HdC K H1 h D := ⟨by rw [k1]; exact c.ins, by rw [k2]; exact c.hist, c.evs.ext x⟩
theorem HdC.same (c : HdC K H h D) (s : Same H H1) : HdC K H1 h D := ⟨s _ _ c.ins, s _ _ c.hist, c.evs.ext (.of s)⟩
theorem HdC.ext1 (c : HdC K H h D) (kp : Kp [h] H H1) : Ext H H1 := kp.ext fun z hz o ho => by
  rw [List.mem_singleton.mp hz, c.ins] at ho; cases ho; exact hd_imm
theorem HdC.ext2 (c : HdC K H h D) (kp : Kp [h, D.hist] H H1) : Ext H H1 := kp.ext fun z hz o ho => by
  rcases List.mem_cons.mp hz with zz | hz
  · rw [zz, c.ins] at ho; cases ho; exact hd_imm
  · rw [List.mem_singleton.mp hz, c.hist] at ho; cases ho; exact fun z => z
/-- a field is written -/
theorem HdC.put (c : HdC K H h D) (e1 : D'.hist = D.hist) (e2 : D'.evs = D.evs) : HdC K (upd H h (hdO K D')) h D' := by
  have kp : Kp [h] H (upd H h (hdO K D')) := Kp.upd Kp.refl List.mem_cons_self
  refine ⟨upd_same, ?_, ?_⟩
  · rw [e1, e2, upd_ne c.ne]; exact c.hist
  · rw [e2]; exact c.evs.ext (c.ext1 kp)
/-- an event is told -/
theorem HdC.app {x : Addr × Ev} (c : HdC K H h D) (hx : EvAt H x.1 x.2) : HdC K (upd H D.hist (.lst (refsE D.evs ++ [.ref x.1]))) h { D with evs := D.evs ++ [x] } := by
  have kp : Kp [D.hist] H (upd H D.hist (.lst (refsE D.evs ++ [.ref x.1]))) := Kp.upd Kp.refl List.mem_cons_self
  have ex : Ext H (upd H D.hist (.lst (refsE D.evs ++ [.ref x.1]))) := kp.ext fun z hz o ho => by
    rw [List.mem_singleton.mp hz, c.hist] at ho; cases ho; exact fun z => z
  refine ⟨?_, ?_, ?_⟩
  · rw [upd_ne c.ne.symm]; exact c.ins
  · show upd H D.hist _ D.hist = some (.lst (refsE (D.evs ++ [x])))
    rw [upd_same, refsE_app]
  · exact (c.evs.ext ex).snoc (hx.ext ex)
end
def spNote (K : PySem.W.Frag) : Sp := fun vs H Q _ => ∃ h D q L, vs = [.ref h, .ref q] ∧ HdC K H h D ∧ H q = some (.lst (refsT L)) ∧ TkAt H L ∧ q ≠ D.hist ∧ L.length ≤ 1000 ∧ D.evs.length ≤ 1000000 ∧
  ∀ r H', Kp [D.hist] H H' → HdC K H' h { D with evs := D.evs ++ r } → tks r = L.map (fun e => e.2.2.2.nm) → r.length = L.length → Q .non H'
theorem ok_Hand_note (A : All P w K mg base CT) : MOk P w K mg base CX0 1 (He.ga K "Hand") "note" ["self", "takes"] [] (spNote K) := by
  obtain ⟨fd, F⟩ := fu_Hand_note A.d
  refine ⟨cl_Hand A.d, _, fd, [], FunD.ok0 F sc_Hand_note (fun vs H Q E h => ?_) (fun cdv A0 outer s H vs Q E hr h => ?_), me_Hand_note A.d, F.bindsN fun _ _ _ _ _ _ us hl => match us, hl with | [_, _], _ => rfl, .nil⟩
  · obtain ⟨h, D, q, L, rfl, hd, hq, hL, hne, hll, hel, k⟩ := h
    rfl
  · obtain ⟨h, D, q, L, rfl, hd, hq, hL, hne, hll, hel, k⟩ := h
    have hu := hu_of hr
    refine ⟨_, pss_one (ps_for PassesOwn.never rfl (pi_list (pv 1)) (pg_tup rfl (pgs_cons (pg_name (i := 2) sc_Hand_note.nd rfl (by first | exact Or.inl rfl | exact Or.inr rfl)) (pgs_cons (pg_name (i := 3) sc_Hand_note.nd rfl (by first | exact Or.inl rfl | exact Or.inr rfl)) pgs_nil))) (pss_one (ps_expr (pe_bm PySem.F.plainAttrs_list PySem.F.slot_list_append PySem.F.type_list_append mt_append (pe_Hand_history A.d (pv 0)) (pa_cons (pe_tup (pa_cons pe_str (pa_cons (pe_slice sl_tup (pv 2) po_none (po_some pe_int)) (pa_cons (pe_ix ix_tup (pv 2) pe_int (fun _ _ => rfl)) (pa_cons (pe_ix ix_tup (pv 2) pe_int (fun _ _ => rfl)) (pa_cons (pe_ix ix_tup (pv 2) pe_int (fun _ _ => rfl)) (pa_cons (pv 3) pa_nil))))))) pa_nil))))), ?_⟩
    refine ⟨_, rfl, q, rfl, ⟨_, SqL.of hq⟩, for_list (K := K) (a := q) (xs := refsT L) (fun i σ' H' => ∃ (v2 v3 : Option V) (r : EL), σ' = [some (.ref h), some (.ref q), v2, v3] ∧ Kp [D.hist] H H' ∧ HdC K H' h { D with evs := D.evs ++ r } ∧ tks r = (L.take i).map (fun e => e.2.2.2.nm) ∧ r.length = i)
      ⟨none, none, [], rfl, Kp.refl, by rw [List.append_nil]; exact hd, rfl, rfl⟩ (fun i σ' H' _ ⟨_, _, _, _, kp, _⟩ => SqL.of (kp _ _ hq (notin1 hne))) ?_ ?_⟩
    · rintro i x σ1 H1 hx ⟨v2, v3, r, rfl, kp1, hd1, ht, hrl⟩
      unfold refsT at hx
      rw [List.getElem?_map] at hx
      obtain ⟨e, ee, rfl⟩ := Option.map_eq_some_iff.mp hx
      have he := List.mem_of_getElem? ee
      have hi := (List.getElem?_eq_some_iff.mp ee).1
      have ex1 : Ext H H1 := kp1.ext fun z hz o ho => by
        rw [List.mem_singleton.mp hz, hd.hist] at ho; cases ho; exact fun z => z
      obtain ⟨h1, h2⟩ := hL e he
      have h1' := ex1 _ _ h1 trivial
      have h2' := h2.ext ex1
      refine ⟨e.1, _, rfl, SqT.of h1', rfl, _, _, rfl, _, _, rfl, rfl, ?_⟩
      have hi' : r.length < L.length := by omega
      refine ⟨_, rfl, h, D.dx, _, rfl, hd1.ins, .inl ⟨rfl, _, .inl (.inl hd1.hist)⟩, _, rfl, _, rfl, e.2.1, _, rfl, SqT.of h2'.1, fun zz => absurd zz.2 (by show ¬ (3 = 6); decide), fun t ht1 => ?_⟩
      have s2 : Same H1 (upd H1 t (.tup (cutV (ToldV e.2.2.2) none (some 3)))) := same_new ht1
      have h3 := h2'.same s2
      refine ⟨_, rfl, _, _, _, _, rfl, rfl, SqT.of h3.1, rfl, _, rfl, _, _, _, _, rfl, rfl, SqT.of h3.1, rfl, _, rfl, _, _, _, _, rfl, rfl, SqT.of h3.1, rfl, _, rfl, (by show 6 ≤ sizeLine; decide), fun a ha => ?_⟩
      have s3 := same_new (o := .tup [.str "take", .ref t, .str (kdS e.2.2.2.kd), .int e.2.2.2.w, .ref e.2.2.2.z, .str e.2.2.1]) ha
      have hd3 := (hd1.same s2).same s3
      refine ⟨D.hist, _, _, rfl, rfl, hd3.hist, by rw [refsE_len]; exact small6 (by show (D.evs ++ r).length ≤ _; rw [List.length_append]; omega), ?_⟩
      have hd4 := hd3.app (x := (a, .tk e.2.2.2.nm)) ⟨t, _, upd_same, by rw [s3 _ _ upd_same, cut_nm]⟩
      refine ⟨_, _, r ++ [(a, .tk e.2.2.2.nm)], rfl, ((kp1.trans (Kp.of s2)).trans (Kp.of s3)).upd List.mem_cons_self, ?_, ?_, by rw [List.length_append, hrl]; rfl⟩
      · rw [← List.append_assoc]; exact hd4
      · rw [tks_app, ht, List.take_add_one, ee, tks_tk]
        show _ = List.map _ (_ ++ [e])
        rw [List.map_append]; rfl
    · rintro σ1 H1 ⟨v2, v3, r, rfl, kp1, hd1, ht, hrl⟩
      unfold refsT at hrl
      rw [List.length_map] at hrl
      exact k r H1 kp1 hd1 (by rw [ht]; unfold refsT; rw [List.length_map, List.take_length]) hrl
def spGoOut (K : PySem.W.Frag) : Sp := fun vs H Q _ => ∃ h D, vs = [.ref h] ∧ HdC K H h D ∧ D.evs.length ≤ 1000000 ∧
  ∀ a y H', Kp [h, D.hist] H H' → HdC K H' h { D with pv := .non, cv := .non, leaving := false, evs := D.evs ++ [(a, .oth y)] } → Q .non H'
theorem ok_Hand_go_out (A : All P w K mg base CT) : MOk P w K mg base CX0 1 (He.ga K "Hand") "go_out" ["self"] [] (spGoOut K) := by
  obtain ⟨fd, F⟩ := fu_Hand_go_out A.d
  refine ⟨cl_Hand A.d, _, fd, [], FunD.ok0 F sc_Hand_go_out (fun vs H Q E h => ?_) (fun cdv A0 outer s H vs Q E hr h => ?_), me_Hand_go_out A.d, F.bindsN fun _ _ _ _ _ _ us hl => match us, hl with | [_], _ => rfl, .nil⟩
  · obtain ⟨h, D, rfl, hd, hel, k⟩ := h
    rfl
  · obtain ⟨h, D, rfl, hd, hel, k⟩ := h
    have hu := hu_of hr
    refine ⟨_, pss_cons (ps_Hand_page A.d (pv 0) pe_non)
      (pss_cons (ps_Hand_change A.d (pv 0) pe_non)
      (pss_cons (ps_Hand_leaving A.d (pv 0) pe_bl)
      (pss_one (ps_expr (pe_bm PySem.F.plainAttrs_list PySem.F.slot_list_append PySem.F.type_list_append mt_append (pe_Hand_history A.d (pv 0)) (pa_cons (pe_tup (pa_cons pe_str (pa_cons (pe_Hand_number A.d (pv 0)) pa_nil))) pa_nil)))))), ?_⟩
    refine ⟨_, rfl, h, D.dx, _, rfl, hd.ins, ?_⟩
    have hd1 : HdC K _ h { D with pv := .non } := hd.put rfl rfl
    refine ⟨_, rfl, h, D.dx, _, rfl, hd1.ins, ?_⟩
    have hd2 : HdC K _ h { D with pv := .non, cv := .non } := hd1.put rfl rfl
    refine ⟨_, rfl, h, D.dx, _, rfl, hd2.ins, ?_⟩
    have hd3 : HdC K _ h { D with pv := .non, cv := .non, leaving := false } := hd2.put rfl rfl
    refine ⟨_, rfl, h, D.dx, _, rfl, hd3.ins, .inl ⟨rfl, _, .inl (.inl hd3.hist)⟩, _, rfl, h, D.dx, _, rfl, hd3.ins, (by show 2 ≤ sizeLine; decide), fun a ha => ?_⟩
    have s4 := same_new (o := .tup [.str "out", .int D.number]) ha
    have hd4 := hd3.same s4
    refine ⟨D.hist, _, _, rfl, rfl, hd4.hist, by rw [refsE_len]; exact small6 (by show D.evs.length ≤ _; omega), ?_⟩
    have hd5 := hd4.app (x := (a, .oth "out")) ⟨by decide, _, upd_same⟩
    refine k a "out" _ ?_ hd5
    exact ((Kp.upd (Kp.upd (Kp.upd Kp.refl List.mem_cons_self) List.mem_cons_self) List.mem_cons_self).trans (Kp.of s4)).upd (List.mem_cons_of_mem _ List.mem_cons_self)

end
end G
namespace G
open PySem PySem.Spec L2
open PyProof.Rows hiding St
section
variable {P : Program} {w : World} {K : PySem.W.Frag} {mg : Str → Option Value} {base : Heap} {CT : Addr × Addr}
theorem made_same {H H' : Hp} {x dx C : Addr} (h1 : H x = none) (h2 : H dx = none) (kp : Kp [x] (upd (upd H dx (.own x)) x (.ins C dx [])) H') : Same H H' := fun b o e =>
  kp b o (by rw [upd_ne (ne_of_none e h1), upd_ne (ne_of_none e h2)]; exact e) (notin1 (ne_of_none e h1))
theorem made_none {H : Hp} {x dx C b : Addr} (h1 : H x = none) (h2 : H dx = none) (h : upd (upd H dx (.own x)) x (.ins C dx []) b = none) : H b = none := by
  cases e : H b with
  | none => rfl
  | some o => rw [upd_ne (ne_of_none e h1), upd_ne (ne_of_none e h2), e] at h; cases h
/-- the objects of a hand's own: never locked, no tables -/
def Pn : HO → Prop
  | .ins _ _ fs => fs.length ≠ 5
  | .lst _ => True
  | .dK _ => True
  | .dT _ => True
  | _ => False
theorem Pn.imm {o : HO} (h : Pn o) : ¬ Imm o := by
  cases o <;> first | exact False.elim h | exact h | exact fun z => z
def Nt (o : HO) : Prop := ∀ ps, o ≠ .tbl ps
theorem Pn.nt {o : HO} (h : Pn o) : Nt o := fun ps z => by rw [z] at h; exact h
theorem PageAt.tr {cs : List Int} {ms : List Nm} {H : Hp} {p : Addr} {S : Pg} (h : PageAt K cs ms H p S) : ∀ b ∈ S.foot p, ∃ o, H b = some o ∧ Pn o := by
  obtain ⟨⟨dxt, cit, odt, ht1, ht2⟩, ht3, _⟩ := id h.tl
  obtain ⟨⟨dxa, cia, oda, ha1, ha2⟩, ha3, _⟩ := id h.ab
  intro b hb
  unfold Pg.foot at hb
  simp only [List.mem_cons, List.not_mem_nil, or_false] at hb
  rcases hb with rfl | rfl | rfl | rfl | rfl | rfl | rfl | rfl | rfl
  · exact ⟨_, h.ins, by show ¬ (11 = 5); decide⟩
  · exact ⟨_, h.dn, trivial⟩
  · exact ⟨_, h.hl, trivial⟩
  · exact ⟨_, h.od, trivial⟩
  · exact ⟨_, ht1, by show ¬ (2 = 5); decide⟩
  · exact ⟨_, ht3, trivial⟩
  · exact ⟨_, ha1, by show ¬ (2 = 5); decide⟩
  · exact ⟨_, ha3, trivial⟩
  · exact ⟨_, h.ps, trivial⟩
/-- a page and a change just made -/
structure NewP (K : PySem.W.Frag) (cs : List Int) (ms : List Nm) (B : Nat) (H H' : Hp) (me number hands room : Int) (p : Addr) (S : Pg) (c : Addr) (C : Ch) : Prop where
  pg : PageAt K cs ms H' p S
  fr : ∀ b ∈ S.foot p, H b = none
  pme : S.me = me
  pnum : S.num = number
  phands : S.hands = hands
  proom : S.room = room
  made : S.made = 0
  kv : S.kv = []
  hd : S.hd = []
  os : S.os = []
  T : S.T = []
  past : S.past = []
  ch : ChAt K cs number ms B H' c C
  cme : C.me = me
  bal : C.bal = .non
  agr : C.agr = .non
  reps : C.reps = []
  chands : C.hands = hands
  frc : H c = none
  frd : H C.rD = none
  sep : ∀ b ∈ S.foot p, b ≠ c ∧ b ≠ C.rD
def spStand (K : PySem.W.Frag) (cs : List Int) (ms : List Nm) (B : Nat) : Sp := fun vs H Q _ => ∃ h D number hands w i j r, vs = [.ref h, .int number, .int hands, .ref w] ∧ HdC K H h D ∧ H w = some (.tup [.int i, .int j, .ref r]) ∧ D.evs.length ≤ 1000000 ∧ 0 ≤ D.me ∧ D.me ≤ 62 ∧
  ∀ wi a p S c C H', (0 ≤ D.wished → 0 ≤ wi) → Kp [h, D.hist] H H' → HdC K H' h { D with number := number, hands := hands, wA := w, pv := .ref p, cv := .ref c, wished := wi, wishing := false, gone := .non, last := if number > D.last then number else D.last, evs := D.evs ++ [(a, .oth "list")] } →
    NewP K cs ms B H H' D.me number hands D.room p S c C → Q .non H'
theorem ok_Hand_stand (A : All P w K mg base CT) {cs : List Int} {ms : List Nm} {B : Nat}: MOk P w K mg base CX0 7 (He.ga K "Hand") "stand" ["self", "number", "hands", "way"] [] (spStand K cs ms B) := by
  obtain ⟨fd, F⟩ := fu_Hand_stand A.d
  refine ⟨cl_Hand A.d, _, fd, [], FunD.ok0 F sc_Hand_stand (fun vs H Q E h => ?_) (fun cdv A0 outer s H vs Q E hr h => ?_), me_Hand_stand A.d, F.bindsN fun _ _ _ _ _ _ us hl => match us, hl with | [_, _, _, _], _ => rfl, .nil⟩
  · obtain ⟨h, D, number, hands, w, i, j, r, rfl, hd, hw, hel, h0, h62, k⟩ := h
    rfl
  · obtain ⟨h, D, number, hands, w, i, j, r, rfl, hd, hw, hel, h0, h62, k⟩ := h
    have hu := hu_of hr
    refine ⟨_, pss_cons (ps_Hand_number A.d (pv 0) (pv 1))
      (pss_cons (ps_Hand_hands A.d (pv 0) (pv 2))
      (pss_cons (ps_Hand_way A.d (pv 0) (pv 3))
      (pss_cons (ps_Hand_page A.d (pv 0) ((mk_ok_Page A (cs := cs) (ms := ms)).pe hr pass0 (pa_cons (pe_Hand_me A.d (pv 0)) (pa_cons (pv 1) (pa_cons (pv 2) (pa_cons (pe_Hand_room A.d (pv 0)) pa_nil))))))
      (pss_cons (ps_Hand_change A.d (pv 0) ((mk_ok_Change A (cs := cs) (n := number) (ms := ms) (B := B)).pe hr pass0 (pa_cons (pe_Hand_me A.d (pv 0)) (pa_cons (pv 2) pa_nil))))
      (pss_cons (ps_Hand_wished A.d (pv 0) (pe_op op_and (pe_Hand_wished A.d (pv 0)) (pe_un un_inv (pv 2))))
      (pss_cons (ps_Hand_wishing A.d (pv 0) pe_bl)
      (pss_cons (ps_Hand_gone A.d (pv 0) pe_non)
      (pss_cons (ps_Hand_last A.d (pv 0) (pe_callB (call_max2 rfl) (by rfl) (fr_max A.kin A.ns A.d) (by decide +kernel) (pa_cons (pe_Hand_last A.d (pv 0)) (pa_cons (pv 1) pa_nil))))
      (pss_one (ps_expr (pe_bm PySem.F.plainAttrs_list PySem.F.slot_list_append PySem.F.type_list_append mt_append (pe_Hand_history A.d (pv 0)) (pa_cons (pe_tup (pa_cons pe_str (pa_cons (pv 1) (pa_cons (pv 2) (pa_cons (pe_ix ix_tup (pv 3) pe_int (fun _ _ => rfl)) (pa_cons (pe_ix ix_tup (pv 3) pe_int (fun _ _ => rfl)) pa_nil)))))) pa_nil)))))))))))), ?_⟩
    refine ⟨_, rfl, _, rfl, h, D.dx, _, rfl, hd.ins, ?_⟩
    have hd1 : HdC K _ h { D with number := number } := hd.put rfl rfl
    refine ⟨_, rfl, _, rfl, h, D.dx, _, rfl, hd1.ins, ?_⟩
    have hd2 : HdC K _ h { D with number := number, hands := hands } := hd1.put rfl rfl
    refine ⟨_, rfl, _, rfl, h, D.dx, _, rfl, hd2.ins, ?_⟩
    have hd3 : HdC K _ h { D with number := number, hands := hands, wA := w } := hd2.put rfl rfl
    have kp3 : Kp [h] H (upd (upd (upd H h (hdO K { D with number := number })) h (hdO K { D with number := number, hands := hands })) h (hdO K { D with number := number, hands := hands, wA := w })) := Kp.upd (Kp.upd (Kp.upd Kp.refl List.mem_cons_self) List.mem_cons_self) List.mem_cons_self
    refine ⟨_, rfl, h, D.dx, _, rfl, hd3.ins, _, rfl, _, rfl, _, rfl, h, D.dx, _, rfl, hd3.ins, fun p dx hp hdx hne => ?_⟩
    refine ⟨p, dx, D.me, number, hands, D.room, rfl, upd_same, fun S H4 kp4 hS fr4 e1 e2 e3 e4 e5 e6 e7 e8 e9 e10 => ⟨rfl, ?_⟩⟩
    have s4 := made_same hp hdx kp4
    have hd4 := hd3.same s4
    refine ⟨_, rfl, h, D.dx, _, rfl, hd4.ins, ?_⟩
    have hd5 : HdC K _ h { D with number := number, hands := hands, wA := w, pv := .ref p } := hd4.put rfl rfl
    have fr0 : ∀ {b : Addr}, upd (upd (upd H h (hdO K { D with number := number })) h (hdO K { D with number := number, hands := hands })) h (hdO K { D with number := number, hands := hands, wA := w }) b = none → H b = none := fun {b} hb => kp_free kp3 hb fun z hz => by
      rw [List.mem_singleton.mp hz]; exact ntn hd3.ins
    have hpH : H p = none := fr0 hp
    have frF : ∀ b ∈ S.foot p, H b = none := fun b hb => by
      rcases fr4 b hb with e | e
      · rw [e]; exact hpH
      · exact fr0 (made_none hp hdx e)
    have nh : ∀ b ∈ S.foot p, b ≠ h := fun b hb z => by
      have := frF b hb
      rw [z, hd.ins] at this; cases this
    have kp5 : Kp [h] H (upd H4 h (hdO K { D with number := number, hands := hands, wA := w, pv := .ref p })) := (kp3.trans (Kp.of s4)).upd List.mem_cons_self
    have hS5 : PageAt K cs ms (upd H4 h (hdO K { D with number := number, hands := hands, wA := w, pv := .ref p })) p S := hS.keep (fun b hb o e => by rw [upd_ne (nh b hb)]; exact e) (hd4.ext1 (Kp.upd Kp.refl List.mem_cons_self))
    refine ⟨_, rfl, h, D.dx, _, rfl, hd5.ins, _, rfl, fun c dx2 hc hdx2 hne2 => ⟨c, dx2, D.me, hands, rfl, upd_same, h0, h62, fun C H6 kp6 hC cme chands cbal crd cagr creps => ⟨rfl, ?_⟩⟩⟩
    have s6 := made_same hc hdx2 kp6
    have hd6 := hd5.same s6
    have hS6 := hS5.same s6
    have fr5 : ∀ {b : Addr}, upd H4 h (hdO K { D with number := number, hands := hands, wA := w, pv := .ref p }) b = none → H b = none := fun {b} hb => kp_free kp5 hb fun z hz => by
      rw [List.mem_singleton.mp hz]; exact ntn hd5.ins
    have hcH := fr5 hc
    have hrdH := made_none hc hdx2 crd
    refine ⟨_, rfl, h, D.dx, _, rfl, hd6.ins, ?_⟩
    have hd7 : HdC K _ h { D with number := number, hands := hands, wA := w, pv := .ref p, cv := .ref c } := hd6.put rfl rfl
    refine ⟨_, rfl, h, D.dx, _, rfl, hd7.ins, _, rfl, _, rfl, _, _, rfl, rfl, _, rfl, h, D.dx, _, rfl, hd7.ins, ?_⟩
    have hd8 : HdC K _ h { D with number := number, hands := hands, wA := w, pv := .ref p, cv := .ref c, wished := Builtin.bitAnd D.wished (Builtin.bitNot hands) } := hd7.put rfl rfl
    refine ⟨_, rfl, h, D.dx, _, rfl, hd8.ins, ?_⟩
    have hd9 : HdC K _ h { D with number := number, hands := hands, wA := w, pv := .ref p, cv := .ref c, wished := Builtin.bitAnd D.wished (Builtin.bitNot hands), wishing := false } := hd8.put rfl rfl
    refine ⟨_, rfl, h, D.dx, _, rfl, hd9.ins, ?_⟩
    have hd10 : HdC K _ h { D with number := number, hands := hands, wA := w, pv := .ref p, cv := .ref c, wished := Builtin.bitAnd D.wished (Builtin.bitNot hands), wishing := false, gone := .non } := hd9.put rfl rfl
    refine ⟨_, rfl, h, D.dx, _, rfl, hd10.ins, _, rfl, _, _, rfl, _, rfl, h, D.dx, _, rfl, hd10.ins, ?_⟩
    have hd11 : HdC K _ h { D with number := number, hands := hands, wA := w, pv := .ref p, cv := .ref c, wished := Builtin.bitAnd D.wished (Builtin.bitNot hands), wishing := false, gone := .non, last := if number > D.last then number else D.last } := hd10.put rfl rfl
    refine ⟨_, rfl, h, D.dx, _, rfl, hd11.ins, .inl ⟨rfl, _, .inl (.inl hd11.hist)⟩, ?_⟩
    have wh : w ≠ h := ne_of hw hd.ins (by intro z; cases z)
    have kp11 : Kp [h] H _ := (((((((kp5.trans (Kp.of s6)).upd (o := hdO K { D with number := number, hands := hands, wA := w, pv := .ref p, cv := .ref c }) List.mem_cons_self).upd (o := hdO K { D with number := number, hands := hands, wA := w, pv := .ref p, cv := .ref c, wished := Builtin.bitAnd D.wished (Builtin.bitNot hands) }) List.mem_cons_self).upd (o := hdO K { D with number := number, hands := hands, wA := w, pv := .ref p, cv := .ref c, wished := Builtin.bitAnd D.wished (Builtin.bitNot hands), wishing := false }) List.mem_cons_self).upd (o := hdO K { D with number := number, hands := hands, wA := w, pv := .ref p, cv := .ref c, wished := Builtin.bitAnd D.wished (Builtin.bitNot hands), wishing := false, gone := .non }) List.mem_cons_self).upd (o := hdO K { D with number := number, hands := hands, wA := w, pv := .ref p, cv := .ref c, wished := Builtin.bitAnd D.wished (Builtin.bitNot hands), wishing := false, gone := .non, last := if number > D.last then number else D.last }) List.mem_cons_self))
    have kq : Kp [h] H6 _ := ((((Kp.upd (F := [h]) (H := H6) (o := hdO K { D with number := number, hands := hands, wA := w, pv := .ref p, cv := .ref c }) Kp.refl List.mem_cons_self).upd (o := hdO K { D with number := number, hands := hands, wA := w, pv := .ref p, cv := .ref c, wished := Builtin.bitAnd D.wished (Builtin.bitNot hands) }) List.mem_cons_self).upd (o := hdO K { D with number := number, hands := hands, wA := w, pv := .ref p, cv := .ref c, wished := Builtin.bitAnd D.wished (Builtin.bitNot hands), wishing := false }) List.mem_cons_self).upd (o := hdO K { D with number := number, hands := hands, wA := w, pv := .ref p, cv := .ref c, wished := Builtin.bitAnd D.wished (Builtin.bitNot hands), wishing := false, gone := .non }) List.mem_cons_self).upd (o := hdO K { D with number := number, hands := hands, wA := w, pv := .ref p, cv := .ref c, wished := Builtin.bitAnd D.wished (Builtin.bitNot hands), wishing := false, gone := .non, last := if number > D.last then number else D.last }) List.mem_cons_self
    have hw11 := kp11 _ _ hw (notin1 wh)
    refine ⟨_, rfl, _, rfl, _, rfl, _, _, _, _, rfl, rfl, SqT.of hw11, rfl, _, rfl, _, _, _, _, rfl, rfl, SqT.of hw11, rfl, (by show 5 ≤ sizeLine; decide), fun a ha => ?_⟩
    have s12 := same_new (o := .tup [.str "list", .int number, .int hands, .int i, .int j]) ha
    have hd12 := hd11.same s12
    refine ⟨D.hist, _, _, rfl, rfl, hd12.hist, by rw [refsE_len]; exact small6 (by show D.evs.length ≤ _; omega), ?_⟩
    have hd13 := hd12.app (x := (a, .oth "list")) ⟨by decide, _, upd_same⟩
    have kq2 : Kp [h, D.hist] H6 _ := ((kq.mono (F' := [h, D.hist]) (by simp)).trans (Kp.of s12)).upd (o := .lst (refsE D.evs ++ [.ref a])) (p := D.hist) (by simp)
    have kp13 : Kp [h, D.hist] H _ := ((kp11.mono (F' := [h, D.hist]) (by simp)).trans (Kp.of s12)).upd (o := .lst (refsE D.evs ++ [.ref a])) (p := D.hist) (by simp)
    have ex6 := hd6.ext2 kq2
    have ft := fun (b : Addr) (hb : H b = none) (o : HO) (ho : H6 b = some o) => kq2 b o ho (fun z => by
      rcases List.mem_cons.mp z with z | z
      · rw [z, hd.ins] at hb; cases hb
      · rw [List.mem_singleton.mp z, hd.hist] at hb; cases hb)
    have trF : ∀ b ∈ S.foot p, ∃ o, upd H4 h (hdO K { D with number := number, hands := hands, wA := w, pv := .ref p }) b = some o := fun b hb => by
      obtain ⟨o, ho, _⟩ := hS5.tr b hb
      exact ⟨o, ho⟩
    refine k _ a p S c C _ (fun z => and_nnL z) kp13 hd13 ⟨hS6.keep (fun b hb => ft b (frF b hb)) ex6, frF, e1, e2, e3, e4, e5, e6, e7, e8, e9, e10, hC.keep (ft c hcH) (ft C.rD (fr5 hrdH)) ex6, cme, cbal, cagr, creps, chands, hcH, fr5 hrdH, fun b hb => ⟨fun z => ?_, fun z => ?_⟩⟩
    · obtain ⟨o, ho⟩ := trF b hb
      rw [z] at ho
      exact nomatch (ho.symm.trans hc)
    · obtain ⟨o, ho⟩ := trF b hb
      rw [z] at ho
      exact nomatch (ho.symm.trans hrdH)

end
end G
namespace G
open PySem PySem.Spec L2
open PyProof.Rows hiding St
section
variable {P : Program} {w : World} {K : PySem.W.Frag} {mg : Str → Option Value} {base : Heap} {CT : Addr × Addr}
/-! ### a hand, whole; what a deed does to the heap -/
abbrev nmT : Nat → Nat → Str := fun _ _ => "Hand.settle.<locals>.make"
abbrev Tb (CT : Addr × Addr) (H : Hp) : Prop := NdefX.TabN H CT.2 nmT
def Kt (F : List Addr) (H H' : Hp) : Prop := ∀ b o, H b = some o → b ∉ F → Nt o → H' b = some o
def Tr (F : List Addr) (H : Hp) : Prop := ∀ b ∈ F, ∃ o, H b = some o ∧ Pn o
section
variable {H H1 H2 : Hp} {F F' : List Addr} {CT : Addr × Addr}
theorem Tr.ext (t : Tr F H) (k : Kp F H H1) : Ext H H1 := k.ext fun x hx o ho => by
  obtain ⟨u, hu, pu⟩ := t x hx
  rw [hu] at ho; cases ho; exact pu.imm
theorem Tr.extT (t : Tr F H) (k : Kt F H H1) : Ext H H1 := fun b o hb im => by
  refine k b o hb (fun m => ?_) fun ps z => by rw [z] at im; exact im
  obtain ⟨u, hu, pu⟩ := t b m
  rw [hu] at hb; cases hb; exact pu.imm im
theorem Tr.tab (t : Tr F H) (k : Kp F H H1) (x : Tb CT H) : Tb CT H1 := by
  obtain ⟨ps, h1, h2, h3⟩ := x
  have no : ∀ b o, H b = some o → (∀ u, o = u → Pn u → False) → H1 b = some o := fun b o hb n => k b o hb fun m => by
    obtain ⟨u, hu, pu⟩ := t b m
    rw [hu] at hb; cases hb; exact n _ rfl pu
  refine ⟨ps, no _ _ h1 fun u e p => by rw [← e] at p; exact p, h2, fun pos cv hc => ?_⟩
  obtain ⟨c, e1, e2⟩ := h3 pos cv hc
  exact ⟨c, e1, no _ _ e2 fun u e p => by rw [← e] at p; unfold LamX.CodeO at p; exact p⟩
theorem Tr.nn (t' : Tr F H1) (k : Kp F H H1) : ∀ b, H1 b = none → H b = none := fun b hb => by
  cases e : H b with
  | none => rfl
  | some o =>
    by_cases m : b ∈ F
    · obtain ⟨u, hu, _⟩ := t' b m
      rw [hu] at hb; cases hb
    · rw [k b o e m] at hb; cases hb
theorem Tr.mono (t : Tr F H) (h : ∀ x ∈ F', x ∈ F) : Tr F' H := fun b hb => t b (h b hb)
theorem Tr.same (t : Tr F H) (s : Same H H1) : Tr F H1 := fun b hb => (t b hb).imp fun _ z => ⟨s _ _ z.1, z.2⟩
/-- what a deed does: F the hand's own objects ahead of it, F' behind it -/
structure Mv (CT : Addr × Addr) (F F' : List Addr) (H H' : Hp) : Prop where
  kt : Kt F H H'
  nn : ∀ b, H' b = none → b ∈ F ∨ H b = none
  tab : Tb CT H → Tb CT H'
  fr : ∀ b ∈ F', b ∈ F ∨ H b = none
theorem Kp.nn (k : Kp F H H1) : ∀ b, H1 b = none → b ∈ F ∨ H b = none := fun b hb => by
  cases e : H b with
  | none => exact .inr rfl
  | some o =>
    by_cases m : b ∈ F
    · exact .inl m
    · rw [k b o e m] at hb; cases hb
theorem Mv.of (t : Tr F H) (k : Kp F H H1) (fr : ∀ b ∈ F', b ∈ F ∨ H b = none) : Mv CT F F' H H1 := ⟨fun b o hb n _ => k b o hb n, k.nn, t.tab k, fr⟩
theorem Mv.refl : Mv CT F F H H := ⟨fun _ _ h _ _ => h, fun _ h => .inr h, fun h => h, fun _ h => .inl h⟩
theorem Mv.same (s : Same H H1) : Mv CT F F H H1 := ⟨fun b o h _ _ => s b o h, fun _ h => .inr (s.free h), fun t => t.ext s, fun _ h => .inl h⟩
theorem Mv.trans {F'' : List Addr} (a : Mv CT F F' H H1) (b : Mv CT F' F'' H1 H2) : Mv CT F F'' H H2 := by
  refine ⟨fun x o hx n nt => b.kt x o (a.kt x o hx n nt) (fun m => ?_) nt, fun x hx => (b.nn x hx).elim (a.fr x) (a.nn x), fun t => b.tab (a.tab t), fun x hx => (b.fr x hx).elim (a.fr x) (a.nn x)⟩
  rcases a.fr x m with z | z
  · exact n z
  · rw [hx] at z; cases z
end
def WayOK (cs : List Int) (n : Int) (ms : List Nm) (H : Hp) (a : Addr) : Prop := ∃ i j r rw, H a = some (.tup [.int i, .int j, .ref r]) ∧ H r = some (.tup (refsC rw)) ∧ (∀ x ∈ rw, ToldAt H x.1 x.2 ∧ GC cs (n - 1) ms x.2) ∧ rw.length ≤ 100
def BookOK (N : Nat) (H : Hp) (a : Addr) : Prop := ∃ rs, H a = some (.tup (refsC rs)) ∧ RowsAt H rs ∧ rs.length ≤ N
def GoneOK (cs : List Int) (ms : List Nm) (H : Hp) (v : V) : Prop := v = .non ∨ ∃ a t n c, v = .ref a ∧ H a = some (.tup [.int n, .ref t]) ∧ PlAt H t c ∧ PlOK cs n ms c
section
variable {cs : List Int} {n : Int} {ms ms' : List Nm} {H H1 : Hp} {a : Addr} {v : V} {N N' : Nat}
theorem WayOK.ext (h : WayOK cs n ms H a) (x : Ext H H1) : WayOK cs n ms H1 a := by
  obtain ⟨i, j, r, rw_, h1, h2, h3, h4⟩ := h
  exact ⟨i, j, r, rw_, x _ _ h1 trivial, x _ _ h2 trivial, fun y hy => ⟨(h3 y hy).1.ext x, (h3 y hy).2⟩, h4⟩
theorem WayOK.mono (h : WayOK cs n ms H a) (s : ∀ x ∈ ms, x ∈ ms') : WayOK cs n ms' H a := by
  obtain ⟨i, j, r, rw_, h1, h2, h3, h4⟩ := h
  exact ⟨i, j, r, rw_, h1, h2, fun y hy => ⟨(h3 y hy).1, (h3 y hy).2.mono s⟩, h4⟩
theorem BookOK.ext (h : BookOK N H a) (x : Ext H H1) : BookOK N H1 a := by
  obtain ⟨rs, h1, h2, h3⟩ := h
  exact ⟨rs, x _ _ h1 trivial, h2.ext x, h3⟩
theorem BookOK.mono (h : BookOK N H a) (l : N ≤ N') : BookOK N' H a := by
  obtain ⟨rs, h1, h2, h3⟩ := h
  exact ⟨rs, h1, h2, Nat.le_trans h3 l⟩
theorem GoneOK.ext (h : GoneOK cs ms H v) (x : Ext H H1) : GoneOK cs ms H1 v := h.imp id fun ⟨a, t, n, c, e, h1, h2, h3⟩ => ⟨a, t, n, c, e, x _ _ h1 trivial, h2.ext x, h3⟩
theorem GoneOK.mono (h : GoneOK cs ms H v) (s : ∀ x ∈ ms, x ∈ ms') : GoneOK cs ms' H v := h.imp id fun ⟨a, t, n, c, e, h1, h2, h3⟩ => ⟨a, t, n, c, e, h1, h2, h3.mono s⟩
end
structure In where
  p : Addr
  S : Pg
  c : Addr
  C : Ch
def footI : Option In → List Addr
  | none => []
  | some x => x.S.foot x.p ++ [x.c, x.C.rD]
def foot (h : Addr) (D : Hd) (i : Option In) : List Addr := h :: D.hist :: footI i
def pastN : Option In → Nat
  | none => 0
  | some x => x.S.past.length
/-- of its page: what it took is what it counts; what it knows of others they took; what it took and what it made it keeps, or all took it -/
structure Law (ms : List Nm) (T : Int → Nm → Prop) (me n hands made : Int) (tk : List Nm) (kv : Cn) (hd : CL) (R : Rows) : Prop where
  tt : ∀ c k, (n, c, k) ∈ tk ↔ 1 ≤ k ∧ k ≤ cnt kv c
  mn : ∀ k, (n, me, k) ∈ ms ↔ 1 ≤ k ∧ k ≤ made
  m0 : 0 ≤ made
  tl : ∀ g ∈ circ hands, ∀ c k, 1 ≤ k → k ≤ cnt (rowR R g) c → if g = me then k ≤ cnt kv c else T g (n, c, k)
  hk : ∀ c k, 1 ≤ k → k ≤ cnt kv c → (n, c, k) ∈ hd.map (·.2.nm) ∨ FL R (circ hands) c k
  hm : ∀ k, 1 ≤ k → k ≤ made → (n, me, k) ∈ hd.map (·.2.nm) ∨ FL R (circ hands) me k
structure InOK (K : PySem.W.Frag) (cs : List Int) (ms : List Nm) (T : Int → Nm → Prop) (B : Nat) (H : Hp) (D : Hd) (x : In) : Prop where
  pv : D.pv = .ref x.p
  cv : D.cv = .ref x.c
  pg : PageAt K cs ms H x.p x.S
  ch : ChAt K cs D.number ms B H x.c x.C
  me : x.S.me = D.me
  num : x.S.num = D.number
  hands : x.S.hands = D.hands
  cme : x.C.me = D.me
  chands : x.C.hands = D.hands
  last : D.last = D.number
  dj : D.hist ∉ x.S.foot x.p ∧ x.C.rD ∉ x.S.foot x.p
  os : x.S.os.length ≤ B
  way : WayOK cs D.number ms H D.wA
  law : Law ms T D.me D.number D.hands x.S.made (tks D.evs) x.S.kv x.S.hd x.S.T
/-- where it stands: nothing is agreed yet; alone, nothing is due -/
def Bd (H : Hp) (i : Option In) : Prop := ∀ x, i = some x → x.C.agr = .non ∧ (x.C.hands = 2 ^ x.C.me.toNat → ¬ (Unp H x.C ∧ x.C.me ∈ x.C.reps.map (·.1)))
structure HOK (K : PySem.W.Frag) (cs : List Int) (ms : List Nm) (T : Int → Nm → Prop) (B : Nat) (H : Hp) (h : Addr) (D : Hd) (i : Option In) : Prop where
  c : HdC K H h D
  me : D.me ∈ cs
  me0 : 0 ≤ D.me
  me62 : D.me ≤ 62
  tkc : ∀ x ∈ tks D.evs, x.2.1 ∈ cs
  fe : bit D.feared D.me = false
  h0 : 0 ≤ D.hands
  wi0 : 0 ≤ D.wished
  book : ∃ N, BookOK N H D.pgs ∧ N + pastN i ≤ B
  evl : D.evs.length ≤ B
  gone : GoneOK cs ms H D.gone
  tkn : ∀ x ∈ tks D.evs, x.1 ≤ D.last
  msn : ∀ x ∈ ms, x.2.1 = D.me → x.1 ≤ D.last
  inn : match i with
    | none => D.pv = .non ∧ D.cv = .non
    | some x => InOK K cs ms T B H D x
section
variable {cs : List Int} {ms ms' : List Nm} {T T' : Int → Nm → Prop} {B B' : Nat} {H H1 : Hp} {h : Addr} {D : Hd} {i : Option In} {x : In}
theorem Law.mono {me n hands made : Int} {tk : List Nm} {kv : Cn} {hd : CL} {R : Rows} (l : Law ms T me n hands made tk kv hd R) (hT : ∀ g x, g ≠ me → T g x → T' g x) (s : ∀ k, (n, me, k) ∈ ms' ↔ (n, me, k) ∈ ms) : Law ms' T' me n hands made tk kv hd R :=
  ⟨l.tt, fun k => by rw [s]; exact l.mn k, l.m0, fun g hg c k h1 h2 => by
    have := l.tl g hg c k h1 h2
    by_cases e : g = me
    · rw [if_pos e] at this ⊢; exact this
    · rw [if_neg e] at this ⊢; exact hT g _ e this, l.hk, l.hm⟩
theorem InOK.tr (o : InOK K cs ms T B H D x) : Tr (footI (some x)) H := fun b hb => by
  rcases List.mem_append.mp hb with hb | hb
  · exact o.pg.tr b hb
  · rcases List.mem_cons.mp hb with e | hb
    · rw [e]; exact ⟨_, o.ch.ins, by show ¬ (7 = 5); decide⟩
    · rw [List.mem_singleton.mp hb]; exact ⟨_, o.ch.rd, trivial⟩
theorem HdC.tr (c : HdC K H h D) : Tr [h, D.hist] H := fun b hb => by
  rcases List.mem_cons.mp hb with e | hb
  · rw [e]; exact ⟨_, c.ins, by show ¬ (16 = 5); decide⟩
  · rw [List.mem_singleton.mp hb]; exact ⟨_, c.hist, trivial⟩
theorem HOK.tr (o : HOK K cs ms T B H h D i) : Tr (foot h D i) H := fun b hb => by
  rcases List.mem_cons.mp hb with e | hb
  · exact o.c.tr b (by rw [e]; exact List.mem_cons_self)
  · rcases List.mem_cons.mp hb with e | hb
    · exact o.c.tr b (by rw [e]; simp)
    · cases i with
      | none => exact (nomatch hb)
      | some x => exact (show InOK K cs ms T B H D x from o.inn).tr b hb
theorem HdC.keepT (c : HdC K H h D) (k1 : ∀ o, H h = some o → H1 h = some o) (k2 : ∀ o, H D.hist = some o → H1 D.hist = some o) (x : Ext H H1) : HdC K H1 h D := ⟨k1 _ c.ins, k2 _ c.hist, c.evs.ext x⟩
theorem InOK.keep (o : InOK K cs ms T B H D x) (k : ∀ b ∈ footI (some x), ∀ u, H b = some u → H1 b = some u) (e : Ext H H1) : InOK K cs ms T B H1 D x :=
  ⟨o.pv, o.cv, o.pg.keep (fun b hb => k b (List.mem_append_left _ hb)) e, o.ch.keep (k _ (List.mem_append_right _ List.mem_cons_self)) (k _ (List.mem_append_right _ (by simp))) e, o.me, o.num, o.hands, o.cme, o.chands, o.last, o.dj, o.os, o.way.ext e, o.law⟩
/-- a hand that a deed does not touch -/
theorem HOK.keep (o : HOK K cs ms T B H h D i) (k : ∀ b ∈ foot h D i, ∀ u, H b = some u → H1 b = some u) (e : Ext H H1) : HOK K cs ms T B H1 h D i := by
  refine ⟨o.c.keepT (k _ List.mem_cons_self) (k _ (List.mem_cons_of_mem _ List.mem_cons_self)) e, o.me, o.me0, o.me62, o.tkc, o.fe, o.h0, o.wi0, o.book.imp fun N z => ⟨z.1.ext e, z.2⟩, o.evl, o.gone.ext e, o.tkn, o.msn, ?_⟩
  cases i with
  | none => exact o.inn
  | some x => exact (show InOK K cs ms T B H D x from o.inn).keep (fun b hb => k b (List.mem_cons_of_mem _ (List.mem_cons_of_mem _ hb))) e
theorem HOK.same (o : HOK K cs ms T B H h D i) (s : Same H H1) : HOK K cs ms T B H1 h D i := o.keep (fun b _ u => s b u) (.of s)
theorem InOK.mono (o : InOK K cs ms T B H D x) (hB : B ≤ B') (hT : ∀ g x, g ≠ D.me → T g x → T' g x) (s : ∀ x ∈ ms, x ∈ ms') (s2 : ∀ k, (D.number, D.me, k) ∈ ms' ↔ (D.number, D.me, k) ∈ ms) : InOK K cs ms' T' B' H D x :=
  ⟨o.pv, o.cv, o.pg.mono s, o.ch.mono s hB, o.me, o.num, o.hands, o.cme, o.chands, o.last, o.dj, Nat.le_trans o.os hB, o.way.mono s, o.law.mono hT s2⟩
/-- more is made by others, more is taken by others -/
theorem HOK.mono (o : HOK K cs ms T B H h D i) (hB : B ≤ B') (hT : ∀ g x, g ≠ D.me → T g x → T' g x) (s : ∀ x ∈ ms, x ∈ ms') (s2 : ∀ x ∈ ms', x.2.1 = D.me → x ∈ ms) : HOK K cs ms' T' B' H h D i := by
  refine ⟨o.c, o.me, o.me0, o.me62, o.tkc, o.fe, o.h0, o.wi0, o.book.imp fun N z => ⟨z.1, Nat.le_trans z.2 hB⟩, Nat.le_trans o.evl hB, o.gone.mono s, o.tkn, fun x hx e => o.msn x (s2 x hx e) e, ?_⟩
  cases i with
  | none => exact o.inn
  | some x => exact (show InOK K cs ms T B H D x from o.inn).mono hB hT s fun k => ⟨fun z => s2 _ z rfl, s _⟩
theorem HOK.up (o : HOK K cs ms T B H h D i) (hB : B ≤ B') : HOK K cs ms T B' H h D i := o.mono hB (fun _ _ _ z => z) (fun _ z => z) fun _ z _ => z
/-- inequalities of the parts -/
structure DjH (h : Addr) (D : Hd) (x : In) : Prop where
  hh : D.hist ≠ h
  hF : h ∉ x.S.foot x.p
  hiF : D.hist ∉ x.S.foot x.p
  cF : x.c ∉ x.S.foot x.p
  rF : x.C.rD ∉ x.S.foot x.p
  ch : x.c ≠ h
  chi : x.c ≠ D.hist
  rh : x.C.rD ≠ h
  rhi : x.C.rD ≠ D.hist
  rc : x.C.rD ≠ x.c
theorem InOK.djh (c : HdC K H h D) (o : InOK K cs ms T B H D x) : DjH h D x := by
  have hc := o.ch.ins
  have hr := o.ch.rd
  have hn : ∀ {C dx : Addr} {fs : List (Str × V)} {C' dx' : Addr} {fs' : List (Str × V)}, fs.length ≠ fs'.length → HO.ins C dx fs ≠ .ins C' dx' fs' := fun {C dx fs C' dx' fs'} n z => by
    injection z with _ _ z
    exact n (congrArg List.length z)
  obtain ⟨⟨dxt, cit, odt, ht1, ht2⟩, ht3, _⟩ := id o.pg.tl
  obtain ⟨⟨dxa, cia, oda, ha1, ha2⟩, ha3, _⟩ := id o.pg.ab
  refine ⟨c.ne, fun m => ?_, o.dj.1, fun m => ?_, o.dj.2, ne_of hc c.ins (hn (by show ¬ (7 = 16); decide)), ne_of hc c.hist (by intro z; cases z), ne_of hr c.ins (by intro z; cases z), ne_of hr c.hist (by intro z; cases z), ne_of hr hc (by intro z; cases z)⟩
  · unfold Pg.foot at m
    simp only [List.mem_cons, List.not_mem_nil, or_false] at m
    rcases m with e | e | e | e | e | e | e | e | e
    · exact ne_of o.pg.ins c.ins (hn (by show ¬ (11 = 16); decide)) e.symm
    · exact ne_of o.pg.dn c.ins (by intro z; cases z) e.symm
    · exact ne_of o.pg.hl c.ins (by intro z; cases z) e.symm
    · exact ne_of o.pg.od c.ins (by intro z; cases z) e.symm
    · exact ne_of ht1 c.ins (hn (by show ¬ (2 = 16); decide)) e.symm
    · exact ne_of ht3 c.ins (by intro z; cases z) e.symm
    · exact ne_of ha1 c.ins (hn (by show ¬ (2 = 16); decide)) e.symm
    · exact ne_of ha3 c.ins (by intro z; cases z) e.symm
    · exact ne_of o.pg.ps c.ins (by intro z; cases z) e.symm
  · unfold Pg.foot at m
    simp only [List.mem_cons, List.not_mem_nil, or_false] at m
    rcases m with e | e | e | e | e | e | e | e | e
    · exact ne_of o.pg.ins hc (hn (by show ¬ (11 = 7); decide)) e.symm
    · exact ne_of o.pg.dn hc (by intro z; cases z) e.symm
    · exact ne_of o.pg.hl hc (by intro z; cases z) e.symm
    · exact ne_of o.pg.od hc (by intro z; cases z) e.symm
    · exact ne_of ht1 hc (hn (by show ¬ (2 = 7); decide)) e.symm
    · exact ne_of ht3 hc (by intro z; cases z) e.symm
    · exact ne_of ha1 hc (hn (by show ¬ (2 = 7); decide)) e.symm
    · exact ne_of ha3 hc (by intro z; cases z) e.symm
    · exact ne_of o.pg.ps hc (by intro z; cases z) e.symm
end
/-- of the hand: who it is; its events grow -/
structure Gr (D D' : Hd) : Prop where
  me : D'.me = D.me
  ev : ∃ r, D'.evs = D.evs ++ r
theorem Gr.refl {D : Hd} : Gr D D := ⟨rfl, [], (List.append_nil _).symm⟩
theorem Gr.trans {D D' D'' : Hd} (a : Gr D D') (b : Gr D' D'') : Gr D D'' := by
  obtain ⟨r, hr⟩ := a.ev
  obtain ⟨r', hr'⟩ := b.ev
  exact ⟨b.me.trans a.me, r ++ r', by rw [hr', hr, List.append_assoc]⟩
theorem Gr.tks {D D' : Hd} (a : Gr D D') : ∀ x ∈ tks D.evs, x ∈ tks D'.evs := fun x hx => by
  obtain ⟨r, hr⟩ := a.ev
  rw [hr, tks_app]
  exact List.mem_append_left _ hx
section
variable {cs : List Int} {ms : List Nm} {T : Int → Nm → Prop} {B : Nat} {H H1 : Hp} {h : Addr} {D : Hd} {i : Option In} {x : In} {CT : Addr × Addr}
theorem HOK.extN (o : HOK K cs ms T B H h D i) (e : LamX.ExtN H H1) : HOK K cs ms T B H1 h D i := o.keep (fun b hb u hu => e b u hu (by
    obtain ⟨w, hw, pw⟩ := o.tr b hb
    rw [hw] at hu; cases hu; exact pw.nt)) fun b u hu im => e b u hu fun ps z => by rw [z] at im; exact im
/-- the change does something -/
theorem HOK.chg {C' : Ch} (o : HOK K cs ms T B H h D (some x)) (kp : Kp [x.c, x.C.rD] H H1) (ch : ChAt K cs D.number ms B H1 x.c C') (sm : ChSame x.C C') (fr : C'.rD = x.C.rD ∨ H C'.rD = none) :
    HOK K cs ms T B H1 h D (some { x with C := C' }) ∧ Mv CT (foot h D (some x)) (foot h D (some { x with C := C' })) H H1 := by
  have oi : InOK K cs ms T B H D x := o.inn
  have dj := oi.djh o.c
  have t2 : Tr [x.c, x.C.rD] H := fun b hb => oi.tr b (List.mem_append_right _ hb)
  have e := t2.ext kp
  have n2 : ∀ {b : Addr}, b ≠ x.c → b ≠ x.C.rD → b ∉ [x.c, x.C.rD] := fun n1 n2 m => by
    rcases List.mem_cons.mp m with z | m
    · exact n1 z
    · exact n2 (List.mem_singleton.mp m)
  refine ⟨⟨o.c.keepT (fun u => fun z => kp _ _ z (n2 dj.ch.symm dj.rh.symm)) (fun u => fun z => kp _ _ z (n2 dj.chi.symm dj.rhi.symm)) e, o.me, o.me0, o.me62, o.tkc, o.fe, o.h0, o.wi0, o.book.imp fun N z => ⟨z.1.ext e, z.2⟩, o.evl, o.gone.ext e, o.tkn, o.msn,
    (⟨oi.pv, oi.cv, oi.pg.keep (fun b hb u z => kp _ _ z (n2 (fun q => by rw [q] at hb; exact dj.cF hb) fun q => by rw [q] at hb; exact dj.rF hb)) e, ch, oi.me, oi.num, oi.hands, sm.1.trans oi.cme, sm.2.trans oi.chands, oi.last, ⟨oi.dj.1, fun m => ?_⟩, oi.os, oi.way.ext e, oi.law⟩ : InOK K cs ms T B H1 D { x with C := C' })⟩, ?_⟩
  · rcases fr with z | z
    · exact dj.rF (by rw [← z]; exact m)
    · obtain ⟨u, hu, _⟩ := oi.pg.tr _ m
      rw [hu] at z; cases z
  · refine Mv.of o.tr (kp.mono fun b hb => List.mem_cons_of_mem _ (List.mem_cons_of_mem _ (List.mem_append_right _ hb))) fun b hb => ?_
    rcases List.mem_cons.mp hb with z | hb
    · rw [z]; exact .inl List.mem_cons_self
    · rcases List.mem_cons.mp hb with z | hb
      · rw [z]; exact .inl (List.mem_cons_of_mem _ List.mem_cons_self)
      · rcases List.mem_append.mp hb with hb | hb
        · exact .inl (List.mem_cons_of_mem _ (List.mem_cons_of_mem _ (List.mem_append_left _ hb)))
        · rcases List.mem_cons.mp hb with z | hb
          · rw [z]; exact .inl (List.mem_cons_of_mem _ (List.mem_cons_of_mem _ (List.mem_append_right _ List.mem_cons_self)))
          · rw [List.mem_singleton.mp hb]
            rcases fr with z | z
            · exact .inl (List.mem_cons_of_mem _ (List.mem_cons_of_mem _ (List.mem_append_right _ (by show C'.rD ∈ _; rw [z]; simp))))
            · exact .inr z
end
theorem Bd.none {H : Hp} : Bd H none := fun x z => nomatch z
theorem Bd.fresh {H : Hp} {x : In} (h1 : x.C.agr = .non) (h2 : x.C.reps = []) : Bd H (some x) := fun y e => by
  cases e
  exact ⟨h1, fun _ z => by rw [h2] at z; exact nomatch z.2⟩
theorem HOK.bdx {K : PySem.W.Frag} {cs : List Int} {ms : List Nm} {T : Int → Nm → Prop} {B : Nat} {H H1 : Hp} {h : Addr} {D : Hd} {i : Option In} (o : HOK K cs ms T B H h D i) (x : Ext H H1) (b : Bd H i) : Bd H1 i := fun y e => by
  subst e
  obtain ⟨h1, h2⟩ := b y rfl
  refine ⟨h1, fun e1 z => h2 e1 ⟨(Unp.ext (show InOK K cs ms T B H D y from o.inn).ch x).mp z.1, z.2⟩⟩

end
end G
namespace G
open PySem PySem.Spec L2
open PyProof.Rows hiding St
section
variable {P : Program} {w : World} {K : PySem.W.Frag} {mg : Str → Option Value} {base : Heap} {CT : Addr × Addr}
theorem vs1 {a b : V} {l : List V} (e : a = b) : a :: l = b :: l := by rw [e]
theorem vs2 {a b c : V} {l : List V} (e : a = b) : c :: a :: l = c :: b :: l := by rw [e]
theorem isn_ref {v : V} {p : Addr} (e : v = .ref p) (z : decide (v = .non) = true) : False := by rw [e] at z; cases z
theorem Law.fresh {ms : List Nm} {T : Int → Nm → Prop} {me n hands : Int} {tk : List Nm} (ht : ∀ c k, (n, c, k) ∉ tk) (hm : ∀ k, (n, me, k) ∉ ms) : Law ms T me n hands 0 tk [] [] [] :=
  ⟨fun c k => ⟨fun z => absurd z (ht c k), fun ⟨h1, h2⟩ => by rw [cnt_nil] at h2; omega⟩, fun k => ⟨fun z => absurd z (hm k), fun ⟨h1, h2⟩ => by omega⟩, Int.le_refl _, fun g _ c k h1 h2 => by
    have e : rowR [] g = [] := rfl
    rw [e, cnt_nil] at h2; omega, fun c k h1 h2 => by rw [cnt_nil] at h2; omega, fun k h1 h2 => by omega⟩
theorem HOK.stood {cs : List Int} {ms : List Nm} {T : Int → Nm → Prop} {B N : Nat} {H H2 : Hp} {h p c : Addr} {D : Hd} {S : Pg} {C : Ch} {room : Int} (hd : HdC K H2 h D) (np : NewP K cs ms B H H2 D.me D.number D.hands room p S c C) (hpv : D.pv = .ref p) (hcv : D.cv = .ref c) (hg : D.gone = .non) (hl : D.last = D.number)
    (hh : H D.hist ≠ none) (m1 : D.me ∈ cs) (m2 : 0 ≤ D.me) (m3 : D.me ≤ 62) (tc : ∀ x ∈ tks D.evs, x.2.1 ∈ cs) (fe : bit D.feared D.me = false) (h0 : 0 ≤ D.hands) (wi0 : 0 ≤ D.wished) (bk : BookOK N H2 D.pgs) (hN : N ≤ B) (he : D.evs.length ≤ B) (t1 : ∀ x ∈ tks D.evs, x.1 < D.number) (t2 : ∀ x ∈ ms, x.2.1 = D.me → x.1 < D.number) (wy : WayOK cs D.number ms H2 D.wA) : HOK K cs ms T B H2 h D (some ⟨p, S, c, C⟩) := by
  refine ⟨hd, m1, m2, m3, tc, fe, h0, wi0, ⟨N, bk, by show N + S.past.length ≤ B; rw [np.past]; exact hN⟩, he, .inl hg, fun x hx => by have := t1 x hx; rw [hl]; omega, fun x hx e => by have := t2 x hx e; rw [hl]; omega,
    (⟨hpv, hcv, np.pg, np.ch, np.pme, np.pnum, np.phands, np.cme, np.chands, hl, ⟨fun m => hh (np.fr _ m), fun m => (np.sep _ m).2 rfl⟩, by show S.os.length ≤ B; rw [np.os]; exact Nat.zero_le _, wy, ?_⟩ : InOK K cs ms T B H2 D ⟨p, S, c, C⟩)⟩
  show Law ms T D.me D.number D.hands S.made (tks D.evs) S.kv S.hd S.T
  rw [np.made, np.kv, np.hd, np.T]
  exact Law.fresh (fun c k z => absurd (t1 _ z) (Int.lt_irrefl _)) fun k z => absurd (t2 _ z rfl) (Int.lt_irrefl _)
theorem NewP.foot {cs : List Int} {ms : List Nm} {B : Nat} {H H' : Hp} {me number hands room : Int} {h p c : Addr} {S : Pg} {C : Ch} {D : Hd} (np : NewP K cs ms B H H' me number hands room p S c C) : ∀ b ∈ foot h D (some ⟨p, S, c, C⟩), b = h ∨ b = D.hist ∨ H b = none := fun b hb => by
  rcases List.mem_cons.mp hb with e | hb
  · exact .inl e
  · rcases List.mem_cons.mp hb with e | hb
    · exact .inr (.inl e)
    · rcases List.mem_append.mp hb with hb | hb
      · exact .inr (.inr (np.fr b hb))
      · rcases List.mem_cons.mp hb with e | hb
        · rw [e]; exact .inr (.inr np.frc)
        · rw [List.mem_singleton.mp hb]; exact .inr (.inr np.frd)
def spGoBy (K : PySem.W.Frag) (CT : Addr × Addr) (cs : List Int) (ms : List Nm) (T : Int → Nm → Prop) (B : Nat) : Sp := fun vs H Q _ => ∃ h D x t c, vs = [.ref h, .ref t] ∧ HOK K cs ms T B H h D (some x) ∧ PlAt H t c ∧ PlOK cs D.number ms c ∧ cs.length ≤ 60 ∧ ms.length ≤ 50 ∧ B ≤ 900000 ∧
  ∀ D' i' H', Mv CT (foot h D (some x)) (foot h D' i') H H' → HOK K cs ms T (B + 110) H' h D' i' → Gr D D' → (∀ x', i' = some x' → D'.number = D.number + 1) → Bd H' i' → Q .non H'
def MidGB (K : PySem.W.Frag) (cs : List Int) (B : Nat) (H : Hp) (h : Addr) (D : Hd) (x : In) (t : Addr) (c : Pl) : L2.St → Hp → Prop := fun σ' H' => ∃ (pg1 : Addr) (r : EL) (N1 : Nat), σ' = [some (.ref h), some (.ref t), some (.int c.on), some (.int c.fol), some (.int c.new), some (.ref c.r)] ∧ Kp (foot h D (some x)) H H' ∧ Tr (foot h D (some x)) H' ∧ HdC K H' h { D with pgs := pg1, evs := D.evs ++ r } ∧ (∀ y ∈ tks r, y.1 = D.number ∧ y.2.1 ∈ cs) ∧ r.length ≤ 100 ∧ BookOK N1 H' pg1 ∧ N1 ≤ B + 100
theorem ok_Hand_go_by (A : All P w K mg base CT) {cs : List Int} {ms : List Nm} {T : Int → Nm → Prop} {B : Nat}: MOk P w K mg base CX0 8 (He.ga K "Hand") "go_by" ["self", "plan"] [] (spGoBy K CT cs ms T B) := by
  obtain ⟨fd, F⟩ := fu_Hand_go_by A.d
  refine ⟨cl_Hand A.d, _, fd, [], FunD.ok0 F sc_Hand_go_by (fun vs H Q E h => ?_) (fun cdv A0 outer s H vs Q E hr h => ?_), me_Hand_go_by A.d, F.bindsN fun _ _ _ _ _ _ us hl => match us, hl with | [_, _], _ => rfl, .nil⟩
  · obtain ⟨h, D, x, t, c, rfl, ho, hpl, hok, hcs, hms, hB, k⟩ := h
    rfl
  · obtain ⟨h, D, x, t, c, rfl, ho, hpl, hok, hcs, hms, hB, k⟩ := h
    have hu := hu_of hr
    refine ⟨_, pss_cons (ps_asg (pv 1) (pg_tup rfl (pgs_cons (pg_name (i := 2) sc_Hand_go_by.nd rfl (by first | exact Or.inl rfl | exact Or.inr rfl)) (pgs_cons (pg_name (i := 3) sc_Hand_go_by.nd rfl (by first | exact Or.inl rfl | exact Or.inr rfl)) (pgs_cons (pg_name (i := 4) sc_Hand_go_by.nd rfl (by first | exact Or.inl rfl | exact Or.inr rfl)) (pgs_cons (pg_name (i := 5) sc_Hand_go_by.nd rfl (by first | exact Or.inl rfl | exact Or.inr rfl)) pgs_nil))))))
      (pss_cons (ps_cut (ps_if (pt_val ((ok_has A).pe hr pass0 (pa_cons (pv 2) (pa_cons (pe_Hand_me A.d (pv 0)) pa_nil)))) (pss_cons (ps_expr ((ok_Hand_note A).pe hr pass0 (pv 0) (pa_cons ((ok_Page_finish A (cs := cs) (ms := ms)).pe hr pass0 (pe_Hand_page A.d (pv 0)) (pa_cons (pv 5) pa_nil)) pa_nil))) (pss_one (ps_Hand_pages A.d (pv 0) (pe_op op_catA (pe_Hand_pages A.d (pv 0)) (pe_callTy (call_tuple_of) (by rfl) (fr_tuple A.kin A.ns A.d) (by decide +kernel) (pa_cons ((ok_Page_rows A (cs := cs) (ms := ms)).pe0 hr pass0 (pe_Hand_page A.d (pv 0))) pa_nil)))))) pss_nil))
      (pss_one (ps_if (PW.pt (pw_and (pt_val ((ok_has A).pe hr pass0 (pa_cons (pv 2) (pa_cons (pe_Hand_me A.d (pv 0)) pa_nil)))) (pw_and1 (pt_val ((ok_has A).pe hr pass0 (pa_cons (pv 3) (pa_cons (pe_Hand_me A.d (pv 0)) pa_nil))))))) (pss_one (ps_expr ((ok_Hand_stand A (cs := cs) (ms := ms) (B := B + 110)).pe hr pass0 (pv 0) (pa_cons (pe_op op_add (pe_Hand_number A.d (pv 0)) pe_int) (pa_cons (pv 3) (pa_cons (pe_tup (pa_cons (pv 2) (pa_cons (pv 4) (pa_cons (pv 5) pa_nil)))) pa_nil)))))) (pss_cons (ps_expr ((ok_Hand_go_out A).pe0 hr pass0 (pv 0))) (pss_one (ps_Hand_gone A.d (pv 0) (pe_tup (pa_cons (pe_Hand_number A.d (pv 0)) (pa_cons (pv 1) pa_nil))))))))), ?_⟩
    have o : InOK K cs ms T B H D x := ho.inn
    have dj := o.djh ho.c
    obtain ⟨N0, ⟨rs0, hb0, hb1, hb2⟩, hb3⟩ := ho.book
    have hpast : N0 + x.S.past.length ≤ B := hb3
    have hev := ho.evl
    have pF : ∀ b ∈ x.S.foot x.p, b ∈ foot h D (some x) := fun b hb => List.mem_cons_of_mem _ (List.mem_cons_of_mem _ (List.mem_append_left _ hb))
    have sub2 : ∀ b ∈ [h, D.hist], b ∈ foot h D (some x) := fun b hb => by
      rcases List.mem_cons.mp hb with e | hb
      · rw [e]; exact List.mem_cons_self
      · rw [List.mem_singleton.mp hb]; exact List.mem_cons_of_mem _ List.mem_cons_self
    refine ⟨_, rfl, t, _, rfl, SqT.of hpl.tup, rfl, _, _, rfl, _, _, rfl, _, _, rfl, _, _, rfl, rfl, ?_⟩
    refine ⟨MidGB K cs B H h D x t c, ?_, ?_⟩
    · refine ⟨_, rfl, _, rfl, h, D.dx, _, rfl, ho.c.ins, c.on, D.me, rfl, ho.me0, _, rfl, ite2 (fun _ => ?_) (fun _ => ?_)⟩
      · refine ⟨_, rfl, h, D.dx, _, rfl, ho.c.ins, by kernel_rfl, _, rfl, h, D.dx, _, rfl, ho.c.ins, x.p, x.S.dx, _, o.pv, o.pg.ins, by kernel_rfl, _, rfl, x.p, x.S, c.r, c.rw_, vs1 o.pv, o.pg, hpl.r, hpl.told, fun y hy => ⟨(hok.gc y hy).k, (hok.gc y hy).c⟩, Nat.le_trans hok.len (by decide), hcs, by omega, fun q L S1 H1 hq kp1 hp1 fo hq1 hL1 => ?_⟩
        have kp1f : Kp (x.S.foot x.p) H H1 := kp1.mono fun b hb => by
          unfold Pg.foot
          rcases List.mem_cons.mp hb with e | hb
          · rw [e]; simp
          · rw [List.mem_singleton.mp hb]; simp
        have ex1 : Ext H H1 := Tr.ext (F := x.S.foot x.p) o.pg.tr kp1f
        have hd1 : HdC K H1 h D := ho.c.keepT (fun u z => kp1f _ u z dj.hF) (fun u z => kp1f _ u z dj.hiF) ex1
        have hLl : L.length ≤ 100 := Nat.le_trans fo.len hok.len
        have nq : q ≠ D.hist := fun z => by rw [z, ho.c.hist] at hq; cases hq
        refine ⟨h, D, q, L, rfl, hd1, hq1, hL1, nq, by omega, by omega, fun r H2 kp2 hd2 htk hrl => ?_⟩
        have hfS : S1.foot x.p = x.S.foot x.p := by rw [fo.eq]; rfl
        have hp2 : PageAt K cs ms H2 x.p S1 := hp1.keep (fun b hb u z => kp2 b u z (notin1 fun e => by rw [e, hfS] at hb; exact dj.hiF hb)) (kp2.ext fun z hz u hu => by
          rw [List.mem_singleton.mp hz, hd1.hist] at hu; cases hu; exact fun z => z)
        have hpl1 : S1.past.length = x.S.past.length + L.length := by
          rw [fo.eq]; show (x.S.past ++ TkL.told L).length = _
          rw [List.length_append]; unfold TkL.told; rw [List.length_map]
        refine ⟨_, rfl, h, D.dx, _, rfl, hd2.ins, _, rfl, h, D.dx, _, rfl, hd2.ins, x.p, S1.dx, _, o.pv, hp2.ins, by kernel_rfl, x.p, S1, vs1 o.pv, hp2, by omega, fun q2 rs H3 hq2 s3 hq3 hrs hrl2 => ?_⟩
        refine ⟨q2, _, rfl, .inl ⟨SqL.of hq3, fun l hl => ?_⟩⟩
        have s4 : Same H3 (upd H3 l (.tup (refsC rs))) := same_new hl
        have ex2 : Ext H H2 := ex1.trans (kp2.ext fun z hz u hu => by
          rw [List.mem_singleton.mp hz, hd1.hist] at hu; cases hu; exact fun z => z)
        have s24 := s3.trans s4
        have hb0' := s24 _ _ (ex2 _ _ hb0 trivial)
        have kp24 : Kp (foot h D (some x)) H (upd H3 l (.tup (refsC rs))) := ((kp1f.mono pF).trans (kp2.mono fun b hb => sub2 b (List.mem_cons_of_mem _ hb))).trans (Kp.of s24)
        have cont : ∀ (u : Addr) (H5 : Hp), Same (upd H3 l (.tup (refsC rs))) H5 → H5 u = some (.tup (refsC (rs0 ++ rs))) → MidGB K cs B H h D x t c [some (.ref h), some (.ref t), some (.int c.on), some (.int c.fol), some (.int c.new), some (.ref c.r)] (upd H5 h (hdO K { D with pgs := u, evs := D.evs ++ r })) := fun u H5 s5 hu => by
          have hd5 : HdC K H5 h { D with evs := D.evs ++ r } := (hd2.same s24).same s5
          have hd6 : HdC K (upd H5 h (hdO K { D with pgs := u, evs := D.evs ++ r })) h { D with pgs := u, evs := D.evs ++ r } := hd5.put rfl rfl
          have k6 : Kp [h] H5 (upd H5 h (hdO K { D with pgs := u, evs := D.evs ++ r })) := Kp.upd Kp.refl List.mem_cons_self
          have ex6 := hd5.ext1 k6
          have hp6 : PageAt K cs ms (upd H5 h (hdO K { D with pgs := u, evs := D.evs ++ r })) x.p S1 := ((hp2.same s24).same s5).keep (fun b hb u z => k6 b u z (notin1 fun e => by rw [e, hfS] at hb; exact dj.hF hb)) ex6
          refine ⟨u, r, N0 + (x.S.past.length + L.length), rfl, (kp24.trans (Kp.of s5)).trans (k6.mono fun b hb => sub2 b (by rw [List.mem_singleton.mp hb]; exact List.mem_cons_self)), fun b hb => ?_, hd6, fun y hy => ?_, by omega, ⟨rs0 ++ rs, ex6 _ _ hu trivial, fun y hy => ?_, by rw [List.length_append]; omega⟩, by omega⟩
          · rcases List.mem_cons.mp hb with e | hb
            · exact hd6.tr b (by rw [e]; simp)
            · rcases List.mem_cons.mp hb with e | hb
              · exact hd6.tr b (by rw [e]; simp)
              · rcases List.mem_append.mp hb with hb | hb
                · exact hp6.tr b (by rw [hfS]; exact hb)
                · have hno : b ∉ x.S.foot x.p ∧ b ≠ D.hist ∧ b ≠ h := by
                    rcases List.mem_cons.mp hb with e | hb
                    · rw [e]; exact ⟨dj.cF, dj.chi, dj.ch⟩
                    · rw [List.mem_singleton.mp hb]; exact ⟨dj.rF, dj.rhi, dj.rh⟩
                  obtain ⟨w, hw, pw⟩ := o.tr b (List.mem_append_right _ hb)
                  exact ⟨w, k6 _ _ (s5 _ _ (s24 _ _ (kp2 _ _ (kp1f _ _ hw hno.1) (notin1 hno.2.1)))) (notin1 hno.2.2), pw⟩
          · rw [htk] at hy
            obtain ⟨e, he, rfl⟩ := List.mem_map.mp hy
            obtain ⟨z, hz, ez⟩ := fo.cd e he
            rw [ez]
            exact ⟨(hok.gc z hz).n, (hok.gc z hz).c⟩
          · rcases List.mem_append.mp hy with hy | hy
            · exact ex6 _ _ (s5 _ _ (s24 _ _ (ex2 _ _ (hb1 y hy) trivial))) trivial
            · exact ex6 _ _ (s5 _ _ (s4 _ _ (hrs y hy))) trivial
        refine ⟨D.pgs, l, refsC rs0, refsC rs, rfl, rfl, SqT.of hb0', SqT.of upd_same, by rw [refsC_len, refsC_len, sizeLine_eq]; omega, fun e => ?_, fun _ e => ?_, fun _ _ p hp => ?_⟩
        · refine ⟨_, rfl, h, D.dx, _, rfl, (hd2.same s24).ins, cont l _ (Same.refl _) ?_⟩
          rw [upd_same, refsC_app2, e]; rfl
        · refine ⟨_, rfl, h, D.dx, _, rfl, (hd2.same s24).ins, cont D.pgs _ (Same.refl _) ?_⟩
          rw [refsC_app2, e, List.append_nil]; rw [e] at hb0'; exact hb0'
        · have s5 := same_new (o := .tup (refsC rs0 ++ refsC rs)) hp
          refine ⟨_, rfl, h, D.dx, _, rfl, ((hd2.same s24).same s5).ins, cont p _ s5 ?_⟩
          rw [upd_same, refsC_app2]
      · exact ⟨D.pgs, [], B, rfl, Kp.refl, ho.tr, by rw [List.append_nil]; exact ho.c, fun _ h => (nomatch h), Nat.zero_le _, ⟨rs0, hb0, hb1, by omega⟩, by omega⟩
    · rintro σ1 H1 ⟨pg1, r, N1, rfl, kp1, tr1, hd1, htk, hrl, hbk, hN1⟩
      have ex1 := ho.tr.ext kp1
      have nn1 := tr1.nn kp1
      have hpl1 := hpl.ext ex1
      have evl1 : (D.evs ++ r).length ≤ 1000000 := by rw [List.length_append]; omega
      have tk1 : ∀ y ∈ tks (D.evs ++ r), y.1 ≤ D.number := fun y hy => by
        rw [tks_app] at hy
        rcases List.mem_append.mp hy with hy | hy
        · have := ho.tkn y hy; rw [o.last] at this; exact this
        · exact Int.le_of_eq (htk y hy).1
      have tc1 : ∀ y ∈ tks (D.evs ++ r), y.2.1 ∈ cs := fun y hy => by
        rw [tks_app] at hy
        rcases List.mem_append.mp hy with hy | hy
        · exact ho.tkc y hy
        · exact (htk y hy).2
      have ms1 : ∀ y ∈ ms, y.2.1 = D.me → y.1 ≤ D.number := fun y hy e => by have := ho.msn y hy e; rw [o.last] at this; exact this
      have fin : ∀ a y H2, Kp [h, D.hist] H1 H2 → HdC K H2 h { D with pgs := pg1, pv := .non, cv := .non, leaving := false, evs := (D.evs ++ r) ++ [(a, Ev.oth y)] } → ∀ g, H2 g = none →
          Q .non (upd (upd H2 g (.tup [.int D.number, .ref t])) h (hdO K { D with pgs := pg1, pv := .non, cv := .non, leaving := false, gone := .ref g, evs := (D.evs ++ r) ++ [(a, Ev.oth y)] })) := fun a y H2 kp2 hd2 g hg => by
        have s3 := same_new (o := .tup [.int D.number, .ref t]) hg
        have hd3 := hd2.same s3
        have hd4 : HdC K (upd (upd H2 g (.tup [.int D.number, .ref t])) h (hdO K { D with pgs := pg1, pv := .non, cv := .non, leaving := false, gone := .ref g, evs := (D.evs ++ r) ++ [(a, Ev.oth y)] })) h { D with pgs := pg1, pv := .non, cv := .non, leaving := false, gone := .ref g, evs := (D.evs ++ r) ++ [(a, Ev.oth y)] } := hd3.put rfl rfl
        have k4 : Kp [h] (upd H2 g (.tup [.int D.number, .ref t])) (upd (upd H2 g (.tup [.int D.number, .ref t])) h (hdO K { D with pgs := pg1, pv := .non, cv := .non, leaving := false, gone := .ref g, evs := (D.evs ++ r) ++ [(a, Ev.oth y)] })) := Kp.upd Kp.refl List.mem_cons_self
        have k14 : Kp [h, D.hist] H1 _ := (kp2.trans (Kp.of s3)).trans (k4.mono (by simp))
        have ex4 := hd3.ext1 k4
        have ex14 := hd1.ext2 k14
        have nn4 := (hd4.tr : Tr [h, D.hist] _).nn k14
        refine k { D with pgs := pg1, pv := .non, cv := .non, leaving := false, gone := .ref g, evs := (D.evs ++ r) ++ [(a, Ev.oth y)] } none _ ⟨fun b u z n _ => (kp1.trans (k14.mono sub2)) b u z n, fun b z => .inr (nn1 b (nn4 b z)), fun z => Tr.tab (F := [h, D.hist]) hd1.tr k14 (ho.tr.tab kp1 z), fun b hb => .inl (sub2 b hb)⟩ ⟨hd4, ho.me, ho.me0, ho.me62, (fun z hz => by
          have hz : z ∈ tks ((D.evs ++ r) ++ [(a, Ev.oth y)]) := hz
          rw [tks_app, tks_oth, List.append_nil] at hz
          exact tc1 z hz), ho.fe, ho.h0, ho.wi0, ⟨N1, hbk.ext ex14, by show N1 + 0 ≤ _; omega⟩, ?_, .inr ⟨g, t, D.number, c, rfl, ex4 _ _ upd_same trivial, (hpl1.ext ex14), hok⟩, fun z hz => ?_, fun z hz e => ?_, ⟨rfl, rfl⟩⟩ ⟨rfl, (r ++ [(a, Ev.oth y)] : EL), by show (D.evs ++ r) ++ _ = _; rw [List.append_assoc]⟩ (fun x' z => nomatch z) Bd.none
        · show ((D.evs ++ r) ++ [(a, Ev.oth y)]).length ≤ _
          rw [List.length_append, List.length_append]
          show D.evs.length + r.length + 1 ≤ _
          omega
        · show z.1 ≤ D.last
          have hz : z ∈ tks ((D.evs ++ r) ++ [(a, Ev.oth y)]) := hz
          rw [tks_app, tks_oth, List.append_nil] at hz
          rw [o.last]; exact tk1 z hz
        · exact ho.msn z hz e
      refine ⟨_, rfl, _, rfl, h, D.dx, _, rfl, hd1.ins, c.on, D.me, rfl, ho.me0, _, rfl, ite2 (fun _ => ?_) (fun _ => ?_)⟩
      · refine ⟨_, rfl, _, rfl, h, D.dx, _, rfl, hd1.ins, c.fol, D.me, rfl, ho.me0, _, rfl, ite2 (fun _ => ?_) (fun _ => ?_)⟩
        · refine ⟨_, rfl, h, D.dx, _, rfl, hd1.ins, by kernel_rfl, _, rfl, h, D.dx, _, rfl, hd1.ins, _, _, rfl, rfl, _, rfl, _, rfl, _, rfl, _, rfl, (by show 3 ≤ sizeLine; decide), fun w hw => ?_⟩
          have s2 := same_new (o := .tup [.int c.on, .int c.new, .ref c.r]) hw
          have hd2 := hd1.same s2
          refine ⟨h, { D with pgs := pg1, evs := D.evs ++ r }, D.number + 1, c.fol, w, c.on, c.new, c.r, rfl, hd2, upd_same, evl1, ho.me0, ho.me62, fun wi a p S2 c2 C2 H3 hwi kp3 hd3 np => ?_⟩
          have k13 : Kp [h, D.hist] H1 H3 := (Kp.of s2).trans kp3
          have ex23 := hd2.ext2 kp3
          have ex13 := hd1.ext2 k13
          have nn3 := (hd3.tr : Tr [h, D.hist] _).nn k13
          have hlast : (if D.number + 1 > D.last then D.number + 1 else D.last) = D.number + 1 := by rw [o.last]; exact if_pos (by omega)
          have htk3 : tks ((D.evs ++ r) ++ [(a, Ev.oth "list")]) = tks (D.evs ++ r) := by rw [tks_app, tks_oth, List.append_nil]
          refine k { D with pgs := pg1, number := D.number + 1, hands := c.fol, wA := w, pv := .ref p, cv := .ref c2, wished := wi, wishing := false, gone := .non, last := if D.number + 1 > D.last then D.number + 1 else D.last, evs := (D.evs ++ r) ++ [(a, Ev.oth "list")] } (some ⟨p, S2, c2, C2⟩) H3 ⟨fun b u z n _ => (kp1.trans (k13.mono sub2)) b u z n, fun b z => .inr (nn1 b (nn3 b z)), fun z => Tr.tab (F := [h, D.hist]) hd1.tr k13 (ho.tr.tab kp1 z), fun b hb => ?_⟩ ?_ ⟨rfl, (r ++ [(a, Ev.oth "list")] : EL), by show (D.evs ++ r) ++ _ = _; rw [List.append_assoc]⟩ (fun x' _ => rfl) (Bd.fresh np.agr np.reps)
          · rcases np.foot b hb with e | e | e
            · rw [e]; exact .inl (sub2 _ (by simp))
            · rw [e]; exact .inl (sub2 _ (List.mem_cons_of_mem _ List.mem_cons_self))
            · exact .inr (nn1 b (s2.free e))
          · refine HOK.stood hd3 np rfl rfl rfl hlast (fun z => ?_) ho.me ho.me0 ho.me62 (fun y hy => tc1 y (by rw [← htk3]; exact hy)) ho.fe hok.fol (hwi ho.wi0) (hbk.ext ex13) (by omega) ?_ (fun y hy => ?_) (fun y hy e => ?_) ⟨c.on, c.new, c.r, c.rw_, ex23 _ _ upd_same trivial, (hpl1.ext ex13).r, fun y hy => ⟨(hpl1.ext ex13).told y hy, ?_⟩, hok.len⟩
            · have := hd2.hist
              rw [show upd H1 w (.tup [.int c.on, .int c.new, .ref c.r]) D.hist = none from z] at this
              cases this
            · show ((D.evs ++ r) ++ [(a, Ev.oth "list")]).length ≤ _
              rw [List.length_append, List.length_append]
              show D.evs.length + r.length + 1 ≤ _
              omega
            · show y.1 < D.number + 1
              have hy : y ∈ tks ((D.evs ++ r) ++ [(a, Ev.oth "list")]) := hy
              rw [htk3] at hy
              have := tk1 y hy; omega
            · show y.1 < D.number + 1
              have := ms1 y hy e; omega
            · show GC cs (D.number + 1 - 1) ms y.2
              rw [show D.number + 1 - 1 = D.number by omega]
              exact hok.gc y hy
        · refine ⟨_, rfl, h, D.dx, _, rfl, hd1.ins, by kernel_rfl, h, _, rfl, hd1, evl1, fun a y H2 kp2 hd2 => ?_⟩
          exact ⟨_, rfl, h, D.dx, _, rfl, hd2.ins, _, rfl, (by show 2 ≤ sizeLine; decide), fun g hg => ⟨_, rfl, h, D.dx, _, rfl, (hd2.same (same_new hg)).ins, fin a y H2 kp2 hd2 g hg⟩⟩
      · refine ⟨_, rfl, h, D.dx, _, rfl, hd1.ins, by kernel_rfl, h, _, rfl, hd1, evl1, fun a y H2 kp2 hd2 => ?_⟩
        exact ⟨_, rfl, h, D.dx, _, rfl, hd2.ins, _, rfl, (by show 2 ≤ sizeLine; decide), fun g hg => ⟨_, rfl, h, D.dx, _, rfl, (hd2.same (same_new hg)).ins, fin a y H2 kp2 hd2 g hg⟩⟩

end
end G
namespace G
open PySem PySem.Spec L2
open PyProof.Rows hiding St
section
variable {P : Program} {w : World} {K : PySem.W.Frag} {mg : Str → Option Value} {base : Heap} {CT : Addr × Addr}
def spSettle (K : PySem.W.Frag) (CT : Addr × Addr) (cs : List Int) (ms : List Nm) (T : Int → Nm → Prop) (B : Nat) : Sp := fun vs H Q _ => ∃ h D i, vs = [.ref h] ∧ HOK K cs ms T B H h D i ∧ Tb CT H ∧ cs.length ≤ 60 ∧ ms.length ≤ 50 ∧ B ≤ 900000 ∧
  ∀ D' i' H', Mv CT (foot h D i) (foot h D' i') H H' → HOK K cs ms T (B + 110) H' h D' i' → Gr D D' → Bd H' i' → (Bd H i → ∀ x, i = some x → ∃ x', i' = some x') → Q .non H'
theorem ok_Hand_settle (A : All P w K mg base CT) {cs : List Int} {ms : List Nm} {T : Int → Nm → Prop} {B : Nat} : MOk P w K mg base CX0 10 (He.ga K "Hand") "settle" ["self"] [] (spSettle K CT cs ms T B) := by
  obtain ⟨fd, F⟩ := fu_Hand_settle A.d
  refine ⟨cl_Hand A.d, _, fd, [], ⟨fun vs H Q E h => ?_, fun A0 outer s H args us vs Q E hr0 e0 hb r h => ?_⟩, me_Hand_settle A.d, F.bindsN fun _ _ _ _ _ _ us hl => match us, hl with | [_], _ => rfl, .nil⟩
  · obtain ⟨h, D, i, rfl, _⟩ := h
    rfl
  obtain ⟨h, D, i, rfl, ho, htb, hcs, hms, hB, k⟩ := h
  refine run_def F sc_Hand_settle rfl hr0 e0 hb r fun cdv hcdv hcd lk hr => ?_
  obtain ⟨oc, od, osl, lk⟩ := lk
  obtain ⟨c0, rfl⟩ := He.codeIn_ref hcd
  have eCT : CT.1 = c0 := by
    rw [A.ct]
    exact He.codeOf_eq (p := ("Hand", some "settle")) lk hcdv
  have TB : LamX.TabB base mg c0 CT.2 := by
    have := A.tab
    rw [eCT] at this; exact this
  have hu := hu_of hr
  obtain ⟨fdp, Fp, okp⟩ := fs_Change_propose A (cs := cs) (n := D.number) (ms := ms) (B := B)
  refine nox_of ⟨_, pss_cons (ps_if (pt_cmpR op_isN (pe_Hand_page A.d (pv 0)) pe_non (nomark _)) (pss_one ps_retN) pss_nil)
      (pss_cons (ps_set (i := 1) sc_Hand_settle.nd rfl (Or.inr rfl) (pe_Hand_me A.d (pv 0)))
      (pss_cons (ps_set (i := 2) sc_Hand_settle.nd rfl (Or.inr rfl) (pe_Hand_hands A.d (pv 0)))
      (pss_cons (ps_set (i := 3) sc_Hand_settle.nd rfl (Or.inr rfl) (pe_op op_and (pe_Hand_wished A.d (pv 0)) (pe_un un_inv (pe_Hand_feared A.d (pv 0)))))
      (pss_cons (NdefX.ps_ndefMS (T := [(CT.2, nmT)]) (nm := nmT) (i := 4) rfl TB rfl List.mem_cons_self rfl (fun p hp _ => by rw [List.mem_singleton.mp hp]) (NdefX.ndef_free nd_make) rfl rfl rfl sc_Hand_settle.nd rfl (Or.inl rfl) (Or.inr rfl))
      (pss_cons (ps_expr (pe_methS (cl := cloFrom (envOfC d_Hand_settle.qual (defScope s_Hand_settle) s.heap.objs.size (He.fAd K ("Hand", some "settle")) (.ref c0)).cells (C8.fnScope s_make).names []) (fr := frM) (js := [1, 2, 3]) (E := E0) (pe_Hand_change A.d (pv 0)) (cl_Change A.d) (me_Change_propose A.d) okp hr (by decide) (Fp.bindsN fun _ _ _ _ _ _ us hl => match us, hl with | [_, _, _], _ => rfl) (pa_cons (pe_Hand_feared A.d (pv 0)) (pa_cons (pv 4) pa_nil)) rfl rfl (fun _ => rfl) (fun ok => NdefX.Caps.made ok (NdefX.ndef_free nd_make) (NdefX.ndef_fr nd_make) rfl)))
      (pss_cons (ps_set (i := 5) sc_Hand_settle.nd rfl (Or.inl rfl) ((ok_Change_settled A (cs := cs) (n := D.number) (ms := ms) (B := B)).pe0 hr pass0 (pe_Hand_change A.d (pv 0))))
      (pss_one (ps_if (pt_cmpR op_notN (pv 5) pe_non (nomark _)) (pss_one (ps_expr ((ok_Hand_go_by A (cs := cs) (ms := ms) (T := T) (B := B)).pe hr pass0 (pv 0) (pa_cons (pv 5) pa_nil)))) pss_nil)))))))), ?_⟩
  refine ⟨_, rfl, h, D.dx, _, rfl, ho.c.ins, rfl, _, rfl, ite2 (fun e => ?_) (fun e => ?_)⟩
  · have ei : i = none := by
      cases i with
      | none => rfl
      | some x => exact (isn_ref (show InOK K cs ms T B H D x from ho.inn).pv e).elim
    subst ei
    exact k D none H .refl (ho.up (by omega)) .refl Bd.none fun _ x z => nomatch z
  cases i with
  | none => exact absurd (by rw [show D.rc.page_ = D.pv from rfl, (show D.pv = .non ∧ D.cv = .non from ho.inn).1]; rfl) e
  | some x =>
  have o : InOK K cs ms T B H D x := ho.inn
  refine ⟨_, rfl, h, D.dx, _, rfl, ho.c.ins, _, rfl, h, D.dx, _, rfl, ho.c.ins, _, rfl, h, D.dx, _, rfl, ho.c.ins, _, rfl, h, D.dx, _, rfl, ho.c.ins, _, rfl, _, _, rfl, rfl, ?_⟩
  refine ⟨fun p hp => by rw [List.mem_singleton.mp hp]; exact htb, fun f c' H1 eN nn1 T1 f0 f1 c1 => ?_⟩
  have mv1 : Mv CT (foot h D (some x)) (foot h D (some x)) H H1 := ⟨fun b u hb _ nt => eN b u hb nt, fun b z => .inr (nn1 b z), fun _ => T1 _ List.mem_cons_self, fun _ z => .inl z⟩
  have ho1 := ho.extN eN
  have o1 : InOK K cs ms T B H1 D x := ho1.inn
  refine ⟨_, rfl, h, D.dx, _, rfl, ho1.c.ins, x.c, x.C.dx, _, o.cv, o1.ch.ins, by kernel_rfl, _, rfl, h, D.dx, _, rfl, ho1.c.ins, _, rfl, fun s2 hC hnf => ?_⟩
  refine ⟨x.c, x.C, D.feared, f, c', _, _, _, _, vs1 o.cv, o1.ch, f1, c1, hC, hnf, ho.me0, ho.me62, and_nnL ho.wi0, by omega, hcs, by omega, fun C' b H2 kp2 hc2 sm e1 e2 po => ?_⟩
  obtain ⟨ho2, mv2⟩ := ho1.chg (CT := CT) (kp2.mono (by simp)) hc2 sm (.inl e1)
  have o2 : InOK K cs ms T B H2 D { x with C := C' } := ho2.inn
  refine ⟨_, rfl, h, D.dx, _, rfl, ho2.c.ins, x.c, C'.dx, _, o.cv, hc2.ins, by kernel_rfl, x.c, C', vs1 o.cv, hc2, ?_⟩
  refine ⟨_, rfl, rfl, _, rfl, ?_⟩
  have mv12 := mv1.trans mv2
  have hfe : bit D.feared x.C.me = false := by rw [o.cme]; exact ho.fe
  have hh0 : 0 ≤ x.C.hands := by rw [o.chands]; exact ho.h0
  have ex12 : Ext H1 H2 := Tr.ext (F := [x.c]) (fun b hb => by rw [List.mem_singleton.mp hb]; exact ⟨_, o1.ch.ins, by show ¬ (7 = 5); decide⟩) kp2
  have exH1 : Ext H H1 := ho.tr.extT mv1.kt
  have stays : C'.agr = .non → Bd H2 (some { x with C := C' }) := fun ea y ey => by
    cases ey
    refine ⟨ea, fun e3 z => ?_⟩
    have e3 : x.C.hands = 2 ^ x.C.me.toNat := by rw [← sm.2, ← sm.1]; exact e3
    by_cases u : Unp H1 x.C ∧ x.C.me ∈ x.C.reps.map (·.1)
    · by_cases ag : x.C.agr = .non
      · exact po.one ag e3 hfe u.1 u.2 ea
      · exact po.stay ag ea
    · have ec := po.no e3 hfe u
      have z : Unp H2 C' ∧ C'.me ∈ C'.reps.map (·.1) := z
      rw [ec] at z
      exact u ⟨(Unp.ext o1.ch ex12).mp z.1, z.2⟩
  have stand : Bd H (some x) → C'.agr = .non := fun bd => by
    obtain ⟨b1, b2⟩ := ho.bdx exH1 bd x rfl
    by_cases e3 : x.C.hands = 2 ^ x.C.me.toNat
    · rw [po.no e3 hfe (b2 e3)]; exact b1
    · exact po.two b1 hh0 e3
  rcases hc2.agr with e | ⟨t, c, e, hpl, hok⟩
  · rw [e]
    exact iteF (k D _ H2 mv12 (ho2.up (by omega)) .refl (stays e) fun _ y ey => ⟨_, rfl⟩)
  · rw [e]
    refine iteT ⟨_, rfl, h, D.dx, _, rfl, ho2.c.ins, by kernel_rfl, _, rfl, h, D, { x with C := C' }, t, c, rfl, ho2, hpl, hok, hcs, hms, hB, fun D' i' H' mv3 ho3 gr _ bd3 => k D' i' H' (mv12.trans mv3) ho3 gr bd3 fun bd => by have := stand bd; rw [e] at this; cases this⟩

end
end G
namespace G
open PySem PySem.Spec L2
open PyProof.Rows hiding St
section
variable {P : Program} {w : World} {K : PySem.W.Frag} {mg : Str → Option Value} {base : Heap} {CT : Addr × Addr}
/-! ### a page's step, and the hand -/
theorem FL.up {R R' : Rows} {hs : List Int} {c k : Int} (h : FL R hs c k) (u : ∀ g ∈ hs, cnt (rowR R g) c ≤ cnt (rowR R' g) c) : FL R' hs c k := ⟨h.1, fun g hg => Int.le_trans (h.2 g hg) (u g hg)⟩
theorem lcd_nm {L : TkL} {row : CL} (h : L.map (·.2.2.2) = row.map (·.2)) : L.map (fun e => e.2.2.2.nm) = row.map (·.2.nm) := by
  have := congrArg (List.map Cd.nm) h
  rwa [List.map_map, List.map_map] at this
theorem Law.step {cs : List Int} {ms : List Nm} {T : Int → Nm → Prop} {me n hands made : Int} {tk tk' : List Nm} {S S' : Pg} {row : CL} {L : TkL} (l : Law ms T me n hands made tk S.kv S.hd S.T) (so : StepOut cs S S' row L) (hme : S.me = me) (hh : S.hands = hands)
    (hn : ∀ x ∈ S.hd, x.2.n = n ∧ 1 ≤ x.2.k) (htk : tk' = tk ++ L.map (fun e => e.2.2.2.nm)) : Law ms T me n hands made tk' S'.kv S'.hd S'.T := by
  have hup : ∀ g ∈ circ hands, ∀ c, cnt (rowR S.T g) c ≤ cnt (rowR S'.T g) c := fun g hg c => by
    rw [so.tells g (by rw [hh]; exact hg) c]
    split <;> omega
  rw [lcd_nm so.lcd] at htk
  have inR : ∀ c k, (n, c, k) ∈ row.map (·.2.nm) ↔ ∃ x ∈ row, x.2.c = c ∧ x.2.k = k := fun c k => by
    rw [List.mem_map]
    refine ⟨fun ⟨x, hx, e⟩ => ⟨x, hx, congrArg (fun z : Nm => z.2.1) e, congrArg (fun z : Nm => z.2.2) e⟩, fun ⟨x, hx, e1, e2⟩ => ⟨x, hx, ?_⟩⟩
    show (x.2.n, x.2.c, x.2.k) = _
    rw [(hn x (so.pass.sub x hx)).1, e1, e2]
  have keep : ∀ c k, ((n, c, k) ∈ S.hd.map (·.2.nm) ∨ FL S.T (circ hands) c k) → ((n, c, k) ∈ S'.hd.map (·.2.nm) ∨ FL S'.T (circ hands) c k) := fun c k h => by
    rcases h with h | h
    · by_cases f : FL S'.T (circ hands) c k
      · exact .inr f
      · obtain ⟨x, hx, e⟩ := List.mem_map.mp h
        have ec : x.2.c = c := congrArg (fun z : Nm => z.2.1) e
        have ek : x.2.k = k := congrArg (fun z : Nm => z.2.2) e
        exact .inl (List.mem_map.mpr ⟨x, (so.held x).mpr ⟨hx, by rw [ec, ek, hh]; exact f⟩, e⟩)
    · exact .inr (h.up fun g hg => hup g hg c)
  refine ⟨fun c k => ?_, l.mn, l.m0, fun g hg c k h1 h2 => ?_, fun c k h1 h2 => ?_, fun k h1 h2 => keep me k (l.hm k h1 h2)⟩
  · rw [htk, List.mem_append, l.tt, inR]
    constructor
    · rintro (⟨h1, h2⟩ | ⟨x, hx, e1, e2⟩)
      · exact ⟨h1, Int.le_trans h2 (so.pass.up c)⟩
      · have := so.pass.iff x hx
        have h3 := (hn x (so.pass.sub x hx)).2
        rw [e1, e2] at this
        exact ⟨by omega, this.2⟩
    · rintro ⟨h1, h2⟩
      by_cases h : k ≤ cnt S.kv c
      · exact .inl ⟨h1, h⟩
      · exact .inr (so.pass.ex c k (by omega) h2)
  · rw [so.tells g (by rw [hh]; exact hg) c] at h2
    have up := so.pass.up c
    by_cases e : g = me
    · rw [if_pos e]
      rw [if_pos (by rw [e, hme])] at h2
      by_cases h : k ≤ cnt (rowR S.T g) c
      · have := l.tl g hg c k h1 h
        rw [if_pos e] at this; omega
      · omega
    · rw [if_neg e]
      rw [if_neg (by rw [hme]; exact e)] at h2
      have := l.tl g hg c k h1 h2
      rwa [if_neg e] at this
  · refine keep c k ?_
    by_cases h : k ≤ cnt S.kv c
    · exact l.hk c k h1 h
    · obtain ⟨x, hx, e1, e2⟩ := so.pass.ex c k (by omega) h2
      have hx' := so.pass.sub x hx
      exact .inl (List.mem_map.mpr ⟨x, hx', by show (x.2.n, x.2.c, x.2.k) = _; rw [(hn x hx').1, e1, e2]⟩)
section
variable {cs : List Int} {ms ms' : List Nm} {T : Int → Nm → Prop} {B B' : Nat} {H H2 : Hp} {h : Addr} {D : Hd} {x : In} {CT : Addr × Addr} {S' : Pg} {r : EL}
theorem HOK.pag (ho : HOK K cs ms T B H h D (some x)) (kp : Kp (D.hist :: x.S.foot x.p) H H2) (hd : HdC K H2 h { D with evs := D.evs ++ r }) (hp : PageAt K cs ms' H2 x.p S') (e1 : S'.me = x.S.me) (e2 : S'.num = x.S.num) (e3 : S'.hands = x.S.hands)
    (fr : ∀ b ∈ S'.foot x.p, b ∈ x.S.foot x.p ∨ H b = none) (h1 : S'.os.length ≤ B') (h2 : S'.past.length ≤ x.S.past.length + 100) (h3 : r.length ≤ 100) (hB : B + 100 ≤ B') (htk : ∀ y ∈ tks r, y.1 = D.number ∧ y.2.1 ∈ cs) (s : ∀ y ∈ ms, y ∈ ms') (hmn : ∀ y ∈ ms', y.2.1 = D.me → y.1 ≤ D.last)
    (law : Law ms' T D.me D.number D.hands S'.made (tks (D.evs ++ r)) S'.kv S'.hd S'.T) :
    HOK K cs ms' T B' H2 h { D with evs := D.evs ++ r } (some { x with S := S' }) ∧ Mv CT (foot h D (some x)) (foot h { D with evs := D.evs ++ r } (some { x with S := S' })) H H2 := by
  have o : InOK K cs ms T B H D x := ho.inn
  have dj := o.djh ho.c
  obtain ⟨N, hb1, hb2⟩ := ho.book
  have hb2 : N + x.S.past.length ≤ B := hb2
  have sub : ∀ b ∈ D.hist :: x.S.foot x.p, b ∈ foot h D (some x) := fun b hb => by
    rcases List.mem_cons.mp hb with e | hb
    · rw [e]; exact List.mem_cons_of_mem _ List.mem_cons_self
    · exact List.mem_cons_of_mem _ (List.mem_cons_of_mem _ (List.mem_append_left _ hb))
  have tr : Tr (D.hist :: x.S.foot x.p) H := ho.tr.mono sub
  have ex := tr.ext kp
  have nm : ∀ {b : Addr}, b ≠ D.hist → b ∉ x.S.foot x.p → b ∉ D.hist :: x.S.foot x.p := fun n1 n2 m => (List.mem_cons.mp m).elim n1 n2
  refine ⟨⟨hd, ho.me, ho.me0, ho.me62, (fun y hy => by
    have hy : y ∈ tks (D.evs ++ r) := hy
    rw [tks_app] at hy
    rcases List.mem_append.mp hy with hy | hy
    · exact ho.tkc y hy
    · exact (htk y hy).2), ho.fe, ho.h0, ho.wi0, ⟨N, hb1.ext ex, ?_⟩, ?_, (ho.gone.ext ex).mono s, fun y hy => ?_, hmn, (⟨o.pv, o.cv, hp, (o.ch.keep (fun u z => kp _ _ z (nm dj.chi dj.cF)) (fun u z => kp _ _ z (nm dj.rhi dj.rF)) ex).mono s (by omega), e1.trans o.me, e2.trans o.num, e3.trans o.hands, o.cme, o.chands, o.last, ⟨fun m => ?_, fun m => ?_⟩, h1, (o.way.ext ex).mono s, law⟩ : InOK K cs ms' T B' H2 { D with evs := D.evs ++ r } { x with S := S' })⟩, Mv.of ho.tr (kp.mono sub) fun b hb => ?_⟩
  · show N + S'.past.length ≤ B'
    omega
  · show (D.evs ++ r).length ≤ B'
    rw [List.length_append]
    have := ho.evl; omega
  · show y.1 ≤ D.last
    have hy : y ∈ tks (D.evs ++ r) := hy
    rw [tks_app] at hy
    rcases List.mem_append.mp hy with hy | hy
    · exact ho.tkn y hy
    · rw [o.last]; exact Int.le_of_eq (htk y hy).1
  · rcases fr _ m with z | z
    · exact dj.hiF z
    · have z : H D.hist = none := z
      rw [ho.c.hist] at z; cases z
  · rcases fr _ m with z | z
    · exact dj.rF z
    · have z : H x.C.rD = none := z
      rw [o.ch.rd] at z; cases z
  · rcases List.mem_cons.mp hb with e | hb
    · rw [e]; exact .inl List.mem_cons_self
    · rcases List.mem_cons.mp hb with e | hb
      · rw [e]; exact .inl (List.mem_cons_of_mem _ List.mem_cons_self)
      · rcases List.mem_append.mp hb with hb | hb
        · exact (fr b hb).imp (fun z => List.mem_cons_of_mem _ (List.mem_cons_of_mem _ (List.mem_append_left _ z))) id
        · exact .inl (List.mem_cons_of_mem _ (List.mem_cons_of_mem _ (List.mem_append_right _ hb)))
end
theorem foot_step {cs : List Int} {H : Hp} {S S1 S' : Pg} {row : CL} {L : TkL} {p : Addr} (so : StepOut cs S1 S' row L) (e1 : S1.tA = S.tA) (e2 : S1.tt = S.tt) (e3 : S1.aA = S.aA) (e4 : S1.ta = S.ta) (e5 : S1.pA = S.pA) (fr : Fr H S S') : ∀ b ∈ S'.foot p, b ∈ S.foot p ∨ H b = none := fun b hb => by
  unfold Pg.foot at hb ⊢
  rw [so.tA, so.tt, so.aA, so.ta, so.pA, e1, e2, e3, e4, e5] at hb
  simp only [List.mem_cons, List.not_mem_nil, or_false] at hb ⊢
  rcases hb with rfl | rfl | rfl | rfl | h | h | h | h | h
  · simp
  · exact fr.dD.imp (fun z => by rw [z]; simp) id
  · exact fr.dH.imp (fun z => by rw [z]; simp) id
  · exact fr.oA.imp (fun z => by rw [z]; simp) id
  · rw [h]; simp
  · rw [h]; simp
  · rw [h]; simp
  · rw [h]; simp
  · rw [h]; simp
theorem told_len (L : TkL) : (TkL.told L).length = L.length := List.length_map _

end
end G
namespace G
open PySem PySem.Spec L2
open PyProof.Rows hiding St
section
variable {P : Program} {w : World} {K : PySem.W.Frag} {mg : Str → Option Value} {base : Heap} {CT : Addr × Addr}
/-- the made names, what is taken, the bound: told by who calls -/
def ex3 (sp : List Nm → (Int → Nm → Prop) → Nat → Sp) : Sp := fun vs H Q E => ∃ ms T B, sp ms T B vs H Q E
def spEvents (K : PySem.W.Frag) : Sp := fun vs H Q _ => ∃ h D, vs = [.ref h] ∧ HdC K H h D ∧ ∀ q, H q = none → Q (.ref q) (upd H q (.lst (refsE D.evs)))
theorem ok_Hand_events (A : All P w K mg base CT) : MOk P w K mg base CX0 1 (He.ga K "Hand") "events" ["self"] [] (spEvents K) := by
  obtain ⟨fd, F⟩ := fu_Hand_events A.d
  refine ⟨cl_Hand A.d, _, fd, [], FunD.ok0 F sc_Hand_events (fun vs H Q E h => ?_) (fun cdv A0 outer s H vs Q E hr h => ?_), me_Hand_events A.d, F.bindsN fun _ _ _ _ _ _ us hl => match us, hl with | [_], _ => rfl, .nil⟩
  · obtain ⟨h, D, rfl, hd, k⟩ := h
    rfl
  · obtain ⟨h, D, rfl, hd, k⟩ := h
    have hu := hu_of hr
    refine ⟨_, pss_one (ps_ret (pe_callTy (call_list_of) (by rfl) (fr_list A.kin A.ns A.d) (by decide +kernel) (pa_cons (pe_Hand_history A.d (pv 0)) pa_nil))), ?_⟩
    exact ⟨_, rfl, h, D.dx, _, rfl, hd.ins, D.hist, _, rfl, .inl (SqL.of hd.hist), fun q hq => k q hq⟩
def spStanding (K : PySem.W.Frag) (cs : List Int) (ms : List Nm) (T : Int → Nm → Prop) (B : Nat) : Sp := fun vs H Q _ => ∃ h D i, vs = [.ref h] ∧ HOK K cs ms T B H h D i ∧ (i = none → Q .non H) ∧ (∀ x, i = some x → ∀ q, H q = none → Q (.ref q) (upd H q (.tup [.int D.number, .int D.hands])))
theorem HOK.pnone {cs : List Int} {ms : List Nm} {T : Int → Nm → Prop} {B : Nat} {H : Hp} {h : Addr} {D : Hd} {i : Option In} (ho : HOK K cs ms T B H h D i) (e : decide (D.rc.page_ = .non) = true) : i = none := by
  cases i with
  | none => rfl
  | some x => exact (isn_ref (show InOK K cs ms T B H D x from ho.inn).pv e).elim
theorem HOK.psome {cs : List Int} {ms : List Nm} {T : Int → Nm → Prop} {B : Nat} {H : Hp} {h : Addr} {D : Hd} {i : Option In} (ho : HOK K cs ms T B H h D i) (e : ¬ decide (D.rc.page_ = .non) = true) : ∃ x, i = some x := by
  cases i with
  | none => exact absurd (by rw [show D.rc.page_ = D.pv from rfl, (show D.pv = .non ∧ D.cv = .non from ho.inn).1]; rfl) e
  | some x => exact ⟨x, rfl⟩
theorem ok_Hand_standing (A : All P w K mg base CT) {cs : List Int}: MOk P w K mg base CX0 1 (He.ga K "Hand") "standing" ["self"] [] (ex3 (spStanding K cs)) := by
  obtain ⟨fd, F⟩ := fu_Hand_standing A.d
  refine ⟨cl_Hand A.d, _, fd, [], FunD.ok0 F sc_Hand_standing (fun vs H Q E h => ?_) (fun cdv A0 outer s H vs Q E hr h => ?_), me_Hand_standing A.d, F.bindsN fun _ _ _ _ _ _ us hl => match us, hl with | [_], _ => rfl, .nil⟩
  · obtain ⟨ms, T, B, h, D, i, rfl, ho, k1, k2⟩ := h
    rfl
  · obtain ⟨ms, T, B, h, D, i, rfl, ho, k1, k2⟩ := h
    have hu := hu_of hr
    refine ⟨_, pss_cons (ps_if (pt_cmpR op_isN (pe_Hand_page A.d (pv 0)) pe_non (nomark _)) (pss_one (ps_ret pe_non)) pss_nil)
      (pss_one (ps_ret (pe_tup (pa_cons (pe_Hand_number A.d (pv 0)) (pa_cons (pe_Hand_hands A.d (pv 0)) pa_nil))))), ?_⟩
    refine ⟨_, rfl, h, D.dx, _, rfl, ho.c.ins, rfl, _, rfl, ite2 (fun e => k1 (ho.pnone e)) (fun e => ?_)⟩
    obtain ⟨x, rfl⟩ := ho.psome e
    exact ⟨_, rfl, h, D.dx, _, rfl, ho.c.ins, _, rfl, h, D.dx, _, rfl, ho.c.ins, (by show 2 ≤ sizeLine; decide), fun q hq => k2 x rfl q hq⟩
def spHKept (K : PySem.W.Frag) (cs : List Int) (ms : List Nm) (T : Int → Nm → Prop) (B : Nat) : Sp := fun vs H Q _ => ∃ h D i, vs = [.ref h] ∧ HOK K cs ms T B H h D i ∧ (i = none → ∀ q, H q = none → Q (.ref q) (upd H q (.lst []))) ∧
  (∀ x, i = some x → ∀ q l H', H q = none → Same H H' → H' q = some (.lst (refsN l)) → NmAt H' l → l.map (·.2) = nmSort id (x.S.hd.map (·.2.nm)) → Q (.ref q) H')
theorem ok_Hand_kept (A : All P w K mg base CT) {cs : List Int}: MOk P w K mg base CX0 2 (He.ga K "Hand") "kept" ["self"] [] (ex3 (spHKept K cs)) := by
  obtain ⟨fd, F⟩ := fu_Hand_kept A.d
  refine ⟨cl_Hand A.d, _, fd, [], FunD.ok0 F sc_Hand_kept (fun vs H Q E h => ?_) (fun cdv A0 outer s H vs Q E hr h => ?_), me_Hand_kept A.d, F.bindsN fun _ _ _ _ _ _ us hl => match us, hl with | [_], _ => rfl, .nil⟩
  · obtain ⟨ms, T, B, h, D, i, rfl, ho, k1, k2⟩ := h
    rfl
  · obtain ⟨ms, T, B, h, D, i, rfl, ho, k1, k2⟩ := h
    have hu := hu_of hr
    refine ⟨_, pss_cons (ps_if (pt_cmpR op_isN (pe_Hand_page A.d (pv 0)) pe_non (nomark _)) (pss_one (ps_ret (pe_lst pa_nil))) pss_nil)
      (pss_one (ps_ret ((ok_Page_kept A (cs := cs) (ms := ms)).pe0 hr pass0 (pe_Hand_page A.d (pv 0))))), ?_⟩
    refine ⟨_, rfl, h, D.dx, _, rfl, ho.c.ins, rfl, _, rfl, ite2 (fun e => ⟨Nat.zero_le _, fun q hq => k1 (ho.pnone e) q hq⟩) (fun e => ?_)⟩
    obtain ⟨x, rfl⟩ := ho.psome e
    have o : InOK K cs ms T B H D x := ho.inn
    exact ⟨_, rfl, h, D.dx, _, rfl, ho.c.ins, x.p, x.S.dx, _, o.pv, o.pg.ins, by kernel_rfl, x.p, x.S, vs1 o.pv, o.pg, fun q l H' h1 h2 h3 h4 h5 => k2 x rfl q l H' h1 h2 h3 h4 h5⟩
theorem HOK.flags {cs : List Int} {ms : List Nm} {T : Int → Nm → Prop} {B : Nat} {H : Hp} {h : Addr} {D D' : Hd} {i : Option In} {CT : Addr × Addr} {f w : Int} {l g : Bool} {lo : V} (ho : HOK K cs ms T B H h D i) (e : D' = { D with feared := f, wished := w, leaving := l, wishing := g, lost := lo }) (hf : bit f D.me = false := by assumption) (hw : 0 ≤ w := by assumption) :
    HOK K cs ms T B (upd H h (hdO K D')) h D' i ∧ Mv CT (foot h D i) (foot h D' i) H (upd H h (hdO K D')) := by
  subst e
  have hd2 : HdC K (upd H h (hdO K { D with feared := f, wished := w, leaving := l, wishing := g, lost := lo })) h { D with feared := f, wished := w, leaving := l, wishing := g, lost := lo } := ho.c.put rfl rfl
  have kp : Kp [h] H (upd H h (hdO K { D with feared := f, wished := w, leaving := l, wishing := g, lost := lo })) := Kp.upd Kp.refl List.mem_cons_self
  have ex := ho.c.ext1 kp
  refine ⟨⟨hd2, ho.me, ho.me0, ho.me62, ho.tkc, hf, ho.h0, hw, ho.book.imp fun N z => ⟨z.1.ext ex, z.2⟩, ho.evl, ho.gone.ext ex, ho.tkn, ho.msn, ?_⟩, Mv.of ho.tr (kp.mono (by unfold foot; simp)) fun b hb => .inl hb⟩
  cases i with
  | none => exact ho.inn
  | some x =>
    have o : InOK K cs ms T B H D x := ho.inn
    have dj := o.djh ho.c
    have o2 := o.keep (H1 := upd H h (hdO K { D with feared := f, wished := w, leaving := l, wishing := g, lost := lo })) (fun b hb u z => kp _ _ z (notin1 fun q => by
      rw [q] at hb
      rcases List.mem_append.mp hb with hb | hb
      · exact dj.hF hb
      · rcases List.mem_cons.mp hb with z | hb
        · exact dj.ch z.symm
        · exact dj.rh (List.mem_singleton.mp hb).symm)) ex
    exact ⟨o2.pv, o2.cv, o2.pg, o2.ch, o2.me, o2.num, o2.hands, o2.cme, o2.chands, o2.last, o2.dj, o2.os, o2.way, o2.law⟩
/-- a deed on a hand: what all of them promise -/
def spDeed (K : PySem.W.Frag) (CT : Addr × Addr) (cs : List Int) (ms : List Nm) (T : Int → Nm → Prop) (B B' : Nat) (ok : V → Hp → Prop) (H : Hp) (h : Addr) (D : Hd) (i : Option In) (Q : V → Hp → Prop) : Prop :=
  ∀ v D' i' H', ok v H' → Mv CT (foot h D i) (foot h D' i') H H' → HOK K cs ms T B' H' h D' i' → Gr D D' → (Bd H i → Bd H' i') → Q v H'
def spCome (K : PySem.W.Frag) (CT : Addr × Addr) (cs : List Int) (ms : List Nm) (T : Int → Nm → Prop) (B : Nat) : Sp := fun vs H Q _ => ∃ h D, vs = [.ref h] ∧ HOK K cs ms T B H h D none ∧ spDeed K CT cs ms T B B (fun _ _ => True) H h D none Q
theorem ok_Hand_come (A : All P w K mg base CT) {cs : List Int}: MOk P w K mg base CX0 1 (He.ga K "Hand") "come" ["self"] [] (ex3 (spCome K CT cs)) := by
  obtain ⟨fd, F⟩ := fu_Hand_come A.d
  refine ⟨cl_Hand A.d, _, fd, [], FunD.ok0 F sc_Hand_come (fun vs H Q E h => ?_) (fun cdv A0 outer s H vs Q E hr h => ?_), me_Hand_come A.d, F.bindsN fun _ _ _ _ _ _ us hl => match us, hl with | [_], _ => rfl, .nil⟩
  · obtain ⟨ms, T, B, h, D, rfl, ho, k⟩ := h
    rfl
  · obtain ⟨ms, T, B, h, D, rfl, ho, k⟩ := h
    have hu := hu_of hr
    refine ⟨_, pss_cons (ps_if (pt_cmpR op_notN (pe_Hand_page A.d (pv 0)) pe_non (nomark _)) (pss_one ps_never) pss_nil)
      (pss_one (ps_Hand_wishing A.d (pv 0) pe_bl)), ?_⟩
    refine ⟨_, rfl, h, D.dx, _, rfl, ho.c.ins, rfl, _, rfl, ?_⟩
    rw [show D.rc.page_ = D.pv from rfl, (show D.pv = .non ∧ D.cv = .non from ho.inn).1]
    refine iteF ⟨_, rfl, h, D.dx, _, rfl, ho.c.ins, ?_⟩
    obtain ⟨h1, m1⟩ := ho.flags (CT := CT) (D' := { D with wishing := true }) rfl ho.fe ho.wi0
    exact k .non _ none _ trivial m1 h1 ⟨rfl, [], (List.append_nil _).symm⟩ fun b => Bd.none
abbrev errs : List Str := ["NotIn", "Stopped", "Held"]
def spLeave (K : PySem.W.Frag) (CT : Addr × Addr) (cs : List Int) (ms : List Nm) (T : Int → Nm → Prop) (B : Nat) : Sp := fun vs H Q E => ∃ h D i, vs = [.ref h] ∧ HOK K cs ms T B H h D i ∧ spDeed K CT cs ms T B B (fun _ _ => True) H h D i Q ∧ ∀ y ∈ errs, ∀ d H', Same H H' → E (.ref (He.ga K y)) d H'
theorem ok_Hand_leave (A : All P w K mg base CT) {cs : List Int}: MOk P w K mg base (CX P w) 3 (He.ga K "Hand") "leave" ["self"] [] (ex3 (spLeave K CT cs)) := by
  obtain ⟨fd, F⟩ := fu_Hand_leave A.d
  refine ⟨cl_Hand A.d, _, fd, [], FunD.ok F sc_Hand_leave (fun vs H Q E h => ?_) (fun cdv A0 outer s H vs Q E hr h => ?_), me_Hand_leave A.d, F.bindsN fun _ _ _ _ _ _ us hl => match us, hl with | [_], _ => rfl, .nil⟩
  · obtain ⟨ms, T, B, h, D, i, rfl, ho, k, kE⟩ := h
    rfl
  · obtain ⟨ms, T, B, h, D, i, rfl, ho, k, kE⟩ := h
    have hu := hu_of hr
    refine ⟨_, pss_cons (ps_if (pt_cmpR op_isN (pe_Hand_page A.d (pv 0)) pe_non (nomark _)) (pss_one (ps_raise rfl (takes_of rfl rfl rfl rfl) (pmk_NotIn A))) pss_nil)
      (pss_cons (ps_if (pt_cmpR op_notN (pe_Change_ballot A.d (pe_Hand_change A.d (pv 0))) pe_non (nomark _)) (pss_one (ps_raise rfl (takes_of rfl rfl rfl rfl) (pmk_Stopped A hr (pa_cons (pe_Change_ballot A.d (pe_Hand_change A.d (pv 0))) pa_nil)))) pss_nil)
      (pss_one (ps_Hand_leaving A.d (pv 0) pe_bl))), ?_⟩
    refine ⟨_, rfl, h, D.dx, _, rfl, ho.c.ins, rfl, _, rfl, ite2 (fun e => kE "NotIn" (by simp) _ _ (Same.refl _)) (fun e => ?_)⟩
    obtain ⟨x, rfl⟩ := ho.psome e
    have o : InOK K cs ms T B H D x := ho.inn
    refine ⟨_, rfl, h, D.dx, _, rfl, ho.c.ins, x.c, x.C.dx, _, o.cv, o.ch.ins, rfl, _, rfl, ite2 (fun e => ?_) (fun e => ?_)⟩
    · refine ⟨_, rfl, h, D.dx, _, rfl, ho.c.ins, x.c, x.C.dx, _, o.cv, o.ch.ins, (by show 1 ≤ 1000; decide), fun a ha => ⟨a, _, rfl, upd_same, fun dx hdx hne => ⟨rfl, dx, [("ballot", x.C.bal)], ?_⟩⟩⟩
      obtain ⟨g1, g2, g3, g4⟩ := stopped_heap ha hdx hne
      exact ⟨g1, g2, g3, kE "Stopped" (by simp) _ _ g4⟩
    · refine ⟨_, rfl, h, D.dx, _, rfl, ho.c.ins, ?_⟩
      obtain ⟨h1, m1⟩ := ho.flags (CT := CT) (D' := { D with leaving := true }) rfl ho.fe ho.wi0
      exact k .non _ (some x) _ trivial m1 h1 ⟨rfl, [], (List.append_nil _).symm⟩ (ho.bdx (ho.tr.extT m1.kt))
def isNew (H0 : Hp) (v : V) (H : Hp) : Prop := ∃ q, v = .ref q
def spSuspect (K : PySem.W.Frag) (CT : Addr × Addr) (cs : List Int) (ms : List Nm) (T : Int → Nm → Prop) (B : Nat) : Sp := fun vs H Q _ => ∃ h D i hs, vs = [.ref h, .int hs] ∧ HOK K cs ms T B H h D i ∧ Tb CT H ∧ cs.length ≤ 60 ∧ ms.length ≤ 50 ∧ B ≤ 900000 ∧
  ∀ v D' i' H', isNew H v H' → Mv CT (foot h D i) (foot h D' i') H H' → HOK K cs ms T (B + 110) H' h D' i' → Gr D D' → Bd H' i' → (Bd H i → ∀ x, i = some x → ∃ x', i' = some x') → Q v H'
theorem ok_Hand_suspect (A : All P w K mg base CT) {cs : List Int}: MOk P w K mg base CX0 11 (He.ga K "Hand") "suspect" ["self", "hands"] [] (ex3 (spSuspect K CT cs)) := by
  obtain ⟨fd, F⟩ := fu_Hand_suspect A.d
  refine ⟨cl_Hand A.d, _, fd, [], FunD.ok0 F sc_Hand_suspect (fun vs H Q E h => ?_) (fun cdv A0 outer s H vs Q E hr h => ?_), me_Hand_suspect A.d, F.bindsN fun _ _ _ _ _ _ us hl => match us, hl with | [_, _], _ => rfl, .nil⟩
  · obtain ⟨ms, T, B, h, D, i, hs, rfl, ho, htb, hcs, hms, hB, k⟩ := h
    rfl
  · obtain ⟨ms, T, B, h, D, i, hs, rfl, ho, htb, hcs, hms, hB, k⟩ := h
    have hu := hu_of hr
    refine ⟨_, pss_cons (ps_set (i := 2) sc_Hand_suspect.nd rfl (by first | exact Or.inl rfl | exact Or.inr rfl) (pe_callB call_len_seq (by rfl) (fr_len A.kin A.ns A.d) (by decide +kernel) (pa_cons (pe_Hand_history A.d (pv 0)) pa_nil)))
      (pss_cons (ps_Hand_feared A.d (pv 0) (pe_op op_and (pv 1) (pe_un un_inv (pe_op op_shl pe_int (pe_Hand_me A.d (pv 0))))))
      (pss_cons (ps_expr ((ok_Hand_settle A (cs := cs) (ms := ms) (T := T) (B := B)).pe0 hr pass0 (pv 0)))
      (pss_one (ps_ret (pe_slice sl_list (pe_Hand_history A.d (pv 0)) (po_some (pv 2)) po_none))))), ?_⟩
    have hev := ho.evl
    have m0 := ho.me0
    have m62 := ho.me62
    refine ⟨_, rfl, h, D.dx, _, rfl, ho.c.ins, D.hist, _, rfl, .inl (SqL.of ho.c.hist), ?_⟩
    refine ⟨_, rfl, _, rfl, h, D.dx, _, rfl, ho.c.ins, _, _, rfl, rfl, ⟨m0, by show D.me ≤ 1000000; omega, by decide⟩, _, rfl, _, _, rfl, rfl, _, rfl, h, D.dx, _, rfl, ho.c.ins, ?_⟩
    obtain ⟨h1, m1⟩ := ho.flags (CT := CT) (D' := { D with feared := Builtin.bitAnd hs (Builtin.bitNot (1 * 2 ^ D.me.toNat)) }) rfl (by have := bit_off hs D.me.toNat; rwa [show ((D.me.toNat : Nat) : Int) = D.me by omega] at this) ho.wi0
    refine ⟨_, rfl, h, D.dx, _, rfl, h1.c.ins, by kernel_rfl, h, _, i, rfl, h1, m1.tab htb, hcs, hms, hB, fun D' i' H2 m2 h2 gr bd st => ?_⟩
    refine ⟨_, rfl, h, D'.dx, _, rfl, h2.c.ins, _, rfl, _, rfl, D'.hist, _, rfl, SqL.of h2.c.hist, fun q hq => ?_⟩
    have s3 := same_new (o := .lst (cutV (refsE D'.evs) (some ((refsE D.evs).length : Int)) none)) hq
    exact k (.ref q) D' i' _ ⟨q, rfl⟩ ((m1.trans m2).trans (Mv.same s3)) (h2.same s3) ⟨gr.me, gr.ev⟩ (h2.bdx (.of s3) bd) fun b => st (ho.bdx (ho.tr.extT m1.kt) b)
def spRenew (K : PySem.W.Frag) (CT : Addr × Addr) (cs : List Int) (ms : List Nm) (T : Int → Nm → Prop) (B : Nat) : Sp := fun vs H Q _ => ∃ h D x m, vs = [.ref h, .int m] ∧ HOK K cs ms T B H h D (some x) ∧ Tb CT H ∧ cs.length ≤ 60 ∧ ms.length ≤ 50 ∧ B ≤ 900000 ∧ spDeed K CT cs ms T B (B + 110) (isNew H) H h D (some x) Q
theorem fk_Hand_renew (A : All P w K mg base CT) {cs : List Int}: ∃ fd, FunD K d_Hand_renew.name d_Hand_renew.qual (defArgs s_Hand_renew) (defBody s_Hand_renew) (defScope s_Hand_renew) (d_Hand_renew.dvs K) [] (He.fAd K ("Hand", some "renew")) fd ∧ FnOk P w K mg base CX0 11 (He.fAd K ("Hand", some "renew")) fd ["self", "more"] (ex3 (spRenew K CT cs)) := by
  obtain ⟨fd, F⟩ := fu_Hand_renew A.d
  refine ⟨fd, F, FunD.ok0 F sc_Hand_renew (fun vs H Q E h => ?_) (fun cdv A0 outer s H vs Q E hr h => ?_)⟩
  · obtain ⟨ms, T, B, h, D, x, m, rfl, ho, htb, hcs, hms, hB, k⟩ := h
    rfl
  · obtain ⟨ms, T, B, h, D, x, m, rfl, ho, htb, hcs, hms, hB, k⟩ := h
    have hu := hu_of hr
    refine ⟨_, pss_cons (ps_if (pt_cmpR op_isN (pe_Hand_page A.d (pv 0)) pe_non (nomark _)) (pss_one ps_never) pss_nil)
      (pss_cons (ps_set (i := 2) sc_Hand_renew.nd rfl (by first | exact Or.inl rfl | exact Or.inr rfl) (pe_callB call_len_seq (by rfl) (fr_len A.kin A.ns A.d) (by decide +kernel) (pa_cons (pe_Hand_history A.d (pv 0)) pa_nil)))
      (pss_cons (ps_expr ((ok_Change_begin A (cs := cs) (n := D.number) (ms := ms) (B := B)).pe hr pass0 (pe_Hand_change A.d (pv 0)) (pa_cons (pv 1) (pa_cons ((ok_Page_report A (cs := cs) (ms := ms)).pe hr pass0 (pe_Hand_page A.d (pv 0)) (pa_cons (pe_Hand_leaving A.d (pv 0)) pa_nil)) pa_nil))))
      (pss_cons (ps_expr ((ok_Hand_settle A (cs := cs) (ms := ms) (T := T) (B := B)).pe0 hr pass0 (pv 0)))
      (pss_one (ps_ret (pe_slice sl_list (pe_Hand_history A.d (pv 0)) (po_some (pv 2)) po_none)))))), ?_⟩
    have hev := ho.evl
    have o : InOK K cs ms T B H D x := ho.inn
    have hos := o.os
    have hme : x.S.me = D.me := o.me
    have m0 := ho.me0
    have m62 := ho.me62
    refine ⟨_, rfl, h, D.dx, _, rfl, ho.c.ins, rfl, _, rfl, ite2 (fun e => (isn_ref o.pv e).elim) (fun _ => ?_)⟩
    refine ⟨_, rfl, h, D.dx, _, rfl, ho.c.ins, D.hist, _, rfl, .inl (SqL.of ho.c.hist), ?_⟩
    refine ⟨_, rfl, h, D.dx, _, rfl, ho.c.ins, x.c, x.C.dx, _, o.cv, o.ch.ins, by kernel_rfl, _, rfl, _, rfl, h, D.dx, _, rfl, ho.c.ins, x.p, x.S.dx, _, o.pv, o.pg.ins, by kernel_rfl, _, rfl, h, D.dx, _, rfl, ho.c.ins, x.p, x.S, D.leaving, vs1 o.pv, o.pg, hcs, by omega, by omega, by omega, by omega, fun t R H1 ht s1 hR hRo hRl => ?_⟩
    have ho1 := ho.same s1
    have o1 : InOK K cs ms T B H1 D x := ho1.inn
    refine ⟨x.c, x.C, m, .ref t, vs1 o.cv, o1.ch, by rw [o.cme]; exact ho.me, ⟨t, R, rfl, hR, by rw [← o.num]; exact hRo, by omega⟩, fun C' H2 kp2 hc2 sm hrd => ?_⟩
    obtain ⟨ho2, mv2⟩ := ho1.chg (CT := CT) (kp2.mono (by simp)) hc2 sm (.inr hrd)
    refine ⟨_, rfl, h, D.dx, _, rfl, ho2.c.ins, by kernel_rfl, h, D, _, rfl, ho2, mv2.tab (htb.ext s1), hcs, hms, hB, fun D' i' H3 m3 h3 gr bd _ => ?_⟩
    refine ⟨_, rfl, h, D'.dx, _, rfl, h3.c.ins, _, rfl, _, rfl, D'.hist, _, rfl, SqL.of h3.c.hist, fun q hq => ?_⟩
    have s4 := same_new (o := .lst (cutV (refsE D'.evs) (some ((refsE D.evs).length : Int)) none)) hq
    exact k (.ref q) D' i' _ ⟨q, rfl⟩ (((Mv.same s1).trans (mv2.trans m3)).trans (Mv.same s4)) (h3.same s4) gr fun _ => h3.bdx (.of s4) bd
theorem ok_Hand_renew_1 (A : All P w K mg base CT) {cs : List Int}: MOk P w K mg base CX0 11 (He.ga K "Hand") "renew" ["self", "more"] [.int 1] (ex3 (spRenew K CT cs)) := by
  obtain ⟨fd, F, ok⟩ := fk_Hand_renew A (cs := cs)
  obtain ⟨ds, v, b⟩ := F.binds1 (ps := ["self", "more"]) 1 0 (fun z => nomatch z) rfl (fun T kV doc pm an cdv ct us its h1 h2 => match us, its, h1, h2 with | [_], [_], _, _ => ⟨_, rfl, rfl⟩)
  exact ⟨cl_Hand A.d, _, fd, ds, ok, me_Hand_renew A.d, b, v⟩
theorem ok_Hand_renew (A : All P w K mg base CT) {cs : List Int}: MOk P w K mg base CX0 11 (He.ga K "Hand") "renew" ["self", "more"] [] (ex3 (spRenew K CT cs)) := by
  obtain ⟨fd, F, ok⟩ := fk_Hand_renew A (cs := cs)
  obtain ⟨ds, v, b⟩ := F.binds1 (ps := ["self", "more"]) 2 1 (fun z => nomatch z) rfl (fun T kV doc pm an cdv ct us its h1 h2 => match us, its, h1, h2 with | [_, _], [_], _, _ => ⟨_, rfl, rfl⟩)
  exact ⟨cl_Hand A.d, _, fd, ds, ok, me_Hand_renew A.d, b, v⟩

end
end G
namespace G
open PySem PySem.Spec L2
open PyProof.Rows hiding St
section
variable {P : Program} {w : World} {K : PySem.W.Frag} {mg : Str → Option Value} {base : Heap} {CT : Addr × Addr}
/-! ### a call, a letter -/
def spCall (K : PySem.W.Frag) (CT : Addr × Addr) (cs : List Int) (ms : List Nm) (T : Int → Nm → Prop) (B : Nat) : Sp := fun vs H Q E => ∃ h D i kd w, vs = [.ref h, .str (kdS kd), .int w] ∧ HOK K cs ms T B H h D i ∧ w.natAbs < 10 ^ 60 ∧ cs.length ≤ 60 ∧ ms.length ≤ 50 ∧ B ≤ 900000 ∧
  (∀ q nm D' x' H', nm ∉ ms → nm.2.1 = D.me → H' q = some (.tup (nmV nm)) → Mv CT (foot h D i) (foot h D' (some x')) H H' → HOK K cs (ms ++ [nm]) T (B + 110) H' h D' (some x') → Gr D D' → (Bd H i → Bd H' (some x')) → Q (.ref q) H') ∧ ∀ y ∈ errs, ∀ d H', Same H H' → E (.ref (He.ga K y)) d H'
theorem ok_Hand_call (A : All P w K mg base CT) {cs : List Int}: MOk P w K mg base (CX P w) 9 (He.ga K "Hand") "call" ["self", "kind", "word"] [] (ex3 (spCall K CT cs)) := by
  obtain ⟨fd, F⟩ := fu_Hand_call A.d
  refine ⟨cl_Hand A.d, _, fd, [], FunD.ok F sc_Hand_call (fun vs H Q E h => ?_) (fun cdv A0 outer s H vs Q E hr h => ?_), me_Hand_call A.d, F.bindsN fun _ _ _ _ _ _ us hl => match us, hl with | [_, _, _], _ => rfl, .nil⟩
  · obtain ⟨ms, T, B, h, D, i, kd, w, rfl, ho, hw, hcs, hms, hB, k, kE⟩ := h
    rfl
  · obtain ⟨ms, T, B, h, D, i, kd, w, rfl, ho, hw, hcs, hms, hB, k, kE⟩ := h
    have hu := hu_of hr
    refine ⟨_, pss_cons (ps_if (pt_cmpR op_isN (pe_Hand_page A.d (pv 0)) pe_non (nomark _)) (pss_one (ps_raise rfl (takes_of rfl rfl rfl rfl) (pmk_NotIn A))) pss_nil)
      (pss_cons (ps_if (pt_cmpR op_notN (pe_Change_ballot A.d (pe_Hand_change A.d (pv 0))) pe_non (nomark _)) (pss_one (ps_raise rfl (takes_of rfl rfl rfl rfl) (pmk_Stopped A hr (pa_cons (pe_Change_ballot A.d (pe_Hand_change A.d (pv 0))) pa_nil)))) pss_nil)
      (pss_cons (ps_expr ((ok_Hand_note A).pe hr pass0 (pv 0) (pa_cons ((ok_Page_utter A (cs := cs) (ms := ms)).pe hr (passes_call (takes_of rfl rfl rfl rfl) (fun _ _ _ _ h => h)) (pe_Hand_page A.d (pv 0)) (pa_cons (pv 1) (pa_cons (pv 2) pa_nil))) pa_nil)))
      (pss_one (ps_ret (pe_tup (pa_cons (pe_Hand_number A.d (pv 0)) (pa_cons (pe_Hand_me A.d (pv 0)) (pa_cons (pe_Page_made A.d (pe_Hand_page A.d (pv 0))) pa_nil)))))))), ?_⟩
    refine ⟨_, rfl, h, D.dx, _, rfl, ho.c.ins, rfl, _, rfl, ite2 (fun e => kE "NotIn" (by simp) _ _ (Same.refl _)) (fun e => ?_)⟩
    obtain ⟨x, rfl⟩ := ho.psome e
    have o : InOK K cs ms T B H D x := ho.inn
    have dj := o.djh ho.c
    obtain ⟨N0, hb0, hb3⟩ := ho.book
    have hb3 : N0 + x.S.past.length ≤ B := hb3
    have hev := ho.evl
    have hos := o.os
    refine ⟨_, rfl, h, D.dx, _, rfl, ho.c.ins, x.c, x.C.dx, _, o.cv, o.ch.ins, rfl, _, rfl, ite2 (fun e => ?_) (fun e => ?_)⟩
    · refine ⟨_, rfl, h, D.dx, _, rfl, ho.c.ins, x.c, x.C.dx, _, o.cv, o.ch.ins, (by show 1 ≤ 1000; decide), fun a ha => ⟨a, _, rfl, upd_same, fun dx hdx hne => ⟨rfl, dx, [("ballot", x.C.bal)], ?_⟩⟩⟩
      obtain ⟨g1, g2, g3, g4⟩ := stopped_heap ha hdx hne
      exact ⟨g1, g2, g3, kE "Stopped" (by simp) _ _ g4⟩
    have hnin : (x.S.num, x.S.me, x.S.made + 1) ∉ ms := fun z => by
      rw [o.num, o.me] at z
      have := (o.law.mn _).mp z
      omega
    have hm0 := o.law.m0
    refine ⟨_, rfl, h, D.dx, _, rfl, ho.c.ins, by kernel_rfl, _, rfl, h, D.dx, _, rfl, ho.c.ins, x.p, x.S.dx, _, o.pv, o.pg.ins, by kernel_rfl, _, rfl, _, rfl, x.p, x.S, kd, w, vs1 o.pv, o.pg, hw, hcs, by omega, by omega, by omega, hm0, by rw [o.me]; exact ho.me, hnin, fun q L row S' H1 y hq kp1 hy hp1 so fr hq1 hL1 => ?_, fun d H1 s1 => kE "Held" (by simp) d H1 s1⟩
    have kp1f : Kp (x.S.foot x.p) H H1 := kp1.mono fun b hb => by
      unfold Pg.foot
      simp only [List.mem_cons, List.not_mem_nil, or_false] at hb ⊢
      rcases hb with h | h | h | h | h <;> simp [h]
    have ex1 : Ext H H1 := Tr.ext (F := x.S.foot x.p) o.pg.tr kp1f
    have hd1 : HdC K H1 h D := ho.c.keepT (fun u z => kp1f _ u z dj.hF) (fun u z => kp1f _ u z dj.hiF) ex1
    have hhl := o.pg.hlen
    have hrow : row.length ≤ x.S.hd.length + 1 := by
      have := so.pass.len
      rwa [show ({ x.S with made := x.S.made + 1, hd := x.S.hd ++ [y] } : Pg).hd = x.S.hd ++ [y] from rfl, List.length_append] at this
    have hLl : L.length = row.length := by
      have := congrArg List.length so.lcd
      rwa [List.length_map, List.length_map] at this
    have nq : q ≠ D.hist := fun z => by rw [z, ho.c.hist] at hq; cases hq
    refine ⟨h, D, q, L, rfl, hd1, hq1, hL1, nq, by omega, by omega, fun r H2 kp2 hd2 htk hrl => ?_⟩
    have hfS := foot_step (S := x.S) (H := H) (p := x.p) so rfl rfl rfl rfl rfl fr
    have hp2 : PageAt K cs (ms ++ [(x.S.num, x.S.me, x.S.made + 1)]) H2 x.p S' := hp1.keep (fun b hb u z => kp2 b u z (notin1 fun e => by
        rw [e] at hb
        rcases hfS _ hb with z | z
        · exact dj.hiF z
        · exact nomatch (z.symm.trans ho.c.hist))) (kp2.ext fun z hz u hu => by
      rw [List.mem_singleton.mp hz, hd1.hist] at hu; cases hu; exact fun z => z)
    have hpast : S'.past.length = x.S.past.length + L.length := by
      rw [so.past, List.length_append, told_len]
    have hosl : S'.os.length ≤ x.S.os.length + (x.S.hd.length + 1) := by
      have := so.os
      rwa [show ({ x.S with made := x.S.made + 1, hd := x.S.hd ++ [y] } : Pg).hd = x.S.hd ++ [y] from rfl, List.length_append] at this
    have enm : (x.S.num, x.S.me, x.S.made + 1) = (D.number, D.me, x.S.made + 1) := by rw [o.num, o.me]
    have hyn : y.2.n = D.number ∧ y.2.c = D.me ∧ y.2.k = x.S.made + 1 := by
      rw [enm] at hy
      exact ⟨congrArg (fun z : Nm => z.1) hy, congrArg (fun z : Nm => z.2.1) hy, congrArg (fun z : Nm => z.2.2) hy⟩
    have l0 : Law (ms ++ [(x.S.num, x.S.me, x.S.made + 1)]) T D.me D.number D.hands (x.S.made + 1) (tks D.evs) x.S.kv (x.S.hd ++ [y]) x.S.T := by
      have l := o.law
      refine ⟨l.tt, fun k => ?_, by omega, l.tl, fun c k h1 h2 => (l.hk c k h1 h2).imp (fun z => by rw [List.map_append]; exact List.mem_append_left _ z) id, fun k h1 h2 => ?_⟩
      · rw [List.mem_append, l.mn, enm, List.mem_singleton]
        constructor
        · rintro (h | h)
          · omega
          · have : k = x.S.made + 1 := congrArg (fun z : Nm => z.2.2) h
            omega
        · intro h
          by_cases e : k ≤ x.S.made
          · exact .inl ⟨h.1, e⟩
          · exact .inr (by rw [show k = x.S.made + 1 by omega])
      · by_cases e : k ≤ x.S.made
        · exact (l.hm k h1 e).imp (fun z => by rw [List.map_append]; exact List.mem_append_left _ z) id
        · refine .inl ?_
          rw [List.map_append]
          refine List.mem_append_right _ ?_
          show _ ∈ [y.2.nm]
          rw [hy, enm, show k = x.S.made + 1 by omega]
          exact List.mem_cons_self
    have l1 := Law.step (tk' := tks (D.evs ++ r)) l0 so o.me o.hands (fun z hz => by
      have hz : z ∈ x.S.hd ++ [y] := hz
      rcases List.mem_append.mp hz with hz | hz
      · have := o.pg.gc z hz
        exact ⟨by rw [this.n, o.num], this.k⟩
      · rw [List.mem_singleton.mp hz]; exact ⟨hyn.1, by rw [hyn.2.2]; omega⟩) (by rw [tks_app, htk])
    obtain ⟨ho2, mv2⟩ := HOK.pag (CT := CT) (ms' := ms ++ [(x.S.num, x.S.me, x.S.made + 1)]) (B' := B + 110) (S' := S') (r := r) ho ((kp1f.mono fun b hb => List.mem_cons_of_mem _ hb).trans (kp2.mono (by simp))) hd2 hp2 so.me so.num so.hands hfS (by omega) (by omega) (by omega) (by omega) (fun z hz => by
      rw [htk] at hz
      rw [lcd_nm so.lcd] at hz
      obtain ⟨e, he, rfl⟩ := List.mem_map.mp hz
      have hz : e ∈ x.S.hd ++ [y] := so.pass.sub e he
      rcases List.mem_append.mp hz with hz | hz
      · exact ⟨by show e.2.n = _; rw [(o.pg.gc e hz).n, o.num], (o.pg.gc e hz).c⟩
      · rw [List.mem_singleton.mp hz]; exact ⟨hyn.1, by show y.2.c ∈ cs; rw [hyn.2.1]; exact ho.me⟩) (fun z hz => List.mem_append_left _ hz) (fun z hz e => by
      rcases List.mem_append.mp hz with hz | hz
      · exact ho.msn z hz e
      · rw [List.mem_singleton.mp hz, o.last]; show x.S.num ≤ _; rw [o.num]; exact Int.le_refl _) (by rw [so.made]; exact l1)
    refine ⟨_, rfl, h, D.dx, _, rfl, hd2.ins, _, rfl, h, D.dx, _, rfl, hd2.ins, _, rfl, h, D.dx, _, rfl, hd2.ins, x.p, S'.dx, _, o.pv, hp2.ins, (by show 3 ≤ sizeLine; decide), fun q2 hq2 => ?_⟩
    have s3 := same_new (o := .tup [.int D.number, .int D.me, .int S'.made]) hq2
    refine k q2 (x.S.num, x.S.me, x.S.made + 1) _ _ _ hnin o.me ?_ (mv2.trans (Mv.same s3)) (ho2.same s3) ⟨rfl, r, rfl⟩ (fun b => fun y ey => by
        cases ey
        exact ho.bdx ((ho.tr.extT mv2.kt).trans (.of s3)) b x rfl)
    rw [enm]
    show upd H2 q2 (.tup [.int D.number, .int D.me, .int S'.made]) q2 = _
    rw [upd_same, so.made]; rfl
structure Lt where
  me : Int
  n : Int
  hands : Int
  way : Addr
  pages : Addr
  piece : Addr
  msg : Addr
  c : Pc
  M : Ms
structure LtOK (cs : List Int) (ms : List Nm) (T : Int → Nm → Prop) (B : Nat) (H : Hp) (t : Addr) (l : Lt) : Prop where
  tup : H t = some (.tup [.str "in", .int l.me, .int l.n, .int l.hands, .ref l.way, .ref l.pages, .ref l.piece, .ref l.msg])
  me : l.me ∈ cs
  h0 : 0 ≤ l.hands
  way : WayOK cs l.n ms H l.way
  book : BookOK B H l.pages
  pc : PcAt cs H l.piece l.c
  gc : ∀ x ∈ l.c.told, GC cs l.n ms x.2
  os : l.c.os.length ≤ B
  tl : ∀ e ∈ l.c.LT, ∀ c k, 1 ≤ k → k ≤ cnt (LE.lc e) c → T e.2.1 (l.n, c, k)
  ms : MsAt cs l.n ms B H l.msg l.M
def AwOK (cs : List Int) (ms : List Nm) (H : Hp) (t : Addr) (me : Int) (w : Bool) (g : V) : Prop := H t = some (.tup [.str "away", .int me, .bl w, g]) ∧ me ∈ cs ∧ GoneOK cs ms H g
def LetOK (cs : List Int) (ms : List Nm) (T : Int → Nm → Prop) (B : Nat) (H : Hp) (t : Addr) : Prop := (∃ me w g, AwOK cs ms H t me w g) ∨ ∃ l, LtOK cs ms T B H t l
section
variable {cs : List Int} {ms ms' : List Nm} {T T' : Int → Nm → Prop} {B B' : Nat} {H H1 : Hp} {t : Addr} {l : Lt}
theorem LtOK.ext (h : LtOK cs ms T B H t l) (x : Ext H H1) : LtOK cs ms T B H1 t l := ⟨x _ _ h.tup trivial, h.me, h.h0, h.way.ext x, h.book.ext x, h.pc.ext x, h.gc, h.os, h.tl, h.ms.ext x⟩
theorem LtOK.mono (h : LtOK cs ms T B H t l) (s : ∀ x ∈ ms, x ∈ ms') (hB : B ≤ B') (hT : ∀ g x, T g x → T' g x) : LtOK cs ms' T' B' H t l := ⟨h.tup, h.me, h.h0, h.way.mono s, h.book.mono hB, h.pc, fun x hx => (h.gc x hx).mono s, Nat.le_trans h.os hB, fun e he c k h1 h2 => hT _ _ (h.tl e he c k h1 h2), h.ms.mono s hB⟩
theorem AwOK.ext {me : Int} {w : Bool} {g : V} (h : AwOK cs ms H t me w g) (x : Ext H H1) : AwOK cs ms H1 t me w g := ⟨x _ _ h.1 trivial, h.2.1, h.2.2.ext x⟩
theorem LetOK.ext (h : LetOK cs ms T B H t) (x : Ext H H1) : LetOK cs ms T B H1 t := h.imp (fun ⟨me, w, g, z⟩ => ⟨me, w, g, z.ext x⟩) fun ⟨l, z⟩ => ⟨l, z.ext x⟩
theorem LetOK.mono (h : LetOK cs ms T B H t) (s : ∀ x ∈ ms, x ∈ ms') (hB : B ≤ B') (hT : ∀ g x, T g x → T' g x) : LetOK cs ms' T' B' H t := h.imp (fun ⟨me, w, g, z1, z2, z3⟩ => ⟨me, w, g, z1, z2, z3.mono s⟩) fun ⟨l, z⟩ => ⟨l, z.mono s hB hT⟩
end
def spLetter (K : PySem.W.Frag) (cs : List Int) (ms : List Nm) (T : Int → Nm → Prop) (B : Nat) : Sp := fun vs H Q _ => ∃ h D i sk mv, vs = [.ref h, .int sk, mv] ∧ (mv = .non ∨ ∃ i, mv = .int i) ∧ HOK K cs ms T B H h D i ∧ (∀ x ∈ tks D.evs, T D.me x) ∧ cs.length ≤ 60 ∧ ms.length ≤ 50 ∧ B ≤ 900000 ∧
  ∀ t H', H t = none → Same H H' → LetOK cs ms T B H' t → Q (.ref t) H'
theorem fk_Hand_letter (A : All P w K mg base CT) {cs : List Int}: ∃ fd, FunD K d_Hand_letter.name d_Hand_letter.qual (defArgs s_Hand_letter) (defBody s_Hand_letter) (defScope s_Hand_letter) (d_Hand_letter.dvs K) [] (He.fAd K ("Hand", some "letter")) fd ∧ FnOk P w K mg base CX0 6 (He.fAd K ("Hand", some "letter")) fd ["self", "skip", "many"] (ex3 (spLetter K cs)) := by
  obtain ⟨fd, F⟩ := fu_Hand_letter A.d
  refine ⟨fd, F, FunD.ok0 F sc_Hand_letter (fun vs H Q E h => ?_) (fun cdv A0 outer s H vs Q E hr h => ?_)⟩
  · obtain ⟨ms, T, B, h, D, i, sk, mv, rfl, hmv, ho, hT, hcs, hms, hB, k⟩ := h
    rfl
  · obtain ⟨ms, T, B, h, D, i, sk, mv, rfl, hmv, ho, hT, hcs, hms, hB, k⟩ := h
    have hu := hu_of hr
    refine ⟨_, pss_cons (ps_if (pt_cmpR op_isN (pe_Hand_page A.d (pv 0)) pe_non (nomark _)) (pss_one (ps_ret (pe_tup (pa_cons pe_str (pa_cons (pe_Hand_me A.d (pv 0)) (pa_cons (pe_Hand_wishing A.d (pv 0)) (pa_cons (pe_Hand_gone A.d (pv 0)) pa_nil))))))) pss_nil)
      (pss_cons (ps_set (i := 3) sc_Hand_letter.nd rfl (by first | exact Or.inl rfl | exact Or.inr rfl) pe_non)
      (pss_cons (ps_cut (ps_if (pt_cmpR op_notN (pe_Change_ballot A.d (pe_Hand_change A.d (pv 0))) pe_non (nomark _)) (pss_one (ps_set (i := 3) sc_Hand_letter.nd rfl (by first | exact Or.inl rfl | exact Or.inr rfl) ((ok_Page_report A (cs := cs) (ms := ms)).pe hr pass0 (pe_Hand_page A.d (pv 0)) (pa_cons (pe_Hand_leaving A.d (pv 0)) pa_nil)))) pss_nil))
      (pss_cons (ps_set (i := 4) sc_Hand_letter.nd rfl (by first | exact Or.inl rfl | exact Or.inr rfl) (pe_tup (pa_cons pe_str (pa_cons (pe_Hand_me A.d (pv 0)) (pa_cons (pe_Hand_number A.d (pv 0)) (pa_cons (pe_Hand_hands A.d (pv 0)) pa_nil))))))
      (pss_one (ps_ret (pe_op op_catA (pv 4) (pe_tup (pa_cons (pe_Hand_way A.d (pv 0)) (pa_cons (pe_Hand_pages A.d (pv 0)) (pa_cons ((ok_Page_piece A (cs := cs) (ms := ms)).pe hr pass0 (pe_Hand_page A.d (pv 0)) (pa_cons (pv 1) (pa_cons (pv 2) pa_nil))) (pa_cons ((ok_Change_message A (cs := cs) (n := D.number) (ms := ms) (B := B)).pe hr pass0 (pe_Hand_change A.d (pv 0)) (pa_cons (pv 3) pa_nil)) pa_nil))))))))))), ?_⟩
    refine ⟨_, rfl, h, D.dx, _, rfl, ho.c.ins, rfl, _, rfl, ite2 (fun e => ?_) (fun e => ?_)⟩
    · refine ⟨_, rfl, h, D.dx, _, rfl, ho.c.ins, _, rfl, h, D.dx, _, rfl, ho.c.ins, _, rfl, h, D.dx, _, rfl, ho.c.ins, (by show 4 ≤ sizeLine; decide), fun t ht => ?_⟩
      have s1 := same_new (o := .tup [.str "away", .int D.me, .bl D.wishing, D.gone]) ht
      exact k t _ ht s1 (.inl ⟨D.me, D.wishing, D.gone, upd_same, ho.me, ho.gone.ext (.of s1)⟩)
    obtain ⟨x, rfl⟩ := ho.psome e
    have o : InOK K cs ms T B H D x := ho.inn
    have hos := o.os
    have hme : x.S.me = D.me := o.me
    have m0 := ho.me0
    have m62 := ho.me62
    refine ⟨fun σ' H' => ∃ rv, σ' = [some (.ref h), some (.int sk), some mv, some rv, none] ∧ Same H H' ∧ (x.C.bal ≠ .non → RepV cs D.number ms B H' rv), ?_, ?_⟩
    · refine ⟨_, rfl, h, D.dx, _, rfl, ho.c.ins, x.c, x.C.dx, _, o.cv, o.ch.ins, rfl, _, rfl, ite2 (fun e => ?_) (fun e => ?_)⟩
      · refine ⟨_, rfl, h, D.dx, _, rfl, ho.c.ins, x.p, x.S.dx, _, o.pv, o.pg.ins, by kernel_rfl, _, rfl, h, D.dx, _, rfl, ho.c.ins, x.p, x.S, D.leaving, vs1 o.pv, o.pg, hcs, by omega, by omega, by omega, by omega, fun t R H1 ht s1 hR hRo hRl => ?_⟩
        exact ⟨.ref t, rfl, s1, fun _ => ⟨t, R, rfl, hR, by rw [← o.num]; exact hRo, by omega⟩⟩
      · refine ⟨.non, rfl, Same.refl _, fun z => absurd ?_ e⟩
        show (!decide (x.C.bal = .non)) = true
        rw [decide_eq_false z]; rfl
    · rintro σ1 H1 ⟨rv, rfl, s1, hrv⟩
      have ho1 := ho.same s1
      refine ⟨_, rfl, h, D.dx, _, rfl, ho1.c.ins, _, rfl, h, D.dx, _, rfl, ho1.c.ins, _, rfl, h, D.dx, _, rfl, ho1.c.ins, (by show 4 ≤ sizeLine; decide), fun u hu => ?_⟩
      have s2 := same_new (o := .tup [.str "in", .int D.me, .int D.number, .int D.hands]) hu
      have ho2 := ho1.same s2
      have o2 : InOK K cs ms T B _ D x := ho2.inn
      refine ⟨_, rfl, _, rfl, h, D.dx, _, rfl, ho2.c.ins, _, rfl, h, D.dx, _, rfl, ho2.c.ins, _, rfl, h, D.dx, _, rfl, ho2.c.ins, x.p, x.S.dx, _, o.pv, o2.pg.ins, by kernel_rfl, _, rfl, _, rfl, x.p, x.S, sk, mv, vs1 o.pv, hmv, o2.pg, hcs, by omega, by omega, fun t3 c H3 ht3 s3 hpc hgc htl hol hlt => ?_⟩
      have ho3 := ho2.same s3
      have o3 : InOK K cs ms T B H3 D x := ho3.inn
      refine ⟨_, rfl, h, D.dx, _, rfl, ho3.c.ins, x.c, x.C.dx, _, o.cv, o3.ch.ins, by kernel_rfl, _, rfl, x.c, x.C, rv, vs1 o.cv, o3.ch, by rw [o.cme]; exact ho.me, fun z => (hrv z).ext (.of (s2.trans s3)), fun t4 M H4 ht4 s4 hM => ?_⟩
      refine ⟨(by show 4 ≤ sizeLine; decide), fun t5 ht5 => ?_⟩
      have s5 := same_new (o := .tup [.ref D.wA, .ref D.pgs, .ref t3, .ref t4]) ht5
      have s25 := (s3.trans s4).trans s5
      refine ⟨u, t5, _, _, rfl, rfl, SqT.of (s25 _ _ upd_same), SqT.of upd_same, (by show 8 ≤ sizeLine; decide), (fun z => nomatch z), (fun _ z => nomatch z), fun _ _ t6 ht6 => ?_⟩
      have s6 := same_new (o := .tup ([.str "in", .int D.me, .int D.number, .int D.hands] ++ [.ref D.wA, .ref D.pgs, .ref t3, .ref t4])) ht6
      have sall := (s1.trans s2).trans (s25.trans s6)
      have e36 : Ext H3 _ := .of ((s4.trans s5).trans s6)
      obtain ⟨N0, hb0, hb3⟩ := ho.book
      refine k t6 _ (((s1.trans s2).trans s25).free ht6) sall (.inr ⟨⟨D.me, D.number, D.hands, D.wA, D.pgs, t3, t4, c, M⟩, upd_same, ho.me, ho.h0, o.way.ext (.of sall), (hb0.ext (.of sall)).mono (by have hb3 : N0 + x.S.past.length ≤ B := hb3; omega), hpc.ext e36, fun y hy => by rw [← o.num]; exact hgc y hy, Nat.le_trans hol hos, fun e he c' k' h1 h2 => ?_, hM.ext (.of (s5.trans s6))⟩)
      obtain ⟨g1, g2⟩ := hlt e he
      rw [g2 c'] at h2
      rw [o.hands] at g1
      have := o.law.tl _ g1 c' k' h1 h2
      by_cases e2 : e.2.1 = D.me
      · rw [if_pos e2] at this
        show T e.2.1 (D.number, c', k')
        rw [e2]
        exact hT _ ((o.law.tt c' k').mpr ⟨h1, this⟩)
      · rw [if_neg e2] at this; exact this
theorem ok_Hand_letter_1 (A : All P w K mg base CT) {cs : List Int}: MOk P w K mg base CX0 6 (He.ga K "Hand") "letter" ["self", "skip", "many"] [.int 0, .non] (ex3 (spLetter K cs)) := by
  obtain ⟨fd, F, ok⟩ := fk_Hand_letter A (cs := cs)
  obtain ⟨ds, v, b⟩ := F.binds1 (ps := ["self", "skip", "many"]) 1 0 (fun z => nomatch z) rfl (fun T kV doc pm an cdv ct us its h1 h2 => match us, its, h1, h2 with | [_], [_, _], _, _ => ⟨_, rfl, rfl⟩)
  exact ⟨cl_Hand A.d, _, fd, ds, ok, me_Hand_letter A.d, b, v⟩
theorem ok_Hand_letter (A : All P w K mg base CT) {cs : List Int}: MOk P w K mg base CX0 6 (He.ga K "Hand") "letter" ["self", "skip", "many"] [] (ex3 (spLetter K cs)) := by
  obtain ⟨fd, F, ok⟩ := fk_Hand_letter A (cs := cs)
  obtain ⟨ds, v, b⟩ := F.binds1 (ps := ["self", "skip", "many"]) 3 2 (fun z => nomatch z) rfl (fun T kV doc pm an cdv ct us its h1 h2 => match us, its, h1, h2 with | [_, _, _], [_, _], _, _ => ⟨_, rfl, rfl⟩)
  exact ⟨cl_Hand A.d, _, fd, ds, ok, me_Hand_letter A.d, b, v⟩

end
end G
namespace G
open PySem PySem.Spec L2
open PyProof.Rows hiding St
section
variable {P : Program} {w : World} {K : PySem.W.Frag} {mg : Str → Option Value} {base : Heap} {CT : Addr × Addr}
/-! ### hearing -/
theorem putK_len {κ : Type} [DecidableEq κ] (kvs : List (κ × V)) (k : κ) (v : V) : (putK kvs k v).length ≤ kvs.length + 1 := by
  unfold putK
  split
  · rw [List.length_map]; exact Nat.le_succ _
  · rw [List.length_append]; exact Nat.le_refl _
def spLacking (K : PySem.W.Frag) : Sp := fun vs H Q _ => ∃ a b evs rs, vs = [.ref a, .ref b] ∧ H a = some (.lst (refsE evs)) ∧ ElAt H evs ∧ H b = some (.tup (refsC rs)) ∧ RowsAt H rs ∧ evs.length ≤ 1000000 ∧ rs.length ≤ 1000000 ∧ ∀ q H', H q = none → Same H H' → Q (.ref q) H'
theorem ok_lacking (A : All P w K mg base CT) : DOk P w K mg base CX0 1 "lacking" ["events", "book"] [] (spLacking K) := by
  obtain ⟨fd, F⟩ := fu_lacking A.d
  refine ⟨_, fd, [], FunD.ok0 F sc_lacking (fun vs H Q E h => ?_) (fun cdv A0 outer s H vs Q E hr h => ?_), gl_lacking A.kin A.ns A.d, F.kp, F.bindsN fun _ _ _ _ _ _ us hl => match us, hl with | [_, _], _ => rfl, .nil⟩
  · obtain ⟨a, b, evs, rs, rfl, ha, hev, hb, hrs, hl1, hl2, k⟩ := h
    rfl
  · obtain ⟨a, b, evs, rs, rfl, ha, hev, hb, hrs, hl1, hl2, k⟩ := h
    have hu := hu_of hr
    refine ⟨_, pss_cons (ps_set (i := 2) sc_lacking.nd rfl (by first | exact Or.inl rfl | exact Or.inr rfl) pe_dnewT)
      (pss_cons (ps_for PassesOwn.never rfl (pi_tup (pv 1)) (pg_name (i := 3) sc_lacking.nd rfl (by first | exact Or.inl rfl | exact Or.inr rfl)) (pss_one (ps_dput hu (pv 2) (pe_slice sl_tup (pv 3) po_none (po_some pe_int)) pe_bl rfl)))
      (pss_one (ps_ret (pe_lc (own := [("event", 4)]) (g := gName 4) rfl sc_lacking.nd (pi_list (pv 0)) (blkOk_by (N := ["events", "book", "told", "row", "event"]) (sc := defScope s_lacking) (by decide +kernel)) (fun _ _ _ _ _ => pg_name (i := 4) sc_lacking.nd rfl (Or.inl rfl)) (fun _ _ _ _ _ => (pts_one (PW.pt (pw_and (pt_cmpR op_eq (pe_ix (ix_tupK (K := K)) (pv 4) pe_int (fun _ _ => rfl)) pe_str (nomark _)) (pw_and1 (pt_cmp (pc_dnotin hu (pe_ix (ix_tupK (K := K)) (pv 4) pe_int (fun _ _ => rfl)) (pv 2)))))))) (fun _ _ _ _ _ => (pe_ix (ix_tupK (K := K)) (pv 4) pe_int (fun _ _ => rfl))))))), ?_⟩
    intro R hR
    have s0 : Same H (upd H R (.dT [])) := same_new hR
    refine ⟨_, rfl, b, rfl, ⟨_, SqT.of (s0 _ _ hb)⟩, for_tup (K := K) (a := b) (xs := refsC rs) (fun i σ' H' => ∃ v3 kvs, σ' = [some (.ref a), some (.ref b), some (.ref R), v3, none] ∧ Same H H' ∧ H' R = some (.dT kvs) ∧ kvs.length ≤ i) ⟨none, [], rfl, s0, upd_same, Nat.le_refl _⟩ (fun i σ' H' _ ⟨_, _, _, s, _⟩ => SqT.of (s _ _ hb)) ?_ ?_⟩
    · rintro i x σ1 H1 hx ⟨v3, kvs, rfl, s1, hR1, hki⟩
      obtain ⟨y, ey, rfl⟩ := refsC_get hx
      have hi := (List.getElem?_eq_some_iff.mp ey).1
      have hy := s1 _ _ (hrs y (List.mem_of_getElem? ey))
      refine ⟨_, rfl, _, rfl, _, rfl, y.1, _, rfl, SqT.of hy, fun zz => absurd zz.2 (by show ¬ (3 = 5); decide), fun t ht => ?_⟩
      have s2 : Same H1 (upd H1 t (.tup (cutV (RowV y.2) none (some 3)))) := same_new ht
      refine ⟨R, _, rfl, DPut.t (k := nmK y.2.nm) (s2 _ _ hR1) upd_same (small6 (by omega)), _, _, rfl, same_set (s1.trans s2) hR, upd_same, ?_⟩
      have := putK_len kvs (nmK y.2.nm) (.bl true)
      omega
    rintro σ1 H1 ⟨v3, kvs, rfl, s1, hR1, hki⟩
    refine ⟨_, rfl, a, rfl, ⟨_, SqL.of (s1 _ _ ha)⟩, fun D hD => lc_list (K := K) (a := a) (xs := refsE evs) (fun i H' => Same H1 H' ∧ ∃ l : List V, H' D = some (.lst l) ∧ l.length ≤ i) ⟨same_new hD, [], upd_same, Nat.le_refl _⟩ (fun i H' _ ⟨s2, _⟩ => SqL.of (s2 _ _ (s1 _ _ ha))) ?_ ?_⟩
    · rintro i x H2 hx ⟨s2, l, h2, hli⟩
      obtain ⟨y, ey, rfl⟩ := refsE_get hx
      have hi := (List.getElem?_eq_some_iff.mp ey).1
      have he := (hev y (List.mem_of_getElem? ey)).ext (.of (s1.trans s2))
      have skip : Same H1 H2 ∧ ∃ l : List V, H2 D = some (.lst l) ∧ l.length ≤ i + 1 := ⟨s2, l, h2, Nat.le_succ_of_le hli⟩
      obtain ⟨a0, e0⟩ := y
      cases e0 with
      | oth z =>
        obtain ⟨hz, rest, h3⟩ := he
        refine ⟨rfl, _, rfl, _, _, _, V.str z, rfl, rfl, SqT.of h3, atI_nat (j := 0) rfl, rfl, _, rfl, ?_⟩
        rw [show (decide (V.str z = V.str "take")) = false from decide_eq_false fun e => hz (by injection e)]
        exact skip
      | tk nm =>
        obtain ⟨q, rest, h3, h4⟩ := he
        refine ⟨rfl, _, rfl, _, _, _, V.str "take", rfl, rfl, SqT.of h3, atI_nat (j := 0) rfl, rfl, _, rfl, ?_⟩
        rw [show (decide (V.str "take" = V.str "take")) = true from decide_eq_true rfl]
        refine ⟨_, rfl, _, _, _, V.ref q, rfl, rfl, SqT.of h3, atI_nat (j := 1) rfl, _, rfl, R, _, rfl, DGet.t (k := nmK nm) (s2 _ _ hR1) h4, _, rfl, ?_⟩
        cases (valV kvs (nmK nm)) with
        | some _ => exact skip
        | none => exact ⟨_, rfl, _, _, _, V.ref q, rfl, rfl, SqT.of h3, atI_nat (j := 1) rfl, _, h2, small6 (by omega), same_set s2 hD, _, upd_same, by rw [List.length_append]; exact Nat.add_le_add_right hli 1⟩
    · rintro H2 ⟨s2, _⟩
      exact k D H2 (s1.free hD) (s1.trans s2)
theorem HOK.outd {cs : List Int} {ms : List Nm} {T : Int → Nm → Prop} {B B' : Nat} {H H2 : Hp} {h a : Addr} {y : Str} {D : Hd} {i : Option In} {CT : Addr × Addr} (ho : HOK K cs ms T B H h D i) (kp : Kp [h, D.hist] H H2) (hd : HdC K H2 h { D with pv := .non, cv := .non, leaving := false, evs := D.evs ++ [(a, Ev.oth y)] }) (hB : B + 1 ≤ B') :
    HOK K cs ms T B' H2 h { D with pv := .non, cv := .non, leaving := false, evs := D.evs ++ [(a, Ev.oth y)] } none ∧ Mv CT (foot h D i) (foot h { D with pv := .non, cv := .non, leaving := false, evs := D.evs ++ [(a, Ev.oth y)] } none) H H2 := by
  have ex := ho.c.ext2 kp
  obtain ⟨N, hb1, hb2⟩ := ho.book
  have sub2 : ∀ b ∈ [h, D.hist], b ∈ foot h D i := fun b hb => by
    rcases List.mem_cons.mp hb with e | hb
    · rw [e]; exact List.mem_cons_self
    · rw [List.mem_singleton.mp hb]; exact List.mem_cons_of_mem _ List.mem_cons_self
  refine ⟨⟨hd, ho.me, ho.me0, ho.me62, (fun z hz => by
    have hz : z ∈ tks (D.evs ++ [(a, Ev.oth y)]) := hz
    rw [tks_app, tks_oth, List.append_nil] at hz
    exact ho.tkc z hz), ho.fe, ho.h0, ho.wi0, ⟨N, hb1.ext ex, by show N + 0 ≤ _; omega⟩, ?_, ho.gone.ext ex, fun z hz => ?_, ho.msn, ⟨rfl, rfl⟩⟩, Mv.of ho.tr (kp.mono sub2) fun b hb => .inl (sub2 b hb)⟩
  · show (D.evs ++ [(a, Ev.oth y)]).length ≤ B'
    rw [List.length_append]
    have := ho.evl
    show D.evs.length + 1 ≤ B'; omega
  · have hz : z ∈ tks (D.evs ++ [(a, Ev.oth y)]) := hz
    rw [tks_app, tks_oth, List.append_nil] at hz
    exact ho.tkn z hz
theorem num_eq {a b : Int} (h : decide (V.int a = V.int b) = true) : a = b := by
  rw [decV] at h
  exact of_decide_eq_true h
def spHearAway (K : PySem.W.Frag) (CT : Addr × Addr) (cs : List Int) (ms : List Nm) (T : Int → Nm → Prop) (B : Nat) : Sp := fun vs H Q _ => ∃ h D i t me w g, vs = [.ref h, .ref t] ∧ HOK K cs ms T B H h D i ∧ AwOK cs ms H t me w g ∧ 0 ≤ me ∧ me ≤ 62 ∧ cs.length ≤ 60 ∧ ms.length ≤ 50 ∧ B ≤ 900000 ∧ spDeed K CT cs ms T B (B + 110) (fun _ _ => True) H h D i Q
theorem ok_Hand_hear_away (A : All P w K mg base CT) {cs : List Int} {ms : List Nm} {T : Int → Nm → Prop} {B : Nat}: MOk P w K mg base CX0 9 (He.ga K "Hand") "hear_away" ["self", "letter"] [] (spHearAway K CT cs ms T B) := by
  obtain ⟨fd, F⟩ := fu_Hand_hear_away A.d
  refine ⟨cl_Hand A.d, _, fd, [], FunD.ok0 F sc_Hand_hear_away (fun vs H Q E h => ?_) (fun cdv A0 outer s H vs Q E hr h => ?_), me_Hand_hear_away A.d, F.bindsN fun _ _ _ _ _ _ us hl => match us, hl with | [_, _], _ => rfl, .nil⟩
  · obtain ⟨h, D, i, t, me, w, g, rfl, ho, ⟨hl, hme, hg⟩, m0, m62, hcs, hms, hB, k⟩ := h
    rfl
  · obtain ⟨h, D, i, t, me, w, g, rfl, ho, ⟨hl, hme, hg⟩, m0, m62, hcs, hms, hB, k⟩ := h
    have hu := hu_of hr
    refine ⟨_, pss_cons (ps_set (i := 2) sc_Hand_hear_away.nd rfl (by first | exact Or.inl rfl | exact Or.inr rfl) (pe_ix ix_tup (pv 1) pe_int (fun _ _ => rfl)))
      (pss_cons (ps_cut (ps_if (PW.pt (pw_and (pt_cmpR op_notN (pv 2) pe_non (nomark _)) (pw_and (pt_cmpR op_notN (pe_Hand_page A.d (pv 0)) pe_non (nomark _)) (pw_and1 (pt_cmpR op_eq (pe_ix ix_tup (pv 2) pe_int (fun _ _ => rfl)) (pe_Hand_number A.d (pv 0)) (nomark _)))))) (pss_one (ps_expr ((ok_Hand_go_by A (cs := cs) (ms := ms) (T := T) (B := B)).pe hr pass0 (pv 0) (pa_cons (pe_ix ix_tup (pv 2) pe_int (fun _ _ => rfl)) pa_nil)))) pss_nil))
      (pss_one (ps_if (PW.pt (pw_and (pt_val (pe_ix ix_tup (pv 1) pe_int (fun _ _ => rfl))) (pw_and (pt_cmpR op_notN (pe_Hand_page A.d (pv 0)) pe_non (nomark _)) (pw_and1 (pt_not (pt_val ((ok_has A).pe hr pass0 (pa_cons (pe_Hand_hands A.d (pv 0)) (pa_cons (pe_ix ix_tup (pv 1) pe_int (fun _ _ => rfl)) pa_nil))))))))) (pss_one (ps_Hand_wished A.d (pv 0) (pe_op op_or (pe_Hand_wished A.d (pv 0)) (pe_op op_shl pe_int (pe_ix ix_tup (pv 1) pe_int (fun _ _ => rfl)))))) pss_nil))), ?_⟩
    refine ⟨_, rfl, _, _, _, _, rfl, rfl, SqT.of hl, rfl, ?_⟩
    refine ⟨fun σ' H' => ∃ D1 i1, σ' = [some (.ref h), some (.ref t), some g] ∧ Mv CT (foot h D i) (foot h D1 i1) H H' ∧ HOK K cs ms T (B + 110) H' h D1 i1 ∧ Gr D D1 ∧ (Bd H i → Bd H' i1), ?_, ?_⟩
    · have skip : ∃ D1 i1, ([some (.ref h), some (.ref t), some g] : L2.St) = [some (.ref h), some (.ref t), some g] ∧ Mv CT (foot h D i) (foot h D1 i1) H H ∧ HOK K cs ms T (B + 110) H h D1 i1 ∧ Gr D D1 ∧ (Bd H i → Bd H i1) := ⟨D, i, rfl, .refl, ho.up (by omega), .refl, fun b => b⟩
      refine ⟨_, rfl, rfl, _, rfl, ?_⟩
      rcases hg with rfl | ⟨ga, tp, n, c, rfl, h1, h2, h3⟩
      · exact iteF skip
      refine iteT ⟨_, rfl, h, D.dx, _, rfl, ho.c.ins, rfl, _, rfl, ite2 (fun e => ?_) (fun _ => skip)⟩
      cases i with
      | none =>
        have e : (!decide (D.pv = .non)) = true := e
        rw [(show D.pv = .non ∧ D.cv = .non from ho.inn).1] at e; cases e
      | some x =>
      refine ⟨_, rfl, _, _, _, _, rfl, rfl, SqT.of h1, rfl, _, rfl, h, D.dx, _, rfl, ho.c.ins, rfl, _, rfl, ite2 (fun e => ?_) (fun _ => skip)⟩
      have en := num_eq e
      refine ⟨_, rfl, h, D.dx, _, rfl, ho.c.ins, by kernel_rfl, _, rfl, _, _, _, _, rfl, rfl, SqT.of h1, rfl, h, D, x, tp, c, rfl, ho, h2, by rw [← en]; exact h3, hcs, hms, hB, fun D' i' H' mv h' gr _ bd => ⟨D', i', rfl, mv, h', gr, fun _ => bd⟩⟩
    · rintro σ1 H1 ⟨D1, i1, rfl, mv, h1, gr, bd⟩
      have hl1 := (ho.tr.extT mv.kt) _ _ hl trivial
      have fin : Q .non H1 := k .non D1 i1 H1 trivial mv h1 gr bd
      refine ⟨_, rfl, _, _, _, _, rfl, rfl, SqT.of hl1, rfl, _, rfl, ?_⟩
      cases w with
      | false => exact iteF fin
      | true =>
      refine iteT ⟨_, rfl, h, D1.dx, _, rfl, h1.c.ins, rfl, _, rfl, ite2 (fun _ => ?_) (fun _ => fin)⟩
      refine ⟨_, rfl, h, D1.dx, _, rfl, h1.c.ins, _, rfl, _, _, _, _, rfl, rfl, SqT.of hl1, rfl, D1.hands, me, rfl, m0, _, rfl, ite2 (fun _ => ?_) (fun _ => fin)⟩
      refine ⟨_, rfl, h, D1.dx, _, rfl, h1.c.ins, _, rfl, _, _, _, _, rfl, rfl, SqT.of hl1, rfl, _, _, rfl, rfl, ⟨m0, by omega, by decide⟩, _, _, rfl, rfl, _, rfl, h, D1.dx, _, rfl, h1.c.ins, ?_⟩
      obtain ⟨h2, m2⟩ := h1.flags (CT := CT) (D' := { D1 with wished := Builtin.bitOr D1.wished (1 * 2 ^ me.toNat) }) rfl h1.fe (or_nn h1.wi0 (by rw [Int.one_mul]; exact Int.le_of_lt (pw _)))
      exact k .non _ i1 _ trivial (mv.trans m2) h2 ⟨gr.me, gr.ev⟩ fun b => h1.bdx (h1.tr.extT m2.kt) (bd b)

end
end G
namespace G
open PySem PySem.Spec L2
open PyProof.Rows hiding St
section
variable {P : Program} {w : World} {K : PySem.W.Frag} {mg : Str → Option Value} {base : Heap} {CT : Addr × Addr}
/-! ### a letter of a list -/
theorem Law.listen {ms : List Nm} {T : Int → Nm → Prop} {me n hands made : Int} {tk : List Nm} {S S1 : Pg} {c : Pc} (l : Law ms T me n hands made tk S.kv S.hd S.T) (lo : LisOut S c S1) (hh : S.hands = hands) (htl : ∀ e ∈ c.LT, ∀ c' k, 1 ≤ k → k ≤ cnt (LE.lc e) c' → T e.2.1 (n, c', k)) (hT : ∀ x, T me x → x ∈ tk) : Law ms T me n hands made tk S1.kv S1.hd S1.T := by
  have up : ∀ g ∈ circ hands, ∀ k, cnt (rowR S.T g) k ≤ cnt (rowR S1.T g) k := fun g hg => lo.up g (by rw [hh]; exact hg)
  have keep : ∀ c k, ((n, c, k) ∈ S.hd.map (·.2.nm) ∨ FL S.T (circ hands) c k) → ((n, c, k) ∈ S1.hd.map (·.2.nm) ∨ FL S1.T (circ hands) c k) := fun c k h => by
    rcases h with h | h
    · obtain ⟨x, hx, e⟩ := List.mem_map.mp h
      exact .inl (List.mem_map.mpr ⟨x, lo.hd x hx, e⟩)
    · exact .inr (h.up fun g hg => up g hg c)
  refine ⟨by rw [lo.kv]; exact l.tt, l.mn, l.m0, fun g hg c' k h1 h2 => ?_, fun c' k h1 h2 => keep c' k (l.hk c' k h1 (by rw [lo.kv] at h2; exact h2)), fun k h1 h2 => keep me k (l.hm k h1 h2)⟩
  rw [lo.kv]
  rcases lo.fr g (by rw [hh]; exact hg) c' k h2 with h | ⟨e, he, e1, h⟩
  · exact l.tl g hg c' k h1 h
  · have := htl e he c' k h1 h
    rw [e1] at this
    by_cases eg : g = me
    · rw [if_pos eg]
      rw [eg] at this
      exact ((l.tt c' k).mp (hT _ this)).2
    · rw [if_neg eg]; exact this
theorem HOK.lastUp {cs : List Int} {ms : List Nm} {T : Int → Nm → Prop} {B : Nat} {H : Hp} {h : Addr} {D : Hd} {i : Option In} {CT : Addr × Addr} {n : Int} (ho : HOK K cs ms T B H h D i) (hn : ∀ x, i = some x → n ≤ D.number) :
    HOK K cs ms T B (upd H h (hdO K { D with last := if n > D.last then n else D.last })) h { D with last := if n > D.last then n else D.last } i ∧ Mv CT (foot h D i) (foot h { D with last := if n > D.last then n else D.last } i) H (upd H h (hdO K { D with last := if n > D.last then n else D.last })) := by
  have hd2 : HdC K (upd H h (hdO K { D with last := if n > D.last then n else D.last })) h { D with last := if n > D.last then n else D.last } := ho.c.put rfl rfl
  have kp : Kp [h] H (upd H h (hdO K { D with last := if n > D.last then n else D.last })) := Kp.upd Kp.refl List.mem_cons_self
  have ex := ho.c.ext1 kp
  have up : D.last ≤ if n > D.last then n else D.last := by split <;> omega
  refine ⟨⟨hd2, ho.me, ho.me0, ho.me62, ho.tkc, ho.fe, ho.h0, ho.wi0, ho.book.imp fun N z => ⟨z.1.ext ex, z.2⟩, ho.evl, ho.gone.ext ex, fun z hz => Int.le_trans (ho.tkn z hz) up, fun z hz e => Int.le_trans (ho.msn z hz e) up, ?_⟩, Mv.of ho.tr (kp.mono (by unfold foot; simp)) fun b hb => .inl hb⟩
  cases i with
  | none => exact ho.inn
  | some x =>
    have o : InOK K cs ms T B H D x := ho.inn
    have dj := o.djh ho.c
    have o2 := o.keep (H1 := upd H h (hdO K { D with last := if n > D.last then n else D.last })) (fun b hb u z => kp _ _ z (notin1 fun q => by
      rw [q] at hb
      rcases List.mem_append.mp hb with hb | hb
      · exact dj.hF hb
      · rcases List.mem_cons.mp hb with z | hb
        · exact dj.ch z.symm
        · exact dj.rh (List.mem_singleton.mp hb).symm)) ex
    have hl : (if n > D.last then n else D.last) = D.number := by
      have := hn x rfl
      rw [o.last, if_neg (by omega)]
    exact ⟨o2.pv, o2.cv, o2.pg, o2.ch, o2.me, o2.num, o2.hands, o2.cme, o2.chands, hl, o2.dj, o2.os, o2.way, o2.law⟩
def spHearList (K : PySem.W.Frag) (CT : Addr × Addr) (cs : List Int) (ms : List Nm) (T : Int → Nm → Prop) (B : Nat) : Sp := fun vs H Q _ => ∃ h D i t l, vs = [.ref h, .ref t] ∧ HOK K cs ms T B H h D i ∧ LtOK cs ms T B H t l ∧ Tb CT H ∧ (∀ x, T D.me x → x ∈ tks D.evs) ∧ cs.length ≤ 60 ∧ ms.length ≤ 50 ∧ B ≤ 880000 ∧ spDeed K CT cs ms T B (B + 500) (fun _ _ => True) H h D i Q
def MidHL (K : PySem.W.Frag) (CT : Addr × Addr) (cs : List Int) (ms : List Nm) (T : Int → Nm → Prop) (B : Nat) (H : Hp) (h : Addr) (D : Hd) (i : Option In) (t : Addr) (l : Lt) : L2.St → Hp → Prop := fun σ' H' => ∃ D1 i1, σ' = [some (.ref h), some (.ref t), some (.int l.n), some (.ref l.way)] ∧ Mv CT (foot h D i) (foot h D1 i1) H H' ∧ HOK K cs ms T B H' h D1 i1 ∧ Gr D D1 ∧ (∀ x, i1 = some x → l.n ≤ D1.number) ∧ (Bd H i → Bd H' i1)
theorem ok_Hand_hear_list (A : All P w K mg base CT) {cs : List Int} {ms : List Nm} {T : Int → Nm → Prop} {B : Nat}: MOk P w K mg base CX0 11 (He.ga K "Hand") "hear_list" ["self", "letter"] [] (spHearList K CT cs ms T B) := by
  obtain ⟨fd, F⟩ := fu_Hand_hear_list A.d
  refine ⟨cl_Hand A.d, _, fd, [], FunD.ok0 F sc_Hand_hear_list (fun vs H Q E h => ?_) (fun cdv A0 outer s H vs Q E hr h => ?_), me_Hand_hear_list A.d, F.bindsN fun _ _ _ _ _ _ us hl => match us, hl with | [_, _], _ => rfl, .nil⟩
  · obtain ⟨h, D, i, t, l, rfl, ho, hl, htb, hT, hcs, hms, hB, k⟩ := h
    rfl
  · obtain ⟨h, D, i, t, l, rfl, ho, hl, htb, hT, hcs, hms, hB, k⟩ := h
    have hu := hu_of hr
    refine ⟨_, pss_cons (ps_set (i := 2) sc_Hand_hear_list.nd rfl (by first | exact Or.inl rfl | exact Or.inr rfl) (pe_ix ix_tup (pv 1) pe_int (fun _ _ => rfl)))
      (pss_cons (ps_set (i := 3) sc_Hand_hear_list.nd rfl (by first | exact Or.inl rfl | exact Or.inr rfl) (pe_ix ix_tup (pv 1) pe_int (fun _ _ => rfl)))
      (pss_cons (ps_cut (ps_if (PW.pt (pw_and (pt_cmpR op_notN (pe_Hand_page A.d (pv 0)) pe_non (nomark _)) (pw_and1 (pt_cmpR op_eq (pv 2) (pe_op op_add (pe_Hand_number A.d (pv 0)) pe_int) (nomark _))))) (pss_one (ps_expr ((ok_Hand_go_by A (cs := cs) (ms := ms) (T := T) (B := B)).pe hr pass0 (pv 0) (pa_cons (pe_tup (pa_cons (pe_ix ix_tup (pv 3) pe_int (fun _ _ => rfl)) (pa_cons (pe_ix ix_tup (pv 1) pe_int (fun _ _ => rfl)) (pa_cons (pe_ix ix_tup (pv 3) pe_int (fun _ _ => rfl)) (pa_cons (pe_ix ix_tup (pv 3) pe_int (fun _ _ => rfl)) pa_nil))))) pa_nil)))) (pss_one (ps_if (PW.pt (pw_and (pt_cmpR op_notN (pe_Hand_page A.d (pv 0)) pe_non (nomark _)) (pw_and1 (pt_cmpR op_gt (pv 2) (pe_Hand_number A.d (pv 0)) (nomark _))))) (pss_one (ps_expr ((ok_Hand_go_out A).pe0 hr pass0 (pv 0)))) pss_nil))))
      (pss_cons (ps_cut (ps_if (PW.pt (pw_and (pt_cmpR op_isN (pe_Hand_page A.d (pv 0)) pe_non (nomark _)) (pw_and (pt_cmpR op_gt (pv 2) (pe_Hand_last A.d (pv 0)) (nomark _)) (pw_and1 (pt_val ((ok_has A).pe hr pass0 (pa_cons (pe_ix ix_tup (pv 3) pe_int (fun _ _ => rfl)) (pa_cons (pe_Hand_me A.d (pv 0)) pa_nil)))))))) (pss_cons (ps_Hand_pages A.d (pv 0) (pe_ix ix_tup (pv 1) pe_int (fun _ _ => rfl))) (pss_cons (ps_Hand_lost A.d (pv 0) ((ok_lacking A).pe hr pass0 (pa_cons (pe_Hand_history A.d (pv 0)) (pa_cons (pe_Hand_pages A.d (pv 0)) pa_nil)))) (pss_one (ps_expr ((ok_Hand_stand A (cs := cs) (ms := ms) (B := B + 220)).pe hr pass0 (pv 0) (pa_cons (pv 2) (pa_cons (pe_ix ix_tup (pv 1) pe_int (fun _ _ => rfl)) (pa_cons (pv 3) pa_nil)))))))) pss_nil))
      (pss_cons (ps_cut (ps_Hand_last A.d (pv 0) (pe_callB (call_max2 rfl) (by rfl) (fr_max A.kin A.ns A.d) (by decide +kernel) (pa_cons (pe_Hand_last A.d (pv 0)) (pa_cons (pv 2) pa_nil)))))
      (pss_one (ps_if (PW.pt (pw_and (pt_cmpR op_notN (pe_Hand_page A.d (pv 0)) pe_non (nomark _)) (pw_and1 (pt_cmpR op_eq (pv 2) (pe_Hand_number A.d (pv 0)) (nomark _))))) (pss_cons (ps_cut (ps_if (pt_cmpR op_isN (pe_Change_ballot A.d (pe_Hand_change A.d (pv 0))) pe_non (nomark _)) (pss_one (ps_expr ((ok_Hand_note A).pe hr pass0 (pv 0) (pa_cons ((ok_Page_listen A (cs := cs) (ms := ms)).pe hr pass0 (pe_Hand_page A.d (pv 0)) (pa_cons (pe_ix ix_tup (pv 1) pe_int (fun _ _ => rfl)) pa_nil)) pa_nil)))) pss_nil)) (pss_cons (ps_expr ((ok_Change_receive A (cs := cs) (n := l.n) (ms := ms) (B := B + 350)).pe hr pass0 (pe_Hand_change A.d (pv 0)) (pa_cons (pe_ix ix_tup (pv 1) pe_int (fun _ _ => rfl)) pa_nil))) (pss_one (ps_expr ((ok_Hand_settle A (cs := cs) (ms := ms) (T := T) (B := B + 350)).pe0 hr pass0 (pv 0)))))) pss_nil)))))), ?_⟩
    obtain ⟨wi, wj, wr, wrw, hw1, hw2, hw3, hw4⟩ := id hl.way
    refine ⟨_, rfl, _, _, _, _, rfl, rfl, SqT.of hl.tup, rfl, ?_⟩
    refine ⟨_, rfl, _, _, _, _, rfl, rfl, SqT.of hl.tup, rfl, ?_⟩
    refine ⟨MidHL K CT cs ms T (B + 110) H h D i t l, ?_, ?_⟩
    · refine ⟨_, rfl, h, D.dx, _, rfl, ho.c.ins, rfl, _, rfl, ?_⟩
      cases i with
      | none =>
        have e0 := (show D.pv = .non ∧ D.cv = .non from ho.inn).1
        rw [show D.rc.page_ = D.pv from rfl, e0]
        refine iteF ⟨_, rfl, h, D.dx, _, rfl, ho.c.ins, rfl, _, rfl, ?_⟩
        rw [show D.rc.page_ = D.pv from rfl, e0]
        exact iteF ⟨D, none, rfl, .refl, ho.up (by omega), .refl, fun x z => (nomatch z), fun b => b⟩
      | some x =>
      have o : InOK K cs ms T B H D x := ho.inn
      rw [show D.rc.page_ = D.pv from rfl, o.pv]
      refine iteT ⟨_, rfl, _, rfl, h, D.dx, _, rfl, ho.c.ins, _, _, rfl, rfl, rfl, _, rfl, ite2 (fun e => ?_) (fun e => ?_)⟩
      · have en : l.n = D.number + 1 := num_eq e
        refine ⟨_, rfl, h, D.dx, _, rfl, ho.c.ins, by kernel_rfl, _, rfl, _, _, _, _, rfl, rfl, SqT.of hw1, rfl, _, rfl, _, _, _, _, rfl, rfl, SqT.of hl.tup, rfl, _, rfl, _, _, _, _, rfl, rfl, SqT.of hw1, rfl, _, rfl, _, _, _, _, rfl, rfl, SqT.of hw1, rfl, (by show 4 ≤ sizeLine; decide), fun p hp => ?_⟩
        have s1 := same_new (o := .tup [.int wi, .int l.hands, .int wj, .ref wr]) hp
        refine ⟨h, D, x, p, ⟨wi, l.hands, wj, wr, wrw⟩, rfl, ho.same s1, ⟨upd_same, s1 _ _ hw2, fun y hy => (hw3 y hy).1.ext (.of s1)⟩, ⟨fun y hy => ?_, hw4, hl.h0⟩, hcs, hms, by omega, fun D' i' H' mv h' gr hnum bd => ⟨D', i', rfl, (Mv.same s1).trans mv, h', gr, fun x' hx' => ?_, fun _ => bd⟩⟩
        · have := (hw3 y hy).2
          rw [show l.n - 1 = D.number by omega] at this
          exact this
        · rw [hnum x' hx']; omega
      · refine ⟨_, rfl, h, D.dx, _, rfl, ho.c.ins, rfl, _, rfl, ?_⟩
        rw [show D.rc.page_ = D.pv from rfl, o.pv]
        refine iteT ⟨_, rfl, _, rfl, h, D.dx, _, rfl, ho.c.ins, _, _, rfl, rfl, _, rfl, ite2 (fun e => ?_) (fun e => ?_)⟩
        · refine ⟨_, rfl, h, D.dx, _, rfl, ho.c.ins, by kernel_rfl, h, D, rfl, ho.c, by have := ho.evl; omega, fun a y H1 kp1 hd1 => ?_⟩
          obtain ⟨h2, m2⟩ := ho.outd (CT := CT) kp1 hd1 (B' := B + 110) (by omega)
          exact ⟨_, none, rfl, m2, h2, ⟨rfl, [(a, Ev.oth y)], rfl⟩, fun x z => (nomatch z), fun _ => Bd.none⟩
        · refine ⟨D, some x, rfl, .refl, ho.up (by omega), .refl, fun x' _ => ?_, fun b => b⟩
          have : ¬ l.n > D.number := fun z => e (decide_eq_true (p := l.n > D.number) z)
          omega
    rintro σ1 H1 ⟨D1, i1, rfl, mv1, h1, gr1, hn1, bd1⟩
    have ex1 := ho.tr.extT mv1.kt
    have hl1 := hl.ext ex1
    have hw11 := ex1 _ _ hw1 trivial
    refine ⟨MidHL K CT cs ms T (B + 220) H h D i t l, ?_, ?_⟩
    · have skip : MidHL K CT cs ms T (B + 220) H h D i t l [some (.ref h), some (.ref t), some (.int l.n), some (.ref l.way)] H1 := ⟨D1, i1, rfl, mv1, h1.up (by omega), gr1, hn1, bd1⟩
      refine ⟨_, rfl, h, D1.dx, _, rfl, h1.c.ins, rfl, _, rfl, ite2 (fun e => ?_) (fun _ => skip)⟩
      have ei := h1.pnone e
      subst ei
      refine ⟨_, rfl, _, rfl, h, D1.dx, _, rfl, h1.c.ins, _, _, rfl, rfl, _, rfl, ite2 (fun e2 => ?_) (fun _ => skip)⟩
      have hgt : l.n > D1.last := of_decide_eq_true e2
      refine ⟨_, rfl, _, _, _, _, rfl, rfl, SqT.of hw11, rfl, _, rfl, h, D1.dx, _, rfl, h1.c.ins, wj, D1.me, rfl, h1.me0, _, rfl, ite2 (fun _ => ?_) (fun _ => skip)⟩
      refine ⟨_, rfl, _, _, _, _, rfl, rfl, SqT.of hl1.tup, rfl, _, rfl, h, D1.dx, _, rfl, h1.c.ins, ?_⟩
      have hd2 : HdC K (upd H1 h (hdO K { D1 with pgs := l.pages })) h { D1 with pgs := l.pages } := h1.c.put rfl rfl
      have kp2 : Kp [h] H1 (upd H1 h (hdO K { D1 with pgs := l.pages })) := Kp.upd Kp.refl List.mem_cons_self
      have ex2 := h1.c.ext1 kp2
      obtain ⟨rs, hb1, hb2, hb3⟩ := id hl1.book
      have hev1 := h1.evl
      refine ⟨_, rfl, h, D1.dx, _, rfl, hd2.ins, _, rfl, h, D1.dx, _, rfl, hd2.ins, D1.hist, l.pages, D1.evs, rs, rfl, hd2.hist, hd2.evs, ex2 _ _ hb1 trivial, hb2.ext ex2, by omega, by omega, fun q H3 hq s3 => ?_⟩
      have hd3 := hd2.same s3
      refine ⟨_, rfl, h, D1.dx, _, rfl, hd3.ins, ?_⟩
      have hd4 : HdC K (upd H3 h (hdO K { D1 with pgs := l.pages, lost := .ref q })) h { D1 with pgs := l.pages, lost := .ref q } := hd3.put rfl rfl
      have kp34 : Kp [h] H3 (upd H3 h (hdO K { D1 with pgs := l.pages, lost := .ref q })) := Kp.upd Kp.refl List.mem_cons_self
      have kp4 : Kp [h] H1 (upd H3 h (hdO K { D1 with pgs := l.pages, lost := .ref q })) := (kp2.trans (Kp.of s3)).trans kp34
      have ex4 := h1.c.ext1 kp4
      refine ⟨_, rfl, h, D1.dx, _, rfl, hd4.ins, by kernel_rfl, _, rfl, _, rfl, _, _, _, _, rfl, rfl, SqT.of (ex4 _ _ hl1.tup trivial), rfl, _, rfl, h, { D1 with pgs := l.pages, lost := .ref q }, l.n, l.hands, l.way, wi, wj, wr, rfl, hd4, ex4 _ _ hw11 trivial, by show D1.evs.length ≤ _; omega, h1.me0, h1.me62, fun wiv a p S c C H5 hwi kp5 hd5 np => ?_⟩
      have kp15 : Kp [h, D1.hist] H1 H5 := (kp4.mono (by simp)).trans kp5
      have ex5 := h1.c.ext2 kp15
      have hlast : (if l.n > D1.last then l.n else D1.last) = l.n := if_pos hgt
      have htk3 : tks (D1.evs ++ [(a, Ev.oth "list")]) = tks D1.evs := by rw [tks_app, tks_oth, List.append_nil]
      have mv5 : Mv CT (foot h D1 none) (foot h { D1 with pgs := l.pages, lost := .ref q, number := l.n, hands := l.hands, wA := l.way, pv := .ref p, cv := .ref c, wished := wiv, wishing := false, gone := .non, last := if l.n > D1.last then l.n else D1.last, evs := D1.evs ++ [(a, Ev.oth "list")] } (some ⟨p, S, c, C⟩)) H1 H5 := Mv.of h1.tr (kp15.mono (by unfold foot; simp)) fun b hb => by
        rcases np.foot b hb with e | e | e
        · rw [e]; exact .inl List.mem_cons_self
        · rw [e]; exact .inl (List.mem_cons_of_mem _ List.mem_cons_self)
        · rcases kp4.nn b e with z | z
          · rw [List.mem_singleton.mp z]; exact .inl List.mem_cons_self
          · exact .inr z
      refine ⟨_, some ⟨p, S, c, C⟩, rfl, mv1.trans mv5, HOK.stood (N := B) hd5 np rfl rfl rfl hlast (fun z => ?_) h1.me h1.me0 h1.me62 (fun y hy => h1.tkc y (by rw [← htk3]; exact hy)) h1.fe hl.h0 (hwi h1.wi0) (hl1.book.ext ex5) (by omega) ?_ (fun y hy => ?_) (fun y hy e => ?_) (hl1.way.ext ex5), gr1.trans ⟨rfl, [(a, Ev.oth "list")], rfl⟩, fun x' _ => Int.le_refl _, fun _ => Bd.fresh np.agr np.reps⟩
      · exact nomatch (z.symm.trans hd4.hist)
      · show (D1.evs ++ [(a, Ev.oth "list")]).length ≤ _
        rw [List.length_append]
        show D1.evs.length + 1 ≤ _; omega
      · show y.1 < l.n
        have hy : y ∈ tks (D1.evs ++ [(a, Ev.oth "list")]) := hy
        rw [htk3] at hy
        have := h1.tkn y hy; omega
      · show y.1 < l.n
        have := h1.msn y hy e; omega
    clear hw11 hl1 ex1 hn1 gr1 h1 mv1 bd1
    clear D1 i1 H1
    rintro σ2 H2 ⟨D2, i2, rfl, mv2, h2, gr2, hn2, bd2⟩
    have ex2 := ho.tr.extT mv2.kt
    have hl2 := hl.ext ex2
    refine ⟨MidHL K CT cs ms T (B + 220) H h D i t l, ?_, ?_⟩
    · refine ⟨_, rfl, h, D2.dx, _, rfl, h2.c.ins, _, rfl, _, _, rfl, _, rfl, h, D2.dx, _, rfl, h2.c.ins, ?_⟩
      obtain ⟨h3, m3⟩ := h2.lastUp (CT := CT) (n := l.n) hn2
      exact ⟨_, i2, rfl, mv2.trans m3, h3, gr2.trans ⟨rfl, [], (List.append_nil _).symm⟩, hn2, fun b => h2.bdx (h2.tr.extT m3.kt) (bd2 b)⟩
    clear hl2 ex2 hn2 gr2 h2 mv2 bd2
    clear D2 i2 H2
    rintro σ3 H3 ⟨D3, i3, rfl, mv3, h3, gr3, hn3, bd3⟩
    have ex3 := ho.tr.extT mv3.kt
    have hl3 := hl.ext ex3
    have skip : Q .non H3 := k .non D3 i3 H3 trivial mv3 (h3.up (by omega)) gr3 bd3
    refine ⟨_, rfl, h, D3.dx, _, rfl, h3.c.ins, rfl, _, rfl, ite2 (fun e => ?_) (fun _ => skip)⟩
    cases i3 with
    | none =>
      have e : (!decide (D3.pv = .non)) = true := e
      rw [(show D3.pv = .non ∧ D3.cv = .non from h3.inn).1] at e; cases e
    | some x =>
    have o : InOK K cs ms T (B + 220) H3 D3 x := h3.inn
    refine ⟨_, rfl, _, rfl, h, D3.dx, _, rfl, h3.c.ins, rfl, _, rfl, ite2 (fun e2 => ?_) (fun _ => skip)⟩
    have en : l.n = D3.number := num_eq e2
    have dj := o.djh h3.c
    have hos := o.os
    obtain ⟨N0, hb0, hb3⟩ := h3.book
    have hb3 : N0 + x.S.past.length ≤ B + 220 := hb3
    have hev3 := h3.evl
    have hlo := hl.os
    refine ⟨fun σ' H' => ∃ D4 x4, σ' = [some (.ref h), some (.ref t), some (.int l.n), some (.ref l.way)] ∧ Mv CT (foot h D3 (some x)) (foot h D4 (some x4)) H3 H' ∧ HOK K cs ms T (B + 350) H' h D4 (some x4) ∧ Gr D3 D4 ∧ D4.number = D3.number, ?_, ?_⟩
    · refine ⟨_, rfl, h, D3.dx, _, rfl, h3.c.ins, x.c, x.C.dx, _, o.cv, o.ch.ins, rfl, _, rfl, ite2 (fun _ => ?_) (fun _ => ⟨D3, x, rfl, .refl, h3.up (by omega), .refl, rfl⟩)⟩
      refine ⟨_, rfl, h, D3.dx, _, rfl, h3.c.ins, by kernel_rfl, _, rfl, h, D3.dx, _, rfl, h3.c.ins, x.p, x.S.dx, _, o.pv, o.pg.ins, by kernel_rfl, _, rfl, _, _, _, _, rfl, rfl, SqT.of hl3.tup, rfl, x.p, x.S, l.piece, l.c, vs1 o.pv, o.pg, hl3.pc, fun y hy => by rw [o.num, ← en]; exact hl.gc y hy, hcs, by omega, by omega, by omega, by omega, fun q L row S1 S' H4 hq kp4 hp4 lo hnd1 hl1n hgc1 so fr hq4 hL4 => ?_⟩
      have kp4f : Kp (x.S.foot x.p) H3 H4 := kp4.mono fun b hb => by
        unfold Pg.foot
        simp only [List.mem_cons, List.not_mem_nil, or_false] at hb ⊢
        rcases hb with h | h | h | h | h <;> simp [h]
      have ex4 : Ext H3 H4 := Tr.ext (F := x.S.foot x.p) o.pg.tr kp4f
      have hd4 : HdC K H4 h D3 := h3.c.keepT (fun u z => kp4f _ u z dj.hF) (fun u z => kp4f _ u z dj.hiF) ex4
      have hrow := so.pass.len
      have hLl : L.length = row.length := by
        have := congrArg List.length so.lcd
        rwa [List.length_map, List.length_map] at this
      have nq : q ≠ D3.hist := fun z => by rw [z, h3.c.hist] at hq; cases hq
      refine ⟨h, D3, q, L, rfl, hd4, hq4, hL4, nq, by omega, by omega, fun r H5 kp5 hd5 htk hrl => ?_⟩
      have hfS := foot_step (S := x.S) (H := H3) (p := x.p) so lo.tA lo.tt lo.aA lo.ta lo.pA fr
      have hp5 : PageAt K cs ms H5 x.p S' := hp4.keep (fun b hb u z => kp5 b u z (notin1 fun e => by
          rw [e] at hb
          rcases hfS _ hb with z | z
          · exact dj.hiF z
          · exact nomatch (z.symm.trans h3.c.hist))) (kp5.ext fun z hz u hu => by
        rw [List.mem_singleton.mp hz, hd4.hist] at hu; cases hu; exact fun z => z)
      have hpast : S'.past.length = x.S.past.length + L.length := by
        rw [so.past, List.length_append, told_len, lo.past]
      have hosl := so.os
      have hosl2 := lo.os
      have hS1 : ∀ z ∈ S1.hd, z.2.n = D3.number ∧ 1 ≤ z.2.k := fun z hz => ⟨by rw [(hgc1 z hz).n, lo.num, o.num], (hgc1 z hz).k⟩
      have l1 := Law.step (tk' := tks (D3.evs ++ r)) (o.law.listen lo o.hands (fun e he c' k' g1 g2 => by rw [← en]; exact hl.tl e he c' k' g1 g2) fun z hz => gr3.tks z (hT z (by rw [← gr3.me]; exact hz))) so (lo.me.trans o.me) (lo.hands.trans o.hands) hS1 (by rw [tks_app, htk])
      obtain ⟨h6, m6⟩ := HOK.pag (CT := CT) (ms' := ms) (B' := B + 350) (S' := S') (r := r) h3 ((kp4f.mono fun b hb => List.mem_cons_of_mem _ hb).trans (kp5.mono (by simp))) hd5 hp5 (so.me.trans lo.me) (so.num.trans lo.num) (so.hands.trans lo.hands) hfS (by omega) (by omega) (by omega) (by omega) (fun z hz => by
        rw [htk] at hz
        rw [lcd_nm so.lcd] at hz
        obtain ⟨e, he, rfl⟩ := List.mem_map.mp hz
        exact ⟨(hS1 e (so.pass.sub e he)).1, (hgc1 e (so.pass.sub e he)).c⟩) (fun z hz => hz) h3.msn (by rw [so.made, lo.made]; exact l1)
      exact ⟨_, _, rfl, m6, h6, ⟨rfl, r, rfl⟩, rfl⟩
    rintro σ4 H4 ⟨D4, x4, rfl, mv4, h4, gr4, en4⟩
    have o4 : InOK K cs ms T (B + 350) H4 D4 x4 := h4.inn
    have ex4 := h3.tr.extT mv4.kt
    have hl4 := hl3.ext ex4
    have e4 : l.n = D4.number := by rw [en4]; exact en
    refine ⟨_, rfl, h, D4.dx, _, rfl, h4.c.ins, x4.c, x4.C.dx, _, o4.cv, o4.ch.ins, by kernel_rfl, _, rfl, _, _, _, _, rfl, rfl, SqT.of hl4.tup, rfl, x4.c, x4.C, l.msg, l.M, vs1 o4.cv, by rw [e4]; exact o4.ch, hl4.ms.mono (fun _ z => z) (by omega), hcs, fun C' H5 kp5 hc5 sm fr => ?_⟩
    obtain ⟨h5, m5⟩ := h4.chg (CT := CT) kp5 (by rw [← e4]; exact hc5) sm fr
    refine ⟨_, rfl, h, D4.dx, _, rfl, h5.c.ins, by kernel_rfl, h, D4, _, rfl, h5, m5.tab (mv4.tab (mv3.tab htb)), hcs, hms, by omega, fun D6 i6 H6 m6 h6 gr6 bd6 _ => ?_⟩
    exact k .non D6 i6 H6 trivial (((mv3.trans mv4).trans m5).trans m6) (h6.up (by omega)) ((gr3.trans gr4).trans gr6) fun _ => bd6

end
end G
namespace G
open PySem PySem.Spec L2
open PyProof.Rows hiding St
section
variable {P : Program} {w : World} {K : PySem.W.Frag} {mg : Str → Option Value} {base : Heap} {CT : Addr × Addr}
def spHear (K : PySem.W.Frag) (CT : Addr × Addr) (cs : List Int) (ms : List Nm) (T : Int → Nm → Prop) (B : Nat) : Sp := fun vs H Q _ => ∃ h D i t, vs = [.ref h, .ref t] ∧ HOK K cs ms T B H h D i ∧ LetOK cs ms T B H t ∧ Tb CT H ∧ (∀ x, T D.me x → x ∈ tks D.evs) ∧ (∀ c ∈ cs, 0 ≤ c ∧ c ≤ 62) ∧ cs.length ≤ 60 ∧ ms.length ≤ 50 ∧ B ≤ 880000 ∧ spDeed K CT cs ms T B (B + 500) (isNew H) H h D i Q
theorem ok_Hand_hear (A : All P w K mg base CT) {cs : List Int}: MOk P w K mg base CX0 12 (He.ga K "Hand") "hear" ["self", "letter"] [] (ex3 (spHear K CT cs)) := by
  obtain ⟨fd, F⟩ := fu_Hand_hear A.d
  refine ⟨cl_Hand A.d, _, fd, [], FunD.ok0 F sc_Hand_hear (fun vs H Q E h => ?_) (fun cdv A0 outer s H vs Q E hr h => ?_), me_Hand_hear A.d, F.bindsN fun _ _ _ _ _ _ us hl => match us, hl with | [_, _], _ => rfl, .nil⟩
  · obtain ⟨ms, T, B, h, D, i, t, rfl, ho, hl, htb, hT, hc62, hcs, hms, hB, k⟩ := h
    rfl
  · obtain ⟨ms, T, B, h, D, i, t, rfl, ho, hl, htb, hT, hc62, hcs, hms, hB, k⟩ := h
    have hu := hu_of hr
    refine ⟨_, pss_cons (ps_set (i := 2) sc_Hand_hear.nd rfl (by first | exact Or.inl rfl | exact Or.inr rfl) (pe_callB call_len_seq (by rfl) (fr_len A.kin A.ns A.d) (by decide +kernel) (pa_cons (pe_Hand_history A.d (pv 0)) pa_nil)))
      (pss_cons (ps_if (PW.pt (pw_and (pt_cmpR op_ne (pe_ix ix_tup (pv 1) pe_int (fun _ _ => rfl)) (pe_Hand_me A.d (pv 0)) (nomark _)) (pw_and1 (pt_cmpR op_eq (pe_ix ix_tup (pv 1) pe_int (fun _ _ => rfl)) pe_str (nomark _))))) (pss_one (ps_expr ((ok_Hand_hear_away A (cs := cs) (ms := ms) (T := T) (B := B)).pe hr pass0 (pv 0) (pa_cons (pv 1) pa_nil)))) (pss_one (ps_if (pt_cmpR op_ne (pe_ix ix_tup (pv 1) pe_int (fun _ _ => rfl)) (pe_Hand_me A.d (pv 0)) (nomark _)) (pss_one (ps_expr ((ok_Hand_hear_list A (cs := cs) (ms := ms) (T := T) (B := B)).pe hr pass0 (pv 0) (pa_cons (pv 1) pa_nil)))) pss_nil)))
      (pss_one (ps_ret (pe_slice sl_list (pe_Hand_history A.d (pv 0)) (po_some (pv 2)) po_none)))), ?_⟩
    have hev := ho.evl
    refine ⟨_, rfl, h, D.dx, _, rfl, ho.c.ins, D.hist, _, rfl, .inl (SqL.of ho.c.hist), ?_⟩
    have fin : ∀ v D' i' H', Mv CT (foot h D i) (foot h D' i') H H' → HOK K cs ms T (B + 500) H' h D' i' → Gr D D' → (Bd H i → Bd H' i') → ∀ q, H' q = none → Q (.ref q) (upd H' q (.lst (cutV (refsE D'.evs) (some v) none))) := fun v D' i' H' mv h' gr bd q hq => by
      have s3 := same_new (o := .lst (cutV (refsE D'.evs) (some v) none)) hq
      exact k (.ref q) D' i' _ ⟨q, rfl⟩ (mv.trans (Mv.same s3)) (h'.same s3) gr fun b => h'.bdx (.of s3) (bd b)
    rcases hl with ⟨me, w, g, ha⟩ | ⟨l, hl⟩
    · obtain ⟨m0, m62⟩ := hc62 _ ha.2.1
      refine ⟨_, rfl, _, _, _, .int me, rfl, rfl, SqT.of ha.1, rfl, _, rfl, h, D.dx, _, rfl, ho.c.ins, rfl, _, rfl, ite2 (fun e => ?_) (fun e => ?_)⟩
      · refine ⟨_, rfl, _, _, _, .str "away", rfl, rfl, SqT.of ha.1, rfl, rfl, _, rfl, ?_⟩
        rw [show (decide (V.str "away" = V.str "away")) = true from decide_eq_true rfl]
        refine iteT ⟨_, rfl, h, D.dx, _, rfl, ho.c.ins, by kernel_rfl, _, rfl, h, D, i, t, me, w, g, rfl, ho, ha, m0, m62, hcs, hms, by omega, fun v D' i' H1 _ mv h1 gr bd => ?_⟩
        exact ⟨_, rfl, h, D'.dx, _, rfl, h1.c.ins, _, rfl, _, rfl, D'.hist, _, rfl, SqL.of h1.c.hist, fun q hq => fin _ D' i' H1 mv (h1.up (by omega)) gr bd q hq⟩
      · refine ⟨_, rfl, _, _, _, .int me, rfl, rfl, SqT.of ha.1, rfl, _, rfl, h, D.dx, _, rfl, ho.c.ins, rfl, _, rfl, ite2 (fun e' => absurd e' e) (fun _ => ?_)⟩
        exact ⟨_, rfl, h, D.dx, _, rfl, ho.c.ins, _, rfl, _, rfl, D.hist, _, rfl, SqL.of ho.c.hist, fun q hq => fin _ D i H .refl (ho.up (by omega)) .refl (fun b => b) q hq⟩
    · refine ⟨_, rfl, _, _, _, .int l.me, rfl, rfl, SqT.of hl.tup, rfl, _, rfl, h, D.dx, _, rfl, ho.c.ins, rfl, _, rfl, ite2 (fun e => ?_) (fun e => ?_)⟩
      · refine ⟨_, rfl, _, _, _, .str "in", rfl, rfl, SqT.of hl.tup, rfl, rfl, _, rfl, ?_⟩
        rw [show (decide (V.str "in" = V.str "away")) = false from decide_eq_false (fun z => absurd (V.str.inj z) (by decide))]
        refine iteF ⟨_, rfl, _, _, _, .int l.me, rfl, rfl, SqT.of hl.tup, rfl, _, rfl, h, D.dx, _, rfl, ho.c.ins, rfl, _, rfl, ite2 (fun _ => ?_) (fun e' => absurd e e')⟩
        refine ⟨_, rfl, h, D.dx, _, rfl, ho.c.ins, by kernel_rfl, _, rfl, h, D, i, t, l, rfl, ho, hl, htb, hT, hcs, hms, hB, fun v D' i' H1 _ mv h1 gr bd => ?_⟩
        exact ⟨_, rfl, h, D'.dx, _, rfl, h1.c.ins, _, rfl, _, rfl, D'.hist, _, rfl, SqL.of h1.c.hist, fun q hq => fin _ D' i' H1 mv h1 gr bd q hq⟩
      · refine ⟨_, rfl, _, _, _, .int l.me, rfl, rfl, SqT.of hl.tup, rfl, _, rfl, h, D.dx, _, rfl, ho.c.ins, rfl, _, rfl, ite2 (fun e' => absurd e' e) (fun _ => ?_)⟩
        exact ⟨_, rfl, h, D.dx, _, rfl, ho.c.ins, _, rfl, _, rfl, D.hist, _, rfl, SqL.of ho.c.hist, fun q hq => fin _ D i H .refl (ho.up (by omega)) .refl (fun b => b) q hq⟩
/-! ### a new hand -/
def IniS (K : PySem.W.Frag) (σ0 : L2.St) (H : Hp) (h dx : Addr) (fs : List (Str × V)) (W : List (Addr × HO)) : L2.St → Hp → Prop := fun σ' H' => σ' = σ0 ∧ Kp [h] H H' ∧ H' h = some (.ins (He.ga K "Hand") dx fs) ∧ ∀ e ∈ W, H' e.1 = some e.2 ∧ H e.1 = none
section
variable {σ0 σ' : L2.St} {H H' : Hp} {h dx a : Addr} {fs fs' : List (Str × V)} {W : List (Addr × HO)} {o : HO}
theorem IniS.put (i : IniS K σ0 H h dx fs W σ' H') (hh : H h ≠ none) : IniS K σ0 H h dx fs' W σ' (upd H' h (.ins (He.ga K "Hand") dx fs')) := by
  obtain ⟨e, kp, h1, hW⟩ := i
  refine ⟨e, kp.upd List.mem_cons_self, upd_same, fun x hx => ⟨?_, (hW x hx).2⟩⟩
  rw [upd_ne fun z => hh (by rw [← z]; exact (hW x hx).2)]
  exact (hW x hx).1
theorem IniS.new (i : IniS K σ0 H h dx fs W σ' H') (ha : H' a = none) : IniS K σ0 H h dx fs ((a, o) :: W) σ' (upd H' a o) := by
  obtain ⟨e, kp, h1, hW⟩ := i
  refine ⟨e, kp.new ha, by rw [upd_ne (ne_of_none h1 ha)]; exact h1, fun x hx => ?_⟩
  rcases List.mem_cons.mp hx with z | hx
  · rw [z]; exact ⟨upd_same, kp_free kp ha fun b hb => by rw [List.mem_singleton.mp hb]; exact ntn h1⟩
  · exact ⟨by rw [upd_ne (ne_of_none (hW x hx).1 ha)]; exact (hW x hx).1, (hW x hx).2⟩
end

end
end G
namespace G
open PySem PySem.Spec L2
open PyProof.Rows hiding St
section
variable {P : Program} {w : World} {K : PySem.W.Frag} {mg : Str → Option Value} {base : Heap} {CT : Addr × Addr}
def spHInit (K : PySem.W.Frag) (cs : List Int) (T : Int → Nm → Prop) (B : Nat) : Sp := fun vs H Q _ => ∃ h dx me hands number room, vs = [.ref h, .int me, .int hands, .int number, .int room] ∧ H h = some (.ins (He.ga K "Hand") dx []) ∧ me ∈ cs ∧ 0 ≤ me ∧ me ≤ 62 ∧ 1 ≤ hands ∧ hands < 2 ^ 63 ∧ 5 ≤ B ∧
  ∀ D i H', Kp [h] H H' → HOK K cs [] T B H' h D i → D.me = me → tks D.evs = [] → (∀ b ∈ foot h D i, b = h ∨ H b = none) → Bd H' i → Q .non H'
/-- the hands' numbers: told by who calls -/
def exC (sp : List Int → Sp) : Sp := fun vs H Q E => ∃ cs, sp cs vs H Q E
theorem fk_Hand_init (A : All P w K mg base CT) {T : Int → Nm → Prop} {B : Nat}: ∃ fd, FunD K d_Hand_init.name d_Hand_init.qual (defArgs s_Hand_init) (defBody s_Hand_init) (defScope s_Hand_init) (d_Hand_init.dvs K) [] (He.fAd K ("Hand", some "__init__")) fd ∧ FnOk P w K mg base CX0 8 (He.fAd K ("Hand", some "__init__")) fd ["self", "me", "hands", "number", "room"] (exC fun cs => spHInit K cs T B) := by
  obtain ⟨fd, F⟩ := fu_Hand_init A.d
  refine ⟨fd, F, FunD.ok0 F sc_Hand_init (fun vs H Q E h => ?_) (fun cdv A0 outer s H vs Q E hr h => ?_)⟩
  · obtain ⟨cs, h, dx, me, hands, number, room, rfl, hp, hme, m0, m62, hs1, hs2, hB, k⟩ := h
    rfl
  · obtain ⟨cs, h, dx, me, hands, number, room, rfl, hp, hme, m0, m62, hs1, hs2, hB, k⟩ := h
    have hu := hu_of hr
    refine ⟨_, pss_cons (ps_if (PW.pt (pw_or (pt_cmpR op_lt (pv 1) pe_int (nomark _)) (pw_or1 (pt_cmpR op_gt (pv 1) pe_int (nomark _))))) (pss_one ps_never) pss_nil)
      (pss_cons (ps_if (PW.pt (pw_or (pt_cmpR op_lt (pv 2) pe_int (nomark _)) (pw_or1 (pt_cmpR op_ge (pv 2) (pe_op op_shl pe_int pe_int) (nomark _))))) (pss_one ps_never) pss_nil)
      (pss_cons (ps_fld (pv 0) (pv 1) rfl)
      (pss_cons (ps_fld (pv 0) (pv 4) rfl)
      (pss_cons (ps_fld (pv 0) (pe_lst pa_nil) rfl)
      (pss_cons (ps_fld (pv 0) (pe_tup pa_nil) rfl)
      (pss_cons (ps_fld (pv 0) (pe_lst pa_nil) rfl)
      (pss_cons (ps_fld (pv 0) pe_int rfl)
      (pss_cons (ps_fld (pv 0) pe_int rfl)
      (pss_cons (ps_fld (pv 0) pe_bl rfl)
      (pss_cons (ps_fld (pv 0) pe_bl rfl)
      (pss_cons (ps_fld (pv 0) (pv 3) rfl)
      (pss_cons (ps_fld (pv 0) (pv 3) rfl)
      (pss_cons (ps_fld (pv 0) pe_int rfl)
      (pss_cons (ps_fld (pv 0) (pe_tup (pa_cons pe_int (pa_cons pe_int (pa_cons (pe_tup pa_nil) pa_nil)))) rfl)
      (pss_cons (ps_fld (pv 0) pe_non rfl)
      (pss_cons (ps_fld (pv 0) pe_non rfl)
      (pss_cons (ps_fld (pv 0) pe_non rfl)
      (pss_one (ps_if (pt_val ((ok_has A).pe hr pass0 (pa_cons (pv 2) (pa_cons (pv 1) pa_nil)))) (pss_one (ps_expr ((ok_Hand_stand A (cs := cs) (ms := []) (B := B)).pe hr pass0 (pv 0) (pa_cons (pv 3) (pa_cons (pv 2) (pa_cons (pe_tup (pa_cons pe_int (pa_cons (pv 2) (pa_cons (pe_tup pa_nil) pa_nil)))) pa_nil)))))) pss_nil))))))))))))))))))), ?_⟩
    have l0 : ([] : List (Str × V)).length ≤ 0 := Nat.le_refl _
    have hh : H h ≠ none := ntn hp
    refine ⟨_, rfl, _, _, rfl, rfl, _, rfl, ?_⟩
    rw [show (decide (me < 0)) = false from decide_eq_false (by omega)]
    refine iteF ⟨_, rfl, _, _, rfl, rfl, _, rfl, ?_⟩
    rw [show (decide (me > 62)) = false from decide_eq_false (by omega)]
    refine iteF ?_
    refine ⟨_, rfl, _, _, rfl, rfl, _, rfl, ?_⟩
    rw [show (decide (hands < 1)) = false from decide_eq_false (by omega)]
    refine iteF ⟨_, rfl, _, _, rfl, rfl, ⟨by decide, by decide, by decide⟩, _, _, rfl, rfl, _, rfl, ?_⟩
    rw [show (decide (hands ≥ 1 * 2 ^ (63 : Int).toNat)) = false from decide_eq_false (by
      have : (1 : Int) * 2 ^ (63 : Int).toNat = 2 ^ 63 := by decide
      rw [this]; omega)]
    refine iteF ?_
    have i0 : IniS K [] H h dx [] [] [] H := ⟨rfl, Kp.refl, hp, fun _ h => (nomatch h)⟩
    refine ⟨_, rfl, _, rfl, h, _, dx, _, rfl, i0.2.2.1, cl_Hand A.d, no_Hand_me A.d, by omega, ?_⟩
    have l1 := put_len "me" (.int me) [] (m := 0) l0
    have i1 := i0.put (fs' := (putF "me" (.int me) [])) hh
    refine ⟨_, rfl, _, rfl, h, _, dx, _, rfl, i1.2.2.1, cl_Hand A.d, no_Hand_room A.d, by omega, ?_⟩
    have l2 := put_len "room" (.int room) (putF "me" (.int me) []) (m := 1) l1
    have i2 := i1.put (fs' := (putF "room" (.int room) (putF "me" (.int me) []))) hh
    refine ⟨Nat.zero_le _, fun a1 ha1 => ?_⟩
    have j2 := i2.new (o := (.lst [])) ha1
    refine ⟨_, rfl, h, _, dx, _, rfl, j2.2.2.1, cl_Hand A.d, no_Hand_history A.d, by omega, ?_⟩
    have l3 := put_len "history" (.ref a1) (putF "room" (.int room) (putF "me" (.int me) [])) (m := 2) l2
    have i3 := j2.put (fs' := (putF "history" (.ref a1) (putF "room" (.int room) (putF "me" (.int me) [])))) hh
    refine ⟨Nat.zero_le _, fun a2 ha2 => ?_⟩
    have j3 := i3.new (o := (.tup [])) ha2
    refine ⟨_, rfl, h, _, dx, _, rfl, j3.2.2.1, cl_Hand A.d, no_Hand_pages A.d, by omega, ?_⟩
    have l4 := put_len "pages" (.ref a2) (putF "history" (.ref a1) (putF "room" (.int room) (putF "me" (.int me) []))) (m := 3) l3
    have i4 := j3.put (fs' := (putF "pages" (.ref a2) (putF "history" (.ref a1) (putF "room" (.int room) (putF "me" (.int me) []))))) hh
    refine ⟨Nat.zero_le _, fun a3 ha3 => ?_⟩
    have j4 := i4.new (o := (.lst [])) ha3
    refine ⟨_, rfl, h, _, dx, _, rfl, j4.2.2.1, cl_Hand A.d, no_Hand_lost A.d, by omega, ?_⟩
    have l5 := put_len "lost" (.ref a3) (putF "pages" (.ref a2) (putF "history" (.ref a1) (putF "room" (.int room) (putF "me" (.int me) [])))) (m := 4) l4
    have i5 := j4.put (fs' := (putF "lost" (.ref a3) (putF "pages" (.ref a2) (putF "history" (.ref a1) (putF "room" (.int room) (putF "me" (.int me) [])))))) hh
    refine ⟨_, rfl, h, _, dx, _, rfl, i5.2.2.1, cl_Hand A.d, no_Hand_feared A.d, by omega, ?_⟩
    have l6 := put_len "feared" (.int 0) (putF "lost" (.ref a3) (putF "pages" (.ref a2) (putF "history" (.ref a1) (putF "room" (.int room) (putF "me" (.int me) []))))) (m := 5) l5
    have i6 := i5.put (fs' := (putF "feared" (.int 0) (putF "lost" (.ref a3) (putF "pages" (.ref a2) (putF "history" (.ref a1) (putF "room" (.int room) (putF "me" (.int me) []))))))) hh
    refine ⟨_, rfl, h, _, dx, _, rfl, i6.2.2.1, cl_Hand A.d, no_Hand_wished A.d, by omega, ?_⟩
    have l7 := put_len "wished" (.int 0) (putF "feared" (.int 0) (putF "lost" (.ref a3) (putF "pages" (.ref a2) (putF "history" (.ref a1) (putF "room" (.int room) (putF "me" (.int me) [])))))) (m := 6) l6
    have i7 := i6.put (fs' := (putF "wished" (.int 0) (putF "feared" (.int 0) (putF "lost" (.ref a3) (putF "pages" (.ref a2) (putF "history" (.ref a1) (putF "room" (.int room) (putF "me" (.int me) [])))))))) hh
    refine ⟨_, rfl, h, _, dx, _, rfl, i7.2.2.1, cl_Hand A.d, no_Hand_leaving A.d, by omega, ?_⟩
    have l8 := put_len "leaving" (.bl false) (putF "wished" (.int 0) (putF "feared" (.int 0) (putF "lost" (.ref a3) (putF "pages" (.ref a2) (putF "history" (.ref a1) (putF "room" (.int room) (putF "me" (.int me) []))))))) (m := 7) l7
    have i8 := i7.put (fs' := (putF "leaving" (.bl false) (putF "wished" (.int 0) (putF "feared" (.int 0) (putF "lost" (.ref a3) (putF "pages" (.ref a2) (putF "history" (.ref a1) (putF "room" (.int room) (putF "me" (.int me) []))))))))) hh
    refine ⟨_, rfl, h, _, dx, _, rfl, i8.2.2.1, cl_Hand A.d, no_Hand_wishing A.d, by omega, ?_⟩
    have l9 := put_len "wishing" (.bl false) (putF "leaving" (.bl false) (putF "wished" (.int 0) (putF "feared" (.int 0) (putF "lost" (.ref a3) (putF "pages" (.ref a2) (putF "history" (.ref a1) (putF "room" (.int room) (putF "me" (.int me) [])))))))) (m := 8) l8
    have i9 := i8.put (fs' := (putF "wishing" (.bl false) (putF "leaving" (.bl false) (putF "wished" (.int 0) (putF "feared" (.int 0) (putF "lost" (.ref a3) (putF "pages" (.ref a2) (putF "history" (.ref a1) (putF "room" (.int room) (putF "me" (.int me) [])))))))))) hh
    refine ⟨_, rfl, _, rfl, h, _, dx, _, rfl, i9.2.2.1, cl_Hand A.d, no_Hand_last A.d, by omega, ?_⟩
    have l10 := put_len "last" (.int number) (putF "wishing" (.bl false) (putF "leaving" (.bl false) (putF "wished" (.int 0) (putF "feared" (.int 0) (putF "lost" (.ref a3) (putF "pages" (.ref a2) (putF "history" (.ref a1) (putF "room" (.int room) (putF "me" (.int me) []))))))))) (m := 9) l9
    have i10 := i9.put (fs' := (putF "last" (.int number) (putF "wishing" (.bl false) (putF "leaving" (.bl false) (putF "wished" (.int 0) (putF "feared" (.int 0) (putF "lost" (.ref a3) (putF "pages" (.ref a2) (putF "history" (.ref a1) (putF "room" (.int room) (putF "me" (.int me) []))))))))))) hh
    refine ⟨_, rfl, _, rfl, h, _, dx, _, rfl, i10.2.2.1, cl_Hand A.d, no_Hand_number A.d, by omega, ?_⟩
    have l11 := put_len "number" (.int number) (putF "last" (.int number) (putF "wishing" (.bl false) (putF "leaving" (.bl false) (putF "wished" (.int 0) (putF "feared" (.int 0) (putF "lost" (.ref a3) (putF "pages" (.ref a2) (putF "history" (.ref a1) (putF "room" (.int room) (putF "me" (.int me) [])))))))))) (m := 10) l10
    have i11 := i10.put (fs' := (putF "number" (.int number) (putF "last" (.int number) (putF "wishing" (.bl false) (putF "leaving" (.bl false) (putF "wished" (.int 0) (putF "feared" (.int 0) (putF "lost" (.ref a3) (putF "pages" (.ref a2) (putF "history" (.ref a1) (putF "room" (.int room) (putF "me" (.int me) [])))))))))))) hh
    refine ⟨_, rfl, h, _, dx, _, rfl, i11.2.2.1, cl_Hand A.d, no_Hand_hands A.d, by omega, ?_⟩
    have l12 := put_len "hands" (.int 0) (putF "number" (.int number) (putF "last" (.int number) (putF "wishing" (.bl false) (putF "leaving" (.bl false) (putF "wished" (.int 0) (putF "feared" (.int 0) (putF "lost" (.ref a3) (putF "pages" (.ref a2) (putF "history" (.ref a1) (putF "room" (.int room) (putF "me" (.int me) []))))))))))) (m := 11) l11
    have i12 := i11.put (fs' := (putF "hands" (.int 0) (putF "number" (.int number) (putF "last" (.int number) (putF "wishing" (.bl false) (putF "leaving" (.bl false) (putF "wished" (.int 0) (putF "feared" (.int 0) (putF "lost" (.ref a3) (putF "pages" (.ref a2) (putF "history" (.ref a1) (putF "room" (.int room) (putF "me" (.int me) []))))))))))))) hh
    refine ⟨Nat.zero_le _, fun a4 ha4 => ?_⟩
    have j12 := i12.new (o := .tup []) ha4
    refine ⟨(by show 3 ≤ sizeLine; decide), fun a5 ha5 => ?_⟩
    have q12 := j12.new (o := .tup [.int 0, .int 0, .ref a4]) ha5
    refine ⟨_, rfl, h, _, dx, _, rfl, q12.2.2.1, cl_Hand A.d, no_Hand_way A.d, by omega, ?_⟩
    have l13 := put_len "way" (.ref a5) (putF "hands" (.int 0) (putF "number" (.int number) (putF "last" (.int number) (putF "wishing" (.bl false) (putF "leaving" (.bl false) (putF "wished" (.int 0) (putF "feared" (.int 0) (putF "lost" (.ref a3) (putF "pages" (.ref a2) (putF "history" (.ref a1) (putF "room" (.int room) (putF "me" (.int me) [])))))))))))) (m := 12) l12
    have i13 := q12.put (fs' := (putF "way" (.ref a5) (putF "hands" (.int 0) (putF "number" (.int number) (putF "last" (.int number) (putF "wishing" (.bl false) (putF "leaving" (.bl false) (putF "wished" (.int 0) (putF "feared" (.int 0) (putF "lost" (.ref a3) (putF "pages" (.ref a2) (putF "history" (.ref a1) (putF "room" (.int room) (putF "me" (.int me) [])))))))))))))) hh
    refine ⟨_, rfl, h, _, dx, _, rfl, i13.2.2.1, cl_Hand A.d, no_Hand_gone A.d, by omega, ?_⟩
    have l14 := put_len "gone" (.non) (putF "way" (.ref a5) (putF "hands" (.int 0) (putF "number" (.int number) (putF "last" (.int number) (putF "wishing" (.bl false) (putF "leaving" (.bl false) (putF "wished" (.int 0) (putF "feared" (.int 0) (putF "lost" (.ref a3) (putF "pages" (.ref a2) (putF "history" (.ref a1) (putF "room" (.int room) (putF "me" (.int me) []))))))))))))) (m := 13) l13
    have i14 := i13.put (fs' := (putF "gone" (.non) (putF "way" (.ref a5) (putF "hands" (.int 0) (putF "number" (.int number) (putF "last" (.int number) (putF "wishing" (.bl false) (putF "leaving" (.bl false) (putF "wished" (.int 0) (putF "feared" (.int 0) (putF "lost" (.ref a3) (putF "pages" (.ref a2) (putF "history" (.ref a1) (putF "room" (.int room) (putF "me" (.int me) []))))))))))))))) hh
    refine ⟨_, rfl, h, _, dx, _, rfl, i14.2.2.1, cl_Hand A.d, no_Hand_page A.d, by omega, ?_⟩
    have l15 := put_len "page" (.non) (putF "gone" (.non) (putF "way" (.ref a5) (putF "hands" (.int 0) (putF "number" (.int number) (putF "last" (.int number) (putF "wishing" (.bl false) (putF "leaving" (.bl false) (putF "wished" (.int 0) (putF "feared" (.int 0) (putF "lost" (.ref a3) (putF "pages" (.ref a2) (putF "history" (.ref a1) (putF "room" (.int room) (putF "me" (.int me) [])))))))))))))) (m := 14) l14
    have i15 := i14.put (fs' := (putF "page" (.non) (putF "gone" (.non) (putF "way" (.ref a5) (putF "hands" (.int 0) (putF "number" (.int number) (putF "last" (.int number) (putF "wishing" (.bl false) (putF "leaving" (.bl false) (putF "wished" (.int 0) (putF "feared" (.int 0) (putF "lost" (.ref a3) (putF "pages" (.ref a2) (putF "history" (.ref a1) (putF "room" (.int room) (putF "me" (.int me) [])))))))))))))))) hh
    refine ⟨_, rfl, h, _, dx, _, rfl, i15.2.2.1, cl_Hand A.d, no_Hand_change A.d, by omega, ?_⟩
    have l16 := put_len "change" (.non) (putF "page" (.non) (putF "gone" (.non) (putF "way" (.ref a5) (putF "hands" (.int 0) (putF "number" (.int number) (putF "last" (.int number) (putF "wishing" (.bl false) (putF "leaving" (.bl false) (putF "wished" (.int 0) (putF "feared" (.int 0) (putF "lost" (.ref a3) (putF "pages" (.ref a2) (putF "history" (.ref a1) (putF "room" (.int room) (putF "me" (.int me) []))))))))))))))) (m := 15) l15
    have i16 := i15.put (fs' := (putF "change" (.non) (putF "page" (.non) (putF "gone" (.non) (putF "way" (.ref a5) (putF "hands" (.int 0) (putF "number" (.int number) (putF "last" (.int number) (putF "wishing" (.bl false) (putF "leaving" (.bl false) (putF "wished" (.int 0) (putF "feared" (.int 0) (putF "lost" (.ref a3) (putF "pages" (.ref a2) (putF "history" (.ref a1) (putF "room" (.int room) (putF "me" (.int me) []))))))))))))))))) hh
    obtain ⟨_, kpI, hI, hW⟩ := i16
    obtain ⟨D, hD⟩ : ∃ D : Hd, D = ⟨me, room, 0, 0, number, number, 0, false, false, a1, a2, a5, .ref a3, .non, .non, .non, dx, []⟩ := ⟨_, rfl⟩
    have hins : _ = some (hdO K D) := hI.trans (by rw [hD]; exact congrArg (fun z => some (HO.ins (He.ga K "Hand") dx z)) (HandR.laid (Hd.rc ⟨me, room, 0, 0, number, number, 0, false, false, a1, a2, a5, .ref a3, .non, .non, .non, dx, []⟩)))
    have w1 := hW (a1, .lst []) (by simp)
    have w2 := hW (a2, .tup []) (by simp)
    have w4 := hW (a4, .tup []) (by simp)
    have w5 := hW (a5, .tup [.int 0, .int 0, .ref a4]) (by simp)
    subst hD
    have hd : HdC K _ h (⟨me, room, 0, 0, number, number, 0, false, false, a1, a2, a5, .ref a3, .non, .non, .non, dx, []⟩ : Hd) := ⟨hins, w1.1, fun _ h => (nomatch h)⟩
    refine ⟨_, rfl, _, rfl, hands, me, rfl, m0, _, rfl, ite2 (fun _ => ?_) (fun _ => ?_)⟩
    · refine ⟨_, rfl, h, dx, _, rfl, hd.ins, by kernel_rfl, _, rfl, _, rfl, _, rfl, Nat.zero_le _, fun b1 hb1 => ⟨(by show 3 ≤ sizeLine; decide), fun b2 hb2 => ?_⟩⟩
      have s1 := same_new (o := .tup []) hb1
      have s2 := same_new (o := .tup [.int 0, .int hands, .ref b1]) hb2
      have hd2 := (hd.same s1).same s2
      refine ⟨h, _, number, hands, b2, 0, hands, b1, rfl, hd2, upd_same, Nat.zero_le _, m0, m62, fun wi a p S c C H' hwi kp hd3 np => ?_⟩
      have ex := hd2.ext2 kp
      have kpA : Kp [h] H H' := fun b o e n => kp b o (s2 _ _ (s1 _ _ (kpI b o e n))) fun m => by
        rcases List.mem_cons.mp m with z | m
        · exact n (by rw [z]; exact List.mem_cons_self)
        · rw [List.mem_singleton.mp m] at e
          exact nomatch (e.symm.trans w1.2)
      have hl : (if number > number then number else number) = number := by split <;> rfl
      have w2' := s2 _ _ (s1 _ _ w2.1)
      refine k _ (some ⟨p, S, c, C⟩) H' kpA (HOK.stood (N := 0) hd3 np rfl rfl rfl hl (fun z => nomatch (z.symm.trans hd2.hist)) hme m0 m62 (fun y hy => (nomatch hy)) (bit_zero _) (by show 0 ≤ hands; omega) (hwi (Int.le_refl _)) ⟨[], ex _ _ w2' trivial, fun _ h => (nomatch h), Nat.le_refl _⟩ (Nat.zero_le _) (by show 1 ≤ B; omega) (fun y hy => (nomatch hy)) (fun y hy => (nomatch hy)) ⟨0, hands, b1, [], ex _ _ upd_same trivial, ex _ _ (s2 _ _ upd_same) trivial, fun _ h => (nomatch h), Nat.zero_le _⟩) rfl rfl (fun b hb => ?_) (Bd.fresh np.agr np.reps)
      rcases np.foot b hb with e | e | e
      · exact .inl e
      · right; rw [e]; exact w1.2
      · rcases kpI.nn b (s1.free (s2.free e)) with z | z
        · exact .inl (List.mem_singleton.mp z)
        · exact .inr z
    · refine k _ none _ kpI ⟨hd, hme, m0, m62, (fun y hy => (nomatch hy)), bit_zero _, Int.le_refl _, Int.le_refl _, ⟨0, ⟨[], w2.1, fun _ h => (nomatch h), Nat.le_refl _⟩, Nat.zero_le _⟩, Nat.zero_le _, .inl rfl, fun y hy => (nomatch hy), fun y hy => (nomatch hy), ⟨rfl, rfl⟩⟩ rfl rfl (fun b hb => ?_) Bd.none
      rcases List.mem_cons.mp hb with e | hb
      · exact .inl e
      · right
        rw [List.mem_singleton.mp hb]; exact w1.2
theorem mk_ok_Hand (A : All P w K mg base CT) {T : Int → Nm → Prop} {B : Nat}: KOk P w K mg base CX0 8 "Hand" (He.ga K "Hand") ["self", "me", "hands", "number", "room"] [] (exC fun cs => spHInit K cs T B) := by
  obtain ⟨fd, F, ok⟩ := fk_Hand_init A (T := T) (B := B)
  obtain ⟨ds, v, b⟩ := F.binds1 (ps := ["self", "me", "hands", "number", "room"]) 5 2 (fun z => nomatch z) rfl (fun T kV doc pm an cdv ct us its h1 h2 => match us, its, h1, h2 with | [_, _, _, _, _], [_, _], _, _ => ⟨_, rfl, rfl⟩)
  exact ⟨_, fd, ds, ok, mk_Hand A.d, gl_Hand A.kin A.ns A.d, b, v⟩

end
end G
namespace G
open PySem PySem.Spec L2
open PyProof.Rows hiding St
section
variable {P : Program} {w : World} {K : PySem.W.Frag} {mg : Str → Option Value} {base : Heap} {CT : Addr × Addr}
/-! ### the law's own numbers -/
theorem nzI (j : Int) (h : j ≠ 0 := by decide) : j ≠ 0 := h
def spCellAt (K : PySem.W.Frag) : Sp := fun vs H Q _ => ∃ (a : Addr) (ns : List Int) (k : Int), vs = [.ref a, .int k] ∧ SqL K H a (ns.map V.int) ∧ 0 ≤ k ∧ ∀ v : Int, Q (.int v) H
theorem ok_law_cell_at (A : All P w K mg base CT) : DOk P w K mg base CX0 1 "_law_cell_at" ["_law_script", "_law_k"] [] (spCellAt K) := by
  obtain ⟨fd, F⟩ := fu_law_cell_at A.d
  refine ⟨_, fd, [], FunD.ok0 F sc_law_cell_at (fun vs H Q E h => ?_) (fun cdv A0 outer s H vs Q E hr h => ?_), gl_law_cell_at A.kin A.ns A.d, F.kp, F.bindsN fun _ _ _ _ _ _ us hl => match us, hl with | [_, _], _ => rfl, .nil⟩
  · obtain ⟨a, ns, k0, rfl, hs, h0, k⟩ := h
    rfl
  · obtain ⟨a, ns, k0, rfl, hs, h0, k⟩ := h
    have hu := hu_of hr
    refine ⟨_, pss_cons (ps_if (pt_cmpR op_lt (pv 1) (pe_callB call_len_seq (by rfl) (fr_len A.kin A.ns A.d) (by decide +kernel) (pa_cons (pv 0) pa_nil)) (nomark _)) (pss_one (ps_ret (pe_ix ix_list (pv 0) (pv 1) (fun _ _ => rfl)))) pss_nil)
      (pss_one (ps_ret pe_int)), ?_⟩
    obtain ⟨j, rfl⟩ := Int.eq_ofNat_of_zero_le h0
    refine ⟨_, rfl, _, rfl, a, _, rfl, .inl hs, _, _, rfl, rfl, _, rfl, ite2 (fun e => ?_) (fun _ => k 0)⟩
    have e2 : (j : Int) < ((ns.map V.int).length : Int) := of_decide_eq_true e
    have hj : j < ns.length := by rw [List.length_map] at e2; omega
    exact ⟨_, rfl, _, rfl, a, _, _, V.int ns[j], rfl, rfl, hs, atI_nat (j := j) (by rw [List.getElem?_map, List.getElem?_eq_getElem hj]; rfl), k _⟩
def spMixed : Sp := fun vs H Q _ => ∃ c k : Int, vs = [.int c, .int k] ∧ 0 ≤ k ∧ k ≤ 100 ∧ ∀ v : Int, Q (.int v) H
theorem fm {a b : Int} (h : 0 < b) : 0 ≤ a.fmod b ∧ a.fmod b < b := ⟨Int.fmod_nonneg_of_pos a h, Int.fmod_lt_of_pos a h⟩
theorem ok_law_mixed (A : All P w K mg base CT) : DOk P w K mg base CX0 1 "_law_mixed" ["_law_cell", "_law_k"] [] spMixed := by
  obtain ⟨fd, F⟩ := fu_law_mixed A.d
  refine ⟨_, fd, [], FunD.ok0 F sc_law_mixed (fun vs H Q E h => ?_) (fun cdv A0 outer s H vs Q E hr h => ?_), gl_law_mixed A.kin A.ns A.d, F.kp, F.bindsN fun _ _ _ _ _ _ us hl => match us, hl with | [_, _], _ => rfl, .nil⟩
  · obtain ⟨c, k0, rfl, h0, h1, k⟩ := h
    rfl
  · obtain ⟨c, k0, rfl, h0, h1, k⟩ := h
    have hu := hu_of hr
    refine ⟨_, pss_cons (ps_set (i := 2) sc_law_mixed.nd rfl (by first | exact Or.inl rfl | exact Or.inr rfl) (pe_op op_modN (pe_op op_mul (pe_op op_add (pe_op op_add (pe_op op_modN (pv 0) pe_int) (pe_op op_mul pe_int (pv 1))) pe_int) pe_int) pe_int))
      (pss_one (ps_ret (pe_op op_modN (pe_op op_mul (pv 2) (pe_op op_add (pe_op op_fdivN (pv 2) pe_int) pe_int)) pe_int))), ?_⟩
    obtain ⟨f1, f2⟩ := fm (a := c) (b := 2147483647) (by decide)
    refine ⟨_, rfl, _, _, rfl, rfl, nzI 2147483647, _, rfl, _, _, rfl, rfl, .inl ⟨by decide, by decide⟩, _, _, rfl, rfl, _, _, rfl, rfl, _, _, rfl, rfl, .inl ⟨by omega, by omega⟩, _, _, rfl, rfl, nzI 2147483647, ?_⟩
    obtain ⟨g1, g2⟩ := fm (a := (c.fmod 2147483647 + 7919 * k0 + 1) * 48271) (b := 2147483647) (by decide)
    exact ⟨_, rfl, _, rfl, _, _, rfl, rfl, ⟨by decide, by decide⟩, _, _, rfl, rfl, _, _, rfl, rfl, .inl ⟨by omega, by omega⟩, _, _, rfl, rfl, nzI 2147483647, k _⟩
theorem ok_law_drawn (A : All P w K mg base CT) : DOk P w K mg base CX0 2 "_law_drawn" ["_law_cell", "_law_k"] [] spMixed := by
  obtain ⟨fd, F⟩ := fu_law_drawn A.d
  refine ⟨_, fd, [], FunD.ok0 F sc_law_drawn (fun vs H Q E h => ?_) (fun cdv A0 outer s H vs Q E hr h => ?_), gl_law_drawn A.kin A.ns A.d, F.kp, F.bindsN fun _ _ _ _ _ _ us hl => match us, hl with | [_, _], _ => rfl, .nil⟩
  · obtain ⟨c, k0, rfl, h0, h1, k⟩ := h
    rfl
  · obtain ⟨c, k0, rfl, h0, h1, k⟩ := h
    have hu := hu_of hr
    refine ⟨_, pss_cons (ps_if (pt_cmpR op_eq (pe_op op_modN (pv 0) pe_int) pe_int (nomark _)) (pss_one (ps_ret (pe_op op_fdivN (pv 0) pe_int))) pss_nil)
      (pss_one (ps_ret ((ok_law_mixed A).pe hr pass0 (pa_cons (pe_op op_fdivN (pv 0) pe_int) (pa_cons (pv 1) pa_nil))))), ?_⟩
    refine ⟨_, rfl, _, _, rfl, rfl, nzI 2, rfl, _, rfl, ite2 (fun _ => ?_) (fun _ => ?_)⟩
    · exact ⟨_, rfl, _, _, rfl, rfl, ⟨by decide, by decide⟩, k _⟩
    · exact ⟨_, rfl, _, _, rfl, rfl, ⟨by decide, by decide⟩, _, rfl, _, k0, rfl, h0, h1, fun v => k v⟩
def spWord : Sp := fun vs H Q _ => ∃ c : Int, vs = [.int c] ∧ ∀ v : Int, v.natAbs < 10 ^ 60 → Q (.int v) H
theorem ok_law_word (A : All P w K mg base CT) : DOk P w K mg base CX0 1 "_law_word" ["_law_cell"] [] spWord := by
  obtain ⟨fd, F⟩ := fu_law_word A.d
  refine ⟨_, fd, [], FunD.ok0 F sc_law_word (fun vs H Q E h => ?_) (fun cdv A0 outer s H vs Q E hr h => ?_), gl_law_word A.kin A.ns A.d, F.kp, F.bindsN fun _ _ _ _ _ _ us hl => match us, hl with | [_], _ => rfl, .nil⟩
  · obtain ⟨c, rfl, k⟩ := h
    rfl
  · obtain ⟨c, rfl, k⟩ := h
    have hu := hu_of hr
    refine ⟨_, pss_cons (ps_if (pt_cmpR op_ge (pv 0) (pe_op op_pow pe_int pe_int) (nomark _)) (pss_one (ps_ret (pe_op op_add (pe_op op_sub (pe_op op_modN (pe_op op_fdivN (pv 0) (pe_op op_pow pe_int pe_int)) (pe_op op_sub (pe_op op_mul pe_int (pe_op op_pow pe_int pe_int)) pe_int)) (pe_op op_pow pe_int pe_int)) pe_int))) pss_nil)
      (pss_one (ps_ret (pe_op op_modN (pv 0) (pe_op op_pow pe_int pe_int)))), ?_⟩
    refine ⟨_, rfl, _, _, rfl, rfl, ⟨by decide, by decide, by decide⟩, _, _, rfl, rfl, _, rfl, ite2 (fun e => ?_) (fun e => ?_)⟩
    · refine ⟨_, rfl, _, _, rfl, rfl, ⟨by decide, by decide, by decide⟩, _, _, rfl, rfl, ⟨by decide, by decide⟩, _, _, rfl, rfl, ⟨by decide, by decide, by decide⟩, _, _, rfl, rfl, .inl ⟨by decide, by decide⟩, _, _, rfl, rfl, _, _, rfl, rfl, nzI (2 * 10 ^ (60 : Int).toNat - 1), _, _, rfl, rfl, ⟨by decide, by decide, by decide⟩, _, _, rfl, rfl, _, _, rfl, rfl, k _ ?_⟩
      obtain ⟨f1, f2⟩ := fm (a := c.fdiv (10 ^ (9 : Int).toNat)) (b := 2 * 10 ^ (60 : Int).toNat - 1) (by decide)
      rw [show (10 : Int) ^ (60 : Int).toNat = 1000000000000000000000000000000000000000000000000000000000000 by decide] at *
      rw [show (10 : Nat) ^ 60 = 1000000000000000000000000000000000000000000000000000000000000 by decide]
      omega
    · refine ⟨_, rfl, _, _, rfl, rfl, ⟨by decide, by decide, by decide⟩, _, _, rfl, rfl, nzI (10 ^ (9 : Int).toNat), k _ ?_⟩
      obtain ⟨f1, f2⟩ := fm (a := c) (b := 10 ^ (9 : Int).toNat) (by decide)
      rw [show (10 : Int) ^ (9 : Int).toNat = 1000000000 by decide] at *
      rw [show (10 : Nat) ^ 60 = 1000000000000000000000000000000000000000000000000000000000000 by decide]
      omega
def spLHands : Sp := fun vs H Q _ => ∃ (c : Int) (n : Nat), vs = [.int c, .int n] ∧ n ≤ 4 ∧ ∀ q (ns : List Int) H', H q = none → Same H H' → H' q = some (.lst (ns.map V.int)) → ns.length = n → ns.Nodup → (∀ x ∈ ns, 0 ≤ x ∧ x ≤ 60) → Q (.ref q) H'
def handN (c : Int) (i : Nat) : Int := c.fmod 40 + (i : Int) * (1 + (c.fdiv 40).fmod 7)
theorem handN_lt (c : Int) {i j : Nat} (h : i < j) : handN c i < handN c j := by
  unfold handN
  obtain ⟨g1, g2⟩ := fm (a := c.fdiv 40) (b := 7) (by decide)
  have := Int.mul_lt_mul_of_pos_right (show (i : Int) < (j : Int) by omega) (show 0 < 1 + (c.fdiv 40).fmod 7 by omega)
  omega
theorem handN_rg (c : Int) {i : Nat} (h : i < 4) : 0 ≤ handN c i ∧ handN c i ≤ 60 := by
  unfold handN
  obtain ⟨f1, f2⟩ := fm (a := c) (b := 40) (by decide)
  obtain ⟨g1, g2⟩ := fm (a := c.fdiv 40) (b := 7) (by decide)
  have h1 : 0 ≤ (i : Int) * (1 + (c.fdiv 40).fmod 7) := Int.mul_nonneg (by omega) (by omega)
  have h2 : (i : Int) * (1 + (c.fdiv 40).fmod 7) ≤ 3 * 7 := Int.mul_le_mul (by omega) (by omega) (by omega) (by omega)
  omega
theorem handN_nd (c : Int) (n : Nat) : ((List.range n).map (handN c)).Nodup := by
  refine List.pairwise_map.mpr (List.pairwise_lt_range.imp fun h e => ?_)
  have := handN_lt c h
  omega
theorem ok_law_hands (A : All P w K mg base CT) : DOk P w K mg base CX0 1 "_law_hands" ["_law_cell", "_law_amount"] [] spLHands := by
  obtain ⟨fd, F⟩ := fu_law_hands A.d
  refine ⟨_, fd, [], FunD.ok0 F sc_law_hands (fun vs H Q E h => ?_) (fun cdv A0 outer s H vs Q E hr h => ?_), gl_law_hands A.kin A.ns A.d, F.kp, F.bindsN fun _ _ _ _ _ _ us hl => match us, hl with | [_, _], _ => rfl, .nil⟩
  · obtain ⟨c, n, rfl, hn, k⟩ := h
    rfl
  · obtain ⟨c, n, rfl, hn, k⟩ := h
    have hu := hu_of hr
    refine ⟨_, pss_one (ps_ret (pe_lc (own := [("_law_k", 2)]) (g := gName 2) (tt := tYes) rfl sc_law_hands.nd (pi_range1 (by rfl) (fr_range A.kin A.ns A.d) (pa_cons (pv 1) pa_nil)) (blkOk_by (N := ["_law_cell", "_law_amount", "_law_k"]) (sc := defScope s_law_hands) (by decide +kernel)) (fun _ _ _ _ _ => pg_name (i := 2) sc_law_hands.nd rfl (Or.inl rfl)) (fun _ _ _ _ _ => pts_nil) (fun _ _ _ _ _ => (pe_op op_add (pe_op op_modN (pv 0) pe_int) (pe_op op_mul (pv 2) (pe_op op_add pe_int (pe_op op_modN (pe_op op_fdivN (pv 0) pe_int) pe_int))))))), ?_⟩
    refine ⟨_, rfl, _, rfl, by omega, by omega, fun D hD => lc_range (lo := 0) (n := n) (fun i H' => Same H H' ∧ H' D = some (.lst (((List.range i).map (handN c)).map V.int))) ⟨same_new hD, upd_same⟩ ?_ ?_⟩
    · rintro i H1 hi ⟨s1, h1⟩
      obtain ⟨g1, g2⟩ := fm (a := c.fdiv 40) (b := 7) (by decide)
      refine ⟨rfl, _, rfl, _, _, rfl, rfl, nzI 40, _, rfl, _, rfl, _, _, rfl, rfl, ⟨by decide, by decide⟩, _, _, rfl, rfl, nzI 7, _, _, rfl, rfl, _, _, rfl, rfl, .inl ⟨by omega, by omega⟩, _, _, rfl, rfl, _, h1, ?_, same_set s1 hD, ?_⟩
      · rw [List.length_map, List.length_map, List.length_range]; exact small6 (by omega)
      · rw [upd_same, List.range_succ, List.map_append, List.map_append]
        show some (HO.lst (_ ++ [V.int (c.fmod 40 + (0 + (i : Int)) * (1 + (c.fdiv 40).fmod 7))])) = some (.lst (_ ++ [V.int (handN c i)]))
        rw [Int.zero_add]; rfl
    · rintro H1 ⟨s1, h1⟩
      refine k D _ H1 (hD) s1 h1 (by rw [List.length_map, List.length_range]) (handN_nd c n) fun x hx => ?_
      obtain ⟨i, hi, rfl⟩ := List.mem_map.mp hx
      exact handN_rg c (Nat.lt_of_lt_of_le (List.mem_range.mp hi) hn)

end
end G
namespace G
open PySem PySem.Spec L2
open PyProof.Rows hiding St
section
variable {P : Program} {w : World} {K : PySem.W.Frag} {mg : Str → Option Value} {base : Heap} {CT : Addr × Addr}
/-! ### the world: all hands -/
abbrev HL := List (Addr × Hd × Option In)
abbrev ft (e : Addr × Hd × Option In) : List Addr := foot e.1 e.2.1 e.2.2
def TT (L : HL) (g : Int) (x : Nm) : Prop := ∃ e ∈ L, e.2.1.me = g ∧ x ∈ tks e.2.1.evs
def Outs (a : Addr) (L : HL) : Prop := ∀ e ∈ L, a ∉ ft e
def refsH (L : HL) : List V := (L.map (·.1)).map V.ref
theorem refsH_len (L : HL) : (refsH L).length = L.length := by unfold refsH; rw [List.length_map, List.length_map]
theorem refsH_get {L : HL} {i : Nat} {e : Addr × Hd × Option In} (h : L[i]? = some e) : (refsH L)[i]? = some (.ref e.1) := by
  unfold refsH
  rw [List.getElem?_map, List.getElem?_map, h]; rfl
structure WOK (K : PySem.W.Frag) (CT : Addr × Addr) (cs : List Int) (ms : List Nm) (B : Nat) (H : Hp) (L : HL) : Prop where
  hk : ∀ e ∈ L, HOK K cs ms (TT L) B H e.1 e.2.1 e.2.2
  bd : ∀ e ∈ L, Bd H e.2.2
  dj : ∀ (i j : Nat) (e f : Addr × Hd × Option In), L[i]? = some e → L[j]? = some f → i ≠ j → ∀ b ∈ ft e, b ∉ ft f
  tab : Tb CT H
  nd : ∀ (i j : Nat) (e f : Addr × Hd × Option In), L[i]? = some e → L[j]? = some f → e.2.1.me = f.2.1.me → i = j
  c62 : ∀ c ∈ cs, 0 ≤ c ∧ c ≤ 62
  lcs : cs.length ≤ 60
  lms : ms.length ≤ 50
structure Wm (H : Hp) (L : HL) (H' : Hp) (L' : HL) : Prop where
  ad : L'.map (·.1) = L.map (·.1)
  me : L'.map (·.2.1.me) = L.map (·.2.1.me)
  kp : ∀ a o, H a = some o → Nt o → Outs a L → H' a = some o ∧ Outs a L'
  T : ∀ g x, TT L g x → TT L' g x
  ext : Ext H H'
section
variable {CT : Addr × Addr} {cs : List Int} {ms ms' : List Nm} {B B' : Nat} {H H1 H2 : Hp} {L L1 L2' : HL}
theorem Wm.refl : Wm H L H L := ⟨rfl, rfl, fun _ _ h _ o => ⟨h, o⟩, fun _ _ h => h, .refl⟩
theorem Wm.trans (a : Wm H L H1 L1) (b : Wm H1 L1 H2 L2') : Wm H L H2 L2' := ⟨b.ad.trans a.ad, b.me.trans a.me, fun x o h n q => let ⟨h1, q1⟩ := a.kp x o h n q; b.kp x o h1 n q1, fun g x h => b.T g x (a.T g x h), a.ext.trans b.ext⟩
theorem Wm.same (s : Same H H1) : Wm H L H1 L := ⟨rfl, rfl, fun a o h _ q => ⟨s a o h, q⟩, fun _ _ h => h, .of s⟩
theorem Wm.len (a : Wm H L H1 L1) : L1.length = L.length := by
  have := congrArg List.length a.ad
  rwa [List.length_map, List.length_map] at this
theorem Wm.refs (a : Wm H L H1 L1) : refsH L1 = refsH L := by unfold refsH; rw [a.ad]
theorem WOK.same (w : WOK K CT cs ms B H L) (s : Same H H1) : WOK K CT cs ms B H1 L := ⟨fun e he => (w.hk e he).same s, fun e he => (w.hk e he).bdx (.of s) (w.bd e he), w.dj, w.tab.ext s, w.nd, w.c62, w.lcs, w.lms⟩
theorem WOK.up (w : WOK K CT cs ms B H L) (h : B ≤ B') : WOK K CT cs ms B' H L := ⟨fun e he => (w.hk e he).up h, w.bd, w.dj, w.tab, w.nd, w.c62, w.lcs, w.lms⟩
theorem WOK.own (w : WOK K CT cs ms B H L) {i : Nat} {e : Addr × Hd × Option In} (h : L[i]? = some e) : ∀ x, TT L e.2.1.me x → x ∈ tks e.2.1.evs := fun x ⟨f, hf, e1, e2⟩ => by
  obtain ⟨j, hj⟩ := List.mem_iff_getElem?.mp hf
  have := w.nd i j e f h hj e1.symm
  subst this
  rw [h] at hj; cases hj; exact e2
theorem TT.own {e : Addr × Hd × Option In} {i : Nat} (h : L[i]? = some e) : ∀ x ∈ tks e.2.1.evs, TT L e.2.1.me x := fun x hx => ⟨e, List.mem_of_getElem? h, rfl, hx⟩
/-- one hand does a deed -/
theorem WOK.deed {j : Nat} {e : Addr × Hd × Option In} {D' : Hd} {i' : Option In} (w : WOK K CT cs ms B H L) (hj : L[j]? = some e) (mv : Mv CT (ft e) (foot e.1 D' i') H H1) (ho : HOK K cs ms' (TT L) B' H1 e.1 D' i') (gr : Gr e.2.1 D') (hbd : Bd H e.2.2 → Bd H1 i') (hB : B ≤ B')
    (s : ∀ x ∈ ms, x ∈ ms') (s2 : ∀ x ∈ ms', x ∈ ms ∨ x.2.1 = e.2.1.me) (hl : ms'.length ≤ 50) : WOK K CT cs ms' B' H1 (L.set j (e.1, D', i')) ∧ Wm H L H1 (L.set j (e.1, D', i')) := by
  have hjl : j < L.length := (List.getElem?_eq_some_iff.mp hj).1
  have he := w.hk e (List.mem_of_getElem? hj)
  have get : ∀ (i : Nat) (f : Addr × Hd × Option In), (L.set j (e.1, D', i'))[i]? = some f → (i = j ∧ f = (e.1, D', i')) ∨ (i ≠ j ∧ L[i]? = some f) := fun i f h => by
    by_cases q : i = j
    · subst q
      rw [List.getElem?_set_self hjl] at h
      exact .inl ⟨rfl, (Option.some.inj h).symm⟩
    · rw [List.getElem?_set_ne (fun z => q z.symm)] at h
      exact .inr ⟨q, h⟩
  have hT : ∀ g x, TT L g x → TT (L.set j (e.1, D', i')) g x := fun g x ⟨f, hf, e1, e2⟩ => by
    obtain ⟨i, hi⟩ := List.mem_iff_getElem?.mp hf
    by_cases q : i = j
    · subst q
      rw [hj] at hi; cases hi
      exact ⟨(e.1, D', i'), List.mem_of_getElem? (List.getElem?_set_self hjl), gr.me.trans e1, gr.tks x e2⟩
    · exact ⟨f, List.mem_of_getElem? (i := i) (by rw [List.getElem?_set_ne (fun z => q z.symm)]; exact hi), e1, e2⟩
  have ex := he.tr.extT mv.kt
  have nw : ∀ {b : Addr} {o : HO}, H b = some o → b ∉ ft e → b ∉ foot e.1 D' i' := fun hb n m => by
    rcases mv.fr _ m with z | z
    · exact n z
    · rw [hb] at z; cases z
  refine ⟨⟨fun f hf => ?_, fun f hf => ?_, fun a b f g hf hg n x hx => ?_, mv.tab w.tab, fun a b f g hf hg q => ?_, w.c62, w.lcs, hl⟩, ?_, ?_, fun a o h n q => ⟨mv.kt a o h (q e (List.mem_of_getElem? hj)) n, fun f hf => ?_⟩, hT, ex⟩
  · obtain ⟨i, hi⟩ := List.mem_iff_getElem?.mp hf
    rcases get i f hi with ⟨_, rfl⟩ | ⟨q, hi⟩
    · exact ho.mono (Nat.le_refl _) (fun g x _ h => hT g x h) (fun _ z => z) fun _ z _ => z
    · have hf' := w.hk f (List.mem_of_getElem? hi)
      have := hf'.keep (H1 := H1) (fun b hb u hu => mv.kt b u hu (w.dj i j f e hi hj q b hb) (by
        obtain ⟨v, hv, pv⟩ := hf'.tr b hb
        rw [hv] at hu; cases hu; exact pv.nt)) ex
      refine this.mono hB (fun g x _ h => hT g x h) s fun x hx ex2 => ?_
      rcases s2 x hx with z | z
      · exact z
      · exact absurd (w.nd i j f e hi hj (ex2.symm.trans z)) q
  · obtain ⟨i, hi⟩ := List.mem_iff_getElem?.mp hf
    rcases get i f hi with ⟨_, rfl⟩ | ⟨q, hi⟩
    · exact hbd (w.bd e (List.mem_of_getElem? hj))
    · exact (w.hk f (List.mem_of_getElem? hi)).bdx ex (w.bd f (List.mem_of_getElem? hi))
  · rcases get a f hf with ⟨qa, rfl⟩ | ⟨qa, hf⟩
    · rcases get b g hg with ⟨qb, rfl⟩ | ⟨qb, hg⟩
      · exact absurd (qa.trans qb.symm) n
      · intro m
        rcases mv.fr x hx with z | z
        · exact w.dj j b e g hj hg (fun z => qb z.symm) x z m
        · obtain ⟨u, hu, _⟩ := (w.hk g (List.mem_of_getElem? hg)).tr x m
          rw [hu] at z; cases z
    · rcases get b g hg with ⟨qb, rfl⟩ | ⟨qb, hg⟩
      · obtain ⟨u, hu, _⟩ := (w.hk f (List.mem_of_getElem? hf)).tr x hx
        exact nw hu (w.dj a j f e hf hj qa x hx)
      · exact w.dj a b f g hf hg n x hx
  · rcases get a f hf with ⟨qa, rfl⟩ | ⟨qa, hf⟩
    · rcases get b g hg with ⟨qb, rfl⟩ | ⟨qb, hg⟩
      · exact qa.trans qb.symm
      · exact qa.trans (w.nd j b e g hj hg (gr.me.symm.trans q))
    · rcases get b g hg with ⟨qb, rfl⟩ | ⟨qb, hg⟩
      · exact (w.nd a j f e hf hj (q.trans gr.me)).trans qb.symm
      · exact w.nd a b f g hf hg q
  · refine List.ext_getElem? fun i => ?_
    rw [List.getElem?_map, List.getElem?_map]
    by_cases q : i = j
    · subst q
      rw [List.getElem?_set_self hjl, hj]; rfl
    · rw [List.getElem?_set_ne (fun z => q z.symm)]
  · refine List.ext_getElem? fun i => ?_
    rw [List.getElem?_map, List.getElem?_map]
    by_cases q : i = j
    · subst q
      rw [List.getElem?_set_self hjl, hj]
      show some D'.me = some e.2.1.me
      rw [gr.me]
    · rw [List.getElem?_set_ne (fun z => q z.symm)]
  · obtain ⟨i, hi⟩ := List.mem_iff_getElem?.mp hf
    rcases get i f hi with ⟨_, rfl⟩ | ⟨_, hi⟩
    · exact nw h (q e (List.mem_of_getElem? hj))
    · exact q f (List.mem_of_getElem? hi)
/-- a hand is made -/
theorem WOK.add {x : Addr} {D : Hd} {i : Option In} {T0 : Int → Nm → Prop} (w : WOK K CT cs [] B H L) (sm : Same H H1) (ho : HOK K cs [] T0 B H1 x D i) (hT0 : ∀ g y, ¬ T0 g y) (fr : ∀ b ∈ foot x D i, H b = none) (htk : tks D.evs = []) (hne : ∀ e ∈ L, e.2.1.me ≠ D.me) (hbd : Bd H1 i) : WOK K CT cs [] B H1 (L ++ [(x, D, i)]) := by
  have hT : ∀ g y, TT L g y → TT (L ++ [(x, D, i)]) g y := fun g y ⟨f, hf, z⟩ => ⟨f, List.mem_append_left _ hf, z⟩
  have get : ∀ (k : Nat) (f : Addr × Hd × Option In), (L ++ [(x, D, i)])[k]? = some f → (k = L.length ∧ f = (x, D, i)) ∨ L[k]? = some f := fun k f h => by
    by_cases q : k < L.length
    · rw [List.getElem?_append_left q] at h; exact .inr h
    · rw [List.getElem?_append_right (by omega)] at h
      cases e : k - L.length with
      | zero =>
        rw [e] at h
        exact .inl ⟨by omega, (Option.some.inj h).symm⟩
      | succ n => rw [e] at h; exact (nomatch h)
  refine ⟨fun f hf => ?_, fun f hf => ?_, fun a b f g hf hg n y hy => ?_, w.tab.ext sm, fun a b f g hf hg q => ?_, w.c62, w.lcs, w.lms⟩
  · rcases List.mem_append.mp hf with hf | hf
    · exact ((w.hk f hf).same sm).mono (Nat.le_refl _) (fun g y _ h => hT g y h) (fun _ z => z) fun _ z _ => z
    · rw [List.mem_singleton.mp hf]
      exact ho.mono (Nat.le_refl _) (fun g y _ h => absurd h (hT0 g y)) (fun _ z => z) fun _ z _ => z
  · rcases List.mem_append.mp hf with hf | hf
    · exact (w.hk f hf).bdx (.of sm) (w.bd f hf)
    · rw [List.mem_singleton.mp hf]; exact hbd
  · rcases get a f hf with ⟨qa, rfl⟩ | hf
    · rcases get b g hg with ⟨qb, rfl⟩ | hg
      · exact absurd (qa.trans qb.symm) n
      · intro m
        obtain ⟨u, hu, _⟩ := (w.hk g (List.mem_of_getElem? hg)).tr y m
        rw [fr y hy] at hu; cases hu
    · rcases get b g hg with ⟨qb, rfl⟩ | hg
      · intro m
        obtain ⟨u, hu, _⟩ := (w.hk f (List.mem_of_getElem? hf)).tr y hy
        rw [fr y m] at hu; cases hu
      · exact w.dj a b f g hf hg n y hy
  · rcases get a f hf with ⟨qa, rfl⟩ | hf
    · rcases get b g hg with ⟨qb, rfl⟩ | hg
      · exact qa.trans qb.symm
      · exact absurd q.symm (hne g (List.mem_of_getElem? hg))
    · rcases get b g hg with ⟨qb, rfl⟩ | hg
      · exact absurd q (hne f (List.mem_of_getElem? hf))
      · exact w.nd a b f g hf hg q
end
/-- the lists that the law itself holds -/
structure Lst (H : Hp) (L : HL) (cs : List Int) (nl hl : Addr) : Prop where
  n : H nl = some (.lst (cs.map V.int))
  h : H hl = some (.lst (refsH L))
  on : Outs nl L
  oh : Outs hl L
  me : L.map (·.2.1.me) = cs
  l2 : 2 ≤ L.length
  l4 : L.length ≤ 4
theorem Lst.wm {H H' : Hp} {L L' : HL} {cs : List Int} {nl hl : Addr} (l : Lst H L cs nl hl) (m : Wm H L H' L') : Lst H' L' cs nl hl := by
  obtain ⟨h1, h2⟩ := m.kp _ _ l.n (fun _ z => nomatch z) l.on
  obtain ⟨h3, h4⟩ := m.kp _ _ l.h (fun _ z => nomatch z) l.oh
  exact ⟨h1, by rw [m.refs]; exact h3, h2, h4, m.me.trans l.me, by rw [m.len]; exact l.l2, by rw [m.len]; exact l.l4⟩

end
end G
namespace G
open PySem PySem.Spec L2
open PyProof.Rows hiding St
section
variable {P : Program} {w : World} {K : PySem.W.Frag} {mg : Str → Option Value} {base : Heap} {CT : Addr × Addr}
/-! ### a method that may raise, in a try -/
def tMethE (C : Addr) (m : Str) (sp : Sp) (E : L2.St → XK) (ta : TE) (t : TA) : TE := fun σ H Q => ta σ H fun x H1 => ∃ a dx fs, x = .ref a ∧ H1 a = some (.ins C dx fs) ∧ fs.lookup m = none ∧ t σ H1 fun vs H2 => sp (x :: vs) H2 Q (E σ)
section
variable {X : Cx} {CX : CXT} {k j : Nat} {C : Addr} {ps : List Str} {sp : Sp} {E : L2.St → XK} {m : Str} {pos apos : Pos} {e o : Expr} {es : List Expr} {ta : TE} {t : TA}
theorem MOk.peS {pl : Sem Bool} (D : MOk X.prog X.w X.K X.mg X.base CX k C m ps [] sp) (hr : Room j X.A) (hx : ∀ σ, PassesAt CX X σ (E σ)) (ho : PE X o ta) (ha : PA X (e :: es) t) (hk : k ≤ j := by decide)
    (hst : starEach (e :: es) X.env = (false, eval e X.env) :: starEach es X.env := by rfl) (hpl : (backTo pos (starEach es X.env)).any (·.1) = false := by rfl)
    (ht : eval (.Call (.Attribute o m apos) (e :: es) [] pos) X.env = (do
      let ov ← eval o X.env
      standAt apos.atName
      let (f, first) ← holding [ov] (getMethod ov m pl)
      callWith pos f first (backTo pos (starEach (e :: es) X.env)) (backToKw pos (keywordEach [] X.env))) := by rfl) :
    PE X (.Call (.Attribute o m apos) (e :: es) [] pos) (tMethE C m sp E ta t) := by
  refine ⟨fun pins s σ H Q I h => ?_⟩
  obtain ⟨f, fd, ds, F, hm, b, v⟩ := D.ok
  cases v
  refine PySem.W.methodCall_KW (pl := pl) (thn (ho.run pins s σ H _ I h) fun u s1 ⟨x, H1, I1, rx, a, dx, fs, ex, ea, l, q⟩ => ?_) ht
  subst ex
  obtain rfl : u = Value.ref a := rx
  refine getmeth_ok I1 ea D.cl hm l ?_
  refine PySem.W.callWith_K (first := [.ref a]) (h₀ := X.base) I.ok.mod.kin hm.kp (thn (ha.run pos pins s1 σ H1 _ I1 q) fun us s2 ⟨vs, H2, I2, r, q2⟩ => ⟨I2.kIn, ?_⟩) hst hpl
  exact run_fnS (us := .ref a :: us) (vs := .ref a :: vs) F (hr.mono hk) b (hx σ) I2 (.cons rfl r) q2
theorem MOk.peS0 {pl : Sem Bool} (D : MOk X.prog X.w X.K X.mg X.base CX k C m ps [] sp) (hr : Room j X.A) (hx : ∀ σ, PassesAt CX X σ (E σ)) (ho : PE X o ta) (hk : k ≤ j := by decide)
    (ht : eval (.Call (.Attribute o m apos) [] [] pos) X.env = (do
      let ov ← eval o X.env
      standAt apos.atName
      let (f, first) ← holding [ov] (getMethod ov m pl)
      callWith pos f first (backTo pos (starEach [] X.env)) (backToKw pos (keywordEach [] X.env))) := by rfl) :
    PE X (.Call (.Attribute o m apos) [] [] pos) (tMethE C m sp E ta tNil) := by
  refine ⟨fun pins s σ H Q I h => ?_⟩
  obtain ⟨f, fd, ds, F, hm, b, v⟩ := D.ok
  cases v
  refine PySem.W.methodCall_KW (pl := pl) (thn (ho.run pins s σ H _ I h) fun u s1 ⟨x, H1, I1, rx, a, dx, fs, ex, ea, l, q⟩ => ?_) ht
  subst ex
  obtain rfl : u = Value.ref a := rx
  refine getmeth_ok I1 ea D.cl hm l ?_
  exact PySem.W.callWith_K0 (first := [.ref a]) I1.kIn hm.kp (run_fnS (us := [.ref a]) (vs := [.ref a]) F (hr.mono hk) b (hx σ) I1 (.cons rfl .nil) q)
end
theorem errs_exm (d : He.SaysD fa fn K) {y : Str} (h : y ∈ errs) : PySem.W.exmOne K (.ref (He.ga K y)) (.ref (He.ga K "GroupError")) = some true := by
  simp only [List.mem_cons, List.not_mem_nil, or_false] at h
  rcases h with rfl | rfl | rfl
  · exact xm_NotIn d
  · exact xm_Stopped d
  · exact xm_Held d
/-- one hand stands at j -/
def spWLeave (K : PySem.W.Frag) (CT : Addr × Addr) (cs : List Int) : Sp := fun vs H Q _ => ∃ (ms : List Nm) (B : Nat) (L : HL) (j : Nat) (e : Addr × Hd × Option In), vs = [.ref e.1] ∧ WOK K CT cs ms B H L ∧ L[j]? = some e ∧ ∀ v H' L', Wm H L H' L' → WOK K CT cs ms B H' L' → Q v H'
theorem ok_law_leave (A : All P w K mg base CT) {cs : List Int}: DOk P w K mg base CX0 4 "_law_leave" ["_law_hand"] [] (spWLeave K CT cs) := by
  obtain ⟨fd, F⟩ := fu_law_leave A.d
  refine ⟨_, fd, [], FunD.ok0 F sc_law_leave (fun vs H Q E h => ?_) (fun cdv A0 outer s H vs Q E hr h => ?_), gl_law_leave A.kin A.ns A.d, F.kp, F.bindsN fun _ _ _ _ _ _ us hl => match us, hl with | [_], _ => rfl, .nil⟩
  · obtain ⟨ms, B, L, j, e, rfl, w, hj, k⟩ := h
    rfl
  · obtain ⟨ms, B, L, j, e, rfl, w, hj, k⟩ := h
    have hu := hu_of hr
    refine ⟨_, pss_cons (ps_set (i := 1) sc_law_leave.nd rfl (by first | exact Or.inl rfl | exact Or.inr rfl) pe_bl)
      (pss_cons (ps_if (pt_cmpR op_isN ((ok_Hand_standing A (cs := cs)).pe0 hr pass0 (pv 0)) pe_non (nomark _)) (pss_one (ps_expr ((ok_Hand_come A (cs := cs)).pe0 hr pass0 (pv 0)))) (pss_one (ps_try_only (tb := (fun W => tDrop (tMethE (He.ga K "Hand") "leave" (ex3 (spLeave K CT cs)) (WE W) (tVar 0) tNil))) (ts := fun _ _ _ => tAsg (tC (.bl true)) (gName 1)) (Wout := fun _ _ _ _ => False) rfl rfl ⟨rfl, by decide, .inl (gl_GroupError A.kin A.ns A.d)⟩ takes0 (fun W pn xe tk _ => (pss_one (ps_expr ((ok_Hand_leave A (cs := cs)).peS0 hr (fun σ => passAt tk σ) (pv 0))))) (fun a oe cls d pn _ _ => pss_one (ps_set (i := 1) sc_law_leave.nd rfl (Or.inl rfl) pe_bl)))))
      (pss_one (ps_ret (pv 1)))), ?_⟩
    have he := w.hk e (List.mem_of_getElem? hj)
    have fin : ∀ v D' i' H', Mv CT (ft e) (foot e.1 D' i') H H' → HOK K cs ms (TT L) B H' e.1 D' i' → Gr e.2.1 D' → (Bd H e.2.2 → Bd H' i') → Q v H' := fun v D' i' H' mv ho gr bd => by
      obtain ⟨w2, m2⟩ := w.deed hj mv ho gr bd (Nat.le_refl _) (fun _ z => z) (fun _ z => .inl z) w.lms
      exact k v H' _ m2 w2
    refine ⟨_, rfl, e.1, e.2.1.dx, _, rfl, he.c.ins, by kernel_rfl, ms, TT L, B, e.1, e.2.1, e.2.2, rfl, he, fun en => ?_, fun x ex q hq => ?_⟩
    · refine ⟨rfl, _, rfl, iteT ⟨_, rfl, e.1, e.2.1.dx, _, rfl, he.c.ins, by kernel_rfl, ms, TT L, B, e.1, e.2.1, rfl, en ▸ he, fun v D' i' H' _ mv ho gr bd => ?_⟩⟩
      exact ⟨_, rfl, fin _ D' i' H' (by rw [show ft e = foot e.1 e.2.1 none from by rw [← en]]; exact mv) ho gr (by rw [en]; exact bd)⟩
    · have s1 := same_new (o := .tup [.int e.2.1.number, .int e.2.1.hands]) hq
      have he1 := he.same s1
      refine ⟨rfl, _, rfl, iteF ?_⟩
      refine ⟨_, rfl, e.1, e.2.1.dx, _, rfl, he1.c.ins, by kernel_rfl, ms, TT L, B, e.1, e.2.1, e.2.2, rfl, he1, fun v D' i' H' _ mv ho gr bd => ?_, fun y hy d H' s2 => ?_⟩
      · exact ⟨_, rfl, fin _ D' i' H' ((Mv.same s1).trans mv) ho gr fun b => bd (he.bdx (.of s1) b)⟩
      · exact ⟨true, errs_exm A.d hy, fun _ a ha => ⟨_, rfl, fin _ e.2.1 e.2.2 H' (Mv.same (s1.trans s2)) (he1.same s2) .refl (he.bdx (.of (s1.trans s2)))⟩, fun z => nomatch z⟩

end
end G
namespace G
open PySem PySem.Spec L2
open PyProof.Rows hiding St
section
variable {P : Program} {w : World} {K : PySem.W.Frag} {mg : Str → Option Value} {base : Heap} {CT : Addr × Addr}
/-! ### a round; what events tell -/
def spTaken (K : PySem.W.Frag) : Sp := fun vs H Q _ => ∃ (a : Addr) (evs : EL), vs = [.ref a] ∧ H a = some (.lst (refsE evs)) ∧ ElAt H evs ∧ evs.length ≤ 1000000 ∧ ∀ q (kvs : List (List Key × V)) H', H q = none → Same H H' → H' q = some (.dT kvs) → (∀ x : Nm, (valV kvs (nmK x)).isSome = true ↔ x ∈ tks evs) → Q (.ref q) H'
theorem ok_law_taken (A : All P w K mg base CT) : DOk P w K mg base CX0 1 "_law_taken" ["_law_events"] [] (spTaken K) := by
  obtain ⟨fd, F⟩ := fu_law_taken A.d
  refine ⟨_, fd, [], FunD.ok0 F sc_law_taken (fun vs H Q E h => ?_) (fun cdv A0 outer s H vs Q E hr h => ?_), gl_law_taken A.kin A.ns A.d, F.kp, F.bindsN fun _ _ _ _ _ _ us hl => match us, hl with | [_], _ => rfl, .nil⟩
  · obtain ⟨a, evs, rfl, ha, hev, hl, k⟩ := h
    rfl
  · obtain ⟨a, evs, rfl, ha, hev, hl, k⟩ := h
    have hu := hu_of hr
    refine ⟨_, pss_cons (ps_set (i := 1) sc_law_taken.nd rfl (by first | exact Or.inl rfl | exact Or.inr rfl) pe_dnewT)
      (pss_cons (ps_for PassesOwn.never rfl (pi_list (pv 0)) (pg_name (i := 2) sc_law_taken.nd rfl (by first | exact Or.inl rfl | exact Or.inr rfl)) (pss_one (ps_if (pt_cmpR op_eq (pe_ix ix_tup (pv 2) pe_int (fun _ _ => rfl)) pe_str (nomark _)) (pss_one (ps_dput hu (pv 1) (pe_ix ix_tup (pv 2) pe_int (fun _ _ => rfl)) pe_bl rfl)) pss_nil)))
      (pss_one (ps_ret (pv 1)))), ?_⟩
    intro R hR
    have s0 : Same H (upd H R (.dT [])) := same_new hR
    refine ⟨_, rfl, a, rfl, ⟨_, SqL.of (s0 _ _ ha)⟩, for_list (K := K) (a := a) (xs := refsE evs) (fun i σ' H' => ∃ (v2 : Option V) (kvs : List (List Key × V)), σ' = [some (.ref a), some (.ref R), v2] ∧ Same H H' ∧ H' R = some (.dT kvs) ∧ kvs.length ≤ i ∧ ∀ x : Nm, (valV kvs (nmK x)).isSome = true ↔ x ∈ tks (evs.take i))
      ⟨none, [], rfl, s0, upd_same, Nat.le_refl _, fun x => ⟨fun z => (nomatch z), fun z => (nomatch z)⟩⟩ (fun i σ' H' _ ⟨_, _, _, s, _⟩ => SqL.of (s _ _ ha)) ?_ ?_⟩
    · rintro i x σ1 H1 hx ⟨v2, kvs, rfl, s1, hR1, hki, hkv⟩
      obtain ⟨y, ey, rfl⟩ := refsE_get hx
      have hi := (List.getElem?_eq_some_iff.mp ey).1
      have he := (hev y (List.mem_of_getElem? ey)).ext (.of s1)
      have htk : tks (evs.take (i + 1)) = tks (evs.take i) ++ tks [y] := by rw [List.take_add_one, ey, ← tks_app]; rfl
      obtain ⟨a0, e0⟩ := y
      cases e0 with
      | oth z =>
        obtain ⟨hz, rest, h3⟩ := he
        refine ⟨_, rfl, _, _, _, V.str z, rfl, rfl, SqT.of h3, atI_nat (j := 0) rfl, rfl, _, rfl, ?_⟩
        rw [show (decide (V.str z = V.str "take")) = false from decide_eq_false fun e => hz (by injection e)]
        refine iteF ⟨_, kvs, rfl, s1, hR1, Nat.le_succ_of_le hki, fun x => ?_⟩
        rw [htk, tks_oth, List.append_nil]; exact hkv x
      | tk nm =>
        obtain ⟨q, rest, h3, h4⟩ := he
        refine ⟨_, rfl, _, _, _, V.str "take", rfl, rfl, SqT.of h3, atI_nat (j := 0) rfl, rfl, _, rfl, ?_⟩
        rw [show (decide (V.str "take" = V.str "take")) = true from decide_eq_true rfl]
        refine iteT ⟨_, rfl, _, rfl, _, _, _, V.ref q, rfl, rfl, SqT.of h3, atI_nat (j := 1) rfl, R, _, rfl, DPut.t (k := nmK nm) hR1 h4 (small6 (by omega)), _, _, rfl, same_set s1 hR, upd_same, ?_, fun x => ?_⟩
        · have := putK_len kvs (nmK nm) (.bl true); omega
        · rw [htk, tks_tk, List.mem_append, List.mem_singleton, ← hkv x, valV_put]
          by_cases e : x = nm
          · rw [e, if_pos rfl]; simp
          · rw [if_neg fun z => e (nmK_inj z)]; simp [e]
    · rintro σ1 H1 ⟨v2, kvs, rfl, s1, hR1, hki, hkv⟩
      rw [refsE_len, List.take_length] at hkv
      exact ⟨_, rfl, k R kvs H1 hR s1 hR1 hkv⟩
def spCounts (K : PySem.W.Frag) (cs : List Int) : Sp := fun vs H Q _ => ∃ (a : Addr) (evs : EL), vs = [.ref a] ∧ H a = some (.lst (refsE evs)) ∧ ElAt H evs ∧ (∀ x ∈ tks evs, x.2.1 ∈ cs) ∧ cs.length ≤ 60 ∧ ∀ q (kvs : Cn) H', H q = none → Same H H' → H' q = some (.dK (encC kvs)) → (kvs.map (·.1)).Nodup → kvs.length ≤ 60 → Q (.ref q) H'
theorem keys_len {cs : List Int} {kvs : Cn} (nd : (kvs.map (·.1)).Nodup) (h : ∀ p ∈ kvs, p.1 ∈ cs) : kvs.length ≤ cs.length := by
  have := nodup_len nd fun x hx => by
    obtain ⟨p, hp, e⟩ := List.mem_map.mp hx
    rw [← e]; exact h p hp
  rwa [List.length_map] at this
theorem ok_law_counts (A : All P w K mg base CT) {cs : List Int}: DOk P w K mg base CX0 1 "_law_counts" ["_law_events"] [] (spCounts K cs) := by
  obtain ⟨fd, F⟩ := fu_law_counts A.d
  refine ⟨_, fd, [], FunD.ok0 F sc_law_counts (fun vs H Q E h => ?_) (fun cdv A0 outer s H vs Q E hr h => ?_), gl_law_counts A.kin A.ns A.d, F.kp, F.bindsN fun _ _ _ _ _ _ us hl => match us, hl with | [_], _ => rfl, .nil⟩
  · obtain ⟨a, evs, rfl, ha, hev, htc, hcs, k⟩ := h
    rfl
  · obtain ⟨a, evs, rfl, ha, hev, htc, hcs, k⟩ := h
    have hu := hu_of hr
    refine ⟨_, pss_cons (ps_set (i := 1) sc_law_counts.nd rfl (by first | exact Or.inl rfl | exact Or.inr rfl) pe_dnewK)
      (pss_cons (ps_for PassesOwn.never rfl (pi_list (pv 0)) (pg_name (i := 2) sc_law_counts.nd rfl (by first | exact Or.inl rfl | exact Or.inr rfl)) (pss_cons (ps_if (pt_cmpR op_eq (pe_ix ix_tup (pv 2) pe_int (fun _ _ => rfl)) pe_str (nomark _)) (pss_one (ps_set (i := 1) sc_law_counts.nd rfl (by first | exact Or.inl rfl | exact Or.inr rfl) pe_dnewK)) pss_nil) (pss_one (ps_if (pt_cmpR op_eq (pe_ix ix_tup (pv 2) pe_int (fun _ _ => rfl)) pe_str (nomark _)) (pss_one (ps_dput hu (pv 1) (pe_ix ix_tup (pe_ix ix_tup (pv 2) pe_int (fun _ _ => rfl)) pe_int (fun _ _ => rfl)) (pe_ix ix_tup (pe_ix ix_tup (pv 2) pe_int (fun _ _ => rfl)) pe_int (fun _ _ => rfl)) rfl)) pss_nil))))
      (pss_one (ps_ret (pv 1)))), ?_⟩
    intro R hR
    have s0 : Same H (upd H R (.dK [])) := same_new hR
    refine ⟨_, rfl, a, rfl, ⟨_, SqL.of (s0 _ _ ha)⟩, for_list (K := K) (a := a) (xs := refsE evs) (fun i σ' H' => ∃ (v2 : Option V) (d : Addr) (kvs : Cn), σ' = [some (.ref a), some (.ref d), v2] ∧ Same H H' ∧ H' d = some (.dK (encC kvs)) ∧ H d = none ∧ (kvs.map (·.1)).Nodup ∧ ∀ p ∈ kvs, p.1 ∈ cs)
      ⟨none, R, [], rfl, s0, upd_same, hR, List.nodup_nil, fun _ h => (nomatch h)⟩ (fun i σ' H' _ ⟨_, _, _, _, s, _⟩ => SqL.of (s _ _ ha)) ?_ ?_⟩
    · rintro i x σ1 H1 hx ⟨v2, d, kvs, rfl, s1, hd1, hd, hnd, hkc⟩
      obtain ⟨y, ey, rfl⟩ := refsE_get hx
      have hym := List.mem_of_getElem? ey
      have he := (hev y hym).ext (.of s1)
      obtain ⟨a0, e0⟩ := y
      cases e0 with
      | oth z =>
        obtain ⟨hz, rest, h3⟩ := he
        refine ⟨_, rfl, _, _, _, V.str z, rfl, rfl, SqT.of h3, atI_nat (j := 0) rfl, rfl, _, rfl, ite2 (fun _ => ?_) (fun _ => ?_)⟩
        · intro d2 hd2
          have s2 : Same H1 (upd H1 d2 (.dK [])) := same_new hd2
          refine ⟨_, rfl, _, _, _, V.str z, rfl, rfl, SqT.of (s2 _ _ h3), atI_nat (j := 0) rfl, rfl, _, rfl, ?_⟩
          rw [show (decide (V.str z = V.str "take")) = false from decide_eq_false fun e => hz (by injection e)]
          exact iteF ⟨_, d2, [], rfl, s1.trans s2, upd_same, s1.free hd2, List.nodup_nil, fun _ h => (nomatch h)⟩
        · refine ⟨_, rfl, _, _, _, V.str z, rfl, rfl, SqT.of h3, atI_nat (j := 0) rfl, rfl, _, rfl, ?_⟩
          rw [show (decide (V.str z = V.str "take")) = false from decide_eq_false fun e => hz (by injection e)]
          exact iteF ⟨_, d, kvs, rfl, s1, hd1, hd, hnd, hkc⟩
      | tk nm =>
        obtain ⟨q, rest, h3, h4⟩ := he
        have hc : nm.2.1 ∈ cs := htc nm (by unfold tks; exact List.mem_filterMap.mpr ⟨_, hym, rfl⟩)
        refine ⟨_, rfl, _, _, _, V.str "take", rfl, rfl, SqT.of h3, atI_nat (j := 0) rfl, rfl, _, rfl, ?_⟩
        rw [show (decide (V.str "take" = V.str "list")) = false from decide_eq_false (fun z => absurd (V.str.inj z) (by decide))]
        refine iteF ⟨_, rfl, _, _, _, V.str "take", rfl, rfl, SqT.of h3, atI_nat (j := 0) rfl, rfl, _, rfl, ?_⟩
        rw [show (decide (V.str "take" = V.str "take")) = true from decide_eq_true rfl]
        refine iteT ⟨_, rfl, _, _, _, V.ref q, rfl, rfl, SqT.of h3, atI_nat (j := 1) rfl, _, _, _, V.int nm.2.2, rfl, rfl, SqT.of h4, rfl, _, rfl, _, rfl, _, _, _, V.ref q, rfl, rfl, SqT.of h3, atI_nat (j := 1) rfl, _, _, _, V.int nm.2.1, rfl, rfl, SqT.of h4, rfl, d, _, rfl, DPut.k (k := Sum.inl nm.2.1) hd1 ?_, ?_⟩
        · rw [len_enc]
          have := keys_len hnd hkc
          exact small1000 (by omega)
        · rw [putK_enc]
          exact ⟨_, d, _, rfl, same_set s1 hd, upd_same, hd, nd_putC hnd, fun p hp => (keys_putC kvs nm.2.1 nm.2.2 p hp).elim (fun e => by rw [e]; exact hc) (hkc p)⟩
    · rintro σ1 H1 ⟨v2, d, kvs, rfl, s1, hd1, hd, hnd, hkc⟩
      exact ⟨_, rfl, k d kvs H1 hd s1 hd1 hnd (Nat.le_trans (keys_len hnd hkc) hcs)⟩
def spRound (K : PySem.W.Frag) (CT : Addr × Addr) (cs : List Int) : Sp := fun vs H Q _ => ∃ (ms : List Nm) (B : Nat) (hl so : Addr) (L : HL) (is : List Nat), vs = [.ref hl, .ref so] ∧ WOK K CT cs ms B H L ∧ H hl = some (.lst (refsH L)) ∧ Outs hl L ∧ H so = some (.lst (is.map fun i : Nat => V.int (i : Int))) ∧ Outs so L ∧ (∀ i ∈ is, i < L.length) ∧ is.length ≤ 4 ∧ B ≤ 870000 ∧
  ∀ H' L', Wm H L H' L' → WOK K CT cs ms (B + 8000) H' L' → Q .non H'
/-- one hears a letter of another -/
theorem WOK.hears {CT : Addr × Addr} {cs : List Int} {ms : List Nm} {B : Nat} {H H1 : Hp} {L : HL} {j : Nat} {e : Addr × Hd × Option In} {v : V} {D' : Hd} {i' : Option In} {H2 : Hp} (w : WOK K CT cs ms B H L) (hj : L[j]? = some e) (s1 : Same H H1) (mv : Mv CT (ft e) (foot e.1 D' i') H1 H2) (ho : HOK K cs ms (TT L) (B + 500) H2 e.1 D' i') (gr : Gr e.2.1 D') (hbd : Bd H1 e.2.2 → Bd H2 i') :
    ∃ L', WOK K CT cs ms (B + 500) H2 L' ∧ Wm H L H2 L' := by
  obtain ⟨w2, m2⟩ := (w.same s1).deed hj mv ho gr hbd (by omega) (fun _ z => z) (fun _ z => .inl z) w.lms
  exact ⟨_, w2, (Wm.same s1).trans m2⟩
theorem ok_law_round (A : All P w K mg base CT) {cs : List Int}: DOk P w K mg base CX0 13 "_law_round" ["_law_hands_here", "_law_some"] [] (spRound K CT cs) := by
  obtain ⟨fd, F⟩ := fu_law_round A.d
  refine ⟨_, fd, [], FunD.ok0 F sc_law_round (fun vs H Q E h => ?_) (fun cdv A0 outer s H vs Q E hr h => ?_), gl_law_round A.kin A.ns A.d, F.kp, F.bindsN fun _ _ _ _ _ _ us hl => match us, hl with | [_, _], _ => rfl, .nil⟩
  · obtain ⟨ms, B, hl, so, L, is, rfl, w, hh, oh, hs, os_, hi, hil, hB, k⟩ := h
    rfl
  · obtain ⟨ms, B, hl, so, L, is, rfl, w, hh, oh, hs, os_, hi, hil, hB, k⟩ := h
    have hu := hu_of hr
    refine ⟨_, pss_one (ps_for PassesOwn.never rfl (pi_list (pv 1)) (pg_name (i := 2) sc_law_round.nd rfl (by first | exact Or.inl rfl | exact Or.inr rfl)) (pss_one (ps_for PassesOwn.never rfl (pi_list (pv 1)) (pg_name (i := 3) sc_law_round.nd rfl (by first | exact Or.inl rfl | exact Or.inr rfl)) (pss_one (ps_if (pt_cmpR op_ne (pv 2) (pv 3) (nomark _)) (pss_one (ps_expr ((ok_Hand_hear A (cs := cs)).pe hr pass0 (pe_ix ix_list (pv 0) (pv 3) (fun _ _ => rfl)) (pa_cons ((ok_Hand_letter_1 A (cs := cs)).pe0 hr pass0 (pe_ix ix_list (pv 0) (pv 2) (fun _ _ => rfl))) pa_nil)))) pss_nil))))), ?_⟩
    have hsl : ∀ {H' : Hp} {L' : HL}, Wm H L H' L' → H' so = some (.lst (is.map fun i : Nat => V.int (i : Int))) := fun m => (m.kp _ _ hs (fun _ z => nomatch z) os_).1
    have hhl : ∀ {H' : Hp} {L' : HL}, Wm H L H' L' → H' hl = some (.lst (refsH L')) := fun m => by rw [m.refs]; exact (m.kp _ _ hh (fun _ z => nomatch z) oh).1
    refine ⟨_, rfl, so, rfl, ⟨_, SqL.of hs⟩, for_list (K := K) (a := so) (xs := is.map fun i : Nat => V.int (i : Int)) (fun i σ' H' => ∃ (v2 v3 : Option V) (L' : HL), σ' = [some (.ref hl), some (.ref so), v2, v3] ∧ Wm H L H' L' ∧ WOK K CT cs ms (B + 2000 * i) H' L')
      ⟨none, none, L, rfl, .refl, w⟩ (fun i σ' H' _ ⟨_, _, _, _, m, _⟩ => SqL.of (hsl m)) ?_ ?_⟩
    · rintro i x σ1 H1 hx ⟨v2, v3, L1, rfl, m1, w1⟩
      rw [List.getElem?_map] at hx
      obtain ⟨a, ea, rfl⟩ := Option.map_eq_some_iff.mp hx
      have ha := hi a (List.mem_of_getElem? ea)
      have hil1 := (List.getElem?_eq_some_iff.mp ea).1
      refine ⟨_, rfl, so, rfl, ⟨_, SqL.of (hsl m1)⟩, for_list (K := K) (a := so) (xs := is.map fun i : Nat => V.int (i : Int)) (fun j σ' H' => ∃ (v3 : Option V) (L' : HL), σ' = [some (.ref hl), some (.ref so), some (.int (a : Int)), v3] ∧ Wm H L H' L' ∧ WOK K CT cs ms (B + 2000 * i + 500 * j) H' L')
        ⟨_, L1, rfl, m1, w1⟩ (fun j σ' H' _ ⟨_, _, _, m, _⟩ => SqL.of (hsl m)) ?_ ?_⟩
      · rintro j y σ2 H2 hy ⟨v3, L2', rfl, m2, w2⟩
        rw [List.getElem?_map] at hy
        obtain ⟨b, eb, rfl⟩ := Option.map_eq_some_iff.mp hy
        have hb := hi b (List.mem_of_getElem? eb)
        have hjl := (List.getElem?_eq_some_iff.mp eb).1
        refine ⟨_, rfl, _, rfl, rfl, _, rfl, ite2 (fun _ => ?_) (fun _ => ⟨_, L2', rfl, m2, w2.up (by omega)⟩)⟩
        have hl2 := m2.len
        have eE : L2'[b]? = some L2'[b] := List.getElem?_eq_getElem (by omega)
        have eF : L2'[a]? = some L2'[a] := List.getElem?_eq_getElem (by omega)
        generalize L2'[b] = e at eE
        generalize L2'[a] = f at eF
        have he := w2.hk e (List.mem_of_getElem? eE)
        have hf := w2.hk f (List.mem_of_getElem? eF)
        have hl4 := w2.lcs
        have hm4 := w2.lms
        refine ⟨_, rfl, _, rfl, hl, _, _, V.ref e.1, rfl, rfl, SqL.of (hhl m2), atI_nat (j := b) (refsH_get eE), e.1, e.2.1.dx, _, rfl, he.c.ins, by kernel_rfl, _, rfl, _, rfl, hl, _, _, V.ref f.1, rfl, rfl, SqL.of (hhl m2), atI_nat (j := a) (refsH_get eF), f.1, f.2.1.dx, _, rfl, hf.c.ins, by kernel_rfl, ms, TT L2', B + 2000 * i + 500 * j, f.1, f.2.1, f.2.2, 0, .non, rfl, .inl rfl, hf, TT.own eF, hl4, hm4, by omega, fun t H3 ht s3 hlt => ?_⟩
        refine ⟨ms, TT L2', B + 2000 * i + 500 * j, e.1, e.2.1, e.2.2, t, rfl, he.same s3, hlt, w2.tab.ext s3, w2.own eE, w2.c62, hl4, hm4, by omega, fun v D' i' H4 _ mv ho gr bd => ?_⟩
        obtain ⟨L4, w4, m4⟩ := w2.hears eE s3 mv ho gr bd (v := v)
        exact ⟨_, L4, rfl, m2.trans m4, w4.up (by omega)⟩
      · rintro σ2 H2 ⟨v3, L2', rfl, m2, w2⟩
        rw [List.length_map] at w2
        exact ⟨_, _, L2', rfl, m2, w2.up (by omega)⟩
    · rintro σ1 H1 ⟨v2, v3, L1, rfl, m1, w1⟩
      rw [List.length_map] at w1
      exact k H1 L1 m1 (w1.up (by omega))

end
end G
namespace G
open PySem PySem.Spec L2
open PyProof.Rows hiding St
section
variable {P : Program} {w : World} {K : PySem.W.Frag} {mg : Str → Option Value} {base : Heap} {CT : Addr × Addr}
/-! ### all that the law holds -/
structure Wx (X : List Addr) (H : Hp) (L : HL) (H' : Hp) (L' : HL) : Prop where
  out : ∀ a o, H a = some o → Nt o → Outs a L → Outs a L'
  kp : ∀ a o, H a = some o → Nt o → Outs a L → a ∉ X → H' a = some o
  ext : Ext H H'
structure WS (K : PySem.W.Frag) (CT : Addr × Addr) (cs : List Int) (ms : List Nm) (B : Nat) (H : Hp) (L : HL) (nl hl md pl : Addr) : Prop where
  w : WOK K CT cs ms B H L
  l : Lst H L cs nl hl
  m : ∃ kvs : List (List Key × V), H md = some (.dT kvs) ∧ kvs.map (·.1) = ms.map nmK
  om : Outs md L
  p : ∃ PL : List Addr, H pl = some (.lst (PL.map V.ref)) ∧ PL.length ≤ B ∧ ∀ t ∈ PL, LetOK cs ms (TT L) B H t
  op : Outs pl L
  n1 : nl ≠ pl
  n2 : hl ≠ pl
section
variable {X : List Addr} {CT : Addr × Addr} {cs : List Int} {ms ms' : List Nm} {B B' : Nat} {H H1 H2 : Hp} {L L1 L2' : HL} {nl hl md pl : Addr}
theorem Wm.x (m : Wm H L H1 L1) : Wx X H L H1 L1 := ⟨fun a o h n q => (m.kp a o h n q).2, fun a o h n q _ => (m.kp a o h n q).1, m.ext⟩
theorem Wx.refl : Wx X H L H L := ⟨fun _ _ _ _ q => q, fun _ _ h _ _ _ => h, .refl⟩
theorem WS.wm (s : WS K CT cs ms B H L nl hl md pl) (w : WOK K CT cs ms B' H1 L1) (m : Wm H L H1 L1) (hB : B ≤ B') : WS K CT cs ms B' H1 L1 nl hl md pl := by
  obtain ⟨kvs, h1, h2⟩ := s.m
  obtain ⟨PL, p1, p2, p3⟩ := s.p
  obtain ⟨a1, a2⟩ := m.kp _ _ h1 (fun _ z => nomatch z) s.om
  obtain ⟨b1, b2⟩ := m.kp _ _ p1 (fun _ z => nomatch z) s.op
  exact ⟨w, s.l.wm m, ⟨kvs, a1, h2⟩, a2, ⟨PL, b1, Nat.le_trans p2 hB, fun t ht => ((p3 t ht).ext m.ext).mono (fun _ z => z) hB m.T⟩, b2, s.n1, s.n2⟩
theorem WS.same (s : WS K CT cs ms B H L nl hl md pl) (e : Same H H1) : WS K CT cs ms B H1 L nl hl md pl := s.wm (s.w.same e) (.same e) (Nat.le_refl _)
theorem WS.up (s : WS K CT cs ms B H L nl hl md pl) (hB : B ≤ B') : WS K CT cs ms B' H L nl hl md pl := s.wm (s.w.up hB) .refl hB
theorem WOK.wr {a : Addr} {o o' : HO} (w : WOK K CT cs ms B H L) (ha : H a = some o) (po : Pn o) (q : Outs a L) : WOK K CT cs ms B (upd H a o') L ∧ Ext H (upd H a o') := by
  have kp : Kp [a] H (upd H a o') := Kp.upd Kp.refl List.mem_cons_self
  have tr : Tr [a] H := fun b hb => by rw [List.mem_singleton.mp hb]; exact ⟨o, ha, po⟩
  have ex := tr.ext kp
  exact ⟨⟨fun e he => (w.hk e he).keep (fun b hb u hu => kp b u hu (notin1 fun z => q e he (by rw [← z]; exact hb))) ex, fun e he => (w.hk e he).bdx ex (w.bd e he), w.dj, tr.tab kp w.tab, w.nd, w.c62, w.lcs, w.lms⟩, ex⟩
/-- a letter is put into the pool -/
theorem WS.post (s : WS K CT cs ms B H L nl hl md pl) {PL : List Addr} {t : Addr} (hp : H pl = some (.lst (PL.map V.ref))) (hl1 : PL.length + 1 ≤ B) (hPL : ∀ t ∈ PL, LetOK cs ms (TT L) B H t) (ht : LetOK cs ms (TT L) B H t) :
    WS K CT cs ms B (upd H pl (.lst (PL.map V.ref ++ [.ref t]))) L nl hl md pl ∧ Wx [md, pl] H L (upd H pl (.lst (PL.map V.ref ++ [.ref t]))) L := by
  obtain ⟨kvs, h1, h2⟩ := s.m
  obtain ⟨w2, ex⟩ := s.w.wr (o' := .lst (PL.map V.ref ++ [.ref t])) hp trivial s.op
  have nmp : md ≠ pl := ne_of h1 hp (by intro z; cases z)
  refine ⟨⟨w2, ⟨by rw [upd_ne s.n1]; exact s.l.n, by rw [upd_ne s.n2]; exact s.l.h, s.l.on, s.l.oh, s.l.me, s.l.l2, s.l.l4⟩, ⟨kvs, by rw [upd_ne nmp]; exact h1, h2⟩, s.om, ⟨PL ++ [t], by rw [upd_same, List.map_append]; rfl, by rw [List.length_append]; exact hl1, fun u hu => ?_⟩, s.op, s.n1, s.n2⟩, fun _ _ _ _ q => q, fun a o h _ _ n => ?_, ex⟩
  · rcases List.mem_append.mp hu with hu | hu
    · exact (hPL u hu).ext ex
    · rw [List.mem_singleton.mp hu]; exact ht.ext ex
  · rw [upd_ne (fun z => n (by rw [z]; simp))]; exact h
theorem WOK.fresh (w : WOK K CT cs ms B H L) {d : Addr} (hd : H d = none) : Outs d L := fun e he m => by
  obtain ⟨u, hu, _⟩ := (w.hk e he).tr d m
  rw [hd] at hu; cases hu
end
/-- what a deed of the law leaves -/
def spPost (K : PySem.W.Frag) (CT : Addr × Addr) (cs : List Int) (ms : List Nm) (B inc : Nat) (H : Hp) (L : HL) (nl hl md pl : Addr) (Q : Hp → Prop) : Prop := ∀ ms' L' H', Wx [md, pl] H L H' L' → WS K CT cs ms' (B + inc) H' L' nl hl md pl → ms'.length ≤ ms.length + 1 → Q H'
def spWCall (K : PySem.W.Frag) (CT : Addr × Addr) (cs : List Int) : Sp := fun vs H Q _ => ∃ (ms : List Nm) (B : Nat) (L : HL) (nl hl md pl : Addr) (j : Nat) (e : Addr × Hd × Option In) (kd : Kd) (w : Int), vs = [.ref e.1, .str (kdS kd), .int w, .ref md] ∧ WS K CT cs ms B H L nl hl md pl ∧ L[j]? = some e ∧ w.natAbs < 10 ^ 60 ∧ ms.length ≤ 49 ∧ B ≤ 870000 ∧ spPost K CT cs ms B 110 H L nl hl md pl (Q .non)
theorem ok_law_call (A : All P w K mg base CT) {cs : List Int}: DOk P w K mg base CX0 10 "_law_call" ["_law_hand", "_law_kind", "_law_word_here", "_law_made"] [] (spWCall K CT cs) := by
  obtain ⟨fd, F⟩ := fu_law_call A.d
  refine ⟨_, fd, [], FunD.ok0 F sc_law_call (fun vs H Q E h => ?_) (fun cdv A0 outer s H vs Q E hr h => ?_), gl_law_call A.kin A.ns A.d, F.kp, F.bindsN fun _ _ _ _ _ _ us hl => match us, hl with | [_, _, _, _], _ => rfl, .nil⟩
  · obtain ⟨ms, B, L, nl, hl, md, pl, j, e, kd, wd, rfl, s, hj, hw, hms, hB, k⟩ := h
    rfl
  · obtain ⟨ms, B, L, nl, hl, md, pl, j, e, kd, wd, rfl, s, hj, hw, hms, hB, k⟩ := h
    have hu := hu_of hr
    refine ⟨_, pss_cons (ps_set (i := 4) sc_law_call.nd rfl (by first | exact Or.inl rfl | exact Or.inr rfl) ((ok_law_counts A (cs := cs)).pe hr pass0 (pa_cons ((ok_Hand_events A).pe0 hr pass0 (pv 0)) pa_nil)))
      (pss_cons (ps_set (i := 5) sc_law_call.nd rfl (by first | exact Or.inl rfl | exact Or.inr rfl) pe_bl)
      (pss_cons (ps_set (i := 6) sc_law_call.nd rfl (by first | exact Or.inl rfl | exact Or.inr rfl) pe_non)
      (pss_cons (ps_try_only (tb := (fun W => tAsg (tMethE (He.ga K "Hand") "call" (ex3 (spCall K CT cs)) (WE W) (tVar 0) (tCons (tVar 1) (tCons (tVar 2) tNil))) (gName 6))) (ts := fun _ _ _ => tAsg (tC (.bl true)) (gName 5)) (Wout := fun _ _ _ _ => False) rfl rfl ⟨rfl, by decide, .inl (gl_GroupError A.kin A.ns A.d)⟩ takes0 (fun W pn xe tk _ => (pss_one (ps_set (i := 6) sc_law_call.nd rfl (by first | exact Or.inl rfl | exact Or.inr rfl) ((ok_Hand_call A (cs := cs)).peS hr (fun σ => passAt tk σ) (pv 0) (pa_cons (pv 1) (pa_cons (pv 2) pa_nil)))))) (fun a oe cls d pn _ _ => pss_one (ps_set (i := 5) sc_law_call.nd rfl (Or.inl rfl) pe_bl)))
      (pss_one (ps_if (pt_not (pt_val (pv 5))) (pss_cons (ps_set (i := 7) sc_law_call.nd rfl (by first | exact Or.inl rfl | exact Or.inr rfl) (pe_tup pa_nil)) (pss_cons (ps_cut (ps_if (pt_cmpR op_ne (pv 1) pe_str (nomark _)) (pss_one (ps_set (i := 7) sc_law_call.nd rfl (by first | exact Or.inl rfl | exact Or.inr rfl) (pe_callTy (call_tuple_of) (by rfl) (fr_tuple A.kin A.ns A.d) (by decide +kernel) (pa_cons (pe_lc (own := [("_law_one", 8)]) (g := gName 8) (tt := tYes) rfl sc_law_call.nd (pi_list (pe_callB (call_sortedDI rfl) (by rfl) (fr_sorted A.kin A.ns A.d) (by decide +kernel) (pa_cons (pv 4) pa_nil))) (blkOk_by (N := ["_law_hand", "_law_kind", "_law_word_here", "_law_made", "_law_counts_here", "_law_good", "_law_name", "_law_causes", "_law_one"]) (sc := defScope s_law_call) (by decide +kernel)) (fun _ _ _ _ _ => pg_name (i := 8) sc_law_call.nd rfl (Or.inl rfl)) (fun _ _ _ _ _ => pts_nil) (fun _ _ _ _ _ => (pe_tup (pa_cons (pv 8) (pa_cons (pe_dget hu (pv 4) (pv 8) (fun _ _ => rfl)) pa_nil))))) pa_nil)))) pss_nil)) (pss_one (ps_dput hu (pv 3) (pv 6) (pe_tup (pa_cons (pv 1) (pa_cons (pv 2) (pa_cons (pv 7) pa_nil)))) rfl)))) pss_nil))))), ?_⟩
    have he := s.w.hk e (List.mem_of_getElem? hj)
    have hl4 := s.w.lcs
    have hev := he.evl
    refine ⟨_, rfl, e.1, e.2.1.dx, _, rfl, he.c.ins, by kernel_rfl, e.1, e.2.1, rfl, he.c, fun q hq => ?_⟩
    have s1 := same_new (o := .lst (refsE e.2.1.evs)) hq
    refine ⟨q, e.2.1.evs, rfl, upd_same, he.c.evs.ext (.of s1), he.tkc, hl4, fun d kvs H2 hd s2 hd2 hnd hkl => ?_⟩
    have s12 := s1.trans s2
    have he2 := he.same s12
    refine ⟨_, rfl, e.1, e.2.1.dx, _, rfl, he2.c.ins, by kernel_rfl, _, rfl, _, rfl, ms, TT L, B, e.1, e.2.1, e.2.2, kd, wd, rfl, he2, hw, hl4, by omega, by omega, fun q2 nm D' x' H3 hnin hnme hq2 mv ho gr bd => ?_, fun y hy d3 H3 s3 => ?_⟩
    · refine ⟨_, rfl, _, rfl, iteT ?_⟩
      obtain ⟨kv0, hm1, hm2⟩ := s.m
      obtain ⟨w3, m3⟩ := (s.w.same s12).deed hj mv ho gr bd (by omega) (fun x hx => List.mem_append_left _ hx) (fun x hx => (List.mem_append.mp hx).imp id fun z => by rw [List.mem_singleton.mp z]; exact hnme) (by rw [List.length_append]; show ms.length + 1 ≤ 50; omega)
      have m13 := (Wm.same (L := L) s12).trans m3
      have hd3 : H3 d = some (.dK (encC kvs)) := (m3.kp _ _ hd2 (fun _ z => nomatch z) (s.w.fresh (s1.free hd))).1
      refine ⟨Nat.zero_le _, fun c0 hc0 => ?_⟩
      have s4 := same_new (o := .tup []) hc0
      refine ⟨fun σ' H' => ∃ c1 v, σ' = [some (.ref e.1), some (.str (kdS kd)), some (.int wd), some (.ref md), some (.ref d), some (.bl false), some (.ref q2), some (.ref c1), v] ∧ Same H3 H', ?_, ?_⟩
      · refine ⟨_, rfl, rfl, _, rfl, ite2 (fun _ => ?_) (fun _ => ⟨c0, _, rfl, s4⟩)⟩
        have hd4 := s4 _ _ hd3
        have hks : (encC kvs).map (·.1) = (kvs.map (·.1)).map Sum.inl := by
          unfold encC
          rw [List.map_map, List.map_map]; rfl
        refine ⟨_, rfl, d, _, _, rfl, .inl hd4, hks, by rw [List.length_map]; omega, fun ys q5 hperm _ hq5 => ?_⟩
        have s5 := same_new (o := .lst (ys.map V.int)) hq5
        have hyl : ys.length ≤ 60 := by rw [hperm.length_eq, List.length_map]; exact hkl
        refine ⟨q5, rfl, ⟨_, SqL.of upd_same⟩, fun Dl hDl => lc_list (K := K) (a := q5) (xs := ys.map V.int) (fun i H' => Same (upd (upd H3 c0 (.tup [])) q5 (.lst (ys.map V.int))) H' ∧ ∃ l : List V, H' Dl = some (.lst l) ∧ l.length ≤ i) ⟨same_new hDl, [], upd_same, Nat.le_refl _⟩ (fun i H' _ ⟨z, _⟩ => SqL.of (z _ _ upd_same)) ?_ ?_⟩
        · rintro i x H6 hx ⟨s6, l, h6, hli⟩
          rw [List.getElem?_map] at hx
          obtain ⟨h, eh, rfl⟩ := Option.map_eq_some_iff.mp hx
          have hi := (List.getElem?_eq_some_iff.mp eh).1
          have hh : h ∈ kvs.map (·.1) := hperm.subset (List.mem_of_getElem? eh)
          obtain ⟨p, hp, ep⟩ := List.mem_map.mp hh
          have hv : valV (encC kvs) (Sum.inl h : Key) = some (.int p.2) := by
            rw [valV_enc, ← ep, getC_of_mem hnd hp]; rfl
          refine ⟨rfl, _, rfl, _, rfl, _, rfl, d, .int p.2, rfl, .inl ⟨encC kvs, .inl h, .inl (s6 _ _ (s5 _ _ hd4)), rfl, hv.symm⟩, (by show 2 ≤ sizeLine; decide), fun T hT => ?_⟩
          have s7 := same_new (o := .tup [.int h, .int p.2]) hT
          exact ⟨_, s7 _ _ h6, small6 (by omega), same_set (s6.trans s7) hDl, _, upd_same, by rw [List.length_append]; exact Nat.add_le_add_right hli 1⟩
        · rintro H6 ⟨s6, l, h6, hli⟩
          refine ⟨Dl, l, rfl, .inl ⟨SqL.of h6, fun c1 hc1 => ⟨c1, _, rfl, ((s4.trans s5).trans s6).trans (same_new hc1)⟩⟩⟩
      · rintro σ5 H5 ⟨c1, v8, rfl, s5⟩
        refine ⟨_, rfl, _, rfl, _, rfl, (by show 3 ≤ sizeLine; decide), fun T hT => ?_⟩
        have s6 := same_new (o := .tup [.str (kdS kd), .int wd, .ref c1]) hT
        have s56 := s5.trans s6
        have hmd3 := m13.kp _ _ hm1 (fun _ z => nomatch z) s.om
        have hfr : ∀ p ∈ kv0, p.1 ≠ nmK nm := fun p hp ep => by
          have : p.1 ∈ ms.map nmK := by rw [← hm2]; exact List.mem_map.mpr ⟨p, hp, rfl⟩
          obtain ⟨x, hx, ex⟩ := List.mem_map.mp this
          exact hnin (by rw [← nmK_inj (ex.trans ep)]; exact hx)
        have hlen : kv0.length = ms.length := by
          have := congrArg List.length hm2
          rwa [List.length_map, List.length_map] at this
        refine ⟨_, rfl, _, rfl, md, _, rfl, DPut.t (k := nmK nm) (s56 _ _ hmd3.1) (s56 _ _ hq2) (small6 (by omega)), ?_⟩
        obtain ⟨w7, ex7⟩ := (w3.same s56).wr (o' := .dT (putK kv0 (nmK nm) (.ref T))) (s56 _ _ hmd3.1) trivial hmd3.2
        obtain ⟨PL, p1, p2, p3⟩ := s.p
        have hpl3 := m13.kp _ _ p1 (fun _ z => nomatch z) s.op
        have npm : pl ≠ md := ne_of p1 hm1 (by intro z; cases z)
        have l3 := s.l.wm m13
        have nn : nl ≠ md := ne_of s.l.n hm1 (by intro z; cases z)
        have nh : hl ≠ md := ne_of s.l.h hm1 (by intro z; cases z)
        have ex := (m13.ext.trans (.of s56)).trans ex7
        refine k (ms ++ [nm]) _ _ ⟨fun a o h n q => (m13.kp a o h n q).2, fun a o h n q nx => ?_, ex⟩ ⟨w7, ⟨by rw [upd_ne nn]; exact s56 _ _ l3.n, by rw [upd_ne nh]; exact s56 _ _ l3.h, l3.on, l3.oh, l3.me, l3.l2, l3.l4⟩, ⟨kv0 ++ [(nmK nm, .ref T)], by rw [upd_same, putK_new hfr], by rw [List.map_append, List.map_append, hm2]; rfl⟩, hmd3.2, ⟨PL, by rw [upd_ne npm]; exact s56 _ _ hpl3.1, by omega, fun t ht => ((p3 t ht).ext ex).mono (fun x hx => List.mem_append_left _ hx) (by omega) m13.T⟩, hpl3.2, s.n1, s.n2⟩ (by rw [List.length_append]; exact Nat.le_refl _)
        rw [upd_ne (fun z => nx (by rw [z]; simp))]
        exact s56 _ _ (m13.kp a o h n q).1
    · refine ⟨true, errs_exm A.d hy, fun _ a ha => ⟨_, rfl, _, rfl, iteF ?_⟩, fun z => nomatch z⟩
      have s13 := s12.trans s3
      exact k ms L H3 (Wm.same s13).x ((s.same s13).up (by omega)) (by omega)

end
end G
namespace G
open PySem PySem.Spec L2
open PyProof.Rows hiding St
section
variable {P : Program} {w : World} {K : PySem.W.Frag} {mg : Str → Option Value} {base : Heap} {CT : Addr × Addr}
/-! ### a parting, a gathering -/
section
variable {X : Cx} {K : PySem.W.Frag}
theorem op_notInK (hK : X.K = K := by rfl) : OpR X (compareOp .NotIn) (rIn K true) := by subst hK; exact op_notIn_seq
end
theorem flat_nats (is : List Nat) : (is.map fun i : Nat => V.int (i : Int)).all flatV = true := List.all_eq_true.mpr fun x hx => by
  obtain ⟨i, _, rfl⟩ := List.mem_map.mp hx
  rfl
theorem WOK.act {CT : Addr × Addr} {cs : List Int} {ms : List Nm} {B B' : Nat} {H H1 : Hp} {L : HL} {j : Nat} {e : Addr × Hd × Option In} {D' : Hd} {i' : Option In} {H2 : Hp} (w : WOK K CT cs ms B H L) (hj : L[j]? = some e) (s1 : Same H H1) (mv : Mv CT (ft e) (foot e.1 D' i') H1 H2) (ho : HOK K cs ms (TT L) B' H2 e.1 D' i') (gr : Gr e.2.1 D') (hbd : Bd H1 e.2.2 → Bd H2 i') (hB : B ≤ B') :
    ∃ L', WOK K CT cs ms B' H2 L' ∧ Wm H L H2 L' ∧ L'[j]? = some (e.1, D', i') := by
  obtain ⟨w2, m2⟩ := (w.same s1).deed hj mv ho gr hbd hB (fun _ z => z) (fun _ z => .inl z) w.lms
  exact ⟨_, w2, (Wm.same s1).trans m2, List.getElem?_set_self (List.getElem?_eq_some_iff.mp hj).1⟩
def spParted (K : PySem.W.Frag) (CT : Addr × Addr) (cs : List Int) : Sp := fun vs H Q _ => ∃ (ms : List Nm) (B : Nat) (nl hl so : Addr) (L : HL) (is : List Nat) (at_ : Nat) (mo : Int), vs = [.ref nl, .ref hl, .int (at_ : Int), .ref so, .int mo] ∧ WOK K CT cs ms B H L ∧ Lst H L cs nl hl ∧ H so = some (.lst (is.map fun i : Nat => V.int (i : Int))) ∧ Outs so L ∧ (∀ i ∈ is, i < L.length) ∧ is.length ≤ 4 ∧ at_ < L.length ∧ B ≤ 840000 ∧
  ∀ H' L', Wm H L H' L' → WOK K CT cs ms (B + 17000) H' L' → Q .non H'
theorem names_at {cs : List Int} {i : Nat} (hi : i < (cs.map V.int).length) : ∃ c, c ∈ cs ∧ (cs.map V.int)[i]? = some (.int c) := by
  rw [List.length_map] at hi
  exact ⟨cs[i], List.getElem_mem hi, by rw [List.getElem?_map, List.getElem?_eq_getElem hi]; rfl⟩
theorem ok_law_parted (A : All P w K mg base CT) {cs : List Int}: DOk P w K mg base CX0 14 "_law_parted" ["_law_names", "_law_hands_here", "_law_at", "_law_some", "_law_more"] [] (spParted K CT cs) := by
  obtain ⟨fd, F⟩ := fu_law_parted A.d
  refine ⟨_, fd, [], FunD.ok0 F sc_law_parted (fun vs H Q E h => ?_) (fun cdv A0 outer s H vs Q E hr h => ?_), gl_law_parted A.kin A.ns A.d, F.kp, F.bindsN fun _ _ _ _ _ _ us hl => match us, hl with | [_, _, _, _, _], _ => rfl, .nil⟩
  · obtain ⟨ms, B, nl, hl, so, L, is, at_, mo, rfl, w, l, hs, os_, his, hil, hat, hB, k⟩ := h
    rfl
  · obtain ⟨ms, B, nl, hl, so, L, is, at_, mo, rfl, w, l, hs, os_, his, hil, hat, hB, k⟩ := h
    have hu := hu_of hr
    refine ⟨_, pss_cons (ps_cut (ps_if (pt_cmpR op_notN ((ok_Hand_standing A (cs := cs)).pe0 hr pass0 (pe_ix ix_list (pv 1) (pv 2) (fun _ _ => rfl))) pe_non (nomark _)) (pss_cons (ps_expr ((ok_Hand_suspect A (cs := cs)).pe hr pass0 (pe_ix ix_list (pv 1) (pv 2) (fun _ _ => rfl)) (pa_cons (pe_callB (cr_sum rfl) (by rfl) (fr_sum A.kin A.ns A.d) (by decide +kernel) (pa_cons (pe_lc (own := [("_law_one", 5)]) (g := gName 5) rfl sc_law_parted.nd (pi_range1 (by rfl) (fr_range A.kin A.ns A.d) (pa_cons (pe_callB call_len_seq (by rfl) (fr_len A.kin A.ns A.d) (by decide +kernel) (pa_cons (pv 0) pa_nil)) pa_nil)) (blkOk_by (N := ["_law_names", "_law_hands_here", "_law_at", "_law_some", "_law_more", "_law_one"]) (sc := defScope s_law_parted) (by decide +kernel)) (fun _ _ _ _ _ => pg_name (i := 5) sc_law_parted.nd rfl (Or.inl rfl)) (fun _ _ _ _ _ => (pts_one (pt_cmpR (op_notInK (K := K)) (pv 5) (pv 3) (by rfl)))) (fun _ _ _ _ _ => (pe_op op_shl pe_int (pe_ix (ix_listK (K := K)) (pv 0) (pv 5) (fun _ _ => rfl))))) pa_nil)) pa_nil))) (pss_one (ps_expr ((ok_Hand_renew A (cs := cs)).pe hr pass0 (pe_ix ix_list (pv 1) (pv 2) (fun _ _ => rfl)) (pa_cons (pv 4) pa_nil))))) pss_nil))
      (pss_cons (ps_expr ((ok_law_round A (cs := cs)).pe hr pass0 (pa_cons (pv 1) (pa_cons (pv 3) pa_nil))))
      (pss_one (ps_expr ((ok_law_round A (cs := cs)).pe hr pass0 (pa_cons (pv 1) (pa_cons (pv 3) pa_nil)))))), ?_⟩
    have eE : L[at_]? = some L[at_] := List.getElem?_eq_getElem hat
    generalize L[at_] = e at eE
    have he := w.hk e (List.mem_of_getElem? eE)
    have lcs := w.lcs
    have lms := w.lms
    have hll : L.length = cs.length := by rw [← l.me, List.length_map]
    refine ⟨fun σ' H' => ∃ L', σ' = [some (.ref nl), some (.ref hl), some (.int (at_ : Int)), some (.ref so), some (.int mo), none] ∧ Wm H L H' L' ∧ WOK K CT cs ms (B + 220) H' L', ?_, ?_⟩
    · refine ⟨_, rfl, _, rfl, hl, _, _, V.ref e.1, rfl, rfl, SqL.of l.h, atI_nat (j := at_) (refsH_get eE), e.1, e.2.1.dx, _, rfl, he.c.ins, by kernel_rfl, ms, TT L, B, e.1, e.2.1, e.2.2, rfl, he, fun en => ?_, fun x ex q hq => ?_⟩
      · exact ⟨rfl, _, rfl, iteF ⟨L, rfl, .refl, w.up (by omega)⟩⟩
      · have s1 := same_new (o := .tup [.int e.2.1.number, .int e.2.1.hands]) hq
        have l1 := l.wm (Wm.same (L := L) s1)
        have hso1 := s1 _ _ hs
        have he1 := he.same s1
        refine ⟨rfl, _, rfl, iteT ⟨_, rfl, _, rfl, hl, _, _, V.ref e.1, rfl, rfl, SqL.of l1.h, atI_nat (j := at_) (refsH_get eE), e.1, e.2.1.dx, _, rfl, he1.c.ins, by kernel_rfl, _, rfl, nl, _, rfl, .inl (SqL.of l1.n), _, rfl, by omega, by rw [List.length_map]; omega, fun D hD => ?_⟩⟩
        refine lc_range (lo := 0) (n := (cs.map V.int).length) (fun i H' => Same (upd H q (.tup [.int e.2.1.number, .int e.2.1.hands])) H' ∧ ∃ ns : List Int, H' D = some (.lst (ns.map V.int)) ∧ ns.length ≤ i) ⟨same_new hD, [], upd_same, Nat.le_refl _⟩ ?_ ?_
        · rintro i H2 hi ⟨s2, ns, h2, hni⟩
          have hcl : (cs.map V.int).length ≤ 60 := by rw [List.length_map]; exact lcs
          obtain ⟨c, hc, ec⟩ := names_at hi
          obtain ⟨c0, c62⟩ := w.c62 c hc
          refine ⟨rfl, _, rfl, _, rfl, so, _, rfl, .inl (SqL.of (s2 _ _ hso1)), rfl, flat_nats is, _, rfl, ?_⟩
          refine ite2 (fun _ => ?_) (fun _ => ⟨s2, ns, h2, Nat.le_succ_of_le hni⟩)
          refine ⟨_, rfl, _, rfl, nl, _, _, V.int c, rfl, rfl, SqL.of (s2 _ _ l1.n), by rw [Int.zero_add]; exact atI_nat ec, _, _, rfl, rfl, ⟨c0, by omega, by decide⟩, _, h2, small6 (by rw [List.length_map]; omega), same_set s2 hD, ns ++ [1 * 2 ^ c.toNat], by rw [upd_same, List.map_append]; rfl, by rw [List.length_append]; exact Nat.add_le_add_right hni 1⟩
        · rintro H2 ⟨s2, ns, h2, hni⟩
          have s12 := s1.trans s2
          have he2 := he.same s12
          have l2 := l.wm (Wm.same (L := L) s12)
          refine ⟨D, ns, rfl, SqL.of h2, ms, TT L, B, e.1, e.2.1, e.2.2, ns.sum, rfl, he2, w.tab.ext s12, lcs, lms, by omega, fun v D' i' H3 _ mv ho gr bd st => ?_⟩
          obtain ⟨L3, w3, m3, e3⟩ := w.act eE s12 mv ho gr (fun _ => bd) (by omega)
          have l3 := l.wm m3
          obtain ⟨x', rfl⟩ := st (he.bdx (.of s12) (w.bd e (List.mem_of_getElem? eE))) x ex
          refine ⟨_, rfl, _, rfl, hl, _, _, V.ref e.1, rfl, rfl, SqL.of l3.h, atI_nat (j := at_) (refsH_get (e := (e.1, D', some x')) e3), e.1, D'.dx, _, rfl, ho.c.ins, by kernel_rfl, _, rfl, ms, TT L3, B + 110, e.1, D', x', mo, rfl, w3.hk _ (List.mem_of_getElem? e3), w3.tab, lcs, lms, by omega, fun v D4 i4 H4 _ mv4 ho4 gr4 bd4 => ?_⟩
          obtain ⟨L4, w4, m4, _⟩ := w3.act e3 (Same.refl _) mv4 ho4 gr4 bd4 (by omega)
          exact ⟨L4, rfl, m3.trans m4, w4⟩
    · rintro σ1 H1 ⟨L1, rfl, m1, w1⟩
      have l1 := l.wm m1
      obtain ⟨a1, a2⟩ := m1.kp _ _ hs (fun _ z => nomatch z) os_
      refine ⟨_, rfl, _, rfl, ms, B + 220, hl, so, L1, is, rfl, w1, l1.h, l1.oh, a1, a2, fun i hi => by rw [m1.len]; exact his i hi, hil, by omega, fun H2 L2' m2 w2 => ?_⟩
      have l2 := l1.wm m2
      obtain ⟨b1, b2⟩ := m2.kp _ _ a1 (fun _ z => nomatch z) a2
      have m12 := m1.trans m2
      exact ⟨_, rfl, _, rfl, ms, B + 220 + 8000, hl, so, L2', is, rfl, w2, l2.h, l2.oh, b1, b2, fun i hi => by rw [m12.len]; exact his i hi, hil, by omega, fun H3 L3 m3 w3 => k H3 L3 (m12.trans m3) (w3.up (by omega))⟩
def spGathered (K : PySem.W.Frag) (CT : Addr × Addr) (cs : List Int) : Sp := fun vs H Q _ => ∃ (ms : List Nm) (B : Nat) (nl hl : Addr) (L : HL) (at_ : Nat), vs = [.ref hl, .int (at_ : Int)] ∧ WOK K CT cs ms B H L ∧ Lst H L cs nl hl ∧ at_ < L.length ∧ B ≤ 840000 ∧
  ∀ H' L', Wm H L H' L' → WOK K CT cs ms (B + 25000) H' L' → Q .non H'
theorem rgV_nat (n : Nat) : rgV 0 (n : Int) = (List.range n).map fun i : Nat => V.int (i : Int) := by
  unfold rgV
  rw [Int.sub_zero, Int.toNat_natCast]
  exact List.map_congr_left fun i _ => by rw [Int.zero_add]
theorem ok_law_gathered (A : All P w K mg base CT) {cs : List Int}: DOk P w K mg base CX0 14 "_law_gathered" ["_law_hands_here", "_law_at"] [] (spGathered K CT cs) := by
  obtain ⟨fd, F⟩ := fu_law_gathered A.d
  refine ⟨_, fd, [], FunD.ok0 F sc_law_gathered (fun vs H Q E h => ?_) (fun cdv A0 outer s H vs Q E hr h => ?_), gl_law_gathered A.kin A.ns A.d, F.kp, F.bindsN fun _ _ _ _ _ _ us hl => match us, hl with | [_, _], _ => rfl, .nil⟩
  · obtain ⟨ms, B, nl, hl, L, at_, rfl, w, l, hat, hB, k⟩ := h
    rfl
  · obtain ⟨ms, B, nl, hl, L, at_, rfl, w, l, hat, hB, k⟩ := h
    have hu := hu_of hr
    refine ⟨_, pss_cons (ps_for PassesOwn.never rfl (pi_list (pv 0)) (pg_name (i := 2) sc_law_gathered.nd rfl (by first | exact Or.inl rfl | exact Or.inr rfl)) (pss_cons (ps_expr ((ok_Hand_suspect A (cs := cs)).pe hr pass0 (pv 2) (pa_cons pe_int pa_nil))) (pss_one (ps_if (pt_cmpR op_isN ((ok_Hand_standing A (cs := cs)).pe0 hr pass0 (pv 2)) pe_non (nomark _)) (pss_one (ps_expr ((ok_Hand_come A (cs := cs)).pe0 hr pass0 (pv 2)))) pss_nil))))
      (pss_cons (ps_expr ((ok_law_round A (cs := cs)).pe hr pass0 (pa_cons (pv 0) (pa_cons (pe_listRg rfl (by rfl) (fr_list A.kin A.ns A.d) (prg_1 (by rfl) (fr_range A.kin A.ns A.d) (pe_callB call_len_seq (by rfl) (fr_len A.kin A.ns A.d) (by decide +kernel) (pa_cons (pv 0) pa_nil)))) pa_nil))))
      (pss_cons (ps_cut (ps_if (pt_cmpR op_notN ((ok_Hand_standing A (cs := cs)).pe0 hr pass0 (pe_ix ix_list (pv 0) (pv 1) (fun _ _ => rfl))) pe_non (nomark _)) (pss_one (ps_expr ((ok_Hand_renew_1 A (cs := cs)).pe0 hr pass0 (pe_ix ix_list (pv 0) (pv 1) (fun _ _ => rfl))))) pss_nil))
      (pss_cons (ps_expr ((ok_law_round A (cs := cs)).pe hr pass0 (pa_cons (pv 0) (pa_cons (pe_listRg rfl (by rfl) (fr_list A.kin A.ns A.d) (prg_1 (by rfl) (fr_range A.kin A.ns A.d) (pe_callB call_len_seq (by rfl) (fr_len A.kin A.ns A.d) (by decide +kernel) (pa_cons (pv 0) pa_nil)))) pa_nil))))
      (pss_one (ps_expr ((ok_law_round A (cs := cs)).pe hr pass0 (pa_cons (pv 0) (pa_cons (pe_listRg rfl (by rfl) (fr_list A.kin A.ns A.d) (prg_1 (by rfl) (fr_range A.kin A.ns A.d) (pe_callB call_len_seq (by rfl) (fr_len A.kin A.ns A.d) (by decide +kernel) (pa_cons (pv 0) pa_nil)))) pa_nil)))))))), ?_⟩
    have lcs := w.lcs
    have lms := w.lms
    have l4 := l.l4
    refine ⟨_, rfl, hl, rfl, ⟨_, SqL.of l.h⟩, for_list (K := K) (a := hl) (xs := refsH L) (fun i σ' H' => ∃ (v2 : Option V) (L' : HL), σ' = [some (.ref hl), some (.int (at_ : Int)), v2] ∧ Wm H L H' L' ∧ WOK K CT cs ms (B + 110 * i) H' L')
      ⟨none, L, rfl, .refl, w⟩ (fun i σ' H' _ ⟨_, _, _, m, _⟩ => by have := (l.wm m).h; rw [m.refs] at this; exact SqL.of this) ?_ ?_⟩
    · rintro i x σ1 H1 hx ⟨v2, L1, rfl, m1, w1⟩
      have hi : i < L1.length := by
        have := (List.getElem?_eq_some_iff.mp hx).1
        rw [refsH_len] at this; rw [m1.len]; exact this
      have eE : L1[i]? = some L1[i] := List.getElem?_eq_getElem hi
      generalize L1[i] = e at eE
      have ex : x = .ref e.1 := by
        have := refsH_get eE
        rw [m1.refs, hx] at this
        exact Option.some.inj this
      subst ex
      have hil : i < 4 := by have := m1.len; omega
      have he := w1.hk e (List.mem_of_getElem? eE)
      refine ⟨_, rfl, e.1, e.2.1.dx, _, rfl, he.c.ins, by kernel_rfl, ms, TT L1, B + 110 * i, e.1, e.2.1, e.2.2, 0, rfl, he, w1.tab, lcs, lms, by omega, fun v D' i' H2 _ mv ho gr bd _ => ?_⟩
      obtain ⟨L2', w2, m2, e2⟩ := w1.act eE (Same.refl _) mv ho gr (fun _ => bd) (by omega)
      have he2 := w2.hk _ (List.mem_of_getElem? e2)
      refine ⟨_, rfl, e.1, D'.dx, _, rfl, ho.c.ins, by kernel_rfl, ms, TT L2', B + 110 * i + 110, e.1, D', i', rfl, he2, fun en => ?_, fun x ex q hq => ?_⟩
      · subst en
        refine ⟨rfl, _, rfl, iteT ⟨_, rfl, e.1, D'.dx, _, rfl, ho.c.ins, by kernel_rfl, ms, TT L2', B + 110 * i + 110, e.1, D', rfl, he2, fun v D3 i3 H3 _ mv3 ho3 gr3 bd3 => ?_⟩⟩
        obtain ⟨L3, w3, m3, _⟩ := w2.act e2 (Same.refl _) mv3 ho3 gr3 bd3 (Nat.le_refl _)
        exact ⟨_, L3, rfl, (m1.trans m2).trans m3, w3.up (by omega)⟩
      · have s3 := same_new (o := .tup [.int D'.number, .int D'.hands]) hq
        exact ⟨rfl, _, rfl, iteF ⟨_, L2', rfl, (m1.trans m2).trans (.same s3), (w2.same s3).up (by omega)⟩⟩
    rintro σ1 H1 ⟨v2, L1, rfl, m1, w1⟩
    rw [refsH_len] at w1
    have w1 := w1.up (B' := B + 440) (by omega)
    have rnd : ∀ {H' : Hp} {L' : HL} {q : Addr}, Wm H L H' L' → H' q = none → ∀ B', WOK K CT cs ms B' H' L' → B' ≤ 870000 → (∀ H2 L2, Wm H L H2 L2 → WOK K CT cs ms (B' + 8000) H2 L2 → Q .non H2) → True := fun _ _ _ _ _ _ => trivial
    clear rnd
    have l1 := l.wm m1
    have n1 := m1.len
    have lr : ((refsH L1).length : Int) = ((L1.length : Nat) : Int) := by rw [refsH_len]
    refine ⟨_, rfl, _, rfl, hl, _, rfl, .inl (SqL.of l1.h), _, rfl, by rw [lr]; exact RgOk.of_le (by omega) (by omega) (by omega) (by omega), fun q hq => ?_⟩
    rw [lr, rgV_nat]
    have s2 := same_new (o := .lst ((List.range L1.length).map fun i : Nat => V.int (i : Int))) hq
    have m2 := m1.trans (.same s2)
    have l2 := l.wm m2
    refine ⟨ms, B + 440, hl, q, L1, List.range L1.length, rfl, w1.same s2, l2.h, l2.oh, upd_same, w1.fresh hq, fun i hi => List.mem_range.mp hi, by rw [List.length_range]; omega, by omega, fun H3 L3 m3 w3 => ?_⟩
    have m13 := m2.trans m3
    have l3 := l.wm m13
    have n3 := m13.len
    have eE : L3[at_]? = some L3[at_] := List.getElem?_eq_getElem (by omega)
    generalize L3[at_] = e at eE
    have he := w3.hk e (List.mem_of_getElem? eE)
    refine ⟨fun σ' H' => ∃ L', σ' = [some (.ref hl), some (.int (at_ : Int)), v2] ∧ Wm H L H' L' ∧ WOK K CT cs ms (B + 8600) H' L', ?_, ?_⟩
    · refine ⟨_, rfl, _, rfl, hl, _, _, V.ref e.1, rfl, rfl, SqL.of l3.h, atI_nat (j := at_) (refsH_get eE), e.1, e.2.1.dx, _, rfl, he.c.ins, by kernel_rfl, ms, TT L3, B + 440 + 8000, e.1, e.2.1, e.2.2, rfl, he, fun en => ?_, fun x ex q4 hq4 => ?_⟩
      · exact ⟨rfl, _, rfl, iteF ⟨L3, rfl, m13, w3.up (by omega)⟩⟩
      · have s4 := same_new (o := .tup [.int e.2.1.number, .int e.2.1.hands]) hq4
        have he4 := he.same s4
        have l4 := l.wm (m13.trans (.same s4))
        have he5 : HOK K cs ms (TT L3) (B + 440 + 8000) (upd H3 q4 (.tup [.int e.2.1.number, .int e.2.1.hands])) e.1 e.2.1 (some x) := by rw [← ex]; exact he4
        refine ⟨rfl, _, rfl, iteT ⟨_, rfl, _, rfl, hl, _, _, V.ref e.1, rfl, rfl, SqL.of l4.h, atI_nat (j := at_) (refsH_get eE), e.1, e.2.1.dx, _, rfl, he4.c.ins, by kernel_rfl, ms, TT L3, B + 440 + 8000, e.1, e.2.1, x, 1, rfl, he5, w3.tab.ext s4, lcs, lms, by omega, fun v D' i' H5 _ mv ho gr bd => ?_⟩⟩
        obtain ⟨L5, w5, m5, _⟩ := w3.act eE s4 (by rw [show ft e = foot e.1 e.2.1 (some x) from by rw [← ex]]; exact mv) ho gr (by rw [ex]; exact bd) (by omega)
        exact ⟨L5, rfl, m13.trans m5, w5.up (by omega)⟩
    clear he eE l3 n3 m13 w3 m3 l2 m2 s2 hq l1 lr n1 w1 m1
    rintro σ4 H4 ⟨L4, rfl, m4, w4⟩
    have l5 := l.wm m4
    have n4 := m4.len
    have lr : ((refsH L4).length : Int) = ((L4.length : Nat) : Int) := by rw [refsH_len]
    refine ⟨_, rfl, _, rfl, hl, _, rfl, .inl (SqL.of l5.h), _, rfl, by rw [lr]; exact RgOk.of_le (by omega) (by omega) (by omega) (by omega), fun q5 hq5 => ?_⟩
    rw [lr, rgV_nat]
    have s5 := same_new (o := .lst ((List.range L4.length).map fun i : Nat => V.int (i : Int))) hq5
    have m5 := m4.trans (.same s5)
    have l6 := l.wm m5
    refine ⟨ms, B + 8600, hl, q5, L4, List.range L4.length, rfl, w4.same s5, l6.h, l6.oh, upd_same, w4.fresh hq5, fun i hi => List.mem_range.mp hi, by rw [List.length_range]; omega, by omega, fun H6 L6 m6 w6 => ?_⟩
    have m16 := m5.trans m6
    have l7 := l.wm m16
    have n6 := m16.len
    have lr : ((refsH L6).length : Int) = ((L6.length : Nat) : Int) := by rw [refsH_len]
    refine ⟨_, rfl, _, rfl, hl, _, rfl, .inl (SqL.of l7.h), _, rfl, by rw [lr]; exact RgOk.of_le (by omega) (by omega) (by omega) (by omega), fun q7 hq7 => ?_⟩
    rw [lr, rgV_nat]
    have s7 := same_new (o := .lst ((List.range L6.length).map fun i : Nat => V.int (i : Int))) hq7
    have m7 := m16.trans (.same s7)
    have l8 := l.wm m7
    exact ⟨ms, B + 8600 + 8000, hl, q7, L6, List.range L6.length, rfl, w6.same s7, l8.h, l8.oh, upd_same, w6.fresh hq7, fun i hi => List.mem_range.mp hi, by rw [List.length_range]; omega, by omega, fun H8 L8 m8 w8 => k H8 L8 (m7.trans m8) (w8.up (by omega))⟩

end
end G
namespace G
open PySem PySem.Spec L2
open PyProof.Rows hiding St
section
variable {P : Program} {w : World} {K : PySem.W.Frag} {mg : Str → Option Value} {base : Heap} {CT : Addr × Addr}
/-! ### small deeds -/
theorem Wx.left {X : List Addr} {H H1 H2 : Hp} {L L' : HL} (s : Same H H1) (x : Wx X H1 L H2 L') : Wx X H L H2 L' := ⟨fun a o h n q => x.out a o (s _ _ h) n q, fun a o h n q nx => x.kp a o (s _ _ h) n q nx, (Ext.of s).trans x.ext⟩
theorem fmN {x : Int} {n : Nat} (h : 0 < n) : ∃ m : Nat, m < n ∧ x.fmod (n : Int) = (m : Int) := by
  obtain ⟨h1, h2⟩ := fm (a := x) (b := (n : Int)) (by omega)
  exact ⟨(x.fmod (n : Int)).toNat, by omega, by omega⟩
theorem kinds_at (x : Int) : ∃ kd : Kd, atI [V.str "own", V.str "heard", V.str "one"] (x.fmod 3) = some (.str (kdS kd)) := by
  obtain ⟨h1, h2⟩ := fm (a := x) (b := 3) (by decide)
  have : x.fmod 3 = 0 ∨ x.fmod 3 = 1 ∨ x.fmod 3 = 2 := by omega
  rcases this with h | h | h <;> rw [h]
  · exact ⟨.own, rfl⟩
  · exact ⟨.heard, rfl⟩
  · exact ⟨.one, rfl⟩
def spSmall (K : PySem.W.Frag) (CT : Addr × Addr) (cs : List Int) : Sp := fun vs H Q _ => ∃ (ms : List Nm) (B : Nat) (L : HL) (nl hl md pl : Addr) (at_ : Nat) (cell draw : Int), vs = [.ref nl, .ref hl, .int (at_ : Int), .ref md, .ref pl, .int cell, .int draw] ∧ WS K CT cs ms B H L nl hl md pl ∧ at_ < L.length ∧ ms.length ≤ 49 ∧ B ≤ 860000 ∧ spPost K CT cs ms B 510 H L nl hl md pl (Q .non)
theorem ok_law_small (A : All P w K mg base CT) {cs : List Int}: DOk P w K mg base CX0 15 "_law_small" ["_law_names", "_law_hands_here", "_law_at", "_law_made", "_law_pool", "_law_cell", "_law_draw"] [] (spSmall K CT cs) := by
  obtain ⟨fd, F⟩ := fu_law_small A.d
  refine ⟨_, fd, [], FunD.ok0 F sc_law_small (fun vs H Q E h => ?_) (fun cdv A0 outer s H vs Q E hr h => ?_), gl_law_small A.kin A.ns A.d, F.kp, F.bindsN fun _ _ _ _ _ _ us hl => match us, hl with | [_, _, _, _, _, _, _], _ => rfl, .nil⟩
  · obtain ⟨ms, B, L, nl, hl, md, pl, at_, cell, draw, rfl, s, hat, hms, hB, k⟩ := h
    rfl
  · obtain ⟨ms, B, L, nl, hl, md, pl, at_, cell, draw, rfl, s, hat, hms, hB, k⟩ := h
    have hu := hu_of hr
    refine ⟨_, pss_cons (ps_set (i := 7) sc_law_small.nd rfl (by first | exact Or.inl rfl | exact Or.inr rfl) (pe_ix ix_list (pv 1) (pv 2) (fun _ _ => rfl)))
      (pss_cons (ps_set (i := 8) sc_law_small.nd rfl (by first | exact Or.inl rfl | exact Or.inr rfl) (pe_op op_modN (pv 6) pe_int))
      (pss_one (ps_if (pt_cmpR op_lt (pv 8) pe_int (nomark _)) (pss_one (ps_expr ((ok_law_call A (cs := cs)).pe hr pass0 (pa_cons (pv 7) (pa_cons (pe_ix ix_list (pe_lst (pa_cons pe_str (pa_cons pe_str (pa_cons pe_str pa_nil)))) (pe_op op_modN (pe_op op_fdivN (pv 6) pe_int) pe_int) (fun _ _ => rfl)) (pa_cons ((ok_law_word A).pe hr pass0 (pa_cons (pv 5) pa_nil)) (pa_cons (pv 3) pa_nil))))))) (pss_one (ps_if (PW.pt (pw_and (pt_cmpR op_eq (pv 8) pe_int (nomark _)) (pw_and1 (pt_cmpR op_eq (pe_op op_modN (pe_op op_fdivN (pv 6) pe_int) pe_int) pe_int (nomark _))))) (pss_one (ps_expr (pe_bm PySem.F.plainAttrs_list PySem.F.slot_list_append PySem.F.type_list_append mt_append (pv 4) (pa_cons ((ok_Hand_letter A (cs := cs)).pe hr pass0 (pv 7) (pa_cons (pe_op op_modN (pe_op op_fdivN (pv 6) pe_int) pe_int) (pa_cons (pe_op op_modN (pe_op op_fdivN (pv 6) pe_int) pe_int) pa_nil))) pa_nil)))) (pss_one (ps_if (pt_cmpR op_eq (pv 8) pe_int (nomark _)) (pss_one (ps_expr (pe_bm PySem.F.plainAttrs_list PySem.F.slot_list_append PySem.F.type_list_append mt_append (pv 4) (pa_cons ((ok_Hand_letter_1 A (cs := cs)).pe0 hr pass0 (pv 7)) pa_nil)))) (pss_one (ps_if (PW.pt (pw_and (pt_cmpR op_eq (pv 8) pe_int (nomark _)) (pw_and1 (pt_cmpR (op_neNil hu) (pv 4) (pe_lst pa_nil) (nomark _))))) (pss_one (ps_expr ((ok_Hand_hear A (cs := cs)).pe hr pass0 (pv 7) (pa_cons (pe_ix ix_list (pv 4) (pe_op op_modN (pe_op op_fdivN (pv 6) pe_int) (pe_callB call_len_seq (by rfl) (fr_len A.kin A.ns A.d) (by decide +kernel) (pa_cons (pv 4) pa_nil))) (fun _ _ => rfl)) pa_nil)))) (pss_one (ps_if (pt_cmpR op_lt (pv 8) pe_int (nomark _)) (pss_cons (ps_set (i := 9) sc_law_small.nd rfl (by first | exact Or.inl rfl | exact Or.inr rfl) (pe_op op_modN (pe_op op_add (pe_op op_add (pv 2) pe_int) (pe_op op_modN (pe_op op_fdivN (pv 6) pe_int) (pe_op op_sub (pe_callB call_len_seq (by rfl) (fr_len A.kin A.ns A.d) (by decide +kernel) (pa_cons (pv 1) pa_nil)) pe_int))) (pe_callB call_len_seq (by rfl) (fr_len A.kin A.ns A.d) (by decide +kernel) (pa_cons (pv 1) pa_nil)))) (pss_one (ps_expr ((ok_Hand_hear A (cs := cs)).pe hr pass0 (pv 7) (pa_cons ((ok_Hand_letter A (cs := cs)).pe hr pass0 (pe_ix ix_list (pv 1) (pv 9) (fun _ _ => rfl)) (pa_cons (pe_op op_modN (pe_op op_fdivN (pv 6) pe_int) pe_int) (pa_cons pe_int pa_nil))) pa_nil))))) (pss_one (ps_if (pt_cmpR op_eq (pv 8) pe_int (nomark _)) (pss_cons (ps_setLc (i := 10) (own := [("_law_one", 11)]) (g := gName 11) rfl sc_law_small.nd rfl rfl (sw_true rfl rfl rfl (by decide +kernel)) (pi_range1 (by rfl) (fr_range A.kin A.ns A.d) (pa_cons (pe_callB call_len_seq (by rfl) (fr_len A.kin A.ns A.d) (by decide +kernel) (pa_cons (pv 1) pa_nil)) pa_nil)) (blkOk_by (N := ["_law_names", "_law_hands_here", "_law_at", "_law_made", "_law_pool", "_law_cell", "_law_draw", "_law_hand", "_law_kind", "_law_other", "_law_some", "_law_one"]) (sc := defScope s_law_small) (by decide +kernel)) (fun _ _ _ _ _ => pg_name (i := 11) sc_law_small.nd rfl (Or.inl rfl)) (fun _ _ _ _ _ => (pts_one (pt_cmpR op_eq (pe_op op_and (pe_op op_shr (pv 6) (pe_op op_add pe_int (pv 11))) pe_int) pe_int (nomark _)))) (fun _ _ _ _ _ => (pv 11))) (pss_one (ps_expr ((ok_Hand_suspect A (cs := cs)).pe hr pass0 (pv 7) (pa_cons (pe_callB (cr_sum rfl) (by rfl) (fr_sum A.kin A.ns A.d) (by decide +kernel) (pa_cons (pe_lc (own := [("_law_one", 11)]) (g := gName 11) (tt := tYes) rfl sc_law_small.nd (pi_list (pv 10)) (blkOk_by (N := ["_law_names", "_law_hands_here", "_law_at", "_law_made", "_law_pool", "_law_cell", "_law_draw", "_law_hand", "_law_kind", "_law_other", "_law_some", "_law_one"]) (sc := defScope s_law_small) (by decide +kernel)) (fun _ _ _ _ _ => pg_name (i := 11) sc_law_small.nd rfl (Or.inl rfl)) (fun _ _ _ _ _ => pts_nil) (fun _ _ _ _ _ => (pe_op op_shl pe_int (pe_ix (ix_listK (K := K)) (pv 0) (pv 11) (fun _ _ => rfl))))) pa_nil)) pa_nil))))) (pss_one (ps_expr ((ok_law_leave A (cs := cs)).pe hr pass0 (pa_cons (pv 7) pa_nil))))))))))))))))), ?_⟩
    have eE : L[at_]? = some L[at_] := List.getElem?_eq_getElem hat
    generalize L[at_] = e at eE
    have w0 := s.w
    have l0 := s.l
    have m0 : Wm H L H L := .refl
    have he0 := w0.hk e (List.mem_of_getElem? eE)
    have lcs := w0.lcs
    have lms := w0.lms
    obtain ⟨PL, p1, p2, p3⟩ := s.p
    have fin : ∀ H' L', Wm H L H' L' → WOK K CT cs ms (B + 510) H' L' → Q .non H' := fun H' L' m w => k ms L' H' m.x (s.wm w m (by omega)) (by omega)
    have post : ∀ t H1, Same H H1 → LetOK cs ms (TT L) B H1 t → Q .non (upd H1 pl (.lst (PL.map V.ref ++ [.ref t]))) := fun t H1 s1 hlt => by
      have s2 := (s.same s1).up (B' := B + 510) (by omega)
      obtain ⟨s3, x3⟩ := s2.post (s1 _ _ p1) (by omega) (fun u hu => ((p3 u hu).ext (.of s1)).mono (fun _ z => z) (by omega) fun _ _ z => z) (hlt.mono (fun _ z => z) (by omega) fun _ _ z => z)
      exact k ms L _ (x3.left s1) s3 (by omega)
    have pll : (PL.map V.ref).length < sizeLine := by rw [List.length_map]; exact small6 (by omega)
    refine ⟨_, rfl, _, rfl, hl, _, _, V.ref e.1, rfl, rfl, SqL.of l0.h, atI_nat (j := at_) (refsH_get eE), ?_⟩
    refine ⟨_, rfl, _, _, rfl, rfl, nzI 16, ?_⟩
    refine ⟨_, rfl, _, _, rfl, rfl, _, rfl, ite2 (fun h5 => ?_) (fun h5 => ?_)⟩
    · obtain ⟨kd, hkd⟩ := kinds_at (draw.fdiv 64)
      refine ⟨_, rfl, (by show 3 ≤ sizeLine; decide), fun c0 hc0 => ?_⟩
      have s1 := same_new (o := .lst [.str "own", .str "heard", .str "one"]) hc0
      refine ⟨_, rfl, _, _, rfl, rfl, ⟨by decide, by decide⟩, _, _, rfl, rfl, nzI 3, c0, _, _, .str (kdS kd), rfl, rfl, SqL.of upd_same, hkd, _, rfl, cell, rfl, fun v hv => ⟨_, rfl, ?_⟩⟩
      exact ⟨ms, B, L, nl, hl, md, pl, at_, e, kd, v, rfl, s.same s1, eE, hv, hms, by omega, fun ms' L' H' x ws hl => k ms' L' H' (x.left s1) (ws.up (by omega)) hl⟩
    refine ⟨_, rfl, rfl, _, rfl, ite2 (fun e5 => ?_) (fun e5 => ?_)⟩
    · refine ⟨_, rfl, _, _, rfl, rfl, ⟨by decide, by decide⟩, _, _, rfl, rfl, nzI 2, rfl, _, rfl, ite2 (fun _ => ?_) (fun _ => ?_)⟩
      · refine ⟨_, rfl, .inl ⟨rfl, _, .inl (.inl p1)⟩, _, rfl, e.1, e.2.1.dx, _, rfl, he0.c.ins, by kernel_rfl, _, rfl, _, _, rfl, rfl, ⟨by decide, by decide⟩, _, _, rfl, rfl, nzI 3, _, rfl, _, _, rfl, rfl, ⟨by decide, by decide⟩, _, _, rfl, rfl, nzI 4, ms, TT L, B, e.1, e.2.1, e.2.2, _, _, rfl, .inr ⟨_, rfl⟩, he0, TT.own eE, lcs, lms, by omega, fun t H1 ht s1 hlt => ?_⟩
        exact ⟨pl, _, _, rfl, rfl, s1 _ _ p1, pll, post t H1 s1 hlt⟩
      · refine ⟨_, rfl, rfl, _, rfl, ite2 (fun _ => ?_) (fun z => absurd e5 z)⟩
        refine ⟨_, rfl, .inl ⟨rfl, _, .inl (.inl p1)⟩, _, rfl, e.1, e.2.1.dx, _, rfl, he0.c.ins, by kernel_rfl, ms, TT L, B, e.1, e.2.1, e.2.2, 0, .non, rfl, .inl rfl, he0, TT.own eE, lcs, lms, by omega, fun t H1 ht s1 hlt => ?_⟩
        exact ⟨pl, _, _, rfl, rfl, s1 _ _ p1, pll, post t H1 s1 hlt⟩
    refine ⟨_, rfl, rfl, _, rfl, ite2 (fun z => absurd z e5) (fun _ => ?_)⟩
    refine ⟨_, rfl, rfl, _, rfl, ite2 (fun e6 => ?_) (fun e6 => ?_)⟩
    · refine ⟨_, rfl, Nat.zero_le _, fun u hu2 => ?_⟩
      have s1 := same_new (o := .lst []) hu2
      have m1 := Wm.same (L := L) s1
      have w1 := w0.same s1
      have l1 := l0.wm m1
      have he1 := he0.same s1
      refine ⟨pl, u, PL.map V.ref, rfl, rfl, SqL.of (s1 _ _ p1), SqL.of upd_same, _, rfl, ite2 (fun ne => ?_) (fun ne => ?_)⟩
      · have hPL : 0 < PL.length := by
          cases PL with
          | nil => exact absurd ne (by decide)
          | cons _ _ => exact Nat.succ_pos _
        obtain ⟨m, hm, em⟩ := fmN (n := (PL.map V.ref).length) (x := draw.fdiv 64) (by rw [List.length_map]; exact hPL)
        rw [List.length_map] at hm
        refine ⟨_, rfl, e.1, e.2.1.dx, _, rfl, he1.c.ins, by kernel_rfl, _, rfl, _, rfl, _, _, rfl, rfl, ⟨by decide, by decide⟩, _, rfl, pl, _, rfl, .inl (SqL.of (s1 _ _ p1)), _, _, rfl, rfl, nzI _ (by rw [List.length_map]; omega), pl, _, _, V.ref PL[m], rfl, rfl, SqL.of (s1 _ _ p1), by rw [em]; exact atI_nat (j := m) (by rw [List.getElem?_map, List.getElem?_eq_getElem hm]; rfl), ?_⟩
        refine ⟨ms, TT L, B, e.1, e.2.1, e.2.2, PL[m], rfl, he1, (p3 _ (List.getElem_mem hm)).ext (.of s1), w1.tab, w1.own eE, w1.c62, lcs, lms, by omega, fun v D' i' H2 _ mv ho gr bd => ?_⟩
        obtain ⟨L2', w2, m2, _⟩ := w1.act eE (Same.refl _) mv ho gr bd (by omega)
        exact fin H2 L2' (m1.trans m2) (w2.up (by omega))
      · have h6 : draw.fmod 16 = 6 := num_eq e6
        refine ⟨_, rfl, _, _, rfl, rfl, _, rfl, ite2 (fun _ => ?_) (fun z => absurd (decide_eq_true (p := draw.fmod 16 < 8) (by omega)) z)⟩
        refine ⟨_, rfl, _, _, rfl, rfl, _, rfl, _, _, rfl, rfl, ⟨by decide, by decide⟩, _, rfl, hl, _, rfl, .inl (SqL.of l1.h), _, _, rfl, rfl, _, _, rfl, rfl, nzI _ (by rw [refsH_len]; have := s.l.l2; omega), _, _, rfl, rfl, _, rfl, hl, _, rfl, .inl (SqL.of l1.h), _, _, rfl, rfl, nzI _ (by rw [refsH_len]; have := s.l.l2; omega), ?_⟩
        obtain ⟨m, hm, em⟩ := fmN (n := (refsH L).length) (x := (at_ : Int) + 1 + (draw.fdiv 64).fmod (((refsH L).length : Int) - 1)) (by rw [refsH_len]; have := s.l.l2; omega)
        rw [refsH_len] at hm
        have eF : L[m]? = some L[m] := List.getElem?_eq_getElem hm
        generalize L[m] = f at eF
        have hf := w1.hk f (List.mem_of_getElem? eF)
        refine ⟨_, rfl, e.1, e.2.1.dx, _, rfl, he1.c.ins, by kernel_rfl, _, rfl, _, rfl, hl, _, _, V.ref f.1, rfl, rfl, SqL.of l1.h, by rw [em]; exact atI_nat (j := m) (refsH_get eF), f.1, f.2.1.dx, _, rfl, hf.c.ins, by kernel_rfl, _, rfl, _, _, rfl, rfl, ⟨by decide, by decide⟩, _, _, rfl, rfl, nzI 2, ms, TT L, B, f.1, f.2.1, f.2.2, _, .int 3, rfl, .inr ⟨3, rfl⟩, hf, TT.own eF, lcs, lms, by omega, fun t H1 ht s1 hlt => ?_⟩
        refine ⟨ms, TT L, B, e.1, e.2.1, e.2.2, t, rfl, he1.same s1, hlt, w1.tab.ext s1, w1.own eE, w1.c62, lcs, lms, by omega, fun v D' i' H2 _ mv ho gr bd => ?_⟩
        obtain ⟨L2', w2, m2, _⟩ := w1.act eE s1 mv ho gr bd (by omega)
        exact fin H2 L2' (m1.trans m2) (w2.up (by omega))
    refine ⟨_, rfl, _, _, rfl, rfl, _, rfl, ite2 (fun _ => ?_) (fun _ => ?_)⟩
    · refine ⟨_, rfl, _, _, rfl, rfl, _, rfl, _, _, rfl, rfl, ⟨by decide, by decide⟩, _, rfl, hl, _, rfl, .inl (SqL.of l0.h), _, _, rfl, rfl, _, _, rfl, rfl, nzI _ (by rw [refsH_len]; have := s.l.l2; omega), _, _, rfl, rfl, _, rfl, hl, _, rfl, .inl (SqL.of l0.h), _, _, rfl, rfl, nzI _ (by rw [refsH_len]; have := s.l.l2; omega), ?_⟩
      obtain ⟨m, hm, em⟩ := fmN (n := (refsH L).length) (x := (at_ : Int) + 1 + (draw.fdiv 64).fmod (((refsH L).length : Int) - 1)) (by rw [refsH_len]; have := s.l.l2; omega)
      rw [refsH_len] at hm
      have eF : L[m]? = some L[m] := List.getElem?_eq_getElem hm
      generalize L[m] = f at eF
      have hf := w0.hk f (List.mem_of_getElem? eF)
      refine ⟨_, rfl, e.1, e.2.1.dx, _, rfl, he0.c.ins, by kernel_rfl, _, rfl, _, rfl, hl, _, _, V.ref f.1, rfl, rfl, SqL.of l0.h, by rw [em]; exact atI_nat (j := m) (refsH_get eF), f.1, f.2.1.dx, _, rfl, hf.c.ins, by kernel_rfl, _, rfl, _, _, rfl, rfl, ⟨by decide, by decide⟩, _, _, rfl, rfl, nzI 2, ms, TT L, B, f.1, f.2.1, f.2.2, _, .int 3, rfl, .inr ⟨3, rfl⟩, hf, TT.own eF, lcs, lms, by omega, fun t H1 ht s1 hlt => ?_⟩
      refine ⟨ms, TT L, B, e.1, e.2.1, e.2.2, t, rfl, he0.same s1, hlt, w0.tab.ext s1, w0.own eE, w0.c62, lcs, lms, by omega, fun v D' i' H2 _ mv ho gr bd => ?_⟩
      obtain ⟨L2', w2, m2, _⟩ := w0.act eE s1 mv ho gr bd (by omega)
      exact fin H2 L2' (m0.trans m2) (w2.up (by omega))
    refine ⟨_, rfl, rfl, _, rfl, ite2 (fun _ => ?_) (fun _ => ?_)⟩
    · have nl4 := l0.l4
      refine ⟨_, rfl, hl, _, rfl, .inl (SqL.of l0.h), _, rfl, by omega, by rw [refsH_len]; omega, fun D hD => ?_⟩
      refine lc_range (lo := 0) (n := (refsH L).length) (fun i H' => Same H H' ∧ ∃ is : List Nat, H' D = some (.lst (is.map fun i : Nat => V.int (i : Int))) ∧ is.length ≤ i ∧ ∀ j ∈ is, j < L.length) ⟨same_new hD, [], upd_same, Nat.le_refl _, fun _ h => (nomatch h)⟩ ?_ ?_
      · rintro i H1 hi ⟨s1, is, h1, hil, his⟩
        rw [refsH_len] at hi
        refine ⟨rfl, _, rfl, _, rfl, _, _, rfl, rfl, _, _, rfl, rfl, by omega, _, _, rfl, rfl, rfl, _, rfl, ite2 (fun _ => ?_) (fun _ => ⟨s1, is, h1, Nat.le_succ_of_le hil, his⟩)⟩
        refine ⟨_, rfl, _, h1, small6 (by rw [List.length_map]; omega), same_set s1 hD, is ++ [i], by rw [upd_same, List.map_append, Int.zero_add]; rfl, by rw [List.length_append]; exact Nat.add_le_add_right hil 1, fun j hj => ?_⟩
        rcases List.mem_append.mp hj with hj | hj
        · exact his j hj
        · rw [List.mem_singleton.mp hj]; exact hi
      · rintro H1 ⟨s1, is, h1, hil, his⟩
        rw [refsH_len] at hil
        have m1 := Wm.same (L := L) s1
        have l1 := l0.wm m1
        have he1 := he0.same s1
        have hll : L.length = cs.length := by rw [← l0.me, List.length_map]
        refine ⟨_, rfl, e.1, e.2.1.dx, _, rfl, he1.c.ins, by kernel_rfl, _, rfl, D, rfl, ⟨_, SqL.of h1⟩, fun D2 hD2 => ?_⟩
        refine lc_list (K := K) (a := D) (xs := is.map fun i : Nat => V.int (i : Int)) (fun i H' => Same H1 H' ∧ ∃ ns : List Int, H' D2 = some (.lst (ns.map V.int)) ∧ ns.length ≤ i) ⟨same_new hD2, [], upd_same, Nat.le_refl _⟩ (fun i H' _ ⟨s2, _⟩ => SqL.of (s2 _ _ h1)) ?_ ?_
        · rintro i x H2 hx ⟨s2, ns, h2, hni⟩
          rw [List.getElem?_map] at hx
          obtain ⟨b, eb, rfl⟩ := Option.map_eq_some_iff.mp hx
          have hi := (List.getElem?_eq_some_iff.mp eb).1
          have hb := his b (List.mem_of_getElem? eb)
          obtain ⟨c, hc, ec⟩ := names_at (cs := cs) (i := b) (by rw [List.length_map]; omega)
          obtain ⟨c0, c62⟩ := w0.c62 c hc
          exact ⟨rfl, _, rfl, _, rfl, nl, _, _, V.int c, rfl, rfl, SqL.of (s2 _ _ l1.n), atI_nat (j := b) ec, _, _, rfl, rfl, ⟨c0, by omega, by decide⟩, _, h2, small6 (by rw [List.length_map]; omega), same_set s2 hD2, ns ++ [1 * 2 ^ c.toNat], by rw [upd_same, List.map_append]; rfl, by rw [List.length_append]; exact Nat.add_le_add_right hni 1⟩
        · rintro H2 ⟨s2, ns, h2, hni⟩
          have s12 := s1.trans s2
          refine ⟨D2, ns, rfl, SqL.of h2, ms, TT L, B, e.1, e.2.1, e.2.2, ns.sum, rfl, he0.same s12, w0.tab.ext s12, lcs, lms, by omega, fun v D' i' H3 _ mv ho gr bd _ => ?_⟩
          obtain ⟨L2', w2, m2, _⟩ := w0.act eE s12 mv ho gr (fun _ => bd) (by omega)
          exact fin H3 L2' m2 (w2.up (by omega))
    · exact ⟨_, rfl, ms, B, L, at_, e, rfl, w0, eE, fun v H' L' m w => fin H' L' m (w.up (by omega))⟩

end
end G
namespace G
open PySem PySem.Spec L2
open PyProof.Rows hiding St
section
variable {P : Program} {w : World} {K : PySem.W.Frag} {mg : Str → Option Value} {base : Heap} {CT : Addr × Addr}
/-! ### a deed -/
def spLDeed (K : PySem.W.Frag) (CT : Addr × Addr) (cs : List Int) : Sp := fun vs H Q _ => ∃ (ms : List Nm) (B : Nat) (L : HL) (nl hl md pl : Addr) (cell k0 : Int), vs = [.ref nl, .ref hl, .ref md, .ref pl, .int cell, .int k0] ∧ WS K CT cs ms B H L nl hl md pl ∧ 0 ≤ k0 ∧ k0 ≤ 100 ∧ ms.length ≤ 49 ∧ B ≤ 830000 ∧ spPost K CT cs ms B 25500 H L nl hl md pl (Q .non)
theorem ok_law_deed (A : All P w K mg base CT) : DOk P w K mg base CX0 16 "_law_deed" ["_law_names", "_law_hands_here", "_law_made", "_law_pool", "_law_cell", "_law_k"] [] (exC (spLDeed K CT)) := by
  obtain ⟨fd, F⟩ := fu_law_deed A.d
  refine ⟨_, fd, [], FunD.ok0 F sc_law_deed (fun vs H Q E h => ?_) (fun cdv A0 outer s H vs Q E hr h => ?_), gl_law_deed A.kin A.ns A.d, F.kp, F.bindsN fun _ _ _ _ _ _ us hl => match us, hl with | [_, _, _, _, _, _], _ => rfl, .nil⟩
  · obtain ⟨cs, ms, B, L, nl, hl, md, pl, cell, k0, rfl, s0, hk0, hk1, hms, hB, k⟩ := h
    rfl
  · obtain ⟨cs, ms, B, L, nl, hl, md, pl, cell, k0, rfl, s0, hk0, hk1, hms, hB, k⟩ := h
    have hu := hu_of hr
    refine ⟨_, pss_cons (ps_set (i := 6) sc_law_deed.nd rfl (by first | exact Or.inl rfl | exact Or.inr rfl) ((ok_law_drawn A).pe hr pass0 (pa_cons (pv 4) (pa_cons (pv 5) pa_nil))))
      (pss_cons (ps_cut (ps_set (i := 7) sc_law_deed.nd rfl (by first | exact Or.inl rfl | exact Or.inr rfl) (pe_op op_modN (pe_op op_fdivN (pv 6) pe_int) (pe_callB call_len_seq (by rfl) (fr_len A.kin A.ns A.d) (by decide +kernel) (pa_cons (pv 1) pa_nil)))))
      (pss_cons (ps_cut (ps_setLc (i := 8) (own := [("_law_one", 10)]) (g := gName 10) rfl sc_law_deed.nd rfl rfl (sw_true rfl rfl rfl (by decide +kernel)) (pi_range1 (by rfl) (fr_range A.kin A.ns A.d) (pa_cons (pe_callB call_len_seq (by rfl) (fr_len A.kin A.ns A.d) (by decide +kernel) (pa_cons (pv 1) pa_nil)) pa_nil)) (blkOk_by (N := ["_law_names", "_law_hands_here", "_law_made", "_law_pool", "_law_cell", "_law_k", "_law_draw", "_law_at", "_law_some", "_law_kind", "_law_one"]) (sc := defScope s_law_deed) (by decide +kernel)) (fun _ _ _ _ _ => pg_name (i := 10) sc_law_deed.nd rfl (Or.inl rfl)) (fun _ _ _ _ _ => (pts_one (PW.pt (pw_or (pt_cmpR op_eq (pv 10) (pv 7) (nomark _)) (pw_or1 (pt_cmpR op_eq (pe_op op_and (pe_op op_shr (pv 6) (pe_op op_add pe_int (pv 10))) pe_int) pe_int (nomark _))))))) (fun _ _ _ _ _ => (pv 10))))
      (pss_cons (ps_set (i := 9) sc_law_deed.nd rfl (by first | exact Or.inl rfl | exact Or.inr rfl) (pe_op op_modN (pv 6) pe_int))
      (pss_one (ps_if (pt_cmpR op_lt (pv 9) pe_int (nomark _)) (pss_one (ps_expr ((ok_law_small A (cs := cs)).pe hr pass0 (pa_cons (pv 0) (pa_cons (pv 1) (pa_cons (pv 7) (pa_cons (pv 2) (pa_cons (pv 3) (pa_cons (pv 4) (pa_cons (pv 6) pa_nil)))))))))) (pss_one (ps_if (pt_cmpR op_eq (pv 9) pe_int (nomark _)) (pss_one (ps_for PassesOwn.never rfl (pi_range1 (by rfl) (fr_range A.kin A.ns A.d) (pa_cons (pe_callB call_len_seq (by rfl) (fr_len A.kin A.ns A.d) (by decide +kernel) (pa_cons (pv 1) pa_nil)) pa_nil)) (pg_name (i := 10) sc_law_deed.nd rfl (by first | exact Or.inl rfl | exact Or.inr rfl)) (pss_one (ps_if (pt_cmpR op_ne (pv 10) (pv 7) (nomark _)) (pss_one (ps_expr ((ok_Hand_hear A (cs := cs)).pe hr pass0 (pe_ix ix_list (pv 1) (pv 10) (fun _ _ => rfl)) (pa_cons ((ok_Hand_letter_1 A (cs := cs)).pe0 hr pass0 (pe_ix ix_list (pv 1) (pv 7) (fun _ _ => rfl))) pa_nil)))) pss_nil)))) (pss_one (ps_if (PW.pt (pw_and (pt_cmpR op_eq (pv 9) pe_int (nomark _)) (pw_and1 (pt_cmpR op_notN ((ok_Hand_standing A (cs := cs)).pe0 hr pass0 (pe_ix ix_list (pv 1) (pv 7) (fun _ _ => rfl))) pe_non (nomark _))))) (pss_cons (ps_expr ((ok_Hand_renew A (cs := cs)).pe hr pass0 (pe_ix ix_list (pv 1) (pv 7) (fun _ _ => rfl)) (pa_cons (pe_op op_add pe_int (pe_op op_modN (pv 4) (pe_op op_pow pe_int pe_int))) pa_nil))) (pss_one (ps_expr ((ok_law_round A (cs := cs)).pe hr pass0 (pa_cons (pv 1) (pa_cons (pv 8) pa_nil)))))) (pss_one (ps_if (pt_cmpR op_eq (pv 9) pe_int (nomark _)) (pss_one (ps_expr ((ok_law_parted A (cs := cs)).pe hr pass0 (pa_cons (pv 0) (pa_cons (pv 1) (pa_cons (pv 7) (pa_cons (pv 8) (pa_cons (pe_op op_add pe_int (pe_op op_modN (pv 4) (pe_op op_pow pe_int pe_int))) pa_nil)))))))) (pss_one (ps_if (pt_cmpR op_lt (pv 9) pe_int (nomark _)) (pss_one (ps_expr ((ok_law_round A (cs := cs)).pe hr pass0 (pa_cons (pv 1) (pa_cons (pv 8) pa_nil))))) (pss_one (ps_if (pt_cmpR op_eq (pv 9) pe_int (nomark _)) (pss_one (ps_expr ((ok_law_round A (cs := cs)).pe hr pass0 (pa_cons (pv 1) (pa_cons (pe_listRg rfl (by rfl) (fr_list A.kin A.ns A.d) (prg_1 (by rfl) (fr_range A.kin A.ns A.d) (pe_callB call_len_seq (by rfl) (fr_len A.kin A.ns A.d) (by decide +kernel) (pa_cons (pv 1) pa_nil)))) pa_nil))))) (pss_one (ps_expr ((ok_law_gathered A (cs := cs)).pe hr pass0 (pa_cons (pv 1) (pa_cons (pv 7) pa_nil)))))))))))))))))))), ?_⟩
    have nl4 := s0.l.l4
    have nl2 := s0.l.l2
    refine ⟨_, rfl, _, rfl, cell, k0, rfl, hk0, hk1, fun draw => ?_⟩
    refine ⟨fun σ' H' => ∃ m : Nat, σ' = [some (.ref nl), some (.ref hl), some (.ref md), some (.ref pl), some (.int cell), some (.int k0), some (.int draw), some (.int (m : Int)), none, none, none] ∧ H' = H ∧ m < L.length, ?_, ?_⟩
    · obtain ⟨m, hm, em⟩ := fmN (n := (refsH L).length) (x := draw.fdiv 16) (by rw [refsH_len]; omega)
      rw [refsH_len] at hm
      refine ⟨_, rfl, _, _, rfl, rfl, ⟨by decide, by decide⟩, _, rfl, hl, _, rfl, .inl (SqL.of s0.l.h), _, _, rfl, rfl, nzI _ (by rw [refsH_len]; omega), m, ?_, rfl, hm⟩
      show [some (.ref nl), some (.ref hl), some (.ref md), some (.ref pl), some (.int cell), some (.int k0), some (.int draw), some (V.int ((draw.fdiv 16).fmod ((refsH L).length : Int))), none, none, none] = _
      rw [em]
    rintro σ1 H1 ⟨m, rfl, rfl, hm⟩
    refine ⟨fun σ' H' => ∃ (so : Addr) (is : List Nat), σ' = [some (.ref nl), some (.ref hl), some (.ref md), some (.ref pl), some (.int cell), some (.int k0), some (.int draw), some (.int (m : Int)), some (.ref so), none, none] ∧ Same H1 H' ∧ H' so = some (.lst (is.map fun i : Nat => V.int (i : Int))) ∧ H1 so = none ∧ (∀ j ∈ is, j < L.length) ∧ is.length ≤ 4, ?_, ?_⟩
    · refine ⟨_, rfl, hl, _, rfl, .inl (SqL.of s0.l.h), _, rfl, by omega, by rw [refsH_len]; omega, fun D hD => ?_⟩
      refine lc_range (lo := 0) (n := (refsH L).length) (fun i H' => Same H1 H' ∧ ∃ is : List Nat, H' D = some (.lst (is.map fun i : Nat => V.int (i : Int))) ∧ is.length ≤ i ∧ ∀ j ∈ is, j < L.length) ⟨same_new hD, [], upd_same, Nat.le_refl _, fun _ h => (nomatch h)⟩ ?_ ?_
      · rintro i H2 hi ⟨s1, is, h1, hil, his⟩
        rw [refsH_len] at hi
        have yes : ∃ acc : List V, H2 D = some (.lst acc) ∧ acc.length < sizeLine ∧ Same H1 (upd H2 D (.lst (acc ++ [.int (0 + (i : Int))]))) ∧ ∃ is : List Nat, (upd H2 D (.lst (acc ++ [.int (0 + (i : Int))]))) D = some (.lst (is.map fun i : Nat => V.int (i : Int))) ∧ is.length ≤ i + 1 ∧ ∀ j ∈ is, j < L.length := by
          refine ⟨_, h1, small6 (by rw [List.length_map]; omega), same_set s1 hD, is ++ [i], by rw [upd_same, List.map_append, Int.zero_add]; rfl, by rw [List.length_append]; exact Nat.add_le_add_right hil 1, fun j hj => ?_⟩
          rcases List.mem_append.mp hj with hj | hj
          · exact his j hj
          · rw [List.mem_singleton.mp hj]; exact hi
        obtain ⟨acc, y1, y2, y3⟩ := yes
        refine ⟨rfl, _, rfl, _, rfl, rfl, _, rfl, ite2 (fun _ => ⟨_, rfl, acc, y1, y2, y3⟩) (fun _ => ?_)⟩
        refine ⟨_, rfl, _, rfl, _, _, rfl, rfl, _, _, rfl, rfl, by omega, _, _, rfl, rfl, rfl, _, rfl, ite2 (fun _ => ⟨_, rfl, acc, y1, y2, y3⟩) (fun _ => ⟨s1, is, h1, Nat.le_succ_of_le hil, his⟩)⟩
      · rintro H2 ⟨s1, is, h1, hil, his⟩
        rw [refsH_len] at hil
        exact ⟨D, is, rfl, s1, h1, hD, his, by omega⟩
    rintro σ2 H2 ⟨so, is, rfl, sm, hso, hso0, his, hil⟩
    have s := s0.same sm
    have osO : Outs so L := s0.w.fresh hso0
    have fin : ∀ H' L', Wm H2 L H' L' → WOK K CT cs ms (B + 25500) H' L' → Q .non H' := fun H' L' m w => k ms L' H' (m.x.left sm) (s.wm w m (by omega)) (by omega)
    have w := s.w
    have l := s.l
    have lcs := w.lcs
    have lms := w.lms
    have eE : L[m]? = some L[m] := List.getElem?_eq_getElem hm
    generalize L[m] = e at eE
    have he := w.hk e (List.mem_of_getElem? eE)
    refine ⟨_, rfl, _, _, rfl, rfl, nzI 16, ?_⟩
    refine ⟨_, rfl, _, _, rfl, rfl, _, rfl, ite2 (fun _ => ?_) (fun h10 => ?_)⟩
    · exact ⟨_, rfl, _, rfl, _, rfl, _, rfl, _, rfl, _, rfl, _, rfl, ms, B, L, nl, hl, md, pl, m, cell, draw, rfl, s, hm, hms, by omega, fun ms' L' H' x ws hl' => k ms' L' H' (x.left sm) (ws.up (by omega)) hl'⟩
    refine ⟨_, rfl, rfl, _, rfl, ite2 (fun _ => ?_) (fun _ => ?_)⟩
    · refine ⟨_, rfl, hl, _, rfl, .inl (SqL.of l.h), _, rfl, by omega, by rw [refsH_len]; omega, for_range (lo := 0) (n := (refsH L).length) (fun i σ' H' => ∃ (v10 : Option V) (L' : HL), σ' = [some (.ref nl), some (.ref hl), some (.ref md), some (.ref pl), some (.int cell), some (.int k0), some (.int draw), some (.int (m : Int)), some (.ref so), some (.int (draw.fmod 16)), v10] ∧ Wm H2 L H' L' ∧ WOK K CT cs ms (B + 500 * i) H' L') ⟨none, L, rfl, .refl, w⟩ ?_ ?_⟩
      · rintro i σ3 H3 hi ⟨v10, L3, rfl, m3, w3⟩
        rw [refsH_len] at hi
        refine ⟨_, rfl, _, rfl, rfl, _, rfl, ite2 (fun _ => ?_) (fun _ => ⟨_, L3, rfl, m3, w3.up (by omega)⟩)⟩
        have l3 := l.wm m3
        have hl3 := m3.len
        have eA : L3[m]? = some L3[m] := List.getElem?_eq_getElem (by omega)
        have eB : L3[i]? = some L3[i] := List.getElem?_eq_getElem (by omega)
        generalize L3[m] = f at eA
        generalize L3[i] = g at eB
        have hf := w3.hk f (List.mem_of_getElem? eA)
        have hg := w3.hk g (List.mem_of_getElem? eB)
        refine ⟨_, rfl, _, rfl, hl, _, _, V.ref g.1, rfl, rfl, SqL.of l3.h, by rw [Int.zero_add]; exact atI_nat (j := i) (refsH_get eB), g.1, g.2.1.dx, _, rfl, hg.c.ins, by kernel_rfl, _, rfl, _, rfl, hl, _, _, V.ref f.1, rfl, rfl, SqL.of l3.h, atI_nat (j := m) (refsH_get eA), f.1, f.2.1.dx, _, rfl, hf.c.ins, by kernel_rfl, ms, TT L3, B + 500 * i, f.1, f.2.1, f.2.2, 0, .non, rfl, .inl rfl, hf, TT.own eA, lcs, lms, by omega, fun t H4 ht s4 hlt => ?_⟩
        refine ⟨ms, TT L3, B + 500 * i, g.1, g.2.1, g.2.2, t, rfl, hg.same s4, hlt, w3.tab.ext s4, w3.own eB, w3.c62, lcs, lms, by omega, fun v D' i' H5 _ mv ho gr bd => ?_⟩
        obtain ⟨L5, w5, m5, _⟩ := w3.act eB s4 mv ho gr bd (by omega)
        exact ⟨_, L5, rfl, m3.trans m5, w5.up (by omega)⟩
      · rintro σ3 H3 ⟨v10, L3, rfl, m3, w3⟩
        rw [refsH_len] at w3
        exact fin H3 L3 m3 (w3.up (by omega))
    have round : ∀ {H' : Hp} {L' : HL} {B' : Nat}, Wm H2 L H' L' → WOK K CT cs ms B' H' L' → B' ≤ 870000 → B' + 8000 ≤ B + 25500 → spRound K CT cs [.ref hl, .ref so] H' Q E := fun {H' L' B'} m1 w1 h1 h2 => by
      have l1 := l.wm m1
      obtain ⟨b1, b2⟩ := m1.kp _ _ hso (fun _ z => nomatch z) osO
      exact ⟨ms, B', hl, so, L', is, rfl, w1, l1.h, l1.oh, b1, b2, fun i hi => by rw [m1.len]; exact his i hi, hil, h1, fun H3 L3 m3 w3 => fin H3 L3 (m1.trans m3) (w3.up h2)⟩
    refine ⟨_, rfl, rfl, _, rfl, ite2 (fun e11 => ?_) (fun e11 => ?_)⟩
    · have h11 : draw.fmod 16 = 11 := num_eq e11
      refine ⟨_, rfl, _, rfl, hl, _, _, V.ref e.1, rfl, rfl, SqL.of l.h, atI_nat (j := m) (refsH_get eE), e.1, e.2.1.dx, _, rfl, he.c.ins, by kernel_rfl, ms, TT L, B, e.1, e.2.1, e.2.2, rfl, he, fun en => ?_, fun x ex q hq => ?_⟩
      · refine ⟨rfl, _, rfl, iteF ⟨_, rfl, rfl, _, rfl, ite2 (fun z => absurd (num_eq z) (by show ¬ draw.fmod 16 = 12; omega)) (fun _ => ?_)⟩⟩
        exact ⟨_, rfl, _, _, rfl, rfl, _, rfl, ite2 (fun _ => ⟨_, rfl, _, rfl, round .refl w (by omega) (by omega)⟩) (fun z => absurd (decide_eq_true (p := draw.fmod 16 < 14) (by omega)) z)⟩
      · have s4 := same_new (o := .tup [.int e.2.1.number, .int e.2.1.hands]) hq
        have he4 := he.same s4
        have l4 := l.wm (Wm.same (L := L) s4)
        have he5 : HOK K cs ms (TT L) B (upd H2 q (.tup [.int e.2.1.number, .int e.2.1.hands])) e.1 e.2.1 (some x) := by rw [← ex]; exact he4
        refine ⟨rfl, _, rfl, iteT ⟨_, rfl, _, rfl, hl, _, _, V.ref e.1, rfl, rfl, SqL.of l4.h, atI_nat (j := m) (refsH_get eE), e.1, e.2.1.dx, _, rfl, he4.c.ins, by kernel_rfl, _, rfl, _, _, rfl, rfl, ⟨by decide, by decide, by decide⟩, _, _, rfl, rfl, nzI (10 ^ (6 : Int).toNat), _, _, rfl, rfl, ms, TT L, B, e.1, e.2.1, x, _, rfl, he5, w.tab.ext s4, lcs, lms, by omega, fun v D' i' H5 _ mv ho gr bd => ?_⟩⟩
        obtain ⟨L5, w5, m5, _⟩ := w.act eE s4 (by rw [show ft e = foot e.1 e.2.1 (some x) from by rw [← ex]]; exact mv) ho gr (by rw [ex]; exact bd) (by omega)
        exact ⟨_, rfl, _, rfl, round m5 w5 (by omega) (by omega)⟩
    refine ⟨_, rfl, rfl, _, rfl, ite2 (fun _ => ?_) (fun _ => ?_)⟩
    · exact ⟨_, rfl, _, rfl, _, rfl, _, rfl, _, rfl, _, _, rfl, rfl, ⟨by decide, by decide, by decide⟩, _, _, rfl, rfl, nzI (10 ^ (6 : Int).toNat), _, _, rfl, rfl, ms, B, nl, hl, so, L, is, m, _, rfl, w, l, hso, osO, his, hil, hm, by omega, fun H' L' m1 w1 => fin H' L' m1 (w1.up (by omega))⟩
    refine ⟨_, rfl, _, _, rfl, rfl, _, rfl, ite2 (fun _ => ⟨_, rfl, _, rfl, round .refl w (by omega) (by omega)⟩) (fun _ => ?_)⟩
    refine ⟨_, rfl, rfl, _, rfl, ite2 (fun _ => ?_) (fun _ => ?_)⟩
    · have lr : ((refsH L).length : Int) = ((L.length : Nat) : Int) := by rw [refsH_len]
      refine ⟨_, rfl, _, rfl, hl, _, rfl, .inl (SqL.of l.h), _, rfl, by rw [lr]; exact RgOk.of_le (by omega) (by omega) (by omega) (by omega), fun q hq => ?_⟩
      rw [lr, rgV_nat]
      have s3 := same_new (o := .lst ((List.range L.length).map fun i : Nat => V.int (i : Int))) hq
      have m3 := Wm.same (L := L) s3
      have l3 := l.wm m3
      exact ⟨ms, B, hl, q, L, List.range L.length, rfl, w.same s3, l3.h, l3.oh, upd_same, w.fresh hq, fun i hi => List.mem_range.mp hi, by rw [List.length_range]; omega, by omega, fun H' L' m1 w1 => fin H' L' (m3.trans m1) (w1.up (by omega))⟩
    · exact ⟨_, rfl, _, rfl, ms, B, nl, hl, L, m, rfl, w, l, hm, by omega, fun H' L' m1 w1 => fin H' L' m1 (w1.up (by omega))⟩

end
end G
namespace G
open PySem PySem.Spec L2
open PyProof.Rows hiding St
section
variable {P : Program} {w : World} {K : PySem.W.Frag} {mg : Str → Option Value} {base : Heap} {CT : Addr × Addr}
/-! ### what is asked -/
theorem circ_in {S c : Int} (h : bit S c = true) (h0 : 0 ≤ c) (h62 : c ≤ 62) : c ∈ circ S := by
  refine List.mem_filter.mpr ⟨List.mem_map.mpr ⟨c.toNat, List.mem_range.mpr (by omega), ?_⟩, h⟩
  exact Int.toNat_of_nonneg h0
theorem right_fact {CT : Addr × Addr} {cs : List Int} {ms : List Nm} {B : Nat} {H : Hp} {L : HL} (w : WOK K CT cs ms B H L) {j : Nat} {e : Addr × Hd × Option In} {x : In} (hj : L[j]? = some e) (hx : e.2.2 = some x) {nm : Nm} (hm : nm ∈ ms) (hn : nm.1 = e.2.1.number) (hk : nm.2.1 = e.2.1.me ∨ nm ∈ tks e.2.1.evs)
    (hno : nm ∉ x.S.hd.map (·.2.nm)) : ∀ (i : Nat) (f : Addr × Hd × Option In), L[i]? = some f → bit e.2.1.hands f.2.1.me = true → nm ∈ tks f.2.1.evs := by
  intro i f hf hb
  have he := w.hk e (List.mem_of_getElem? hj)
  rw [hx] at he
  have o : InOK K cs ms (TT L) B H e.2.1 x := he.inn
  have hff := w.hk f (List.mem_of_getElem? hf)
  have l := o.law
  obtain ⟨n, c, k⟩ := nm
  have hn : n = e.2.1.number := hn
  subst hn
  have key : 1 ≤ k ∧ FL x.S.T (circ e.2.1.hands) c k := by
    rcases hk with hc | ht
    · have hc : c = e.2.1.me := hc
      subst hc
      obtain ⟨h1, h2⟩ := (l.mn k).mp hm
      exact ⟨h1, (l.hm k h1 h2).resolve_left hno⟩
    · obtain ⟨h1, h2⟩ := (l.tt c k).mp ht
      exact ⟨h1, (l.hk c k h1 h2).resolve_left hno⟩
  obtain ⟨h1, fl⟩ := key
  have hg := circ_in hb hff.me0 hff.me62
  have := l.tl _ hg c k h1 (fl.2 _ hg)
  by_cases e2 : f.2.1.me = e.2.1.me
  · rw [if_pos e2] at this
    have ej := w.nd i j f e hf hj e2
    subst ej
    rw [hf] at hj; cases hj
    exact (l.tt c k).mpr ⟨h1, this⟩
  · rw [if_neg e2] at this
    exact w.own hf _ this
theorem names_eq {l : NL} {ns : List Nm} (h : l.map (·.2) = nmSort id ns) : (nmSort (·.2) l).map (·.2) = l.map (·.2) := by
  rw [nmSort_map, h]
  exact nmSort_self id ns
theorem dpN {K : PySem.W.Frag} {H : Hp} {q : Addr} {l : NL} (h : H q = some (.lst (refsN l))) (hn : NmAt H l) : Dp K H (.ref q) (.list (l.map fun o => nmD o.2)) := by
  refine .lst (SqL.of h) ?_
  have : OrdL H l := hn
  exact dpAll_ord this
theorem len_set {l : NL} {L : List (Addr × List Int)} (hnd : (l.map (·.2)).Nodup) (h0 : (L.map (·.2)).Nodup) (h1 : ∀ p ∈ L, p ∈ l.map fun p => (p.1, nmI p.2)) (h2 : ∀ p ∈ l.map (fun p => (p.1, nmI p.2)), p.2 ∈ L.map (·.2)) : L.length = l.length := by
  have nI : ∀ {a b : Nm}, nmI a = nmI b → a = b := fun {a b} h => by
    obtain ⟨a1, a2, a3⟩ := a
    obtain ⟨b1, b2, b3⟩ := b
    unfold nmI at h
    simp only [List.cons.injEq, and_true] at h
    obtain ⟨rfl, rfl, rfl⟩ := h
    rfl
  have hnd2 : ((l.map fun p => (p.1, nmI p.2)).map (·.2)).Nodup := by
    rw [List.map_map]
    have : (l.map ((fun x : Addr × List Int => x.2) ∘ fun p => (p.1, nmI p.2))) = (l.map (·.2)).map nmI := by rw [List.map_map]; rfl
    rw [this]
    exact List.pairwise_map.mpr (hnd.imp fun h e => h (nI e))
  have a := nodup_len h0 (m := (l.map fun p => (p.1, nmI p.2)).map (·.2)) fun y hy => by
    obtain ⟨p, hp, e⟩ := List.mem_map.mp hy
    exact List.mem_map.mpr ⟨p, h1 p hp, e⟩
  have b := nodup_len hnd2 (m := L.map (·.2)) fun y hy => by
    obtain ⟨p, hp, e⟩ := List.mem_map.mp hy
    rw [← e]; exact h2 p hp
  simp only [List.length_map] at a b
  omega
def spRight (K : PySem.W.Frag) (CT : Addr × Addr) (cs : List Int) : Sp := fun vs H Q _ => ∃ (ms : List Nm) (B : Nat) (L : HL) (nl hl md pl th : Addr) (at_ : Nat) (TL : List (Addr × List (List Key × V))), vs = [.int (at_ : Int), .ref nl, .ref hl, .ref th, .ref md] ∧ WS K CT cs ms B H L nl hl md pl ∧ at_ < L.length ∧ H th = some (.lst (TL.map fun t => V.ref t.1)) ∧ TL.length = L.length ∧
  (∀ (i : Nat) (e : Addr × Hd × Option In) (t : Addr × List (List Key × V)), L[i]? = some e → TL[i]? = some t → H t.1 = some (.dT t.2) ∧ t.1 ≠ md ∧ ∀ x : Nm, (valV t.2 (nmK x)).isSome = true ↔ x ∈ tks e.2.1.evs) ∧ ∀ H', Same H H' → Q (.bl true) H'
theorem ok_law_right (A : All P w K mg base CT) : DOk P w K mg base CX0 4 "_law_right" ["_law_at", "_law_names", "_law_hands_here", "_law_taken_here", "_law_made"] [] (exC (spRight K CT)) := by
  obtain ⟨fd, F⟩ := fu_law_right A.d
  refine ⟨_, fd, [], FunD.ok0 F sc_law_right (fun vs H Q E h => ?_) (fun cdv A0 outer s H vs Q E hr h => ?_), gl_law_right A.kin A.ns A.d, F.kp, F.bindsN fun _ _ _ _ _ _ us hl => match us, hl with | [_, _, _, _, _], _ => rfl, .nil⟩
  · obtain ⟨cs, ms, B, L, nl, hl, md, pl, th, at_, TL, rfl, s, hat, hth, hTL, hT, k⟩ := h
    rfl
  · obtain ⟨cs, ms, B, L, nl, hl, md, pl, th, at_, TL, rfl, s, hat, hth, hTL, hT, k⟩ := h
    have hu := hu_of hr
    refine ⟨_, pss_cons (ps_set (i := 5) sc_law_right.nd rfl (by first | exact Or.inl rfl | exact Or.inr rfl) ((ok_Hand_standing A (cs := cs)).pe0 hr pass0 (pe_ix ix_list (pv 2) (pv 0) (fun _ _ => rfl))))
      (pss_cons (ps_set (i := 6) sc_law_right.nd rfl (by first | exact Or.inl rfl | exact Or.inr rfl) ((ok_Hand_kept A (cs := cs)).pe0 hr pass0 (pe_ix ix_list (pv 2) (pv 0) (fun _ _ => rfl))))
      (pss_cons (ps_if (pt_cmpR op_isN (pv 5) pe_non (nomark _)) (pss_one (ps_ret (pe_cmpR (op_eqNil hu) (pv 6) (pe_lst pa_nil) (nomark _)))) pss_nil)
      (pss_cons (ps_if (PW.pt (pw_or (pt_not (pt_val (pe_callB call_isi (by rfl) (fr_isinstance A.kin A.ns A.d) (by decide +kernel) (pa_cons (pv 6) (pa_cons (pe_bltn (v := .ty "list") (u := .type "list") (by rfl) (fr_list A.kin A.ns A.d) (by decide +kernel) rfl) pa_nil))))) (pw_or (pt_cmpR (op_neD hr.units) (pv 6) (pe_callB (cr_sortN hr) (by rfl) (fr_sorted A.kin A.ns A.d) (by decide +kernel) (pa_cons (pv 6) pa_nil)) (nomark _)) (pw_or1 (pt_cmpR op_ne (pe_callB cr_lenSetT (by rfl) (fr_len A.kin A.ns A.d) (by decide +kernel) (pa_cons (pe_callTy (cr_setOfT rfl hr.units) (by rfl) (fr_set A.kin A.ns A.d) (by decide +kernel) (pa_cons (pv 6) pa_nil)) pa_nil)) (pe_callB call_len_seq (by rfl) (fr_len A.kin A.ns A.d) (by decide +kernel) (pa_cons (pv 6) pa_nil)) (nomark _)))))) (pss_one (ps_ret pe_bl)) pss_nil)
      (pss_cons (ps_if (pt_cmpR (op_neNil hu) (pe_lc (own := [("_law_name", 7)]) (g := gName 7) rfl sc_law_right.nd (pi_list (pv 6)) (blkOk_by (N := ["_law_at", "_law_names", "_law_hands_here", "_law_taken_here", "_law_made", "_law_there", "_law_kept", "_law_name", "_law_known", "_law_other"]) (sc := defScope s_law_right) (by decide +kernel)) (fun _ _ _ _ _ => pg_name (i := 7) sc_law_right.nd rfl (Or.inl rfl)) (fun _ _ _ _ _ => (pts_one (PW.pt (pw_or (pt_cmp (pc_dnotin hu (pv 7) (pv 4))) (pw_or1 (pt_cmpR op_ne (pe_ix (ix_tupK (K := K)) (pv 7) pe_int (fun _ _ => rfl)) (pe_ix (ix_tupK (K := K)) (pv 5) pe_int (fun _ _ => rfl)) (nomark _))))))) (fun _ _ _ _ _ => pv 7)) (pe_lst pa_nil) (nomark _)) (pss_one (ps_ret pe_bl)) pss_nil)
      (pss_cons (ps_lock (ps_for PassesOwn.never rfl (pi_keys (pv 4)) (pg_name (i := 7) sc_law_right.nd rfl (by first | exact Or.inl rfl | exact Or.inr rfl)) (pss_cons (ps_cut (ps_set (i := 8) sc_law_right.nd rfl (by first | exact Or.inl rfl | exact Or.inr rfl) (pe_or (pe_cmpR op_eq (pe_ix ix_tup (pv 7) pe_int (fun _ _ => rfl)) (pe_ix ix_list (pv 1) (pv 0) (fun _ _ => rfl)) (nomark _)) (pe_one (pe_cmp (pc_din hu (pv 7) (pe_ix ix_list (pv 3) (pv 0) (fun _ _ => rfl)))))))) (pss_one (ps_if (PW.pt (pw_and (pt_cmpR op_eq (pe_ix ix_tup (pv 7) pe_int (fun _ _ => rfl)) (pe_ix ix_tup (pv 5) pe_int (fun _ _ => rfl)) (nomark _)) (pw_and (pt_val (pv 8)) (pw_and1 (pt_cmpR (op_notInD (u65 hr)) (pv 7) (pv 6) (by rfl)))))) (pss_one (ps_for PassesOwn.never rfl (pi_range1 (by rfl) (fr_range A.kin A.ns A.d) (pa_cons (pe_callB call_len_seq (by rfl) (fr_len A.kin A.ns A.d) (by decide +kernel) (pa_cons (pv 1) pa_nil)) pa_nil)) (pg_name (i := 9) sc_law_right.nd rfl (by first | exact Or.inl rfl | exact Or.inr rfl)) (pss_one (ps_if (PW.pt (pw_and (pt_cmpR op_eq (pe_op op_and (pe_op op_shr (pe_ix ix_tup (pv 5) pe_int (fun _ _ => rfl)) (pe_ix ix_list (pv 1) (pv 9) (fun _ _ => rfl))) pe_int) pe_int (nomark _)) (pw_and1 (pt_cmp (pc_dnotin hu (pv 7) (pe_ix ix_list (pv 3) (pv 9) (fun _ _ => rfl))))))) (pss_one (ps_ret pe_bl)) pss_nil)))) pss_nil)))))
      (pss_one (ps_ret pe_bl))))))), ?_⟩
    have eE : L[at_]? = some L[at_] := List.getElem?_eq_getElem hat
    generalize L[at_] = e at eE
    have ww := s.w
    have l := s.l
    have he := ww.hk e (List.mem_of_getElem? eE)
    have lcs := ww.lcs
    have lms := ww.lms
    refine ⟨_, rfl, _, rfl, hl, _, _, V.ref e.1, rfl, rfl, SqL.of l.h, atI_nat (j := at_) (refsH_get eE), e.1, e.2.1.dx, _, rfl, he.c.ins, by kernel_rfl, ms, TT L, B, e.1, e.2.1, e.2.2, rfl, he, fun en => ?_, fun x ex q hq => ?_⟩
    · refine ⟨_, rfl, _, rfl, hl, _, _, V.ref e.1, rfl, rfl, SqL.of l.h, atI_nat (j := at_) (refsH_get eE), e.1, e.2.1.dx, _, rfl, he.c.ins, by kernel_rfl, ms, TT L, B, e.1, e.2.1, e.2.2, rfl, he, fun _ q hq => ?_, fun x ex => by rw [en] at ex; cases ex⟩
      refine ⟨_, rfl, rfl, _, rfl, iteT ⟨_, rfl, Nat.zero_le _, fun u hu2 => ?_⟩⟩
      have s1 := same_new (o := .lst []) hq
      have s2 := same_new (o := .lst []) hu2
      exact ⟨q, u, [], rfl, rfl, SqL.of (s2 _ _ upd_same), SqL.of upd_same, k _ (s1.trans s2)⟩
    have s1 := same_new (o := .tup [.int e.2.1.number, .int e.2.1.hands]) hq
    have l1 := l.wm (Wm.same (L := L) s1)
    have he1 := he.same s1
    have hq1 : upd H q (.tup [.int e.2.1.number, .int e.2.1.hands]) q = some (.tup [.int e.2.1.number, .int e.2.1.hands]) := upd_same
    refine ⟨_, rfl, _, rfl, hl, _, _, V.ref e.1, rfl, rfl, SqL.of l1.h, atI_nat (j := at_) (refsH_get eE), e.1, e.2.1.dx, _, rfl, he1.c.ins, by kernel_rfl, ms, TT L, B, e.1, e.2.1, e.2.2, rfl, he1, fun en => absurd (ex.symm.trans en) (fun z => nomatch z), fun x' ex' q2 lk H2 hq2 s2 hq2' hnm hlk => ?_⟩
    have exx : x' = x := by rw [ex] at ex'; exact (Option.some.inj ex').symm
    subst exx
    have he2 : HOK K cs ms (TT L) B H e.1 e.2.1 (some x') := by rw [← ex]; exact he
    have o : InOK K cs ms (TT L) B H e.2.1 x' := he2.inn
    have hperm : (nmSort id (x'.S.hd.map (·.2.nm))).Perm (x'.S.hd.map (·.2.nm)) := nmSort_perm id _
    have hkn : (lk.map (·.2)).Nodup := by rw [hlk]; exact hperm.nodup_iff.mpr o.pg.nd
    have hhl := o.pg.hlen
    have hkl : lk.length = x'.S.hd.length := by
      have := congrArg List.length hlk
      rw [List.length_map, hperm.length_eq, List.length_map] at this
      exact this
    refine ⟨_, rfl, rfl, _, rfl, iteF ?_⟩
    refine ⟨_, rfl, _, _, _, _, true, rfl, .ty "list", .base (.lst hq2'), kit_ty (by decide +kernel), _, rfl, iteF ?_⟩
    refine ⟨_, rfl, _, rfl, q2, lk, rfl, SqL.of hq2', hnm, fun q3 hq3 => ?_⟩
    have s3 := same_new (o := .lst (refsN (nmSort (·.2) lk))) hq3
    have hnm3 : NmAt (upd H2 q3 (.lst (refsN (nmSort (·.2) lk)))) lk := fun p hp => s3 _ _ (hnm p hp)
    have hnmS : NmAt (upd H2 q3 (.lst (refsN (nmSort (·.2) lk)))) (nmSort (·.2) lk) := fun p hp => hnm3 p ((nmSort_perm (·.2) lk).mem_iff.mp hp)
    have hq23 := s3 _ _ hq2'
    refine ⟨_, _, dpN hq23 hnm3, dpN upd_same hnmS, ord_shaped lk, ord_shaped _, _, rfl, ?_⟩
    have eD : (nmSort (·.2) lk).map (fun o => nmD o.2) = lk.map (fun o => nmD o.2) := by
      have := congrArg (List.map nmD) (names_eq hlk)
      rwa [List.map_map, List.map_map] at this
    have hlay : PyData.canLay0 (.list (lk.map fun o => nmD o.2)) = true := by
      simp only [PyData.canLay0]
      exact (ord_lay lk).1
    rw [eD, SeqAt.eqv_refl _ hlay]
    refine iteF ⟨_, rfl, q2, lk.map (fun p => (p.1, nmI p.2)), rfl, ?_, fun p hp => ?_, by rw [List.length_map]; omega, fun a Ls ha hs1 hs2 => ?_⟩
    · rw [List.map_map]; exact SqL.of hq23
    · obtain ⟨y, hy, rfl⟩ := List.mem_map.mp hp
      exact SqT.of (hnm3 y hy)
    have s4 : Same (upd H2 q3 (.lst (refsN (nmSort (·.2) lk)))) (upd (upd H2 q3 (.lst (refsN (nmSort (·.2) lk)))) a (SetTO P w a Ls)) := same_new ha
    refine ⟨a, Ls, rfl, upd_same, fun p hp => ?_, fun hnd => ?_⟩
    · obtain ⟨y, hy, rfl⟩ := List.mem_map.mp (hs1 p hp)
      exact SqT.of (s4 _ _ (hnm3 y hy))
    have elen := len_set hkn hnd hs1 hs2
    refine ⟨_, rfl, q2, _, rfl, .inl (SqL.of (s4 _ _ hq23)), rfl, _, rfl, ?_⟩
    rw [show (!decide (V.int (Ls.length : Nat) = V.int ((refsN lk).length : Nat))) = false from by rw [show (refsN lk).length = lk.length from List.length_map _, elen, decide_eq_true rfl]; rfl]
    refine iteF ?_
    have s24 := s3.trans s4
    have s14 := s2.trans s24
    have s04 := s1.trans s14
    obtain ⟨kvs, hm1, hm2⟩ := s.m
    have hq4 := s14 _ _ hq1
    have hk4 := s24 _ _ hq2'
    have hnm4 : NmAt (upd (upd H2 q3 (.lst (refsN (nmSort (·.2) lk)))) a (SetTO P w a Ls)) lk := fun p hp => s24 _ _ (hnm p hp)
    have hm4 := s04 _ _ hm1
    have nmem : ∀ nm : Nm, nm ∈ lk.map (·.2) ↔ nm ∈ x'.S.hd.map (·.2.nm) := fun nm => by rw [hlk]; exact hperm.mem_iff
    have gcs : ∀ p ∈ lk, p.2 ∈ ms ∧ p.2.1 = e.2.1.number := fun p hp => by
      obtain ⟨y, hy, ey⟩ := List.mem_map.mp ((nmem p.2).mp (List.mem_map.mpr ⟨p, hp, rfl⟩))
      have := o.pg.gc y hy
      rw [← ey]
      exact ⟨this.ms, by show y.2.n = _; rw [this.n, o.num]⟩
    have hval : ∀ nm ∈ ms, ∃ v, valV kvs (nmK nm) = some v := fun nm hn => by
      cases ev : valV kvs (nmK nm) with
      | some v => exact ⟨v, rfl⟩
      | none => exact absurd (by rw [hm2]; exact List.mem_map.mpr ⟨nm, hn, rfl⟩) (valV_not ev)
    refine ⟨_, rfl, q2, rfl, ⟨_, SqL.of hk4⟩, fun D hD => lc_list (K := K) (a := q2) (xs := refsN lk) (fun i H' => Same (upd (upd H2 q3 (.lst (refsN (nmSort (·.2) lk)))) a (SetTO P w a Ls)) H' ∧ H' D = some (.lst [])) ⟨same_new hD, upd_same⟩ (fun i H' _ ⟨z, _⟩ => SqL.of (z _ _ hk4)) ?_ ?_⟩
    · rintro i y H5 hy ⟨s5, h5⟩
      unfold refsN at hy
      rw [List.getElem?_map] at hy
      obtain ⟨p, ep, rfl⟩ := Option.map_eq_some_iff.mp hy
      have hp := List.mem_of_getElem? ep
      obtain ⟨g1, g2⟩ := gcs p hp
      obtain ⟨v, ev⟩ := hval p.2 g1
      refine ⟨rfl, _, rfl, _, rfl, md, _, rfl, DGet.t (k := nmK p.2) (s5 _ _ hm4) (s5 _ _ (hnm4 p hp)), _, rfl, ?_⟩
      rw [ev]
      refine iteF ⟨_, rfl, _, _, _, V.int p.2.1, rfl, rfl, SqT.of (s5 _ _ (hnm4 p hp)), rfl, _, rfl, _, _, _, V.int e.2.1.number, rfl, rfl, SqT.of (s5 _ _ hq4), rfl, rfl, _, rfl, ?_⟩
      rw [g2, decide_eq_true rfl]
      exact ⟨s5, h5⟩
    rintro H5 ⟨s5, h5⟩
    refine ⟨Nat.zero_le _, fun u hu2 => ⟨D, u, [], rfl, rfl, SqL.of (same_new hu2 _ _ h5), SqL.of upd_same, _, rfl, iteF ?_⟩⟩
    have s6 := same_new (o := .lst []) hu2
    have s46 := s5.trans s6
    have s06 := s04.trans s46
    generalize hH6 : upd H5 u (.lst []) = H6 at s6 s46 s06 ⊢
    have hq6 := s46 _ _ hq4
    have hk6 := s46 _ _ hk4
    have hm6 := s06 _ _ hm1
    have hnm6 : NmAt H6 lk := fun p hp => s46 _ _ (hnm4 p hp)
    have ln6 := s06 _ _ l.n
    have lth6 := s06 _ _ hth
    have hll : L.length = cs.length := by rw [← l.me, List.length_map]
    have ne_md : ∀ {b : Addr} {ob : HO}, H6 b = some ob → (∀ z, ob ≠ .dT z) → b ≠ md := fun hb n => ne_of hb hm6 (n _)
    refine ⟨md, _, hm6, trivial, fun od => ⟨_, rfl, md, od, rfl, .inr ⟨kvs, upd_same, for_keysT (fun i σ' H' => ∃ v7 v8 v9 : Option V, σ' = [some (.int (at_ : Int)), some (.ref nl), some (.ref hl), some (.ref th), some (.ref md), some (.ref q), some (.ref q2), v7, v8, v9] ∧ H' = upd H6 md (.frz od (.dT kvs))) ⟨_, _, _, rfl, rfl⟩ (fun i σ' H' ⟨_, _, _, _, e⟩ => by rw [e]; exact upd_same) ?_ ?_⟩⟩⟩
    · rintro i key v b σ7 H7 ek ⟨v7, v8, v9, rfl, rfl⟩ hb
      have hkm : key ∈ ms.map nmK := by rw [← hm2]; exact List.mem_map.mpr ⟨_, List.mem_of_getElem? ek, rfl⟩
      obtain ⟨nm, hnmm, rfl⟩ := List.mem_map.mp hkm
      have hb : upd H6 md (.frz od (.dT kvs)) b = some (.tup (nmV nm)) := hb
      have up : ∀ {z : Addr} {ob : HO}, H6 z = some ob → z ≠ md → upd H6 md (.frz od (.dT kvs)) z = some ob := fun h n => by rw [upd_ne n]; exact h
      have ln7 := up ln6 (ne_md ln6 (fun _ z => nomatch z))
      have lth7 := up lth6 (ne_md lth6 (fun _ z => nomatch z))
      have hq7 := up hq6 (ne_md hq6 (fun _ z => nomatch z))
      have hk7 := up hk6 (ne_md hk6 (fun _ z => nomatch z))
      have hnm7 : NmAt (upd H6 md (.frz od (.dT kvs))) lk := fun p hp => up (hnm6 p hp) (ne_md (hnm6 p hp) (fun _ z => nomatch z))
      have taken : ∀ (j : Nat) (f : Addr × Hd × Option In), L[j]? = some f → ∃ t : Addr × List (List Key × V), (TL.map fun t => V.ref t.1)[j]? = some (V.ref t.1) ∧ upd H6 md (.frz od (.dT kvs)) t.1 = some (.dT t.2) ∧ ∀ x : Nm, (valV t.2 (nmK x)).isSome = true ↔ x ∈ tks f.2.1.evs := fun j f hf => by
        have hj := (List.getElem?_eq_some_iff.mp hf).1
        have et : TL[j]? = some TL[j] := List.getElem?_eq_getElem (by omega)
        obtain ⟨t1, t2, t3⟩ := hT j f TL[j] hf et
        exact ⟨TL[j], by rw [List.getElem?_map, et]; rfl, up (s06 _ _ t1) t2, t3⟩
      refine ⟨fun σ' H' => ∃ kb : Bool, σ' = [some (.int (at_ : Int)), some (.ref nl), some (.ref hl), some (.ref th), some (.ref md), some (.ref q), some (.ref q2), some (.ref b), some (.bl kb), v9] ∧ H' = upd H6 md (.frz od (.dT kvs)) ∧ (kb = true → nm.2.1 = e.2.1.me ∨ nm ∈ tks e.2.1.evs), ?_, ?_⟩
      · have ecs : (cs.map V.int)[at_]? = some (.int e.2.1.me) := by
          rw [← l.me, List.getElem?_map, List.getElem?_map, eE]; rfl
        refine ⟨_, rfl, _, _, _, V.int nm.2.1, rfl, rfl, SqT.of hb, rfl, _, rfl, _, rfl, nl, _, _, V.int e.2.1.me, rfl, rfl, SqL.of ln7, atI_nat (j := at_) ecs, rfl, _, rfl, ite2 (fun ec => ⟨_, rfl, rfl, fun _ => .inl (num_eq ec)⟩) (fun _ => ?_)⟩
        obtain ⟨t, et, t1, t2⟩ := taken at_ e eE
        refine ⟨_, rfl, _, rfl, _, rfl, th, _, _, V.ref t.1, rfl, rfl, SqL.of lth7, atI_nat (j := at_) et, t.1, _, rfl, DGet.t (k := nmK nm) t1 hb, _, rfl, rfl, fun z => .inr ((t2 nm).mp z)⟩
      rintro σ8 H8 ⟨kb, rfl, rfl, hkb⟩
      have skip : ∃ u7 u8 u9 : Option V, ([some (.int (at_ : Int)), some (.ref nl), some (.ref hl), some (.ref th), some (.ref md), some (.ref q), some (.ref q2), some (.ref b), some (.bl kb), v9] : L2.St) = [some (.int (at_ : Int)), some (.ref nl), some (.ref hl), some (.ref th), some (.ref md), some (.ref q), some (.ref q2), u7, u8, u9] ∧ upd H6 md (.frz od (.dT kvs)) = upd H6 md (.frz od (.dT kvs)) := ⟨_, _, v9, rfl, rfl⟩
      refine ⟨_, rfl, _, _, _, V.int nm.1, rfl, rfl, SqT.of hb, rfl, _, rfl, _, _, _, V.int e.2.1.number, rfl, rfl, SqT.of hq7, rfl, rfl, _, rfl, ite2 (fun en => ?_) (fun _ => skip)⟩
      have en := num_eq en
      refine ⟨_, rfl, _, rfl, ?_⟩
      cases kb with
      | false => exact iteF skip
      | true =>
      have hkn2 := hkb rfl
      refine iteT ⟨_, rfl, _, rfl, nmD nm, _, dp_nm hb, dpN hk7 hnm7, nm_shaped nm, ord_shaped lk, _, rfl, ite2 (fun eC => ?_) (fun _ => skip)⟩
      have hno : nm ∉ x'.S.hd.map (·.2.nm) := fun z => by
        obtain ⟨p, hp, epn⟩ := List.mem_map.mp ((nmem nm).mpr z)
        have : ((lk.map fun o => nmD o.2).any fun z => PyData.eqv z (nmD nm)) = true := List.any_eq_true.mpr ⟨nmD p.2, List.mem_map.mpr ⟨p, hp, rfl⟩, by rw [nm_eqv, epn, decide_eq_true rfl]⟩
        rw [this] at eC; cases eC
      have fact := right_fact ww eE ex hnmm en hkn2 hno
      refine ⟨_, rfl, nl, _, rfl, .inl (SqL.of ln7), _, rfl, by omega, by rw [List.length_map]; omega, for_range (lo := 0) (n := (cs.map V.int).length) (fun i σ' H' => ∃ v9 : Option V, σ' = [some (.int (at_ : Int)), some (.ref nl), some (.ref hl), some (.ref th), some (.ref md), some (.ref q), some (.ref q2), some (.ref b), some (.bl true), v9] ∧ H' = upd H6 md (.frz od (.dT kvs))) ⟨_, rfl, rfl⟩ ?_ ?_⟩
      · rintro j σ9 H9 hj ⟨v9', rfl, rfl⟩
        rw [List.length_map] at hj
        have eF : L[j]? = some L[j] := List.getElem?_eq_getElem (by omega)
        generalize L[j] = f at eF
        have hf := ww.hk f (List.mem_of_getElem? eF)
        have ecs : (cs.map V.int)[j]? = some (.int f.2.1.me) := by
          rw [← l.me, List.getElem?_map, List.getElem?_map, eF]; rfl
        obtain ⟨t, et, t1, t2⟩ := taken j f eF
        have m0 := hf.me0
        refine ⟨_, rfl, _, _, _, V.int e.2.1.hands, rfl, rfl, SqT.of hq7, rfl, _, rfl, _, rfl, nl, _, _, V.int f.2.1.me, rfl, rfl, SqL.of ln7, by rw [Int.zero_add]; exact atI_nat (j := j) ecs, _, _, rfl, rfl, m0, _, _, rfl, rfl, rfl, _, rfl, ite2 (fun eb => ?_) (fun _ => ⟨_, rfl, rfl⟩)⟩
        have ht := (t2 nm).mpr (fact j f eF eb)
        refine ⟨_, rfl, _, rfl, _, rfl, th, _, _, V.ref t.1, rfl, rfl, SqL.of lth7, by rw [Int.zero_add]; exact atI_nat (j := j) et, t.1, _, rfl, DGet.t (k := nmK nm) t1 hb, _, rfl, ?_⟩
        rw [ht]
        exact iteF ⟨_, rfl, rfl⟩
      · rintro σ9 H9 ⟨v9', rfl, rfl⟩
        exact ⟨_, _, _, rfl, rfl⟩
    · rintro σ7 H7 ⟨v7, v8, v9, rfl, rfl⟩
      exact ⟨upd_same, k _ (s06.trans (same_lock hm6 (Same.refl _)))⟩

end
end G
namespace G
open PySem PySem.Spec L2
open PyProof.Rows hiding St
section
variable {P : Program} {w : World} {K : PySem.W.Frag} {mg : Str → Option Value} {base : Heap} {CT : Addr × Addr}
/-! ### the world is made -/
theorem sum_bd {M : Int} : ∀ l : List Int, (∀ z ∈ l, 1 ≤ z ∧ z ≤ M) → 0 ≤ l.sum ∧ l.sum ≤ l.length * M ∧ (l ≠ [] → 1 ≤ l.sum)
  | [], _ => ⟨Int.le_refl _, by rw [List.length_nil]; show (0 : Int) ≤ 0 * M; omega, fun z => absurd rfl z⟩
  | x :: r, h => by
    obtain ⟨h1, h2, _⟩ := sum_bd r fun z hz => h z (List.mem_cons_of_mem _ hz)
    obtain ⟨g1, g2⟩ := h x List.mem_cons_self
    rw [List.sum_cons, List.length_cons]
    have e : ((r.length + 1 : Nat) : Int) * M = (r.length : Int) * M + M := by rw [Int.natCast_add, Int.add_mul]; omega
    refine ⟨by omega, by rw [e]; omega, fun _ => by omega⟩
theorem bit_some {n : Nat} {pk : Int} (hn : n = 2 ∨ n = 3 ∨ n = 4) (h1 : 1 ≤ pk) (h2 : pk < 2 ^ n) (h : ∀ j : Nat, j < n → pk / 2 ^ j % 2 ≠ 1) : False := by
  have b0 := h 0 (by omega)
  have b1 := h 1 (by omega)
  rcases hn with rfl | rfl | rfl
  · omega
  · have b2 := h 2 (by omega)
    omega
  · have b2 := h 2 (by omega)
    have b3 := h 3 (by omega)
    omega
def spWorld (K : PySem.W.Frag) (CT : Addr × Addr) : Sp := fun vs H Q _ => ∃ (a : Addr) (ns : List Int), vs = [.ref a] ∧ SqL K H a (ns.map V.int) ∧ Tb CT H ∧ ∀ t nl hl cs L H', Same H H' → H' t = some (.tup [.ref nl, .ref hl]) → WOK K CT cs [] 10 H' L → Lst H' L cs nl hl → (∀ b, H b ≠ none → Outs b L) → Q (.ref t) H'
theorem ok_law_world (A : All P w K mg base CT) : DOk P w K mg base CX0 10 "_law_world" ["_law_script"] [] (spWorld K CT) := by
  obtain ⟨fd, F⟩ := fu_law_world A.d
  refine ⟨_, fd, [], FunD.ok0 F sc_law_world (fun vs H Q E h => ?_) (fun cdv A0 outer s H vs Q E hr h => ?_), gl_law_world A.kin A.ns A.d, F.kp, F.bindsN fun _ _ _ _ _ _ us hl => match us, hl with | [_], _ => rfl, .nil⟩
  · obtain ⟨a, ns, rfl, hs, htb, k⟩ := h
    rfl
  · obtain ⟨a, ns, rfl, hs, htb, k⟩ := h
    have hu := hu_of hr
    refine ⟨_, pss_cons (ps_set (i := 1) sc_law_world.nd rfl (by first | exact Or.inl rfl | exact Or.inr rfl) ((ok_law_hands A).pe hr pass0 (pa_cons (pe_op op_fdivN ((ok_law_cell_at A).pe hr pass0 (pa_cons (pv 0) (pa_cons pe_int pa_nil))) pe_int) (pa_cons (pe_op op_add pe_int (pe_op op_modN ((ok_law_cell_at A).pe hr pass0 (pa_cons (pv 0) (pa_cons pe_int pa_nil))) pe_int)) pa_nil))))
      (pss_cons (ps_set (i := 2) sc_law_world.nd rfl (by first | exact Or.inl rfl | exact Or.inr rfl) (pe_op op_sub (pe_op op_shl pe_int (pe_callB call_len_seq (by rfl) (fr_len A.kin A.ns A.d) (by decide +kernel) (pa_cons (pv 1) pa_nil))) pe_int))
      (pss_cons (ps_cut (ps_if (pt_cmpR op_eq (pe_op op_modN ((ok_law_cell_at A).pe hr pass0 (pa_cons (pv 0) (pa_cons pe_int pa_nil))) pe_int) pe_int (nomark _)) (pss_one (ps_set (i := 2) sc_law_world.nd rfl (by first | exact Or.inl rfl | exact Or.inr rfl) (pe_op op_add pe_int (pe_op op_modN (pe_op op_fdivN ((ok_law_cell_at A).pe hr pass0 (pa_cons (pv 0) (pa_cons pe_int pa_nil))) pe_int) (pv 2))))) pss_nil))
      (pss_cons (ps_set (i := 3) sc_law_world.nd rfl (by first | exact Or.inl rfl | exact Or.inr rfl) (pe_callB (cr_sum rfl) (by rfl) (fr_sum A.kin A.ns A.d) (by decide +kernel) (pa_cons (pe_lc (own := [("_law_at", 6)]) (g := gName 6) rfl sc_law_world.nd (pi_range1 (by rfl) (fr_range A.kin A.ns A.d) (pa_cons (pe_callB call_len_seq (by rfl) (fr_len A.kin A.ns A.d) (by decide +kernel) (pa_cons (pv 1) pa_nil)) pa_nil)) (blkOk_by (N := ["_law_script", "_law_names", "_law_pick", "_law_group", "_law_number", "_law_room", "_law_at", "_law_name"]) (sc := defScope s_law_world) (by decide +kernel)) (fun _ _ _ _ _ => pg_name (i := 6) sc_law_world.nd rfl (Or.inl rfl)) (fun _ _ _ _ _ => (pts_one (pt_cmpR op_eq (pe_op op_and (pe_op op_shr (pv 2) (pv 6)) pe_int) pe_int (nomark _)))) (fun _ _ _ _ _ => (pe_op op_shl pe_int (pe_ix (ix_listK (K := K)) (pv 1) (pv 6) (fun _ _ => rfl))))) pa_nil)))
      (pss_cons (ps_set (i := 4) sc_law_world.nd rfl (by first | exact Or.inl rfl | exact Or.inr rfl) (pe_op op_modN ((ok_law_cell_at A).pe hr pass0 (pa_cons (pv 0) (pa_cons pe_int pa_nil))) (pe_op op_add (pe_op op_pow pe_int pe_int) pe_int)))
      (pss_cons (ps_set (i := 5) sc_law_world.nd rfl (by first | exact Or.inl rfl | exact Or.inr rfl) (pe_op op_add pe_int (pe_op op_modN ((ok_law_cell_at A).pe hr pass0 (pa_cons (pv 0) (pa_cons pe_int pa_nil))) pe_int)))
      (pss_one (ps_ret (pe_tup (pa_cons (pv 1) (pa_cons (pe_lc (own := [("_law_name", 7)]) (g := gName 7) (tt := tYes) rfl sc_law_world.nd (pi_list (pv 1)) (blkOk_by (N := ["_law_script", "_law_names", "_law_pick", "_law_group", "_law_number", "_law_room", "_law_at", "_law_name"]) (sc := defScope s_law_world) (by decide +kernel)) (fun _ _ _ _ _ => pg_name (i := 7) sc_law_world.nd rfl (Or.inl rfl)) (fun _ _ _ _ _ => pts_nil) (fun _ _ _ _ _ => ((mk_ok_Hand A (T := fun _ _ => False) (B := 10)).pe hr pass0 (pa_cons (pv 7) (pa_cons (pv 3) (pa_cons (pv 4) (pa_cons (pv 5) pa_nil))))))) pa_nil)))))))))), ?_⟩
    refine ⟨_, rfl, a, ns, 0, rfl, hs, Int.le_refl _, fun c1 => ⟨_, _, rfl, rfl, ⟨by decide, by decide⟩, _, rfl, a, ns, 0, rfl, hs, Int.le_refl _, fun c2 => ?_⟩⟩
    obtain ⟨m, hm, em⟩ := fmN (n := 3) (x := c2) (by decide)
    refine ⟨_, _, rfl, rfl, nzI 3, _, _, rfl, rfl, c1.fdiv 3, 2 + m, ?_, by omega, fun nl cs H1 hnl s1 hn1 hlen hnd h60 => ?_⟩
    · have e2 : 2 + c2.fmod 3 = ((2 + m : Nat) : Int) := by
        have : c2.fmod 3 = (m : Int) := em
        omega
      exact congrArg (fun z => [V.int (c1.fdiv 3), V.int z]) e2
    have hs1 : SqL K H1 a (ns.map V.int) := s1.seq hs
    have hcl : (cs.map V.int).length = 2 + m := by rw [List.length_map]; exact hlen
    have hn4 : 2 + m = 2 ∨ 2 + m = 3 ∨ 2 + m = 4 := by omega
    refine ⟨_, rfl, nl, _, rfl, .inl (SqL.of hn1), _, _, rfl, rfl, ⟨by omega, by omega, by decide⟩, _, _, rfl, rfl, ?_⟩
    have pk0 : ((1 : Int) * 2 ^ (((cs.map V.int).length : Nat) : Int).toNat - 1) = 2 ^ (2 + m) - 1 := by rw [hcl, Int.one_mul, Int.toNat_natCast]
    have p2 : (4 : Int) ≤ 2 ^ (2 + m) := by rcases hn4 with h | h | h <;> rw [h] <;> decide
    refine ⟨fun σ' H' => ∃ pk : Int, σ' = [some (.ref a), some (.ref nl), some (.int pk), none, none, none, none, none] ∧ H' = H1 ∧ 1 ≤ pk ∧ pk < 2 ^ (2 + m), ?_, ?_⟩
    · refine ⟨_, rfl, a, ns, 1, rfl, hs1, by decide, fun c3 => ⟨_, _, rfl, rfl, nzI 3, rfl, _, rfl, ite2 (fun _ => ?_) (fun _ => ⟨_, rfl, rfl, by rw [pk0]; omega, by rw [pk0]; omega⟩)⟩⟩
      have hz : ((1 : Int) * 2 ^ (((cs.map V.int).length : Nat) : Int).toNat - 1) ≠ 0 := by rw [pk0]; omega
      refine ⟨_, rfl, a, ns, 1, rfl, hs1, by decide, fun c4 => ⟨_, _, rfl, rfl, ⟨by decide, by decide⟩, _, rfl, _, _, rfl, rfl, hz, _, _, rfl, rfl, _, rfl, rfl, ?_, ?_⟩⟩
      · obtain ⟨f1, f2⟩ := fm (a := c4.fdiv 3) (b := (1 : Int) * 2 ^ (((cs.map V.int).length : Nat) : Int).toNat - 1) (by rw [pk0]; omega)
        omega
      · obtain ⟨f1, f2⟩ := fm (a := c4.fdiv 3) (b := (1 : Int) * 2 ^ (((cs.map V.int).length : Nat) : Int).toNat - 1) (by rw [pk0]; omega)
        omega
    rintro σ2 H2 ⟨pk, rfl, rfl, hp1, hp2⟩
    refine ⟨_, rfl, nl, _, rfl, .inl (SqL.of hn1), _, rfl, by omega, by omega, fun D hD => ?_⟩
    refine lc_range (lo := 0) (n := (cs.map V.int).length) (fun i H' => Same H2 H' ∧ ∃ l : List Int, H' D = some (.lst (l.map V.int)) ∧ l.length ≤ i ∧ (∀ z ∈ l, 1 ≤ z ∧ z ≤ 2 ^ 60) ∧ (l = [] → ∀ j : Nat, j < i → pk / 2 ^ j % 2 ≠ 1)) ⟨same_new hD, [], upd_same, Nat.le_refl _, fun _ h => (nomatch h), fun _ j hj => absurd hj (Nat.not_lt_zero j)⟩ ?_ ?_
    · rintro i H3 hi ⟨s3, l, h3, hli, hlz, hlb⟩
      obtain ⟨c, hc, ec⟩ := names_at hi
      obtain ⟨c0, c60⟩ := h60 c hc
      have eb : Builtin.bitAnd (pk / 2 ^ (0 + (i : Int)).toNat) 1 = pk / 2 ^ i % 2 := by rw [PyProof.Rows.bitAnd_m1, Int.zero_add, Int.toNat_natCast]
      refine ⟨rfl, _, rfl, _, rfl, _, _, rfl, rfl, by omega, _, _, rfl, rfl, rfl, _, rfl, ite2 (fun e => ?_) (fun e => ?_)⟩
      · refine ⟨_, rfl, _, rfl, nl, _, _, V.int c, rfl, rfl, SqL.of (s3 _ _ hn1), by rw [Int.zero_add]; exact atI_nat ec, _, _, rfl, rfl, ⟨c0, by omega, by decide⟩, _, h3, small6 (by rw [List.length_map]; omega), same_set s3 hD, l ++ [1 * 2 ^ c.toNat], by rw [upd_same, List.map_append]; rfl, by rw [List.length_append]; exact Nat.add_le_add_right hli 1, fun z hz => ?_, fun z => ?_⟩
        · rcases List.mem_append.mp hz with hz | hz
          · exact hlz z hz
          · rw [List.mem_singleton.mp hz, Int.one_mul]
            have h1 := pw c.toNat
            have h2 : (2 : Int) ^ c.toNat ≤ 2 ^ 60 := by
              have := Nat.pow_le_pow_right (n := 2) (by decide) (show c.toNat ≤ 60 by omega)
              exact_mod_cast this
            omega
        · have := congrArg List.length z
          rw [List.length_append] at this
          exact absurd this (by simp)
      · refine ⟨s3, l, h3, Nat.le_succ_of_le hli, hlz, fun z j hj => ?_⟩
        by_cases ej : j = i
        · subst ej
          intro hb
          have e : ¬ decide (V.int (Builtin.bitAnd (pk / 2 ^ (0 + (j : Int)).toNat) 1) = V.int 1) = true := e
          rw [eb, hb] at e
          exact e (decide_eq_true rfl)
        · exact hlb z j (by omega)
    rintro H3 ⟨s3, l, h3, hli, hlz, hlb⟩
    obtain ⟨g0, g1, g2⟩ := sum_bd l hlz
    have hne : l ≠ [] := fun z => by
      have := hlb z
      rw [hcl] at this
      exact bit_some hn4 hp1 hp2 this
    have hg1 := g2 hne
    have hg2 : l.sum < 2 ^ 63 := by
      have : (l.length : Int) * 2 ^ 60 ≤ 4 * 2 ^ 60 := Int.mul_le_mul_of_nonneg_right (by omega) (by decide)
      omega
    refine ⟨D, l, rfl, SqL.of h3, ?_⟩
    have hs3 : SqL K H3 a (ns.map V.int) := s3.seq hs1
    refine ⟨_, rfl, a, ns, 2, rfl, hs3, by decide, fun c5 => ⟨_, _, rfl, rfl, ⟨by decide, by decide, by decide⟩, _, _, rfl, rfl, _, _, rfl, rfl, nzI (10 ^ (18 : Int).toNat + 1), ?_⟩⟩
    refine ⟨_, rfl, a, ns, 3, rfl, hs3, by decide, fun c6 => ⟨_, _, rfl, rfl, nzI 4, _, _, rfl, rfl, ?_⟩⟩
    have s03 := s1.trans s3
    have hn3 := s3 _ _ hn1
    refine ⟨_, rfl, _, rfl, nl, rfl, ⟨_, SqL.of hn3⟩, fun Z hZ => ?_⟩
    have lcs : cs.length ≤ 60 := by omega
    have c62 : ∀ c ∈ cs, 0 ≤ c ∧ c ≤ 62 := fun c hc => by obtain ⟨x, y⟩ := h60 c hc; exact ⟨x, by omega⟩
    have hZ0 : Same H3 (upd H3 Z (.lst [])) := same_new hZ
    have w0 : WOK K CT cs [] 10 (upd H3 Z (.lst [])) [] := ⟨fun _ h => (nomatch h), fun _ h => (nomatch h), fun i j e f h => (nomatch h), (htb.ext s03).ext hZ0, fun i j e f h => (nomatch h), c62, lcs, Nat.zero_le _⟩
    refine lc_list (K := K) (a := nl) (xs := cs.map V.int) (fun i H' => ∃ Lp : HL, Same H3 H' ∧ H' Z = some (.lst (refsH Lp)) ∧ WOK K CT cs [] 10 H' Lp ∧ Lp.map (·.2.1.me) = cs.take i ∧ Outs Z Lp ∧ ∀ b, H3 b ≠ none → Outs b Lp)
      ⟨[], hZ0, upd_same, w0, rfl, fun _ h => (nomatch h), fun _ _ _ h => (nomatch h)⟩ (fun i H' _ ⟨_, z, _⟩ => SqL.of (z _ _ hn3)) ?_ ?_
    · rintro i x H6 hx ⟨Lp, s6, hZ6, w6, hme, oz, ofr⟩
      rw [List.getElem?_map] at hx
      obtain ⟨c, ec, rfl⟩ := Option.map_eq_some_iff.mp hx
      have hi := (List.getElem?_eq_some_iff.mp ec).1
      have hc := List.mem_of_getElem? ec
      obtain ⟨c0, c60⟩ := h60 c hc
      have hlp : Lp.length = i := by
        have := congrArg List.length hme
        rw [List.length_map, List.length_take] at this
        omega
      refine ⟨rfl, _, rfl, _, rfl, _, rfl, _, rfl, fun p dx hp hdx hne => ⟨cs, p, dx, c, l.sum, _, _, rfl, upd_same, hc, c0, by omega, hg1, hg2, by decide, fun Dh ih H7 kp7 ho eme etk hfr hbd => ⟨rfl, ?_⟩⟩⟩
      have s7 := made_same hp hdx kp7
      have fr : ∀ b ∈ foot p Dh ih, H6 b = none := fun b hb => by
        rcases hfr b hb with e | e
        · rw [e]; exact hp
        · exact made_none hp hdx e
      have w7 := w6.add s7 ho (fun _ _ z => z) fr etk (fun f hf ef => by
        have h1 : f.2.1.me ∈ cs.take i := by rw [← hme]; exact List.mem_map.mpr ⟨f, hf, rfl⟩
        rw [ef, eme] at h1
        obtain ⟨j, hj, ej⟩ := List.mem_take_iff_getElem.mp h1
        have e2 := (List.getElem?_eq_some_iff.mp ec).2
        exact List.pairwise_iff_getElem.mp hnd j i (by omega) hi (by omega) (ej.trans e2.symm)) hbd
      have hZ7 := s7 _ _ hZ6
      have oz7 : Outs Z (Lp ++ [(p, Dh, ih)]) := fun f hf m => by
        rcases List.mem_append.mp hf with hf | hf
        · exact oz f hf m
        · rw [List.mem_singleton.mp hf] at m
          exact nomatch ((fr Z m).symm.trans hZ6)
      obtain ⟨w8, _⟩ := w7.wr (o' := .lst (refsH Lp ++ [.ref p])) hZ7 trivial oz7
      refine ⟨_, hZ7, by rw [refsH_len]; exact small6 (by omega), Lp ++ [(p, Dh, ih)], same_set (s6.trans s7) hZ, by rw [upd_same]; unfold refsH; rw [List.map_append, List.map_append]; rfl, w8, ?_, oz7, fun b hb f hf m => ?_⟩
      · rw [List.map_append, hme, List.take_add_one, ec]
        show _ ++ [Dh.me] = _
        rw [eme]; rfl
      · rcases List.mem_append.mp hf with hf | hf
        · exact ofr b hb f hf m
        · rw [List.mem_singleton.mp hf] at m
          have h6 := fr b m
          exact hb (s6.free h6)
    · rintro H6 ⟨Lp, s6, hZ6, w6, hme, oz, ofr⟩
      rw [List.length_map, List.take_length] at hme
      have hlp : Lp.length = cs.length := by rw [← hme, List.length_map]
      refine ⟨(by show 2 ≤ sizeLine; decide), fun t ht => ?_⟩
      have s7 := same_new (o := .tup [.ref nl, .ref Z]) ht
      have s37 := s6.trans s7
      exact k t nl Z cs Lp _ (s03.trans s37) upd_same (w6.same s7) ⟨s37 _ _ hn3, s7 _ _ hZ6, ofr nl (fun z => nomatch (z.symm.trans hn3)), oz, hme, by omega, by omega⟩ fun b hb => ofr b fun z => hb (s03.free z)

end
end G
namespace G
open PySem PySem.Spec L2
open PyProof.Rows hiding St
section
variable {P : Program} {w : World} {K : PySem.W.Frag} {mg : Str → Option Value} {base : Heap} {CT : Addr × Addr}
/-! ### the law -/
/-- the script stands still -/
def Scr (K : PySem.W.Frag) (H : Hp) (L : HL) (a md pl : Addr) (xs : List V) : Prop :=
  (∃ o, H a = some o ∧ (o = .lst xs ∨ ∃ od, o = .frz od (.lst xs)) ∧ Outs a L ∧ a ≠ md ∧ a ≠ pl) ∨
    ∃ (o : Obj) (its : Array Value) (n : Nat), K.lookup a = some o ∧ o.cls = .type "list" ∧ o.dict = none ∧ o.data = .seq its n ∧ its.size ≤ sizeLine ∧ Vals xs its.toList
theorem Scr.sq {H : Hp} {L : HL} {a md pl : Addr} {xs : List V} (s : Scr K H L a md pl xs) : SqL K H a xs := by
  rcases s with ⟨o, h, e | ⟨od, e⟩, _⟩ | h
  · rw [e] at h; exact .inl (.inl h)
  · rw [e] at h; exact .inl (.inr ⟨od, h⟩)
  · exact .inr h
theorem Scr.x {H H' : Hp} {L L' : HL} {a md pl : Addr} {xs : List V} (s : Scr K H L a md pl xs) (x : Wx [md, pl] H L H' L') : Scr K H' L' a md pl xs := by
  rcases s with ⟨o, h, e, ou, n1, n2⟩ | h
  · have nt : Nt o := by
      rcases e with e | ⟨od, e⟩
      · rw [e]; exact fun _ z => nomatch z
      · rw [e]; exact fun _ z => nomatch z
    refine .inl ⟨o, x.kp a o h nt ou (by simp [n1, n2]), e, x.out a o h nt ou, n1, n2⟩
  · exact .inr h
theorem Scr.same {H H' : Hp} {L : HL} {a md pl : Addr} {xs : List V} (s : Scr K H L a md pl xs) (e : Same H H') : Scr K H' L a md pl xs := s.x (Wm.same e).x
def spLaw (K : PySem.W.Frag) (CT : Addr × Addr) : Sp := fun vs H Q _ => ∃ (a : Addr) (ns : List Int), vs = [.ref a] ∧ SqL K H a (ns.map V.int) ∧ Tb CT H ∧ ns.length ≤ 1000000 ∧ ∀ H', Q (.bl true) H'
theorem fn_law (A : All P w K mg base CT) {fd : FuncData} (F : FunD K d_law.name d_law.qual (defArgs s_law) (defBody s_law) (defScope s_law) (d_law.dvs K) [] (He.fAd K ("law", none)) fd) : FnOk P w K mg base CX0 18 (He.fAd K ("law", none)) fd ["_law_script"] (spLaw K CT) := by
  refine FunD.ok0 F sc_law (fun vs H Q E h => ?_) (fun cdv A0 outer s H vs Q E hr h => ?_)
  · obtain ⟨a, ns, rfl, hs, htb, hns, k⟩ := h
    rfl
  · obtain ⟨a, ns, rfl, hs, htb, hns, k⟩ := h
    have hu := hu_of hr
    refine ⟨_, pss_cons (ps_asg ((ok_law_world A).pe hr pass0 (pa_cons (pv 0) pa_nil)) (pg_tup rfl (pgs_cons (pg_name (i := 1) sc_law.nd rfl (by first | exact Or.inl rfl | exact Or.inr rfl)) (pgs_cons (pg_name (i := 2) sc_law.nd rfl (by first | exact Or.inl rfl | exact Or.inr rfl)) pgs_nil))))
      (pss_cons (ps_set (i := 3) sc_law.nd rfl (by first | exact Or.inl rfl | exact Or.inr rfl) pe_dnewT)
      (pss_cons (ps_set (i := 4) sc_law.nd rfl (by first | exact Or.inl rfl | exact Or.inr rfl) (pe_lst pa_nil))
      (pss_cons (ps_for PassesOwn.never rfl (pi_range2 (by rfl) (fr_range A.kin A.ns A.d) (pa_cons pe_int (pa_cons (pe_callB (call_min2 rfl) (by rfl) (fr_min A.kin A.ns A.d) (by decide +kernel) (pa_cons (pe_callB call_len_seq (by rfl) (fr_len A.kin A.ns A.d) (by decide +kernel) (pa_cons (pv 0) pa_nil)) (pa_cons pe_int pa_nil))) pa_nil))) (pg_name (i := 5) sc_law.nd rfl (by first | exact Or.inl rfl | exact Or.inr rfl)) (pss_cons (ps_expr ((ok_law_deed A).pe hr pass0 (pa_cons (pv 1) (pa_cons (pv 2) (pa_cons (pv 3) (pa_cons (pv 4) (pa_cons (pe_ix ix_list (pv 0) (pv 5) (fun _ _ => rfl)) (pa_cons (pv 5) pa_nil)))))))) (pss_cons (ps_setLc (i := 6) (own := [("_law_hand", 8)]) (g := gName 8) (tt := tYes) rfl sc_law.nd rfl rfl (sw_true rfl rfl rfl (by decide +kernel)) (pi_list (pv 2)) (blkOk_by (N := ["_law_script", "_law_names", "_law_hands_here", "_law_made", "_law_pool", "_law_k", "_law_taken_here", "_law_at", "_law_hand"]) (sc := defScope s_law) (by decide +kernel)) (fun _ _ _ _ _ => pg_name (i := 8) sc_law.nd rfl (Or.inl rfl)) (fun _ _ _ _ _ => pts_nil) (fun _ _ _ _ _ => ((ok_law_taken A).pe hr pass0 (pa_cons ((ok_Hand_events A).pe0 hr pass0 (pv 8)) pa_nil)))) (pss_one (ps_for PassesOwn.never rfl (pi_range1 (by rfl) (fr_range A.kin A.ns A.d) (pa_cons (pe_callB call_len_seq (by rfl) (fr_len A.kin A.ns A.d) (by decide +kernel) (pa_cons (pv 2) pa_nil)) pa_nil)) (pg_name (i := 7) sc_law.nd rfl (by first | exact Or.inl rfl | exact Or.inr rfl)) (pss_one (ps_if (pt_not (pt_val ((ok_law_right A).pe hr pass0 (pa_cons (pv 7) (pa_cons (pv 1) (pa_cons (pv 2) (pa_cons (pv 6) (pa_cons (pv 3) pa_nil)))))))) (pss_one (ps_ret pe_bl)) pss_nil)))))))
      (pss_one (ps_ret pe_bl))))), ?_⟩
    refine ⟨_, rfl, a, ns, rfl, hs, htb, fun t nl hl cs L H1 s1 ht w l ofr => ?_⟩
    refine ⟨t, _, rfl, SqT.of ht, rfl, _, _, rfl, _, _, rfl, rfl, ?_⟩
    intro md hmd
    have s2 : Same H1 (upd H1 md (.dT [])) := same_new hmd
    refine ⟨Nat.zero_le _, fun pl hpl => ?_⟩
    have s3 : Same (upd H1 md (.dT [])) (upd (upd H1 md (.dT [])) pl (.lst [])) := same_new hpl
    have s13 := s2.trans s3
    have s03 := s1.trans s13
    have hmd3 : upd (upd H1 md (.dT [])) pl (.lst []) md = some (.dT []) := s3 _ _ upd_same
    have l3 := l.wm (Wm.same (L := L) s13)
    have hmd0 : H md = none := s1.free hmd
    have hpl0 : H1 pl = none := s2.free hpl
    have sc3 : Scr K (upd (upd H1 md (.dT [])) pl (.lst [])) L a md pl (ns.map V.int) := by
      rcases hs with (h | ⟨od, h⟩) | h
      · exact .inl ⟨_, s03 _ _ h, .inl rfl, ofr a (fun z => nomatch (z.symm.trans h)), ne_of_none h hmd0, ne_of_none h (s1.free hpl0)⟩
      · exact .inl ⟨_, s03 _ _ h, .inr ⟨od, rfl⟩, ofr a (fun z => nomatch (z.symm.trans h)), ne_of_none h hmd0, ne_of_none h (s1.free hpl0)⟩
      · exact .inr h
    have ws3 : WS K CT cs [] 10 (upd (upd H1 md (.dT [])) pl (.lst [])) L nl hl md pl := ⟨w.same s13, l3, ⟨[], hmd3, rfl⟩, w.fresh hmd, ⟨[], upd_same, Nat.zero_le _, fun _ h => (nomatch h)⟩, w.fresh hpl0, ne_of_none l.n hpl0, ne_of_none l.h hpl0⟩
    have hlen : (ns.map V.int).length = ns.length := List.length_map _
    refine ⟨_, rfl, a, _, rfl, .inl sc3.sq, _, _, rfl, _, _, rfl, ⟨by decide, by decide, by split <;> omega, by split <;> omega⟩, ?_⟩
    refine for_range (lo := 4) (n := ((if (32 : Int) < ((ns.map V.int).length : Int) then 32 else ((ns.map V.int).length : Int)) - 4).toNat) (fun i σ' H' => ∃ (v5 v6 v7 : Option V) (ms : List Nm) (L' : HL), σ' = [some (.ref a), some (.ref nl), some (.ref hl), some (.ref md), some (.ref pl), v5, v6, v7, none] ∧ WS K CT cs ms (10 + 25500 * i) H' L' nl hl md pl ∧ ms.length ≤ i ∧ Scr K H' L' a md pl (ns.map V.int))
      ⟨none, none, none, [], L, rfl, ws3, Nat.le_refl _, sc3⟩ ?_ ?_
    · rintro i σ4 H4 hi ⟨v5, v6, v7, ms, L4, rfl, ws, hml, sc⟩
      have hi28 : i < 28 := by
        by_cases c : (32 : Int) < ((ns.map V.int).length : Int)
        · rw [if_pos c] at hi; omega
        · rw [if_neg c] at hi; omega
      have hin : 4 + i < ns.length := by
        by_cases c : (32 : Int) < ((ns.map V.int).length : Int)
        · rw [if_pos c] at hi; omega
        · rw [if_neg c] at hi; omega
      refine ⟨_, rfl, _, rfl, _, rfl, _, rfl, _, rfl, _, rfl, a, _, _, V.int ns[4 + i], rfl, rfl, sc.sq, ?_, _, rfl, cs, ms, 10 + 25500 * i, L4, nl, hl, md, pl, ns[4 + i], 4 + (i : Int), rfl, ws, by omega, by omega, by omega, by omega, fun ms5 L5 H5 x5 ws5 hm5 => ?_⟩
      · have := atI_nat (xs := ns.map V.int) (j := 4 + i) (v := V.int ns[4 + i]) (by rw [List.getElem?_map, List.getElem?_eq_getElem hin]; rfl)
        rwa [show ((4 + i : Nat) : Int) = 4 + (i : Int) by omega] at this
      have sc5 := sc.x x5
      have w5 := ws5.w
      have l5 := ws5.l
      obtain ⟨kvs5, hm51, hm52⟩ := ws5.m
      have nl4 := l5.l4
      -- what is taken
      refine ⟨_, rfl, hl, rfl, ⟨_, SqL.of l5.h⟩, fun D hD => lc_list (K := K) (a := hl) (xs := refsH L5) (fun j H' => ∃ TL : List (Addr × List (List Key × V)), Same H5 H' ∧ H' D = some (.lst (TL.map fun t => V.ref t.1)) ∧ TL.length = j ∧ ∀ (n : Nat) (e : Addr × Hd × Option In) (t : Addr × List (List Key × V)), L5[n]? = some e → TL[n]? = some t → H' t.1 = some (.dT t.2) ∧ t.1 ≠ md ∧ ∀ x : Nm, (valV t.2 (nmK x)).isSome = true ↔ x ∈ tks e.2.1.evs)
        ⟨[], same_new hD, upd_same, rfl, fun n e t _ h => (nomatch h)⟩ (fun j H' _ ⟨_, z, _⟩ => SqL.of (z _ _ l5.h)) ?_ ?_⟩
      · rintro j x H6 hx ⟨TL, s6, hD6, hTl, hT⟩
        have hj : j < L5.length := by
          have := (List.getElem?_eq_some_iff.mp hx).1
          rwa [refsH_len] at this
        have eE : L5[j]? = some L5[j] := List.getElem?_eq_getElem hj
        generalize L5[j] = e at eE
        have ex : x = .ref e.1 := by
          have := refsH_get eE
          rw [hx] at this
          exact Option.some.inj this
        subst ex
        have he := (w5.hk e (List.mem_of_getElem? eE)).same s6
        have hev := he.evl
        refine ⟨rfl, _, rfl, e.1, e.2.1.dx, _, rfl, he.c.ins, by kernel_rfl, e.1, e.2.1, rfl, he.c, fun q hq => ?_⟩
        have s7 := same_new (o := .lst (refsE e.2.1.evs)) hq
        refine ⟨q, e.2.1.evs, rfl, upd_same, he.c.evs.ext (.of s7), by omega, fun q2 kvs H8 hq2 s8 hq8 hkv => ?_⟩
        have s68 := s7.trans s8
        have hD8 := s68 _ _ hD6
        have nqD : q2 ≠ D := ne_of hq8 hD8 (by intro z; cases z)
        refine ⟨_, hD8, small6 (by rw [List.length_map]; omega), TL ++ [(q2, kvs)], same_set (s6.trans s68) hD, by rw [upd_same, List.map_append]; rfl, by rw [List.length_append, hTl]; rfl, fun n f t hf ht => ?_⟩
        by_cases hn : n < TL.length
        · rw [List.getElem?_append_left hn] at ht
          obtain ⟨g1, g2, g3⟩ := hT n f t hf ht
          have g1' := s68 _ _ g1
          exact ⟨by rw [upd_ne (ne_of g1' hD8 (by intro z; cases z))]; exact g1', g2, g3⟩
        · rw [List.getElem?_append_right (by omega)] at ht
          have en : n = TL.length := by
            have := (List.getElem?_eq_some_iff.mp ht).1
            simp at this; omega
          subst en
          rw [Nat.sub_self] at ht
          cases ht
          rw [hTl, eE] at hf
          cases hf
          refine ⟨by rw [upd_ne nqD]; exact hq8, fun z => ?_, hkv⟩
          have z : q2 = md := z
          rw [z] at hq2
          exact nomatch (hq2.symm.trans (s7 _ _ (s6 _ _ hm51)))
      rintro H6 ⟨TL, s6, hD6, hTl, hT⟩
      rw [refsH_len] at hTl
      have ws6 := ws5.same s6
      have sc6 := sc5.same s6
      refine ⟨_, rfl, hl, _, rfl, .inl (SqL.of ws6.l.h), _, rfl, by omega, by rw [refsH_len]; omega, for_range (lo := 0) (n := (refsH L5).length) (fun j σ' H' => ∃ v7 : Option V, σ' = [some (.ref a), some (.ref nl), some (.ref hl), some (.ref md), some (.ref pl), some (.int (4 + (i : Int))), some (.ref D), v7, none] ∧ Same H6 H') ⟨_, rfl, Same.refl _⟩ ?_ ?_⟩
      · rintro j σ7 H7 hj ⟨v7', rfl, s7⟩
        rw [refsH_len] at hj
        refine ⟨_, rfl, _, rfl, _, rfl, _, rfl, _, rfl, cs, ms5, 10 + 25500 * i + 25500, L5, nl, hl, md, pl, D, j, TL, congrArg (fun z => [V.int z, V.ref nl, V.ref hl, V.ref D, V.ref md]) (Int.zero_add _), ws6.same s7, hj, s7 _ _ hD6, hTl, fun n e t he ht => ?_, fun H8 s8 => ?_⟩
        · obtain ⟨g1, g2, g3⟩ := hT n e t he ht
          exact ⟨s7 _ _ g1, g2, g3⟩
        · exact ⟨_, rfl, iteF ⟨_, rfl, s7.trans s8⟩⟩
      · rintro σ7 H7 ⟨v7', rfl, s7⟩
        exact ⟨_, _, _, ms5, L5, rfl, (ws6.same s7).up (by omega), by omega, sc6.same s7⟩
    · rintro σ4 H4 ⟨v5, v6, v7, ms, L4, rfl, ws, hml, sc⟩
      exact k H4

end
end G
namespace G
open PySem PySem.Spec PyProof.Rows L2
theorem law_at {w : World} {mg : Str → Option Value} {a : Addr} {h : Heap} (Y : hk.says w h) (N : h.Ns mainGlobals mg) (e : mg ("law" : Str) = some (.ref a)) :
    ∃ K : PySem.W.Frag, K.In h ∧ LamX.LawAtS PySem.Challenge.rw_groupcall_k95_whole_let_go w K CX0 18 63 "_law_script" mg a h := by
  obtain ⟨K, KX, c⟩ := Y
  have d : He.SaysD fa fn K := He.SaysT.d c.t
  obtain ⟨fd, F⟩ := fu_law d
  have e2 : a = He.fAd K ("law", none) := by
    have z := e.symm.trans (gl_law KX N d)
    cases z
    rfl
  subst e2
  refine ⟨K, KX, fd, [He.cT K ("Hand", some "settle")], spLaw K (He.cT K ("Hand", some "settle")), fun p hp => ?_, fun p hp => ?_, fun p hp => ?_, ?_, fun H x ns hl _ hT hS => ?_, fun base X G T => ?_⟩
  · rw [List.mem_singleton.mp hp]; exact c.empty _ List.mem_cons_self
  · rw [List.mem_singleton.mp hp]; exact c.out _ List.mem_cons_self
  · rw [List.mem_singleton.mp hp]; exact PySem.W.codeHd_of_K KX (c.hd _ List.mem_cons_self)
  · have b := FunD.bindsA (ps := ["_law_script"]) F fun _ _ _ _ _ _ us hl => match us, hl with | [_], _ => rfl
    exact fun s v => b s [v] rfl
  · exact ⟨x, ns, rfl, hS, NdefX.TabN.nil (hT _ List.mem_cons_self), by omega, fun _ => rfl⟩
  · exact fn_law ⟨X, G, d, c.more, rfl, T _ List.mem_cons_self⟩ F
end G
open PySem PySem.W PySem.Calls PyProof.Rows
theorem PySem.Challenge.cw_groupcall_k95_whole_let_go_holds : PySem.Challenge.rw_groupcall_k95_whole_let_go.Holds := by
  w_on; o_law
  refine HandSHeadRun.head_any (r := OpenLaw.row PySem.Challenge.rw_groupcall_k95_whole_let_go) (q := view (OpenLaw.row PySem.Challenge.rw_groupcall_k95_whole_let_go).prog [76]) (H := G.hk) (ob := G.ob) (M := 20000) (loose := G.loose) (d := HandSHeadRun.topDef (OpenLaw.row PySem.Challenge.rw_groupcall_k95_whole_let_go).prog 76) (kwd := []) G.ob_eq
    (by kernel_rfl) (fun s => by kernel_rfl) G.run (by kernel_rfl) (by kernel_rfl) (by kernel_rfl) (by rfl) (by first | assumption | decide +kernel) (by decide +kernel) ⟨rfl, rfl, rfl, rfl, rfl, by decide +kernel⟩ ?hw ?hc
  case hw => w_witness2
  case hc =>
    refine LamX.walk_ofTsE (l := PySem.Challenge.rw_groupcall_k95_whole_let_go) (n := 63) (k := 18) (x := "_law_script") (CX := fun _ => L2.CX0) rfl (by decide) (by kernel_rfl) ⟨rfl, by decide, by decide⟩ ?F (fun _ _ _ _ _ z => z)
    intro w mg a h Y N e0
    have e : (HandSHeadRun.topDef (OpenLaw.row PySem.Challenge.rw_groupcall_k95_whole_let_go).prog 76).name = ("law" : PySem.Str) := by kernel_rfl
    rw [e] at e0
    exact G.law_at Y N e0
