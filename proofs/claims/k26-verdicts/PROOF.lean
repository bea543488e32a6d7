import PyProof.Rows.All
import Wide.All
import OpenK.AllK
import Wide.FinOn
import HandS.ForMost
import HandS.ForExc
import HandS.Property
import HandS.Lambda
import HandS.HeadWalk
import HandS.HeadHook4
import HandS.HeadNt
import HandS.Head2
import HandS.HeadEnd
import HandS.ExcInit
import HandS.ExcField
import PySem.Challenge.RW_ownchute_k26_whole_verdicts_against_runs
import HandS.TupMul
import HandS.List
import HandS.Style
import KE.KTupSum
import KE.KRevSl
import HandS.Iter
import KE.GoesMore
import HandS.TupAny
import HandS.Walk
import HandS.IsInst
import HandS.Star
import HandS.WrittenGet
import HandS.SortInts
import HandS.Zip
import HandS.Small
import HandS.Codes
import HandS.More
import OpenK.KEqL
import HandS.WordsDict
import KE.KDictDisplayH
import KE.KeyNested
import HandS.Conv
import HandS.Dict
import HandS.MakeKwOnly
import OpenK.KOps
import KE.KAssignIn
import HandS.Finally
import HandS.WordsExc
import HandS.HotCalls
import HandS.Defaults
import HandS.GenList
import KE.DataFind
set_option Elab.async false
set_option linter.all false
set_option maxRecDepth 100000
set_option maxHeartbeats 4000000
namespace Ow
open PySem PySem.Spec PyProof.Rows L2
/-! ### the text by places -/
def top (i : Nat) : Stmt := PySem.Challenge.pw_ownchute_k26_whole_verdicts_against_runs.main.body.getD i (.Pass ⟨0, 0, 0, 0⟩)
abbrev s_is_number : Stmt := top 17
abbrev s_is_word : Stmt := top 18
abbrev s_is_deed : Stmt := top 21
abbrev s_start : Stmt := top 28
abbrev s_has_room : Stmt := top 29
abbrev s_is_possible : Stmt := top 30
abbrev s_appended : Stmt := top 31
abbrev s_taken_by_eye : Stmt := top 32
abbrev s_taken_by_scanner : Stmt := top 33
abbrev s_come : Stmt := top 34
abbrev s_passed : Stmt := top 35
abbrev s_moved : Stmt := top 36
abbrev s_codes_of : Stmt := top 37
abbrev s_place_of : Stmt := top 38
abbrev s_state_of : Stmt := top 39
abbrev s_word_of_sending : Stmt := top 40
abbrev s_first_place : Stmt := top 43
abbrev s_all_deeds : Stmt := top 44
abbrev s_deeds_at : Stmt := top 45
abbrev s_behind : Stmt := top 46
abbrev s_need_most : Stmt := top 47
abbrev s_is_astray : Stmt := top 49
abbrev s_judged : Stmt := top 53
abbrev s_is_stretch : Stmt := top 58
abbrev s_is_slips : Stmt := top 59
abbrev s_need_chute : Stmt := top 77
abbrev s__law_bag : Stmt := top 80
abbrev s__law_draw : Stmt := top 81
abbrev s__law_of : Stmt := top 82
abbrev s__law_same : Stmt := top 83
abbrev s__law_field : Stmt := top 84
abbrev s__law_got : Stmt := top 85
abbrev s__law_slip_words : Stmt := top 86
abbrev s__law_planned : Stmt := top 87
abbrev s__law_small : Stmt := top 88
abbrev s__law_made_line : Stmt := top 89
abbrev s__law_made_tracker : Stmt := top 90
abbrev s__law_made_plant : Stmt := top 91
abbrev s__law_begun : Stmt := top 92
abbrev s__law_late_slips : Stmt := top 93
abbrev s__law_can : Stmt := top 94
abbrev s__law_add : Stmt := top 95
abbrev s__law_see : Stmt := top 96
abbrev s__law_do : Stmt := top 97
abbrev s__law_all_deeds : Stmt := top 98
abbrev s__law_deeds : Stmt := top 99
abbrev s__law_walk : Stmt := top 100
abbrev s_law : Stmt := top 101
abbrev s_Verdict_word : Stmt := inClass (top 50) 1
abbrev s_Safe___init__ : Stmt := inClass (top 51) 1
abbrev s_Astray___init__ : Stmt := inClass (top 52) 1
abbrev s_Astray_flow : Stmt := inClass (top 52) 2
abbrev s_Line___init__ : Stmt := inClass (top 60) 1
abbrev s_Line_belts : Stmt := inClass (top 60) 2
abbrev s_Line_words : Stmt := inClass (top 60) 4
abbrev s_Line_slips : Stmt := inClass (top 60) 5
abbrev s_Line_stretch : Stmt := inClass (top 60) 6
abbrev s_Line_last : Stmt := inClass (top 60) 7
abbrev s_Line_is_scanner : Stmt := inClass (top 60) 8
abbrev s_Tracker___init__ : Stmt := inClass (top 67) 1
abbrev s_Tracker_rooms : Stmt := inClass (top 67) 2
abbrev s_Tracker_seek : Stmt := inClass (top 67) 3
abbrev s_Tracker_empty : Stmt := inClass (top 67) 4
abbrev s_Tracker_strange : Stmt := inClass (top 67) 5
abbrev s_Tracker_pause : Stmt := inClass (top 67) 6
abbrev s_Plant___init__ : Stmt := inClass (top 73) 0
abbrev s_Plant_line : Stmt := inClass (top 73) 1
abbrev s_Plant_tracker : Stmt := inClass (top 73) 2
abbrev s_Run___init__ : Stmt := inClass (top 78) 0
abbrev s_Run_take : Stmt := inClass (top 78) 4
abbrev s_Run_do : Stmt := inClass (top 78) 6
abbrev s_Run_chute_of : Stmt := inClass (top 78) 10
abbrev s_Run_sendings : Stmt := inClass (top 78) 15
abbrev s_Run_astray : Stmt := inClass (top 78) 16
abbrev s_Run___len__ : Stmt := inClass (top 78) 22
abbrev s_TooMany___init__ : Stmt := inClass (top 12) 0
/-! ### the head's facts -/
def d_is_number : He.DefD := ⟨("is_number", none), "is_number", "is_number", defArgs s_is_number, defBody s_is_number, defScope s_is_number, [], []⟩
def d_is_word : He.DefD := ⟨("is_word", none), "is_word", "is_word", defArgs s_is_word, defBody s_is_word, defScope s_is_word, [], []⟩
def d_is_deed : He.DefD := ⟨("is_deed", none), "is_deed", "is_deed", defArgs s_is_deed, defBody s_is_deed, defScope s_is_deed, [], []⟩
def d_start : He.DefD := ⟨("start", none), "start", "start", defArgs s_start, defBody s_start, defScope s_start, [], []⟩
def d_has_room : He.DefD := ⟨("has_room", none), "has_room", "has_room", defArgs s_has_room, defBody s_has_room, defScope s_has_room, [], []⟩
def d_is_possible : He.DefD := ⟨("is_possible", none), "is_possible", "is_possible", defArgs s_is_possible, defBody s_is_possible, defScope s_is_possible, [], []⟩
def d_appended : He.DefD := ⟨("appended", none), "appended", "appended", defArgs s_appended, defBody s_appended, defScope s_appended, [], []⟩
def d_taken_by_eye : He.DefD := ⟨("taken_by_eye", none), "taken_by_eye", "taken_by_eye", defArgs s_taken_by_eye, defBody s_taken_by_eye, defScope s_taken_by_eye, [], []⟩
def d_taken_by_scanner : He.DefD := ⟨("taken_by_scanner", none), "taken_by_scanner", "taken_by_scanner", defArgs s_taken_by_scanner, defBody s_taken_by_scanner, defScope s_taken_by_scanner, [], []⟩
def d_come : He.DefD := ⟨("come", none), "come", "come", defArgs s_come, defBody s_come, defScope s_come, [], []⟩
def d_passed : He.DefD := ⟨("passed", none), "passed", "passed", defArgs s_passed, defBody s_passed, defScope s_passed, [], []⟩
def d_moved : He.DefD := ⟨("moved", none), "moved", "moved", defArgs s_moved, defBody s_moved, defScope s_moved, [], []⟩
def d_codes_of : He.DefD := ⟨("codes_of", none), "codes_of", "codes_of", defArgs s_codes_of, defBody s_codes_of, defScope s_codes_of, [], []⟩
def d_place_of : He.DefD := ⟨("place_of", none), "place_of", "place_of", defArgs s_place_of, defBody s_place_of, defScope s_place_of, [], []⟩
def d_state_of : He.DefD := ⟨("state_of", none), "state_of", "state_of", defArgs s_state_of, defBody s_state_of, defScope s_state_of, [], []⟩
def d_word_of_sending : He.DefD := ⟨("word_of_sending", none), "word_of_sending", "word_of_sending", defArgs s_word_of_sending, defBody s_word_of_sending, defScope s_word_of_sending, [], []⟩
def d_first_place : He.DefD := ⟨("first_place", none), "first_place", "first_place", defArgs s_first_place, defBody s_first_place, defScope s_first_place, [], []⟩
def d_all_deeds : He.DefD := ⟨("all_deeds", none), "all_deeds", "all_deeds", defArgs s_all_deeds, defBody s_all_deeds, defScope s_all_deeds, [], []⟩
def d_deeds_at : He.DefD := ⟨("deeds_at", none), "deeds_at", "deeds_at", defArgs s_deeds_at, defBody s_deeds_at, defScope s_deeds_at, [], []⟩
def d_behind : He.DefD := ⟨("behind", none), "behind", "behind", defArgs s_behind, defBody s_behind, defScope s_behind, [], []⟩
def d_need_most : He.DefD := ⟨("need_most", none), "need_most", "need_most", defArgs s_need_most, defBody s_need_most, defScope s_need_most, [], []⟩
def d_is_astray : He.DefD := ⟨("is_astray", none), "is_astray", "is_astray", defArgs s_is_astray, defBody s_is_astray, defScope s_is_astray, [], []⟩
def d_judged : He.DefD := ⟨("judged", none), "judged", "judged", defArgs s_judged, defBody s_judged, defScope s_judged, [], [("strict", .bl false), ("most", .int 5000)]⟩
def d_is_stretch : He.DefD := ⟨("is_stretch", none), "is_stretch", "is_stretch", defArgs s_is_stretch, defBody s_is_stretch, defScope s_is_stretch, [], []⟩
def d_is_slips : He.DefD := ⟨("is_slips", none), "is_slips", "is_slips", defArgs s_is_slips, defBody s_is_slips, defScope s_is_slips, [], []⟩
def d_need_chute : He.DefD := ⟨("need_chute", none), "need_chute", "need_chute", defArgs s_need_chute, defBody s_need_chute, defScope s_need_chute, [], []⟩
def d__law_bag : He.DefD := ⟨("_law_bag", none), "_law_bag", "_law_bag", defArgs s__law_bag, defBody s__law_bag, defScope s__law_bag, [], []⟩
def d__law_draw : He.DefD := ⟨("_law_draw", none), "_law_draw", "_law_draw", defArgs s__law_draw, defBody s__law_draw, defScope s__law_draw, [], []⟩
def d__law_of : He.DefD := ⟨("_law_of", none), "_law_of", "_law_of", defArgs s__law_of, defBody s__law_of, defScope s__law_of, [], []⟩
def d__law_same : He.DefD := ⟨("_law_same", none), "_law_same", "_law_same", defArgs s__law_same, defBody s__law_same, defScope s__law_same, [], []⟩
def d__law_field : He.DefD := ⟨("_law_field", none), "_law_field", "_law_field", defArgs s__law_field, defBody s__law_field, defScope s__law_field, [], []⟩
def d__law_got : He.DefD := ⟨("_law_got", none), "_law_got", "_law_got", defArgs s__law_got, defBody s__law_got, defScope s__law_got, [], []⟩
def d__law_slip_words : He.DefD := ⟨("_law_slip_words", none), "_law_slip_words", "_law_slip_words", defArgs s__law_slip_words, defBody s__law_slip_words, defScope s__law_slip_words, [], []⟩
def d__law_planned : He.DefD := ⟨("_law_planned", none), "_law_planned", "_law_planned", defArgs s__law_planned, defBody s__law_planned, defScope s__law_planned, [], []⟩
def d__law_small : He.DefD := ⟨("_law_small", none), "_law_small", "_law_small", defArgs s__law_small, defBody s__law_small, defScope s__law_small, [], []⟩
def d__law_made_line : He.DefD := ⟨("_law_made_line", none), "_law_made_line", "_law_made_line", defArgs s__law_made_line, defBody s__law_made_line, defScope s__law_made_line, [], []⟩
def d__law_made_tracker : He.DefD := ⟨("_law_made_tracker", none), "_law_made_tracker", "_law_made_tracker", defArgs s__law_made_tracker, defBody s__law_made_tracker, defScope s__law_made_tracker, [], []⟩
def d__law_made_plant : He.DefD := ⟨("_law_made_plant", none), "_law_made_plant", "_law_made_plant", defArgs s__law_made_plant, defBody s__law_made_plant, defScope s__law_made_plant, [], []⟩
def d__law_begun : He.DefD := ⟨("_law_begun", none), "_law_begun", "_law_begun", defArgs s__law_begun, defBody s__law_begun, defScope s__law_begun, [], []⟩
def d__law_late_slips : He.DefD := ⟨("_law_late_slips", none), "_law_late_slips", "_law_late_slips", defArgs s__law_late_slips, defBody s__law_late_slips, defScope s__law_late_slips, [], []⟩
def d__law_can : He.DefD := ⟨("_law_can", none), "_law_can", "_law_can", defArgs s__law_can, defBody s__law_can, defScope s__law_can, [], []⟩
def d__law_add : He.DefD := ⟨("_law_add", none), "_law_add", "_law_add", defArgs s__law_add, defBody s__law_add, defScope s__law_add, [], []⟩
def d__law_see : He.DefD := ⟨("_law_see", none), "_law_see", "_law_see", defArgs s__law_see, defBody s__law_see, defScope s__law_see, [], []⟩
def d__law_do : He.DefD := ⟨("_law_do", none), "_law_do", "_law_do", defArgs s__law_do, defBody s__law_do, defScope s__law_do, [], []⟩
def d__law_all_deeds : He.DefD := ⟨("_law_all_deeds", none), "_law_all_deeds", "_law_all_deeds", defArgs s__law_all_deeds, defBody s__law_all_deeds, defScope s__law_all_deeds, [], []⟩
def d__law_deeds : He.DefD := ⟨("_law_deeds", none), "_law_deeds", "_law_deeds", defArgs s__law_deeds, defBody s__law_deeds, defScope s__law_deeds, [], []⟩
def d__law_walk : He.DefD := ⟨("_law_walk", none), "_law_walk", "_law_walk", defArgs s__law_walk, defBody s__law_walk, defScope s__law_walk, [], []⟩
def d_law : He.DefD := ⟨("law", none), "law", "law", defArgs s_law, defBody s_law, defScope s_law, [], []⟩
def d_Safe___init__ : He.DefD := ⟨("Safe", some "__init__"), "__init__", "Safe.__init__", defArgs s_Safe___init__, defBody s_Safe___init__, defScope s_Safe___init__, [], []⟩
def d_Astray___init__ : He.DefD := ⟨("Astray", some "__init__"), "__init__", "Astray.__init__", defArgs s_Astray___init__, defBody s_Astray___init__, defScope s_Astray___init__, [], []⟩
def d_Astray_flow : He.DefD := ⟨("Astray", some "flow"), "flow", "Astray.flow", defArgs s_Astray_flow, defBody s_Astray_flow, defScope s_Astray_flow, [], []⟩
def d_Line___init__ : He.DefD := ⟨("Line", some "__init__"), "__init__", "Line.__init__", defArgs s_Line___init__, defBody s_Line___init__, defScope s_Line___init__, [], []⟩
def d_Line_belts : He.DefD := ⟨("Line", some "belts"), "belts", "Line.belts", defArgs s_Line_belts, defBody s_Line_belts, defScope s_Line_belts, [], []⟩
def d_Line_words : He.DefD := ⟨("Line", some "words"), "words", "Line.words", defArgs s_Line_words, defBody s_Line_words, defScope s_Line_words, [], []⟩
def d_Line_is_scanner : He.DefD := ⟨("Line", some "is_scanner"), "is_scanner", "Line.is_scanner", defArgs s_Line_is_scanner, defBody s_Line_is_scanner, defScope s_Line_is_scanner, [], []⟩
def d_Tracker___init__ : He.DefD := ⟨("Tracker", some "__init__"), "__init__", "Tracker.__init__", defArgs s_Tracker___init__, defBody s_Tracker___init__, defScope s_Tracker___init__, [], []⟩
def d_Tracker_rooms : He.DefD := ⟨("Tracker", some "rooms"), "rooms", "Tracker.rooms", defArgs s_Tracker_rooms, defBody s_Tracker_rooms, defScope s_Tracker_rooms, [], []⟩
def d_Plant___init__ : He.DefD := ⟨("Plant", some "__init__"), "__init__", "Plant.__init__", defArgs s_Plant___init__, defBody s_Plant___init__, defScope s_Plant___init__, [], []⟩
def d_Run___init__ : He.DefD := ⟨("Run", some "__init__"), "__init__", "Run.__init__", defArgs s_Run___init__, defBody s_Run___init__, defScope s_Run___init__, [], []⟩
def d_Run_take : He.DefD := ⟨("Run", some "take"), "take", "Run.take", defArgs s_Run_take, defBody s_Run_take, defScope s_Run_take, [], []⟩
def d_Run_do : He.DefD := ⟨("Run", some "do"), "do", "Run.do", defArgs s_Run_do, defBody s_Run_do, defScope s_Run_do, [], [("chute", .int 1)]⟩
def d_Run_chute_of : He.DefD := ⟨("Run", some "chute_of"), "chute_of", "Run.chute_of", defArgs s_Run_chute_of, defBody s_Run_chute_of, defScope s_Run_chute_of, [], []⟩
def d_Run_sendings : He.DefD := ⟨("Run", some "sendings"), "sendings", "Run.sendings", defArgs s_Run_sendings, defBody s_Run_sendings, defScope s_Run_sendings, [], []⟩
def d_Run_astray : He.DefD := ⟨("Run", some "astray"), "astray", "Run.astray", defArgs s_Run_astray, defBody s_Run_astray, defScope s_Run_astray, [], []⟩
def d_Run___len__ : He.DefD := ⟨("Run", some "__len__"), "__len__", "Run.__len__", defArgs s_Run___len__, defBody s_Run___len__, defScope s_Run___len__, [], []⟩
def d_TooMany___init__ : He.DefD := ⟨("TooMany", some "__init__"), "__init__", "TooMany.__init__", defArgs s_TooMany___init__, defBody s_TooMany___init__, defScope s_TooMany___init__, [], []⟩
def d_Verdict_word : He5.DefA := ⟨fun K => He5.wf K (He.ga K "Verdict") "property" "word", "word", "Verdict.word", defArgs s_Verdict_word, defBody s_Verdict_word, defScope s_Verdict_word, [], []⟩
def d_Line_slips : He5.DefA := ⟨fun K => He5.wf K (He.ga K "Line") "property" "slips", "slips", "Line.slips", defArgs s_Line_slips, defBody s_Line_slips, defScope s_Line_slips, [], []⟩
def d_Line_stretch : He5.DefA := ⟨fun K => He5.wf K (He.ga K "Line") "property" "stretch", "stretch", "Line.stretch", defArgs s_Line_stretch, defBody s_Line_stretch, defScope s_Line_stretch, [], []⟩
def d_Line_last : He5.DefA := ⟨fun K => He5.wf K (He.ga K "Line") "property" "last", "last", "Line.last", defArgs s_Line_last, defBody s_Line_last, defScope s_Line_last, [], []⟩
def d_Tracker_seek : He5.DefA := ⟨fun K => He5.wf K (He.ga K "Tracker") "property" "seek", "seek", "Tracker.seek", defArgs s_Tracker_seek, defBody s_Tracker_seek, defScope s_Tracker_seek, [], []⟩
def d_Tracker_empty : He5.DefA := ⟨fun K => He5.wf K (He.ga K "Tracker") "property" "empty", "empty", "Tracker.empty", defArgs s_Tracker_empty, defBody s_Tracker_empty, defScope s_Tracker_empty, [], []⟩
def d_Tracker_strange : He5.DefA := ⟨fun K => He5.wf K (He.ga K "Tracker") "property" "strange", "strange", "Tracker.strange", defArgs s_Tracker_strange, defBody s_Tracker_strange, defScope s_Tracker_strange, [], []⟩
def d_Tracker_pause : He5.DefA := ⟨fun K => He5.wf K (He.ga K "Tracker") "property" "pause", "pause", "Tracker.pause", defArgs s_Tracker_pause, defBody s_Tracker_pause, defScope s_Tracker_pause, [], []⟩
def d_Plant_line : He5.DefA := ⟨fun K => He5.wf K (He.ga K "Plant") "property" "line", "line", "Plant.line", defArgs s_Plant_line, defBody s_Plant_line, defScope s_Plant_line, [], []⟩
def d_Plant_tracker : He5.DefA := ⟨fun K => He5.wf K (He.ga K "Plant") "property" "tracker", "tracker", "Plant.tracker", defArgs s_Plant_tracker, defBody s_Plant_tracker, defScope s_Plant_tracker, [], []⟩
def fa0 : List He.Fa := [.glo "is_number", .glo "is_word", .glo "is_deed", .glo "start", .glo "has_room", .glo "is_possible", .glo "appended", .glo "taken_by_eye", .glo "taken_by_scanner", .glo "come", .glo "passed", .glo "moved", .glo "codes_of", .glo "place_of", .glo "state_of", .glo "word_of_sending", .glo "first_place", .glo "all_deeds", .glo "deeds_at", .glo "behind", .glo "need_most", .glo "is_astray", .glo "judged", .glo "is_stretch", .glo "is_slips", .glo "need_chute", .glo "_law_bag", .glo "_law_draw", .glo "_law_of", .glo "_law_same"]
def fa1 : List He.Fa := [.glo "_law_field", .glo "_law_got", .glo "_law_slip_words", .glo "_law_planned", .glo "_law_small", .glo "_law_made_line", .glo "_law_made_tracker", .glo "_law_made_plant", .glo "_law_begun", .glo "_law_late_slips", .glo "_law_can", .glo "_law_add", .glo "_law_see", .glo "_law_do", .glo "_law_all_deeds", .glo "_law_deeds", .glo "_law_walk", .glo "law", .glo "Safe", .glo "Astray", .glo "Line", .glo "Tracker", .glo "Plant", .glo "Run", .glo "TooMany", .glo "BeltError", .glo "Missing", .glo "NothingLeft", .glo "WAYS_OF_SEEING", .glo "SLIP_WORDS"]
def fa2 : List He.Fa := [.glo "EMPTY_WORDS", .glo "STRANGE_WORDS", .glo "PAUSE_WORDS", .glo "TIMES", .int "BLANK" (-2), .int "NO_SWAP" (-2), .int "GONE" (-1), .int "FRESH" (-9), .int "MOST_PLACES" (20000), .int "MOST_BELTS" (3), .int "MOST_STRETCH" (12), .int "MOST_QUEUES" (3), .int "MOST_ROOM" (4), .free "isinstance", .free "len", .free "range", .free "enumerate", .free "sorted", .free "list", .free "tuple", .free "min", .free "sum", .free "all", .free "zip", .free "int", .free "bool", .free "str", .free "ValueError", .cls "Safe", .noat "Safe" "own_places"]
def fa3 : List He.Fa := [.mkr "Safe", .meth "Safe" "__init__", .cls "Astray", .noat "Astray" "own_flow", .mkr "Astray", .meth "Astray" "__init__", .meth "Astray" "flow", .cls "Line", .noat "Line" "own_belts", .noat "Line" "own_scans", .noat "Line" "own_slips", .noat "Line" "own_words", .noat "Line" "own_stretch", .mkr "Line", .meth "Line" "__init__", .meth "Line" "belts", .meth "Line" "words", .meth "Line" "is_scanner", .cls "Tracker", .noat "Tracker" "own_rooms", .noat "Tracker" "own_seek", .noat "Tracker" "own_rules", .mkr "Tracker", .meth "Tracker" "__init__", .meth "Tracker" "rooms", .cls "Plant", .noat "Plant" "own_line", .noat "Plant" "own_tracker", .mkr "Plant", .meth "Plant" "__init__"]
def fa4 : List He.Fa := [.cls "Run", .noat "Run" "own_plant", .noat "Run" "steps", .noat "Run" "undone", .noat "Run" "state", .noat "Run" "chutes", .noat "Run" "sent", .noat "Run" "is_held", .mkr "Run", .meth "Run" "__init__", .meth "Run" "take", .meth "Run" "do", .meth "Run" "chute_of", .meth "Run" "sendings", .meth "Run" "astray", .meth "Run" "__len__", .exm "TooMany" "BeltError" true, .exm "TooMany" "Missing" false, .exm "TooMany" "NothingLeft" false, .noat "TooMany" "code", .noat "TooMany" "most", .meth "TooMany" "__init__"]
def fa : List He.Fa := fa0 ++ fa1 ++ fa2 ++ fa3 ++ fa4
def fn0 : List He.DefD := [d_is_number, d_is_word, d_is_deed, d_start, d_has_room, d_is_possible, d_appended, d_taken_by_eye, d_taken_by_scanner, d_come, d_passed, d_moved, d_codes_of, d_place_of, d_state_of, d_word_of_sending, d_first_place, d_all_deeds, d_deeds_at, d_behind, d_need_most, d_is_astray, d_judged, d_is_stretch, d_is_slips, d_need_chute, d__law_bag, d__law_draw, d__law_of, d__law_same]
def fn1 : List He.DefD := [d__law_field, d__law_got, d__law_slip_words, d__law_planned, d__law_small, d__law_made_line, d__law_made_tracker, d__law_made_plant, d__law_begun, d__law_late_slips, d__law_can, d__law_add, d__law_see, d__law_do, d__law_all_deeds, d__law_deeds, d__law_walk, d_law, d_Safe___init__, d_Astray___init__, d_Astray_flow, d_Line___init__, d_Line_belts, d_Line_words, d_Line_is_scanner, d_Tracker___init__, d_Tracker_rooms, d_Plant___init__, d_Run___init__, d_Run_take]
def fn2 : List He.DefD := [d_Run_do, d_Run_chute_of, d_Run_sendings, d_Run_astray, d_Run___len__, d_TooMany___init__]
def fn : List He.DefD := fn0 ++ fn1 ++ fn2
def fg0 : List He5.DefA := [d_Verdict_word, d_Line_slips, d_Line_stretch, d_Line_last, d_Tracker_seek, d_Tracker_empty, d_Tracker_strange, d_Tracker_pause, d_Plant_line, d_Plant_tracker]
def fg : List He5.DefA := fg0
def propB (K : PySem.W.Frag) (C : Addr) (f : Str) : Bool := He.eqO (PySem.W.findIn K (.ref C) f) (some (some (.ref (He.ma K C f)))) && (He.eqO (PySem.W.specialIn K (.ref (He.ma K C f)) "__get__") (some (some (.builtin "property.__get__"))) && (decide (PySem.W.takesIn K (.ref (He.ma K C f)) = some true) && (match PySem.W.recIn K (He.ma K C f) "property" with
    | some (.ref g :: _) => decide (g = He5.wf K C "property" f)
    | _ => false)))
theorem propB_ok {K : PySem.W.Frag} {C : Addr} {f : Str} (h : propB K C f = true) : PropOf K C f (He.ma K C f) (He5.wf K C "property" f) := by
  obtain ⟨h1, h⟩ := He.ba h
  obtain ⟨h2, h⟩ := He.ba h
  obtain ⟨h3, h4⟩ := He.ba h
  refine ⟨He.eqO_ok h1, He.eqO_ok h2, of_decide_eq_true h3, ?_⟩
  split at h4
  · rename_i g r e
    rw [of_decide_eq_true h4] at e
    exact ⟨r, e⟩
  · cases h4
def oexB (K : PySem.W.Frag) (C : Addr) : Bool := match K.lookup C with
  | some ⟨.type t, _, .cls cd, sl⟩ => decide (t = "type") && (match cd.mro, sl.toList with
    | .ref C2 :: bm, [_, _, _, _, some (.builtin n), _] => decide (C2 = C) && (decide (n = "ValueError.__new__") && (!cd.hasDel && (cd.hasDict && PySem.HandSPX.refsVE bm)))
    | _, _ => false)
  | _ => false
theorem oexB_ok {K : PySem.W.Frag} {C : Addr} (h : oexB K C = true) : ∃ nm q N bs bm sn sub ab col dd k0 k1 k2 k3 k5, K.lookup C = some (excClassObj nm q C N bs bm true sn sub ab col dd k0 k1 k2 k3 k5 "ValueError.__new__") ∧ PySem.HandSPX.refsVE bm = true := by
  unfold oexB at h
  split at h
  · rename_i t dd cd sl e
    obtain ⟨ht, h⟩ := He.ba h
    split at h
    · rename_i C2 bm k0 k1 k2 k3 n k5 e1 e2
      obtain ⟨h1, h⟩ := He.ba h
      obtain ⟨h2, h⟩ := He.ba h
      obtain ⟨h3, h⟩ := He.ba h
      obtain ⟨h4, h5⟩ := He.ba h
      obtain ⟨nm, bs, mro, ns, qn, hd, sn, sb, ab, col, del⟩ := cd
      dsimp only at e1 h3 h4
      subst e1
      have ht' := of_decide_eq_true ht
      have h1' := of_decide_eq_true h1
      have h2' := of_decide_eq_true h2
      subst ht' h1' h2'
      have e3 : sl = #[k0, k1, k2, k3, some (.builtin "ValueError.__new__"), k5] := by
        rw [← Array.toArray_toList (xs := sl), e2]
      have e4 : hd = true := h4
      have e5 : del = false := by
        cases del
        · rfl
        · cases h3
      subst e3 e4 e5
      exact ⟨nm, qn, ns, bs, bm, sn, sb, ab, col, dd, k0, k1, k2, k3, k5, e, h5⟩
    · cases h
  · cases h
def oexM (K : PySem.W.Frag) (C : Addr) : Bool := oexB K C && (decide (PySem.W.findIn K (.ref C) "__setattr__" = some (some (.builtin "object.__setattr__"))) && (decide (PySem.W.subIn K (.ref C) (.type "BaseException") = some true) && (decide (PySem.W.typeIn K (.ref C) = some (.type "type")) && PySem.W.keepIn K (.ref C))))
theorem oexM_ok {K : PySem.W.Frag} {C : Addr} (h : oexM K C = true) : OexC K C := by
  obtain ⟨h1, h⟩ := He.ba h
  obtain ⟨h2, h⟩ := He.ba h
  obtain ⟨h3, h⟩ := He.ba h
  obtain ⟨h4, h5⟩ := He.ba h
  exact ⟨oexB_ok h1, of_decide_eq_true h2, of_decide_eq_true h3, of_decide_eq_true h4, h5⟩
def exs : List (PySem.W.Frag → Bool) := [fun K => He.tupB K "WAYS_OF_SEEING" [.str "once", .str "missed", .str "twice", .str "swapped"], fun K => He.tupB K "SLIP_WORDS" [.str "missed", .str "twice", .str "swapped"], fun K => He.tupB K "EMPTY_WORDS" [.str "blank", .str "none"], fun K => He.tupB K "STRANGE_WORDS" [.str "first", .str "none"], fun K => He.tupB K "PAUSE_WORDS" [.str "clear", .str "keep"], fun K => He.valsB K (He.ga K "TIMES") [("once", .int 1), ("missed", .int 0), ("twice", .int 2), ("swapped", .int 0)], fun K => He.conB K "Safe" "WORD" (.str "safe"), fun K => He.conB K "Astray" "WORD" (.str "astray"), fun K => propB K (He.ga K "Safe") "word", fun K => propB K (He.ga K "Astray") "word", fun K => decide (He5.wf K (He.ga K "Safe") "property" "word" = He5.wf K (He.ga K "Verdict") "property" "word"), fun K => decide (He5.wf K (He.ga K "Astray") "property" "word" = He5.wf K (He.ga K "Verdict") "property" "word"), fun K => propB K (He.ga K "Line") "slips", fun K => propB K (He.ga K "Line") "stretch", fun K => propB K (He.ga K "Line") "last", fun K => propB K (He.ga K "Tracker") "seek", fun K => propB K (He.ga K "Tracker") "empty", fun K => propB K (He.ga K "Tracker") "strange", fun K => propB K (He.ga K "Tracker") "pause", fun K => propB K (He.ga K "Plant") "line", fun K => propB K (He.ga K "Plant") "tracker", fun K => oexM K (He.ga K "TooMany"), fun K => xfB K (He.ga K "TooMany")]
def ex (K : PySem.W.Frag) : Bool := exs.all fun f => f K
/-! ### the Hook -/
def valsAt (g : Addr → Option Obj) (a : Addr) : List Addr := match g a with
  | some ⟨_, _, .dict es _, _⟩ => es.toList.flatMap fun e => He.refV e.val
  | _ => []
def nextAt (g : Addr → Option Obj) (a : Addr) : List Addr := match g a with
  | some ⟨_, _, .func fd, _⟩ => He.refV fd.code ++ He.refV fd.kwdefaults
  | some ⟨_, _, .cls cd, _⟩ => [cd.ns]
  | some ⟨.type t, _, .fields vs, _⟩ => (match decide (t = "property") with
    | true => vs.toList.flatMap He.refV
    | false => [])
  | _ => []
def asO (g : Addr → Option Obj) : List Addr :=
  let a1 := valsAt g mainGlobals
  let a2 := a1.flatMap (nextAt g)
  let a3 := a2.flatMap (valsAt g)
  let a4 := a3.flatMap (nextAt g)
  mainGlobals :: (a1 ++ (a2 ++ (a3 ++ (a4 ++ a4.flatMap (nextAt g)))))
abbrev lawP : He.Defn := ("law", none)
def lawTab (K : PySem.W.Frag) : Addr × Addr := He.cT K lawP
def tabB (g : Addr → Option Obj) (K : PySem.W.Frag) : Bool := PySem.W.codeHdIn K (lawTab K).1 (lawTab K).2 && ((K.lookup (lawTab K).2).isNone && (match g (lawTab K).2 with
  | some o => He.emptyTab o
  | none => false))
abbrev AlO : Type := He.AlD × He.AlD × Option (List (Option (Str × Int))) × Bool
def obsK (g : Addr → Option Obj) (K : PySem.W.Frag) : AlO := (He.obsD fa fn K, He5.obsA [] fg K, He.dicW K (He.ga K "TIMES"), ex K && tabB g K)
def obsO (g : Addr → Option Obj) : AlO := obsK g (He.frG g (asO g))
def valO (w : World) : AlO := (He.valD fn, He5.valA fg, some (He.keysIn w.params ["once", "missed", "twice", "swapped"]), true)
structure SaysO (w : World) (h : Heap) (K : PySem.W.Frag) : Prop where
  d : He.SaysD fa fn K
  a : He5.SaysA [] fg K
  t : He.dicW K (He.ga K "TIMES") = some (He.keysIn w.params ["once", "missed", "twice", "swapped"])
  more : ex K = true
  hd : PySem.W.codeHdIn K (lawTab K).1 (lawTab K).2 = true
  out : K.lookup (lawTab K).2 = none
  empty : h.get? (lawTab K).2 = some { cls := .none, data := .fields #[] }
theorem saysO_of {w : World} {h : Heap} {K : PySem.W.Frag} (e : obsK h.get? K = valO w) : SaysO w h K := by
  have e1 : He.obsD fa fn K = He.valD fn := congrArg (fun z : AlO => z.1) e
  have e2 : He5.obsA [] fg K = He5.valA fg := congrArg (fun z : AlO => z.2.1) e
  have e3 : He.dicW K (He.ga K "TIMES") = some (He.keysIn w.params ["once", "missed", "twice", "swapped"]) := congrArg (fun z : AlO => z.2.2.1) e
  have e4 : (ex K && tabB h.get? K) = true := congrArg (fun z : AlO => z.2.2.2) e
  obtain ⟨h1, h2⟩ := He.ba e4
  obtain ⟨h3, h4⟩ := He.ba h2
  obtain ⟨h5, h6⟩ := He.ba h4
  refine ⟨e1, e2, e3, h1, h3, Option.isNone_iff_eq_none.mp h5, ?_⟩
  cases q : h.get? (lawTab K).2 with
  | none =>
    rw [q] at h6
    cases h6
  | some o =>
    rw [q] at h6
    rw [He.emptyTab_eq h6]
def hookO : PySem.W.Hook where
  α := AlO
  obs := fun s => obsO s.heap.get?
  val := fun w => valO w
  says := fun w h => ∃ K : PySem.W.Frag, K.In h ∧ SaysO w h K
  of := fun w s e => ⟨_, He.frG_in, saysO_of e⟩
  keeps := fun w h h' z k => by
    obtain ⟨K, hK, c⟩ := z
    exact ⟨K, PySem.W.Frag.In.keeps hK k, ⟨c.d, c.a, c.t, c.more, c.hd, c.out, k _ _ c.empty⟩⟩
def obO (s : PySem.W.SharedT) : AlO := obsO (HandSHeadRun.getT s)
theorem obO_eq (s : PySem.W.SharedT) : obO s = hookO.obs s.abs := by
  have e : HandSHeadRun.getT s = s.abs.heap.get? := funext fun a => HandSHeadRun.getT_eq s a
  unfold obO
  rw [e] <;> rfl
/-- what is known of the text behind the top -/
structure Txt (w : World) (K : PySem.W.Frag) (mg : Str → Option Value) : Prop where
  at_ : ∃ h : Heap, K.In h ∧ h.Ns mainGlobals mg ∧ SaysO w h K
section
variable {w : World} {K : PySem.W.Frag} {mg : Str → Option Value}
theorem Txt.fact (T : Txt w K mg) (i : Nat) {f : He.Fa} (h : fa[i]? = some f := by rfl) : f.ok K = true := by
  obtain ⟨_, _, _, c⟩ := T.at_
  exact c.d.fact i h
theorem Txt.ex (T : Txt w K mg) (i : Nat) {f : PySem.W.Frag → Bool} (h : exs[i]? = some f := by rfl) : f K = true := by
  obtain ⟨_, _, _, c⟩ := T.at_
  exact List.all_eq_true.mp c.more f (List.mem_of_getElem? h)
def fdA (K : PySem.W.Frag) (a : Addr) : FuncData := match K.lookup a with
  | some ⟨_, _, .func fd, _⟩ => fd
  | _ => ⟨"", "", ⟨[], [], none, [], [], none, []⟩, .stmts [], ⟨.function, [], false, false, []⟩, 0, [], .none, .none, .none, .none, none, .none, .none, 0⟩
theorem funD_fdA {x qual : Str} {params : Arguments} {body : List Stmt} {scope : Scope} {dvs : List V} {kws : List (Str × V)} {f : Addr} {fd : FuncData} (F : FunD K x qual params body scope dvs kws f fd) : FunD K x qual params body scope dvs kws f (fdA K f) := by
  obtain ⟨oc, od, dV, kV, doc, pm, an, cdv, ct, osl, e, l, c, hd, hk⟩ := F.ex
  have z : fdA K f = fd := by
    unfold fdA
    rw [l]
  rw [z]
  exact F
theorem Txt.def_ (T : Txt w K mg) (i : Nat) {d : He.DefD} (h : fn[i]? = some d := by rfl) : FunD K d.name d.qual d.params d.body d.scope (d.dvs K) (d.kws K) (He.fAd K d.at_) (fdA K (He.fAd K d.at_)) := by
  obtain ⟨_, _, _, c⟩ := T.at_
  obtain ⟨fd, F⟩ := c.d.def_ i h
  exact funD_fdA F
theorem Txt.get_ (T : Txt w K mg) (i : Nat) {d : He5.DefA} (h : fg[i]? = some d := by rfl) : FunD K d.name d.qual d.params d.body d.scope (d.dvs K) (d.kws K) (d.at_ K) (fdA K (d.at_ K)) := by
  obtain ⟨_, _, _, c⟩ := T.at_
  obtain ⟨fd, F⟩ := c.a.def_ i h
  exact funD_fdA F
theorem Txt.g_is_number (T : Txt w K mg) : mg "is_number" = some (.ref (He.ga K "is_number")) := by
  obtain ⟨h, X, G, _⟩ := T.at_
  exact He.glo_ok X G (T.fact 0)
theorem Txt.g_is_word (T : Txt w K mg) : mg "is_word" = some (.ref (He.ga K "is_word")) := by
  obtain ⟨h, X, G, _⟩ := T.at_
  exact He.glo_ok X G (T.fact 1)
theorem Txt.g_is_deed (T : Txt w K mg) : mg "is_deed" = some (.ref (He.ga K "is_deed")) := by
  obtain ⟨h, X, G, _⟩ := T.at_
  exact He.glo_ok X G (T.fact 2)
theorem Txt.g_start (T : Txt w K mg) : mg "start" = some (.ref (He.ga K "start")) := by
  obtain ⟨h, X, G, _⟩ := T.at_
  exact He.glo_ok X G (T.fact 3)
theorem Txt.g_has_room (T : Txt w K mg) : mg "has_room" = some (.ref (He.ga K "has_room")) := by
  obtain ⟨h, X, G, _⟩ := T.at_
  exact He.glo_ok X G (T.fact 4)
theorem Txt.g_is_possible (T : Txt w K mg) : mg "is_possible" = some (.ref (He.ga K "is_possible")) := by
  obtain ⟨h, X, G, _⟩ := T.at_
  exact He.glo_ok X G (T.fact 5)
theorem Txt.g_appended (T : Txt w K mg) : mg "appended" = some (.ref (He.ga K "appended")) := by
  obtain ⟨h, X, G, _⟩ := T.at_
  exact He.glo_ok X G (T.fact 6)
theorem Txt.g_taken_by_eye (T : Txt w K mg) : mg "taken_by_eye" = some (.ref (He.ga K "taken_by_eye")) := by
  obtain ⟨h, X, G, _⟩ := T.at_
  exact He.glo_ok X G (T.fact 7)
theorem Txt.g_taken_by_scanner (T : Txt w K mg) : mg "taken_by_scanner" = some (.ref (He.ga K "taken_by_scanner")) := by
  obtain ⟨h, X, G, _⟩ := T.at_
  exact He.glo_ok X G (T.fact 8)
theorem Txt.g_come (T : Txt w K mg) : mg "come" = some (.ref (He.ga K "come")) := by
  obtain ⟨h, X, G, _⟩ := T.at_
  exact He.glo_ok X G (T.fact 9)
theorem Txt.g_passed (T : Txt w K mg) : mg "passed" = some (.ref (He.ga K "passed")) := by
  obtain ⟨h, X, G, _⟩ := T.at_
  exact He.glo_ok X G (T.fact 10)
theorem Txt.g_moved (T : Txt w K mg) : mg "moved" = some (.ref (He.ga K "moved")) := by
  obtain ⟨h, X, G, _⟩ := T.at_
  exact He.glo_ok X G (T.fact 11)
theorem Txt.g_codes_of (T : Txt w K mg) : mg "codes_of" = some (.ref (He.ga K "codes_of")) := by
  obtain ⟨h, X, G, _⟩ := T.at_
  exact He.glo_ok X G (T.fact 12)
theorem Txt.g_place_of (T : Txt w K mg) : mg "place_of" = some (.ref (He.ga K "place_of")) := by
  obtain ⟨h, X, G, _⟩ := T.at_
  exact He.glo_ok X G (T.fact 13)
theorem Txt.g_state_of (T : Txt w K mg) : mg "state_of" = some (.ref (He.ga K "state_of")) := by
  obtain ⟨h, X, G, _⟩ := T.at_
  exact He.glo_ok X G (T.fact 14)
theorem Txt.g_word_of_sending (T : Txt w K mg) : mg "word_of_sending" = some (.ref (He.ga K "word_of_sending")) := by
  obtain ⟨h, X, G, _⟩ := T.at_
  exact He.glo_ok X G (T.fact 15)
theorem Txt.g_first_place (T : Txt w K mg) : mg "first_place" = some (.ref (He.ga K "first_place")) := by
  obtain ⟨h, X, G, _⟩ := T.at_
  exact He.glo_ok X G (T.fact 16)
theorem Txt.g_all_deeds (T : Txt w K mg) : mg "all_deeds" = some (.ref (He.ga K "all_deeds")) := by
  obtain ⟨h, X, G, _⟩ := T.at_
  exact He.glo_ok X G (T.fact 17)
theorem Txt.g_deeds_at (T : Txt w K mg) : mg "deeds_at" = some (.ref (He.ga K "deeds_at")) := by
  obtain ⟨h, X, G, _⟩ := T.at_
  exact He.glo_ok X G (T.fact 18)
theorem Txt.g_behind (T : Txt w K mg) : mg "behind" = some (.ref (He.ga K "behind")) := by
  obtain ⟨h, X, G, _⟩ := T.at_
  exact He.glo_ok X G (T.fact 19)
theorem Txt.g_need_most (T : Txt w K mg) : mg "need_most" = some (.ref (He.ga K "need_most")) := by
  obtain ⟨h, X, G, _⟩ := T.at_
  exact He.glo_ok X G (T.fact 20)
theorem Txt.g_is_astray (T : Txt w K mg) : mg "is_astray" = some (.ref (He.ga K "is_astray")) := by
  obtain ⟨h, X, G, _⟩ := T.at_
  exact He.glo_ok X G (T.fact 21)
theorem Txt.g_judged (T : Txt w K mg) : mg "judged" = some (.ref (He.ga K "judged")) := by
  obtain ⟨h, X, G, _⟩ := T.at_
  exact He.glo_ok X G (T.fact 22)
theorem Txt.g_is_stretch (T : Txt w K mg) : mg "is_stretch" = some (.ref (He.ga K "is_stretch")) := by
  obtain ⟨h, X, G, _⟩ := T.at_
  exact He.glo_ok X G (T.fact 23)
theorem Txt.g_is_slips (T : Txt w K mg) : mg "is_slips" = some (.ref (He.ga K "is_slips")) := by
  obtain ⟨h, X, G, _⟩ := T.at_
  exact He.glo_ok X G (T.fact 24)
theorem Txt.g_need_chute (T : Txt w K mg) : mg "need_chute" = some (.ref (He.ga K "need_chute")) := by
  obtain ⟨h, X, G, _⟩ := T.at_
  exact He.glo_ok X G (T.fact 25)
theorem Txt.g__law_bag (T : Txt w K mg) : mg "_law_bag" = some (.ref (He.ga K "_law_bag")) := by
  obtain ⟨h, X, G, _⟩ := T.at_
  exact He.glo_ok X G (T.fact 26)
theorem Txt.g__law_draw (T : Txt w K mg) : mg "_law_draw" = some (.ref (He.ga K "_law_draw")) := by
  obtain ⟨h, X, G, _⟩ := T.at_
  exact He.glo_ok X G (T.fact 27)
theorem Txt.g__law_of (T : Txt w K mg) : mg "_law_of" = some (.ref (He.ga K "_law_of")) := by
  obtain ⟨h, X, G, _⟩ := T.at_
  exact He.glo_ok X G (T.fact 28)
theorem Txt.g__law_same (T : Txt w K mg) : mg "_law_same" = some (.ref (He.ga K "_law_same")) := by
  obtain ⟨h, X, G, _⟩ := T.at_
  exact He.glo_ok X G (T.fact 29)
theorem Txt.g__law_field (T : Txt w K mg) : mg "_law_field" = some (.ref (He.ga K "_law_field")) := by
  obtain ⟨h, X, G, _⟩ := T.at_
  exact He.glo_ok X G (T.fact 30)
theorem Txt.g__law_got (T : Txt w K mg) : mg "_law_got" = some (.ref (He.ga K "_law_got")) := by
  obtain ⟨h, X, G, _⟩ := T.at_
  exact He.glo_ok X G (T.fact 31)
theorem Txt.g__law_slip_words (T : Txt w K mg) : mg "_law_slip_words" = some (.ref (He.ga K "_law_slip_words")) := by
  obtain ⟨h, X, G, _⟩ := T.at_
  exact He.glo_ok X G (T.fact 32)
theorem Txt.g__law_planned (T : Txt w K mg) : mg "_law_planned" = some (.ref (He.ga K "_law_planned")) := by
  obtain ⟨h, X, G, _⟩ := T.at_
  exact He.glo_ok X G (T.fact 33)
theorem Txt.g__law_small (T : Txt w K mg) : mg "_law_small" = some (.ref (He.ga K "_law_small")) := by
  obtain ⟨h, X, G, _⟩ := T.at_
  exact He.glo_ok X G (T.fact 34)
theorem Txt.g__law_made_line (T : Txt w K mg) : mg "_law_made_line" = some (.ref (He.ga K "_law_made_line")) := by
  obtain ⟨h, X, G, _⟩ := T.at_
  exact He.glo_ok X G (T.fact 35)
theorem Txt.g__law_made_tracker (T : Txt w K mg) : mg "_law_made_tracker" = some (.ref (He.ga K "_law_made_tracker")) := by
  obtain ⟨h, X, G, _⟩ := T.at_
  exact He.glo_ok X G (T.fact 36)
theorem Txt.g__law_made_plant (T : Txt w K mg) : mg "_law_made_plant" = some (.ref (He.ga K "_law_made_plant")) := by
  obtain ⟨h, X, G, _⟩ := T.at_
  exact He.glo_ok X G (T.fact 37)
theorem Txt.g__law_begun (T : Txt w K mg) : mg "_law_begun" = some (.ref (He.ga K "_law_begun")) := by
  obtain ⟨h, X, G, _⟩ := T.at_
  exact He.glo_ok X G (T.fact 38)
theorem Txt.g__law_late_slips (T : Txt w K mg) : mg "_law_late_slips" = some (.ref (He.ga K "_law_late_slips")) := by
  obtain ⟨h, X, G, _⟩ := T.at_
  exact He.glo_ok X G (T.fact 39)
theorem Txt.g__law_can (T : Txt w K mg) : mg "_law_can" = some (.ref (He.ga K "_law_can")) := by
  obtain ⟨h, X, G, _⟩ := T.at_
  exact He.glo_ok X G (T.fact 40)
theorem Txt.g__law_add (T : Txt w K mg) : mg "_law_add" = some (.ref (He.ga K "_law_add")) := by
  obtain ⟨h, X, G, _⟩ := T.at_
  exact He.glo_ok X G (T.fact 41)
theorem Txt.g__law_see (T : Txt w K mg) : mg "_law_see" = some (.ref (He.ga K "_law_see")) := by
  obtain ⟨h, X, G, _⟩ := T.at_
  exact He.glo_ok X G (T.fact 42)
theorem Txt.g__law_do (T : Txt w K mg) : mg "_law_do" = some (.ref (He.ga K "_law_do")) := by
  obtain ⟨h, X, G, _⟩ := T.at_
  exact He.glo_ok X G (T.fact 43)
theorem Txt.g__law_all_deeds (T : Txt w K mg) : mg "_law_all_deeds" = some (.ref (He.ga K "_law_all_deeds")) := by
  obtain ⟨h, X, G, _⟩ := T.at_
  exact He.glo_ok X G (T.fact 44)
theorem Txt.g__law_deeds (T : Txt w K mg) : mg "_law_deeds" = some (.ref (He.ga K "_law_deeds")) := by
  obtain ⟨h, X, G, _⟩ := T.at_
  exact He.glo_ok X G (T.fact 45)
theorem Txt.g__law_walk (T : Txt w K mg) : mg "_law_walk" = some (.ref (He.ga K "_law_walk")) := by
  obtain ⟨h, X, G, _⟩ := T.at_
  exact He.glo_ok X G (T.fact 46)
theorem Txt.g_law (T : Txt w K mg) : mg "law" = some (.ref (He.ga K "law")) := by
  obtain ⟨h, X, G, _⟩ := T.at_
  exact He.glo_ok X G (T.fact 47)
theorem Txt.g_Safe (T : Txt w K mg) : mg "Safe" = some (.ref (He.ga K "Safe")) := by
  obtain ⟨h, X, G, _⟩ := T.at_
  exact He.glo_ok X G (T.fact 48)
theorem Txt.g_Astray (T : Txt w K mg) : mg "Astray" = some (.ref (He.ga K "Astray")) := by
  obtain ⟨h, X, G, _⟩ := T.at_
  exact He.glo_ok X G (T.fact 49)
theorem Txt.g_Line (T : Txt w K mg) : mg "Line" = some (.ref (He.ga K "Line")) := by
  obtain ⟨h, X, G, _⟩ := T.at_
  exact He.glo_ok X G (T.fact 50)
theorem Txt.g_Tracker (T : Txt w K mg) : mg "Tracker" = some (.ref (He.ga K "Tracker")) := by
  obtain ⟨h, X, G, _⟩ := T.at_
  exact He.glo_ok X G (T.fact 51)
theorem Txt.g_Plant (T : Txt w K mg) : mg "Plant" = some (.ref (He.ga K "Plant")) := by
  obtain ⟨h, X, G, _⟩ := T.at_
  exact He.glo_ok X G (T.fact 52)
theorem Txt.g_Run (T : Txt w K mg) : mg "Run" = some (.ref (He.ga K "Run")) := by
  obtain ⟨h, X, G, _⟩ := T.at_
  exact He.glo_ok X G (T.fact 53)
theorem Txt.g_TooMany (T : Txt w K mg) : mg "TooMany" = some (.ref (He.ga K "TooMany")) := by
  obtain ⟨h, X, G, _⟩ := T.at_
  exact He.glo_ok X G (T.fact 54)
theorem Txt.g_BeltError (T : Txt w K mg) : mg "BeltError" = some (.ref (He.ga K "BeltError")) := by
  obtain ⟨h, X, G, _⟩ := T.at_
  exact He.glo_ok X G (T.fact 55)
theorem Txt.g_Missing (T : Txt w K mg) : mg "Missing" = some (.ref (He.ga K "Missing")) := by
  obtain ⟨h, X, G, _⟩ := T.at_
  exact He.glo_ok X G (T.fact 56)
theorem Txt.g_NothingLeft (T : Txt w K mg) : mg "NothingLeft" = some (.ref (He.ga K "NothingLeft")) := by
  obtain ⟨h, X, G, _⟩ := T.at_
  exact He.glo_ok X G (T.fact 57)
theorem Txt.g_WAYS_OF_SEEING (T : Txt w K mg) : mg "WAYS_OF_SEEING" = some (.ref (He.ga K "WAYS_OF_SEEING")) := by
  obtain ⟨h, X, G, _⟩ := T.at_
  exact He.glo_ok X G (T.fact 58)
theorem Txt.g_SLIP_WORDS (T : Txt w K mg) : mg "SLIP_WORDS" = some (.ref (He.ga K "SLIP_WORDS")) := by
  obtain ⟨h, X, G, _⟩ := T.at_
  exact He.glo_ok X G (T.fact 59)
theorem Txt.g_EMPTY_WORDS (T : Txt w K mg) : mg "EMPTY_WORDS" = some (.ref (He.ga K "EMPTY_WORDS")) := by
  obtain ⟨h, X, G, _⟩ := T.at_
  exact He.glo_ok X G (T.fact 60)
theorem Txt.g_STRANGE_WORDS (T : Txt w K mg) : mg "STRANGE_WORDS" = some (.ref (He.ga K "STRANGE_WORDS")) := by
  obtain ⟨h, X, G, _⟩ := T.at_
  exact He.glo_ok X G (T.fact 61)
theorem Txt.g_PAUSE_WORDS (T : Txt w K mg) : mg "PAUSE_WORDS" = some (.ref (He.ga K "PAUSE_WORDS")) := by
  obtain ⟨h, X, G, _⟩ := T.at_
  exact He.glo_ok X G (T.fact 62)
theorem Txt.g_TIMES (T : Txt w K mg) : mg "TIMES" = some (.ref (He.ga K "TIMES")) := by
  obtain ⟨h, X, G, _⟩ := T.at_
  exact He.glo_ok X G (T.fact 63)
theorem Txt.i_BLANK (T : Txt w K mg) : ∃ t, mg "BLANK" = some (.int (-2) t) := by
  obtain ⟨h, X, G, _⟩ := T.at_
  exact He.int_ok X G (T.fact 64)
theorem Txt.i_NO_SWAP (T : Txt w K mg) : ∃ t, mg "NO_SWAP" = some (.int (-2) t) := by
  obtain ⟨h, X, G, _⟩ := T.at_
  exact He.int_ok X G (T.fact 65)
theorem Txt.i_GONE (T : Txt w K mg) : ∃ t, mg "GONE" = some (.int (-1) t) := by
  obtain ⟨h, X, G, _⟩ := T.at_
  exact He.int_ok X G (T.fact 66)
theorem Txt.i_FRESH (T : Txt w K mg) : ∃ t, mg "FRESH" = some (.int (-9) t) := by
  obtain ⟨h, X, G, _⟩ := T.at_
  exact He.int_ok X G (T.fact 67)
theorem Txt.i_MOST_PLACES (T : Txt w K mg) : ∃ t, mg "MOST_PLACES" = some (.int (20000) t) := by
  obtain ⟨h, X, G, _⟩ := T.at_
  exact He.int_ok X G (T.fact 68)
theorem Txt.i_MOST_BELTS (T : Txt w K mg) : ∃ t, mg "MOST_BELTS" = some (.int (3) t) := by
  obtain ⟨h, X, G, _⟩ := T.at_
  exact He.int_ok X G (T.fact 69)
theorem Txt.i_MOST_STRETCH (T : Txt w K mg) : ∃ t, mg "MOST_STRETCH" = some (.int (12) t) := by
  obtain ⟨h, X, G, _⟩ := T.at_
  exact He.int_ok X G (T.fact 70)
theorem Txt.i_MOST_QUEUES (T : Txt w K mg) : ∃ t, mg "MOST_QUEUES" = some (.int (3) t) := by
  obtain ⟨h, X, G, _⟩ := T.at_
  exact He.int_ok X G (T.fact 71)
theorem Txt.i_MOST_ROOM (T : Txt w K mg) : ∃ t, mg "MOST_ROOM" = some (.int (4) t) := by
  obtain ⟨h, X, G, _⟩ := T.at_
  exact He.int_ok X G (T.fact 72)
theorem Txt.f_isinstance (T : Txt w K mg) : mg "isinstance" = none := by
  obtain ⟨h, X, G, _⟩ := T.at_
  exact He.free_ok X G (T.fact 73)
theorem Txt.f_len (T : Txt w K mg) : mg "len" = none := by
  obtain ⟨h, X, G, _⟩ := T.at_
  exact He.free_ok X G (T.fact 74)
theorem Txt.f_range (T : Txt w K mg) : mg "range" = none := by
  obtain ⟨h, X, G, _⟩ := T.at_
  exact He.free_ok X G (T.fact 75)
theorem Txt.f_enumerate (T : Txt w K mg) : mg "enumerate" = none := by
  obtain ⟨h, X, G, _⟩ := T.at_
  exact He.free_ok X G (T.fact 76)
theorem Txt.f_sorted (T : Txt w K mg) : mg "sorted" = none := by
  obtain ⟨h, X, G, _⟩ := T.at_
  exact He.free_ok X G (T.fact 77)
theorem Txt.f_list (T : Txt w K mg) : mg "list" = none := by
  obtain ⟨h, X, G, _⟩ := T.at_
  exact He.free_ok X G (T.fact 78)
theorem Txt.f_tuple (T : Txt w K mg) : mg "tuple" = none := by
  obtain ⟨h, X, G, _⟩ := T.at_
  exact He.free_ok X G (T.fact 79)
theorem Txt.f_min (T : Txt w K mg) : mg "min" = none := by
  obtain ⟨h, X, G, _⟩ := T.at_
  exact He.free_ok X G (T.fact 80)
theorem Txt.f_sum (T : Txt w K mg) : mg "sum" = none := by
  obtain ⟨h, X, G, _⟩ := T.at_
  exact He.free_ok X G (T.fact 81)
theorem Txt.f_all (T : Txt w K mg) : mg "all" = none := by
  obtain ⟨h, X, G, _⟩ := T.at_
  exact He.free_ok X G (T.fact 82)
theorem Txt.f_zip (T : Txt w K mg) : mg "zip" = none := by
  obtain ⟨h, X, G, _⟩ := T.at_
  exact He.free_ok X G (T.fact 83)
theorem Txt.f_int (T : Txt w K mg) : mg "int" = none := by
  obtain ⟨h, X, G, _⟩ := T.at_
  exact He.free_ok X G (T.fact 84)
theorem Txt.f_bool (T : Txt w K mg) : mg "bool" = none := by
  obtain ⟨h, X, G, _⟩ := T.at_
  exact He.free_ok X G (T.fact 85)
theorem Txt.f_str (T : Txt w K mg) : mg "str" = none := by
  obtain ⟨h, X, G, _⟩ := T.at_
  exact He.free_ok X G (T.fact 86)
theorem Txt.f_ValueError (T : Txt w K mg) : mg "ValueError" = none := by
  obtain ⟨h, X, G, _⟩ := T.at_
  exact He.free_ok X G (T.fact 87)
theorem Txt.cl_Safe (T : Txt w K mg) : Cls K (He.ga K "Safe") := He.cls_ok (T.fact 88)
theorem Txt.na_Safe_own_places (T : Txt w K mg) : NoAttr K (He.ga K "Safe") "own_places" := He.noat_ok (T.fact 89)
theorem Txt.mk_Safe (T : Txt w K mg) : Mk K (He.ga K "Safe") (He.ma K (He.ga K "Safe") "__init__") := He.mkr_ok (T.fact 90)
theorem Txt.m_Safe___init__ (T : Txt w K mg) : Meth K (He.ga K "Safe") "__init__" (He.ma K (He.ga K "Safe") "__init__") := He.meth_ok (T.fact 91)
theorem Txt.cl_Astray (T : Txt w K mg) : Cls K (He.ga K "Astray") := He.cls_ok (T.fact 92)
theorem Txt.na_Astray_own_flow (T : Txt w K mg) : NoAttr K (He.ga K "Astray") "own_flow" := He.noat_ok (T.fact 93)
theorem Txt.mk_Astray (T : Txt w K mg) : Mk K (He.ga K "Astray") (He.ma K (He.ga K "Astray") "__init__") := He.mkr_ok (T.fact 94)
theorem Txt.m_Astray___init__ (T : Txt w K mg) : Meth K (He.ga K "Astray") "__init__" (He.ma K (He.ga K "Astray") "__init__") := He.meth_ok (T.fact 95)
theorem Txt.m_Astray_flow (T : Txt w K mg) : Meth K (He.ga K "Astray") "flow" (He.ma K (He.ga K "Astray") "flow") := He.meth_ok (T.fact 96)
theorem Txt.cl_Line (T : Txt w K mg) : Cls K (He.ga K "Line") := He.cls_ok (T.fact 97)
theorem Txt.na_Line_own_belts (T : Txt w K mg) : NoAttr K (He.ga K "Line") "own_belts" := He.noat_ok (T.fact 98)
theorem Txt.na_Line_own_scans (T : Txt w K mg) : NoAttr K (He.ga K "Line") "own_scans" := He.noat_ok (T.fact 99)
theorem Txt.na_Line_own_slips (T : Txt w K mg) : NoAttr K (He.ga K "Line") "own_slips" := He.noat_ok (T.fact 100)
theorem Txt.na_Line_own_words (T : Txt w K mg) : NoAttr K (He.ga K "Line") "own_words" := He.noat_ok (T.fact 101)
theorem Txt.na_Line_own_stretch (T : Txt w K mg) : NoAttr K (He.ga K "Line") "own_stretch" := He.noat_ok (T.fact 102)
theorem Txt.mk_Line (T : Txt w K mg) : Mk K (He.ga K "Line") (He.ma K (He.ga K "Line") "__init__") := He.mkr_ok (T.fact 103)
theorem Txt.m_Line___init__ (T : Txt w K mg) : Meth K (He.ga K "Line") "__init__" (He.ma K (He.ga K "Line") "__init__") := He.meth_ok (T.fact 104)
theorem Txt.m_Line_belts (T : Txt w K mg) : Meth K (He.ga K "Line") "belts" (He.ma K (He.ga K "Line") "belts") := He.meth_ok (T.fact 105)
theorem Txt.m_Line_words (T : Txt w K mg) : Meth K (He.ga K "Line") "words" (He.ma K (He.ga K "Line") "words") := He.meth_ok (T.fact 106)
theorem Txt.m_Line_is_scanner (T : Txt w K mg) : Meth K (He.ga K "Line") "is_scanner" (He.ma K (He.ga K "Line") "is_scanner") := He.meth_ok (T.fact 107)
theorem Txt.cl_Tracker (T : Txt w K mg) : Cls K (He.ga K "Tracker") := He.cls_ok (T.fact 108)
theorem Txt.na_Tracker_own_rooms (T : Txt w K mg) : NoAttr K (He.ga K "Tracker") "own_rooms" := He.noat_ok (T.fact 109)
theorem Txt.na_Tracker_own_seek (T : Txt w K mg) : NoAttr K (He.ga K "Tracker") "own_seek" := He.noat_ok (T.fact 110)
theorem Txt.na_Tracker_own_rules (T : Txt w K mg) : NoAttr K (He.ga K "Tracker") "own_rules" := He.noat_ok (T.fact 111)
theorem Txt.mk_Tracker (T : Txt w K mg) : Mk K (He.ga K "Tracker") (He.ma K (He.ga K "Tracker") "__init__") := He.mkr_ok (T.fact 112)
theorem Txt.m_Tracker___init__ (T : Txt w K mg) : Meth K (He.ga K "Tracker") "__init__" (He.ma K (He.ga K "Tracker") "__init__") := He.meth_ok (T.fact 113)
theorem Txt.m_Tracker_rooms (T : Txt w K mg) : Meth K (He.ga K "Tracker") "rooms" (He.ma K (He.ga K "Tracker") "rooms") := He.meth_ok (T.fact 114)
theorem Txt.cl_Plant (T : Txt w K mg) : Cls K (He.ga K "Plant") := He.cls_ok (T.fact 115)
theorem Txt.na_Plant_own_line (T : Txt w K mg) : NoAttr K (He.ga K "Plant") "own_line" := He.noat_ok (T.fact 116)
theorem Txt.na_Plant_own_tracker (T : Txt w K mg) : NoAttr K (He.ga K "Plant") "own_tracker" := He.noat_ok (T.fact 117)
theorem Txt.mk_Plant (T : Txt w K mg) : Mk K (He.ga K "Plant") (He.ma K (He.ga K "Plant") "__init__") := He.mkr_ok (T.fact 118)
theorem Txt.m_Plant___init__ (T : Txt w K mg) : Meth K (He.ga K "Plant") "__init__" (He.ma K (He.ga K "Plant") "__init__") := He.meth_ok (T.fact 119)
theorem Txt.cl_Run (T : Txt w K mg) : Cls K (He.ga K "Run") := He.cls_ok (T.fact 120)
theorem Txt.na_Run_own_plant (T : Txt w K mg) : NoAttr K (He.ga K "Run") "own_plant" := He.noat_ok (T.fact 121)
theorem Txt.na_Run_steps (T : Txt w K mg) : NoAttr K (He.ga K "Run") "steps" := He.noat_ok (T.fact 122)
theorem Txt.na_Run_undone (T : Txt w K mg) : NoAttr K (He.ga K "Run") "undone" := He.noat_ok (T.fact 123)
theorem Txt.na_Run_state (T : Txt w K mg) : NoAttr K (He.ga K "Run") "state" := He.noat_ok (T.fact 124)
theorem Txt.na_Run_chutes (T : Txt w K mg) : NoAttr K (He.ga K "Run") "chutes" := He.noat_ok (T.fact 125)
theorem Txt.na_Run_sent (T : Txt w K mg) : NoAttr K (He.ga K "Run") "sent" := He.noat_ok (T.fact 126)
theorem Txt.na_Run_is_held (T : Txt w K mg) : NoAttr K (He.ga K "Run") "is_held" := He.noat_ok (T.fact 127)
theorem Txt.mk_Run (T : Txt w K mg) : Mk K (He.ga K "Run") (He.ma K (He.ga K "Run") "__init__") := He.mkr_ok (T.fact 128)
theorem Txt.m_Run___init__ (T : Txt w K mg) : Meth K (He.ga K "Run") "__init__" (He.ma K (He.ga K "Run") "__init__") := He.meth_ok (T.fact 129)
theorem Txt.m_Run_take (T : Txt w K mg) : Meth K (He.ga K "Run") "take" (He.ma K (He.ga K "Run") "take") := He.meth_ok (T.fact 130)
theorem Txt.m_Run_do (T : Txt w K mg) : Meth K (He.ga K "Run") "do" (He.ma K (He.ga K "Run") "do") := He.meth_ok (T.fact 131)
theorem Txt.m_Run_chute_of (T : Txt w K mg) : Meth K (He.ga K "Run") "chute_of" (He.ma K (He.ga K "Run") "chute_of") := He.meth_ok (T.fact 132)
theorem Txt.m_Run_sendings (T : Txt w K mg) : Meth K (He.ga K "Run") "sendings" (He.ma K (He.ga K "Run") "sendings") := He.meth_ok (T.fact 133)
theorem Txt.m_Run_astray (T : Txt w K mg) : Meth K (He.ga K "Run") "astray" (He.ma K (He.ga K "Run") "astray") := He.meth_ok (T.fact 134)
theorem Txt.m_Run___len__ (T : Txt w K mg) : Meth K (He.ga K "Run") "__len__" (He.ma K (He.ga K "Run") "__len__") := He.meth_ok (T.fact 135)
theorem Txt.x_belt (T : Txt w K mg) : PySem.W.exmOne K (.ref (He.ga K "TooMany")) (.ref (He.ga K "BeltError")) = some true := He.exm_ok (T.fact 136)
theorem Txt.x_miss (T : Txt w K mg) : PySem.W.exmOne K (.ref (He.ga K "TooMany")) (.ref (He.ga K "Missing")) = some false := He.exm_ok (T.fact 137)
theorem Txt.x_noth (T : Txt w K mg) : PySem.W.exmOne K (.ref (He.ga K "TooMany")) (.ref (He.ga K "NothingLeft")) = some false := He.exm_ok (T.fact 138)
theorem Txt.na_TooMany_code (T : Txt w K mg) : NoAttr K (He.ga K "TooMany") "code" := He.noat_ok (T.fact 139)
theorem Txt.na_TooMany_most (T : Txt w K mg) : NoAttr K (He.ga K "TooMany") "most" := He.noat_ok (T.fact 140)
theorem Txt.m_TooMany___init__ (T : Txt w K mg) : Meth K (He.ga K "TooMany") "__init__" (He.ma K (He.ga K "TooMany") "__init__") := He.meth_ok (T.fact 141)
theorem Txt.t_WAYS_OF_SEEING (T : Txt w K mg) (H : Hp) : SqT K H (He.ga K "WAYS_OF_SEEING") [.str "once", .str "missed", .str "twice", .str "swapped"] := He.tupB_ok (T.ex 0) H
theorem Txt.t_SLIP_WORDS (T : Txt w K mg) (H : Hp) : SqT K H (He.ga K "SLIP_WORDS") [.str "missed", .str "twice", .str "swapped"] := He.tupB_ok (T.ex 1) H
theorem Txt.t_EMPTY_WORDS (T : Txt w K mg) (H : Hp) : SqT K H (He.ga K "EMPTY_WORDS") [.str "blank", .str "none"] := He.tupB_ok (T.ex 2) H
theorem Txt.t_STRANGE_WORDS (T : Txt w K mg) (H : Hp) : SqT K H (He.ga K "STRANGE_WORDS") [.str "first", .str "none"] := He.tupB_ok (T.ex 3) H
theorem Txt.t_PAUSE_WORDS (T : Txt w K mg) (H : Hp) : SqT K H (He.ga K "PAUSE_WORDS") [.str "clear", .str "keep"] := He.tupB_ok (T.ex 4) H
theorem Txt.oex_TooMany (T : Txt w K mg) : OexC K (He.ga K "TooMany") := oexM_ok (T.ex 21)
theorem Txt.xf_TooMany (T : Txt w K mg) : XfC K (He.ga K "TooMany") := xfB_ok (T.ex 22)
theorem Txt.con_Safe (T : Txt w K mg) : ∃ u, Con K (He.ga K "Safe") "WORD" (.str "safe") u := He.conB_ok (T.ex 6)
theorem Txt.con_Astray (T : Txt w K mg) : ∃ u, Con K (He.ga K "Astray") "WORD" (.str "astray") u := He.conB_ok (T.ex 7)
theorem Txt.p_Safe_word (T : Txt w K mg) : PropOf K (He.ga K "Safe") "word" (He.ma K (He.ga K "Safe") "word") (He5.wf K (He.ga K "Safe") "property" "word") := propB_ok (T.ex 8)
theorem Txt.p_Astray_word (T : Txt w K mg) : PropOf K (He.ga K "Astray") "word" (He.ma K (He.ga K "Astray") "word") (He5.wf K (He.ga K "Astray") "property" "word") := propB_ok (T.ex 9)
theorem Txt.p_Line_slips (T : Txt w K mg) : PropOf K (He.ga K "Line") "slips" (He.ma K (He.ga K "Line") "slips") (He5.wf K (He.ga K "Line") "property" "slips") := propB_ok (T.ex 12)
theorem Txt.p_Line_stretch (T : Txt w K mg) : PropOf K (He.ga K "Line") "stretch" (He.ma K (He.ga K "Line") "stretch") (He5.wf K (He.ga K "Line") "property" "stretch") := propB_ok (T.ex 13)
theorem Txt.p_Line_last (T : Txt w K mg) : PropOf K (He.ga K "Line") "last" (He.ma K (He.ga K "Line") "last") (He5.wf K (He.ga K "Line") "property" "last") := propB_ok (T.ex 14)
theorem Txt.p_Tracker_seek (T : Txt w K mg) : PropOf K (He.ga K "Tracker") "seek" (He.ma K (He.ga K "Tracker") "seek") (He5.wf K (He.ga K "Tracker") "property" "seek") := propB_ok (T.ex 15)
theorem Txt.p_Tracker_empty (T : Txt w K mg) : PropOf K (He.ga K "Tracker") "empty" (He.ma K (He.ga K "Tracker") "empty") (He5.wf K (He.ga K "Tracker") "property" "empty") := propB_ok (T.ex 16)
theorem Txt.p_Tracker_strange (T : Txt w K mg) : PropOf K (He.ga K "Tracker") "strange" (He.ma K (He.ga K "Tracker") "strange") (He5.wf K (He.ga K "Tracker") "property" "strange") := propB_ok (T.ex 17)
theorem Txt.p_Tracker_pause (T : Txt w K mg) : PropOf K (He.ga K "Tracker") "pause" (He.ma K (He.ga K "Tracker") "pause") (He5.wf K (He.ga K "Tracker") "property" "pause") := propB_ok (T.ex 18)
theorem Txt.p_Plant_line (T : Txt w K mg) : PropOf K (He.ga K "Plant") "line" (He.ma K (He.ga K "Plant") "line") (He5.wf K (He.ga K "Plant") "property" "line") := propB_ok (T.ex 19)
theorem Txt.p_Plant_tracker (T : Txt w K mg) : PropOf K (He.ga K "Plant") "tracker" (He.ma K (He.ga K "Plant") "tracker") (He5.wf K (He.ga K "Plant") "property" "tracker") := propB_ok (T.ex 20)
theorem Txt.D_is_number (T : Txt w K mg) : FunD K "is_number" "is_number" (defArgs s_is_number) (defBody s_is_number) (defScope s_is_number) [] [] (He.ga K "is_number") (fdA K (He.ga K "is_number")) := T.def_ 0
theorem Txt.F_is_number (T : Txt w K mg) : Fun K "is_number" "is_number" s_is_number (He.ga K "is_number") (fdA K (He.ga K "is_number")) := He5.fun_of T.D_is_number
theorem Txt.D_is_word (T : Txt w K mg) : FunD K "is_word" "is_word" (defArgs s_is_word) (defBody s_is_word) (defScope s_is_word) [] [] (He.ga K "is_word") (fdA K (He.ga K "is_word")) := T.def_ 1
theorem Txt.F_is_word (T : Txt w K mg) : Fun K "is_word" "is_word" s_is_word (He.ga K "is_word") (fdA K (He.ga K "is_word")) := He5.fun_of T.D_is_word
theorem Txt.D_is_deed (T : Txt w K mg) : FunD K "is_deed" "is_deed" (defArgs s_is_deed) (defBody s_is_deed) (defScope s_is_deed) [] [] (He.ga K "is_deed") (fdA K (He.ga K "is_deed")) := T.def_ 2
theorem Txt.F_is_deed (T : Txt w K mg) : Fun K "is_deed" "is_deed" s_is_deed (He.ga K "is_deed") (fdA K (He.ga K "is_deed")) := He5.fun_of T.D_is_deed
theorem Txt.D_start (T : Txt w K mg) : FunD K "start" "start" (defArgs s_start) (defBody s_start) (defScope s_start) [] [] (He.ga K "start") (fdA K (He.ga K "start")) := T.def_ 3
theorem Txt.F_start (T : Txt w K mg) : Fun K "start" "start" s_start (He.ga K "start") (fdA K (He.ga K "start")) := He5.fun_of T.D_start
theorem Txt.D_has_room (T : Txt w K mg) : FunD K "has_room" "has_room" (defArgs s_has_room) (defBody s_has_room) (defScope s_has_room) [] [] (He.ga K "has_room") (fdA K (He.ga K "has_room")) := T.def_ 4
theorem Txt.F_has_room (T : Txt w K mg) : Fun K "has_room" "has_room" s_has_room (He.ga K "has_room") (fdA K (He.ga K "has_room")) := He5.fun_of T.D_has_room
theorem Txt.D_is_possible (T : Txt w K mg) : FunD K "is_possible" "is_possible" (defArgs s_is_possible) (defBody s_is_possible) (defScope s_is_possible) [] [] (He.ga K "is_possible") (fdA K (He.ga K "is_possible")) := T.def_ 5
theorem Txt.F_is_possible (T : Txt w K mg) : Fun K "is_possible" "is_possible" s_is_possible (He.ga K "is_possible") (fdA K (He.ga K "is_possible")) := He5.fun_of T.D_is_possible
theorem Txt.D_appended (T : Txt w K mg) : FunD K "appended" "appended" (defArgs s_appended) (defBody s_appended) (defScope s_appended) [] [] (He.ga K "appended") (fdA K (He.ga K "appended")) := T.def_ 6
theorem Txt.F_appended (T : Txt w K mg) : Fun K "appended" "appended" s_appended (He.ga K "appended") (fdA K (He.ga K "appended")) := He5.fun_of T.D_appended
theorem Txt.D_taken_by_eye (T : Txt w K mg) : FunD K "taken_by_eye" "taken_by_eye" (defArgs s_taken_by_eye) (defBody s_taken_by_eye) (defScope s_taken_by_eye) [] [] (He.ga K "taken_by_eye") (fdA K (He.ga K "taken_by_eye")) := T.def_ 7
theorem Txt.F_taken_by_eye (T : Txt w K mg) : Fun K "taken_by_eye" "taken_by_eye" s_taken_by_eye (He.ga K "taken_by_eye") (fdA K (He.ga K "taken_by_eye")) := He5.fun_of T.D_taken_by_eye
theorem Txt.D_taken_by_scanner (T : Txt w K mg) : FunD K "taken_by_scanner" "taken_by_scanner" (defArgs s_taken_by_scanner) (defBody s_taken_by_scanner) (defScope s_taken_by_scanner) [] [] (He.ga K "taken_by_scanner") (fdA K (He.ga K "taken_by_scanner")) := T.def_ 8
theorem Txt.F_taken_by_scanner (T : Txt w K mg) : Fun K "taken_by_scanner" "taken_by_scanner" s_taken_by_scanner (He.ga K "taken_by_scanner") (fdA K (He.ga K "taken_by_scanner")) := He5.fun_of T.D_taken_by_scanner
theorem Txt.D_come (T : Txt w K mg) : FunD K "come" "come" (defArgs s_come) (defBody s_come) (defScope s_come) [] [] (He.ga K "come") (fdA K (He.ga K "come")) := T.def_ 9
theorem Txt.F_come (T : Txt w K mg) : Fun K "come" "come" s_come (He.ga K "come") (fdA K (He.ga K "come")) := He5.fun_of T.D_come
theorem Txt.D_passed (T : Txt w K mg) : FunD K "passed" "passed" (defArgs s_passed) (defBody s_passed) (defScope s_passed) [] [] (He.ga K "passed") (fdA K (He.ga K "passed")) := T.def_ 10
theorem Txt.F_passed (T : Txt w K mg) : Fun K "passed" "passed" s_passed (He.ga K "passed") (fdA K (He.ga K "passed")) := He5.fun_of T.D_passed
theorem Txt.D_moved (T : Txt w K mg) : FunD K "moved" "moved" (defArgs s_moved) (defBody s_moved) (defScope s_moved) [] [] (He.ga K "moved") (fdA K (He.ga K "moved")) := T.def_ 11
theorem Txt.F_moved (T : Txt w K mg) : Fun K "moved" "moved" s_moved (He.ga K "moved") (fdA K (He.ga K "moved")) := He5.fun_of T.D_moved
theorem Txt.D_codes_of (T : Txt w K mg) : FunD K "codes_of" "codes_of" (defArgs s_codes_of) (defBody s_codes_of) (defScope s_codes_of) [] [] (He.ga K "codes_of") (fdA K (He.ga K "codes_of")) := T.def_ 12
theorem Txt.F_codes_of (T : Txt w K mg) : Fun K "codes_of" "codes_of" s_codes_of (He.ga K "codes_of") (fdA K (He.ga K "codes_of")) := He5.fun_of T.D_codes_of
theorem Txt.D_place_of (T : Txt w K mg) : FunD K "place_of" "place_of" (defArgs s_place_of) (defBody s_place_of) (defScope s_place_of) [] [] (He.ga K "place_of") (fdA K (He.ga K "place_of")) := T.def_ 13
theorem Txt.F_place_of (T : Txt w K mg) : Fun K "place_of" "place_of" s_place_of (He.ga K "place_of") (fdA K (He.ga K "place_of")) := He5.fun_of T.D_place_of
theorem Txt.D_state_of (T : Txt w K mg) : FunD K "state_of" "state_of" (defArgs s_state_of) (defBody s_state_of) (defScope s_state_of) [] [] (He.ga K "state_of") (fdA K (He.ga K "state_of")) := T.def_ 14
theorem Txt.F_state_of (T : Txt w K mg) : Fun K "state_of" "state_of" s_state_of (He.ga K "state_of") (fdA K (He.ga K "state_of")) := He5.fun_of T.D_state_of
theorem Txt.D_word_of_sending (T : Txt w K mg) : FunD K "word_of_sending" "word_of_sending" (defArgs s_word_of_sending) (defBody s_word_of_sending) (defScope s_word_of_sending) [] [] (He.ga K "word_of_sending") (fdA K (He.ga K "word_of_sending")) := T.def_ 15
theorem Txt.F_word_of_sending (T : Txt w K mg) : Fun K "word_of_sending" "word_of_sending" s_word_of_sending (He.ga K "word_of_sending") (fdA K (He.ga K "word_of_sending")) := He5.fun_of T.D_word_of_sending
theorem Txt.D_first_place (T : Txt w K mg) : FunD K "first_place" "first_place" (defArgs s_first_place) (defBody s_first_place) (defScope s_first_place) [] [] (He.ga K "first_place") (fdA K (He.ga K "first_place")) := T.def_ 16
theorem Txt.F_first_place (T : Txt w K mg) : Fun K "first_place" "first_place" s_first_place (He.ga K "first_place") (fdA K (He.ga K "first_place")) := He5.fun_of T.D_first_place
theorem Txt.D_all_deeds (T : Txt w K mg) : FunD K "all_deeds" "all_deeds" (defArgs s_all_deeds) (defBody s_all_deeds) (defScope s_all_deeds) [] [] (He.ga K "all_deeds") (fdA K (He.ga K "all_deeds")) := T.def_ 17
theorem Txt.F_all_deeds (T : Txt w K mg) : Fun K "all_deeds" "all_deeds" s_all_deeds (He.ga K "all_deeds") (fdA K (He.ga K "all_deeds")) := He5.fun_of T.D_all_deeds
theorem Txt.D_deeds_at (T : Txt w K mg) : FunD K "deeds_at" "deeds_at" (defArgs s_deeds_at) (defBody s_deeds_at) (defScope s_deeds_at) [] [] (He.ga K "deeds_at") (fdA K (He.ga K "deeds_at")) := T.def_ 18
theorem Txt.F_deeds_at (T : Txt w K mg) : Fun K "deeds_at" "deeds_at" s_deeds_at (He.ga K "deeds_at") (fdA K (He.ga K "deeds_at")) := He5.fun_of T.D_deeds_at
theorem Txt.D_behind (T : Txt w K mg) : FunD K "behind" "behind" (defArgs s_behind) (defBody s_behind) (defScope s_behind) [] [] (He.ga K "behind") (fdA K (He.ga K "behind")) := T.def_ 19
theorem Txt.F_behind (T : Txt w K mg) : Fun K "behind" "behind" s_behind (He.ga K "behind") (fdA K (He.ga K "behind")) := He5.fun_of T.D_behind
theorem Txt.D_need_most (T : Txt w K mg) : FunD K "need_most" "need_most" (defArgs s_need_most) (defBody s_need_most) (defScope s_need_most) [] [] (He.ga K "need_most") (fdA K (He.ga K "need_most")) := T.def_ 20
theorem Txt.F_need_most (T : Txt w K mg) : Fun K "need_most" "need_most" s_need_most (He.ga K "need_most") (fdA K (He.ga K "need_most")) := He5.fun_of T.D_need_most
theorem Txt.D_is_astray (T : Txt w K mg) : FunD K "is_astray" "is_astray" (defArgs s_is_astray) (defBody s_is_astray) (defScope s_is_astray) [] [] (He.ga K "is_astray") (fdA K (He.ga K "is_astray")) := T.def_ 21
theorem Txt.F_is_astray (T : Txt w K mg) : Fun K "is_astray" "is_astray" s_is_astray (He.ga K "is_astray") (fdA K (He.ga K "is_astray")) := He5.fun_of T.D_is_astray
theorem Txt.D_judged (T : Txt w K mg) : FunD K "judged" "judged" (defArgs s_judged) (defBody s_judged) (defScope s_judged) [] [("strict", V.bl false), ("most", V.int 5000)] (He.ga K "judged") (fdA K (He.ga K "judged")) := T.def_ 22
theorem Txt.D_is_stretch (T : Txt w K mg) : FunD K "is_stretch" "is_stretch" (defArgs s_is_stretch) (defBody s_is_stretch) (defScope s_is_stretch) [] [] (He.ga K "is_stretch") (fdA K (He.ga K "is_stretch")) := T.def_ 23
theorem Txt.F_is_stretch (T : Txt w K mg) : Fun K "is_stretch" "is_stretch" s_is_stretch (He.ga K "is_stretch") (fdA K (He.ga K "is_stretch")) := He5.fun_of T.D_is_stretch
theorem Txt.D_is_slips (T : Txt w K mg) : FunD K "is_slips" "is_slips" (defArgs s_is_slips) (defBody s_is_slips) (defScope s_is_slips) [] [] (He.ga K "is_slips") (fdA K (He.ga K "is_slips")) := T.def_ 24
theorem Txt.F_is_slips (T : Txt w K mg) : Fun K "is_slips" "is_slips" s_is_slips (He.ga K "is_slips") (fdA K (He.ga K "is_slips")) := He5.fun_of T.D_is_slips
theorem Txt.D_need_chute (T : Txt w K mg) : FunD K "need_chute" "need_chute" (defArgs s_need_chute) (defBody s_need_chute) (defScope s_need_chute) [] [] (He.ga K "need_chute") (fdA K (He.ga K "need_chute")) := T.def_ 25
theorem Txt.F_need_chute (T : Txt w K mg) : Fun K "need_chute" "need_chute" s_need_chute (He.ga K "need_chute") (fdA K (He.ga K "need_chute")) := He5.fun_of T.D_need_chute
theorem Txt.D__law_bag (T : Txt w K mg) : FunD K "_law_bag" "_law_bag" (defArgs s__law_bag) (defBody s__law_bag) (defScope s__law_bag) [] [] (He.ga K "_law_bag") (fdA K (He.ga K "_law_bag")) := T.def_ 26
theorem Txt.F__law_bag (T : Txt w K mg) : Fun K "_law_bag" "_law_bag" s__law_bag (He.ga K "_law_bag") (fdA K (He.ga K "_law_bag")) := He5.fun_of T.D__law_bag
theorem Txt.D__law_draw (T : Txt w K mg) : FunD K "_law_draw" "_law_draw" (defArgs s__law_draw) (defBody s__law_draw) (defScope s__law_draw) [] [] (He.ga K "_law_draw") (fdA K (He.ga K "_law_draw")) := T.def_ 27
theorem Txt.F__law_draw (T : Txt w K mg) : Fun K "_law_draw" "_law_draw" s__law_draw (He.ga K "_law_draw") (fdA K (He.ga K "_law_draw")) := He5.fun_of T.D__law_draw
theorem Txt.D__law_of (T : Txt w K mg) : FunD K "_law_of" "_law_of" (defArgs s__law_of) (defBody s__law_of) (defScope s__law_of) [] [] (He.ga K "_law_of") (fdA K (He.ga K "_law_of")) := T.def_ 28
theorem Txt.F__law_of (T : Txt w K mg) : Fun K "_law_of" "_law_of" s__law_of (He.ga K "_law_of") (fdA K (He.ga K "_law_of")) := He5.fun_of T.D__law_of
theorem Txt.D__law_same (T : Txt w K mg) : FunD K "_law_same" "_law_same" (defArgs s__law_same) (defBody s__law_same) (defScope s__law_same) [] [] (He.ga K "_law_same") (fdA K (He.ga K "_law_same")) := T.def_ 29
theorem Txt.F__law_same (T : Txt w K mg) : Fun K "_law_same" "_law_same" s__law_same (He.ga K "_law_same") (fdA K (He.ga K "_law_same")) := He5.fun_of T.D__law_same
theorem Txt.D__law_field (T : Txt w K mg) : FunD K "_law_field" "_law_field" (defArgs s__law_field) (defBody s__law_field) (defScope s__law_field) [] [] (He.ga K "_law_field") (fdA K (He.ga K "_law_field")) := T.def_ 30
theorem Txt.F__law_field (T : Txt w K mg) : Fun K "_law_field" "_law_field" s__law_field (He.ga K "_law_field") (fdA K (He.ga K "_law_field")) := He5.fun_of T.D__law_field
theorem Txt.D__law_got (T : Txt w K mg) : FunD K "_law_got" "_law_got" (defArgs s__law_got) (defBody s__law_got) (defScope s__law_got) [] [] (He.ga K "_law_got") (fdA K (He.ga K "_law_got")) := T.def_ 31
theorem Txt.F__law_got (T : Txt w K mg) : Fun K "_law_got" "_law_got" s__law_got (He.ga K "_law_got") (fdA K (He.ga K "_law_got")) := He5.fun_of T.D__law_got
theorem Txt.D__law_slip_words (T : Txt w K mg) : FunD K "_law_slip_words" "_law_slip_words" (defArgs s__law_slip_words) (defBody s__law_slip_words) (defScope s__law_slip_words) [] [] (He.ga K "_law_slip_words") (fdA K (He.ga K "_law_slip_words")) := T.def_ 32
theorem Txt.F__law_slip_words (T : Txt w K mg) : Fun K "_law_slip_words" "_law_slip_words" s__law_slip_words (He.ga K "_law_slip_words") (fdA K (He.ga K "_law_slip_words")) := He5.fun_of T.D__law_slip_words
theorem Txt.D__law_planned (T : Txt w K mg) : FunD K "_law_planned" "_law_planned" (defArgs s__law_planned) (defBody s__law_planned) (defScope s__law_planned) [] [] (He.ga K "_law_planned") (fdA K (He.ga K "_law_planned")) := T.def_ 33
theorem Txt.F__law_planned (T : Txt w K mg) : Fun K "_law_planned" "_law_planned" s__law_planned (He.ga K "_law_planned") (fdA K (He.ga K "_law_planned")) := He5.fun_of T.D__law_planned
theorem Txt.D__law_small (T : Txt w K mg) : FunD K "_law_small" "_law_small" (defArgs s__law_small) (defBody s__law_small) (defScope s__law_small) [] [] (He.ga K "_law_small") (fdA K (He.ga K "_law_small")) := T.def_ 34
theorem Txt.F__law_small (T : Txt w K mg) : Fun K "_law_small" "_law_small" s__law_small (He.ga K "_law_small") (fdA K (He.ga K "_law_small")) := He5.fun_of T.D__law_small
theorem Txt.D__law_made_line (T : Txt w K mg) : FunD K "_law_made_line" "_law_made_line" (defArgs s__law_made_line) (defBody s__law_made_line) (defScope s__law_made_line) [] [] (He.ga K "_law_made_line") (fdA K (He.ga K "_law_made_line")) := T.def_ 35
theorem Txt.F__law_made_line (T : Txt w K mg) : Fun K "_law_made_line" "_law_made_line" s__law_made_line (He.ga K "_law_made_line") (fdA K (He.ga K "_law_made_line")) := He5.fun_of T.D__law_made_line
theorem Txt.D__law_made_tracker (T : Txt w K mg) : FunD K "_law_made_tracker" "_law_made_tracker" (defArgs s__law_made_tracker) (defBody s__law_made_tracker) (defScope s__law_made_tracker) [] [] (He.ga K "_law_made_tracker") (fdA K (He.ga K "_law_made_tracker")) := T.def_ 36
theorem Txt.F__law_made_tracker (T : Txt w K mg) : Fun K "_law_made_tracker" "_law_made_tracker" s__law_made_tracker (He.ga K "_law_made_tracker") (fdA K (He.ga K "_law_made_tracker")) := He5.fun_of T.D__law_made_tracker
theorem Txt.D__law_made_plant (T : Txt w K mg) : FunD K "_law_made_plant" "_law_made_plant" (defArgs s__law_made_plant) (defBody s__law_made_plant) (defScope s__law_made_plant) [] [] (He.ga K "_law_made_plant") (fdA K (He.ga K "_law_made_plant")) := T.def_ 37
theorem Txt.F__law_made_plant (T : Txt w K mg) : Fun K "_law_made_plant" "_law_made_plant" s__law_made_plant (He.ga K "_law_made_plant") (fdA K (He.ga K "_law_made_plant")) := He5.fun_of T.D__law_made_plant
theorem Txt.D__law_begun (T : Txt w K mg) : FunD K "_law_begun" "_law_begun" (defArgs s__law_begun) (defBody s__law_begun) (defScope s__law_begun) [] [] (He.ga K "_law_begun") (fdA K (He.ga K "_law_begun")) := T.def_ 38
theorem Txt.F__law_begun (T : Txt w K mg) : Fun K "_law_begun" "_law_begun" s__law_begun (He.ga K "_law_begun") (fdA K (He.ga K "_law_begun")) := He5.fun_of T.D__law_begun
theorem Txt.D__law_late_slips (T : Txt w K mg) : FunD K "_law_late_slips" "_law_late_slips" (defArgs s__law_late_slips) (defBody s__law_late_slips) (defScope s__law_late_slips) [] [] (He.ga K "_law_late_slips") (fdA K (He.ga K "_law_late_slips")) := T.def_ 39
theorem Txt.F__law_late_slips (T : Txt w K mg) : Fun K "_law_late_slips" "_law_late_slips" s__law_late_slips (He.ga K "_law_late_slips") (fdA K (He.ga K "_law_late_slips")) := He5.fun_of T.D__law_late_slips
theorem Txt.D__law_can (T : Txt w K mg) : FunD K "_law_can" "_law_can" (defArgs s__law_can) (defBody s__law_can) (defScope s__law_can) [] [] (He.ga K "_law_can") (fdA K (He.ga K "_law_can")) := T.def_ 40
theorem Txt.F__law_can (T : Txt w K mg) : Fun K "_law_can" "_law_can" s__law_can (He.ga K "_law_can") (fdA K (He.ga K "_law_can")) := He5.fun_of T.D__law_can
theorem Txt.D__law_add (T : Txt w K mg) : FunD K "_law_add" "_law_add" (defArgs s__law_add) (defBody s__law_add) (defScope s__law_add) [] [] (He.ga K "_law_add") (fdA K (He.ga K "_law_add")) := T.def_ 41
theorem Txt.F__law_add (T : Txt w K mg) : Fun K "_law_add" "_law_add" s__law_add (He.ga K "_law_add") (fdA K (He.ga K "_law_add")) := He5.fun_of T.D__law_add
theorem Txt.D__law_see (T : Txt w K mg) : FunD K "_law_see" "_law_see" (defArgs s__law_see) (defBody s__law_see) (defScope s__law_see) [] [] (He.ga K "_law_see") (fdA K (He.ga K "_law_see")) := T.def_ 42
theorem Txt.F__law_see (T : Txt w K mg) : Fun K "_law_see" "_law_see" s__law_see (He.ga K "_law_see") (fdA K (He.ga K "_law_see")) := He5.fun_of T.D__law_see
theorem Txt.D__law_do (T : Txt w K mg) : FunD K "_law_do" "_law_do" (defArgs s__law_do) (defBody s__law_do) (defScope s__law_do) [] [] (He.ga K "_law_do") (fdA K (He.ga K "_law_do")) := T.def_ 43
theorem Txt.F__law_do (T : Txt w K mg) : Fun K "_law_do" "_law_do" s__law_do (He.ga K "_law_do") (fdA K (He.ga K "_law_do")) := He5.fun_of T.D__law_do
theorem Txt.D__law_all_deeds (T : Txt w K mg) : FunD K "_law_all_deeds" "_law_all_deeds" (defArgs s__law_all_deeds) (defBody s__law_all_deeds) (defScope s__law_all_deeds) [] [] (He.ga K "_law_all_deeds") (fdA K (He.ga K "_law_all_deeds")) := T.def_ 44
theorem Txt.F__law_all_deeds (T : Txt w K mg) : Fun K "_law_all_deeds" "_law_all_deeds" s__law_all_deeds (He.ga K "_law_all_deeds") (fdA K (He.ga K "_law_all_deeds")) := He5.fun_of T.D__law_all_deeds
theorem Txt.D__law_deeds (T : Txt w K mg) : FunD K "_law_deeds" "_law_deeds" (defArgs s__law_deeds) (defBody s__law_deeds) (defScope s__law_deeds) [] [] (He.ga K "_law_deeds") (fdA K (He.ga K "_law_deeds")) := T.def_ 45
theorem Txt.F__law_deeds (T : Txt w K mg) : Fun K "_law_deeds" "_law_deeds" s__law_deeds (He.ga K "_law_deeds") (fdA K (He.ga K "_law_deeds")) := He5.fun_of T.D__law_deeds
theorem Txt.D__law_walk (T : Txt w K mg) : FunD K "_law_walk" "_law_walk" (defArgs s__law_walk) (defBody s__law_walk) (defScope s__law_walk) [] [] (He.ga K "_law_walk") (fdA K (He.ga K "_law_walk")) := T.def_ 46
theorem Txt.F__law_walk (T : Txt w K mg) : Fun K "_law_walk" "_law_walk" s__law_walk (He.ga K "_law_walk") (fdA K (He.ga K "_law_walk")) := He5.fun_of T.D__law_walk
theorem Txt.D_law (T : Txt w K mg) : FunD K "law" "law" (defArgs s_law) (defBody s_law) (defScope s_law) [] [] (He.ga K "law") (fdA K (He.ga K "law")) := T.def_ 47
theorem Txt.F_law (T : Txt w K mg) : Fun K "law" "law" s_law (He.ga K "law") (fdA K (He.ga K "law")) := He5.fun_of T.D_law
theorem Txt.D_Safe___init__ (T : Txt w K mg) : FunD K "__init__" "Safe.__init__" (defArgs s_Safe___init__) (defBody s_Safe___init__) (defScope s_Safe___init__) [] [] (He.ma K (He.ga K "Safe") "__init__") (fdA K (He.ma K (He.ga K "Safe") "__init__")) := T.def_ 48
theorem Txt.F_Safe___init__ (T : Txt w K mg) : Fun K "__init__" "Safe.__init__" s_Safe___init__ (He.ma K (He.ga K "Safe") "__init__") (fdA K (He.ma K (He.ga K "Safe") "__init__")) := He5.fun_of T.D_Safe___init__
theorem Txt.D_Astray___init__ (T : Txt w K mg) : FunD K "__init__" "Astray.__init__" (defArgs s_Astray___init__) (defBody s_Astray___init__) (defScope s_Astray___init__) [] [] (He.ma K (He.ga K "Astray") "__init__") (fdA K (He.ma K (He.ga K "Astray") "__init__")) := T.def_ 49
theorem Txt.F_Astray___init__ (T : Txt w K mg) : Fun K "__init__" "Astray.__init__" s_Astray___init__ (He.ma K (He.ga K "Astray") "__init__") (fdA K (He.ma K (He.ga K "Astray") "__init__")) := He5.fun_of T.D_Astray___init__
theorem Txt.D_Astray_flow (T : Txt w K mg) : FunD K "flow" "Astray.flow" (defArgs s_Astray_flow) (defBody s_Astray_flow) (defScope s_Astray_flow) [] [] (He.ma K (He.ga K "Astray") "flow") (fdA K (He.ma K (He.ga K "Astray") "flow")) := T.def_ 50
theorem Txt.F_Astray_flow (T : Txt w K mg) : Fun K "flow" "Astray.flow" s_Astray_flow (He.ma K (He.ga K "Astray") "flow") (fdA K (He.ma K (He.ga K "Astray") "flow")) := He5.fun_of T.D_Astray_flow
theorem Txt.D_Line___init__ (T : Txt w K mg) : FunD K "__init__" "Line.__init__" (defArgs s_Line___init__) (defBody s_Line___init__) (defScope s_Line___init__) [] [] (He.ma K (He.ga K "Line") "__init__") (fdA K (He.ma K (He.ga K "Line") "__init__")) := T.def_ 51
theorem Txt.F_Line___init__ (T : Txt w K mg) : Fun K "__init__" "Line.__init__" s_Line___init__ (He.ma K (He.ga K "Line") "__init__") (fdA K (He.ma K (He.ga K "Line") "__init__")) := He5.fun_of T.D_Line___init__
theorem Txt.D_Line_belts (T : Txt w K mg) : FunD K "belts" "Line.belts" (defArgs s_Line_belts) (defBody s_Line_belts) (defScope s_Line_belts) [] [] (He.ma K (He.ga K "Line") "belts") (fdA K (He.ma K (He.ga K "Line") "belts")) := T.def_ 52
theorem Txt.F_Line_belts (T : Txt w K mg) : Fun K "belts" "Line.belts" s_Line_belts (He.ma K (He.ga K "Line") "belts") (fdA K (He.ma K (He.ga K "Line") "belts")) := He5.fun_of T.D_Line_belts
theorem Txt.D_Line_words (T : Txt w K mg) : FunD K "words" "Line.words" (defArgs s_Line_words) (defBody s_Line_words) (defScope s_Line_words) [] [] (He.ma K (He.ga K "Line") "words") (fdA K (He.ma K (He.ga K "Line") "words")) := T.def_ 53
theorem Txt.F_Line_words (T : Txt w K mg) : Fun K "words" "Line.words" s_Line_words (He.ma K (He.ga K "Line") "words") (fdA K (He.ma K (He.ga K "Line") "words")) := He5.fun_of T.D_Line_words
theorem Txt.D_Line_is_scanner (T : Txt w K mg) : FunD K "is_scanner" "Line.is_scanner" (defArgs s_Line_is_scanner) (defBody s_Line_is_scanner) (defScope s_Line_is_scanner) [] [] (He.ma K (He.ga K "Line") "is_scanner") (fdA K (He.ma K (He.ga K "Line") "is_scanner")) := T.def_ 54
theorem Txt.F_Line_is_scanner (T : Txt w K mg) : Fun K "is_scanner" "Line.is_scanner" s_Line_is_scanner (He.ma K (He.ga K "Line") "is_scanner") (fdA K (He.ma K (He.ga K "Line") "is_scanner")) := He5.fun_of T.D_Line_is_scanner
theorem Txt.D_Tracker___init__ (T : Txt w K mg) : FunD K "__init__" "Tracker.__init__" (defArgs s_Tracker___init__) (defBody s_Tracker___init__) (defScope s_Tracker___init__) [] [] (He.ma K (He.ga K "Tracker") "__init__") (fdA K (He.ma K (He.ga K "Tracker") "__init__")) := T.def_ 55
theorem Txt.F_Tracker___init__ (T : Txt w K mg) : Fun K "__init__" "Tracker.__init__" s_Tracker___init__ (He.ma K (He.ga K "Tracker") "__init__") (fdA K (He.ma K (He.ga K "Tracker") "__init__")) := He5.fun_of T.D_Tracker___init__
theorem Txt.D_Tracker_rooms (T : Txt w K mg) : FunD K "rooms" "Tracker.rooms" (defArgs s_Tracker_rooms) (defBody s_Tracker_rooms) (defScope s_Tracker_rooms) [] [] (He.ma K (He.ga K "Tracker") "rooms") (fdA K (He.ma K (He.ga K "Tracker") "rooms")) := T.def_ 56
theorem Txt.F_Tracker_rooms (T : Txt w K mg) : Fun K "rooms" "Tracker.rooms" s_Tracker_rooms (He.ma K (He.ga K "Tracker") "rooms") (fdA K (He.ma K (He.ga K "Tracker") "rooms")) := He5.fun_of T.D_Tracker_rooms
theorem Txt.D_Plant___init__ (T : Txt w K mg) : FunD K "__init__" "Plant.__init__" (defArgs s_Plant___init__) (defBody s_Plant___init__) (defScope s_Plant___init__) [] [] (He.ma K (He.ga K "Plant") "__init__") (fdA K (He.ma K (He.ga K "Plant") "__init__")) := T.def_ 57
theorem Txt.F_Plant___init__ (T : Txt w K mg) : Fun K "__init__" "Plant.__init__" s_Plant___init__ (He.ma K (He.ga K "Plant") "__init__") (fdA K (He.ma K (He.ga K "Plant") "__init__")) := He5.fun_of T.D_Plant___init__
theorem Txt.D_Run___init__ (T : Txt w K mg) : FunD K "__init__" "Run.__init__" (defArgs s_Run___init__) (defBody s_Run___init__) (defScope s_Run___init__) [] [] (He.ma K (He.ga K "Run") "__init__") (fdA K (He.ma K (He.ga K "Run") "__init__")) := T.def_ 58
theorem Txt.F_Run___init__ (T : Txt w K mg) : Fun K "__init__" "Run.__init__" s_Run___init__ (He.ma K (He.ga K "Run") "__init__") (fdA K (He.ma K (He.ga K "Run") "__init__")) := He5.fun_of T.D_Run___init__
theorem Txt.D_Run_take (T : Txt w K mg) : FunD K "take" "Run.take" (defArgs s_Run_take) (defBody s_Run_take) (defScope s_Run_take) [] [] (He.ma K (He.ga K "Run") "take") (fdA K (He.ma K (He.ga K "Run") "take")) := T.def_ 59
theorem Txt.F_Run_take (T : Txt w K mg) : Fun K "take" "Run.take" s_Run_take (He.ma K (He.ga K "Run") "take") (fdA K (He.ma K (He.ga K "Run") "take")) := He5.fun_of T.D_Run_take
theorem Txt.D_Run_do (T : Txt w K mg) : FunD K "do" "Run.do" (defArgs s_Run_do) (defBody s_Run_do) (defScope s_Run_do) [] [("chute", V.int 1)] (He.ma K (He.ga K "Run") "do") (fdA K (He.ma K (He.ga K "Run") "do")) := T.def_ 60
theorem Txt.D_Run_chute_of (T : Txt w K mg) : FunD K "chute_of" "Run.chute_of" (defArgs s_Run_chute_of) (defBody s_Run_chute_of) (defScope s_Run_chute_of) [] [] (He.ma K (He.ga K "Run") "chute_of") (fdA K (He.ma K (He.ga K "Run") "chute_of")) := T.def_ 61
theorem Txt.F_Run_chute_of (T : Txt w K mg) : Fun K "chute_of" "Run.chute_of" s_Run_chute_of (He.ma K (He.ga K "Run") "chute_of") (fdA K (He.ma K (He.ga K "Run") "chute_of")) := He5.fun_of T.D_Run_chute_of
theorem Txt.D_Run_sendings (T : Txt w K mg) : FunD K "sendings" "Run.sendings" (defArgs s_Run_sendings) (defBody s_Run_sendings) (defScope s_Run_sendings) [] [] (He.ma K (He.ga K "Run") "sendings") (fdA K (He.ma K (He.ga K "Run") "sendings")) := T.def_ 62
theorem Txt.F_Run_sendings (T : Txt w K mg) : Fun K "sendings" "Run.sendings" s_Run_sendings (He.ma K (He.ga K "Run") "sendings") (fdA K (He.ma K (He.ga K "Run") "sendings")) := He5.fun_of T.D_Run_sendings
theorem Txt.D_Run_astray (T : Txt w K mg) : FunD K "astray" "Run.astray" (defArgs s_Run_astray) (defBody s_Run_astray) (defScope s_Run_astray) [] [] (He.ma K (He.ga K "Run") "astray") (fdA K (He.ma K (He.ga K "Run") "astray")) := T.def_ 63
theorem Txt.F_Run_astray (T : Txt w K mg) : Fun K "astray" "Run.astray" s_Run_astray (He.ma K (He.ga K "Run") "astray") (fdA K (He.ma K (He.ga K "Run") "astray")) := He5.fun_of T.D_Run_astray
theorem Txt.D_Run___len__ (T : Txt w K mg) : FunD K "__len__" "Run.__len__" (defArgs s_Run___len__) (defBody s_Run___len__) (defScope s_Run___len__) [] [] (He.ma K (He.ga K "Run") "__len__") (fdA K (He.ma K (He.ga K "Run") "__len__")) := T.def_ 64
theorem Txt.F_Run___len__ (T : Txt w K mg) : Fun K "__len__" "Run.__len__" s_Run___len__ (He.ma K (He.ga K "Run") "__len__") (fdA K (He.ma K (He.ga K "Run") "__len__")) := He5.fun_of T.D_Run___len__
theorem Txt.D_TooMany___init__ (T : Txt w K mg) : FunD K "__init__" "TooMany.__init__" (defArgs s_TooMany___init__) (defBody s_TooMany___init__) (defScope s_TooMany___init__) [] [] (He.ma K (He.ga K "TooMany") "__init__") (fdA K (He.ma K (He.ga K "TooMany") "__init__")) := T.def_ 65
theorem Txt.F_TooMany___init__ (T : Txt w K mg) : Fun K "__init__" "TooMany.__init__" s_TooMany___init__ (He.ma K (He.ga K "TooMany") "__init__") (fdA K (He.ma K (He.ga K "TooMany") "__init__")) := He5.fun_of T.D_TooMany___init__
theorem Txt.F_Verdict_word (T : Txt w K mg) : Fun K "word" "Verdict.word" s_Verdict_word (He5.wf K (He.ga K "Verdict") "property" "word") (fdA K (He5.wf K (He.ga K "Verdict") "property" "word")) := He5.fun_of (kws := []) (T.get_ 0)
theorem Txt.F_Line_slips (T : Txt w K mg) : Fun K "slips" "Line.slips" s_Line_slips (He5.wf K (He.ga K "Line") "property" "slips") (fdA K (He5.wf K (He.ga K "Line") "property" "slips")) := He5.fun_of (kws := []) (T.get_ 1)
theorem Txt.F_Line_stretch (T : Txt w K mg) : Fun K "stretch" "Line.stretch" s_Line_stretch (He5.wf K (He.ga K "Line") "property" "stretch") (fdA K (He5.wf K (He.ga K "Line") "property" "stretch")) := He5.fun_of (kws := []) (T.get_ 2)
theorem Txt.F_Line_last (T : Txt w K mg) : Fun K "last" "Line.last" s_Line_last (He5.wf K (He.ga K "Line") "property" "last") (fdA K (He5.wf K (He.ga K "Line") "property" "last")) := He5.fun_of (kws := []) (T.get_ 3)
theorem Txt.F_Tracker_seek (T : Txt w K mg) : Fun K "seek" "Tracker.seek" s_Tracker_seek (He5.wf K (He.ga K "Tracker") "property" "seek") (fdA K (He5.wf K (He.ga K "Tracker") "property" "seek")) := He5.fun_of (kws := []) (T.get_ 4)
theorem Txt.F_Tracker_empty (T : Txt w K mg) : Fun K "empty" "Tracker.empty" s_Tracker_empty (He5.wf K (He.ga K "Tracker") "property" "empty") (fdA K (He5.wf K (He.ga K "Tracker") "property" "empty")) := He5.fun_of (kws := []) (T.get_ 5)
theorem Txt.F_Tracker_strange (T : Txt w K mg) : Fun K "strange" "Tracker.strange" s_Tracker_strange (He5.wf K (He.ga K "Tracker") "property" "strange") (fdA K (He5.wf K (He.ga K "Tracker") "property" "strange")) := He5.fun_of (kws := []) (T.get_ 6)
theorem Txt.F_Tracker_pause (T : Txt w K mg) : Fun K "pause" "Tracker.pause" s_Tracker_pause (He5.wf K (He.ga K "Tracker") "property" "pause") (fdA K (He5.wf K (He.ga K "Tracker") "property" "pause")) := He5.fun_of (kws := []) (T.get_ 7)
theorem Txt.F_Plant_line (T : Txt w K mg) : Fun K "line" "Plant.line" s_Plant_line (He5.wf K (He.ga K "Plant") "property" "line") (fdA K (He5.wf K (He.ga K "Plant") "property" "line")) := He5.fun_of (kws := []) (T.get_ 8)
theorem Txt.F_Plant_tracker (T : Txt w K mg) : Fun K "tracker" "Plant.tracker" s_Plant_tracker (He5.wf K (He.ga K "Plant") "property" "tracker") (fdA K (He5.wf K (He.ga K "Plant") "property" "tracker")) := He5.fun_of (kws := []) (T.get_ 9)
end
end Ow
set_option Elab.async false
set_option linter.all false
set_option maxRecDepth 100000
set_option maxHeartbeats 0
namespace Ow.Hd
open PySem PySem.W PySem.Calls PyProof.Rows
abbrev R : OpenRow := OpenLaw.row PySem.Challenge.rw_ownchute_k26_whole_verdicts_against_runs
abbrev qv : Program := view R.prog [101]
def nm1 : List PySem.Str := ["_wall", "BeltError", "Missing", "WrongCount", "InvalidNumber", "InvalidWord", "InvalidPoint", "InvalidText", "InvalidDeed", "NotNow", "InvalidChute", "TooMany", "NothingLeft", "FIGURES", "WAYS_OF_SEEING", "is_number", "is_word", "read_number", "is_deed", "GONE", "BLANK", "NO_SWAP", "FRESH", "TIMES", "start", "has_room", "is_possible", "appended", "taken_by_eye", "taken_by_scanner"]
def nm2 : List PySem.Str := ["come", "passed", "moved", "codes_of", "place_of", "state_of", "word_of_sending", "MOST_PLACES", "first_place", "all_deeds", "deeds_at", "behind", "need_most", "is_astray", "Verdict", "Safe", "Astray", "judged", "SLIP_WORDS", "MOST_BELTS", "MOST_STRETCH", "is_stretch", "is_slips", "Line", "MOST_QUEUES", "MOST_ROOM", "EMPTY_WORDS", "STRANGE_WORDS", "PAUSE_WORDS", "Tracker"]
def nm3 : List PySem.Str := ["split_text", "read_numbers", "read_parts", "made_plant", "Plant", "plant_text", "need_sight", "need_chute", "Run", "_law_bag", "_law_draw", "_law_of", "_law_same", "_law_field", "_law_got", "_law_slip_words", "_law_planned", "_law_small", "_law_made_line", "_law_made_tracker", "_law_made_plant", "_law_begun", "_law_late_slips", "_law_can", "_law_add", "_law_see", "_law_do", "_law_all_deeds", "_law_deeds", "_law_walk"]
def names : List PySem.Str := nm1 ++ nm2 ++ nm3
open HandSHeadRun
/-- one run, looked at twice -/
theorem both {S α β γ : Type} {o : Option S} {f : S → α} {g : S → β} {h : S → γ} {a : α} {b : β} {c : γ} (e1 : o.map (fun s => (f s, g s)) = some (a, b)) (e2 : o.map h = some c) : o.map (fun s => (f s, g s, h s)) = some (a, b, c) := by
  cases o with
  | none => cases e2
  | some s =>
    have z1 : (f s, g s) = (a, b) := Option.some.inj e1
    have z2 : h s = c := Option.some.inj e2
    have z3 : f s = a := congrArg Prod.fst z1
    have z4 : g s = b := congrArg Prod.snd z1
    show some (f s, g s, h s) = _
    rw [z2, z3, z4]
theorem lookF (w : World) (os : OsState) : (endF (stepQ (denQ tabQ) R.prog (w.withFollow "special-get-raises" false)) 30000 R.prog (w.withFollow "special-get-raises" false) os).map (fun s => (looksF R.prog (boot_heap (World.params (w.withFollow "special-get-raises" false))) s.abs, seenQ qv names (importedModules R.prog.main.body) (fun s => xlAt qv [] s && recOk R.toRowW.records s) s.abs)) = some (true, openGood qv names) := by
  kernel_rfl
theorem toldF (w : World) (os : OsState) : (endF (stepQ (denQ tabQ) R.prog (w.withFollow "special-get-raises" false)) 30000 R.prog (w.withFollow "special-get-raises" false) os).map (fun s => obO s) = some (hookO.val (w.withFollow "special-get-raises" false)) := by
  kernel_rfl
theorem runF (w : World) : HandSHeadRun.RunEq R qv hookO obO 30000 names (w.withFollow "special-get-raises" false) := fun os => both (lookF w os) (toldF w os)
theorem lookT (w : World) (os : OsState) : (endF (stepQ (denQ tabQ) R.prog (w.withFollow "special-get-raises" true)) 30000 R.prog (w.withFollow "special-get-raises" true) os).map (fun s => (looksF R.prog (boot_heap (World.params (w.withFollow "special-get-raises" true))) s.abs, seenQ qv names (importedModules R.prog.main.body) (fun s => xlAt qv [] s && recOk R.toRowW.records s) s.abs)) = some (true, openGood qv names) := by
  kernel_rfl
theorem toldT (w : World) (os : OsState) : (endF (stepQ (denQ tabQ) R.prog (w.withFollow "special-get-raises" true)) 30000 R.prog (w.withFollow "special-get-raises" true) os).map (fun s => obO s) = some (hookO.val (w.withFollow "special-get-raises" true)) := by
  kernel_rfl
theorem runT (w : World) : HandSHeadRun.RunEq R qv hookO obO 30000 names (w.withFollow "special-get-raises" true) := fun os => both (lookT w os) (toldT w os)
theorem run (w : World) : HandSHeadRun.RunEq R qv hookO obO 30000 names w := byRow2 "special-get-raises" (P := fun w => HandSHeadRun.RunEq R qv hookO obO 30000 names w) runF runT w
end Ow.Hd
set_option linter.all false
/-! The plain law: what the program computes, with no program in sight. -/
namespace Ow

/-! ### data -/
inductive Sight where
  | once | missed | twice | swapped
  deriving DecidableEq

def Sight.times : Sight → Nat
  | .once => 1 | .missed => 0 | .twice => 2 | .swapped => 0

inductive Deed where
  | come (g : Sight)
  | pass (at_ : Nat) (g : Sight)
  | pause
  deriving DecidableEq

structure Plan where
  belts : List Int
  scans : List Int
  most : Int
  among : Int
  words : List Sight
  stretch : Option Int
  rooms : List Int
  seek : Int
  blank : Bool
  first : Bool
  clear : Bool

/-- a plan as it is drawn -/
structure Plan.Ok (p : Plan) : Prop where
  nb : 1 ≤ p.belts.length ∧ p.belts.length ≤ 3
  nr : p.rooms.length = p.belts.length
  rb : ∀ x ∈ p.belts, 1 ≤ x ∧ x ≤ 3
  rr : ∀ x ∈ p.rooms, 1 ≤ x ∧ x ≤ 4
  sc : ∀ x ∈ p.scans, 1 ≤ x ∧ x ≤ (p.belts.length : Int) - 1
  nsc : p.scans.Nodup
  mo : 0 ≤ p.most ∧ p.most ≤ 3
  am : 1 ≤ p.among ∧ p.among ≤ 6
  st : ∀ k, p.stretch = some k → 1 ≤ k ∧ k ≤ 12
  sk : 0 ≤ p.seek ∧ p.seek ≤ 3

def Plan.top (p : Plan) : Int := match p.stretch with
  | none => 1
  | some k => k
def Plan.n (p : Plan) : Nat := p.belts.length
/-- words of the plan: a sight that may slip -/
def Plan.slip (p : Plan) (g : Sight) : Bool := p.words.contains g

/-- a state: belts with labels, queues of records (-2 a blank), the open swap (-2: none), slips, comings -/
structure St where
  belts : List (List Int)
  queues : List (List Int)
  swap : Int
  slips : List Int
  comings : Int
  deriving DecidableEq

def St.start (p : Plan) : St := ⟨List.replicate p.n [], List.replicate p.n [], -2, List.replicate (p.among - 1).toNat 0, 0⟩

/-! ### which deeds are possible -/
def comeRoom (p : Plan) (s : St) : Bool :=
  !((match p.stretch with
    | none => false
    | some k => decide (k ≤ s.comings)) && decide (s.swap = -2)) && decide (((s.belts.getD 0 []).length : Int) < p.belts.getD 0 0)
def passRoom (p : Plan) (s : St) (i : Nat) : Bool :=
  decide (0 < (s.belts.getD (i - 1) []).length) && (decide (i = p.n) || decide (((s.belts.getD i []).length : Int) < p.belts.getD i 0))
def slipOk (p : Plan) (s : St) (g : Sight) : Bool := p.slip g && decide (s.slips.sum < p.most)
def total (b : List (List Int)) : Nat := (b.map List.length).sum
def possible (p : Plan) (s : St) : Deed → Bool
  | .pause => decide (total s.belts = 0) && (decide (s.swap = -2) && decide (0 < s.comings))
  | .come g => comeRoom p s && (decide (g = .once) || (decide (s.swap = -2) && slipOk p s g))
  | .pass i g => passRoom p s i && (decide (g = .once) || (!decide (g = .swapped) && slipOk p s g))

/-! ### what a deed does -/
def appended (q : List Int) (r room : Int) : List Int := if room < ((q ++ [r]).length : Int) then (q ++ [r]).drop 1 else q ++ [r]
def appAll (room : Int) : List Int → List Int → List Int
  | q, [] => q
  | q, r :: rs => appAll room (appended q r room) rs
/-- what moves on, the queue behind -/
def eye (p : Plan) (q : List Int) : List Int × List Int :=
  match q with
  | [] => ([], if p.blank then [-2] else [])
  | x :: r => (r, [x])
/-- the label among the first k records -/
def seekIn (x : Int) : Nat → List Int → Option Nat
  | 0, _ => none
  | _ + 1, [] => none
  | k + 1, y :: r => if y = x then some 0 else (seekIn x k r).map (· + 1)
def scanner (p : Plan) (q : List Int) (x : Int) : List Int × List Int :=
  match seekIn x (p.seek + 1).toNat q with
  | some i => (q.drop (i + 1), [x])
  | none => (if p.first then q.drop 1 else q, [x])
def look (p : Plan) (i : Nat) (q : List Int) (x : Int) : List Int × List Int :=
  if p.scans.contains (i : Int) then scanner p q x else eye p q
def looks (p : Plan) (i : Nat) (x : Int) : Nat → List Int → List Int × List Int
  | 0, q => (q, [])
  | k + 1, q =>
    let a := look p i q x
    let b := looks p i x k a.1
    (b.1, a.2 ++ b.2)
def lateOf (sl : List Int) (g : Sight) : List Int := (sl ++ [if g = Sight.once then 0 else 1]).drop 1
def seenAt (s : St) (g : Sight) (n : Int) : List Int := List.replicate g.times n ++ (if s.swap = -2 then [] else [s.swap])
def come (p : Plan) (s : St) (g : Sight) (n : Int) : St :=
  ⟨s.belts.set 0 (s.belts.getD 0 [] ++ [n]), s.queues.set 0 (appAll (p.rooms.getD 0 0) (s.queues.getD 0 []) (seenAt s g n)), if g = .swapped then n else -2, lateOf s.slips g, min p.top (s.comings + 1)⟩
/-- the state, the parcel, what moved on -/
def passed (p : Plan) (s : St) (i : Nat) (g : Sight) : St × Int × List Int :=
  let b := s.belts.getD (i - 1) []
  let x := b.getD 0 0
  let lk := looks p i x g.times (s.queues.getD (i - 1) [])
  let belts := s.belts.set (i - 1) (b.drop 1)
  let queues := s.queues.set (i - 1) lk.1
  (⟨if i < p.n then belts.set i (belts.getD i [] ++ [x]) else belts,
    if i < p.n then queues.set i (appAll (p.rooms.getD i 0) (queues.getD i []) lk.2) else queues,
    s.swap, lateOf s.slips g, s.comings⟩, x, lk.2)
def moved (p : Plan) (s : St) (d : Deed) (n : Int) : St × Option (Int × Int) :=
  match d with
  | .pause => (⟨s.belts, if p.clear then List.replicate s.queues.length [] else s.queues, s.swap, s.slips, 0⟩, none)
  | .come g => (come p s g n, none)
  | .pass i g =>
    let r := passed p s i g
    (r.1, if i < p.n then none else some (r.2.1, r.2.2.getD 0 (-2)))

/-! ### places -/
structure Place where
  counts : List Int
  queues : List (List Int)
  swap : Int
  slips : List Int
  comings : Int
  deriving DecidableEq
def order (b : List (List Int)) : List Int := (b.map List.reverse).flatten
def code (b : List (List Int)) (x : Int) : Int := if x ∈ order b then ((order b).idxOf x : Int) else min x (-1)
def placeOf (s : St) : Place := ⟨s.belts.map fun b => (b.length : Int), s.queues.map (List.map (code s.belts)), code s.belts s.swap, s.slips, s.comings⟩
def beltAt (many c : Int) : List Int := (List.range c.toNat).map fun (i : Nat) => many + c - 1 - (i : Int)
def beltsFrom : Int → List Int → List (List Int)
  | _, [] => []
  | many, c :: cs => beltAt many c :: beltsFrom (many + c) cs
def stateOf (pl : Place) : St := ⟨beltsFrom 0 pl.counts, pl.queues, pl.swap, pl.slips, pl.comings⟩
inductive Word where
  | on | own | other
  deriving DecidableEq
def wordOf : Option (Int × Int) → Option Word
  | none => none
  | some (x, r) => some (if r = -2 then .on else if x = r then .own else .other)
def behind (p : Plan) (pl : Place) (d : Deed) : Place × Option Word :=
  let m := moved p (stateOf pl) d (-9)
  (placeOf m.1, wordOf m.2)
def sights : List Sight := [.once, .missed, .twice, .swapped]
def allDeeds (p : Plan) : List Deed := ((Sight.once :: p.words).map Deed.come) ++ ((List.range p.n).map fun i => (Sight.once :: p.words).map (Deed.pass (i + 1))).flatten ++ [.pause]
def deedsAt (p : Plan) (pl : Place) : List Deed := (allDeeds p).filter (possible p (stateOf pl))
def firstPlace (p : Plan) : Place := placeOf (St.start p)

/-! ### the law's own flow -/
structure LR where
  belts : List (List Int)
  queues : List (List (Option Int))
  swap : Option Int
  slips : List Int
  since : Int
  came : Int
  sent : List (Int × Option Int)
def LR.begun (p : Plan) : LR := ⟨List.replicate p.n [], List.replicate p.n [], none, [], 0, 0, []⟩
def lLate (p : Plan) (r : LR) : List Int :=
  let m := p.among - 1
  let fl := List.replicate m.toNat 0 ++ r.slips
  fl.drop (fl.length - m.toNat)
def lSlip (p : Plan) (r : LR) (g : Sight) : Bool := decide (g = .once) || !((!p.words.contains g) || decide (p.most < (lLate p r).sum + 1))
def lCan (p : Plan) (r : LR) : Deed → Bool
  | .pause => decide (r.belts = List.replicate r.belts.length []) && (decide (r.swap = none) && decide (0 < r.since))
  | .come g => lSlip p r g && (!(!decide (r.swap = none) && !decide (g = .once)) && (!decide (((r.belts.getD 0 []).length : Int) = p.belts.getD 0 0) &&
      ((match p.stretch with
        | none => true
        | some k => !decide (r.swap = none) || decide (r.since < k)))))
  | .pass i g => lSlip p r g && (!(decide (g = .swapped) || decide (r.belts.getD (i - 1) [] = [])) && (decide (i = r.belts.length) || decide (((r.belts.getD i []).length : Int) < p.belts.getD i 0)))
def lAdd (q : List (Option Int)) (x : Option Int) (room : Int) : List (Option Int) := if room < ((q ++ [x]).length : Int) then (q ++ [x]).drop 1 else q ++ [x]
def lAddAll (room : Int) : List (Option Int) → List (Option Int) → List (Option Int)
  | q, [] => q
  | q, r :: rs => lAddAll room (lAdd q r room) rs
def lSee (p : Plan) (i : Nat) (q : List (Option Int)) (x : Int) : List (Option Int) × List (Option Int) :=
  if p.scans.contains (i : Int) then
    (if (q.take (p.seek + 1).toNat).contains (some x) then q.drop (q.idxOf (some x) + 1) else if p.first && decide (q ≠ []) then q.drop 1 else q, [some x])
  else match q with
    | [] => ([], if p.blank then [none] else [])
    | y :: r => (r, [y])
def lSees (p : Plan) (i : Nat) (x : Int) : Nat → List (Option Int) → List (Option Int) → List (Option Int) × List (Option Int)
  | 0, q, on => (q, on)
  | k + 1, q, on => lSees p i x k (lSee p i q x).1 (on ++ (lSee p i q x).2)
def lDo (p : Plan) (r : LR) : Deed → LR
  | .pause => { r with since := 0, queues := if p.clear then List.replicate r.queues.length [] else r.queues }
  | .come g =>
    ⟨r.belts.set 0 (r.belts.getD 0 [] ++ [r.came]), r.queues.set 0 (lAddAll (p.rooms.getD 0 0) (r.queues.getD 0 []) (List.replicate g.times (some r.came) ++ (match r.swap with
        | none => []
        | some o => [some o]))),
      if g = .swapped then some r.came else none, r.slips ++ [if g = .once then 0 else 1], r.since + 1, r.came + 1, r.sent⟩
  | .pass i g =>
    let b := r.belts.getD (i - 1) []
    let x := b.getD 0 0
    let sn := lSees p i x g.times (r.queues.getD (i - 1) []) []
    let belts := r.belts.set (i - 1) (b.drop 1)
    let queues := r.queues.set (i - 1) sn.1
    if i = r.belts.length then { r with belts := belts, queues := queues, slips := r.slips ++ [if g = .once then 0 else 1], sent := r.sent ++ [(x, sn.2.getD 0 none)] }
    else { r with belts := belts.set i (belts.getD i [] ++ [x]), queues := queues.set i (lAddAll (p.rooms.getD i 0) (queues.getD i []) sn.2), slips := r.slips ++ [if g = .once then 0 else 1] }
/-- the deeds that are asked at all: points in range -/
def inRange (p : Plan) : Deed → Bool
  | .pass i _ => decide (1 ≤ i) && decide (i ≤ p.n)
  | _ => true
def lAllDeeds (p : Plan) : List Deed := (sights.map Deed.come) ++ ((List.range p.n).map fun i => sights.map (Deed.pass (i + 1))).flatten ++ [.pause]
def lDeeds (p : Plan) (r : LR) : List Deed := (lAllDeeds p).filter (lCan p r)
end Ow
set_option linter.all false
namespace Ow
/-! ### labels renamed -/
def St.map (g : Int → Int) (s : St) : St := ⟨s.belts.map (List.map g), s.queues.map (List.map g), g s.swap, s.slips, s.comings⟩
theorem mem_order {b : List (List Int)} {x : Int} : x ∈ order b ↔ ∃ l ∈ b, x ∈ l := by
  unfold order
  rw [List.mem_flatten]
  constructor
  · rintro ⟨l, hl, hx⟩
    obtain ⟨b', hb, rfl⟩ := List.mem_map.mp hl
    exact ⟨b', hb, List.mem_reverse.mp hx⟩
  · rintro ⟨l, hl, hx⟩
    exact ⟨l.reverse, List.mem_map.mpr ⟨l, hl, rfl⟩, List.mem_reverse.mpr hx⟩
theorem getD_map_nil (g : Int → Int) (b : List (List Int)) (i : Nat) : (b.map (List.map g)).getD i [] = (b.getD i []).map g := by
  simp only [List.getD_eq_getElem?_getD, List.getElem?_map]
  cases b[i]? <;> rfl
theorem getD_mem {α : Type} {l : List α} {i : Nat} {d : α} (h : i < l.length) : l.getD i d ∈ l := by
  rw [List.getD_eq_getElem?_getD, List.getElem?_eq_getElem h]
  exact List.getElem_mem h
theorem mem_getD {b : List (List Int)} {i : Nat} {x : Int} (h : x ∈ b.getD i []) : b.getD i [] ∈ b := by
  by_cases hi : i < b.length
  · exact getD_mem hi
  · rw [List.getD_eq_getElem?_getD, List.getElem?_eq_none (by omega)] at h
    cases h
theorem appended_map (g : Int → Int) (q : List Int) (r room : Int) : appended (q.map g) (g r) room = (appended q r room).map g := by
  unfold appended
  rw [show q.map g ++ [g r] = (q ++ [r]).map g by simp, List.length_map]
  split
  · rw [List.map_drop]
  · rfl
theorem appAll_map (g : Int → Int) (room : Int) : ∀ (rs q : List Int), appAll room (q.map g) (rs.map g) = (appAll room q rs).map g
  | [], q => rfl
  | r :: rs, q => by
    show appAll room (appended (q.map g) (g r) room) (rs.map g) = (appAll room (appended q r room) rs).map g
    rw [appended_map, appAll_map g room rs]
theorem seekIn_map (g : Int → Int) (x : Int) : ∀ (k : Nat) (q : List Int), (∀ r ∈ q, g r = g x → r = x) → seekIn (g x) k (q.map g) = seekIn x k q
  | 0, _, _ => rfl
  | _ + 1, [], _ => rfl
  | k + 1, y :: r, h => by
    show (if g y = g x then some 0 else (seekIn (g x) k (r.map g)).map (· + 1)) = (if y = x then some 0 else (seekIn x k r).map (· + 1))
    rw [seekIn_map g x k r fun z hz => h z (List.mem_cons_of_mem _ hz)]
    by_cases e : y = x
    · rw [if_pos e, if_pos (by rw [e])]
    · rw [if_neg e, if_neg (fun z => e (h y List.mem_cons_self z))]
theorem look_map (g : Int → Int) (hb : g (-2) = -2) (p : Plan) (i : Nat) (q : List Int) (x : Int) (h : ∀ r ∈ q, g r = g x → r = x) :
    look p i (q.map g) (g x) = ((look p i q x).1.map g, (look p i q x).2.map g) := by
  unfold look
  split
  · unfold scanner
    rw [seekIn_map g x _ q h]
    cases seekIn x (p.seek + 1).toNat q with
    | some j => simp [List.map_drop]
    | none => by_cases hf : p.first = true <;> simp [hf, List.map_drop]
  · unfold eye
    cases q with
    | nil => by_cases hf : p.blank = true <;> simp [hf, hb]
    | cons y r => rfl
theorem look_sub (p : Plan) (i : Nat) (q : List Int) (x : Int) : ∀ r ∈ (look p i q x).1, r ∈ q := by
  intro r hr
  unfold look at hr
  split at hr
  · unfold scanner at hr
    cases e : seekIn x (p.seek + 1).toNat q with
    | some j =>
      rw [e] at hr
      exact List.mem_of_mem_drop hr
    | none =>
      rw [e] at hr
      by_cases hf : p.first = true
      · simp only [hf, if_true] at hr
        exact List.mem_of_mem_drop hr
      · simp only [hf] at hr
        exact hr
  · unfold eye at hr
    cases q with
    | nil => exact hr
    | cons y l => exact List.mem_cons_of_mem _ hr
theorem look_on (p : Plan) (i : Nat) (q : List Int) (x : Int) : ∀ r ∈ (look p i q x).2, r = x ∨ r = -2 ∨ r ∈ q := by
  intro r hr
  unfold look at hr
  split at hr
  · unfold scanner at hr
    cases e : seekIn x (p.seek + 1).toNat q with
    | some j =>
      rw [e] at hr
      exact .inl (List.mem_singleton.mp hr)
    | none =>
      rw [e] at hr
      exact .inl (List.mem_singleton.mp hr)
  · unfold eye at hr
    cases q with
    | nil =>
      by_cases hf : p.blank = true
      · simp only [hf, if_true] at hr
        exact .inr (.inl (List.mem_singleton.mp hr))
      · simp only [hf] at hr
        cases hr
    | cons y l =>
      exact .inr (.inr (by rw [List.mem_singleton.mp hr]; exact List.mem_cons_self))
theorem looks_map (g : Int → Int) (hb : g (-2) = -2) (p : Plan) (i : Nat) (x : Int) : ∀ (k : Nat) (q : List Int), (∀ r ∈ q, g r = g x → r = x) →
    looks p i (g x) k (q.map g) = ((looks p i x k q).1.map g, (looks p i x k q).2.map g)
  | 0, q, _ => rfl
  | k + 1, q, h => by
    unfold looks
    rw [look_map g hb p i q x h]
    simp only
    rw [looks_map g hb p i x k _ fun r hr => h r (look_sub p i q x r hr)]
    simp
theorem looks_sub (p : Plan) (i : Nat) (x : Int) : ∀ (k : Nat) (q : List Int), ∀ r ∈ (looks p i x k q).1, r ∈ q
  | 0, q, r, h => h
  | k + 1, q, r, h => by
    unfold looks at h
    exact look_sub p i q x r (looks_sub p i x k _ r h)
theorem looks_on (p : Plan) (i : Nat) (x : Int) : ∀ (k : Nat) (q : List Int), ∀ r ∈ (looks p i x k q).2, r = x ∨ r = -2 ∨ r ∈ q
  | 0, q, r, h => by cases h
  | k + 1, q, r, h => by
    unfold looks at h
    rcases List.mem_append.mp h with h | h
    · exact look_on p i q x r h
    · rcases looks_on p i x k _ r h with h | h | h
      · exact .inl h
      · exact .inr (.inl h)
      · exact .inr (.inr (look_sub p i q x r h))
/-- what a renaming must keep -/
structure Fits (g : Int → Int) (s : St) : Prop where
  blank : g (-2) = -2
  swap : g s.swap = -2 → s.swap = -2
  inj : ∀ x ∈ order s.belts, ∀ q ∈ s.queues, ∀ r ∈ q, g r = g x → r = x
theorem Fits.sw {g : Int → Int} {s : St} (h : Fits g s) : (g s.swap = -2) ↔ (s.swap = -2) := ⟨h.swap, fun e => by rw [e]; exact h.blank⟩
theorem total_map (g : Int → Int) (b : List (List Int)) : total (b.map (List.map g)) = total b := by
  unfold total
  rw [List.map_map]
  congr 1
  apply List.map_congr_left
  intro x _
  simp
theorem possible_map {g : Int → Int} {s : St} (h : Fits g s) (p : Plan) (d : Deed) : possible p (s.map g) d = possible p s d := by
  have e : (decide ((s.map g).swap = -2)) = decide (s.swap = -2) := by
    show decide (g s.swap = -2) = _
    exact decide_eq_decide.mpr h.sw
  have l : ∀ i, ((s.map g).belts.getD i []).length = (s.belts.getD i []).length := fun i => by
    show ((s.belts.map (List.map g)).getD i []).length = _
    rw [getD_map_nil, List.length_map]
  cases d with
  | pause =>
    show (decide (total (s.belts.map (List.map g)) = 0) && (decide ((s.map g).swap = -2) && decide (0 < s.comings))) = _
    rw [total_map, e] <;> rfl
  | come w =>
    unfold possible comeRoom slipOk
    rw [e, l] <;> rfl
  | pass i w =>
    show (passRoom p (s.map g) i && (decide (w = .once) || (!decide (w = .swapped) && slipOk p (s.map g) w))) = (passRoom p s i && (decide (w = .once) || (!decide (w = .swapped) && slipOk p s w)))
    unfold passRoom slipOk
    rw [l, l] <;> rfl
theorem seen_map {g : Int → Int} {s : St} (h : Fits g s) (w : Sight) (n : Int) : seenAt (s.map g) w (g n) = (seenAt s w n).map g := by
  unfold seenAt
  rw [List.map_append, List.map_replicate]
  congr 1
  show (if g s.swap = -2 then [] else [g s.swap]) = _
  by_cases e : s.swap = -2
  · rw [if_pos (h.sw.mpr e), if_pos e] <;> rfl
  · rw [if_neg (fun z => e (h.sw.mp z)), if_neg e] <;> rfl
theorem come_map {g : Int → Int} {s : St} (h : Fits g s) (p : Plan) (w : Sight) (n : Int) : come p (s.map g) w (g n) = (come p s w n).map g := by
  unfold come
  rw [seen_map h]
  show St.mk ((s.belts.map (List.map g)).set 0 ((s.belts.map (List.map g)).getD 0 [] ++ [g n])) ((s.queues.map (List.map g)).set 0 (appAll (p.rooms.getD 0 0) ((s.queues.map (List.map g)).getD 0 []) ((seenAt s w n).map g))) _ _ _ = St.map g _
  rw [getD_map_nil, getD_map_nil, appAll_map]
  unfold St.map
  simp only [St.mk.injEq, List.map_set, List.map_append, List.map_cons, List.map_nil, true_and]
  by_cases e : w = .swapped
  · simp [e, St.map]
  · simp [e, St.map, h.blank]
theorem getD_head {b : List Int} (g : Int → Int) (h : b ≠ []) : (b.map g).getD 0 0 = g (b.getD 0 0) := by
  cases b with
  | nil => exact absurd rfl h
  | cons x r => rfl
theorem passed_map {g : Int → Int} {s : St} (h : Fits g s) (p : Plan) (i : Nat) (w : Sight) (hb : s.belts.getD (i - 1) [] ≠ []) :
    passed p (s.map g) i w = ((passed p s i w).1.map g, g (passed p s i w).2.1, (passed p s i w).2.2.map g) := by
  have hx : (s.belts.getD (i - 1) []).getD 0 0 ∈ order s.belts := by
    have h1 : 0 < (s.belts.getD (i - 1) []).length := List.length_pos_iff.mpr hb
    have h2 : (s.belts.getD (i - 1) []).getD 0 0 ∈ s.belts.getD (i - 1) [] := getD_mem h1
    exact mem_order.mpr ⟨_, mem_getD h2, h2⟩
  have e1 : ((s.map g).belts.getD (i - 1) []) = (s.belts.getD (i - 1) []).map g := getD_map_nil g _ _
  have e2 : ((s.map g).queues.getD (i - 1) []) = (s.queues.getD (i - 1) []).map g := getD_map_nil g _ _
  have e3 : ∀ r ∈ s.queues.getD (i - 1) [], g r = g ((s.belts.getD (i - 1) []).getD 0 0) → r = (s.belts.getD (i - 1) []).getD 0 0 := fun r hr => h.inj _ hx _ (mem_getD hr) r hr
  unfold passed
  simp only [e1, e2, getD_head g hb, looks_map g h.blank p i _ _ _ e3]
  have e4 : (s.map g).belts = s.belts.map (List.map g) := rfl
  have e5 : (s.map g).queues = s.queues.map (List.map g) := rfl
  rw [e4, e5, ← List.map_drop, ← List.map_set, ← List.map_set, getD_map_nil, getD_map_nil, appAll_map]
  unfold St.map
  by_cases hi : i < p.n
  · simp only [hi, if_true, List.map_set, List.map_append, List.map_cons, List.map_nil]
  · simp only [hi, if_false]
theorem moved_map {g : Int → Int} {s : St} (h : Fits g s) (p : Plan) (d : Deed) (n : Int) (hp : possible p s d = true) :
    moved p (s.map g) d (g n) = ((moved p s d n).1.map g, (moved p s d n).2.map fun q => (g q.1, g q.2)) := by
  cases d with
  | pause =>
    unfold moved
    by_cases e : p.clear = true
    · simp [e, St.map]
    · simp [e, St.map]
  | come w =>
    show ((come p (s.map g) w (g n), none) : St × Option (Int × Int)) = _
    rw [come_map h] <;> rfl
  | pass i w =>
    have hb : s.belts.getD (i - 1) [] ≠ [] := fun e => by
      have hp2 : (passRoom p s i && (decide (w = .once) || (!decide (w = .swapped) && slipOk p s w))) = true := hp
      unfold passRoom at hp2
      rw [e] at hp2
      simp at hp2
    unfold moved
    simp only [passed_map h p i w hb]
    by_cases hi : i < p.n
    · simp [hi]
    · simp only [hi, if_false, Option.map_some]
      refine Prod.ext rfl ?_
      simp only [Option.some.injEq, Prod.mk.injEq, true_and]
      cases (passed p s i w).2.2 with
      | nil => exact h.blank.symm
      | cons y r => rfl

/-! ### places and states -/
theorem idx_at {l : List Int} (h : l.Nodup) {k : Nat} {x : Int} (e : l[k]? = some x) : l.idxOf x = k := by
  obtain ⟨hk, hx⟩ := List.getElem?_eq_some_iff.mp e
  rw [← hx]
  exact h.idxOf_getElem k hk
theorem belts_back (ord : List Int) (nd : ord.Nodup) : ∀ (bs : List (List Int)) (pre : List Int), ord = pre ++ order bs → beltsFrom pre.length (bs.map fun b => (b.length : Int)) = bs.map (List.map fun x => (ord.idxOf x : Int))
  | [], _, _ => rfl
  | b :: bs, pre, h => by
    have h2 : ord = (pre ++ b.reverse) ++ order bs := by
      rw [h]
      simp [order]
    have ih := belts_back ord nd bs (pre ++ b.reverse) h2
    have e : ((pre ++ b.reverse).length : Int) = (pre.length : Int) + (b.length : Int) := by simp
    rw [e] at ih
    show beltAt pre.length b.length :: beltsFrom ((pre.length : Int) + (b.length : Int)) _ = _ :: _
    rw [ih]
    congr 1
    unfold beltAt
    apply List.ext_getElem?
    intro j
    rw [List.getElem?_map, List.getElem?_map, Int.toNat_natCast]
    by_cases hj : j < b.length
    · rw [List.getElem?_range hj, List.getElem?_eq_getElem hj]
      simp only [Option.map_some]
      have e3 : ord[pre.length + (b.length - 1 - j)]? = some b[j] := by
        rw [h2, List.append_assoc, List.getElem?_append_right (by omega)]
        rw [show pre.length + (b.length - 1 - j) - pre.length = b.length - 1 - j by omega]
        rw [List.getElem?_append_left (by rw [List.length_reverse]; omega)]
        rw [List.getElem?_reverse (by omega)]
        rw [show b.length - 1 - (b.length - 1 - j) = j by omega, List.getElem?_eq_getElem hj]
      rw [idx_at nd e3]
      congr 1
      omega
    · rw [List.getElem?_eq_none (by simpa using hj), List.getElem?_eq_none (by omega)] <;> rfl
theorem state_place {s : St} (nd : (order s.belts).Nodup) : stateOf (placeOf s) = s.map (code s.belts) := by
  unfold stateOf placeOf St.map
  simp only [St.mk.injEq, and_true, true_and]
  have h := belts_back (order s.belts) nd s.belts [] rfl
  rw [show (([] : List Int).length : Int) = 0 from rfl] at h
  rw [h]
  apply List.map_congr_left
  intro b hb
  apply List.map_congr_left
  intro x hx
  unfold code
  rw [if_pos (mem_order.mpr ⟨b, hb, hx⟩)]
/-- labels within 0 .. n - 1, each on one belt once -/
structure Proper (s : St) (n : Int) : Prop where
  nd : (order s.belts).Nodup
  lb : ∀ x ∈ order s.belts, 0 ≤ x ∧ x < n
  qs : ∀ q ∈ s.queues, ∀ r ∈ q, r = -2 ∨ (0 ≤ r ∧ r < n)
  sw : s.swap = -2 ∨ (0 ≤ s.swap ∧ s.swap < n)
theorem order_map (g : Int → Int) (b : List (List Int)) : order (b.map (List.map g)) = (order b).map g := by
  unfold order
  rw [List.map_map, List.map_flatten, List.map_map]
  congr 1
  apply List.map_congr_left
  intro x _
  exact (List.map_reverse ..).symm
theorem idx_map (g : Int → Int) (x : Int) : ∀ l : List Int, (∀ y ∈ l, g y = g x → y = x) → (l.map g).idxOf (g x) = l.idxOf x
  | [], _ => rfl
  | y :: r, h => by
    rw [List.map_cons, List.idxOf_cons, List.idxOf_cons]
    rw [idx_map g x r fun z hz => h z (List.mem_cons_of_mem _ hz)]
    by_cases e : y = x
    · subst e
      simp
    · have e2 : ¬ g y = g x := fun z => e (h y List.mem_cons_self z)
      rw [beq_eq_false_iff_ne.mpr e, beq_eq_false_iff_ne.mpr e2]
/-- a renaming that a place does not see -/
theorem place_map {g : Int → Int} {s : St} (h1 : ∀ x ∈ order s.belts, ∀ y ∈ order s.belts, g y = g x → y = x)
    (h2 : ∀ x, (x = s.swap ∨ ∃ q ∈ s.queues, x ∈ q) → x ∉ order s.belts → g x ∉ (order s.belts).map g ∧ min (g x) (-1) = min x (-1)) : placeOf (s.map g) = placeOf s := by
  have key : ∀ x, (x = s.swap ∨ ∃ q ∈ s.queues, x ∈ q) → code (s.belts.map (List.map g)) (g x) = code s.belts x := fun x hx => by
    unfold code
    rw [order_map]
    by_cases e : x ∈ order s.belts
    · rw [if_pos e, if_pos (List.mem_map.mpr ⟨x, e, rfl⟩), idx_map g x _ fun y hy => h1 x e y hy]
    · obtain ⟨a, b⟩ := h2 x hx e
      rw [if_neg e, if_neg a, b]
  unfold placeOf St.map
  simp only [Place.mk.injEq, and_true]
  refine ⟨?_, ?_, key _ (.inl rfl)⟩
  · rw [List.map_map]
    apply List.map_congr_left
    intro b _
    simp
  · rw [List.map_map]
    apply List.map_congr_left
    intro q hq
    show (q.map g).map _ = _
    rw [List.map_map]
    apply List.map_congr_left
    intro x hx
    exact key x (.inr ⟨q, hq, hx⟩)
end Ow
set_option linter.all false
namespace Ow
/-! ### the order of labels behind a deed -/
theorem order_cons (b : List Int) (r : List (List Int)) : order (b :: r) = b.reverse ++ order r := by
  simp [order]
theorem order_come : ∀ (bs : List (List Int)) (n : Int), bs ≠ [] → order (bs.set 0 (bs.getD 0 [] ++ [n])) = n :: order bs
  | [], _, h => absurd rfl h
  | b :: r, n, _ => by
    show order ((b ++ [n]) :: r) = n :: order (b :: r)
    rw [order_cons, order_cons]
    simp
theorem order_pass : ∀ (bs : List (List Int)) (j : Nat) (x : Int) (b : List Int), bs.getD j [] = x :: b → j + 1 < bs.length → order ((bs.set j b).set (j + 1) (bs.getD (j + 1) [] ++ [x])) = order bs
  | [], _, _, _, _, h => by simp at h
  | [_], j, _, _, _, h => by simp at h
  | a :: c :: r, 0, x, b, e, _ => by
    have e2 : a = x :: b := e
    subst e2
    show order (b :: (c ++ [x]) :: r) = order ((x :: b) :: c :: r)
    rw [order_cons, order_cons, order_cons, order_cons]
    simp
  | a :: c :: r, j + 1, x, b, e, h => by
    have ih := order_pass (c :: r) j x b e (by simpa using h)
    show order (a :: ((c :: r).set j b).set (j + 1) ((c :: r).getD (j + 1) [] ++ [x])) = order (a :: c :: r)
    rw [order_cons a, ih, order_cons a]
theorem order_last : ∀ (bs : List (List Int)) (j : Nat) (x : Int) (b : List Int), bs.getD j [] = x :: b → j + 1 = bs.length → order bs = order (bs.set j b) ++ [x]
  | [], _, _, _, _, h => by simp at h
  | [a], 0, x, b, e, _ => by
    have e2 : a = x :: b := e
    subst e2
    simp [order]
  | [a], j + 1, _, _, _, h => by simp at h
  | a :: c :: r, 0, x, b, e, h => by simp at h
  | a :: c :: r, j + 1, x, b, e, h => by
    have ih := order_last (c :: r) j x b e (by simpa using h)
    show order (a :: c :: r) = order (a :: (c :: r).set j b) ++ [x]
    rw [order_cons a, order_cons a, ih, List.append_assoc]
theorem getD_set_ne {α : Type} {l : List α} {i j : Nat} {a d : α} (h : i ≠ j) : (l.set i a).getD j d = l.getD j d := by
  rw [List.getD_eq_getElem?_getD, List.getD_eq_getElem?_getD, List.getElem?_set_ne h]
theorem mem_appended {q : List Int} {r room x : Int} (h : x ∈ appended q r room) : x ∈ q ∨ x = r := by
  unfold appended at h
  have h2 : x ∈ q ++ [r] := by
    split at h
    · exact List.mem_of_mem_drop h
    · exact h
  rcases List.mem_append.mp h2 with z | z
  · exact .inl z
  · exact .inr (List.mem_singleton.mp z)
theorem mem_appAll {room x : Int} : ∀ {rs q : List Int}, x ∈ appAll room q rs → x ∈ q ∨ x ∈ rs
  | [], q, h => .inl h
  | r :: rs, q, h => by
    have h2 : x ∈ appAll room (appended q r room) rs := h
    rcases mem_appAll h2 with z | z
    · rcases mem_appended z with y | y
      · exact .inl y
      · exact .inr (by rw [y]; exact List.mem_cons_self)
    · exact .inr (List.mem_cons_of_mem _ z)
/-- as many belts and queues as the plan has -/
structure Sized (p : Plan) (s : St) : Prop where
  b : s.belts.length = p.n
  q : s.queues.length = p.n
theorem moved_sized {p : Plan} {s : St} (z : Sized p s) (d : Deed) (n : Int) : Sized p (moved p s d n).1 := by
  obtain ⟨h1, h2⟩ := z
  cases d with
  | pause =>
    refine ⟨h1, ?_⟩
    show (if p.clear = true then List.replicate s.queues.length [] else s.queues).length = p.n
    split
    · rw [List.length_replicate, h2]
    · exact h2
  | come w => exact ⟨by show (s.belts.set 0 _).length = _; rw [List.length_set, h1], by show (s.queues.set 0 _).length = _; rw [List.length_set, h2]⟩
  | pass i w =>
    refine ⟨?_, ?_⟩
    · show (if i < p.n then (s.belts.set (i - 1) _).set i _ else s.belts.set (i - 1) _).length = _
      split <;> simp [h1]
    · show (if i < p.n then (s.queues.set (i - 1) _).set i _ else s.queues.set (i - 1) _).length = _
      split <;> simp [h2]
def inRangeP (p : Plan) (d : Deed) : Prop := inRange p d = true
/-- labels behind a deed: what the order is -/
theorem order_moved {p : Plan} {s : St} (ok : 1 ≤ p.n) (z : Sized p s) (d : Deed) (n : Int) (hr : inRange p d = true) (hp : possible p s d = true) :
    (∃ w, d = .come w ∧ order (moved p s d n).1.belts = n :: order s.belts) ∨ ((∀ w, d ≠ .come w) ∧ order (moved p s d n).1.belts = order s.belts ∧ (moved p s d n).2 = none) ∨
      ((∀ w, d ≠ .come w) ∧ ∃ x r, (moved p s d n).2 = some (x, r) ∧ order s.belts = order (moved p s d n).1.belts ++ [x]) := by
  cases d with
  | pause => exact .inr (.inl ⟨fun w e => (nomatch e), rfl, rfl⟩)
  | come w =>
    refine .inl ⟨w, rfl, ?_⟩
    show order (s.belts.set 0 (s.belts.getD 0 [] ++ [n])) = _
    refine order_come _ _ fun e => ?_
    have := z.b
    rw [e] at this
    simp at this
    omega
  | pass i w =>
    have hb : s.belts.getD (i - 1) [] ≠ [] := fun e => by
      have hp2 : (passRoom p s i && (decide (w = .once) || (!decide (w = .swapped) && slipOk p s w))) = true := hp
      unfold passRoom at hp2
      rw [e] at hp2
      simp at hp2
    have hr2 : 1 ≤ i ∧ i ≤ p.n := by
      have : (decide (1 ≤ i) && decide (i ≤ p.n)) = true := hr
      simpa using this
    obtain ⟨x, b, e⟩ : ∃ x b, s.belts.getD (i - 1) [] = x :: b := by
      cases q : s.belts.getD (i - 1) [] with
      | nil => exact absurd q hb
      | cons x b => exact ⟨x, b, rfl⟩
    by_cases hi : i < p.n
    · refine .inr (.inl ⟨fun w e => (nomatch e), ?_, ?_⟩)
      · show order (if i < p.n then (s.belts.set (i - 1) ((s.belts.getD (i - 1) []).drop 1)).set i ((s.belts.set (i - 1) ((s.belts.getD (i - 1) []).drop 1)).getD i [] ++ [(s.belts.getD (i - 1) []).getD 0 0]) else _) = _
        rw [if_pos hi, getD_set_ne (by omega), e]
        have := order_pass s.belts (i - 1) x b e (by rw [z.b]; omega)
        rw [show i - 1 + 1 = i by omega] at this
        exact this
      · show (if i < p.n then none else _) = none
        rw [if_pos hi]
    · refine .inr (.inr ⟨fun w e => (nomatch e), (passed p s i w).2.1, (passed p s i w).2.2.getD 0 (-2), ?_, ?_⟩)
      · show (if i < p.n then none else _) = _
        rw [if_neg hi]
      · have hx : (passed p s i w).2.1 = x := by
          show (s.belts.getD (i - 1) []).getD 0 0 = x
          rw [e] <;> rfl
        rw [hx]
        show order s.belts = order (if i < p.n then _ else s.belts.set (i - 1) ((s.belts.getD (i - 1) []).drop 1)) ++ [x]
        rw [if_neg hi, e]
        exact order_last s.belts (i - 1) x b e (by rw [z.b]; omega)
/-- the records behind a deed -/
theorem queues_moved {p : Plan} {s : St} (d : Deed) (n : Int) (hp : possible p s d = true) : ∀ q ∈ (moved p s d n).1.queues, ∀ r ∈ q, r = -2 ∨ (∃ q0 ∈ s.queues, r ∈ q0) ∨ r ∈ order s.belts ∨ (r = s.swap ∧ s.swap ≠ -2) ∨ ∃ w, d = .come w ∧ r = n := by
  intro q hq r hr
  cases d with
  | pause =>
    have hq2 : q ∈ (if p.clear = true then List.replicate s.queues.length [] else s.queues) := hq
    split at hq2
    · rw [(List.mem_replicate.mp hq2).2] at hr
      cases hr
    · exact .inr (.inl ⟨q, hq2, hr⟩)
  | come w =>
    have hq2 : q ∈ s.queues.set 0 (appAll (p.rooms.getD 0 0) (s.queues.getD 0 []) (seenAt s w n)) := hq
    rcases List.mem_or_eq_of_mem_set hq2 with h | h
    · exact .inr (.inl ⟨q, h, hr⟩)
    · rw [h] at hr
      rcases mem_appAll hr with z | z
      · exact .inr (.inl ⟨_, mem_getD z, z⟩)
      · unfold seenAt at z
        rcases List.mem_append.mp z with y | y
        · exact .inr (.inr (.inr (.inr ⟨w, rfl, (List.mem_replicate.mp y).2⟩)))
        · by_cases e : s.swap = -2
          · rw [if_pos e] at y
            cases y
          · rw [if_neg e] at y
            exact .inr (.inr (.inr (.inl ⟨List.mem_singleton.mp y, e⟩)))
  | pass i w =>
    have hb : s.belts.getD (i - 1) [] ≠ [] := fun e => by
      have hp2 : (passRoom p s i && (decide (w = .once) || (!decide (w = .swapped) && slipOk p s w))) = true := hp
      unfold passRoom at hp2
      rw [e] at hp2
      simp at hp2
    have hx : (s.belts.getD (i - 1) []).getD 0 0 ∈ order s.belts := by
      have h2 : (s.belts.getD (i - 1) []).getD 0 0 ∈ s.belts.getD (i - 1) [] := getD_mem (List.length_pos_iff.mpr hb)
      exact mem_order.mpr ⟨_, mem_getD h2, h2⟩
    have on : ∀ r ∈ (looks p i ((s.belts.getD (i - 1) []).getD 0 0) w.times (s.queues.getD (i - 1) [])).2, r = -2 ∨ (∃ q0 ∈ s.queues, r ∈ q0) ∨ r ∈ order s.belts := fun r h => by
      rcases looks_on p i _ _ _ r h with y | y | y
      · exact .inr (.inr (by rw [y]; exact hx))
      · exact .inl y
      · exact .inr (.inl ⟨_, mem_getD y, y⟩)
    have qs : ∀ q ∈ s.queues.set (i - 1) (looks p i ((s.belts.getD (i - 1) []).getD 0 0) w.times (s.queues.getD (i - 1) [])).1, ∀ r ∈ q, ∃ q0 ∈ s.queues, r ∈ q0 := fun q hq r hr => by
      rcases List.mem_or_eq_of_mem_set hq with h | h
      · exact ⟨q, h, hr⟩
      · rw [h] at hr
        have := looks_sub p i _ _ _ r hr
        exact ⟨_, mem_getD this, this⟩
    have hq2 : q ∈ (if i < p.n then (s.queues.set (i - 1) (looks p i ((s.belts.getD (i - 1) []).getD 0 0) w.times (s.queues.getD (i - 1) [])).1).set i (appAll (p.rooms.getD i 0) ((s.queues.set (i - 1) (looks p i ((s.belts.getD (i - 1) []).getD 0 0) w.times (s.queues.getD (i - 1) [])).1).getD i []) (looks p i ((s.belts.getD (i - 1) []).getD 0 0) w.times (s.queues.getD (i - 1) [])).2)
      else s.queues.set (i - 1) (looks p i ((s.belts.getD (i - 1) []).getD 0 0) w.times (s.queues.getD (i - 1) [])).1) := hq
    split at hq2
    · rcases List.mem_or_eq_of_mem_set hq2 with h | h
      · exact .inr (.inl (qs q h r hr))
      · rw [h] at hr
        rcases mem_appAll hr with z | z
        · exact .inr (.inl (qs _ (mem_getD z) r z))
        · rcases on r z with y | y | y
          · exact .inl y
          · exact .inr (.inl y)
          · exact .inr (.inr (.inl y))
    · exact .inr (.inl (qs q hq2 r hr))
/-- the record of a sending -/
theorem sent_moved {p : Plan} {s : St} {d : Deed} {n x r : Int} (hp : possible p s d = true) (h : (moved p s d n).2 = some (x, r)) : x ∈ order s.belts ∧ (r = -2 ∨ r = x ∨ ∃ q0 ∈ s.queues, r ∈ q0) := by
  cases d with
  | pause => cases h
  | come w => cases h
  | pass i w =>
    have hb : s.belts.getD (i - 1) [] ≠ [] := fun e => by
      have hp2 : (passRoom p s i && (decide (w = .once) || (!decide (w = .swapped) && slipOk p s w))) = true := hp
      unfold passRoom at hp2
      rw [e] at hp2
      simp at hp2
    have hx : (s.belts.getD (i - 1) []).getD 0 0 ∈ order s.belts := by
      have h2 : (s.belts.getD (i - 1) []).getD 0 0 ∈ s.belts.getD (i - 1) [] := getD_mem (List.length_pos_iff.mpr hb)
      exact mem_order.mpr ⟨_, mem_getD h2, h2⟩
    have h2 : (if i < p.n then none else some ((s.belts.getD (i - 1) []).getD 0 0, (looks p i ((s.belts.getD (i - 1) []).getD 0 0) w.times (s.queues.getD (i - 1) [])).2.getD 0 (-2))) = some (x, r) := h
    split at h2
    · cases h2
    · have h3 := Option.some.inj h2
      obtain ⟨e1, e2⟩ := Prod.mk.inj h3
      subst e1
      refine ⟨hx, ?_⟩
      rw [← e2]
      cases q : (looks p i ((s.belts.getD (i - 1) []).getD 0 0) w.times (s.queues.getD (i - 1) [])).2 with
      | nil => exact .inl rfl
      | cons y l =>
        have hy := looks_on p i _ _ _ y (by rw [q]; exact List.mem_cons_self)
        show y = -2 ∨ y = _ ∨ _
        rcases hy with z | z | z
        · exact .inr (.inl z)
        · exact .inl z
        · exact .inr (.inr ⟨_, mem_getD z, z⟩)
def nextN (n : Int) : Deed → Int
  | .come _ => n + 1
  | _ => n
theorem swap_moved {p : Plan} {s : St} (d : Deed) (n : Int) : (moved p s d n).1.swap = -2 ∨ (∃ w, d = .come w ∧ (moved p s d n).1.swap = n) ∨ ((∀ w, d ≠ .come w) ∧ (moved p s d n).1.swap = s.swap) := by
  cases d with
  | pause => exact .inr (.inr ⟨fun w e => (nomatch e), rfl⟩)
  | come w =>
    show (if w = .swapped then n else -2) = -2 ∨ _
    by_cases e : w = .swapped
    · refine .inr (.inl ⟨w, rfl, ?_⟩)
      show (if w = .swapped then n else -2) = n
      rw [if_pos e]
    · exact .inl (if_neg e)
  | pass i w => exact .inr (.inr ⟨fun w e => (nomatch e), rfl⟩)
theorem proper_moved {p : Plan} {s : St} {n : Int} (ok : 1 ≤ p.n) (z : Sized p s) (P : Proper s n) (h0 : 0 ≤ n) (d : Deed) (hr : inRange p d = true) (hp : possible p s d = true) : Proper (moved p s d n).1 (nextN n d) := by
  have hn : n ≤ nextN n d := by
    cases d <;> simp only [nextN] <;> omega
  have hc : ∀ w, d = .come w → nextN n d = n + 1 := fun w e => by rw [e] <;> rfl
  have nn : n ∉ order s.belts := fun h => by have := (P.lb n h).2; omega
  have ho := order_moved ok z d n hr hp
  refine ⟨?_, ?_, fun q hq r h => ?_, ?_⟩
  · rcases ho with ⟨w, _, e⟩ | ⟨_, e, _⟩ | ⟨_, x, r, _, e⟩
    · rw [e]
      exact List.nodup_cons.mpr ⟨nn, P.nd⟩
    · rw [e]
      exact P.nd
    · have h := P.nd
      rw [e] at h
      exact (List.nodup_append.mp h).1
  · intro x hx
    rcases ho with ⟨w, ew, e⟩ | ⟨_, e, _⟩ | ⟨_, y, r, _, e⟩
    · rw [e] at hx
      rw [hc w ew]
      rcases List.mem_cons.mp hx with h | h
      · omega
      · have := P.lb x h
        omega
    · rw [e] at hx
      have := P.lb x hx
      omega
    · have := P.lb x (by rw [e]; exact List.mem_append_left _ hx)
      omega
  · rcases queues_moved d n hp q hq r h with y | ⟨q0, h1, h2⟩ | y | ⟨y, y2⟩ | ⟨w, ew, y⟩
    · exact .inl y
    · rcases P.qs q0 h1 r h2 with y | y
      · exact .inl y
      · exact .inr ⟨y.1, by omega⟩
    · have := P.lb r y
      exact .inr ⟨this.1, by omega⟩
    · rcases P.sw with t | t
      · exact absurd t y2
      · rw [y]
        exact .inr ⟨t.1, by omega⟩
    · rw [hc w ew]
      exact .inr ⟨by omega, by omega⟩
  · rcases swap_moved (p := p) (s := s) d n with y | ⟨w, ew, y⟩ | ⟨_, y⟩
    · exact .inl y
    · rw [y, hc w ew]
      exact .inr ⟨h0, by omega⟩
    · rw [y]
      rcases P.sw with t | t
      · exact .inl t
      · exact .inr ⟨t.1, by omega⟩

/-! ### the place of a state tells all -/
def ren (s : St) (n x : Int) : Int := if x = n then -9 else code s.belts x
theorem code_on {b : List (List Int)} {x : Int} (h : x ∈ order b) : code b x = ((order b).idxOf x : Int) := if_pos h
theorem code_off {b : List (List Int)} {x : Int} (h : x ∉ order b) : code b x = min x (-1) := if_neg h
theorem idx_inj {l : List Int} {x y : Int} (hx : x ∈ l) (hy : y ∈ l) (e : (l.idxOf x : Int) = (l.idxOf y : Int)) : x = y := by
  have e2 : l.idxOf x = l.idxOf y := by omega
  have h1 := List.getElem_idxOf (List.idxOf_lt_length_iff.mpr hx)
  have h2 := List.getElem_idxOf (List.idxOf_lt_length_iff.mpr hy)
  rw [← h1, ← h2]
  simp only [e2]
section
variable {p : Plan} {s : St} {n : Int}
theorem ren_off (P : Proper s n) (h0 : 0 ≤ n) {x : Int} (hx : x = -2 ∨ (0 ≤ x ∧ x < n)) (h : x ∉ order s.belts) : ren s n x = min x (-1) := by
  unfold ren
  rw [if_neg (by omega), code_off h]
theorem ren_on (P : Proper s n) (h0 : 0 ≤ n) {x : Int} (h : x ∈ order s.belts) : ren s n x = ((order s.belts).idxOf x : Int) := by
  unfold ren
  have := P.lb x h
  rw [if_neg (by omega), code_on h]
theorem ren_n : ren s n n = -9 := if_pos rfl
theorem ren_blank (P : Proper s n) (h0 : 0 ≤ n) : ren s n (-2) = -2 := by
  rw [ren_off P h0 (.inl rfl) fun h => by have := P.lb _ h; omega]
  rfl
theorem ren_two (P : Proper s n) (h0 : 0 ≤ n) {x : Int} (hx : x = -2 ∨ (0 ≤ x ∧ x < n)) (e : ren s n x = -2) : x = -2 := by
  rcases hx with h | h
  · exact h
  · by_cases q : x ∈ order s.belts
    · rw [ren_on P h0 q] at e
      omega
    · rw [ren_off P h0 (.inr h) q] at e
      omega
theorem ren_eq (P : Proper s n) (h0 : 0 ≤ n) {x r : Int} (hx : x ∈ order s.belts) (hr : r = -2 ∨ (0 ≤ r ∧ r < n)) (e : ren s n r = ren s n x) : r = x := by
  rw [ren_on P h0 hx] at e
  by_cases q : r ∈ order s.belts
  · rw [ren_on P h0 q] at e
    exact idx_inj q hx e
  · rw [ren_off P h0 hr q] at e
    omega
theorem ren_fits (P : Proper s n) (h0 : 0 ≤ n) : Fits (ren s n) s :=
  ⟨ren_blank P h0, ren_two P h0 P.sw, fun x hx q hq r hr e => ren_eq P h0 hx (P.qs q hq r hr) e⟩
theorem ren_code (P : Proper s n) (h0 : 0 ≤ n) : s.map (code s.belts) = s.map (ren s n) := by
  have key : ∀ x, x ≠ n → code s.belts x = ren s n x := fun x h => by
    unfold ren
    rw [if_neg h]
  have hb : ∀ b ∈ s.belts, b.map (code s.belts) = b.map (ren s n) := fun b hb => List.map_congr_left fun x hx => key x fun e => by
    have := P.lb x (mem_order.mpr ⟨b, hb, hx⟩)
    omega
  have hq : ∀ q ∈ s.queues, q.map (code s.belts) = q.map (ren s n) := fun q hq => List.map_congr_left fun x hx => key x fun e => by
    have := P.qs q hq x hx
    omega
  unfold St.map
  rw [List.map_congr_left hb, List.map_congr_left hq, key s.swap fun e => by have := P.sw; omega]
theorem sim_possible (P : Proper s n) (h0 : 0 ≤ n) (d : Deed) : possible p (stateOf (placeOf s)) d = possible p s d := by
  rw [state_place P.nd, ren_code P h0]
  exact possible_map (ren_fits P h0) p d
theorem sim_behind (ok : 1 ≤ p.n) (z : Sized p s) (P : Proper s n) (h0 : 0 ≤ n) (d : Deed) (hr : inRange p d = true) (hp : possible p s d = true) :
    behind p (placeOf s) d = (placeOf (moved p s d n).1, wordOf (moved p s d n).2) := by
  have F := ren_fits P h0
  have e : moved p (stateOf (placeOf s)) d (-9) = ((moved p s d n).1.map (ren s n), (moved p s d n).2.map fun q => (ren s n q.1, ren s n q.2)) := by
    rw [state_place P.nd, ren_code P h0]
    have := moved_map F p d n hp
    rw [ren_n] at this
    exact this
  unfold behind
  rw [e]
  have ho := order_moved ok z d n hr hp
  have sub : ∀ x ∈ order (moved p s d n).1.belts, x ∈ order s.belts ∨ x = n := fun x hx => by
    rcases ho with ⟨w, _, e⟩ | ⟨_, e, _⟩ | ⟨_, y, r, _, e⟩
    · rw [e] at hx
      exact (List.mem_cons.mp hx).elim .inr .inl
    · rw [e] at hx
      exact .inl hx
    · exact .inl (by rw [e]; exact List.mem_append_left _ hx)
  have inj : ∀ x, (x ∈ order s.belts ∨ x = n) → ∀ y, (y ∈ order s.belts ∨ y = n) → ren s n y = ren s n x → y = x := fun x hx y hy e => by
    rcases hx with hx | hx
    · rcases hy with hy | hy
      · exact ren_eq P h0 hx (.inr (P.lb y hy)) e
      · rw [hy, ren_n, ren_on P h0 hx] at e
        omega
    · rcases hy with hy | hy
      · rw [hx, ren_n, ren_on P h0 hy] at e
        omega
      · rw [hx, hy]
  refine Prod.ext ?_ ?_
  · show placeOf ((moved p s d n).1.map (ren s n)) = placeOf (moved p s d n).1
    refine place_map (fun x hx y hy e => inj x (sub x hx) y (sub y hy) e) fun x hx hn => ?_
    have nn : x ≠ n ∧ (x = -2 ∨ (0 ≤ x ∧ x < n)) := by
      have cn : ∀ w, d = .come w → x ≠ n := fun w ew exn => by
        rcases ho with ⟨_, _, e⟩ | ⟨h, _, _⟩ | ⟨h, _⟩
        · rw [e, exn] at hn
          exact hn List.mem_cons_self
        · exact h w ew
        · exact h w ew
      have all : (x = -2 ∨ (0 ≤ x ∧ x < n)) ∨ ∃ w, d = .come w ∧ x = n := by
        rcases hx with hx | ⟨q, hq, hx⟩
        · rcases swap_moved (p := p) (s := s) d n with y | ⟨w, ew, y⟩ | ⟨_, y⟩
          · exact .inl (.inl (hx.trans y))
          · exact .inr ⟨w, ew, hx.trans y⟩
          · rw [hx, y]
            exact .inl P.sw
        · rcases queues_moved d n hp q hq x hx with y | ⟨q0, h1, h2⟩ | y | ⟨y, y2⟩ | ⟨w, ew, y⟩
          · exact .inl (.inl y)
          · exact .inl (P.qs q0 h1 x h2)
          · exact .inl (.inr (P.lb x y))
          · rw [y]
            exact .inl P.sw
          · exact .inr ⟨w, ew, y⟩
      rcases all with h | ⟨w, ew, h⟩
      · exact ⟨by omega, h⟩
      · exact absurd h (cn w ew)
    by_cases q : x ∈ order s.belts
    · refine ⟨fun h => ?_, ?_⟩
      · obtain ⟨y, hy, e⟩ := List.mem_map.mp h
        have := inj x (.inl q) y (sub y hy) e
        rw [this] at hy
        exact hn hy
      · rw [ren_on P h0 q]
        have := P.lb x q
        omega
    · have e := ren_off P h0 nn.2 q
      refine ⟨fun h => ?_, ?_⟩
      · obtain ⟨y, hy, e2⟩ := List.mem_map.mp h
        rw [e] at e2
        rcases sub y hy with h3 | h3
        · rw [ren_on P h0 h3] at e2
          omega
        · rw [h3, ren_n] at e2
          rcases nn.2 with h4 | h4 <;> omega
      · rw [e]
        omega
  · show wordOf ((moved p s d n).2.map fun q => (ren s n q.1, ren s n q.2)) = wordOf (moved p s d n).2
    cases h : (moved p s d n).2 with
    | none => rfl
    | some q =>
      obtain ⟨x, r⟩ := q
      obtain ⟨hx, hr2⟩ := sent_moved hp h
      have rr : r = -2 ∨ (0 ≤ r ∧ r < n) := by
        rcases hr2 with t | t | ⟨q0, h1, h2⟩
        · exact .inl t
        · rw [t]
          exact .inr (P.lb x hx)
        · exact P.qs q0 h1 r h2
      show some (if ren s n r = -2 then Word.on else if ren s n x = ren s n r then .own else .other) = some (if r = -2 then Word.on else if x = r then .own else .other)
      by_cases e1 : r = -2
      · rw [if_pos e1, e1, if_pos (ren_blank P h0)]
      · rw [if_neg e1, if_neg fun z => e1 (ren_two P h0 rr z)]
        by_cases e2 : x = r
        · rw [if_pos e2, e2, if_pos rfl]
        · rw [if_neg e2, if_neg fun z => e2 (ren_eq P h0 hx rr z.symm).symm]
end
end Ow
set_option linter.all false
namespace Ow
section
variable {p : Plan} {s : St} {n : Int}
theorem sim_moved (P : Proper s n) (h0 : 0 ≤ n) (d : Deed) (hp : possible p s d = true) :
    moved p (stateOf (placeOf s)) d (-9) = ((moved p s d n).1.map (ren s n), (moved p s d n).2.map fun q => (ren s n q.1, ren s n q.2)) := by
  rw [state_place P.nd, ren_code P h0]
  have := moved_map (ren_fits P h0) p d n hp
  rw [ren_n] at this
  exact this
theorem ren_inj (P : Proper s n) (h0 : 0 ≤ n) : ∀ x, (x ∈ order s.belts ∨ x = n) → ∀ y, (y ∈ order s.belts ∨ y = n) → ren s n y = ren s n x → y = x := fun x hx y hy e => by
  rcases hx with hx | hx
  · rcases hy with hy | hy
    · exact ren_eq P h0 hx (.inr (P.lb y hy)) e
    · rw [hy, ren_n, ren_on P h0 hx] at e
      omega
  · rcases hy with hy | hy
    · rw [hx, ren_n, ren_on P h0 hy] at e
      omega
    · rw [hx, hy]
theorem nodup_map {α β : Type} {f : α → β} : ∀ {l : List α}, l.Nodup → (∀ x ∈ l, ∀ y ∈ l, f x = f y → x = y) → (l.map f).Nodup
  | [], _, _ => List.nodup_nil
  | a :: l, h, i => by
    rw [List.map_cons, List.nodup_cons]
    rw [List.nodup_cons] at h
    refine ⟨fun hm => ?_, nodup_map h.2 fun x hx y hy e => i x (List.mem_cons_of_mem _ hx) y (List.mem_cons_of_mem _ hy) e⟩
    obtain ⟨b, hb, e⟩ := List.mem_map.mp hm
    have := i b (List.mem_cons_of_mem _ hb) a List.mem_cons_self e
    rw [this] at hb
    exact h.1 hb
theorem sim_nodup (ok : 1 ≤ p.n) (z : Sized p s) (P : Proper s n) (h0 : 0 ≤ n) (d : Deed) (hr : inRange p d = true) (hp : possible p s d = true) : (order (moved p (stateOf (placeOf s)) d (-9)).1.belts).Nodup := by
  rw [sim_moved P h0 d hp]
  show (order ((moved p s d n).1.belts.map (List.map (ren s n)))).Nodup
  rw [order_map]
  have ho := order_moved ok z d n hr hp
  have sub : ∀ x ∈ order (moved p s d n).1.belts, x ∈ order s.belts ∨ x = n := fun x hx => by
    rcases ho with ⟨w, _, e⟩ | ⟨_, e, _⟩ | ⟨_, y, r, _, e⟩
    · rw [e] at hx
      exact (List.mem_cons.mp hx).elim .inr .inl
    · rw [e] at hx
      exact .inl hx
    · exact .inl (by rw [e]; exact List.mem_append_left _ hx)
  exact nodup_map (proper_moved ok z P h0 d hr hp).nd fun x hx y hy e => ren_inj P h0 y (sub y hy) x (sub x hx) e
/-- a state as it is met -/
structure Good (p : Plan) (s : St) (n : Int) : Prop where
  pr : Proper s n
  n0 : 0 ≤ n
  sz : Sized p s
  b3 : ∀ b ∈ s.belts, b.length ≤ 3
  q4 : ∀ q ∈ s.queues, q.length ≤ 4
  sl : s.slips.length = (p.among - 1).toNat
theorem appended_le {q : List Int} {r room : Int} (h1 : q.length ≤ 4) (h2 : room ≤ 4) : (appended q r room).length ≤ 4 := by
  unfold appended
  split
  · rw [List.length_drop, List.length_append, List.length_singleton]; omega
  · rw [List.length_append, List.length_singleton] at *; omega
theorem appAll_le {room : Int} (h2 : room ≤ 4) : ∀ (rs q : List Int), q.length ≤ 4 → (appAll room q rs).length ≤ 4
  | [], q, h => h
  | x :: rs, q, h => appAll_le h2 rs _ (appended_le h h2)
theorem lateOf_len {sl : List Int} {g : Sight} : (lateOf sl g).length = sl.length := by
  unfold lateOf
  rw [List.length_drop, List.length_append, List.length_singleton]
  omega
theorem look_le (p : Plan) (i : Nat) (q : List Int) (x : Int) : (look p i q x).1.length ≤ q.length := by
  unfold look
  split
  · unfold scanner
    split
    · show (q.drop _).length ≤ _
      rw [List.length_drop]; omega
    · show (if p.first then q.drop 1 else q).length ≤ _
      split
      · rw [List.length_drop]; omega
      · exact Nat.le_refl _
  · unfold eye
    cases q with
    | nil => exact Nat.le_refl _
    | cons y r => simp
theorem looks_le (p : Plan) (i : Nat) (x : Int) : ∀ (k : Nat) (q : List Int), (looks p i x k q).1.length ≤ q.length
  | 0, q => Nat.le_refl _
  | k + 1, q => Nat.le_trans (looks_le p i x k (look p i q x).1) (look_le p i q x)
theorem room4 (ok : p.Ok) (i : Nat) : p.rooms.getD i 0 ≤ 4 := by
  by_cases h : i < p.rooms.length
  · rw [List.getD_eq_getElem?_getD, List.getElem?_eq_getElem h]
    exact (ok.rr _ (List.getElem_mem _)).2
  · rw [List.getD_eq_getElem?_getD, List.getElem?_eq_none (by omega)]
    decide
theorem belt3 (ok : p.Ok) (i : Nat) : p.belts.getD i 0 ≤ 3 := by
  by_cases h : i < p.belts.length
  · rw [List.getD_eq_getElem?_getD, List.getElem?_eq_getElem h]
    exact (ok.rb _ (List.getElem_mem _)).2
  · rw [List.getD_eq_getElem?_getD, List.getElem?_eq_none (by omega)]
    decide
theorem getD_le {b : List (List Int)} {k : Nat} (h : ∀ x ∈ b, x.length ≤ k) (i : Nat) : (b.getD i []).length ≤ k := by
  by_cases hi : i < b.length
  · exact h _ (getD_mem hi)
  · rw [List.getD_eq_getElem?_getD, List.getElem?_eq_none (by omega)]
    exact Nat.zero_le _
theorem set_le {b : List (List Int)} {k i : Nat} {x : List Int} (h : ∀ x ∈ b, x.length ≤ k) (hx : x.length ≤ k) : ∀ y ∈ b.set i x, y.length ≤ k := fun y hy => by
  rcases List.mem_or_eq_of_mem_set hy with z | z
  · exact h y z
  · rw [z]
    exact hx
theorem Good.moved (ok : p.Ok) (g : Good p s n) (d : Deed) (hr : inRange p d = true) (hp : possible p s d = true) : Good p (moved p s d n).1 (nextN n d) := by
  have n1 : 1 ≤ p.n := ok.nb.1
  refine ⟨proper_moved n1 g.sz g.pr g.n0 d hr hp, ?_, moved_sized g.sz d n, ?_, ?_, ?_⟩
  · have := g.n0
    cases d <;> simp only [nextN] <;> omega
  · cases d with
    | pause => exact g.b3
    | come w =>
      refine set_le g.b3 ?_
      have h1 : comeRoom p s = true := by
        have h2 : (comeRoom p s && (decide (w = .once) || (decide (s.swap = -2) && slipOk p s w))) = true := hp
        exact (Bool.and_eq_true_iff.mp h2).1
      have h3 : ((s.belts.getD 0 []).length : Int) < p.belts.getD 0 0 := of_decide_eq_true (Bool.and_eq_true_iff.mp h1).2
      have := belt3 ok 0
      rw [List.length_append, List.length_singleton]
      omega
    | pass i w =>
      have h1 : passRoom p s i = true := by
        have h2 : (passRoom p s i && (decide (w = .once) || (!decide (w = .swapped) && slipOk p s w))) = true := hp
        exact (Bool.and_eq_true_iff.mp h2).1
      have hi : 1 ≤ i ∧ i ≤ p.n := by simpa [inRange] using hr
      have hd : ((s.belts.getD (i - 1) []).drop 1).length ≤ 3 := by
        have := getD_le g.b3 (i - 1)
        rw [List.length_drop]
        omega
      show ∀ b ∈ (if i < p.n then (s.belts.set (i - 1) ((s.belts.getD (i - 1) []).drop 1)).set i ((s.belts.set (i - 1) ((s.belts.getD (i - 1) []).drop 1)).getD i [] ++ [(s.belts.getD (i - 1) []).getD 0 0]) else s.belts.set (i - 1) ((s.belts.getD (i - 1) []).drop 1)), b.length ≤ 3
      split
      · rename_i hlt
        refine set_le (set_le g.b3 hd) ?_
        rw [getD_set_ne (by omega), List.length_append, List.length_singleton]
        have h3 := (Bool.and_eq_true_iff.mp h1).2
        rw [Bool.or_eq_true_iff] at h3
        have h4 : ((s.belts.getD i []).length : Int) < p.belts.getD i 0 := by
          rcases h3 with z | z
          · exact absurd (of_decide_eq_true z) (by omega)
          · exact of_decide_eq_true z
        have := belt3 ok i
        omega
      · exact set_le g.b3 hd
  · cases d with
    | pause =>
      show ∀ q ∈ (if p.clear = true then List.replicate s.queues.length [] else s.queues), q.length ≤ 4
      split
      · intro q hq
        rw [List.eq_of_mem_replicate hq]
        exact Nat.zero_le _
      · exact g.q4
    | come w => exact set_le g.q4 (appAll_le (room4 ok 0) _ _ (getD_le g.q4 0))
    | pass i w =>
      have hl : (looks p i ((s.belts.getD (i - 1) []).getD 0 0) w.times (s.queues.getD (i - 1) [])).1.length ≤ 4 := Nat.le_trans (looks_le p i _ _ _) (getD_le g.q4 (i - 1))
      show ∀ q ∈ (if i < p.n then (s.queues.set (i - 1) (looks p i ((s.belts.getD (i - 1) []).getD 0 0) w.times (s.queues.getD (i - 1) [])).1).set i (appAll (p.rooms.getD i 0) ((s.queues.set (i - 1) (looks p i ((s.belts.getD (i - 1) []).getD 0 0) w.times (s.queues.getD (i - 1) [])).1).getD i []) (looks p i ((s.belts.getD (i - 1) []).getD 0 0) w.times (s.queues.getD (i - 1) [])).2)
        else s.queues.set (i - 1) (looks p i ((s.belts.getD (i - 1) []).getD 0 0) w.times (s.queues.getD (i - 1) [])).1), q.length ≤ 4
      split
      · exact set_le (set_le g.q4 hl) (appAll_le (room4 ok i) _ _ (getD_le (set_le g.q4 hl) i))
      · exact set_le g.q4 hl
  · cases d with
    | pause => exact g.sl
    | come w => exact lateOf_len.trans g.sl
    | pass i w => exact lateOf_len.trans g.sl
theorem order_nil (k : Nat) : order (List.replicate k []) = [] := by
  unfold order
  rw [List.map_replicate]
  induction k with
  | zero => rfl
  | succ k ih => rw [List.replicate_succ, List.flatten_cons, ih]; rfl
theorem Good.start (ok : p.Ok) : Good p (St.start p) 0 where
  pr := by
    refine ⟨?_, ?_, ?_, .inl rfl⟩
    · show (order (List.replicate p.n [])).Nodup
      rw [order_nil]
      exact List.nodup_nil
    · intro x hx
      have hx2 : x ∈ order (List.replicate p.n []) := hx
      rw [order_nil] at hx2
      cases hx2
    · intro q hq r hr
      have hq2 : q ∈ List.replicate p.n ([] : List Int) := hq
      rw [List.eq_of_mem_replicate hq2] at hr
      cases hr
  n0 := Int.le_refl _
  sz := ⟨List.length_replicate, List.length_replicate⟩
  b3 := fun b hb => by
    have hb2 : b ∈ List.replicate p.n ([] : List Int) := hb
    rw [List.eq_of_mem_replicate hb2]
    exact Nat.zero_le _
  q4 := fun b hb => by
    have hb2 : b ∈ List.replicate p.n ([] : List Int) := hb
    rw [List.eq_of_mem_replicate hb2]
    exact Nat.zero_le _
  sl := List.length_replicate
theorem all_inRange {d : Deed} (h : d ∈ allDeeds p) : inRange p d = true := by
  unfold allDeeds at h
  rcases List.mem_append.mp h with h | h
  · rcases List.mem_append.mp h with h | h
    · obtain ⟨g, _, rfl⟩ := List.mem_map.mp h
      rfl
    · obtain ⟨l, hl, hd⟩ := List.mem_flatten.mp h
      obtain ⟨i, hi, rfl⟩ := List.mem_map.mp hl
      obtain ⟨g, _, rfl⟩ := List.mem_map.mp hd
      have := List.mem_range.mp hi
      show (decide (1 ≤ i + 1) && decide (i + 1 ≤ p.n)) = true
      rw [Bool.and_eq_true_iff, decide_eq_true_iff, decide_eq_true_iff]
      omega
  · rw [List.mem_singleton.mp h]
    rfl
end
end Ow
set_option linter.all false
namespace Ow
/-! ### the law's flow is the program's -/
def rc : Option Int → Int
  | none => -2
  | some x => x
structure Sim (p : Plan) (s : St) (lr : LR) : Prop where
  b : s.belts = lr.belts
  q : s.queues = lr.queues.map (List.map rc)
  w : s.swap = rc lr.swap
  sl : s.slips = lLate p lr
  cm : s.comings = min p.top lr.since
  s0 : 0 ≤ lr.since
  qn : ∀ q ∈ lr.queues, ∀ x, some x ∈ q → 0 ≤ x
  wn : ∀ x, lr.swap = some x → 0 ≤ x
  fit : ∀ i, ((lr.belts.getD i []).length : Int) ≤ p.belts.getD i 0
section
variable {p : Plan} {s : St} {lr : LR} {n : Int}
theorem Sim.sw (h : Sim p s lr) : (s.swap = -2) ↔ (lr.swap = none) := by
  rw [h.w]
  cases e : lr.swap with
  | none => exact ⟨fun _ => rfl, fun _ => rfl⟩
  | some x =>
    have := h.wn x e
    refine ⟨fun z => ?_, fun z => by cases z⟩
    have z2 : x = -2 := z
    omega
theorem top_pos (ok : p.Ok) : 1 ≤ p.top := by
  unfold Plan.top
  cases e : p.stretch with
  | none => exact Int.le_refl 1
  | some k => exact (ok.st k e).1
theorem total_zero : ∀ b : List (List Int), total b = 0 ↔ b = List.replicate b.length []
  | [] => by simp [total]
  | x :: r => by
    have ih := total_zero r
    have e : total (x :: r) = x.length + total r := by simp [total]
    rw [e, List.length_cons, List.replicate_succ, List.cons.injEq, ← ih]
    constructor
    · intro h
      exact ⟨List.length_eq_zero_iff.mp (by omega), by omega⟩
    · rintro ⟨rfl, h⟩
      simpa using h
theorem can_possible (ok : p.Ok) (h : Sim p s lr) (z : Sized p s) {d : Deed} (hr : inRange p d = true) : lCan p lr d = possible p s d := by
  have hsl : ∀ g, lSlip p lr g = (decide (g = .once) || slipOk p s g) := fun g => by
    unfold lSlip slipOk Plan.slip
    rw [h.sl]
    cases p.words.contains g
    · simp
    · congr 1
      simp only [Bool.not_true, Bool.false_or, Bool.true_and, ← decide_not]
      exact decide_eq_decide.mpr (by omega)
  have hw := h.sw
  have ht := top_pos ok
  have hs0 := h.s0
  cases d with
  | pause =>
    show (decide (lr.belts = List.replicate lr.belts.length []) && (decide (lr.swap = none) && decide (0 < lr.since))) = (decide (total s.belts = 0) && (decide (s.swap = -2) && decide (0 < s.comings)))
    rw [h.b, h.cm]
    congr 1
    · exact decide_eq_decide.mpr (total_zero _).symm
    · congr 1
      · exact decide_eq_decide.mpr hw.symm
      · exact decide_eq_decide.mpr (by omega)
  | come g =>
    show (lSlip p lr g && (!(!decide (lr.swap = none) && !decide (g = .once)) && (!decide (((lr.belts.getD 0 []).length : Int) = p.belts.getD 0 0) && _))) = (comeRoom p s && (decide (g = .once) || (decide (s.swap = -2) && slipOk p s g)))
    have hf := h.fit 0
    have e1 : (!decide (((lr.belts.getD 0 []).length : Int) = p.belts.getD 0 0)) = decide (((lr.belts.getD 0 []).length : Int) < p.belts.getD 0 0) := by
      rw [← decide_not]
      exact decide_eq_decide.mpr (by omega)
    have e3 : decide (s.swap = -2) = decide (lr.swap = none) := decide_eq_decide.mpr hw
    rw [hsl, e1]
    unfold comeRoom
    rw [h.b, e3]
    cases e : p.stretch with
    | none =>
      dsimp only
      generalize decide (lr.swap = none) = a1
      generalize slipOk p s g = a2
      generalize decide (g = Sight.once) = a3
      generalize decide (((lr.belts.getD 0 []).length : Int) < p.belts.getD 0 0) = a4
      revert a1 a2 a3 a4
      decide
    | some k =>
      have et : p.top = k := by unfold Plan.top; rw [e]
      dsimp only
      have e4 : decide (lr.since < k) = !decide (k ≤ s.comings) := by
        rw [h.cm, et, ← decide_not]
        exact decide_eq_decide.mpr (by omega)
      rw [e4]
      generalize decide (k ≤ s.comings) = a5
      generalize decide (lr.swap = none) = a1
      generalize slipOk p s g = a2
      generalize decide (g = Sight.once) = a3
      generalize decide (((lr.belts.getD 0 []).length : Int) < p.belts.getD 0 0) = a4
      revert a1 a2 a3 a4 a5
      decide
  | pass i g =>
    show (lSlip p lr g && (!(decide (g = .swapped) || decide (lr.belts.getD (i - 1) [] = [])) && (decide (i = lr.belts.length) || decide (((lr.belts.getD i []).length : Int) < p.belts.getD i 0)))) =
      (passRoom p s i && (decide (g = .once) || (!decide (g = .swapped) && slipOk p s g)))
    rw [hsl]
    unfold passRoom
    have e1 : lr.belts.length = p.n := by rw [← h.b]; exact z.b
    rw [h.b, e1]
    have e2 : decide (0 < (lr.belts.getD (i - 1) []).length) = !decide (lr.belts.getD (i - 1) [] = []) := by
      rw [← decide_not]
      exact decide_eq_decide.mpr List.length_pos_iff
    rw [e2]
    generalize (decide (i = p.n) || decide (((lr.belts.getD i []).length : Int) < p.belts.getD i 0)) = a4
    generalize decide (lr.belts.getD (i - 1) [] = []) = a5
    generalize slipOk p s g = a2
    cases g <;> (revert a2 a4 a5; decide)
theorem lAddAll_map (room : Int) : ∀ (rs q : List (Option Int)), appAll room (q.map rc) (rs.map rc) = (lAddAll room q rs).map rc
  | [], q => rfl
  | r :: rs, q => by
    show appAll room (appended (q.map rc) (rc r) room) (rs.map rc) = (lAddAll room (lAdd q r room) rs).map rc
    have e : appended (q.map rc) (rc r) room = (lAdd q r room).map rc := by
      unfold appended lAdd
      rw [show q.map rc ++ [rc r] = (q ++ [r]).map rc by simp, List.length_map]
      split
      · rw [List.map_drop]
      · rfl
    rw [e, lAddAll_map room rs]
theorem lAddAll_mem {room : Int} {x : Option Int} : ∀ {rs q : List (Option Int)}, x ∈ lAddAll room q rs → x ∈ q ∨ x ∈ rs
  | [], q, h => .inl h
  | r :: rs, q, h => by
    have h2 : x ∈ lAddAll room (lAdd q r room) rs := h
    rcases lAddAll_mem h2 with z | z
    · have z2 : x ∈ q ++ [r] := by
        unfold lAdd at z
        split at z
        · exact List.mem_of_mem_drop z
        · exact z
      rcases List.mem_append.mp z2 with y | y
      · exact .inl y
      · exact .inr (by rw [List.mem_singleton.mp y]; exact List.mem_cons_self)
    · exact .inr (List.mem_cons_of_mem _ z)
theorem seek_map {x : Int} (hx : 0 ≤ x) : ∀ (k : Nat) (q : List (Option Int)), seekIn x k (q.map rc) = if (q.take k).contains (some x) then some (q.idxOf (some x)) else none
  | 0, q => by simp [seekIn]
  | k + 1, [] => by simp [seekIn]
  | k + 1, y :: r => by
    show (if rc y = x then some 0 else (seekIn x k (r.map rc)).map (· + 1)) = _
    rw [seek_map hx k r, List.take_succ_cons, List.contains_cons, List.idxOf_cons]
    by_cases c : y = some x
    · subst c
      simp [rc]
    · have c2 : ¬ rc y = x := by
        cases y with
        | none => show ¬ (-2 : Int) = x; omega
        | some z => exact fun e => c (congrArg some e)
      have c3 : (some x == y) = false := by
        rw [beq_eq_false_iff_ne]
        exact fun e => c e.symm
      have c4 : (y == some x) = false := by
        rw [beq_eq_false_iff_ne]
        exact c
      rw [if_neg c2, c3, c4, Bool.false_or]
      split <;> simp
theorem see_map {x : Int} (hx : 0 ≤ x) (i : Nat) (q : List (Option Int)) : look p i (q.map rc) x = ((lSee p i q x).1.map rc, (lSee p i q x).2.map rc) := by
  unfold look lSee
  split
  · unfold scanner
    rw [seek_map hx]
    by_cases c : (q.take (p.seek + 1).toNat).contains (some x) = true
    · rw [if_pos c, if_pos c]
      simp [List.map_drop, rc]
    · rw [if_neg c, if_neg c]
      cases p.first with
      | false => simp [rc]
      | true => cases q <;> simp [rc]
  · unfold eye
    cases q with
    | nil => cases p.blank <;> simp [rc]
    | cons y r => rfl
theorem see_mem {x : Int} {i : Nat} {q : List (Option Int)} {y : Option Int} : (y ∈ (lSee p i q x).1 → y ∈ q) ∧ (y ∈ (lSee p i q x).2 → y = none ∨ y = some x ∨ y ∈ q) := by
  unfold lSee
  split
  · refine ⟨fun h => ?_, fun h => .inr (.inl (List.mem_singleton.mp h))⟩
    dsimp only at h
    split at h
    · exact List.mem_of_mem_drop h
    · split at h
      · exact List.mem_of_mem_drop h
      · exact h
  · cases q with
    | nil =>
      refine ⟨fun h => h, fun h => .inl ?_⟩
      dsimp only at h
      split at h
      · exact List.mem_singleton.mp h
      · cases h
    | cons z r => exact ⟨fun h => List.mem_cons_of_mem _ h, fun h => .inr (.inr (by rw [List.mem_singleton.mp h]; exact List.mem_cons_self))⟩
theorem sees_on (i : Nat) (x : Int) : ∀ (k : Nat) (q on : List (Option Int)), lSees p i x k q on = ((lSees p i x k q []).1, on ++ (lSees p i x k q []).2)
  | 0, q, on => by simp [lSees]
  | k + 1, q, on => by
    show lSees p i x k (lSee p i q x).1 (on ++ (lSee p i q x).2) = ((lSees p i x k (lSee p i q x).1 ([] ++ (lSee p i q x).2)).1, on ++ (lSees p i x k (lSee p i q x).1 ([] ++ (lSee p i q x).2)).2)
    rw [sees_on i x k _ (on ++ _), sees_on i x k _ ([] ++ _)]
    simp
theorem sees_map {x : Int} (hx : 0 ≤ x) (i : Nat) : ∀ (k : Nat) (q : List (Option Int)), looks p i x k (q.map rc) = ((lSees p i x k q []).1.map rc, (lSees p i x k q []).2.map rc)
  | 0, q => rfl
  | k + 1, q => by
    show ((looks p i x k (look p i (q.map rc) x).1).1, (look p i (q.map rc) x).2 ++ (looks p i x k (look p i (q.map rc) x).1).2) = ((lSees p i x k (lSee p i q x).1 ([] ++ (lSee p i q x).2)).1.map rc, (lSees p i x k (lSee p i q x).1 ([] ++ (lSee p i q x).2)).2.map rc)
    rw [see_map hx, sees_on i x k _ ([] ++ _), sees_map hx i k]
    simp
theorem sees_mem {x : Int} {i : Nat} {y : Option Int} : ∀ {k : Nat} {q : List (Option Int)}, (y ∈ (lSees p i x k q []).1 → y ∈ q) ∧ (y ∈ (lSees p i x k q []).2 → y = none ∨ y = some x ∨ y ∈ q)
  | 0, q => ⟨fun h => h, fun h => by cases h⟩
  | k + 1, q => by
    have e : lSees p i x (k + 1) q [] = lSees p i x k (lSee p i q x).1 ([] ++ (lSee p i q x).2) := rfl
    rw [e, sees_on]
    have ih := sees_mem (x := x) (i := i) (y := y) (k := k) (q := (lSee p i q x).1)
    have h1 := see_mem (p := p) (x := x) (i := i) (q := q) (y := y)
    refine ⟨fun h => h1.1 (ih.1 h), fun h => ?_⟩
    rcases List.mem_append.mp h with h | h
    · exact h1.2 (by simpa using h)
    · rcases ih.2 h with h | h | h
      · exact .inl h
      · exact .inr (.inl h)
      · exact .inr (.inr (h1.1 h))
theorem late_snoc (g : Sight) : lateOf (lLate p lr) g = lLate p { lr with slips := lr.slips ++ [if g = Sight.once then 0 else 1] } := by
  unfold lateOf lLate
  dsimp only
  generalize (p.among - 1).toNat = m
  have e : ∀ l : List Int, (List.replicate m (0 : Int) ++ l).length - m = l.length := fun l => by
    rw [List.length_append, List.length_replicate]; omega
  rw [e, e, ← List.append_assoc, List.length_append, List.length_singleton, ← List.drop_drop]
  rw [List.drop_append_of_le_length (l₁ := List.replicate m 0 ++ lr.slips) (by rw [List.length_append, List.length_replicate]; omega)]
theorem getD_rc (qs : List (List (Option Int))) (i : Nat) : (qs.map (List.map rc)).getD i [] = (qs.getD i []).map rc := by
  simp only [List.getD_eq_getElem?_getD, List.getElem?_map]
  cases qs[i]? <;> rfl
theorem set_rc (qs : List (List (Option Int))) (i : Nat) (q : List (Option Int)) : (qs.map (List.map rc)).set i (q.map rc) = (qs.set i q).map (List.map rc) := by rw [List.map_set]
theorem mem_getD_opt {b : List (List (Option Int))} {i : Nat} {x : Option Int} (h : x ∈ b.getD i []) : b.getD i [] ∈ b := by
  by_cases hi : i < b.length
  · exact getD_mem hi
  · rw [List.getD_eq_getElem?_getD, List.getElem?_eq_none (by omega)] at h
    cases h
theorem getD_set_same {α : Type} {l : List α} {i : Nat} {a d : α} (h : i < l.length) : (l.set i a).getD i d = a := by
  rw [List.getD_eq_getElem?_getD, List.getElem?_set_self h]
  rfl
/-- what is sent, told twice -/
def SentR (o : Option (Int × Int)) (l l' : List (Int × Option Int)) : Prop := match o with
  | none => l' = l
  | some q => ∃ y, l' = l ++ [(q.1, y)] ∧ rc y = q.2 ∧ ∀ z, y = some z → 0 ≤ z
theorem getD_rc0 (l : List (Option Int)) : (l.map rc).getD 0 (-2) = rc (l.getD 0 none) := by cases l <;> rfl
theorem Sim.step (ok : p.Ok) (h : Sim p s lr) (g : Good p s n) (hn : lr.came = n) {d : Deed} (hr : inRange p d = true) (hp : possible p s d = true) :
    Sim p (moved p s d n).1 (lDo p lr d) ∧ (lDo p lr d).came = nextN n d ∧ SentR (moved p s d n).2 lr.sent (lDo p lr d).sent := by
  subst hn
  have ht := top_pos ok
  have hs0 := h.s0
  have n1 : 1 ≤ p.n := ok.nb.1
  have zb : lr.belts.length = p.n := by rw [← h.b]; exact g.sz.b
  have zq : lr.queues.length = p.n := by
    have := g.sz.q
    rw [h.q, List.length_map] at this
    exact this
  cases d with
  | pause =>
    refine ⟨⟨h.b, ?_, h.w, h.sl, ?_, Int.le_refl 0, ?_, h.wn, h.fit⟩, rfl, rfl⟩
    · show (if p.clear then List.replicate s.queues.length [] else s.queues) = (if p.clear then List.replicate lr.queues.length [] else lr.queues).map (List.map rc)
      rw [h.q]
      cases p.clear
      · rfl
      · simp
    · show (0 : Int) = min p.top 0
      omega
    · intro q hq x hx
      have hq2 : q ∈ (if p.clear then List.replicate lr.queues.length [] else lr.queues) := hq
      split at hq2
      · rw [List.eq_of_mem_replicate hq2] at hx
        cases hx
      · exact h.qn q hq2 x hx
  | come w =>
    have hlt : ((lr.belts.getD 0 []).length : Int) < p.belts.getD 0 0 := by
      have h1 : comeRoom p s = true := by
        have h2 : (comeRoom p s && (decide (w = .once) || (decide (s.swap = -2) && slipOk p s w))) = true := hp
        rw [Bool.and_eq_true_iff] at h2
        exact h2.1
      unfold comeRoom at h1
      rw [Bool.and_eq_true_iff, decide_eq_true_iff, h.b] at h1
      exact h1.2
    have eseen : seenAt s w lr.came = (List.replicate w.times (some lr.came) ++ (match lr.swap with
        | none => []
        | some o => [some o])).map rc := by
      unfold seenAt
      rw [List.map_append, List.map_replicate]
      congr 1
      by_cases c : s.swap = -2
      · rw [if_pos c, h.sw.mp c]
        rfl
      · rw [if_neg c, h.w]
        cases e : lr.swap with
        | none => exact absurd (h.sw.mpr e) c
        | some x => rfl
    refine ⟨⟨?_, ?_, ?_, ?_, ?_, ?_, ?_, ?_, ?_⟩, rfl, rfl⟩
    · show s.belts.set 0 (s.belts.getD 0 [] ++ [lr.came]) = lr.belts.set 0 (lr.belts.getD 0 [] ++ [lr.came])
      rw [h.b]
    · show s.queues.set 0 (appAll (p.rooms.getD 0 0) (s.queues.getD 0 []) (seenAt s w lr.came)) = (lr.queues.set 0 (lAddAll (p.rooms.getD 0 0) (lr.queues.getD 0 []) _)).map (List.map rc)
      rw [eseen, h.q, getD_rc, lAddAll_map, set_rc]
      try rfl
    · show (if w = .swapped then lr.came else -2) = rc (if w = .swapped then some lr.came else none)
      split <;> rfl
    · show lateOf s.slips w = _
      rw [h.sl, late_snoc]
      rfl
    · show min p.top (s.comings + 1) = min p.top (lr.since + 1)
      rw [h.cm]
      omega
    · show 0 ≤ lr.since + 1
      omega
    · intro q hq x hx
      have hq2 : q ∈ lr.queues.set 0 (lAddAll (p.rooms.getD 0 0) (lr.queues.getD 0 []) (List.replicate w.times (some lr.came) ++ (match lr.swap with
        | none => []
        | some o => [some o]))) := hq
      rcases List.mem_or_eq_of_mem_set hq2 with z | z
      · exact h.qn q z x hx
      · rw [z] at hx
        rcases lAddAll_mem hx with y | y
        · exact h.qn _ (mem_getD_opt y) x y
        · rcases List.mem_append.mp y with y | y
          · cases List.eq_of_mem_replicate y
            exact g.n0
          · cases e : lr.swap with
            | none => rw [e] at y; cases y
            | some o =>
              rw [e] at y
              cases List.mem_singleton.mp y
              exact h.wn _ e
    · intro x hx
      have hx2 : (if w = .swapped then some lr.came else none) = some x := hx
      split at hx2
      · cases hx2; exact g.n0
      · cases hx2
    · intro i
      show (((lr.belts.set 0 (lr.belts.getD 0 [] ++ [lr.came])).getD i []).length : Int) ≤ _
      by_cases c : i = 0
      · subst c
        rw [getD_set_same (by omega), List.length_append, List.length_singleton]
        omega
      · rw [getD_set_ne (fun e => c e.symm)]
        exact h.fit i
  | pass i w =>
    have hr2 : 1 ≤ i ∧ i ≤ p.n := by
      have : (decide (1 ≤ i) && decide (i ≤ p.n)) = true := hr
      rw [Bool.and_eq_true_iff, decide_eq_true_iff, decide_eq_true_iff] at this
      exact this
    have hroom : passRoom p s i = true := by
      have h2 : (passRoom p s i && (decide (w = .once) || (!decide (w = .swapped) && slipOk p s w))) = true := hp
      rw [Bool.and_eq_true_iff] at h2
      exact h2.1
    unfold passRoom at hroom
    rw [Bool.and_eq_true_iff, Bool.or_eq_true_iff, decide_eq_true_iff, decide_eq_true_iff, decide_eq_true_iff, h.b] at hroom
    obtain ⟨hpos, hlt⟩ := hroom
    have hx0 : 0 ≤ (lr.belts.getD (i - 1) []).getD 0 0 := by
      have hm : (lr.belts.getD (i - 1) []).getD 0 0 ∈ lr.belts.getD (i - 1) [] := getD_mem hpos
      have : (lr.belts.getD (i - 1) []).getD 0 0 ∈ order s.belts := by
        rw [h.b]
        exact mem_order.mpr ⟨_, mem_getD hm, hm⟩
      exact (g.pr.lb _ this).1
    generalize hx : (lr.belts.getD (i - 1) []).getD 0 0 = x at hx0
    have elook : looks p i ((s.belts.getD (i - 1) []).getD 0 0) w.times (s.queues.getD (i - 1) []) = ((lSees p i x w.times (lr.queues.getD (i - 1) []) []).1.map rc, (lSees p i x w.times (lr.queues.getD (i - 1) []) []).2.map rc) := by
      rw [h.b, h.q, getD_rc, hx, sees_map hx0]
    have esn := fun y => sees_mem (p := p) (x := x) (i := i) (y := y) (k := w.times) (q := lr.queues.getD (i - 1) [])
    generalize hsn : lSees p i x w.times (lr.queues.getD (i - 1) []) [] = sn at elook esn
    have epass : passed p s i w = (⟨if i < p.n then (lr.belts.set (i - 1) ((lr.belts.getD (i - 1) []).drop 1)).set i ((lr.belts.set (i - 1) ((lr.belts.getD (i - 1) []).drop 1)).getD i [] ++ [x]) else lr.belts.set (i - 1) ((lr.belts.getD (i - 1) []).drop 1),
        if i < p.n then (s.queues.set (i - 1) (sn.1.map rc)).set i (appAll (p.rooms.getD i 0) ((s.queues.set (i - 1) (sn.1.map rc)).getD i []) (sn.2.map rc)) else s.queues.set (i - 1) (sn.1.map rc),
        s.swap, lateOf s.slips w, s.comings⟩, x, sn.2.map rc) := by
      unfold passed
      dsimp only
      rw [elook, h.b, hx]
    have qn1 : ∀ q ∈ lr.queues.set (i - 1) sn.1, ∀ y, some y ∈ q → 0 ≤ y := fun q hq y hy => by
      rcases List.mem_or_eq_of_mem_set hq with z | z
      · exact h.qn q z y hy
      · rw [z] at hy
        have := (esn _).1 hy
        exact h.qn _ (mem_getD_opt this) y this
    have on1 : ∀ y, some y ∈ sn.2 → 0 ≤ y := fun y hy => by
      rcases (esn _).2 hy with z | z | z
      · cases z
      · cases z; exact hx0
      · exact h.qn _ (mem_getD_opt z) y z
    have fit1 : ∀ j, (((lr.belts.set (i - 1) ((lr.belts.getD (i - 1) []).drop 1)).getD j []).length : Int) ≤ p.belts.getD j 0 := fun j => by
      by_cases c : j = i - 1
      · subst c
        rw [getD_set_same (by omega), List.length_drop]
        have := h.fit (i - 1)
        omega
      · rw [getD_set_ne (fun e => c e.symm)]
        exact h.fit j
    show Sim p (passed p s i w).1 (lDo p lr (.pass i w)) ∧ (lDo p lr (.pass i w)).came = lr.came ∧ SentR (if i < p.n then none else some ((passed p s i w).2.1, (passed p s i w).2.2.getD 0 (-2))) lr.sent (lDo p lr (.pass i w)).sent
    rw [epass]
    have elast : (i = lr.belts.length) ↔ ¬ i < p.n := by omega
    unfold lDo
    dsimp only
    rw [hx, hsn]
    by_cases c : i < p.n
    · rw [if_pos c, if_pos c, if_neg (fun e => (elast.mp e) c), if_pos c]
      refine ⟨⟨rfl, ?_, h.w, ?_, h.cm, hs0, ?_, h.wn, fun j => ?_⟩, rfl, rfl⟩
      · show (s.queues.set (i - 1) (sn.1.map rc)).set i (appAll (p.rooms.getD i 0) ((s.queues.set (i - 1) (sn.1.map rc)).getD i []) (sn.2.map rc)) = _
        rw [h.q, set_rc, getD_rc, lAddAll_map, set_rc]
      · show lateOf s.slips w = _
        rw [h.sl, late_snoc]
        rfl
      · intro q hq y hy
        rcases List.mem_or_eq_of_mem_set hq with z | z
        · exact qn1 q z y hy
        · rw [z] at hy
          rcases lAddAll_mem hy with v | v
          · exact qn1 _ (mem_getD_opt v) y v
          · exact on1 y v
      · show (((((lr.belts.set (i - 1) ((lr.belts.getD (i - 1) []).drop 1)).set i ((lr.belts.set (i - 1) ((lr.belts.getD (i - 1) []).drop 1)).getD i [] ++ [x])).getD j []).length : Nat) : Int) ≤ _
        by_cases cj : j = i
        · subst cj
          have e9 : (lr.belts.set (j - 1) ((lr.belts.getD (j - 1) []).drop 1)).getD j [] = lr.belts.getD j [] := getD_set_ne (by omega)
          rw [getD_set_same (by rw [List.length_set]; omega), e9, List.length_append, List.length_singleton]
          rcases hlt with z | z
          · omega
          · omega
        · rw [getD_set_ne (fun e => cj e.symm)]
          exact fit1 j
    · rw [if_neg c, if_neg c, if_pos (elast.mpr c), if_neg c]
      refine ⟨⟨rfl, ?_, h.w, ?_, h.cm, hs0, qn1, h.wn, fit1⟩, rfl, ?_⟩
      · show s.queues.set (i - 1) (sn.1.map rc) = _
        rw [h.q, set_rc]
      · show lateOf s.slips w = _
        rw [h.sl, late_snoc]
        rfl
      · refine ⟨sn.2.getD 0 none, rfl, (getD_rc0 _).symm, fun z hz => ?_⟩
        cases e : sn.2 with
        | nil => rw [e] at hz; cases hz
        | cons a l =>
          rw [e] at hz
          have : a = some z := hz
          exact on1 z (by rw [e, this]; exact List.mem_cons_self)
theorem Sim.begun (ok : p.Ok) : Sim p (St.start p) (LR.begun p) where
  b := rfl
  q := by
    show List.replicate p.n [] = (List.replicate p.n ([] : List (Option Int))).map (List.map rc)
    simp
  w := rfl
  sl := by
    show List.replicate (p.among - 1).toNat (0 : Int) = (List.replicate (p.among - 1).toNat (0 : Int) ++ []).drop ((List.replicate (p.among - 1).toNat (0 : Int) ++ []).length - (p.among - 1).toNat)
    simp
  cm := by
    have := top_pos ok
    show (0 : Int) = min p.top 0
    omega
  s0 := Int.le_refl 0
  qn := fun q hq x hx => by
    have hq2 : q ∈ List.replicate p.n ([] : List (Option Int)) := hq
    rw [List.eq_of_mem_replicate hq2] at hx
    cases hx
  wn := fun x hx => by cases hx
  fit := fun i => by
    show (((List.replicate p.n ([] : List Int)).getD i []).length : Int) ≤ _
    have e : (List.replicate p.n ([] : List Int)).getD i [] = [] := by
      rw [List.getD_eq_getElem?_getD, List.getElem?_replicate]
      split <;> rfl
    rw [e]
    by_cases h : i < p.belts.length
    · rw [List.getD_eq_getElem?_getD, List.getElem?_eq_getElem h]
      have := (ok.rb _ (List.getElem_mem h)).1
      show (0 : Int) ≤ p.belts[i]
      omega
    · rw [List.getD_eq_getElem?_getD, List.getElem?_eq_none (by omega)]
      exact Int.le_refl 0
end
end Ow
set_option linter.all false
namespace Ow
section
variable {p : Plan} {s s' : St} {lr : LR} {n n' : Int} {d : Deed}
/-! ### some deed is always possible -/
theorem getD_replicate_nil {α : Type} (k i : Nat) : (List.replicate k ([] : List α)).getD i [] = [] := by
  rw [List.getD_eq_getElem?_getD, List.getElem?_replicate]
  split <;> rfl
theorem last_belt : ∀ b : List (List Int), total b ≠ 0 → ∃ j, j < b.length ∧ b.getD j [] ≠ [] ∧ ∀ k, j < k → b.getD k [] = []
  | [], h => absurd rfl h
  | x :: r, h => by
    by_cases c : total r = 0
    · have hr := (total_zero r).mp c
      refine ⟨0, by simp, fun e => ?_, fun k hk => ?_⟩
      · have e2 : x = [] := e
        apply h
        rw [show total (x :: r) = x.length + total r by simp [total], c, e2]
        rfl
      · obtain ⟨k, rfl⟩ : ∃ m, k = m + 1 := ⟨k - 1, by omega⟩
        show r.getD k [] = []
        rw [hr]
        exact getD_replicate_nil _ _
    · obtain ⟨j, h1, h2, h3⟩ := last_belt r c
      refine ⟨j + 1, by simpa using h1, h2, fun k hk => ?_⟩
      obtain ⟨k, rfl⟩ : ∃ m, k = m + 1 := ⟨k - 1, by omega⟩
      exact h3 k (by omega)
theorem room_pos (ok : p.Ok) {i : Nat} (h : i < p.n) : 1 ≤ p.belts.getD i 0 := by
  have h2 : i < p.belts.length := h
  rw [List.getD_eq_getElem?_getD, List.getElem?_eq_getElem h2]
  exact (ok.rb _ (List.getElem_mem h2)).1
theorem some_possible (ok : p.Ok) (g : Good p s n) : ∃ d, inRange p d = true ∧ possible p s d = true := by
  have n1 : 1 ≤ p.n := ok.nb.1
  by_cases c : total s.belts = 0
  · by_cases c2 : s.swap = -2 ∧ 0 < s.comings
    · refine ⟨.pause, rfl, ?_⟩
      show (decide (total s.belts = 0) && (decide (s.swap = -2) && decide (0 < s.comings))) = true
      rw [decide_eq_true c, decide_eq_true c2.1, decide_eq_true c2.2]
      rfl
    · refine ⟨.come .once, rfl, ?_⟩
      show (comeRoom p s && (decide (Sight.once = .once) || (decide (s.swap = -2) && slipOk p s .once))) = true
      have e : s.belts.getD 0 [] = [] := by
        rw [(total_zero _).mp c]
        exact getD_replicate_nil _ _
      have h0 := room_pos ok (i := 0) (by omega)
      unfold comeRoom
      rw [e, decide_eq_true (show ((([] : List Int).length : Nat) : Int) < p.belts.getD 0 0 by rw [List.length_nil]; omega)]
      by_cases c3 : s.swap = -2
      · have c4 : ¬ 0 < s.comings := fun z => c2 ⟨c3, z⟩
        cases e : p.stretch with
        | none => simp
        | some k =>
          have := (ok.st k e).1
          dsimp only
          rw [decide_eq_false (show ¬ k ≤ s.comings by omega)]
          simp
      · rw [decide_eq_false c3]
        simp
  · obtain ⟨j, h1, h2, h3⟩ := last_belt _ c
    have hj : j < p.n := by rw [← g.sz.b]; exact h1
    refine ⟨.pass (j + 1) .once, ?_, ?_⟩
    · show (decide (1 ≤ j + 1) && decide (j + 1 ≤ p.n)) = true
      rw [decide_eq_true (by omega), decide_eq_true (by omega)]
      rfl
    · show (passRoom p s (j + 1) && (decide (Sight.once = .once) || _)) = true
      unfold passRoom
      rw [h3 (j + 1) (by omega), show j + 1 - 1 = j from rfl, decide_eq_true (List.length_pos_iff.mpr h2)]
      by_cases c3 : j + 1 = p.n
      · rw [decide_eq_true c3]
        simp
      · have := room_pos ok (i := j + 1) (by omega)
        rw [decide_eq_true (show ((([] : List Int).length : Nat) : Int) < p.belts.getD (j + 1) 0 by rw [List.length_nil]; omega)]
        simp
theorem mem_sights (g : Sight) : g ∈ sights := by cases g <;> decide
theorem mem_lAll (hr : inRange p d = true) : d ∈ lAllDeeds p := by
  unfold lAllDeeds
  cases d with
  | pause => exact List.mem_append_right _ (List.mem_singleton_self _)
  | come g => exact List.mem_append_left _ (List.mem_append_left _ (List.mem_map.mpr ⟨g, mem_sights g, rfl⟩))
  | pass i g =>
    have hr2 : (decide (1 ≤ i) && decide (i ≤ p.n)) = true := hr
    rw [Bool.and_eq_true_iff, decide_eq_true_iff, decide_eq_true_iff] at hr2
    refine List.mem_append_left _ (List.mem_append_right _ (List.mem_flatten.mpr ⟨_, List.mem_map.mpr ⟨i - 1, List.mem_range.mpr (by omega), rfl⟩, List.mem_map.mpr ⟨g, mem_sights g, ?_⟩⟩))
    rw [show i - 1 + 1 = i by omega]
theorem deeds_some (ok : p.Ok) (h : Sim p s lr) (g : Good p s n) : lDeeds p lr ≠ [] := by
  obtain ⟨d, hr, hp⟩ := some_possible ok g
  have hm : d ∈ lDeeds p lr := List.mem_filter.mpr ⟨mem_lAll hr, by rw [can_possible ok h g.sz hr]; exact hp⟩
  intro e
  rw [e] at hm
  cases hm
/-! ### places alone matter -/
theorem place_step (ok : p.Ok) (g : Good p s n) (g' : Good p s' n') (e : placeOf s' = placeOf s) (hr : inRange p d = true) (hp : possible p s d = true) :
    possible p s' d = true ∧ placeOf (moved p s' d n').1 = placeOf (moved p s d n).1 ∧ wordOf (moved p s' d n').2 = wordOf (moved p s d n).2 := by
  have h1 := sim_possible (p := p) g.pr g.n0 d
  have h2 := sim_possible (p := p) g'.pr g'.n0 d
  rw [e, h1] at h2
  have hp' : possible p s' d = true := by rw [← h2]; exact hp
  have b1 := sim_behind ok.nb.1 g.sz g.pr g.n0 d hr hp
  have b2 := sim_behind ok.nb.1 g'.sz g'.pr g'.n0 d hr hp'
  rw [e, b1] at b2
  exact ⟨hp', (congrArg Prod.fst b2).symm, (congrArg Prod.snd b2).symm⟩
theorem sight_in {g : Sight} (h : g = .once ∨ slipOk p s g = true) : g ∈ Sight.once :: p.words := by
  rcases h with h | h
  · rw [h]; exact List.mem_cons_self
  · unfold slipOk Plan.slip at h
    rw [Bool.and_eq_true_iff] at h
    exact List.mem_cons_of_mem _ (List.contains_iff_mem.mp h.1)
theorem mem_all (hr : inRange p d = true) (hp : possible p s d = true) : d ∈ allDeeds p := by
  unfold allDeeds
  cases d with
  | pause => exact List.mem_append_right _ (List.mem_singleton_self _)
  | come g =>
    have h2 : (comeRoom p s && (decide (g = .once) || (decide (s.swap = -2) && slipOk p s g))) = true := hp
    rw [Bool.and_eq_true_iff, Bool.or_eq_true_iff, Bool.and_eq_true_iff, decide_eq_true_iff] at h2
    refine List.mem_append_left _ (List.mem_append_left _ (List.mem_map.mpr ⟨g, sight_in (s := s) ?_, rfl⟩))
    rcases h2.2 with z | z
    · exact .inl z
    · exact .inr z.2
  | pass i g =>
    have hr2 : (decide (1 ≤ i) && decide (i ≤ p.n)) = true := hr
    rw [Bool.and_eq_true_iff, decide_eq_true_iff, decide_eq_true_iff] at hr2
    have h2 : (passRoom p s i && (decide (g = .once) || (!decide (g = .swapped) && slipOk p s g))) = true := hp
    rw [Bool.and_eq_true_iff, Bool.or_eq_true_iff, Bool.and_eq_true_iff, decide_eq_true_iff] at h2
    refine List.mem_append_left _ (List.mem_append_right _ (List.mem_flatten.mpr ⟨_, List.mem_map.mpr ⟨i - 1, List.mem_range.mpr (by omega), rfl⟩, List.mem_map.mpr ⟨g, sight_in (s := s) ?_, ?_⟩⟩))
    · rcases h2.2 with z | z
      · exact .inl z
      · exact .inr z.2
    · rw [show i - 1 + 1 = i by omega]
theorem mem_deedsAt (g : Good p s n) (hr : inRange p d = true) (hp : possible p s d = true) : d ∈ deedsAt p (placeOf s) :=
  List.mem_filter.mpr ⟨mem_all hr hp, by rw [sim_possible g.pr g.n0]; exact hp⟩
theorem deedsAt_mem (g : Good p s n) (h : d ∈ deedsAt p (placeOf s)) : inRange p d = true ∧ possible p s d = true := by
  obtain ⟨h1, h2⟩ := List.mem_filter.mp h
  rw [sim_possible g.pr g.n0] at h2
  exact ⟨all_inRange h1, h2⟩
theorem word_ok {q : Int × Int} (h : wordOf (some q) ≠ some .other) : q.2 = -2 ∨ q.2 = q.1 := by
  obtain ⟨x, r⟩ := q
  by_cases c : r = -2
  · exact .inl c
  · by_cases c2 : x = r
    · exact .inr c2.symm
    · exfalso
      apply h
      show some (if r = -2 then Word.on else if x = r then .own else .other) = _
      rw [if_neg c, if_neg c2]
theorem word_other {q : Option (Int × Int)} (h : wordOf q = some .other) : ∃ x r, q = some (x, r) ∧ r ≠ -2 ∧ x ≠ r := by
  cases q with
  | none => cases h
  | some q =>
    obtain ⟨x, r⟩ := q
    have h2 : some (if r = -2 then Word.on else if x = r then .own else .other) = some .other := h
    refine ⟨x, r, rfl, fun c => ?_, fun c => ?_⟩
    · rw [if_pos c] at h2; cases h2
    · by_cases c2 : r = -2
      · rw [if_pos c2] at h2; cases h2
      · rw [if_neg c2, if_pos c] at h2; cases h2
/-! ### who goes astray -/
def isAst (cs : List Int) (q : Int × Int) : Bool := decide (q.2 ≠ -2) && decide (cs.getD q.2.toNat 0 ≠ cs.getD q.1.toNat 0)
theorem filter_ok {cs : List Int} : ∀ {ss : List (Int × Int)}, (∀ q ∈ ss, q.2 = -2 ∨ q.2 = q.1) → ss.filter (isAst cs) = []
  | [], _ => rfl
  | q :: r, h => by
    rw [List.filter_cons_of_neg, filter_ok fun x hx => h x (List.mem_cons_of_mem _ hx)]
    unfold isAst
    rcases h q List.mem_cons_self with e | e
    · rw [e]; simp
    · rw [e]; simp
end
end Ow
set_option linter.all false
namespace Ow
/-! ### a flow, told three ways -/
def ssN (ss : List (Int × Int)) : Option (Int × Int) → List (Int × Int)
  | none => ss
  | some q => ss ++ [q]
structure T3 where
  s : St
  n : Int
  ss : List (Int × Int)
  lr : LR
def T3.next (p : Plan) (t : T3) (d : Deed) : T3 := ⟨(moved p t.s d t.n).1, nextN t.n d, ssN t.ss (moved p t.s d t.n).2, lDo p t.lr d⟩
def T3.begun (p : Plan) : T3 := ⟨St.start p, 0, [], LR.begun p⟩
def T3.run (p : Plan) (ds : List Deed) : T3 := ds.foldl (T3.next p) (T3.begun p)
theorem T3.run_snoc (p : Plan) (ds : List Deed) (d : Deed) : T3.run p (ds ++ [d]) = (T3.run p ds).next p d := by
  unfold T3.run
  rw [List.foldl_append]
  rfl
structure Inv3 (p : Plan) (t : T3) : Prop where
  g : Good p t.s t.n
  m : Sim p t.s t.lr
  c : t.lr.came = t.n
  e : t.ss = t.lr.sent.map fun q => (q.1, rc q.2)
  sn : ∀ q ∈ t.lr.sent, ∀ y, q.2 = some y → 0 ≤ y
  r : ∀ q ∈ t.ss, (0 ≤ q.1 ∧ q.1 < t.n) ∧ (q.2 = -2 ∨ (0 ≤ q.2 ∧ q.2 < t.n))
theorem Inv3.begun {p : Plan} (ok : p.Ok) : Inv3 p (T3.begun p) where
  g := Good.start ok
  m := Sim.begun ok
  c := rfl
  e := rfl
  sn := fun q h => by cases h
  r := fun q h => by cases h
theorem nextN_le (n : Int) (d : Deed) : n ≤ nextN n d := by
  cases d with
  | come _ => show n ≤ n + 1; omega
  | pass _ _ => exact Int.le_refl _
  | pause => exact Int.le_refl _
theorem Inv3.next {p : Plan} (ok : p.Ok) {t : T3} (h : Inv3 p t) {d : Deed} (hr : inRange p d = true) (hp : possible p t.s d = true) : Inv3 p (t.next p d) := by
  obtain ⟨h1, h2, h3⟩ := h.m.step ok h.g h.c hr hp
  have hn := nextN_le t.n d
  have r0 : ∀ q ∈ t.ss, (0 ≤ q.1 ∧ q.1 < nextN t.n d) ∧ (q.2 = -2 ∨ (0 ≤ q.2 ∧ q.2 < nextN t.n d)) := fun q hq => by
    have := h.r q hq
    omega
  have hs : ∀ x r, (moved p t.s d t.n).2 = some (x, r) → (0 ≤ x ∧ x < nextN t.n d) ∧ (r = -2 ∨ (0 ≤ r ∧ r < nextN t.n d)) := fun x r e => by
    obtain ⟨a1, a2⟩ := sent_moved hp e
    have b1 := h.g.pr.lb x a1
    refine ⟨by omega, ?_⟩
    rcases a2 with z | z | ⟨q0, hq, hm⟩
    · exact .inl z
    · subst z; exact .inr (by omega)
    · rcases h.g.pr.qs q0 hq r hm with z | z
      · exact .inl z
      · exact .inr (by omega)
  refine ⟨h.g.moved ok d hr hp, h1, h2, ?_, ?_, ?_⟩
  · show ssN t.ss (moved p t.s d t.n).2 = (lDo p t.lr d).sent.map _
    cases e : (moved p t.s d t.n).2 with
    | none =>
      rw [e] at h3
      have h4 : (lDo p t.lr d).sent = t.lr.sent := h3
      rw [h4]
      exact h.e
    | some q =>
      rw [e] at h3
      obtain ⟨y, h4, h5, _⟩ := h3
      rw [h4, List.map_append, ← h.e]
      show t.ss ++ [q] = t.ss ++ [(q.1, rc y)]
      rw [h5]
  · show ∀ q ∈ (lDo p t.lr d).sent, ∀ y, q.2 = some y → 0 ≤ y
    cases e : (moved p t.s d t.n).2 with
    | none =>
      rw [e] at h3
      have h4 : (lDo p t.lr d).sent = t.lr.sent := h3
      rw [h4]
      exact h.sn
    | some q =>
      rw [e] at h3
      obtain ⟨y, h4, h5, h6⟩ := h3
      rw [h4]
      intro q2 hq z hz
      rcases List.mem_append.mp hq with v | v
      · exact h.sn q2 v z hz
      · rw [List.mem_singleton.mp v] at hz
        exact h6 z hz
  · show ∀ q ∈ ssN t.ss (moved p t.s d t.n).2, _
    cases e : (moved p t.s d t.n).2 with
    | none => exact r0
    | some q =>
      intro q2 hq
      rcases List.mem_append.mp hq with v | v
      · exact r0 q2 v
      · rw [List.mem_singleton.mp v]
        exact hs q.1 q.2 e
def FlowOk (p : Plan) (ds : List Deed) : Prop := ∀ (k : Nat) (d : Deed), ds[k]? = some d → inRange p d = true ∧ possible p (T3.run p (ds.take k)).s d = true
theorem FlowOk.nil {p : Plan} : FlowOk p [] := fun k d h => by simp at h
theorem FlowOk.take {p : Plan} {ds : List Deed} (h : FlowOk p ds) (k : Nat) : FlowOk p (ds.take k) := fun j d hj => by
  have hjk : j < k := by
    by_cases c : j < k
    · exact c
    · rw [List.getElem?_take_eq_none (by omega)] at hj
      cases hj
  rw [List.getElem?_take_of_lt hjk] at hj
  have := h j d hj
  rw [List.take_take, Nat.min_eq_left (by omega)]
  exact this
theorem FlowOk.snoc {p : Plan} {ds : List Deed} {d : Deed} (h : FlowOk p ds) (hr : inRange p d = true) (hp : possible p (T3.run p ds).s d = true) : FlowOk p (ds ++ [d]) := fun k d' hk => by
  by_cases c : k < ds.length
  · rw [List.getElem?_append_left c] at hk
    rw [List.take_append_of_le_length (by omega)]
    exact h k d' hk
  · have hl : k < (ds ++ [d]).length := (List.getElem?_eq_some_iff.mp hk).1
    rw [List.length_append, List.length_singleton] at hl
    obtain rfl : k = ds.length := by omega
    rw [List.getElem?_append_right (Nat.le_refl _), Nat.sub_self] at hk
    cases hk
    rw [List.take_left' rfl]
    exact ⟨hr, hp⟩
theorem takeD {α : Type} {l : List α} {k : Nat} {x : α} (h : l[k]? = some x) : l.take (k + 1) = l.take k ++ [x] := by rw [List.take_succ, h]; rfl
theorem FlowOk.inv {p : Plan} (ok : p.Ok) {ds : List Deed} (h : FlowOk p ds) : Inv3 p (T3.run p ds) := by
  have key : ∀ k, k ≤ ds.length → Inv3 p (T3.run p (ds.take k)) := by
    intro k
    induction k with
    | zero =>
      intro _
      rw [List.take_zero]
      exact Inv3.begun ok
    | succ k ih =>
      intro hk
      have e : ds[k]? = some ds[k] := List.getElem?_eq_getElem (by omega)
      obtain ⟨h1, h2⟩ := h k _ e
      rw [takeD e, T3.run_snoc]
      exact (ih (by omega)).next ok h1 h2
  have := key ds.length (Nat.le_refl _)
  rwa [List.take_length] at this
theorem FlowOk.one {p : Plan} {ds : List Deed} {d : Deed} (h : FlowOk p (ds ++ [d])) : FlowOk p ds ∧ inRange p d = true ∧ possible p (T3.run p ds).s d = true := by
  have h1 := h.take ds.length
  rw [List.take_left' rfl] at h1
  have h2 := h ds.length d (by rw [List.getElem?_append_right (Nat.le_refl _), Nat.sub_self]; rfl)
  rw [List.take_left' rfl] at h2
  exact ⟨h1, h2⟩
/-! ### how long the lists are -/
theorem run_len {p : Plan} : ∀ (ds : List Deed) (t : T3), (ds.foldl (T3.next p) t).lr.slips.length + ds.count .pause = t.lr.slips.length + ds.length ∧ (ds.foldl (T3.next p) t).lr.sent.length ≤ t.lr.sent.length + ds.length ∧ (ds.foldl (T3.next p) t).ss.length ≤ t.ss.length + ds.length
  | [], t => ⟨rfl, Nat.le_refl _, Nat.le_refl _⟩
  | d :: ds, t => by
    obtain ⟨h1, h2, h3⟩ := run_len (p := p) ds (t.next p d)
    have a1 : (t.next p d).lr.slips.length + (if d = .pause then 1 else 0) = t.lr.slips.length + 1 := by
      show (lDo p t.lr d).slips.length + _ = _
      cases d with
      | pause => rfl
      | come g =>
        show (t.lr.slips ++ [_]).length + 0 = _
        rw [List.length_append, List.length_singleton]
      | pass i g =>
        unfold lDo
        dsimp only
        split <;> (show (t.lr.slips ++ [_]).length + 0 = _; rw [List.length_append, List.length_singleton])
    have a2 : (t.next p d).lr.sent.length ≤ t.lr.sent.length + 1 := by
      show (lDo p t.lr d).sent.length ≤ _
      cases d with
      | pause => exact Nat.le_succ _
      | come g => exact Nat.le_succ _
      | pass i g =>
        unfold lDo
        dsimp only
        split
        · rw [List.length_append, List.length_singleton]
          exact Nat.le_refl _
        · exact Nat.le_succ _
    have a3 : (t.next p d).ss.length ≤ t.ss.length + 1 := by
      show (ssN t.ss _).length ≤ _
      unfold ssN
      split
      · exact Nat.le_succ _
      · rw [List.length_append, List.length_singleton]
        exact Nat.le_refl _
    have a4 : (d :: ds).count .pause = ds.count .pause + (if d = .pause then 1 else 0) := by
      rw [List.count_cons]
      by_cases c : d = .pause
      · simp [c]
      · simp [c]
    rw [a4, List.foldl_cons, List.length_cons]
    refine ⟨by omega, by omega, by omega⟩
theorem run_slips {p : Plan} (ds : List Deed) : (T3.run p ds).lr.slips.length + ds.count .pause = ds.length := by
  have := (run_len (p := p) ds (T3.begun p)).1
  rw [show (T3.begun p).lr.slips.length = 0 from rfl, Nat.zero_add] at this
  exact this
theorem run_sent {p : Plan} (ds : List Deed) : (T3.run p ds).lr.sent.length ≤ ds.length := by
  have := (run_len (p := p) ds (T3.begun p)).2.1
  rw [show (T3.begun p).lr.sent.length = 0 from rfl, Nat.zero_add] at this
  exact this
/-! ### two chutes -/
def chOf (R : Int) (cs : List Int) : Int := if (cs.length : Int) = R then 2 else 5
def csN (cs : List Int) (c : Int) : Deed → List Int
  | .come _ => cs ++ [c]
  | _ => cs
def csOf (R : Int) (ds : List Deed) : List Int := ds.foldl (fun cs d => csN cs (chOf R cs) d) []
theorem csOf_snoc (R : Int) (ds : List Deed) (d : Deed) : csOf R (ds ++ [d]) = csN (csOf R ds) (chOf R (csOf R ds)) d := by
  unfold csOf
  rw [List.foldl_append]
  rfl
structure Ch (R : Int) (cs : List Int) (n : Int) : Prop where
  l : (cs.length : Int) = n
  v : ∀ i : Nat, i < cs.length → cs.getD i 0 = if (i : Int) = R then 2 else 5
theorem Ch.next {R : Int} {cs : List Int} {n : Int} (h : Ch R cs n) (d : Deed) : Ch R (csN cs (chOf R cs) d) (nextN n d) := by
  cases d with
  | pause => exact h
  | pass i g => exact h
  | come g =>
    refine ⟨?_, fun i hi => ?_⟩
    · show ((cs ++ [_]).length : Int) = n + 1
      rw [List.length_append, List.length_singleton]
      have := h.l
      omega
    · have hi2 : i < (cs ++ [chOf R cs]).length := hi
      show (cs ++ [chOf R cs]).getD i 0 = _
      rw [List.length_append, List.length_singleton] at hi2
      by_cases c : i < cs.length
      · rw [List.getD_eq_getElem?_getD, List.getElem?_append_left c, ← List.getD_eq_getElem?_getD]
        exact h.v i c
      · obtain rfl : i = cs.length := by omega
        rw [List.getD_eq_getElem?_getD, List.getElem?_append_right (Nat.le_refl _), Nat.sub_self]
        rfl
theorem csOf_ch {p : Plan} (R : Int) (ds : List Deed) : Ch R (csOf R ds) (T3.run p ds).n := by
  have key : ∀ k, k ≤ ds.length → Ch R (csOf R (ds.take k)) (T3.run p (ds.take k)).n := by
    intro k
    induction k with
    | zero =>
      intro _
      rw [List.take_zero]
      exact ⟨rfl, fun i h => by cases h⟩
    | succ k ih =>
      intro hk
      have e : ds[k]? = some ds[k] := List.getElem?_eq_getElem (by omega)
      rw [takeD e, T3.run_snoc, csOf_snoc]
      exact (ih (by omega)).next _
  have := key ds.length (Nat.le_refl _)
  rwa [List.take_length] at this
theorem Ch.at {R : Int} {cs : List Int} {n : Int} (h : Ch R cs n) {x : Int} (h0 : 0 ≤ x) (h1 : x < n) : cs.getD x.toNat 0 = if x = R then 2 else 5 := by
  have := h.l
  have h2 := h.v x.toNat (by omega)
  rw [Int.toNat_of_nonneg h0] at h2
  exact h2
theorem filter_one {R x : Int} {cs : List Int} {n : Int} {pre : List (Int × Int)} (h : Ch R cs n) (hp : ∀ q ∈ pre, q.2 = -2 ∨ q.2 = q.1) (x0 : 0 ≤ x) (x1 : x < n) (r0 : 0 ≤ R) (r1 : R < n) (ne : x ≠ R) : (pre ++ [(x, R)]).filter (isAst cs) = [(x, R)] := by
  rw [List.filter_append, filter_ok hp, List.nil_append, List.filter_cons_of_pos]
  · rfl
  · unfold isAst
    rw [Bool.and_eq_true_iff, decide_eq_true_iff, decide_eq_true_iff]
    dsimp only
    refine ⟨by omega, ?_⟩
    rw [h.at r0 r1, h.at x0 x1, if_pos rfl, if_neg ne]
    decide
end Ow
set_option Elab.async false
set_option linter.all false
set_option maxRecDepth 100000
set_option maxHeartbeats 4000000
namespace Ow
open PySem PySem.Spec PyProof.Rows L2
/-! ### what stays -/
theorem Same.seqT {K : PySem.W.Frag} {H H' : Hp} {a : Addr} {xs : List V} (e : Same H H') (h : SqT K H a xs) : SqT K H' a xs := by
  rcases h with (h | ⟨o, h⟩) | h
  · exact .inl (.inl (e _ _ h))
  · exact .inl (.inr ⟨o, e _ _ h⟩)
  · exact .inr h
theorem Same.new {H H' : Hp} {p : Addr} {o : HO} (e : Same H H') (h : H' p = none) : Same H (upd H' p o) := fun b u z => by
  rw [upd_ne (ne_of_none (e b u z) h)]
  exact e b u z
/-- an object that H does not know is written -/
theorem Same.put {H H' : Hp} {p : Addr} {o : HO} (e : Same H H') (h : H p = none) : Same H (upd H' p o) := fun b u z => by
  rw [upd_ne (ne_of_none z h)]
  exact e b u z
theorem line_of {n : Nat} (h : n ≤ 100000) : n ≤ sizeLine := Nat.le_trans h (by decide)
theorem line_lt {n : Nat} (h : n < 100000) : n < sizeLine := Nat.lt_of_lt_of_le h (by decide)
/-! ### words -/
def gS : Sight → Str
  | .once => "once" | .missed => "missed" | .twice => "twice" | .swapped => "swapped"
theorem gS_inj : ∀ {a b : Sight}, gS a = gS b → a = b := by
  intro a b h
  cases a <;> cases b <;> first | rfl | exact absurd h (by decide +kernel)
/-! ### tuples of ints, tuples of these -/
inductive All2 {α β : Type} (R : α → β → Prop) : List α → List β → Prop where
  | nil : All2 R [] []
  | cons {a b l m} : R a b → All2 R l m → All2 R (a :: l) (b :: m)
theorem All2.length {α β : Type} {R : α → β → Prop} : ∀ {l : List α} {m : List β}, All2 R l m → l.length = m.length
  | _, _, .nil => rfl
  | _, _, .cons _ t => congrArg Nat.succ t.length
theorem All2.imp {α β : Type} {R S : α → β → Prop} (f : ∀ a b, R a b → S a b) : ∀ {l : List α} {m : List β}, All2 R l m → All2 S l m
  | _, _, .nil => .nil
  | _, _, .cons r t => .cons (f _ _ r) (t.imp f)
theorem All2.get {α β : Type} {R : α → β → Prop} : ∀ {l : List α} {m : List β} {i : Nat} {b : β}, All2 R l m → m[i]? = some b → ∃ a, l[i]? = some a ∧ R a b
  | _, _, _, _, .nil, e => by simp at e
  | _, _, 0, _, .cons r _, e => by simp at e; subst e; exact ⟨_, rfl, r⟩
  | _, _, i + 1, b, .cons _ t, e => by
    obtain ⟨a, h1, h2⟩ := t.get (i := i) (b := b) (by simpa using e)
    exact ⟨a, by simpa using h1, h2⟩
theorem All2.get' {α β : Type} {R : α → β → Prop} : ∀ {l : List α} {m : List β} {i : Nat} {a : α}, All2 R l m → l[i]? = some a → ∃ b, m[i]? = some b ∧ R a b
  | _, _, _, _, .nil, e => by simp at e
  | _, _, 0, _, .cons r _, e => by simp at e; subst e; exact ⟨_, rfl, r⟩
  | _, _, i + 1, b, .cons _ t, e => by
    obtain ⟨a, h1, h2⟩ := t.get' (i := i) (a := b) (by simpa using e)
    exact ⟨a, by simpa using h1, h2⟩
theorem All2.snoc {α β : Type} {R : α → β → Prop} {a : α} {b : β} (r : R a b) : ∀ {l : List α} {m : List β}, All2 R l m → All2 R (l ++ [a]) (m ++ [b])
  | _, _, .nil => .cons r .nil
  | _, _, .cons q t => .cons q (t.snoc r)
theorem All2.append {α β : Type} {R : α → β → Prop} : ∀ {l l' : List α} {m m' : List β}, All2 R l m → All2 R l' m' → All2 R (l ++ l') (m ++ m')
  | _, _, _, _, .nil, s => s
  | _, _, _, _, .cons q t, s => .cons q (t.append s)
theorem All2.set {α β : Type} {R : α → β → Prop} {a : α} {b : β} (r : R a b) : ∀ {l : List α} {m : List β} (i : Nat), All2 R l m → All2 R (l.set i a) (m.set i b)
  | _, _, _, .nil => .nil
  | _, _, 0, .cons _ t => .cons r t
  | _, _, i + 1, .cons q t => .cons q (t.set r i)
theorem All2.drop {α β : Type} {R : α → β → Prop} : ∀ {l : List α} {m : List β} (i : Nat), All2 R l m → All2 R (l.drop i) (m.drop i)
  | _, _, 0, h => h
  | _, _, _ + 1, .nil => .nil
  | _, _, i + 1, .cons _ t => t.drop i
theorem All2.replicate {α β : Type} {R : α → β → Prop} {a : α} {b : β} (r : R a b) : ∀ n, All2 R (List.replicate n a) (List.replicate n b)
  | 0 => .nil
  | n + 1 => .cons r (All2.replicate r n)
section
variable (K : PySem.W.Frag)
def AtI (H : Hp) (v : V) (xs : List Int) : Prop := ∃ a, v = .ref a ∧ SqT K H a (xs.map V.int)
def AtII (H : Hp) (v : V) (xss : List (List Int)) : Prop := ∃ a vs, v = .ref a ∧ SqT K H a vs ∧ All2 (AtI K H) vs xss
def StAt (H : Hp) (v : V) (s : St) : Prop := ∃ a vb vq vs, v = .ref a ∧ SqT K H a [vb, vq, .int s.swap, vs, .int s.comings] ∧ AtII K H vb s.belts ∧ AtII K H vq s.queues ∧ AtI K H vs s.slips
def PlAt (H : Hp) (v : V) (s : Place) : Prop := ∃ a vb vq vs, v = .ref a ∧ SqT K H a [vb, vq, .int s.swap, vs, .int s.comings] ∧ AtI K H vb s.counts ∧ AtII K H vq s.queues ∧ AtI K H vs s.slips
def dV : Deed → List V
  | .come g => [.str "come", .str (gS g)]
  | .pass i g => [.str "pass", .int (i : Int), .str (gS g)]
  | .pause => [.str "pause"]
def DeAt (H : Hp) (v : V) (d : Deed) : Prop := ∃ a, v = .ref a ∧ SqT K H a (dV d)
variable {K}
variable {H H' : Hp} {v : V}
theorem AtI.mono {xs : List Int} (e : Same H H') (h : AtI K H v xs) : AtI K H' v xs := by
  obtain ⟨a, r, q⟩ := h
  exact ⟨a, r, Same.seqT e q⟩
theorem AtII.mono {xs : List (List Int)} (e : Same H H') (h : AtII K H v xs) : AtII K H' v xs := by
  obtain ⟨a, vs, r, q, z⟩ := h
  exact ⟨a, vs, r, Same.seqT e q, z.imp fun _ _ => AtI.mono e⟩
theorem StAt.mono {s : St} (e : Same H H') (h : StAt K H v s) : StAt K H' v s := by
  obtain ⟨a, vb, vq, vs, r, q, h1, h2, h3⟩ := h
  exact ⟨a, vb, vq, vs, r, Same.seqT e q, h1.mono e, h2.mono e, h3.mono e⟩
theorem PlAt.mono {s : Place} (e : Same H H') (h : PlAt K H v s) : PlAt K H' v s := by
  obtain ⟨a, vb, vq, vs, r, q, h1, h2, h3⟩ := h
  exact ⟨a, vb, vq, vs, r, Same.seqT e q, h1.mono e, h2.mono e, h3.mono e⟩
theorem DeAt.mono {d : Deed} (e : Same H H') (h : DeAt K H v d) : DeAt K H' v d := by
  obtain ⟨a, r, q⟩ := h
  exact ⟨a, r, Same.seqT e q⟩
end
/-! ### the plant: its line, its tracker -/
def wB : Bool → Str
  | true => "blank" | false => "none"
def wF : Bool → Str
  | true => "first" | false => "none"
def wC : Bool → Str
  | true => "clear" | false => "keep"
def oV : Option Int → V
  | none => .non
  | some i => .int i
def lineF (lb ls tp lw : Addr) (p : Plan) : List (Str × V) := [("own_belts", .ref lb), ("own_scans", .ref ls), ("own_slips", .ref tp), ("own_words", .ref lw), ("own_stretch", oV p.stretch)]
def trackF (lr tr : Addr) (p : Plan) : List (Str × V) := [("own_rooms", .ref lr), ("own_seek", .int p.seek), ("own_rules", .ref tr)]
section
variable (K : PySem.W.Frag)
/-- some order of the scanners -/
def LineAt (H : Hp) (a : Addr) (p : Plan) : Prop := ∃ (dx lb ls tp lw : Addr) (sc : List Int), H a = some (.ins (He.ga K "Line") dx (lineF lb ls tp lw p)) ∧ H lb = some (.lst (p.belts.map V.int)) ∧ H ls = some (.lst (sc.map V.int)) ∧ (∀ x : Int, x ∈ sc ↔ x ∈ p.scans) ∧
  SqT K H tp [.int p.most, .int p.among] ∧ H lw = some (.lst (p.words.map fun g => V.str (gS g)))
def TrackAt (H : Hp) (a : Addr) (p : Plan) : Prop := ∃ dx lr tr, H a = some (.ins (He.ga K "Tracker") dx (trackF lr tr p)) ∧ H lr = some (.lst (p.rooms.map V.int)) ∧ SqT K H tr [.str (wB p.blank), .str (wF p.first), .str (wC p.clear)]
def PlantAt (H : Hp) (v : V) (p : Plan) : Prop := ∃ a dx l t, v = .ref a ∧ H a = some (.ins (He.ga K "Plant") dx [("own_line", .ref l), ("own_tracker", .ref t)]) ∧ LineAt K H l p ∧ TrackAt K H t p
variable {K}
variable {H H' : Hp} {p : Plan}
theorem LineAt.mono {a : Addr} (e : Same H H') (h : LineAt K H a p) : LineAt K H' a p := by
  obtain ⟨dx, lb, ls, tp, lw, sc, h1, h2, h3, h4, h5, h6⟩ := h
  exact ⟨dx, lb, ls, tp, lw, sc, e _ _ h1, e _ _ h2, e _ _ h3, h4, Same.seqT e h5, e _ _ h6⟩
theorem TrackAt.mono {a : Addr} (e : Same H H') (h : TrackAt K H a p) : TrackAt K H' a p := by
  obtain ⟨dx, lr, tr, h1, h2, h3⟩ := h
  exact ⟨dx, lr, tr, e _ _ h1, e _ _ h2, Same.seqT e h3⟩
theorem PlantAt.mono {v : V} (e : Same H H') (h : PlantAt K H v p) : PlantAt K H' v p := by
  obtain ⟨a, dx, l, t, r, h1, h2, h3⟩ := h
  exact ⟨a, dx, l, t, r, e _ _ h1, h2.mono e, h3.mono e⟩
end
end Ow
set_option Elab.async false
set_option linter.all false
set_option maxRecDepth 100000
set_option maxHeartbeats 4000000
namespace Ow
open PySem PySem.Spec PyProof.Rows L2
/-! ### tuple * int, any count from 0 on -/
theorem mulOne (l : Addr) (items : Array Value) (n : Nat) (sl : Array (Option Value)) (dd : Option Addr) (u : Tok) : Meets (Builtin.«tuple.__mul__» ⟨[.ref l, .int 1 u], []⟩) (fun _ R s => s.heap.get? l = some { cls := .type "tuple", dict := dd, data := .seq items n, slots := sl } ∧ R (.ok (.ret (Value.ref l))) s) :=
  .of_wp fun prog w A R s h => by
    obtain ⟨hp, g, d, tk, os⟩ := s
    obtain ⟨hl, h⟩ := h
    have c0 : (decide ((1 : Int) < -(2 ^ 63)) || decide ((1 : Int) ≥ 2 ^ 63)) = false := by decide
    have c1 : (items.isEmpty || (1 : Int) == 1) = true := by simp
    have f1 := AutoSeq1.idx_int
    wp_walk using wpAny_loadPart' hl
    exact ⟨_, rfl, h⟩
theorem mulZero (l : Addr) (items : Array Value) (n : Nat) (sl : Array (Option Value)) (dd : Option Addr) (u : Tok) (ne : items.isEmpty = false) : Meets (Builtin.«tuple.__mul__» ⟨[.ref l, .int 0 u], []⟩) (fun _ R s => s.heap.get? l = some { cls := .type "tuple", dict := dd, data := .seq items n, slots := sl } ∧
      R (.ok (.ret (Value.ref s.heap.objs.size))) { s with heap := s.heap.push { cls := Value.type "tuple", data := Data.seq #[] } }) :=
  .of_wp fun prog w A R s h => by
    obtain ⟨hp, g, d, tk, os⟩ := s
    obtain ⟨hl, h⟩ := h
    have c0 : (decide ((0 : Int) < -(2 ^ 63)) || decide ((0 : Int) ≥ 2 ^ 63)) = false := by decide
    have c1 : (items.isEmpty || (0 : Int) == 1) = false := by rw [ne] <;> rfl
    have f1 := AutoSeq1.idx_int
    wp_walk using wpAny_loadPart' hl
    exact ⟨_, rfl, h⟩
/-- the reading: some tuple of so many copies, told by what is known of it -/
def rRepA (K : PySem.W.Frag) : R2 := fun x y H Q => ∃ (l : Addr) (k : Int) (xs : List V), x = .ref l ∧ y = .int k ∧ SqT K H l xs ∧ xs ≠ [] ∧ 0 ≤ k ∧ k ≤ 1000 ∧ xs.length ≤ 1000 ∧ ∀ p H', Same H H' → SqT K H' p (List.replicate k.toNat xs).flatten → Q (.ref p) H'
theorem op_repA {X : Cx} : OpR X (binaryOp .Mult) (rRepA X.K) := by
  intro pins s σ H x y v u Q I rx ry h
  obtain ⟨l, k, xs, rfl, rfl, hT, hne, hk0, hk1, hz, q⟩ := h
  by_cases k2 : 2 ≤ k
  · exact op_repT pins s σ H (.ref l) (.int k) v u Q I rx ry ⟨l, k, xs, rfl, rfl, hT, hne, k2, hk1, hz, fun p hp => q p _ (Same.put (Same.refl H) hp) (.inl (.inl upd_same))⟩
  cases rx
  obtain ⟨t, rfl⟩ := ry
  obtain ⟨its, r, ⟨⟨cls, dd, data, sl⟩, ho, hc, n, hd⟩, hs⟩ := I.tuple hT
  simp only at hc hd
  subst hc hd
  have hn : its.toArray.isEmpty = false := by
    cases its with
    | nil => exact absurd (List.eq_nil_of_length_eq_zero r.length) hne
    | cons a b => rfl
  have two : k = 0 ∨ k = 1 := by omega
  refine wpAny_binaryOp_repeat_ref (T := "tuple") (U := "int") (by decide) ⟨_, ho, rfl⟩ (fun s' => typeIs_int s' k t) noFill_tuple_mul F.fills_int_mul F.slot_int_rmul repeat_tuple F.slot_int_index.lookup
    (call_meets F.slot_int_rmul (typeIs_int s k t) F.entry_int_rmul (F.args_int_rmul_2 _ _) (int_rmul_tuple k t l its.toArray n dd sl) ⟨ho, rfl, ⟨_, ho, rfl⟩, ?_⟩)
  rcases two with rfl | rfl
  · refine call_meets F.slot_tuple_mul ⟨_, ho, rfl⟩ F.entry_tuple_mul (F.args_tuple_mul_2 _ _) (mulZero l its.toArray n sl dd t hn) ⟨ho, ?_⟩
    refine ⟨.ref s.heap.objs.size, _, I.laid (t' := s.toks) (o := .tup []) (fun b ob q => Heap.get?_push_of_some _ q) (Nat.le_refl _) ?_, rfl, q _ _ (Same.put (Same.refl H) (I.hok.fresh (Nat.le_refl _))) (.inl (.inl upd_same))⟩
    exact ⟨Nat.zero_le _, [], .nil, IsTup.new _ _⟩
  · refine call_meets F.slot_tuple_mul ⟨_, ho, rfl⟩ F.entry_tuple_mul (F.args_tuple_mul_2 _ _) (mulOne l its.toArray n sl dd t) ⟨ho, ?_⟩
    refine ⟨.ref l, _, I, rfl, q _ _ (Same.refl H) ?_⟩
    have e : (List.replicate (1 : Int).toNat xs).flatten = xs := by simp
    rw [e]
    exact hT
/-! ### t[::-1] -/
theorem placesRev (n : Nat) : Builtin.Slice.slicePlaces ((n : Int) - 1) (-1) (-1) = n := by
  unfold Builtin.Slice.slicePlaces
  have h1 : ¬ ((-1 : Int) > 0) := by decide
  rw [if_neg h1]
  by_cases h : (n : Int) - 1 > -1
  · rw [if_pos h]
    have e : ((n : Int) - 1 - -1 - 1) / (- -1) = (n : Int) - 1 := by
      rw [show (- -1 : Int) = 1 by decide, Int.ediv_one]
      omega
    rw [e]
    omega
  · rw [if_neg h]
    omega
theorem pickRev (xs : Array Value) : ((List.range xs.size).filterMap fun (m : Nat) => xs[(((xs.size : Nat) : Int) - 1 + (m : Int) * (-1)).toNat]?).toArray = xs.toList.reverse.toArray := by
  have e : (List.range xs.size).filterMap (fun (m : Nat) => xs[(((xs.size : Nat) : Int) - 1 + (m : Int) * (-1)).toNat]?) = ((List.range xs.size).map fun k => xs.size - 1 - k).filterMap (xs[·]?) := by
    rw [List.filterMap_map]
    have g : (fun (m : Nat) => xs[(((xs.size : Nat) : Int) - 1 + (m : Int) * (-1)).toNat]?) = ((fun x => xs[x]?) ∘ fun k => xs.size - 1 - k) := by
      funext m
      have : (((xs.size : Nat) : Int) - 1 + (m : Int) * (-1)).toNat = xs.size - 1 - m := by omega
      show xs[(((xs.size : Nat) : Int) - 1 + (m : Int) * (-1)).toNat]? = xs[xs.size - 1 - m]?
      rw [this]
    rw [g]
  rw [e, PySem.W.krv_range, List.filterMap_reverse, PySem.W.krv_all]
section
variable {prog : Program} {w : World} {A : Around} {E : Value → Shared → Prop} {s : Shared}
theorem appliedRev {sl : Addr} {vl vu vk : Value} {n : Nat} {Q : Int × Int × Nat → Shared → Prop} (hs : s.heap.IsSliceOf sl vl vu vk) (pl : IsPart vl none) (pu : IsPart vu none) (pk : IsPart vk (some (-1)))
    (h : Q ((n : Int) - 1, -1, n) s) : wpAny (model prog w) A (Builtin.Slice.sliceApplied (.ref sl) (pure (n : Int))) Q E s := by
  obtain ⟨os, hos, hcs, hds⟩ := id hs
  unfold Builtin.Slice.sliceApplied Builtin.Slice.sliceFields
  refine wpAny_bind (wpAny_bind (wpAny_field hos hds (x := vl) rfl (wpAny_bind (wpAny_field hos hds (x := vu) rfl (wpAny_bind (wpAny_field hos hds (x := vk) rfl (wpAny_pure ?_)))))))
  refine wpAny_bind (HT.slicePart_ pk ?_)
  show wpAny _ _ (if ((-1 : Int) == 0) = true then _ else _) _ _ s
  rw [if_neg (by decide)]
  refine wpAny_bind (HT.slicePart_ pl (wpAny_bind (HT.slicePart_ pu (wpAny_bind (wpAny_pure ?_)))))
  show wpAny _ _ (pure ((n : Int) - 1, (-1 : Int), Builtin.Slice.slicePlaces ((n : Int) - 1) (-1) (-1))) _ _ s
  rw [placesRev]
  exact wpAny_pure h
theorem getItemRev {t sl : Addr} {items : Array Value} {vl vu vk : Value} {Q : Value → Shared → Prop} (ht : IsTup s.heap t items) (hs : s.heap.IsSliceOf sl vl vu vk) (pl : IsPart vl none) (pu : IsPart vu none) (pk : IsPart vk (some (-1)))
    (h : Q (.ref s.heap.objs.size) { s with heap := s.heap.push { cls := .type "tuple", data := .seq items.toList.reverse.toArray } })
    (hsz : items.size ≤ sizeLine) : wpAny (model prog w) A (getItem (.ref t) (.ref sl)) Q E s := by
  have htake : sizeOk (.seq items.toList.reverse.toArray) := by
    show items.toList.reverse.toArray.size ≤ sizeLine
    rw [List.size_toArray, List.length_reverse, Array.length_toList]
    exact hsz
  obtain ⟨os, hos, hcs, hds⟩ := id hs
  have hTs : s.TypeIs (.ref sl) "slice" := ⟨os, hos, hcs⟩
  unfold getItem
  try with_reducible refine wpAny_holding ?_
  first | refine wpAny_bind (wpAny_pure ?_) | skip
  refine wpAny_bind (wpAny_sequenceKey ht.typeIs (by decide) ?_)
  refine wpAny_bind (wpAny_callSpecial?_slot (name := Str.ofString "__getitem__") ht.typeIs PyProof.Rows.slot_tuple_getitem
    (wpAny_call_entry PyProof.Rows.slot_tuple_getitem ht.typeIs entry_tuple_getitem ?_ (args_tuple_getitem _ _)))
  show wpAny _ _ (Builtin.Tuple.tupleItemsOf (.ref t) >>= _) _ _ s
  refine wpAny_bind (tupleItemsOf_ ht ?_)
  refine wpAny_bind (wpAny_typeOf hTs ?_)
  rw [if_pos (by decide)]
  refine wpAny_bind (appliedRev hs pl pu pk ?_)
  have hno : ¬ (((((items.size : Nat) : Int) - 1) == 0 && (-1 : Int) == 1 && items.size == items.size) = true) := by
    intro q
    rw [Bool.and_eq_true, Bool.and_eq_true] at q
    exact absurd q.1.2 (by decide)
  show wpAny _ _ (if ((((items.size : Nat) : Int) - 1) == 0 && (-1 : Int) == 1 && items.size == items.size) = true then _ else _) _ _ s
  rw [if_neg hno, pickRev]
  first
    | exact wpAny_bind (m := Builtin.Tuple.tupleExact _) (wpAny_newObj_type (wpAny_pure ⟨_, rfl, wpAny_pure h⟩) htake)
    | exact wpAny_bind (m := Builtin.Tuple.tupleExact _) (wpAny_newObj_type (wpAny_bind (wpAny_pure (wpAny_pure ⟨_, rfl, wpAny_pure h⟩))) htake)
    | exact wpAny_bind (wpAny_bind (m := Builtin.Tuple.tupleExact _) (wpAny_newObj_type (wpAny_pure (wpAny_pure ⟨_, rfl, wpAny_pure h⟩)) htake))
    | exact wpAny_bind (wpAny_bind (m := Builtin.Tuple.tupleExact _) (wpAny_newObj_type (wpAny_pure ⟨_, rfl, wpAny_pure h⟩) htake))
end
def tRevT (K : PySem.W.Frag) (te : TE) : TE := fun σ H Q => te σ H fun x H1 => ∃ a xs, x = .ref a ∧ SqT K H1 a xs ∧ ∀ p H2, Same H1 H2 → SqT K H2 p xs.reverse → Q (.ref p) H2
theorem pe_revT {X : Cx} {e : Expr} {te : TE} {k : Nat} {p1 p2 p3 pos : Pos} (he : PE X e te) : PE X (.Subscript e (.Slice none none (some (.UnaryOp .USub (.Constant (.int 1) k p1) p2)) p3) pos) (tRevT X.K te) := by
  refine ⟨fun pins s σ H Q I h => ?_⟩
  refine Subscript_ (thn (he.run pins s σ H _ I h) fun v s1 ⟨x, H1, I1, r1, q1⟩ => ?_)
  obtain ⟨a, xs, ex, hx, q⟩ := q1
  subst ex
  cases r1
  have hst : PO X (some (.UnaryOp .USub (.Constant (.int 1) k p1) p2)) (tPart (tUn (rU fun i => .int (-i)) (tC (.int 1)))) := po_some (pe_un un_neg pe_int)
  refine wpAny_Slice (thn (po_none.run pins s1 σ H1 (fun o H2 => o = none ∧ H2 = H1) I1 ⟨rfl, rfl⟩) fun vl s2 ⟨l, H2, I2, pl, el, e2⟩ => ?_)
  subst el e2
  refine thn (po_none.run pins s2 σ H2 (fun o H3 => o = none ∧ H3 = H2) I2 ⟨rfl, rfl⟩) fun vu s3 ⟨u, H3, I3, pu, eu, e3⟩ => ?_
  subst eu e3
  refine thn (hst.run pins s3 σ H3 (fun o H4 => o = some (-1) ∧ H4 = H3) I3 ⟨1, rfl, -1, rfl, rfl, rfl⟩) fun vs s4 ⟨o, H4, I4, ps, eo, e4⟩ => ?_
  subst eo e4
  have I5 : Inv X pins σ H4 { s4 with heap := s4.heap.push { cls := .type "slice", data := .fields #[vl, vu, vs] } } := I4.kept (t' := s4.toks) fun b ob q => Heap.get?_push_of_some _ q
  obtain ⟨its, r, ht, hz⟩ := I5.tuple hx
  have hlen : its.toArray.size = xs.length := by rw [List.size_toArray]; exact r.length.symm
  show wpAny (model X.prog X.w) X.A (subscriptTail e (.Slice none none (some (.UnaryOp .USub (.Constant (.int 1) k p1) p2)) p3) (.ref a) (.ref s4.heap.objs.size)) (EP X pins σ Q) X.xe { s4 with heap := s4.heap.push { cls := .type "slice", data := .fields #[vl, vu, vs] } }
  refine tail_any (ops := [.ref a, .ref s4.heap.objs.size]) ht.typeIs (PyProof.Rows.slot_tuple_getitem.lookup) ?_ (by with_unfolding_all rfl)
  refine getItemRev ht (Heap.IsSliceOf.new _ vl vu vs) pl pu ps ?_ (by rw [hlen]; exact hz)
  refine ⟨.ref _, _, I5.laid (t' := s4.toks) (o := .tup xs.reverse) (fun b ob q => Heap.get?_push_of_some _ q) (Nat.le_refl _) ?_, rfl, q _ _ (Same.put (Same.refl H4) (I5.hok.fresh (Nat.le_refl _))) (.inl (.inl upd_same))⟩
  exact ⟨by rw [List.length_reverse]; exact hz, _, r.reverse, IsTup.new _ _⟩
/-! ### sum of a tuple -/
def rSumT (K : PySem.W.Frag) : List V → Hp → VK → Prop := fun vs H Q => ∃ (a : Addr) (ns : List Int), vs = [V.ref a] ∧ SqT K H a (ns.map V.int) ∧ Q (.int ns.sum) H
theorem cr_sumT {X : Cx} (hc : X.calm = true) : CallR X (.builtin "sum") (rSumT X.K) := by
  intro pins s σ H vs us Q I r h
  obtain ⟨a, ns, rfl, hs, q⟩ := h
  obtain ⟨its, rv, hl, _⟩ := I.tuple hs
  rw [Vals.ref1 r]
  have hi := rv.ints
  obtain ⟨xs, e⟩ := hi.allInts.items
  have hn : numsOf (intItems xs).toList = ns := by rw [← e]; exact hi.numsOf
  rw [nums_intItems] at hn
  rw [e] at hl
  refine PySem.W.ktm_sumG (I.ok.hd hc) hl fun h' tk t' hk => ?_
  rw [preSum_eq, List.take_of_length_le (by simp), hn]
  exact ⟨.int _, H, I.kept hk, ⟨_, rfl⟩, q⟩
end Ow
set_option Elab.async false
set_option linter.all false
set_option maxRecDepth 100000
set_option maxHeartbeats 4000000
namespace Ow
open PySem PySem.Spec PyProof.Rows L2
/-! ### enumerate of a tuple -/
theorem enumNewT {v : Value} {o : Obj} {H : Heap → Prop} (B : Begins v o H) :
    Meets (Builtin.«enumerate.__new__» ⟨[.type "enumerate", v], []⟩) (fun _ R s => H s.heap ∧
      R (.ok (.ret (.ref (s.heap.push o).objs.size))) { s with heap := (s.heap.push o).push { cls := .type "enumerate", data := .fields #[.none, .bool false, .ref s.heap.objs.size, rawInt 0, .none, .none] } }) :=
  .of_wp fun prog w A R s h => by
    obtain ⟨hp, g, d, tk, os⟩ := s; obtain ⟨h1, h⟩ := h
    have hsub := sub_enumerate
    have q1 : ∀ {A' : Around} {E : Value → Shared → Prop} {Q : Value → Shared → Prop}, Q (.ref hp.objs.size) ⟨hp.push o, g, d, tk, os⟩ → wpAny (model prog w) A' (pyIter v) Q E ⟨hp, g, d, tk, os⟩ :=
      fun q => B.iter prog w _ _ ⟨hp, g, d, tk, os⟩ _ h1 q
    wp_walk using q1
    refine wpAny_stack_any fun st => wpAny_pure ?_
    split
    · rename_i c _ _ _ _ _
      cases (c == Value.type "enumerate")
      · wp_walk using q1
        exact ⟨_, rfl, h⟩
      · wp_walk using q1
        exact ⟨_, rfl, h⟩
    · wp_walk using q1
      exact ⟨_, rfl, h⟩
section
variable {prog : Program} {w : World} {A : Around} {E : Value → Shared → Prop} {s : Shared}
theorem enumCallT {v : Value} {o : Obj} {H : Heap → Prop} {Q : Value → Shared → Prop} (B : Begins v o H) (h1 : H s.heap)
    (h : ∀ h', IsEnum h' (s.heap.objs.size + 1) s.heap.objs.size 0 .none → h'.get? s.heap.objs.size = some o → h'.objs.size = s.heap.objs.size + 2 →
      (∀ b o, s.heap.get? b = some o → h'.get? b = some o) → Q (.ref (s.heap.objs.size + 1)) { s with heap := h' }) :
    wpAny (model prog w) A (call (.type "enumerate") [v]) Q E s := by
  refine callType_new F.called_enumerate (by decide) (F.typeCall_enumerate_1 _) (F.newCall_enumerate_1 _) (fun obj => F.args_object_init_2 obj _) F.entry_enumerate_new (enumNewT B) ⟨h1, ?_⟩
  have hz : (s.heap.push o).objs.size = s.heap.objs.size + 1 := Heap.size_push ..
  show _ ∧ _
  rw [hz]
  have he : IsEnum ((s.heap.push o).push { cls := .type "enumerate", data := .fields #[.none, .bool false, .ref s.heap.objs.size, rawInt 0, .none, .none] }) (s.heap.objs.size + 1) s.heap.objs.size 0 .none := by
    have := Heap.get?_push_size (s.heap.push o) (o := { cls := .type "enumerate", data := .fields #[.none, .bool false, .ref s.heap.objs.size, rawInt 0, .none, .none] }) rfl
    rw [hz] at this; exact this
  exact ⟨⟨_, he, rfl⟩, h _ he (Heap.get?_push_of_some _ (Heap.get?_push_size _ B.free)) (by rw [Heap.size_push, hz]) fun b o x => Heap.get?_push_of_some _ (Heap.get?_push_of_some _ x)⟩
end
def IteT (K : PySem.W.Frag) (a : Addr) : It :=
  ⟨fun i H => ∃ (xs : List V) (x : V), SqT K H a xs ∧ xs[i]? = some x, fun i H v H' => ∃ T x, v = .ref T ∧ H T = none ∧ H' = upd H T (.tup [.int (i : Nat), x]) ∧ ∀ xs, SqT K H a xs → xs[i]? = some x, fun i H => ∃ xs : List V, SqT K H a xs ∧ xs.length ≤ i⟩
theorem turnEnumT {P : Program} {w : World} {K : PySem.W.Frag} {elts : List Expr} {kk : Nat} {tpos : Pos} (a e it : Addr) :
    Turn P w K (.Tuple elts kk tpos) (IteT K a) [e, it] e (fun i h => (∃ old, IsEnum h e it ((i : Nat) : Int) old) ∧ h.IsTupleIter it a i ∧ e ≠ it) where
  mem := by simp
  obj := fun i h st b hb => by
    obtain ⟨⟨old, he⟩, ⟨o, ho, hc, hd⟩, _⟩ := st
    have e' : b = e ∨ b = it := by simpa using hb
    rcases e' with z | z
    · rw [z]; exact ⟨_, he, fun v q => nomatch q⟩
    · rw [z]; exact ⟨o, ho, fun v q => by rw [hd] at q; cases q⟩
  keep := fun i h h' st k => let ⟨⟨old, he⟩, hi, hne⟩ := st; ⟨⟨old, k e (by simp) _ he⟩, hi.at fun o q => k it (by simp) o q, hne⟩
  item := by
    intro X hP hw hK hc i pins s σ H E I hf st hg
    subst hP hw hK
    obtain ⟨⟨old, he⟩, hit, hne⟩ := st
    obtain ⟨xs, x, hq, hx⟩ := hg
    obtain ⟨its, rv, p, hz⟩ := I.tuple hq
    obtain ⟨u, hu, ru⟩ := rv.get hx
    have hel : e < s.heap.objs.size := Heap.lt_size he
    have hil : it < s.heap.objs.size := by obtain ⟨_, q, _⟩ := hit; exact Heap.lt_size q
    have hai : a ≠ it := fun z => by
      obtain ⟨o, ho, hc, _⟩ := hit
      obtain ⟨o2, ho2, hc2, _⟩ := p
      rw [z, ho] at ho2
      cases ho2
      rw [hc] at hc2
      exact absurd hc2 (by decide)
    have hae : a ≠ e := fun z => by
      obtain ⟨o2, ho2, hc2, _⟩ := p
      have he' : s.heap.get? e = _ := he
      rw [z, he'] at ho2
      cases ho2
      have hc3 : Value.type "enumerate" = .type "tuple" := hc2
      exact absurd hc3 (by decide)
    have D := Draws.tuple (prog := X.prog) (w := X.w) (A := X.A.in1) (I.ok.hd hc) it a hai its.toArray
    refine wpAny_pyNext_enum_itemD D he ⟨hit, p⟩ (by
      obtain ⟨g, _⟩ := List.getElem?_eq_some_iff.mp hu
      simpa using g) hne (by simp; exact ⟨hne, Ne.symm hae⟩) fun u' h' tk hu' ho hst hT hsz hk => ?_
    obtain rfl : u' = u := by
      have hu2 : its[i]? = some u' := by simpa using hu'
      rw [hu] at hu2
      exact (Option.some.inj hu2).symm
    refine ⟨_, rfl, wpAny_letOwnedTupleGo_enum (s := { s with heap := h', toks := tk + 1 }) ho fun h'' he' sb => ?_⟩
    have hT2 : h''.get? s.heap.objs.size = some { cls := .type "tuple", data := .seq #[.int i tk, u'] } := (sb.2 _ (Nat.ne_of_gt hel)).trans hT
    have new : ObjOk X.prog X.w (upd H s.heap.objs.size (.tup [.int (i : Nat), x])) h'' s.heap.objs.size (.tup [.int (i : Nat), x]) :=
      ⟨by show 2 ≤ sizeLine; decide, [.int i tk, u'], .cons ⟨_, rfl⟩ (.cons ru .nil), ⟨_, hT2, rfl, _, rfl⟩⟩
    have I1 : Inv X pins σ (upd H s.heap.objs.size (.tup [.int (i : Nat), x])) { s with heap := h'', toks := tk + 1 } :=
      I.turnedNew (ch := [e, it]) (fun b ob hb q => (sb.2 b (fun z => hb (by simp [z]))).trans (hk b ob (fun z => hb (by simp [z])) (fun z => hb (by simp [z])) q)) hf (Nat.le_refl _) new
    refine ⟨.ref s.heap.objs.size, _, I1, rfl, ⟨_, x, rfl, I.hok.fresh (Nat.le_refl _), rfl, fun ys hy => by rw [I.tuple_inj hy hq]; exact hx⟩, ⟨⟨u', ?_⟩, hst.1.at fun o q => (sb.2 it (Ne.symm hne)).trans q, hne⟩, fun b hb => ?_⟩
    · have e1 : ((i + 1 : Nat) : Int) = (i : Int) + 1 := by omega
      rw [e1]; exact he'
    · have hb' : b < s.heap.objs.size := by
        have e' : b = e ∨ b = it := by simpa using hb
        rcases e' with z | z
        · rw [z]; exact hel
        · rw [z]; exact hil
      rw [upd_ne (Nat.ne_of_lt hb')]
      exact (hf b hb).1
  done := by
    intro X hP hw hK hc i pins s σ H E I hf st hg
    subst hP hw hK
    obtain ⟨⟨old, he⟩, hit, hne⟩ := st
    obtain ⟨xs, hq, hx⟩ := hg
    obtain ⟨its, rv, p, hz⟩ := I.tuple hq
    obtain ⟨f0, f1, f2, f3, f4, f5⟩ := hf it (by simp)
    have hl := rv.length
    have hT : s.TypeIs (.ref e) "enumerate" := ⟨_, he, rfl⟩
    unfold pyNext
    refine wpAny_bind (wpAny_attempt (wpAny_callSpecial?_slot (name := Str.ofString "__next__") hT F.slot_enumerate_next
      (wpAny_call_entry F.slot_enumerate_next hT F.entry_enumerate_next ?_ (F.args_enumerate_next_1 _))))
    show wpAny _ _ (field (.ref e) 2 >>= _) _ _ _
    refine wpAny_bind (wpAny_field he rfl (x := .ref it) rfl ?_)
    refine wpAny_bind (wpAny_nextOf_tuple_end (I.ok.hd hc) hit p (i := i) (by simp; omega) fun h' x he' hx' => ?_)
    obtain ⟨o, ho, hc⟩ := hx'
    refine wpAny_bind (wpAny_isInstance (T := "StopIteration") (b := true) ⟨o, ho, hc⟩ isSubtype_stop ?_)
    exact wpAny_pure ⟨rfl, I.turned (t' := s.toks) (fun b o hb q => he' b o hb q) f0 f1 f3 f4 f5⟩
  self := fun A i s Q E st h => let ⟨⟨_, he⟩, _⟩ := st; wpAny_pyIter_enum he h
def iEnumT (K : PySem.W.Frag) (ta : TA) : TI := fun σ H R => ta σ H fun vs H1 => ∃ a xs, vs = [.ref a] ∧ SqT K H1 a xs ∧ R (IteT K a) H1
theorem pi_enumT {X : Cx} {e : Expr} {ta : TA} {p pos tpos : Pos} {elts : List Expr} {kk : Nat} (hg : Gl X "enumerate") (hm : X.mg "enumerate" = none) (ha : PA X [e] ta) (hs : starEach [e] X.env = [(false, eval e X.env)] := by rfl) :
    PI X (.Tuple elts kk tpos) (.Call (.Name "enumerate" p) [e] [] pos) (iEnumT X.K ta) := by
  refine ⟨fun pins s σ H R I h => ?_⟩
  refine Call_ (ld_blt I hg hm boot_enumerate (PyProof.Rows.callWith_type1 (thn (ha.run pos pins s σ H _ I h) fun us s1 ⟨vs, H1, I1, r1, q1⟩ => ?_) hs rfl))
  obtain ⟨a, xs, ex, hq, q⟩ := q1
  subst ex
  cases r1 with
  | cons r rr =>
    cases rr
    cases r
    obtain ⟨its, rv, p', hz⟩ := I1.tuple hq
    refine enumCallT (begins_tuple a its.toArray) p' fun h' he hit hsz hk => wpAny_pyIter_enum he ?_
    have I2 : Inv X pins σ H1 { s1 with heap := h' } := I1.kept (t' := s1.toks) hk
    refine ⟨s1.heap.objs.size + 1, [s1.heap.objs.size + 1, s1.heap.objs.size], _, _, H1, rfl, I2, turnEnumT a (s1.heap.objs.size + 1) s1.heap.objs.size, ⟨⟨.none, he⟩, ⟨_, hit, rfl, rfl⟩, Nat.succ_ne_self _⟩, fun b hb => ?_, q⟩
    have e' : b = s1.heap.objs.size + 1 ∨ b = s1.heap.objs.size := by simpa using hb
    have hle : s1.heap.objs.size ≤ b := by
      rcases e' with z | z
      · rw [z]; exact Nat.le_add_right _ _
      · rw [z]; exact Nat.le_refl _
    exact I1.fpOk hle (I1.hok.fresh hle)
end Ow
set_option Elab.async false
set_option linter.all false
set_option maxRecDepth 100000
set_option maxHeartbeats 4000000
/-! rules with the fragment told (for use within comprehensions) -/
namespace Ow
open PySem PySem.Spec PyProof.Rows L2
section
variable {X : Cx} {K : PySem.W.Frag}
def rLen (K : PySem.W.Frag) : List V → Hp → VK → Prop := fun xs H Q => ∃ p ys, xs = [.ref p] ∧ (SqL K H p ys ∨ SqT K H p ys) ∧ Q (.int ys.length) H
theorem cr_lenK (e : X.K = K := by rfl) : CallR X (.builtin "len") (rLen K) := by
  subst e
  exact call_len_seq
theorem pi_tupK {tg l : Expr} {tl : TE} (hl : PE X l tl) (e : X.K = K := by rfl) : PI X tg l (iTup K tl) := by
  subst e
  exact pi_tup hl
theorem pi_listK {tg l : Expr} {tl : TE} (hl : PE X l tl) (e : X.K = K := by rfl) : PI X tg l (iList K tl) := by
  subst e
  exact pi_list hl
theorem ix_tupK (e : X.K = K := by rfl) : IxR X (rIxT K) := by
  subst e
  exact ix_tup
theorem ix_listK (e : X.K = K := by rfl) : IxR X (rIxL K) := by
  subst e
  exact ix_list
def rTuple (K : PySem.W.Frag) : List V → Hp → VK → Prop := fun xs H Q => ∃ p ys, xs = [.ref p] ∧ ((SqL K H p ys ∧ ∀ l, H l = none → Q (.ref l) (upd H l (.tup ys))) ∨ (SqT K H p ys ∧ Q (.ref p) H))
theorem call_tupleK (e : X.K = K := by rfl) : CallR X (.type "tuple") (rTuple K) := by
  subst e
  exact call_tuple_of
end
end Ow
set_option Elab.async false
set_option linter.all false
set_option maxRecDepth 100000
set_option maxHeartbeats 4000000
namespace Ow
open PySem PySem.Spec PyProof.Rows L2
/-! ### what stays while a list grows -/
/-- all but the lists stay -/
def KeepT (H H' : Hp) : Prop := ∀ a o, H a = some o → (∀ ys, o ≠ .lst ys) → H' a = some o
theorem KeepT.refl (H : Hp) : KeepT H H := fun _ _ h _ => h
theorem KeepT.trans {H H1 H2 : Hp} (a : KeepT H H1) (b : KeepT H1 H2) : KeepT H H2 := fun x o h n => b x o (a x o h n) n
theorem KeepT.of {H H' : Hp} (e : Same H H') : KeepT H H' := fun x o h _ => e x o h
theorem KeepT.lst {H : Hp} {D : Addr} {xs : List V} {o : HO} (h : H D = some (.lst xs)) : KeepT H (upd H D o) := fun b u z n => by
  by_cases e : b = D
  · subst e
    rw [h] at z
    cases z
    exact absurd rfl (n xs)
  · rw [upd_ne e]
    exact z
theorem KeepT.new {H : Hp} {D : Addr} {o : HO} (h : H D = none) : KeepT H (upd H D o) := KeepT.of (Same.put (Same.refl H) h)
section
variable {K : PySem.W.Frag} {H H' : Hp} {v : V}
theorem KeepT.seqT {a : Addr} {xs : List V} (e : KeepT H H') (h : SqT K H a xs) : SqT K H' a xs := by
  rcases h with (h | ⟨o, h⟩) | h
  · exact .inl (.inl (e _ _ h (fun _ z => by cases z)))
  · exact .inl (.inr ⟨o, e _ _ h (fun _ z => by cases z)⟩)
  · exact .inr h
theorem AtI.keep {xs : List Int} (e : KeepT H H') (h : AtI K H v xs) : AtI K H' v xs := let ⟨a, r, q⟩ := h; ⟨a, r, e.seqT q⟩
theorem AtII.keep {xs : List (List Int)} (e : KeepT H H') (h : AtII K H v xs) : AtII K H' v xs := by
  obtain ⟨a, vs, r, q, z⟩ := h
  exact ⟨a, vs, r, e.seqT q, z.imp fun _ _ => AtI.keep e⟩
theorem StAt.keep {s : St} (e : KeepT H H') (h : StAt K H v s) : StAt K H' v s := by
  obtain ⟨a, vb, vq, vs, r, q, h1, h2, h3⟩ := h
  exact ⟨a, vb, vq, vs, r, e.seqT q, h1.keep e, h2.keep e, h3.keep e⟩
theorem PlAt.keep {s : Place} (e : KeepT H H') (h : PlAt K H v s) : PlAt K H' v s := by
  obtain ⟨a, vb, vq, vs, r, q, h1, h2, h3⟩ := h
  exact ⟨a, vb, vq, vs, r, e.seqT q, h1.keep e, h2.keep e, h3.keep e⟩
theorem DeAt.keep {d : Deed} (e : KeepT H H') (h : DeAt K H v d) : DeAt K H' v d := let ⟨a, r, q⟩ := h; ⟨a, r, e.seqT q⟩
end
theorem newT' {K : PySem.W.Frag} {H : Hp} {p : Addr} {xs : List V} : SqT K (upd H p (.tup xs)) p xs := .inl (.inl upd_same)
/-- t + u, told by what is known of it -/
theorem catT {K : PySem.W.Frag} {a b : Addr} {xs ys : List V} {H : Hp} {Q : VK} (ha : SqT K H a xs) (hb : SqT K H b ys) (hz : xs.length + ys.length ≤ 1000) (q : ∀ p H', Same H H' → SqT K H' p (xs ++ ys) → Q (.ref p) H') : rCatA K (.ref a) (.ref b) H Q := by
  refine ⟨a, b, xs, ys, rfl, rfl, ha, hb, Nat.le_trans hz (by decide), fun e => ?_, fun _ e => ?_, fun _ _ p hp => q p _ (Same.put (Same.refl H) hp) newT'⟩
  · subst e
    exact q b H (Same.refl H) hb
  · subst e
    exact q a H (Same.refl H) (by rw [List.append_nil]; exact ha)
/-! ### a comprehension, what was known before it kept -/
theorem lcS {J : It} {n : Nat} {G : Hp → Prop} {Y : Nat → Hp → V → Hp → Prop} {g : TG} {tt : TT} {te : TE} {vs : List Nat} {σ : L2.St} {H1 : Hp} {D : Addr} {Qd : Hp → Prop} (w : Walk J n G Y) (hn : n ≤ 1000) (hD : H1 D = none)
    (hG : ∀ H, Same H1 H → G H) (R : Nat → Hp → List V → Prop) (h0 : R 0 (upd H1 D (.lst [])) []) (hk : ∀ i H H' acc, KeepT H H' → R i H acc → R i H' acc)
    (hs : ∀ i x H H' acc (B : VK) (N : Hp → Prop), i < n → Same H1 H → H D = some (.lst acc) → R i H acc → Y i H x H' → acc.length ≤ i → (∀ y H4, Same H H4 → R (i + 1) H4 (acc ++ [y]) → B y H4) → (∀ H3, Same H H3 → R (i + 1) H3 acc → N H3) →
      g x (wipe σ vs) H' fun σ2 H2 => wipe σ2 vs = wipe σ vs ∧ tt σ2 H2 fun b H3 => if b = true then te σ2 H3 B else N H3)
    (hd : ∀ H acc, Same H1 H → H D = some (.lst acc) → acc.length ≤ n → R n H acc → Qd H) :
    ∃ W : Nat → Nat → Hp → Prop, (∃ m, W 0 m (upd H1 D (.lst []))) ∧ ∀ i m H, W i m H →
      (J.stop i H ∧ Qd H) ∨ (J.go i H ∧ ∃ Nx : Hp → Prop, (∀ H', Nx H' → ∃ m', m' < m ∧ W (i + 1) m' H') ∧ ∀ x H', J.yld i H x H' → g x (wipe σ vs) H' fun σ2 H2 => wipe σ2 vs = wipe σ vs ∧ tt σ2 H2 fun b H3 =>
        if b = true then te σ2 H3 fun y H4 => ∃ acc, H4 D = some (.lst acc) ∧ acc.length < sizeLine ∧ Nx (upd H4 D (.lst (acc ++ [y]))) else Nx H3) := by
  have sm : ∀ H xs ys, Same H1 H → H D = some (.lst xs) → Same H1 (upd H D (.lst ys)) := fun H xs ys e h => fun b o z => by
    have : b ≠ D := fun q => by rw [q, hD] at z; cases z
    rw [upd_ne this]
    exact e b o z
  refine lc_it w (fun i H => Same H1 H ∧ ∃ acc, H D = some (.lst acc) ∧ acc.length ≤ i ∧ R i H acc) ⟨Same.put (Same.refl H1) hD, [], upd_same, Nat.le_refl _, h0⟩ (fun i H _ h => hG H h.1) ?_ fun H h => ?_
  · rintro i x H H' hi ⟨e, acc, ha, hl, r⟩ y
    refine hs i x H H' acc _ _ hi e ha r y hl (fun v H4 e4 r4 => ?_) fun H3 e3 r3 => ⟨e.trans e3, acc, e3 _ _ ha, Nat.le_succ_of_le hl, r3⟩
    have ha4 := e4 _ _ ha
    exact ⟨acc, ha4, Nat.lt_of_le_of_lt hl (Nat.lt_of_lt_of_le (Nat.lt_of_lt_of_le hi hn) (by decide)), sm H4 acc _ (e.trans e4) ha4, _, upd_same, by rw [List.length_append]; exact Nat.succ_le_succ hl, hk _ _ _ _ (KeepT.lst ha4) r4⟩
  · obtain ⟨e, acc, ha, hl, r⟩ := h
    exact hd H acc e ha hl r
/-- the same, nothing left out -/
theorem lcM {J : It} {n : Nat} {G : Hp → Prop} {Y : Nat → Hp → V → Hp → Prop} {g : TG} {te : TE} {vs : List Nat} {σ : L2.St} {H1 : Hp} {D : Addr} {Qd : Hp → Prop} (w : Walk J n G Y) (hn : n ≤ 1000) (hD : H1 D = none)
    (hG : ∀ H, Same H1 H → G H) (R : Nat → Hp → List V → Prop) (h0 : R 0 (upd H1 D (.lst [])) []) (hk : ∀ i H H' acc, KeepT H H' → R i H acc → R i H' acc)
    (hs : ∀ i x H H' acc (B : VK), i < n → Same H1 H → H D = some (.lst acc) → R i H acc → Y i H x H' → acc.length ≤ i → (∀ y H4, Same H H4 → R (i + 1) H4 (acc ++ [y]) → B y H4) →
      g x (wipe σ vs) H' fun σ2 H2 => wipe σ2 vs = wipe σ vs ∧ te σ2 H2 B)
    (hd : ∀ H acc, Same H1 H → H D = some (.lst acc) → acc.length ≤ n → R n H acc → Qd H) :
    ∃ W : Nat → Nat → Hp → Prop, (∃ m, W 0 m (upd H1 D (.lst []))) ∧ ∀ i m H, W i m H →
      (J.stop i H ∧ Qd H) ∨ (J.go i H ∧ ∃ Nx : Hp → Prop, (∀ H', Nx H' → ∃ m', m' < m ∧ W (i + 1) m' H') ∧ ∀ x H', J.yld i H x H' → g x (wipe σ vs) H' fun σ2 H2 => wipe σ2 vs = wipe σ vs ∧ tYes σ2 H2 fun b H3 =>
        if b = true then te σ2 H3 fun y H4 => ∃ acc, H4 D = some (.lst acc) ∧ acc.length < sizeLine ∧ Nx (upd H4 D (.lst (acc ++ [y]))) else Nx H3) :=
  lcS w hn hD hG R h0 hk (fun i x H H' acc B N a b c d e f kB kN => hs i x H H' acc B a b c d e f kB) hd
/-- a cut between two statements: M what is known there -/
theorem seqE {t u : TS} {D : Ends} {σ : L2.St} {H : Hp} (M : L2.St → Hp → Prop) (h1 : ∀ N : L2.St → Hp → Prop, (∀ σ' H', M σ' H' → N σ' H') → t { D with nx := N } σ H) (h2 : ∀ σ' H', M σ' H' → u D σ' H') : tSeq t u D σ H := h1 _ h2
/-- the same for a value read -/
theorem valE {te : TE} {σ : L2.St} {H : Hp} {Q : VK} (M : V → Hp → Prop) (h1 : ∀ N : VK, (∀ v H', M v H' → N v H') → te σ H N) (h2 : ∀ v H', M v H' → Q v H') : te σ H Q := h1 _ h2
/-- a tuple stays where something else is written -/
theorem seqT_put {K : PySem.W.Frag} {H : Hp} {a d : Addr} {o o0 : HO} {xs : List V} (h : SqT K H a xs) (hd : H d = some o0) (h1 : ∀ ys, o0 ≠ .tup ys) (h2 : ∀ u ys, o0 ≠ .frz u (.tup ys)) : SqT K (upd H d o) a xs := by
  rcases h with (h | ⟨u, h⟩) | h
  · refine .inl (.inl ?_)
    rw [upd_ne (fun e => by rw [e, hd] at h; cases h; exact h1 _ rfl)]
    exact h
  · refine .inl (.inr ⟨u, ?_⟩)
    rw [upd_ne (fun e => by rw [e, hd] at h; cases h; exact h2 _ _ rfl)]
    exact h
  · exact .inr h
theorem seqT_dk {K : PySem.W.Frag} {H : Hp} {a d : Addr} {o : HO} {xs : List V} {kvs : List (Key × V)} (h : SqT K H a xs) (hd : H d = some (.dK kvs)) : SqT K (upd H d o) a xs := seqT_put h hd (fun _ e => by cases e) (fun _ _ e => by cases e)
end Ow
set_option Elab.async false
set_option linter.all false
set_option maxRecDepth 100000
set_option maxHeartbeats 4000000
namespace Ow
open PySem PySem.Spec PyProof.Rows L2
/-! ### short words -/
section
variable {K : PySem.W.Frag} {H : Hp}
theorem tyTup {a : Addr} {xs : List V} (h : SqT K H a xs) : TyX K H (.ref a) (.type "tuple") := by
  rcases h with (h | ⟨o, h⟩) | ⟨o, its, n, h1, h2, _⟩
  · exact .base (.tup h)
  · exact .fTuple h
  · exact .kTuple h1 h2
theorem rdIsi {x : V} {t n : String} {b : Bool} {Q : VK} (ty : TyX K H x (.type t)) (h : kitB t n = some b) (q : Q (.bl b) H) : rIsi K [x, .ty n] H Q :=
  ⟨x, .ty n, _, _, b, rfl, .ty n, ty, kit_ty h, q⟩
theorem inStr (z : Str) (ws : List Str) : inV (.str z) (ws.map V.str) = ws.contains z := by
  unfold inV
  induction ws with
  | nil => rfl
  | cons a r ih =>
    rw [List.map_cons, List.any_cons, ih, List.contains_cons]
    congr 1
    show (a == z) = (z == a)
    exact Bool.eq_iff_iff.mpr ⟨fun h => by rw [beq_iff_eq] at h ⊢; exact h.symm, fun h => by rw [beq_iff_eq] at h ⊢; exact h.symm⟩
theorem inInt (z : Int) (ws : List Int) : inV (.int z) (ws.map V.int) = ws.contains z := by
  unfold inV
  induction ws with
  | nil => rfl
  | cons a r ih =>
    rw [List.map_cons, List.any_cons, ih, List.contains_cons]
    congr 1
    show (a == z) = (z == a)
    exact Bool.eq_iff_iff.mpr ⟨fun h => by rw [beq_iff_eq] at h ⊢; exact h.symm, fun h => by rw [beq_iff_eq] at h ⊢; exact h.symm⟩
theorem flatStr (ws : List Str) : (ws.map V.str).all flatV = true := by
  rw [List.all_map]
  exact List.all_eq_true.mpr fun _ _ => rfl
theorem flatInt (ws : List Int) : (ws.map V.int).all flatV = true := by
  rw [List.all_map]
  exact List.all_eq_true.mpr fun _ _ => rfl
end
section
variable {P : Program} {w : World} {K : PySem.W.Frag} {mg : Str → Option Value} {base : Heap}
theorem Txt.c_BLANK (T : Txt w K mg) : ∃ u, mg "BLANK" = some u ∧ RelV (.int (-2)) u := let ⟨t, h⟩ := T.i_BLANK; ⟨_, h, t, rfl⟩
theorem Txt.c_NO_SWAP (T : Txt w K mg) : ∃ u, mg "NO_SWAP" = some u ∧ RelV (.int (-2)) u := let ⟨t, h⟩ := T.i_NO_SWAP; ⟨_, h, t, rfl⟩
theorem Txt.c_GONE (T : Txt w K mg) : ∃ u, mg "GONE" = some u ∧ RelV (.int (-1)) u := let ⟨t, h⟩ := T.i_GONE; ⟨_, h, t, rfl⟩
theorem Txt.c_FRESH (T : Txt w K mg) : ∃ u, mg "FRESH" = some u ∧ RelV (.int (-9)) u := let ⟨t, h⟩ := T.i_FRESH; ⟨_, h, t, rfl⟩
theorem Txt.c_MOST_PLACES (T : Txt w K mg) : ∃ u, mg "MOST_PLACES" = some u ∧ RelV (.int 20000) u := let ⟨t, h⟩ := T.i_MOST_PLACES; ⟨_, h, t, rfl⟩
theorem Txt.c_MOST_BELTS (T : Txt w K mg) : ∃ u, mg "MOST_BELTS" = some u ∧ RelV (.int 3) u := let ⟨t, h⟩ := T.i_MOST_BELTS; ⟨_, h, t, rfl⟩
theorem Txt.c_MOST_STRETCH (T : Txt w K mg) : ∃ u, mg "MOST_STRETCH" = some u ∧ RelV (.int 12) u := let ⟨t, h⟩ := T.i_MOST_STRETCH; ⟨_, h, t, rfl⟩
theorem Txt.c_MOST_QUEUES (T : Txt w K mg) : ∃ u, mg "MOST_QUEUES" = some u ∧ RelV (.int 3) u := let ⟨t, h⟩ := T.i_MOST_QUEUES; ⟨_, h, t, rfl⟩
theorem Txt.c_MOST_ROOM (T : Txt w K mg) : ∃ u, mg "MOST_ROOM" = some u ∧ RelV (.int 4) u := let ⟨t, h⟩ := T.i_MOST_ROOM; ⟨_, h, t, rfl⟩
/-! ### is_number, is_word -/
def sp_is_number : Sp := fun vs H Q _ => ∃ n lo hi : Int, vs = [.int n, .int lo, .int hi] ∧ Q (.bl (decide (lo ≤ n) && decide (n ≤ hi))) H
theorem sc_is_number : FnScope ["value", "low", "high"] ["value", "low", "high"] (defScope s_is_number) := ⟨rfl, rfl, rfl, by decide +kernel, rfl, by decide +kernel, by decide +kernel⟩
theorem Txt.b_is_number (T : Txt w K mg) : Binds K (fdA K (He.ga K "is_number")) ["value", "low", "high"] [] := T.F_is_number.binds fun _ _ _ _ _ _ us hl => match us, hl with | [_, _, _], _ => rfl
theorem ok_is_number (T : Txt w K mg) : FnOk P w K mg base CX0 1 (He.ga K "is_number") (fdA K (He.ga K "is_number")) ["value", "low", "high"] (sp_is_number) := by
  refine T.F_is_number.ok sc_is_number (fun vs H Q E h => ?_) (fun cdv A outer s H vs Q E hr h => ?_)
  · obtain ⟨n, lo, hi, rfl, _⟩ := h
    rfl
  · obtain ⟨n, lo, hi, rfl, k⟩ := h
    refine ⟨_, (pss_one (ps_ret (pe_and (pe_callB call_isi (by rfl) T.f_isinstance (by decide +kernel) (pa_cons (pv 0) (pa_cons (pe_bltn (v := .ty "int") (u := .type "int") (by rfl) T.f_int (by decide +kernel) rfl) pa_nil))) (pe_and (pe_not (pe_callB call_isi (by rfl) T.f_isinstance (by decide +kernel) (pa_cons (pv 0) (pa_cons (pe_bltn (v := .ty "bool") (u := .type "bool") (by rfl) T.f_bool (by decide +kernel) rfl) pa_nil)))) (pe_one (pe_chain op_le op_le (pv 1) (pv 0) (pv 2))))))), ?_⟩
    refine ⟨_, rfl, _, _, _, _, true, rfl, .ty _, .base (.int n), kit_ty (by decide +kernel), true, rfl, ?_⟩
    refine iteT ?_
    refine ⟨_, rfl, _, _, _, _, false, rfl, .ty _, .base (.int n), kit_ty (by decide +kernel), false, rfl, true, rfl, ?_⟩
    refine iteT ?_
    refine ⟨_, rfl, _, rfl, _, _, rfl, rfl, decide (lo ≤ n), rfl, ?_⟩
    by_cases e : lo ≤ n
    · rw [decide_eq_true e] at k ⊢
      refine iteT ?_
      exact ⟨_, rfl, _, _, rfl, rfl, k⟩
    · rw [decide_eq_false e] at k ⊢
      exact iteF k
def sp_is_word (K : PySem.W.Frag) : Sp := fun vs H Q _ => ∃ (z : Str) (a : Addr) (ws : List Str), vs = [.str z, .ref a] ∧ (SqL K H a (ws.map V.str) ∨ SqT K H a (ws.map V.str)) ∧ Q (.bl (ws.contains z)) H
theorem sc_is_word : FnScope ["value", "words"] ["value", "words"] (defScope s_is_word) := ⟨rfl, rfl, rfl, by decide +kernel, rfl, by decide +kernel, by decide +kernel⟩
theorem Txt.b_is_word (T : Txt w K mg) : Binds K (fdA K (He.ga K "is_word")) ["value", "words"] [] := T.F_is_word.binds fun _ _ _ _ _ _ us hl => match us, hl with | [_, _], _ => rfl
theorem ok_is_word (T : Txt w K mg) : FnOk P w K mg base CX0 1 (He.ga K "is_word") (fdA K (He.ga K "is_word")) ["value", "words"] (sp_is_word K) := by
  refine T.F_is_word.ok sc_is_word (fun vs H Q E h => ?_) (fun cdv A outer s H vs Q E hr h => ?_)
  · obtain ⟨z, a, ws, rfl, _⟩ := h
    rfl
  · obtain ⟨z, a, ws, rfl, hs, k⟩ := h
    refine ⟨_, (pss_one (ps_ret (pe_and (pe_callB call_isi (by rfl) T.f_isinstance (by decide +kernel) (pa_cons (pv 0) (pa_cons (pe_bltn (v := .ty "str") (u := .type "str") (by rfl) T.f_str (by decide +kernel) rfl) pa_nil))) (pe_one (pe_cmpR op_in_seq (pv 0) (pv 1) (by rfl)))))), ?_⟩
    refine ⟨_, rfl, _, _, _, _, true, rfl, .ty _, .base (.str z), kit_ty (by decide +kernel), true, rfl, ?_⟩
    refine iteT ?_
    refine ⟨_, rfl, _, rfl, a, _, rfl, hs, rfl, flatStr ws, ?_⟩
    show Q (.bl (inV (.str z) (ws.map V.str))) H
    rw [inStr]
    exact k
end
end Ow
set_option Elab.async false
set_option linter.all false
set_option maxRecDepth 100000
set_option maxHeartbeats 4000000
namespace Ow
open PySem PySem.Spec PyProof.Rows L2
/-! ### what a plant is asked -/
section
variable {P : Program} {w : World} {K : PySem.W.Frag} {mg : Str → Option Value} {base : Heap}
def sp_lst (R : Hp → Addr → Plan → Prop) (g : Plan → List V) : Sp := fun vs H Q _ => ∃ (a : Addr) (p : Plan), vs = [.ref a] ∧ R H a p ∧ ∀ l H', Same H H' → H' l = some (.lst (g p)) → Q (.ref l) H'
def wordsV (p : Plan) : List V := p.words.map fun g => V.str (gS g)
theorem sc_Line_belts : FnScope ["self"] ["self"] (defScope s_Line_belts) := ⟨rfl, rfl, rfl, by decide +kernel, rfl, by decide +kernel, by decide +kernel⟩
theorem Txt.b_Line_belts (T : Txt w K mg) : Binds K (fdA K (He.ma K (He.ga K "Line") "belts")) ["self"] [] := T.F_Line_belts.binds fun _ _ _ _ _ _ us hl => match us, hl with | [_], _ => rfl
theorem ok_Line_belts (T : Txt w K mg) : FnOk P w K mg base CX0 1 (He.ma K (He.ga K "Line") "belts") (fdA K (He.ma K (He.ga K "Line") "belts")) ["self"] (sp_lst (LineAt K) fun p => p.belts.map V.int) := by
  refine T.F_Line_belts.ok sc_Line_belts (fun vs H Q E h => ?_) (fun cdv A outer s H vs Q E hr h => ?_)
  · obtain ⟨a, p, rfl, _⟩ := h
    rfl
  · obtain ⟨a, p, rfl, ⟨dx, lb, ls, tp, lw, sc, h1, h2, h3, h4, h5, h6⟩, k⟩ := h
    refine ⟨_, (pss_one (ps_ret (pe_callTy call_list_of (by rfl) T.f_list (by decide +kernel) (pa_cons (pe_fld (pv 0) rfl) pa_nil)))), ?_⟩
    exact ⟨_, rfl, _, _, _, _, _, rfl, h1, T.cl_Line, T.na_Line_own_belts, rfl, _, _, rfl, .inl (.inl (.inl h2)), fun l hl => k l _ (Same.put (Same.refl H) hl) upd_same⟩
theorem sc_Line_words : FnScope ["self"] ["self"] (defScope s_Line_words) := ⟨rfl, rfl, rfl, by decide +kernel, rfl, by decide +kernel, by decide +kernel⟩
theorem Txt.b_Line_words (T : Txt w K mg) : Binds K (fdA K (He.ma K (He.ga K "Line") "words")) ["self"] [] := T.F_Line_words.binds fun _ _ _ _ _ _ us hl => match us, hl with | [_], _ => rfl
theorem ok_Line_words (T : Txt w K mg) : FnOk P w K mg base CX0 1 (He.ma K (He.ga K "Line") "words") (fdA K (He.ma K (He.ga K "Line") "words")) ["self"] (sp_lst (LineAt K) wordsV) := by
  refine T.F_Line_words.ok sc_Line_words (fun vs H Q E h => ?_) (fun cdv A outer s H vs Q E hr h => ?_)
  · obtain ⟨a, p, rfl, _⟩ := h
    rfl
  · obtain ⟨a, p, rfl, ⟨dx, lb, ls, tp, lw, sc, h1, h2, h3, h4, h5, h6⟩, k⟩ := h
    refine ⟨_, (pss_one (ps_ret (pe_callTy call_list_of (by rfl) T.f_list (by decide +kernel) (pa_cons (pe_fld (pv 0) rfl) pa_nil)))), ?_⟩
    exact ⟨_, rfl, _, _, _, _, _, rfl, h1, T.cl_Line, T.na_Line_own_words, rfl, _, _, rfl, .inl (.inl (.inl h6)), fun l hl => k l _ (Same.put (Same.refl H) hl) upd_same⟩
theorem sc_Tracker_rooms : FnScope ["self"] ["self"] (defScope s_Tracker_rooms) := ⟨rfl, rfl, rfl, by decide +kernel, rfl, by decide +kernel, by decide +kernel⟩
theorem Txt.b_Tracker_rooms (T : Txt w K mg) : Binds K (fdA K (He.ma K (He.ga K "Tracker") "rooms")) ["self"] [] := T.F_Tracker_rooms.binds fun _ _ _ _ _ _ us hl => match us, hl with | [_], _ => rfl
theorem ok_Tracker_rooms (T : Txt w K mg) : FnOk P w K mg base CX0 1 (He.ma K (He.ga K "Tracker") "rooms") (fdA K (He.ma K (He.ga K "Tracker") "rooms")) ["self"] (sp_lst (TrackAt K) fun p => p.rooms.map V.int) := by
  refine T.F_Tracker_rooms.ok sc_Tracker_rooms (fun vs H Q E h => ?_) (fun cdv A outer s H vs Q E hr h => ?_)
  · obtain ⟨a, p, rfl, _⟩ := h
    rfl
  · obtain ⟨a, p, rfl, ⟨dx, lr, tr, h1, h2, h3⟩, k⟩ := h
    refine ⟨_, (pss_one (ps_ret (pe_callTy call_list_of (by rfl) T.f_list (by decide +kernel) (pa_cons (pe_fld (pv 0) rfl) pa_nil)))), ?_⟩
    exact ⟨_, rfl, _, _, _, _, _, rfl, h1, T.cl_Tracker, T.na_Tracker_own_rooms, rfl, _, _, rfl, .inl (.inl (.inl h2)), fun l hl => k l _ (Same.put (Same.refl H) hl) upd_same⟩
/-- a value read off, the heap as it was -/
def sp_val (R : Hp → Addr → Plan → Prop) (S : Hp → V → Plan → Prop) : Sp := fun vs H Q _ => ∃ (a : Addr) (p : Plan), vs = [.ref a] ∧ R H a p ∧ ∀ v, S H v p → Q v H
def slipsAt (K : PySem.W.Frag) (H : Hp) (v : V) (p : Plan) : Prop := ∃ a, v = .ref a ∧ SqT K H a [.int p.most, .int p.among]
theorem sc_Line_slips : FnScope ["self"] ["self"] (defScope s_Line_slips) := ⟨rfl, rfl, rfl, by decide +kernel, rfl, by decide +kernel, by decide +kernel⟩
theorem Txt.b_Line_slips (T : Txt w K mg) : Binds K (fdA K (He5.wf K (He.ga K "Line") "property" "slips")) ["self"] [] := T.F_Line_slips.binds fun _ _ _ _ _ _ us hl => match us, hl with | [_], _ => rfl
theorem ok_Line_slips (T : Txt w K mg) : FnOk P w K mg base CX0 1 (He5.wf K (He.ga K "Line") "property" "slips") (fdA K (He5.wf K (He.ga K "Line") "property" "slips")) ["self"] (sp_val (LineAt K) (slipsAt K)) := by
  refine T.F_Line_slips.ok sc_Line_slips (fun vs H Q E h => ?_) (fun cdv A outer s H vs Q E hr h => ?_)
  · obtain ⟨a, p, rfl, _⟩ := h
    rfl
  · obtain ⟨a, p, rfl, ⟨dx, lb, ls, tp, lw, sc, h1, h2, h3, h4, h5, h6⟩, k⟩ := h
    refine ⟨_, (pss_one (ps_ret (pe_fld (pv 0) rfl))), ?_⟩
    exact ⟨_, rfl, _, _, _, _, _, rfl, h1, T.cl_Line, T.na_Line_own_slips, rfl, k _ ⟨_, rfl, h5⟩⟩
theorem sc_Line_stretch : FnScope ["self"] ["self"] (defScope s_Line_stretch) := ⟨rfl, rfl, rfl, by decide +kernel, rfl, by decide +kernel, by decide +kernel⟩
theorem Txt.b_Line_stretch (T : Txt w K mg) : Binds K (fdA K (He5.wf K (He.ga K "Line") "property" "stretch")) ["self"] [] := T.F_Line_stretch.binds fun _ _ _ _ _ _ us hl => match us, hl with | [_], _ => rfl
theorem ok_Line_stretch (T : Txt w K mg) : FnOk P w K mg base CX0 1 (He5.wf K (He.ga K "Line") "property" "stretch") (fdA K (He5.wf K (He.ga K "Line") "property" "stretch")) ["self"] (sp_val (LineAt K) fun _ v p => v = oV p.stretch) := by
  refine T.F_Line_stretch.ok sc_Line_stretch (fun vs H Q E h => ?_) (fun cdv A outer s H vs Q E hr h => ?_)
  · obtain ⟨a, p, rfl, _⟩ := h
    rfl
  · obtain ⟨a, p, rfl, ⟨dx, lb, ls, tp, lw, sc, h1, h2, h3, h4, h5, h6⟩, k⟩ := h
    refine ⟨_, (pss_one (ps_ret (pe_fld (pv 0) rfl))), ?_⟩
    exact ⟨_, rfl, _, _, _, _, _, rfl, h1, T.cl_Line, T.na_Line_own_stretch, rfl, k _ rfl⟩
theorem sc_Line_last : FnScope ["self"] ["self"] (defScope s_Line_last) := ⟨rfl, rfl, rfl, by decide +kernel, rfl, by decide +kernel, by decide +kernel⟩
theorem Txt.b_Line_last (T : Txt w K mg) : Binds K (fdA K (He5.wf K (He.ga K "Line") "property" "last")) ["self"] [] := T.F_Line_last.binds fun _ _ _ _ _ _ us hl => match us, hl with | [_], _ => rfl
theorem ok_Line_last (T : Txt w K mg) : FnOk P w K mg base CX0 1 (He5.wf K (He.ga K "Line") "property" "last") (fdA K (He5.wf K (He.ga K "Line") "property" "last")) ["self"] (sp_val (LineAt K) fun _ v p => v = .int p.n) := by
  refine T.F_Line_last.ok sc_Line_last (fun vs H Q E h => ?_) (fun cdv A outer s H vs Q E hr h => ?_)
  · obtain ⟨a, p, rfl, _⟩ := h
    rfl
  · obtain ⟨a, p, rfl, ⟨dx, lb, ls, tp, lw, sc, h1, h2, h3, h4, h5, h6⟩, k⟩ := h
    refine ⟨_, (pss_one (ps_ret (pe_callB (cr_lenK (K := K)) (by rfl) T.f_len (by decide +kernel) (pa_cons (pe_fld (pv 0) rfl) pa_nil)))), ?_⟩
    exact ⟨_, rfl, _, _, _, _, _, rfl, h1, T.cl_Line, T.na_Line_own_belts, rfl, _, _, rfl, .inl (.inl (.inl h2)), k _ (by rw [List.length_map] <;> rfl)⟩
theorem sc_Tracker_seek : FnScope ["self"] ["self"] (defScope s_Tracker_seek) := ⟨rfl, rfl, rfl, by decide +kernel, rfl, by decide +kernel, by decide +kernel⟩
theorem Txt.b_Tracker_seek (T : Txt w K mg) : Binds K (fdA K (He5.wf K (He.ga K "Tracker") "property" "seek")) ["self"] [] := T.F_Tracker_seek.binds fun _ _ _ _ _ _ us hl => match us, hl with | [_], _ => rfl
theorem ok_Tracker_seek (T : Txt w K mg) : FnOk P w K mg base CX0 1 (He5.wf K (He.ga K "Tracker") "property" "seek") (fdA K (He5.wf K (He.ga K "Tracker") "property" "seek")) ["self"] (sp_val (TrackAt K) fun _ v p => v = .int p.seek) := by
  refine T.F_Tracker_seek.ok sc_Tracker_seek (fun vs H Q E h => ?_) (fun cdv A outer s H vs Q E hr h => ?_)
  · obtain ⟨a, p, rfl, _⟩ := h
    rfl
  · obtain ⟨a, p, rfl, ⟨dx, lr, tr, h1, h2, h3⟩, k⟩ := h
    refine ⟨_, (pss_one (ps_ret (pe_fld (pv 0) rfl))), ?_⟩
    exact ⟨_, rfl, _, _, _, _, _, rfl, h1, T.cl_Tracker, T.na_Tracker_own_seek, rfl, k _ rfl⟩
theorem sc_Tracker_empty : FnScope ["self"] ["self"] (defScope s_Tracker_empty) := ⟨rfl, rfl, rfl, by decide +kernel, rfl, by decide +kernel, by decide +kernel⟩
theorem Txt.b_Tracker_empty (T : Txt w K mg) : Binds K (fdA K (He5.wf K (He.ga K "Tracker") "property" "empty")) ["self"] [] := T.F_Tracker_empty.binds fun _ _ _ _ _ _ us hl => match us, hl with | [_], _ => rfl
theorem ok_Tracker_empty (T : Txt w K mg) : FnOk P w K mg base CX0 1 (He5.wf K (He.ga K "Tracker") "property" "empty") (fdA K (He5.wf K (He.ga K "Tracker") "property" "empty")) ["self"] (sp_val (TrackAt K) fun _ v p => v = .str (wB p.blank)) := by
  refine T.F_Tracker_empty.ok sc_Tracker_empty (fun vs H Q E h => ?_) (fun cdv A outer s H vs Q E hr h => ?_)
  · obtain ⟨a, p, rfl, _⟩ := h
    rfl
  · obtain ⟨a, p, rfl, ⟨dx, lr, tr, h1, h2, h3⟩, k⟩ := h
    refine ⟨_, (pss_one (ps_ret (pe_ix ix_tup (pe_fld (pv 0) rfl) pe_int (fun _ _ => rfl)))), ?_⟩
    exact ⟨_, rfl, _, _, _, _, _, rfl, h1, T.cl_Tracker, T.na_Tracker_own_rules, rfl, _, _, _, _, rfl, rfl, h3, rfl, k _ rfl⟩
theorem sc_Tracker_strange : FnScope ["self"] ["self"] (defScope s_Tracker_strange) := ⟨rfl, rfl, rfl, by decide +kernel, rfl, by decide +kernel, by decide +kernel⟩
theorem Txt.b_Tracker_strange (T : Txt w K mg) : Binds K (fdA K (He5.wf K (He.ga K "Tracker") "property" "strange")) ["self"] [] := T.F_Tracker_strange.binds fun _ _ _ _ _ _ us hl => match us, hl with | [_], _ => rfl
theorem ok_Tracker_strange (T : Txt w K mg) : FnOk P w K mg base CX0 1 (He5.wf K (He.ga K "Tracker") "property" "strange") (fdA K (He5.wf K (He.ga K "Tracker") "property" "strange")) ["self"] (sp_val (TrackAt K) fun _ v p => v = .str (wF p.first)) := by
  refine T.F_Tracker_strange.ok sc_Tracker_strange (fun vs H Q E h => ?_) (fun cdv A outer s H vs Q E hr h => ?_)
  · obtain ⟨a, p, rfl, _⟩ := h
    rfl
  · obtain ⟨a, p, rfl, ⟨dx, lr, tr, h1, h2, h3⟩, k⟩ := h
    refine ⟨_, (pss_one (ps_ret (pe_ix ix_tup (pe_fld (pv 0) rfl) pe_int (fun _ _ => rfl)))), ?_⟩
    exact ⟨_, rfl, _, _, _, _, _, rfl, h1, T.cl_Tracker, T.na_Tracker_own_rules, rfl, _, _, _, _, rfl, rfl, h3, rfl, k _ rfl⟩
theorem sc_Tracker_pause : FnScope ["self"] ["self"] (defScope s_Tracker_pause) := ⟨rfl, rfl, rfl, by decide +kernel, rfl, by decide +kernel, by decide +kernel⟩
theorem Txt.b_Tracker_pause (T : Txt w K mg) : Binds K (fdA K (He5.wf K (He.ga K "Tracker") "property" "pause")) ["self"] [] := T.F_Tracker_pause.binds fun _ _ _ _ _ _ us hl => match us, hl with | [_], _ => rfl
theorem ok_Tracker_pause (T : Txt w K mg) : FnOk P w K mg base CX0 1 (He5.wf K (He.ga K "Tracker") "property" "pause") (fdA K (He5.wf K (He.ga K "Tracker") "property" "pause")) ["self"] (sp_val (TrackAt K) fun _ v p => v = .str (wC p.clear)) := by
  refine T.F_Tracker_pause.ok sc_Tracker_pause (fun vs H Q E h => ?_) (fun cdv A outer s H vs Q E hr h => ?_)
  · obtain ⟨a, p, rfl, _⟩ := h
    rfl
  · obtain ⟨a, p, rfl, ⟨dx, lr, tr, h1, h2, h3⟩, k⟩ := h
    refine ⟨_, (pss_one (ps_ret (pe_ix ix_tup (pe_fld (pv 0) rfl) pe_int (fun _ _ => rfl)))), ?_⟩
    exact ⟨_, rfl, _, _, _, _, _, rfl, h1, T.cl_Tracker, T.na_Tracker_own_rules, rfl, _, _, _, _, rfl, rfl, h3, rfl, k _ rfl⟩
def sp_pline (K : PySem.W.Frag) : Sp := fun vs H Q _ => ∃ (a : Addr) (p : Plan), vs = [.ref a] ∧ PlantAt K H (.ref a) p ∧ ∀ l, LineAt K H l p → Q (.ref l) H
def sp_ptrack (K : PySem.W.Frag) : Sp := fun vs H Q _ => ∃ (a : Addr) (p : Plan), vs = [.ref a] ∧ PlantAt K H (.ref a) p ∧ ∀ l, TrackAt K H l p → Q (.ref l) H
theorem sc_Plant_line : FnScope ["self"] ["self"] (defScope s_Plant_line) := ⟨rfl, rfl, rfl, by decide +kernel, rfl, by decide +kernel, by decide +kernel⟩
theorem Txt.b_Plant_line (T : Txt w K mg) : Binds K (fdA K (He5.wf K (He.ga K "Plant") "property" "line")) ["self"] [] := T.F_Plant_line.binds fun _ _ _ _ _ _ us hl => match us, hl with | [_], _ => rfl
theorem ok_Plant_line (T : Txt w K mg) : FnOk P w K mg base CX0 1 (He5.wf K (He.ga K "Plant") "property" "line") (fdA K (He5.wf K (He.ga K "Plant") "property" "line")) ["self"] (sp_pline K) := by
  refine T.F_Plant_line.ok sc_Plant_line (fun vs H Q E h => ?_) (fun cdv A outer s H vs Q E hr h => ?_)
  · obtain ⟨a, p, rfl, _⟩ := h
    rfl
  · obtain ⟨a, p, rfl, ⟨a', dx, l, t, e, h1, h2, h3⟩, k⟩ := h
    cases e
    refine ⟨_, (pss_one (ps_ret (pe_fld (pv 0) rfl))), ?_⟩
    exact ⟨_, rfl, _, _, _, _, _, rfl, h1, T.cl_Plant, T.na_Plant_own_line, rfl, k _ h2⟩
theorem sc_Plant_tracker : FnScope ["self"] ["self"] (defScope s_Plant_tracker) := ⟨rfl, rfl, rfl, by decide +kernel, rfl, by decide +kernel, by decide +kernel⟩
theorem Txt.b_Plant_tracker (T : Txt w K mg) : Binds K (fdA K (He5.wf K (He.ga K "Plant") "property" "tracker")) ["self"] [] := T.F_Plant_tracker.binds fun _ _ _ _ _ _ us hl => match us, hl with | [_], _ => rfl
theorem ok_Plant_tracker (T : Txt w K mg) : FnOk P w K mg base CX0 1 (He5.wf K (He.ga K "Plant") "property" "tracker") (fdA K (He5.wf K (He.ga K "Plant") "property" "tracker")) ["self"] (sp_ptrack K) := by
  refine T.F_Plant_tracker.ok sc_Plant_tracker (fun vs H Q E h => ?_) (fun cdv A outer s H vs Q E hr h => ?_)
  · obtain ⟨a, p, rfl, _⟩ := h
    rfl
  · obtain ⟨a, p, rfl, ⟨a', dx, l, t, e, h1, h2, h3⟩, k⟩ := h
    cases e
    refine ⟨_, (pss_one (ps_ret (pe_fld (pv 0) rfl))), ?_⟩
    exact ⟨_, rfl, _, _, _, _, _, rfl, h1, T.cl_Plant, T.na_Plant_own_tracker, rfl, k _ h3⟩
def sp_isScanner (K : PySem.W.Frag) : Sp := fun vs H Q _ => ∃ (a : Addr) (p : Plan) (i : Nat), vs = [.ref a, .int i] ∧ LineAt K H a p ∧ 1 ≤ i ∧ i ≤ p.n ∧ Q (.bl (p.scans.contains (i : Int))) H
theorem sc_Line_is_scanner : FnScope ["self", "point"] ["self", "point"] (defScope s_Line_is_scanner) := ⟨rfl, rfl, rfl, by decide +kernel, rfl, by decide +kernel, by decide +kernel⟩
theorem Txt.b_Line_is_scanner (T : Txt w K mg) : Binds K (fdA K (He.ma K (He.ga K "Line") "is_scanner")) ["self", "point"] [] := T.F_Line_is_scanner.binds fun _ _ _ _ _ _ us hl => match us, hl with | [_, _], _ => rfl
theorem ok_Line_is_scanner (T : Txt w K mg) : FnOk P w K mg base CX0 2 (He.ma K (He.ga K "Line") "is_scanner") (fdA K (He.ma K (He.ga K "Line") "is_scanner")) ["self", "point"] (sp_isScanner K) := by
  refine T.F_Line_is_scanner.ok sc_Line_is_scanner (fun vs H Q E h => ?_) (fun cdv A outer s H vs Q E hr h => ?_)
  · obtain ⟨a, p, i, rfl, _⟩ := h
    rfl
  · obtain ⟨a, p, i, rfl, ⟨dx, lb, ls, tp, lw, sc, h1, h2, h3, h4, h5, h6⟩, i1, i2, k⟩ := h
    refine ⟨_, (pss_cons (ps_if (pt_not (pt_val (pe_call (ok_is_number T) (hr.mono (by decide)) (by rfl) T.g_is_number T.D_is_number.kp T.b_is_number .nil pass0 (pa_cons (pv 1) (pa_cons pe_int (pa_cons (pe_callB (cr_lenK (K := K)) (by rfl) T.f_len (by decide +kernel) (pa_cons (pe_fld (pv 0) rfl) pa_nil)) pa_nil)))))) (pss_one ps_never) pss_nil)
      (pss_one (ps_ret (pe_or (pe_cmpR op_eq (pv 1) pe_int (nomark _)) (pe_one (pe_cmpR op_in_seq (pv 1) (pe_fld (pv 0) rfl) (by rfl))))))), ?_⟩
    refine ⟨_, rfl, _, rfl, _, _, _, _, _, rfl, h1, T.cl_Line, T.na_Line_own_belts, rfl, _, _, rfl, .inl (.inl (.inl h2)), _, _, _, rfl, _, rfl, ?_⟩
    have e1 : (decide ((0 : Int) ≤ (i : Int)) && decide ((i : Int) ≤ (((p.belts.map V.int).length : Nat) : Int))) = true := by
      rw [List.length_map]
      have : i ≤ p.belts.length := i2
      simp
      omega
    rw [e1]
    refine iteF ?_
    refine ⟨_, rfl, rfl, decide (V.int (i : Int) = V.int 0), rfl, ?_⟩
    have e2 : decide (V.int (i : Int) = V.int 0) = false := decide_eq_false fun z => by
      have z2 : (i : Int) = 0 := V.int.inj z
      omega
    rw [e2]
    refine iteF ?_
    refine ⟨_, rfl, _, rfl, _, _, _, _, _, rfl, h1, T.cl_Line, T.na_Line_own_scans, rfl, _, _, rfl, .inl (.inl (.inl h3)), rfl, flatInt sc, ?_⟩
    show Q (.bl (inV (.int (i : Int)) (sc.map V.int))) H
    rw [inInt]
    have e3 : sc.contains (i : Int) = p.scans.contains (i : Int) := Bool.eq_iff_iff.mpr (by rw [List.contains_iff_mem, List.contains_iff_mem]; exact h4 _)
    rw [e3]
    exact k
end
end Ow
set_option Elab.async false
set_option linter.all false
set_option maxRecDepth 100000
set_option maxHeartbeats 4000000
namespace Ow
open PySem PySem.Spec PyProof.Rows L2
section
variable {P : Program} {w : World} {K : PySem.W.Frag} {mg : Str → Option Value} {base : Heap}
theorem lineP {S : Hp → V → Plan → Prop} {σ : L2.St} {i : Nat} {a : Addr} {p : Plan} {H : Hp} {Q : VK} (hσ : σ[i]? = some (some (.ref a))) (hp : PlantAt K H (.ref a) p) (k : ∀ v, S H v p → Q v H) :
    tProp (He.ga K "Line") (sp_val (LineAt K) S) [] E0 (tProp (He.ga K "Plant") (sp_pline K) [] E0 (tVar i)) σ H Q := by
  obtain ⟨a', dx, l, t, e, h1, h2, h3⟩ := hp
  cases e
  refine ⟨_, hσ, _, _, _, rfl, h1, _, p, rfl, ⟨_, dx, l, t, rfl, h1, h2, h3⟩, fun l' h2' => ?_⟩
  obtain ⟨dx2, lb, ls, tp, lw, sc, g1, g2⟩ := id h2'
  exact ⟨_, _, _, rfl, g1, _, p, rfl, h2', k⟩
theorem trackP {S : Hp → V → Plan → Prop} {σ : L2.St} {i : Nat} {a : Addr} {p : Plan} {H : Hp} {Q : VK} (hσ : σ[i]? = some (some (.ref a))) (hp : PlantAt K H (.ref a) p) (k : ∀ v, S H v p → Q v H) :
    tProp (He.ga K "Tracker") (sp_val (TrackAt K) S) [] E0 (tProp (He.ga K "Plant") (sp_ptrack K) [] E0 (tVar i)) σ H Q := by
  obtain ⟨a', dx, l, t, e, h1, h2, h3⟩ := hp
  cases e
  refine ⟨_, hσ, _, _, _, rfl, h1, _, p, rfl, ⟨_, dx, l, t, rfl, h1, h2, h3⟩, fun l' h2' => ?_⟩
  obtain ⟨dx2, lr, tr, g1, g2⟩ := id h2'
  exact ⟨_, _, _, rfl, g1, _, p, rfl, h2', k⟩
theorem lineM {m : Str} {g : Plan → List V} {σ : L2.St} {i : Nat} {a : Addr} {p : Plan} {H : Hp} {Q : VK} (hm : ∀ lb ls tp lw, (lineF lb ls tp lw p).lookup m = none) (hσ : σ[i]? = some (some (.ref a))) (hp : PlantAt K H (.ref a) p)
    (k : ∀ l H', Same H H' → H' l = some (.lst (g p)) → Q (.ref l) H') : tMeth (He.ga K "Line") m (sp_lst (LineAt K) g) [] E0 (tProp (He.ga K "Plant") (sp_pline K) [] E0 (tVar i)) tNil σ H Q := by
  obtain ⟨a', dx, l, t, e, h1, h2, h3⟩ := hp
  cases e
  refine ⟨_, hσ, _, _, _, rfl, h1, _, p, rfl, ⟨_, dx, l, t, rfl, h1, h2, h3⟩, fun l' h2' => ?_⟩
  obtain ⟨dx2, lb, ls, tp, lw, sc, g1, g2⟩ := id h2'
  exact ⟨_, _, _, rfl, g1, hm _ _ _ _, _, p, rfl, h2', k⟩
theorem trackM {m : Str} {g : Plan → List V} {σ : L2.St} {i : Nat} {a : Addr} {p : Plan} {H : Hp} {Q : VK} (hm : ∀ lr tr, (trackF lr tr p).lookup m = none) (hσ : σ[i]? = some (some (.ref a))) (hp : PlantAt K H (.ref a) p)
    (k : ∀ l H', Same H H' → H' l = some (.lst (g p)) → Q (.ref l) H') : tMeth (He.ga K "Tracker") m (sp_lst (TrackAt K) g) [] E0 (tProp (He.ga K "Plant") (sp_ptrack K) [] E0 (tVar i)) tNil σ H Q := by
  obtain ⟨a', dx, l, t, e, h1, h2, h3⟩ := hp
  cases e
  refine ⟨_, hσ, _, _, _, rfl, h1, _, p, rfl, ⟨_, dx, l, t, rfl, h1, h2, h3⟩, fun l' h2' => ?_⟩
  obtain ⟨dx2, lr, tr, g1, g2⟩ := id h2'
  exact ⟨_, _, _, rfl, g1, hm _ _, _, p, rfl, h2', k⟩
/-- a new tuple -/
theorem newT {H : Hp} {p : Addr} {xs : List V} : SqT K (upd H p (.tup xs)) p xs := .inl (.inl upd_same)
theorem Same.up {H : Hp} {p : Addr} {o : HO} (h : H p = none) : Same H (upd H p o) := Same.put (Same.refl H) h
theorem ok_le {n : Nat} (h : n ≤ 1000) : n ≤ sizeLine := Nat.le_trans h (by decide)
theorem yes {c : Bool} {A B : Prop} (e : c = true) (h : A) : if c = true then A else B := by
  rw [if_pos e]
  exact h
theorem noo {c : Bool} {A B : Prop} (e : c = false) (h : B) : if c = true then A else B := by
  rw [if_neg (by rw [e]; exact Bool.false_ne_true)]
  exact h
theorem ways (g : Sight) : ([("once" : Str), "missed", "twice", "swapped"] : List Str).contains (gS g) = true := by cases g <;> decide +kernel
def sp_is_deed (K : PySem.W.Frag) : Sp := fun vs H Q _ => ∃ (a : Addr) (p : Plan) (b : Addr) (d : Deed), vs = [.ref a, .ref b] ∧ PlantAt K H (.ref a) p ∧ SqT K H b (dV d) ∧ inRange p d = true ∧ Q (.bl true) H
theorem sc_is_deed : FnScope ["plant", "value"] ["plant", "value"] (defScope s_is_deed) := ⟨rfl, rfl, rfl, by decide +kernel, rfl, by decide +kernel, by decide +kernel⟩
theorem Txt.b_is_deed (T : Txt w K mg) : Binds K (fdA K (He.ga K "is_deed")) ["plant", "value"] [] := T.F_is_deed.binds fun _ _ _ _ _ _ us hl => match us, hl with | [_, _], _ => rfl
theorem ok_is_deed (T : Txt w K mg) : FnOk P w K mg base CX0 3 (He.ga K "is_deed") (fdA K (He.ga K "is_deed")) ["plant", "value"] (sp_is_deed K) := by
  refine T.F_is_deed.ok sc_is_deed (fun vs H Q E h => ?_) (fun cdv A outer s H vs Q E hr h => ?_)
  · obtain ⟨a, p, b, d, rfl, _⟩ := h
    rfl
  · obtain ⟨a, p, b, d, rfl, ⟨a', dx, l, t, e, h1, h2, h3⟩, hd, hin, k⟩ := h
    cases e
    refine ⟨_, (pss_cons (ps_if (PW.pt (pw_or (pt_not (pt_val (pe_callB call_isi (by rfl) T.f_isinstance (by decide +kernel) (pa_cons (pv 1) (pa_cons (pe_bltn (v := .ty "tuple") (u := .type "tuple") (by rfl) T.f_tuple (by decide +kernel) rfl) pa_nil))))) (pw_or (pt_cmpR op_eq (pe_callB (cr_lenK (K := K)) (by rfl) T.f_len (by decide +kernel) (pa_cons (pv 1) pa_nil)) pe_int (nomark _)) (pw_or1 (pt_not (pt_val (pe_callB call_isi (by rfl) T.f_isinstance (by decide +kernel) (pa_cons (pe_ix ix_tup (pv 1) pe_int (fun _ _ => rfl)) (pa_cons (pe_bltn (v := .ty "str") (u := .type "str") (by rfl) T.f_str (by decide +kernel) rfl) pa_nil))))))))) (pss_one (ps_ret pe_bl)) pss_nil)
      (pss_cons (ps_if (pt_cmpR op_eq (pe_ix ix_tup (pv 1) pe_int (fun _ _ => rfl)) pe_str (nomark _)) (pss_one (ps_ret (pe_cmpR op_eq (pe_callB (cr_lenK (K := K)) (by rfl) T.f_len (by decide +kernel) (pa_cons (pv 1) pa_nil)) pe_int (nomark _)))) pss_nil)
      (pss_cons (ps_if (pt_cmpR op_eq (pe_ix ix_tup (pv 1) pe_int (fun _ _ => rfl)) pe_str (nomark _)) (pss_one (ps_ret (pe_and (pe_cmpR op_eq (pe_callB (cr_lenK (K := K)) (by rfl) T.f_len (by decide +kernel) (pa_cons (pv 1) pa_nil)) pe_int (nomark _)) (pe_one (pe_call (ok_is_word T) (hr.mono (by decide)) (by rfl) T.g_is_word T.D_is_word.kp T.b_is_word .nil pass0 (pa_cons (pe_ix ix_tup (pv 1) pe_int (fun _ _ => rfl)) (pa_cons (pe_glob (v := .ref (He.ga K "WAYS_OF_SEEING")) rfl T.g_WAYS_OF_SEEING rfl) pa_nil))))))) pss_nil)
      (pss_cons (ps_if (PW.pt (pw_or (pt_cmpR op_ne (pe_ix ix_tup (pv 1) pe_int (fun _ _ => rfl)) pe_str (nomark _)) (pw_or1 (pt_cmpR op_ne (pe_callB (cr_lenK (K := K)) (by rfl) T.f_len (by decide +kernel) (pa_cons (pv 1) pa_nil)) pe_int (nomark _))))) (pss_one (ps_ret pe_bl)) pss_nil)
      (pss_one (ps_ret (pe_and (pe_call (ok_is_number T) (hr.mono (by decide)) (by rfl) T.g_is_number T.D_is_number.kp T.b_is_number .nil pass0 (pa_cons (pe_ix ix_tup (pv 1) pe_int (fun _ _ => rfl)) (pa_cons pe_int (pa_cons (pe_prop (pe_prop (pv 0) T.cl_Plant T.p_Plant_line (ok_Plant_line T) (hr.mono (by decide)) T.b_Plant_line .nil pass0 rfl) T.cl_Line T.p_Line_last (ok_Line_last T) (hr.mono (by decide)) T.b_Line_last .nil pass0 rfl) pa_nil)))) (pe_one (pe_call (ok_is_word T) (hr.mono (by decide)) (by rfl) T.g_is_word T.D_is_word.kp T.b_is_word .nil pass0 (pa_cons (pe_ix ix_tup (pv 1) pe_int (fun _ _ => rfl)) (pa_cons (pe_glob (v := .ref (He.ga K "WAYS_OF_SEEING")) rfl T.g_WAYS_OF_SEEING rfl) pa_nil))))))))))), ?_⟩
    refine ⟨_, rfl, _, _, _, _, true, rfl, .ty _, tyTup hd, kit_ty (by decide +kernel), true, rfl, ?_⟩
    refine iteF ?_
    cases d with
    | pause =>
      refine ⟨_, rfl, _, _, rfl, .inr hd, rfl, _, rfl, noo rfl ?_⟩
      refine ⟨_, rfl, _, _, _, _, rfl, rfl, hd, rfl, _, _, _, _, true, rfl, .ty _, .base (.str _), kit_ty (by decide +kernel), true, rfl, ?_⟩
      refine noo rfl ?_
      refine ⟨_, rfl, _, _, _, _, rfl, rfl, hd, rfl, rfl, _, rfl, ?_⟩
      refine yes (by decide +kernel) ?_
      exact ⟨_, rfl, _, _, rfl, .inr hd, rfl, k⟩
    | come g =>
      refine ⟨_, rfl, _, _, rfl, .inr hd, rfl, _, rfl, noo rfl ?_⟩
      refine ⟨_, rfl, _, _, _, _, rfl, rfl, hd, rfl, _, _, _, _, true, rfl, .ty _, .base (.str _), kit_ty (by decide +kernel), true, rfl, ?_⟩
      refine noo rfl ?_
      refine ⟨_, rfl, _, _, _, _, rfl, rfl, hd, rfl, rfl, _, rfl, ?_⟩
      refine noo (by decide +kernel) ?_
      refine ⟨_, rfl, _, _, _, _, rfl, rfl, hd, rfl, rfl, _, rfl, ?_⟩
      refine yes (by decide +kernel) ?_
      refine ⟨_, rfl, _, _, rfl, .inr hd, rfl, _, rfl, yes rfl ?_⟩
      refine ⟨_, rfl, _, _, _, _, rfl, rfl, hd, rfl, gS g, _, [("once" : Str), "missed", "twice", "swapped"], rfl, .inr (T.t_WAYS_OF_SEEING H), ?_⟩
      rw [ways]
      exact k
    | pass i g =>
      refine ⟨_, rfl, _, _, rfl, .inr hd, rfl, _, rfl, noo rfl ?_⟩
      refine ⟨_, rfl, _, _, _, _, rfl, rfl, hd, rfl, _, _, _, _, true, rfl, .ty _, .base (.str _), kit_ty (by decide +kernel), true, rfl, ?_⟩
      refine noo rfl ?_
      refine ⟨_, rfl, _, _, _, _, rfl, rfl, hd, rfl, rfl, _, rfl, ?_⟩
      refine noo (by decide +kernel) ?_
      refine ⟨_, rfl, _, _, _, _, rfl, rfl, hd, rfl, rfl, _, rfl, ?_⟩
      refine noo (by decide +kernel) ?_
      refine ⟨_, rfl, _, _, _, _, rfl, rfl, hd, rfl, rfl, _, rfl, ?_⟩
      refine noo (by decide +kernel) ?_
      refine ⟨_, rfl, _, _, rfl, .inr hd, rfl, _, rfl, noo rfl ?_⟩
      refine ⟨_, rfl, _, _, _, _, rfl, rfl, hd, rfl, _, rfl, _, _, _, rfl, h1, _, p, rfl, ⟨_, dx, l, t, rfl, h1, h2, h3⟩, fun l' h2' => ?_⟩
      obtain ⟨dx2, lb, ls, tp, lw, sc, g1, g2⟩ := id h2'
      refine ⟨_, _, _, rfl, g1, _, p, rfl, h2', fun v hv => ?_⟩
      subst hv
      refine ⟨_, _, _, rfl, _, rfl, ?_⟩
      have hin' : (decide ((1 : Int) ≤ (i : Int)) && decide ((i : Int) ≤ (p.n : Int))) = true := by
        simp [inRange] at hin
        simp
        omega
      rw [hin']
      refine yes rfl ?_
      refine ⟨_, rfl, _, _, _, _, rfl, rfl, hd, rfl, gS g, _, [("once" : Str), "missed", "twice", "swapped"], rfl, .inr (T.t_WAYS_OF_SEEING H), ?_⟩
      rw [ways]
      exact k
def sp_start (K : PySem.W.Frag) : Sp := fun vs H Q _ => ∃ (a : Addr) (p : Plan), vs = [.ref a] ∧ PlantAt K H (.ref a) p ∧ p.Ok ∧ ∀ v H', Same H H' → StAt K H' v (St.start p) → Q v H'
theorem sc_start : FnScope ["plant", "many"] ["plant"] (defScope s_start) := ⟨rfl, rfl, rfl, by decide +kernel, rfl, by decide +kernel, by decide +kernel⟩
theorem Txt.b_start (T : Txt w K mg) : Binds K (fdA K (He.ga K "start")) ["plant"] [] := T.F_start.binds fun _ _ _ _ _ _ us hl => match us, hl with | [_], _ => rfl
theorem ok_start (T : Txt w K mg) : FnOk P w K mg base CX0 3 (He.ga K "start") (fdA K (He.ga K "start")) ["plant"] (sp_start K) := by
  refine T.F_start.ok sc_start (fun vs H Q E h => ?_) (fun cdv A outer s H vs Q E hr h => ?_)
  · obtain ⟨a, p, rfl, _⟩ := h
    rfl
  · obtain ⟨a, p, rfl, ⟨a', dx, l, t, e, h1, h2, h3⟩, ok, k⟩ := h
    cases e
    refine ⟨_, (pss_cons (ps_set (i := 1) sc_start.nd rfl (by first | exact .inl rfl | exact .inr rfl) (pe_prop (pe_prop (pv 0) T.cl_Plant T.p_Plant_line (ok_Plant_line T) (hr.mono (by decide)) T.b_Plant_line .nil pass0 rfl) T.cl_Line T.p_Line_last (ok_Line_last T) (hr.mono (by decide)) T.b_Line_last .nil pass0 rfl))
      (pss_one (ps_ret (pe_tup (pa_cons (pe_op op_repA (pe_tup (pa_cons (pe_tup pa_nil) pa_nil)) (pv 1)) (pa_cons (pe_op op_repA (pe_tup (pa_cons (pe_tup pa_nil) pa_nil)) (pv 1)) (pa_cons (C8.pe_gc rfl T.c_NO_SWAP) (pa_cons (pe_op op_repA (pe_tup (pa_cons pe_int pa_nil)) (pe_op op_sub (pe_ix ix_tup (pe_prop (pe_prop (pv 0) T.cl_Plant T.p_Plant_line (ok_Plant_line T) (hr.mono (by decide)) T.b_Plant_line .nil pass0 rfl) T.cl_Line T.p_Line_slips (ok_Line_slips T) (hr.mono (by decide)) T.b_Line_slips .nil pass0 rfl) pe_int (fun _ _ => rfl)) pe_int)) (pa_cons pe_int pa_nil))))))))), ?_⟩
    have hp : PlantAt K H (.ref a) p := ⟨_, dx, l, t, rfl, h1, h2, h3⟩
    refine lineP rfl hp fun v hv => ?_
    subst hv
    have n3 : p.n ≤ 3 := ok.nb.2
    refine ⟨by decide, fun e1 n1 => ⟨ok_le (by simp), fun e2 n2 => ⟨_, rfl, _, _, [.ref e1], rfl, rfl, newT, by simp, by omega, by omega, by simp, fun b1 H1 s1 t1 => ?_⟩⟩⟩
    refine ⟨by decide, fun e3 n4 => ⟨ok_le (by simp), fun e4 n5 => ⟨_, rfl, _, _, [.ref e3], rfl, rfl, newT, by simp, by omega, by omega, by simp, fun b2 H2 s2 t2 => ?_⟩⟩⟩
    have g1 : Same H H1 := ((Same.up n1).trans (Same.up n2)).trans s1
    have g2 : Same H1 H2 := ((Same.up n4).trans (Same.up n5)).trans s2
    refine ⟨by decide, fun e5 n6 => ?_⟩
    have g3 : Same H2 (upd H2 e5 (.tup [.int 0])) := Same.up n6
    refine lineP rfl (((hp.mono g1).mono g2).mono g3) fun v hv => ?_
    obtain ⟨ta, rfl, hta⟩ := hv
    have am := ok.am
    refine ⟨_, _, _, _, rfl, rfl, hta, rfl, _, _, rfl, rfl, _, _, [.int 0], rfl, rfl, newT, by simp, by omega, by omega, by simp, fun b3 H3 s3 t3 => ?_⟩
    refine ⟨ok_le (by simp), fun r hr => ?_⟩
    refine k _ _ (((g1.trans g2).trans g3).trans (s3.trans (Same.up hr))) ?_
    have q3 : Same H3 (upd H3 r (.tup [.ref b1, .ref b2, .int (-2), .ref b3, .int 0])) := Same.up hr
    refine ⟨r, .ref b1, .ref b2, .ref b3, rfl, newT, ?_, ?_, ?_⟩
    · have s4 : Same H1 (upd H3 r (.tup [.ref b1, .ref b2, .int (-2), .ref b3, .int 0])) := (g2.trans g3).trans (s3.trans q3)
      refine ⟨b1, List.replicate p.n (.ref e1), rfl, ?_, ?_⟩
      · have := Same.seqT s4 t1
        rwa [List.flatten_replicate_singleton] at this
      · exact All2.replicate ⟨e1, rfl, Same.seqT (((Same.up n2).trans s1).trans s4) newT⟩ _
    · have s4 : Same H2 (upd H3 r (.tup [.ref b1, .ref b2, .int (-2), .ref b3, .int 0])) := g3.trans (s3.trans q3)
      refine ⟨b2, List.replicate p.n (.ref e3), rfl, ?_, ?_⟩
      · have := Same.seqT s4 t2
        rwa [List.flatten_replicate_singleton] at this
      · exact All2.replicate ⟨e3, rfl, Same.seqT (((Same.up n5).trans s2).trans s4) newT⟩ _
    · refine ⟨b3, rfl, ?_⟩
      have := Same.seqT q3 t3
      rw [List.flatten_replicate_singleton] at this
      show SqT K _ b3 ((List.replicate (p.among - 1).toNat (0 : Int)).map V.int)
      rw [List.map_replicate]
      exact this
end
end Ow
set_option Elab.async false
set_option linter.all false
set_option maxRecDepth 100000
set_option maxHeartbeats 4000000
namespace Ow
open PySem PySem.Spec PyProof.Rows L2
theorem atI_pred {α : Type} {xs : List α} {i : Nat} {v : α} (h : 1 ≤ i) (e : xs[i - 1]? = some v) : atI xs ((i : Int) - 1) = some v := by
  have : (i : Int) - 1 = ((i - 1 : Nat) : Int) := by omega
  rw [this]
  exact atI_nat e
theorem getI {xs : List Int} {j : Nat} (h : j < xs.length) : (xs.map V.int)[j]? = some (.int (xs.getD j 0)) := by
  rw [List.getElem?_map, List.getElem?_eq_getElem h, List.getD_eq_getElem?_getD, List.getElem?_eq_getElem h]
  rfl
theorem All2.getI {K : PySem.W.Frag} {H : Hp} {vs : List V} {xss : List (List Int)} {j : Nat} (h : All2 (AtI K H) vs xss) (hj : j < xss.length) : ∃ a, vs[j]? = some (.ref a) ∧ SqT K H a ((xss.getD j []).map V.int) := by
  have e : xss[j]? = some (xss.getD j []) := by
    rw [List.getD_eq_getElem?_getD, List.getElem?_eq_getElem hj]
    rfl
  obtain ⟨v, h1, a, h2, h3⟩ := h.get e
  exact ⟨a, by rw [h1, h2], h3⟩
def roomOf (p : Plan) (s : St) : Deed → Bool
  | .come _ => comeRoom p s
  | .pass i _ => passRoom p s i
  | .pause => true
section
variable {P : Program} {w : World} {K : PySem.W.Frag} {mg : Str → Option Value} {base : Heap}
def sp_has_room (K : PySem.W.Frag) : Sp := fun vs H Q _ => ∃ (a : Addr) (p : Plan) (sv : V) (s : St) (b : Addr) (d : Deed), vs = [.ref a, sv, .ref b] ∧ PlantAt K H (.ref a) p ∧ p.Ok ∧ StAt K H sv s ∧ s.belts.length = p.n ∧
  SqT K H b (dV d) ∧ inRange p d = true ∧ d ≠ .pause ∧ ∀ H', Same H H' → Q (.bl (roomOf p s d)) H'
theorem sc_has_room : FnScope ["plant", "state", "deed", "belts", "rooms", "stretch", "at"] ["plant", "state", "deed"] (defScope s_has_room) := ⟨rfl, rfl, rfl, by decide +kernel, rfl, by decide +kernel, by decide +kernel⟩
theorem Txt.b_has_room (T : Txt w K mg) : Binds K (fdA K (He.ga K "has_room")) ["plant", "state", "deed"] [] := T.F_has_room.binds fun _ _ _ _ _ _ us hl => match us, hl with | [_, _, _], _ => rfl
theorem ok_has_room (T : Txt w K mg) : FnOk P w K mg base CX0 3 (He.ga K "has_room") (fdA K (He.ga K "has_room")) ["plant", "state", "deed"] (sp_has_room K) := by
  refine T.F_has_room.ok sc_has_room (fun vs H Q E h => ?_) (fun cdv A outer s H vs Q E hr h => ?_)
  · obtain ⟨a, p, sv, s', b, d, rfl, _⟩ := h
    rfl
  · obtain ⟨a, p, sv, s', b, d, rfl, hp, ok, ⟨c, vb, vq, vs, rfl, hc, ⟨ab, bs, rfl, hb1, hb2⟩, hq, hs⟩, hn, hd, hin, hnp, k⟩ := h
    refine ⟨_, (pss_cons (ps_par3 (i := 3) (j := 4) (l := 5) rfl sc_has_room.nd rfl rfl rfl (by decide) (by decide) (by decide) rfl rfl rfl (pa_cons (pe_ix ix_tup (pv 1) pe_int (fun _ _ => rfl)) (pa_cons (pe_meth0 (pe_prop (pv 0) T.cl_Plant T.p_Plant_line (ok_Plant_line T) (hr.mono (by decide)) T.b_Plant_line .nil pass0 rfl) T.cl_Line T.m_Line_belts (ok_Line_belts T) (hr.mono (by decide)) T.b_Line_belts .nil pass0) (pa_cons (pe_prop (pe_prop (pv 0) T.cl_Plant T.p_Plant_line (ok_Plant_line T) (hr.mono (by decide)) T.b_Plant_line .nil pass0 rfl) T.cl_Line T.p_Line_stretch (ok_Line_stretch T) (hr.mono (by decide)) T.b_Line_stretch .nil pass0 rfl) pa_nil))) (by rfl))
      (pss_cons (ps_if (pt_cmpR op_eq (pe_ix ix_tup (pv 2) pe_int (fun _ _ => rfl)) pe_str (nomark _)) (pss_cons (ps_if (PW.pt (pw_and (pt_cmpR op_notN (pv 5) pe_non (nomark _)) (pw_and (pt_cmpR op_ge (pe_ix ix_tup (pv 1) pe_int (fun _ _ => rfl)) (pv 5) (nomark _)) (pw_and1 (pt_cmpR op_eq (pe_ix ix_tup (pv 1) pe_int (fun _ _ => rfl)) (C8.pe_gc rfl T.c_NO_SWAP) (nomark _)))))) (pss_one (ps_ret pe_bl)) pss_nil)
        (pss_one (ps_ret (pe_cmpR op_lt (pe_callB (cr_lenK (K := K)) (by rfl) T.f_len (by decide +kernel) (pa_cons (pe_ix ix_tup (pv 3) pe_int (fun _ _ => rfl)) pa_nil)) (pe_ix ix_list (pv 4) pe_int (fun _ _ => rfl)) (nomark _))))) pss_nil)
      (pss_cons (ps_set (i := 6) sc_has_room.nd rfl (by first | exact .inl rfl | exact .inr rfl) (pe_ix ix_tup (pv 2) pe_int (fun _ _ => rfl)))
      (pss_one (ps_ret (pe_and (pe_cmpR op_gt (pe_callB (cr_lenK (K := K)) (by rfl) T.f_len (by decide +kernel) (pa_cons (pe_ix ix_tup (pv 3) (pe_op op_sub (pv 6) pe_int) (fun _ _ => rfl)) pa_nil)) pe_int (nomark _)) (pe_one (pe_or (pe_cmpR op_eq (pv 6) (pe_prop (pe_prop (pv 0) T.cl_Plant T.p_Plant_line (ok_Plant_line T) (hr.mono (by decide)) T.b_Plant_line .nil pass0 rfl) T.cl_Line T.p_Line_last (ok_Line_last T) (hr.mono (by decide)) T.b_Line_last .nil pass0 rfl) (nomark _)) (pe_one (pe_cmpR op_lt (pe_callB (cr_lenK (K := K)) (by rfl) T.f_len (by decide +kernel) (pa_cons (pe_ix ix_tup (pv 3) (pv 6) (fun _ _ => rfl)) pa_nil)) (pe_ix ix_list (pv 4) (pv 6) (fun _ _ => rfl)) (nomark _))))))))))), ?_⟩
    refine ⟨_, rfl, _, _, _, _, rfl, rfl, hc, rfl, lineM (fun _ _ _ _ => rfl) rfl hp fun lr H1 s1 hl => lineP rfl (hp.mono s1) fun v hv => ⟨_, _, _, rfl, ?_⟩⟩
    subst hv
    have hd1 := Same.seqT s1 hd
    have n0 : 0 < p.n := ok.nb.1
    cases d with
    | pause => exact absurd rfl hnp
    | come g =>
      refine ⟨_, rfl, _, _, _, _, rfl, rfl, hd1, rfl, rfl, _, rfl, ?_⟩
      refine yes (by decide +kernel) ?_
      obtain ⟨a0, e0, h0⟩ := hb2.getI (j := 0) (by omega)
      have last : roomOf p s' (.come g) = decide (((s'.belts.getD 0 []).length : Int) < p.belts.getD 0 0) →
          Q (.bl (decide ((((s'.belts.getD 0 []).map V.int).length : Int) < p.belts.getD 0 0))) H1 := fun e => by
        rw [List.length_map, ← e]
        exact k _ s1
      cases hst : p.stretch with
      | none =>
        refine ⟨_, rfl, rfl, _, rfl, noo rfl ?_⟩
        refine noo rfl ?_
        refine ⟨_, rfl, _, _, _, _, rfl, rfl, Same.seqT s1 hb1, atI_nat e0, _, _, rfl, .inr (Same.seqT s1 h0), _, rfl, _, _, _, _, rfl, rfl, .inl (.inl hl), atI_nat (j := 0) (getI (xs := p.belts) (j := 0) n0), _, _, rfl, rfl, last ?_⟩
        simp [roomOf, comeRoom, hst]
      | some m =>
        refine ⟨_, rfl, rfl, _, rfl, yes rfl ?_⟩
        refine ⟨_, rfl, _, _, _, _, rfl, rfl, Same.seqT s1 hc, rfl, _, rfl, _, _, rfl, rfl, _, rfl, ?_⟩
        by_cases c1 : m ≤ s'.comings
        · refine yes (decide_eq_true c1) ?_
          refine ⟨_, rfl, _, _, _, _, rfl, rfl, Same.seqT s1 hc, rfl, rfl, _, rfl, ?_⟩
          by_cases c2 : s'.swap = -2
          · refine yes (decide_eq_true (by rw [c2])) ?_
            have := k _ s1
            have e : roomOf p s' (.come g) = false := by simp [roomOf, comeRoom, hst, c1, c2]
            rw [e] at this
            exact this
          · refine noo (decide_eq_false fun z => c2 (V.int.inj z)) ?_
            refine ⟨_, rfl, _, _, _, _, rfl, rfl, Same.seqT s1 hb1, atI_nat e0, _, _, rfl, .inr (Same.seqT s1 h0), _, rfl, _, _, _, _, rfl, rfl, .inl (.inl hl), atI_nat (j := 0) (getI (xs := p.belts) (j := 0) n0), _, _, rfl, rfl, last ?_⟩
            simp [roomOf, comeRoom, hst, c1, c2]
        · refine noo (decide_eq_false c1) ?_
          refine noo rfl ?_
          refine ⟨_, rfl, _, _, _, _, rfl, rfl, Same.seqT s1 hb1, atI_nat e0, _, _, rfl, .inr (Same.seqT s1 h0), _, rfl, _, _, _, _, rfl, rfl, .inl (.inl hl), atI_nat (j := 0) (getI (xs := p.belts) (j := 0) n0), _, _, rfl, rfl, last ?_⟩
          simp [roomOf, comeRoom, hst, c1]
    | pass i g =>
      refine ⟨_, rfl, _, _, _, _, rfl, rfl, hd1, rfl, rfl, _, rfl, ?_⟩
      refine noo (by decide +kernel) ?_
      have hi : 1 ≤ i ∧ i ≤ p.n := by simpa [inRange] using hin
      obtain ⟨a0, e0, h0⟩ := hb2.getI (j := i - 1) (by omega)
      refine ⟨_, rfl, _, _, _, _, rfl, rfl, hd1, rfl, ?_⟩
      refine ⟨_, rfl, _, rfl, _, _, rfl, rfl, _, _, _, _, rfl, rfl, Same.seqT s1 hb1, atI_pred hi.1 e0, _, _, rfl, .inr (Same.seqT s1 h0), _, _, rfl, rfl, _, rfl, ?_⟩
      rw [List.length_map]
      have k1 := k _ s1
      by_cases c1 : 0 < (s'.belts.getD (i - 1) []).length
      · refine yes (decide_eq_true (by omega)) ?_
        refine ⟨_, rfl, lineP rfl (hp.mono s1) fun v hv => ⟨by rw [hv] <;> rfl, _, rfl, ?_⟩⟩
        subst hv
        by_cases c2 : i = p.n
        · refine yes (decide_eq_true (by rw [c2])) ?_
          have e : roomOf p s' (.pass i g) = true := by simp [roomOf, passRoom, c1, c2]; simpa [c2] using c1
          rw [e] at k1
          exact k1
        · refine noo (decide_eq_false fun z => c2 (by have := V.int.inj z; omega)) ?_
          obtain ⟨a1, e1, h1⟩ := hb2.getI (j := i) (by omega)
          refine ⟨_, rfl, _, rfl, _, _, _, _, rfl, rfl, Same.seqT s1 hb1, atI_nat e1, _, _, rfl, .inr (Same.seqT s1 h1), _, rfl, _, rfl, _, _, _, _, rfl, rfl, .inl (.inl hl), atI_nat (getI (xs := p.belts) (j := i) (by have : p.n = p.belts.length := rfl; omega)), _, _, rfl, rfl, ?_⟩
          rw [List.length_map]
          have e : roomOf p s' (.pass i g) = decide (((s'.belts.getD i []).length : Int) < p.belts.getD i 0) := by
            show passRoom p s' i = _
            unfold passRoom
            rw [decide_eq_true c1, decide_eq_false c2]
            rfl
          rw [e] at k1
          exact k1
      · refine noo (decide_eq_false (by omega)) ?_
        have e : roomOf p s' (.pass i g) = false := by simp [roomOf, passRoom]; intro h; exact absurd h (by simpa using c1)
        rw [e] at k1
        exact k1
theorem containsS (g : Sight) (ws : List Sight) : (ws.map gS).contains (gS g) = ws.contains g := by
  induction ws with
  | nil => rfl
  | cons x r ih =>
    rw [List.map_cons, List.contains_cons, List.contains_cons, ih]
    congr 1
    by_cases e : g = x
    · subst e
      simp
    · rw [beq_eq_false_iff_ne.mpr e, beq_eq_false_iff_ne.mpr fun z => e (gS_inj z)]
theorem slipEnd {σ : L2.St} {a c : Addr} {p : Plan} {s' : St} {g : Sight} {H : Hp} {Q : VK} (h0 : σ[0]? = some (some (.ref a))) (h1 : σ[1]? = some (some (.ref c))) (h3 : σ[3]? = some (some (.str (gS g)))) (hp : PlantAt K H (.ref a) p) (hst : StAt K H (.ref c) s')
    (k : ∀ H', Same H H' → Q (.bl (slipOk p s' g)) H') :
    tAndV (tOp (rIn K false) (tVar 3) (tMeth (He.ga K "Line") "words" (sp_lst (LineAt K) wordsV) [] E0 (tProp (He.ga K "Plant") (sp_pline K) [] E0 (tVar 0)) tNil))
      (tOp (rI0 fun i j => V.bl (decide (i < j))) (tCB (rSumT K) (tCons (tOp (rIxT K) (tVar 1) (tC (V.int 3))) tNil)) (tOp (rIxT K) (tProp (He.ga K "Line") (sp_val (LineAt K) (slipsAt K)) [] E0 (tProp (He.ga K "Plant") (sp_pline K) [] E0 (tVar 0))) (tC (V.int 0)))) σ H Q := by
  refine ⟨_, h3, lineM (fun _ _ _ _ => rfl) h0 hp fun lw H1 s1 hl => ?_⟩
  have hl' : H1 lw = some (.lst ((p.words.map gS).map V.str)) := by rw [hl, List.map_map]; rfl
  refine ⟨_, _, rfl, .inl (.inl (.inl hl')), rfl, flatStr _, _, rfl, ?_⟩
  show if (inV (.str (gS g)) ((p.words.map gS).map V.str)) = true then _ else _
  rw [inStr, containsS]
  have k1 := k _ s1
  by_cases c1 : p.words.contains g = true
  · refine yes c1 ?_
    obtain ⟨c', vb, vq, vs, ec, hc, hb, hq, as, rfl, hs⟩ := hst.mono s1
    cases ec
    refine ⟨_, h1, _, _, _, _, rfl, rfl, hc, rfl, _, _, rfl, hs, lineP h0 (hp.mono s1) fun v hv => ?_⟩
    obtain ⟨ta, rfl, hta⟩ := hv
    refine ⟨_, _, _, _, rfl, rfl, hta, rfl, _, _, rfl, rfl, ?_⟩
    have e2 : slipOk p s' g = decide (s'.slips.sum < p.most) := by
      unfold slipOk Plan.slip
      rw [c1]
      rfl
    rw [e2] at k1
    exact k1
  · have c1' : p.words.contains g = false := by simpa using c1
    refine noo c1' ?_
    have e2 : slipOk p s' g = false := by
      unfold slipOk Plan.slip
      rw [c1']
      rfl
    rw [e2] at k1
    exact k1
def sp_is_possible (K : PySem.W.Frag) : Sp := fun vs H Q _ => ∃ (a : Addr) (p : Plan) (sv : V) (s : St) (b : Addr) (d : Deed), vs = [.ref a, sv, .ref b] ∧ PlantAt K H (.ref a) p ∧ p.Ok ∧ StAt K H sv s ∧ s.belts.length = p.n ∧
  SqT K H b (dV d) ∧ inRange p d = true ∧ ∀ H', Same H H' → Q (.bl (possible p s d)) H'
theorem sc_is_possible : FnScope ["plant", "state", "deed", "sight", "belt"] ["plant", "state", "deed"] (defScope s_is_possible) := ⟨rfl, rfl, rfl, by decide +kernel, rfl, by decide +kernel, by decide +kernel⟩
theorem Txt.b_is_possible (T : Txt w K mg) : Binds K (fdA K (He.ga K "is_possible")) ["plant", "state", "deed"] [] := T.F_is_possible.binds fun _ _ _ _ _ _ us hl => match us, hl with | [_, _, _], _ => rfl
theorem ok_is_possible (T : Txt w K mg) : FnOk P w K mg base CX0 4 (He.ga K "is_possible") (fdA K (He.ga K "is_possible")) ["plant", "state", "deed"] (sp_is_possible K) := by
  refine T.F_is_possible.ok sc_is_possible (fun vs H Q E h => ?_) (fun cdv A outer s H vs Q E hr h => ?_)
  · obtain ⟨a, p, sv, s', b, d, rfl, _⟩ := h
    rfl
  · obtain ⟨a, p, sv, s', b, d, rfl, hp, ok, hst, hn, hd, hin, k⟩ := h
    obtain ⟨c, vb, vq, vs, rfl, hc, ⟨ab, bs, rfl, hb1, hb2⟩, hq, hs⟩ := id hst
    refine ⟨_, (pss_cons (ps_if (pt_cmpR op_eq (pe_ix ix_tup (pv 2) pe_int (fun _ _ => rfl)) pe_str (nomark _)) (pss_one (ps_ret (pe_and (pe_cmpR op_eq (pe_callB (cr_sum rfl) (by rfl) T.f_sum (by decide +kernel) (pa_cons (pe_lc (own := [("belt", 4)]) (g := (gName 4)) rfl sc_is_possible.nd (pi_tup (pe_ix ix_tup (pv 1) pe_int (fun _ _ => rfl))) (blkOk_by (N := ["plant", "state", "deed", "sight", "belt"]) (sc := defScope s_is_possible) (by decide +kernel)) (fun _ _ _ _ _ => (pg_name (i := 4) sc_is_possible.nd rfl (by first | exact .inl rfl | exact .inr rfl))) (fun _ _ _ _ _ => pts_nil) (fun _ _ _ _ _ => (pe_callB (cr_lenK (K := K)) (by rfl) T.f_len (by decide +kernel) (pa_cons (pv 4) pa_nil)))) pa_nil)) pe_int (nomark _)) (pe_and (pe_cmpR op_eq (pe_ix ix_tup (pv 1) pe_int (fun _ _ => rfl)) (C8.pe_gc rfl T.c_NO_SWAP) (nomark _)) (pe_one (pe_cmpR op_gt (pe_ix ix_tup (pv 1) pe_int (fun _ _ => rfl)) pe_int (nomark _))))))) pss_nil)
      (pss_cons (ps_if (pt_not (pt_val (pe_call (ok_has_room T) (hr.mono (by decide)) (by rfl) T.g_has_room T.D_has_room.kp T.b_has_room .nil pass0 (pa_cons (pv 0) (pa_cons (pv 1) (pa_cons (pv 2) pa_nil)))))) (pss_one (ps_ret pe_bl)) pss_nil)
      (pss_cons (ps_set (i := 3) sc_is_possible.nd rfl (by first | exact .inl rfl | exact .inr rfl) (pe_ix ix_tup (pv 2) (pe_un un_neg pe_int) (fun _ _ => rfl)))
      (pss_cons (ps_if (pt_cmpR op_eq (pv 3) pe_str (nomark _)) (pss_one (ps_ret pe_bl)) pss_nil)
      (pss_cons (ps_if (PW.pt (pw_or (PW.pt (pw_and (pt_cmpR op_eq (pe_ix ix_tup (pv 2) pe_int (fun _ _ => rfl)) pe_str (nomark _)) (pw_and1 (pt_cmpR op_ne (pe_ix ix_tup (pv 1) pe_int (fun _ _ => rfl)) (C8.pe_gc rfl T.c_NO_SWAP) (nomark _))))) (pw_or1 (PW.pt (pw_and (pt_cmpR op_eq (pe_ix ix_tup (pv 2) pe_int (fun _ _ => rfl)) pe_str (nomark _)) (pw_and1 (pt_cmpR op_eq (pv 3) pe_str (nomark _)))))))) (pss_one (ps_ret pe_bl)) pss_nil)
      (pss_one (ps_ret (pe_and (pe_cmpR op_in_seq (pv 3) (pe_meth0 (pe_prop (pv 0) T.cl_Plant T.p_Plant_line (ok_Plant_line T) (hr.mono (by decide)) T.b_Plant_line .nil pass0 rfl) T.cl_Line T.m_Line_words (ok_Line_words T) (hr.mono (by decide)) T.b_Line_words .nil pass0) (by rfl)) (pe_one (pe_cmpR op_lt (pe_callB (cr_sumT rfl) (by rfl) T.f_sum (by decide +kernel) (pa_cons (pe_ix ix_tup (pv 1) pe_int (fun _ _ => rfl)) pa_nil)) (pe_ix ix_tup (pe_prop (pe_prop (pv 0) T.cl_Plant T.p_Plant_line (ok_Plant_line T) (hr.mono (by decide)) T.b_Plant_line .nil pass0 rfl) T.cl_Line T.p_Line_slips (ok_Line_slips T) (hr.mono (by decide)) T.b_Line_slips .nil pass0 rfl) pe_int (fun _ _ => rfl)) (nomark _))))))))))), ?_⟩
    cases d with
    | pause =>
      have bl : bs.length = p.n := by rw [hb2.length, hn]
      have n3 := ok.nb
      have n3' : p.n ≤ 3 := n3.2
      have hsum : (s'.belts.map fun b => ((b.length : Nat) : Int)).sum = (total s'.belts : Int) := by
        unfold total
        generalize s'.belts = bb
        induction bb with
        | nil => rfl
        | cons x r ih => rw [List.map_cons, List.sum_cons, ih, List.map_cons, List.sum_cons]; omega
      refine ⟨_, rfl, _, _, _, _, rfl, rfl, hd, rfl, rfl, _, rfl, yes (by decide +kernel) ?_⟩
      refine ⟨_, rfl, _, _, _, _, rfl, rfl, hc, rfl, _, rfl, ⟨_, hb1⟩, fun D hD => lcM walk_tup (by omega) hD (fun H e => Same.seqT e hb1) (fun i H acc => acc = (s'.belts.take i).map fun b => V.int ((b.length : Nat) : Int)) rfl (fun _ _ _ _ _ h => h) ?_ ?_⟩
      · intro i x H2 H' acc B hi e ha r y hl kB
        obtain ⟨rfl, hx⟩ := y
        obtain ⟨a1, e1, h1⟩ := hb2.getI (j := i) (by omega)
        rw [e1] at hx
        cases hx
        refine ⟨rfl, _, rfl, _, _, rfl, .inr (Same.seqT e h1), kB _ _ (Same.refl _) ?_⟩
        have hi2 : i < s'.belts.length := by omega
        rw [r, List.length_map, List.take_succ, List.map_append, List.getElem?_eq_getElem hi2, List.getD_eq_getElem?_getD, List.getElem?_eq_getElem hi2]
        rfl
      · intro H2 acc e ha hl r
        rw [bl, ← hn, List.take_length] at r
        subst r
        refine ⟨_, s'.belts.map fun b => ((b.length : Nat) : Int), rfl, .inl (.inl (by rw [ha, List.map_map]; rfl)), rfl, _, rfl, ?_⟩
        have k1 := k _ e
        rw [hsum]
        by_cases c1 : total s'.belts = 0
        · refine yes (decide_eq_true (by rw [c1]; rfl)) ?_
          refine ⟨_, rfl, _, _, _, _, rfl, rfl, Same.seqT e hc, rfl, rfl, _, rfl, ?_⟩
          by_cases c2 : s'.swap = -2
          · refine yes (decide_eq_true (by rw [c2])) ?_
            refine ⟨_, rfl, _, _, _, _, rfl, rfl, Same.seqT e hc, rfl, _, _, rfl, rfl, ?_⟩
            have e2 : possible p s' .pause = decide (0 < s'.comings) := by simp [possible, c1, c2]
            rw [e2] at k1
            exact k1
          · refine noo (decide_eq_false fun z => c2 (V.int.inj z)) ?_
            have e2 : possible p s' .pause = false := by simp [possible, c2]
            rw [e2] at k1
            exact k1
        · refine noo (decide_eq_false fun z => c1 (by have := V.int.inj z; omega)) ?_
          have e2 : possible p s' .pause = false := by simp [possible, c1]
          rw [e2] at k1
          exact k1
    | come g =>
      refine ⟨_, rfl, _, _, _, _, rfl, rfl, hd, rfl, rfl, _, rfl, noo (by decide +kernel) ?_⟩
      refine ⟨_, rfl, _, rfl, _, rfl, a, p, _, s', b, .come g, rfl, hp, ok, hst, hn, hd, hin, (fun z => by cases z), fun H1 s1 => ⟨_, rfl, ?_⟩⟩
      have k1 := k _ s1
      by_cases c1 : roomOf p s' (.come g) = true
      · rw [c1]
        refine noo rfl ?_
        refine ⟨_, rfl, _, rfl, _, _, _, _, rfl, rfl, Same.seqT s1 hd, rfl, ?_⟩
        refine ⟨_, rfl, rfl, _, rfl, ?_⟩
        by_cases c2 : g = .once
        · subst c2
          refine yes (by decide +kernel) ?_
          have e2 : possible p s' (.come .once) = true := by
            have c1' : comeRoom p s' = true := c1
            simp [possible, c1']
          rw [e2] at k1
          exact k1
        · have ng : decide (V.str (gS g) = V.str "once") = false := decide_eq_false fun z => c2 (gS_inj (V.str.inj z))
          refine noo ng ?_
          refine ⟨_, rfl, _, _, _, _, rfl, rfl, Same.seqT s1 hd, rfl, rfl, _, rfl, yes (by decide +kernel) ?_⟩
          by_cases c3 : s'.swap = -2
          · refine ⟨_, rfl, _, _, _, _, rfl, rfl, Same.seqT s1 hc, rfl, rfl, _, rfl, noo (by rw [c3]; rfl) ?_⟩
            refine ⟨_, rfl, _, _, _, _, rfl, rfl, Same.seqT s1 hd, rfl, rfl, _, rfl, noo (by decide +kernel) ?_⟩
            refine slipEnd rfl rfl rfl (hp.mono s1) (hst.mono s1) fun H2 s2 => ?_
            have e2 : possible p s' (.come g) = slipOk p s' g := by
              have c1' : comeRoom p s' = true := c1
              simp [possible, c1', c2, c3]
            rw [← e2]
            exact k _ (s1.trans s2)
          · refine ⟨_, rfl, _, _, _, _, rfl, rfl, Same.seqT s1 hc, rfl, rfl, _, rfl, yes (by rw [decide_eq_false fun z => c3 (V.int.inj z)]; rfl) ?_⟩
            refine yes rfl ?_
            have e2 : possible p s' (.come g) = false := by
              simp [possible, c2, c3]
            rw [e2] at k1
            exact k1
      · have c1' : roomOf p s' (.come g) = false := by simpa using c1
        rw [c1']
        refine yes rfl ?_
        have e2 : possible p s' (.come g) = false := by
          have c2 : comeRoom p s' = false := c1'
          simp [possible, c2]
        rw [e2] at k1
        exact k1
    | pass i g =>
      refine ⟨_, rfl, _, _, _, _, rfl, rfl, hd, rfl, rfl, _, rfl, noo (by decide +kernel) ?_⟩
      refine ⟨_, rfl, _, rfl, _, rfl, a, p, _, s', b, .pass i g, rfl, hp, ok, hst, hn, hd, hin, (fun z => by cases z), fun H1 s1 => ⟨_, rfl, ?_⟩⟩
      have k1 := k _ s1
      by_cases c1 : roomOf p s' (.pass i g) = true
      · rw [c1]
        have c1' : passRoom p s' i = true := c1
        refine noo rfl ?_
        refine ⟨_, rfl, _, rfl, _, _, _, _, rfl, rfl, Same.seqT s1 hd, rfl, ?_⟩
        refine ⟨_, rfl, rfl, _, rfl, ?_⟩
        by_cases c2 : g = .once
        · subst c2
          refine yes (by decide +kernel) ?_
          have e2 : possible p s' (.pass i .once) = true := by simp [possible, c1']
          rw [e2] at k1
          exact k1
        · have ng : decide (V.str (gS g) = V.str "once") = false := decide_eq_false fun z => c2 (gS_inj (V.str.inj z))
          refine noo ng ?_
          refine ⟨_, rfl, _, _, _, _, rfl, rfl, Same.seqT s1 hd, rfl, rfl, _, rfl, noo (by decide +kernel) ?_⟩
          refine noo rfl ?_
          refine ⟨_, rfl, _, _, _, _, rfl, rfl, Same.seqT s1 hd, rfl, rfl, _, rfl, yes (by decide +kernel) ?_⟩
          refine ⟨_, rfl, rfl, _, rfl, ?_⟩
          by_cases c3 : g = .swapped
          · subst c3
            refine yes (by decide +kernel) ?_
            have e2 : possible p s' (.pass i .swapped) = false := by simp [possible]
            rw [e2] at k1
            exact k1
          · refine noo (decide_eq_false fun z => c3 (gS_inj (b := .swapped) (V.str.inj z))) ?_
            refine slipEnd rfl rfl rfl (hp.mono s1) (hst.mono s1) fun H2 s2 => ?_
            have e2 : possible p s' (.pass i g) = slipOk p s' g := by simp [possible, c1', c2, c3]
            rw [← e2]
            exact k _ (s1.trans s2)
      · have c1' : roomOf p s' (.pass i g) = false := by simpa using c1
        rw [c1']
        refine yes rfl ?_
        have e2 : possible p s' (.pass i g) = false := by
          have c2 : passRoom p s' i = false := c1'
          simp [possible, c2]
        rw [e2] at k1
        exact k1
end
end Ow
set_option Elab.async false
set_option linter.all false
set_option maxRecDepth 100000
set_option maxHeartbeats 4000000
namespace Ow
open PySem PySem.Spec PyProof.Rows L2
section
variable {P : Program} {w : World} {K : PySem.W.Frag} {mg : Str → Option Value} {base : Heap}
theorem slD {a : Addr} {xs : List V} {k : Nat} {H : Hp} {Q : VK} (h : SqT K H a xs) (q : ∀ p H', Same H H' → SqT K H' p (xs.drop k) → Q (.ref p) H') : rSlA K (.ref a) (some ((k : Nat) : Int)) none H Q := by
  have e1 : HT.sIx xs.length 0 (some ((k : Nat) : Int)) = min k xs.length := HT.sIx_nat _ _ _
  have e2 : HT.sIx xs.length xs.length none = xs.length := rfl
  refine ⟨a, xs, rfl, h, fun hw => ?_, fun _ p hp => ?_⟩
  · refine q a H (Same.refl H) ?_
    rw [e1] at hw
    have : xs.drop k = xs := by
      rcases Nat.eq_zero_or_pos k with z | z
      · rw [z, List.drop_zero]
      · have : xs.length = 0 := by omega
        rw [List.eq_nil_of_length_eq_zero this, List.drop_nil]
    rw [this]
    exact h
  · refine q p _ (Same.up hp) ?_
    have : cutV xs (some ((k : Nat) : Int)) none = xs.drop k := by
      unfold cutV
      rw [e1, e2]
      rcases Nat.le_total k xs.length with z | z
      · rw [Nat.min_eq_left z, List.take_of_length_le (by rw [List.length_drop]; exact Nat.le_refl _)]
      · rw [Nat.min_eq_right z, Nat.sub_self, List.take_zero, List.drop_eq_nil_of_le z]
    rw [this]
    exact newT
theorem seekIn_some {x : Int} : ∀ {q : List Int} {k i : Nat}, i < q.length → i < k → q.getD i 0 = x → (∀ j, j < i → q.getD j 0 ≠ x) → seekIn x k q = some i
  | [], _, _, h, _, _, _ => absurd h (Nat.not_lt_zero _)
  | y :: r, 0, _, _, h, _, _ => absurd h (Nat.not_lt_zero _)
  | y :: r, k + 1, 0, _, _, h, _ => by
    unfold seekIn
    rw [if_pos (by simpa using h)]
  | y :: r, k + 1, i + 1, h1, h2, h3, h4 => by
    have n0 : y ≠ x := by simpa using h4 0 (Nat.succ_pos _)
    unfold seekIn
    rw [if_neg n0, seekIn_some (i := i) (by simpa using h1) (by omega) (by simpa using h3) fun j hj => by simpa using h4 (j + 1) (by omega)]
    rfl
theorem seekIn_none {x : Int} : ∀ {q : List Int} {k : Nat}, (∀ j, j < q.length → j < k → q.getD j 0 ≠ x) → seekIn x k q = none
  | _, 0, _ => by unfold seekIn; rfl
  | [], k + 1, _ => by unfold seekIn; rfl
  | y :: r, k + 1, h => by
    have n0 : y ≠ x := by simpa using h 0 (by simp) (by omega)
    unfold seekIn
    rw [if_neg n0, seekIn_none fun j h1 h2 => by simpa using h (j + 1) (by simpa using h1) (by omega)]
    rfl
def sp_appended (K : PySem.W.Frag) : Sp := fun vs H Q _ => ∃ (a : Addr) (q : List Int) (r room : Int), vs = [.ref a, .int r, .int room] ∧ SqT K H a (q.map V.int) ∧ q.length ≤ 900 ∧
  ∀ v H', Same H H' → AtI K H' v (appended q r room) → Q v H'
theorem sc_appended : FnScope ["queue", "record", "room", "longer"] ["queue", "record", "room"] (defScope s_appended) := ⟨rfl, rfl, rfl, by decide +kernel, rfl, by decide +kernel, by decide +kernel⟩
theorem Txt.b_appended (T : Txt w K mg) : Binds K (fdA K (He.ga K "appended")) ["queue", "record", "room"] [] := T.F_appended.binds fun _ _ _ _ _ _ us hl => match us, hl with | [_, _, _], _ => rfl
theorem ok_appended (T : Txt w K mg) : FnOk P w K mg base CX0 1 (He.ga K "appended") (fdA K (He.ga K "appended")) ["queue", "record", "room"] (sp_appended K) := by
  refine T.F_appended.ok sc_appended (fun vs H Q E h => ?_) (fun cdv A outer s H vs Q E hr h => ?_)
  · obtain ⟨a, q, r, room, rfl, _⟩ := h
    rfl
  · obtain ⟨a, q, r, room, rfl, ha, hl, k⟩ := h
    refine ⟨_, (pss_cons (ps_set (i := 3) sc_appended.nd rfl (by first | exact .inl rfl | exact .inr rfl) (pe_tup (StX.pa_star (pv 0) (pa_cons (pv 1) pa_nil))))
      (pss_one (ps_ret (pe_ifExp (pt_cmpR op_gt (pe_callB (cr_lenK (K := K)) (by rfl) T.f_len (by decide +kernel) (pa_cons (pv 3) pa_nil)) (pv 2) (nomark _)) (pe_slice sl_tupA (pv 3) (po_some pe_int) po_none) (pv 3))))), ?_⟩
    refine ⟨_, rfl, _, _, rfl, .inl ha, _, rfl, ?_⟩
    have hl2 : ((q.map V.int) ++ [V.int r]).length ≤ 1000 := by simp; omega
    refine ⟨ok_le hl2, fun b hb => ?_⟩
    have s1 : Same H (upd H b (.tup ((q.map V.int) ++ [V.int r]))) := Same.up hb
    have hT : SqT K (upd H b (.tup ((q.map V.int) ++ [V.int r]))) b ((q.map V.int) ++ [V.int r]) := newT
    refine ⟨_, rfl, _, _, rfl, .inr hT, _, rfl, _, _, rfl, rfl, _, rfl, ?_⟩
    have e1 : (q.map V.int) ++ [V.int r] = (q ++ [r]).map V.int := by simp
    have e2 : (((q.map V.int) ++ [V.int r]).length : Int) = ((q ++ [r]).length : Int) := by simp
    rw [e2]
    by_cases c : room < ((q ++ [r]).length : Int)
    · refine yes (decide_eq_true c) ?_
      refine ⟨_, rfl, _, rfl, slD (k := 1) hT fun u H2 s2 t2 => k _ _ (s1.trans s2) ?_⟩
      unfold appended
      rw [if_pos c]
      refine ⟨u, rfl, ?_⟩
      rw [e1, ← List.map_drop] at t2
      exact t2
    · refine noo (decide_eq_false c) ?_
      refine ⟨_, rfl, k _ _ s1 ?_⟩
      unfold appended
      rw [if_neg c]
      refine ⟨b, rfl, ?_⟩
      rw [← e1]
      exact hT
def sp_eye (K : PySem.W.Frag) : Sp := fun vs H Q _ => ∃ (a b : Addr) (p : Plan) (q : List Int), vs = [.ref a, .ref b] ∧ PlantAt K H (.ref a) p ∧ SqT K H b (q.map V.int) ∧ q.length ≤ 900 ∧
  ∀ c v l H', Same H H' → SqT K H' c [v, .ref l] → AtI K H' v (eye p q).1 → H' l = some (.lst ((eye p q).2.map V.int)) → H l = none → Q (.ref c) H'
theorem sc_taken_by_eye : FnScope ["plant", "queue"] ["plant", "queue"] (defScope s_taken_by_eye) := ⟨rfl, rfl, rfl, by decide +kernel, rfl, by decide +kernel, by decide +kernel⟩
theorem Txt.b_taken_by_eye (T : Txt w K mg) : Binds K (fdA K (He.ga K "taken_by_eye")) ["plant", "queue"] [] := T.F_taken_by_eye.binds fun _ _ _ _ _ _ us hl => match us, hl with | [_, _], _ => rfl
theorem ok_taken_by_eye (T : Txt w K mg) : FnOk P w K mg base CX0 3 (He.ga K "taken_by_eye") (fdA K (He.ga K "taken_by_eye")) ["plant", "queue"] (sp_eye K) := by
  refine T.F_taken_by_eye.ok sc_taken_by_eye (fun vs H Q E h => ?_) (fun cdv A outer s H vs Q E hr h => ?_)
  · obtain ⟨a, b, p, q, rfl, _⟩ := h
    rfl
  · obtain ⟨a, b, p, q, rfl, hp, hb, hl, k⟩ := h
    refine ⟨_, (pss_cons (ps_if (pt_cmpR op_gt (pe_callB (cr_lenK (K := K)) (by rfl) T.f_len (by decide +kernel) (pa_cons (pv 1) pa_nil)) pe_int (nomark _)) (pss_one (ps_ret (pe_tup (pa_cons (pe_slice sl_tupA (pv 1) (po_some pe_int) po_none) (pa_cons (pe_lst (pa_cons (pe_ix ix_tup (pv 1) pe_int (fun _ _ => rfl)) pa_nil)) pa_nil))))) pss_nil)
      (pss_one (ps_ret (pe_tup (pa_cons (pv 1) (pa_cons (pe_ifExp (pt_cmpR op_eq (pe_prop (pe_prop (pv 0) T.cl_Plant T.p_Plant_tracker (ok_Plant_tracker T) (hr.mono (by decide)) T.b_Plant_tracker .nil pass0 rfl) T.cl_Tracker T.p_Tracker_empty (ok_Tracker_empty T) (hr.mono (by decide)) T.b_Tracker_empty .nil pass0 rfl) pe_str (nomark _)) (pe_lst (pa_cons (C8.pe_gc rfl T.c_BLANK) pa_nil)) (pe_lst pa_nil)) pa_nil)))))), ?_⟩
    refine ⟨_, rfl, _, _, rfl, .inr hb, _, _, rfl, rfl, _, rfl, ?_⟩
    rw [List.length_map]
    cases q with
    | nil =>
      refine noo (decide_eq_false (by simp)) ?_
      refine ⟨_, rfl, trackP rfl hp fun v hv => ⟨by rw [hv] <;> rfl, _, rfl, ?_⟩⟩
      subst hv
      cases hbl : p.blank with
      | true =>
        refine yes (by decide +kernel) ?_
        refine ⟨ok_le (by simp), fun l hl2 => ⟨ok_le (by simp), fun c hc => ?_⟩⟩
        have s1 : Same H (upd H l (.lst [V.int (-2)])) := Same.up hl2
        have s2 : Same (upd H l (.lst [V.int (-2)])) (upd (upd H l (.lst [V.int (-2)])) c (.tup [.ref b, .ref l])) := Same.up hc
        refine k _ _ _ _ (s1.trans s2) newT ⟨_, rfl, Same.seqT (s1.trans s2) hb⟩ (s2 _ _ ?_) hl2
        unfold eye
        rw [hbl]
        exact upd_same
      | false =>
        refine noo (by decide +kernel) ?_
        refine ⟨ok_le (by simp), fun l hl2 => ⟨ok_le (by simp), fun c hc => ?_⟩⟩
        have s1 : Same H (upd H l (.lst [])) := Same.up hl2
        have s2 : Same (upd H l (.lst [])) (upd (upd H l (.lst [])) c (.tup [.ref b, .ref l])) := Same.up hc
        refine k _ _ _ _ (s1.trans s2) newT ⟨_, rfl, Same.seqT (s1.trans s2) hb⟩ (s2 _ _ ?_) hl2
        unfold eye
        rw [hbl]
        exact upd_same
    | cons y r =>
      refine yes (decide_eq_true (by simp)) ?_
      refine ⟨_, rfl, _, rfl, ?_⟩
      dsimp only [tNoPart]
      refine slD (k := 1) hb fun u H2 s2 t2 => ?_
      refine ⟨_, rfl, _, _, _, _, rfl, rfl, Same.seqT s2 hb, atI_nat (j := 0) (v := V.int y) rfl, ok_le (by simp), fun l hl2 => ⟨ok_le (by simp), fun c hc => ?_⟩⟩
      have s3 : Same H2 (upd H2 l (.lst [V.int y])) := Same.up hl2
      have s4 : Same (upd H2 l (.lst [V.int y])) (upd (upd H2 l (.lst [V.int y])) c (.tup [.ref u, .ref l])) := Same.up hc
      exact k _ _ _ _ ((s2.trans s3).trans s4) newT ⟨_, rfl, Same.seqT (s3.trans s4) t2⟩ (s4 _ _ upd_same) (Same.free s2 hl2)
def sp_scan (K : PySem.W.Frag) : Sp := fun vs H Q _ => ∃ (a b : Addr) (p : Plan) (q : List Int) (x : Int), vs = [.ref a, .ref b, .int x] ∧ PlantAt K H (.ref a) p ∧ p.Ok ∧ SqT K H b (q.map V.int) ∧ q.length ≤ 900 ∧
  ∀ c v l H', Same H H' → SqT K H' c [v, .ref l] → AtI K H' v (scanner p q x).1 → H' l = some (.lst ((scanner p q x).2.map V.int)) → H l = none → Q (.ref c) H'
theorem sc_taken_by_scanner : FnScope ["plant", "queue", "label", "at"] ["plant", "queue", "label"] (defScope s_taken_by_scanner) := ⟨rfl, rfl, rfl, by decide +kernel, rfl, by decide +kernel, by decide +kernel⟩
theorem Txt.b_taken_by_scanner (T : Txt w K mg) : Binds K (fdA K (He.ga K "taken_by_scanner")) ["plant", "queue", "label"] [] := T.F_taken_by_scanner.binds fun _ _ _ _ _ _ us hl => match us, hl with | [_, _, _], _ => rfl
theorem ok_taken_by_scanner (T : Txt w K mg) : FnOk P w K mg base CX0 3 (He.ga K "taken_by_scanner") (fdA K (He.ga K "taken_by_scanner")) ["plant", "queue", "label"] (sp_scan K) := by
  refine T.F_taken_by_scanner.ok sc_taken_by_scanner (fun vs H Q E h => ?_) (fun cdv A outer s H vs Q E hr h => ?_)
  · obtain ⟨a, b, p, q, x, rfl, _⟩ := h
    rfl
  · obtain ⟨a, b, p, q, x, rfl, hp, ok, hb, hl, k⟩ := h
    refine ⟨_, (pss_cons (ps_for PassesOwn.never rfl (pi_range1 (by rfl) T.f_range (pa_cons (pe_callB (call_min2 rfl) (by rfl) T.f_min (by decide +kernel) (pa_cons (pe_callB (cr_lenK (K := K)) (by rfl) T.f_len (by decide +kernel) (pa_cons (pv 1) pa_nil)) (pa_cons (pe_op op_add (pe_prop (pe_prop (pv 0) T.cl_Plant T.p_Plant_tracker (ok_Plant_tracker T) (hr.mono (by decide)) T.b_Plant_tracker .nil pass0 rfl) T.cl_Tracker T.p_Tracker_seek (ok_Tracker_seek T) (hr.mono (by decide)) T.b_Tracker_seek .nil pass0 rfl) pe_int) pa_nil))) pa_nil)) (pg_name (i := 3) sc_taken_by_scanner.nd rfl (by first | exact .inl rfl | exact .inr rfl)) (pss_one (ps_if (pt_cmpR op_eq (pe_ix ix_tup (pv 1) (pv 3) (fun _ _ => rfl)) (pv 2) (nomark _)) (pss_one (ps_ret (pe_tup (pa_cons (pe_slice sl_tupA (pv 1) (po_some (pe_op op_add (pv 3) pe_int)) po_none) (pa_cons (pe_lst (pa_cons (pv 2) pa_nil)) pa_nil))))) pss_nil)))
      (pss_one (ps_ret (pe_tup (pa_cons (pe_ifExp (pt_cmpR op_eq (pe_prop (pe_prop (pv 0) T.cl_Plant T.p_Plant_tracker (ok_Plant_tracker T) (hr.mono (by decide)) T.b_Plant_tracker .nil pass0 rfl) T.cl_Tracker T.p_Tracker_strange (ok_Tracker_strange T) (hr.mono (by decide)) T.b_Tracker_strange .nil pass0 rfl) pe_str (nomark _)) (pe_slice sl_tupA (pv 1) (po_some pe_int) po_none) (pv 1)) (pa_cons (pe_lst (pa_cons (pv 2) pa_nil)) pa_nil)))))), ?_⟩
    refine ⟨_, rfl, _, _, rfl, .inr hb, trackP rfl hp fun v hv => ?_⟩
    subst hv
    have sk := ok.sk
    refine ⟨_, _, rfl, rfl, _, _, rfl, ?_⟩
    rw [List.length_map]
    refine ⟨_, rfl, by split <;> omega, by split <;> omega, ?_⟩
    have hn : (if p.seek + 1 < ((q.length : Nat) : Int) then p.seek + 1 else ((q.length : Nat) : Int)).toNat = min q.length (p.seek + 1).toNat := by split <;> omega
    rw [hn]
    refine for_it walk_range (fun i σ H2 => H2 = H ∧ (∃ u, σ = [some (.ref a), some (.ref b), some (.int x), u]) ∧ ∀ j, j < i → q.getD j 0 ≠ x) ⟨rfl, ⟨_, rfl⟩, fun j hj => absurd hj (Nat.not_lt_zero _)⟩ (fun _ _ _ _ _ => trivial) ?_ ?_
    · rintro i y σ H2 H3 hi ⟨rfl, ⟨u, rfl⟩, hno⟩ ⟨rfl, rfl⟩
      have hiq : i < q.length := by omega
      refine ⟨_, rfl, _, rfl, _, _, _, _, rfl, rfl, hb, (show atI (q.map V.int) ((0 : Int) + (i : Int)) = some (.int (q.getD i 0)) from by
        rw [show ((0 : Int) + (i : Int)) = (i : Int) by omega]
        exact atI_nat (getI hiq)), ?_⟩
      refine ⟨_, rfl, rfl, _, rfl, ?_⟩
      by_cases c : q.getD i 0 = x
      · refine yes (decide_eq_true (by rw [c])) ?_
        refine ⟨_, rfl, _, rfl, _, _, rfl, rfl, ?_⟩
        refine ⟨_, rfl, ?_⟩
        dsimp only [tNoPart]
        rw [show ((0 : Int) + (i : Int)) + 1 = ((i + 1 : Nat) : Int) by omega]
        refine slD (k := i + 1) hb fun u H2 s2 t2 => ?_
        refine ⟨_, rfl, ok_le (by simp), fun l hl2 => ⟨ok_le (by simp), fun c' hc => ?_⟩⟩
        have s3 : Same H2 (upd H2 l (.lst [V.int x])) := Same.up hl2
        have s4 : Same (upd H2 l (.lst [V.int x])) (upd (upd H2 l (.lst [V.int x])) c' (.tup [.ref u, .ref l])) := Same.up hc
        have e : scanner p q x = (q.drop (i + 1), [x]) := by
          unfold scanner
          rw [seekIn_some hiq (by omega) c hno]
        refine k _ _ _ _ ((s2.trans s3).trans s4) newT ⟨_, rfl, ?_⟩ (s4 _ _ ?_) (Same.free s2 hl2)
        · rw [e]
          have := Same.seqT (s3.trans s4) t2
          rw [← List.map_drop] at this
          exact this
        · rw [e]
          exact upd_same
      · refine noo (decide_eq_false fun z => c (V.int.inj z)) ?_
        refine ⟨rfl, ⟨_, rfl⟩, fun j hj => ?_⟩
        rcases Nat.lt_succ_iff_lt_or_eq.mp hj with z | z
        · exact hno j z
        · rw [z]
          exact c
    · rintro σ H2 ⟨rfl, ⟨u, rfl⟩, hno⟩
      have e : scanner p q x = (if p.first then q.drop 1 else q, [x]) := by
        unfold scanner
        rw [seekIn_none fun j h1 h2 => hno j (by omega)]
      refine trackP rfl hp fun v hv => ⟨by rw [hv] <;> rfl, _, rfl, ?_⟩
      subst hv
      cases hf : p.first with
      | true =>
        refine yes (by decide +kernel) ?_
        refine ⟨_, rfl, _, rfl, ?_⟩
        dsimp only [tNoPart]
        refine slD (k := 1) hb fun u H2 s2 t2 => ?_
        refine ⟨_, rfl, ok_le (by simp), fun l hl2 => ⟨ok_le (by simp), fun c' hc => ?_⟩⟩
        have s3 : Same H2 (upd H2 l (.lst [V.int x])) := Same.up hl2
        have s4 : Same (upd H2 l (.lst [V.int x])) (upd (upd H2 l (.lst [V.int x])) c' (.tup [.ref u, .ref l])) := Same.up hc
        refine k _ _ _ _ ((s2.trans s3).trans s4) newT ⟨_, rfl, ?_⟩ (s4 _ _ ?_) (Same.free s2 hl2)
        · rw [e, hf]
          have := Same.seqT (s3.trans s4) t2
          rw [← List.map_drop] at this
          exact this
        · rw [e]
          exact upd_same
      | false =>
        refine noo (by decide +kernel) ?_
        refine ⟨_, rfl, _, rfl, ok_le (by simp), fun l hl2 => ⟨ok_le (by simp), fun c' hc => ?_⟩⟩
        have s3 : Same H2 (upd H2 l (.lst [V.int x])) := Same.up hl2
        have s4 : Same (upd H2 l (.lst [V.int x])) (upd (upd H2 l (.lst [V.int x])) c' (.tup [.ref b, .ref l])) := Same.up hc
        refine k _ _ _ _ (s3.trans s4) newT ⟨_, rfl, ?_⟩ (s4 _ _ ?_) hl2
        · rw [e, hf]
          exact Same.seqT (s3.trans s4) hb
        · rw [e]
          exact upd_same
end
end Ow
set_option Elab.async false
set_option linter.all false
set_option maxRecDepth 100000
set_option maxHeartbeats 4000000
namespace Ow
open PySem PySem.Spec PyProof.Rows L2
section
variable {P : Program} {w : World} {K : PySem.W.Frag} {mg : Str → Option Value} {base : Heap}
theorem Txt.times (T : Txt w K mg) (g : Sight) : KDct K w (He.ga K "TIMES") (gS g) (.int (g.times : Int)) := by
  obtain ⟨_, _, _, c⟩ := id T.at_
  obtain ⟨es, n, h1, h2⟩ := He.dicW_ok c.t
  have h3 := He.valsB_ok (T.ex 5) (q := (gS g, .int (g.times : Int))) (by cases g <;> simp [gS, Sight.times])
  obtain ⟨u, h4, h5⟩ := h3
  exact ⟨es, n, u, h1, h2, h4, h5⟩
theorem All2.front {α β : Type} {R : α → β → Prop} {x : α} {l : List α} {m : List β} (h : All2 R (x :: l) m) : All2 R ([x] ++ (l ++ [])) m := by
  rw [List.append_nil]
  exact h
theorem take_snoc {xs : List Int} {i : Nat} (h : i < xs.length) : xs.take (i + 1) = xs.take i ++ [xs.getD i 0] := by
  rw [List.take_succ, List.getElem?_eq_getElem h, List.getD_eq_getElem?_getD, List.getElem?_eq_getElem h]
  rfl
theorem appAll_snoc (room : Int) (r : Int) : ∀ (rs q : List Int), appAll room q (rs ++ [r]) = appended (appAll room q rs) r room
  | [], q => rfl
  | x :: rs, q => appAll_snoc room r rs (appended q x room)
theorem appended_len (q : List Int) (r room : Int) : (appended q r room).length ≤ q.length + 1 := by
  unfold appended
  split
  · rw [List.length_drop, List.length_append, List.length_singleton]; omega
  · rw [List.length_append, List.length_singleton]; omega
theorem appAll_len (room : Int) : ∀ (rs q : List Int), (appAll room q rs).length ≤ q.length + rs.length
  | [], q => Nat.le_refl _
  | x :: rs, q => by
    have h1 := appAll_len room rs (appended q x room)
    have h2 := appended_len q x room
    show (appAll room (appended q x room) rs).length ≤ q.length + (rs.length + 1)
    omega
theorem set_zero {α : Type} {xs : List α} {x : α} (h : 0 < xs.length) : xs.set 0 x = x :: xs.drop 1 := by
  cases xs with
  | nil => exact absurd h (Nat.not_lt_zero _)
  | cons a r => rfl
/-- slips + (int(sight != 'once'),)[1:] -/
theorem lateE {σ : L2.St} {i j : Nat} {as : Addr} {sl : List Int} {g : Sight} {H : Hp} {Q : VK} (hi : σ[i]? = some (some (.ref as))) (hj : σ[j]? = some (some (.str (gS g)))) (hs : SqT K H as (sl.map V.int)) (h9 : sl.length ≤ 900)
    (k : ∀ lt H', Same H H' → SqT K H' lt ((lateOf sl g).map V.int) → Q (.ref lt) H') :
    tSl (rSlA K) (tOp (rCatA K) (tVar i) (tTup (tCons (tCB (fun xs H Q => (∃ i, xs = [V.int i] ∧ Q (V.int i) H) ∨ ∃ k, xs = [V.bl k] ∧ Q (V.int (if k = true then 1 else 0)) H) (tCons (tOp rNe (tVar j) (tC (V.str "once"))) tNil)) tNil))) (tPart (tC (V.int 1))) tNoPart σ H Q := by
  refine ⟨_, hi, _, hj, rfl, .inr ⟨_, rfl, ok_le (by simp), fun t1 m1 => ?_⟩⟩
  have e1 : (if (!decide (V.str (gS g) = V.str "once")) = true then (1 : Int) else 0) = (if g = Sight.once then 0 else 1) := by cases g <;> decide +kernel
  rw [e1]
  have s1 := Same.up (o := .tup [V.int (if g = Sight.once then 0 else 1)]) m1
  refine catT (Same.seqT s1 hs) newT (by simp; omega) fun t2 H2 s2 h2 => ⟨_, rfl, ?_⟩
  dsimp only [tNoPart]
  refine slD (k := 1) h2 fun t3 H3 s3 h3 => k _ _ (s1.trans (s2.trans s3)) ?_
  have e2 : (sl.map V.int ++ [V.int (if g = Sight.once then 0 else 1)]).drop 1 = (lateOf sl g).map V.int := by
    unfold lateOf
    rw [List.map_drop, List.map_append]
    rfl
  rw [← e2]
  exact h3
def sp_come (K : PySem.W.Frag) : Sp := fun vs H Q _ => ∃ (a : Addr) (p : Plan) (sv : V) (s : St) (g : Sight) (n : Int), vs = [.ref a, sv, .str (gS g), .int n] ∧ PlantAt K H (.ref a) p ∧ p.Ok ∧ StAt K H sv s ∧ s.belts.length = p.n ∧ s.queues.length = p.n ∧
  (∀ b ∈ s.belts, b.length ≤ 5) ∧ (∀ b ∈ s.queues, b.length ≤ 5) ∧ s.slips.length ≤ 900 ∧ ∀ v H', Same H H' → StAt K H' v (come p s g n) → Q v H'
theorem sc_come : FnScope ["plant", "state", "sight", "label", "belts", "queues", "swap", "slips", "comings", "seen", "first", "room", "record", "top", "late"] ["plant", "state", "sight", "label"] (defScope s_come) := ⟨rfl, rfl, rfl, by decide +kernel, rfl, by decide +kernel, by decide +kernel⟩
theorem Txt.b_come (T : Txt w K mg) : Binds K (fdA K (He.ga K "come")) ["plant", "state", "sight", "label"] [] := T.F_come.binds fun _ _ _ _ _ _ us hl => match us, hl with | [_, _, _, _], _ => rfl
theorem ok_come (T : Txt w K mg) : FnOk P w K mg base CX0 3 (He.ga K "come") (fdA K (He.ga K "come")) ["plant", "state", "sight", "label"] (sp_come K) := by
  refine T.F_come.ok sc_come (fun vs H Q E h => ?_) (fun cdv A outer s H vs Q E hr h => ?_)
  · obtain ⟨a, p, sv, s', g, n, rfl, _⟩ := h
    rfl
  · obtain ⟨a, p, sv, s', g, n, rfl, hp, ok, hst, hn, hnq, hb5, hq5, hs9, k⟩ := h
    obtain ⟨c, vb, vq, vs, rfl, hc, ⟨ab, bs, rfl, hb1, hb2⟩, ⟨aq, qs, rfl, hq1, hq2⟩, ⟨as, rfl, hs⟩⟩ := id hst
    refine ⟨_, (pss_cons (ps_asg (pv 1) (pg_tup rfl (pgs_cons (pg_name (i := 4) sc_come.nd rfl (by first | exact .inl rfl | exact .inr rfl)) (pgs_cons (pg_name (i := 5) sc_come.nd rfl (by first | exact .inl rfl | exact .inr rfl)) (pgs_cons (pg_name (i := 6) sc_come.nd rfl (by first | exact .inl rfl | exact .inr rfl)) (pgs_cons (pg_name (i := 7) sc_come.nd rfl (by first | exact .inl rfl | exact .inr rfl)) (pgs_cons (pg_name (i := 8) sc_come.nd rfl (by first | exact .inl rfl | exact .inr rfl)) pgs_nil)))))))
      (pss_cons (ps_set (i := 9) sc_come.nd rfl (by first | exact .inl rfl | exact .inr rfl) (pe_op op_cat (pe_op op_rep (pe_lst (pa_cons (pv 3) pa_nil)) (pe_ix ix_kdict (pe_glob (v := .ref (He.ga K "TIMES")) rfl T.g_TIMES rfl) (pv 2) (fun _ _ => rfl))) (pe_ifExp (pt_cmpR op_ne (pv 6) (C8.pe_gc rfl T.c_NO_SWAP) (nomark _)) (pe_lst (pa_cons (pv 6) pa_nil)) (pe_lst pa_nil))))
      (pss_cons (ps_par (i := 10) (j := 11) rfl sc_come.nd rfl rfl (by decide) rfl rfl (pa_cons (pe_ix ix_tup (pv 5) pe_int (fun _ _ => rfl)) (pa_cons (pe_ix ix_list (pe_meth0 (pe_prop (pv 0) T.cl_Plant T.p_Plant_tracker (ok_Plant_tracker T) (hr.mono (by decide)) T.b_Plant_tracker .nil pass0 rfl) T.cl_Tracker T.m_Tracker_rooms (ok_Tracker_rooms T) (hr.mono (by decide)) T.b_Tracker_rooms .nil pass0) pe_int (fun _ _ => rfl)) pa_nil)) (by rfl))
      (pss_cons (ps_for PassesOwn.never rfl (pi_list (pv 9)) (pg_name (i := 12) sc_come.nd rfl (by first | exact .inl rfl | exact .inr rfl)) (pss_one (ps_set (i := 10) sc_come.nd rfl (by first | exact .inl rfl | exact .inr rfl) (pe_call (ok_appended T) (hr.mono (by decide)) (by rfl) T.g_appended T.D_appended.kp T.b_appended .nil pass0 (pa_cons (pv 10) (pa_cons (pv 12) (pa_cons (pv 11) pa_nil)))))))
      (pss_cons (ps_set (i := 13) sc_come.nd rfl (by first | exact .inl rfl | exact .inr rfl) (pe_ifExp (pt_cmpR op_isN (pe_prop (pe_prop (pv 0) T.cl_Plant T.p_Plant_line (ok_Plant_line T) (hr.mono (by decide)) T.b_Plant_line .nil pass0 rfl) T.cl_Line T.p_Line_stretch (ok_Line_stretch T) (hr.mono (by decide)) T.b_Line_stretch .nil pass0 rfl) pe_non (nomark _)) pe_int (pe_prop (pe_prop (pv 0) T.cl_Plant T.p_Plant_line (ok_Plant_line T) (hr.mono (by decide)) T.b_Plant_line .nil pass0 rfl) T.cl_Line T.p_Line_stretch (ok_Line_stretch T) (hr.mono (by decide)) T.b_Line_stretch .nil pass0 rfl)))
      (pss_cons (ps_set (i := 14) sc_come.nd rfl (by first | exact .inl rfl | exact .inr rfl) (pe_slice sl_tupA (pe_op op_catA (pv 7) (pe_tup (pa_cons (pe_callTy call_int1 (by rfl) T.f_int (by decide +kernel) (pa_cons (pe_cmpR op_ne (pv 2) pe_str (nomark _)) pa_nil)) pa_nil))) (po_some pe_int) po_none))
      (pss_cons (ps_set (i := 6) sc_come.nd rfl (by first | exact .inl rfl | exact .inr rfl) (pe_ifExp (pt_cmpR op_eq (pv 2) pe_str (nomark _)) (pv 3) (C8.pe_gc rfl T.c_NO_SWAP)))
      (pss_one (ps_ret (pe_tup (pa_cons (pe_tup (pa_cons (pe_tup (StX.pa_star (pe_ix ix_tup (pv 4) pe_int (fun _ _ => rfl)) (pa_cons (pv 3) pa_nil))) (StX.pa_star (pe_slice sl_tupA (pv 4) (po_some pe_int) po_none) pa_nil))) (pa_cons (pe_tup (pa_cons (pv 10) (StX.pa_star (pe_slice sl_tupA (pv 5) (po_some pe_int) po_none) pa_nil))) (pa_cons (pv 6) (pa_cons (pv 14) (pa_cons (pe_callB (call_min2 rfl) (by rfl) T.f_min (by decide +kernel) (pa_cons (pv 13) (pa_cons (pe_op op_add (pv 8) pe_int) pa_nil))) pa_nil))))))))))))))), ?_⟩
    have n0 := ok.nb.1
    have n0' : 0 < p.n := n0
    refine ⟨_, rfl, _, _, rfl, hc, rfl, _, _, rfl, _, _, rfl, _, _, rfl, _, _, rfl, _, _, rfl, rfl, ?_⟩
    dsimp only
    refine seqE (M := fun σ' H' => ∃ l, σ' = [some (.ref a), some (.ref c), some (.str (gS g)), some (.int n), some (.ref ab), some (.ref aq), some (.int s'.swap), some (.ref as), some (.int s'.comings), some (.ref l), none, none, none, none, none] ∧ Same H H' ∧ H' l = some (.lst ((seenAt s' g n).map V.int))) (fun N kN => ?_) ?_
    · have t2 : g.times ≤ 2 := by cases g <;> decide
      refine ⟨_, rfl, ok_le (by simp), fun l1 n1 => ⟨_, rfl, _, _, _, rfl, rfl, T.times g, _, _, _, rfl, rfl, upd_same, by omega, by omega, by simp; exact ok_le (by omega), fun l2 n2 => ?_⟩⟩
      have s1 : Same H (upd H l1 (.lst [.int n])) := Same.up n1
      have s2 : Same (upd H l1 (.lst [.int n])) _ := Same.up (o := .lst (List.replicate ((g.times : Nat) : Int).toNat [V.int n]).flatten) n2
      have e2 : (List.replicate ((g.times : Nat) : Int).toNat [V.int n]).flatten = (List.replicate g.times n).map V.int := by
        rw [Int.toNat_natCast, List.flatten_replicate_singleton, List.map_replicate]
      rw [e2] at s2 ⊢
      refine ⟨_, rfl, rfl, _, rfl, ?_⟩
      by_cases c1 : s'.swap = -2
      · refine noo (by rw [c1]; rfl) ?_
        refine ⟨ok_le (by simp), fun l3 n3 => ⟨_, _, _, _, rfl, rfl, Same.up n3 _ _ upd_same, upd_same, by simp; exact ok_le (by omega), fun l4 n4 => ?_⟩⟩
        refine kN _ _ ⟨l4, rfl, ((s1.trans s2).trans (Same.up n3)).trans (Same.up n4), ?_⟩
        rw [upd_same]
        unfold seenAt
        rw [if_pos c1]
        simp
      · refine yes (by rw [decide_eq_false fun z => c1 (V.int.inj z)]; rfl) ?_
        refine ⟨_, rfl, ok_le (by simp), fun l3 n3 => ⟨_, _, _, _, rfl, rfl, Same.up n3 _ _ upd_same, upd_same, by simp; exact ok_le (by omega), fun l4 n4 => ?_⟩⟩
        refine kN _ _ ⟨l4, rfl, ((s1.trans s2).trans (Same.up n3)).trans (Same.up n4), ?_⟩
        rw [upd_same]
        unfold seenAt
        rw [if_neg c1]
        simp
    rintro σ1 H1 ⟨ls, rfl, s1, hls⟩
    obtain ⟨q0, eq0, hq0⟩ := hq2.getI (j := 0) (by omega)
    refine seqE (M := fun σ' H' => σ' = [some (.ref a), some (.ref c), some (.str (gS g)), some (.int n), some (.ref ab), some (.ref aq), some (.int s'.swap), some (.ref as), some (.int s'.comings), some (.ref ls), some (.ref q0), some (.int (p.rooms.getD 0 0)), none, none, none] ∧ Same H1 H') (fun N kN => ?_) ?_
    · refine ⟨_, rfl, _, _, _, _, rfl, rfl, Same.seqT s1 hq1, atI_nat eq0, trackM (fun _ _ => rfl) rfl (hp.mono s1) fun lr H2 s2 hlr => ?_⟩
      refine ⟨_, _, _, _, rfl, rfl, .inl (.inl hlr), atI_nat (j := 0) (getI (xs := p.rooms) (j := 0) (by rw [ok.nr]; exact n0)), _, _, rfl, ?_⟩
      exact kN _ _ ⟨rfl, s2⟩
    rintro σ2 H2 ⟨rfl, s2⟩
    have hq05 : (s'.queues.getD 0 []).length ≤ 5 := by
      rw [List.getD_eq_getElem?_getD, List.getElem?_eq_getElem (by omega)]
      exact hq5 _ (List.getElem_mem _)
    have seen3 : (seenAt s' g n).length ≤ 3 := by
      have t2 : g.times ≤ 2 := by cases g <;> decide
      unfold seenAt
      rw [List.length_append, List.length_replicate]
      split <;> simp <;> omega
    have s12 := s1.trans s2
    refine seqE (M := fun σ' H' => ∃ u v, σ' = [some (.ref a), some (.ref c), some (.str (gS g)), some (.int n), some (.ref ab), some (.ref aq), some (.int s'.swap), some (.ref as), some (.int s'.comings), some (.ref ls), some u, some (.int (p.rooms.getD 0 0)), v, none, none] ∧ Same H2 H' ∧ AtI K H' u (appAll (p.rooms.getD 0 0) (s'.queues.getD 0 []) (seenAt s' g n))) (fun N kN => ?_) ?_
    · refine ⟨_, rfl, _, rfl, ⟨_, .inl (.inl (s2 _ _ hls))⟩, ?_⟩
      refine for_it (walk_list (xs := (seenAt s' g n).map V.int)) (fun i σ' H' => ∃ u v, σ' = [some (.ref a), some (.ref c), some (.str (gS g)), some (.int n), some (.ref ab), some (.ref aq), some (.int s'.swap), some (.ref as), some (.int s'.comings), some (.ref ls), some u, some (.int (p.rooms.getD 0 0)), v, none, none] ∧ Same H2 H' ∧ AtI K H' u (appAll (p.rooms.getD 0 0) (s'.queues.getD 0 []) ((seenAt s' g n).take i)))
        ⟨_, _, rfl, Same.refl _, q0, rfl, Same.seqT s12 hq0⟩ (fun i σ' H' _ h => ?_) ?_ ?_
      · obtain ⟨u, v, e, sh, _⟩ := h
        exact .inl (.inl (sh _ _ (s2 _ _ hls)))
      · rintro i x σ' H3 H4 hi ⟨u, v, rfl, sh, au, rfl, hau⟩ ⟨rfl, hx⟩
        rw [List.length_map] at hi
        rw [getI hi] at hx
        cases hx
        refine ⟨_, rfl, _, rfl, _, rfl, au, _, (seenAt s' g n).getD i 0, _, rfl, hau, ?_, fun v H5 s5 hv => ?_⟩
        · have := appAll_len (p.rooms.getD 0 0) ((seenAt s' g n).take i) (s'.queues.getD 0 [])
          have : ((seenAt s' g n).take i).length ≤ 3 := by rw [List.length_take]; omega
          omega
        · refine ⟨v, _, rfl, sh.trans s5, ?_⟩
          rw [take_snoc hi, appAll_snoc]
          exact hv
      · rintro σ' H3 ⟨u, v, rfl, sh, hu⟩
        rw [List.length_map, List.take_length] at hu
        exact kN _ _ ⟨u, v, rfl, sh, hu⟩
    rintro σ3 H3 ⟨u, v, rfl, s3, hu⟩
    have s13 := s12.trans s3
    refine seqE (M := fun σ' H' => H3 = H' ∧ σ' = [some (.ref a), some (.ref c), some (.str (gS g)), some (.int n), some (.ref ab), some (.ref aq), some (.int s'.swap), some (.ref as), some (.int s'.comings), some (.ref ls), some u, some (.int (p.rooms.getD 0 0)), v, some (.int p.top), none]) (fun N kN => ?_) ?_
    · refine lineP rfl (hp.mono s13) fun v hv => ⟨rfl, _, rfl, ?_⟩
      subst hv
      cases hst : p.stretch with
      | none =>
        refine yes rfl ?_
        exact kN _ _ ⟨rfl, by unfold Plan.top; rw [hst]; rfl⟩
      | some m =>
        refine noo rfl ?_
        refine lineP rfl (hp.mono s13) fun v hv => ?_
        subst hv
        exact kN _ _ ⟨rfl, by unfold Plan.top; rw [hst]; rfl⟩
    rintro σ4 _ ⟨rfl, rfl⟩
    refine seqE (M := fun σ' H' => ∃ lt, Same H3 H' ∧ σ' = [some (.ref a), some (.ref c), some (.str (gS g)), some (.int n), some (.ref ab), some (.ref aq), some (.int s'.swap), some (.ref as), some (.int s'.comings), some (.ref ls), some u, some (.int (p.rooms.getD 0 0)), v, some (.int p.top), some (.ref lt)] ∧ SqT K H' lt ((lateOf s'.slips g).map V.int)) (fun N kN => ?_) ?_
    · exact lateE (σ := [some (.ref a), some (.ref c), some (.str (gS g)), some (.int n), some (.ref ab), some (.ref aq), some (.int s'.swap), some (.ref as), some (.int s'.comings), some (.ref ls), some u, some (.int (p.rooms.getD 0 0)), v, some (.int p.top), none]) (i := 7) (j := 2) rfl rfl (Same.seqT s13 hs) hs9 fun lt H4 s4 h4 => kN _ _ ⟨lt, s4, rfl, h4⟩
    rintro σ5 H5 ⟨lt, s5, rfl, hlt⟩
    have s15 := s13.trans s5
    refine seqE (M := fun σ' H' => H5 = H' ∧ σ' = [some (.ref a), some (.ref c), some (.str (gS g)), some (.int n), some (.ref ab), some (.ref aq), some (.int (if g = .swapped then n else -2)), some (.ref as), some (.int s'.comings), some (.ref ls), some u, some (.int (p.rooms.getD 0 0)), v, some (.int p.top), some (.ref lt)]) (fun N kN => ?_) ?_
    · refine ⟨_, rfl, rfl, _, rfl, ?_⟩
      by_cases c1 : g = .swapped
      · subst c1
        refine yes (by decide +kernel) ?_
        exact ⟨_, rfl, kN _ _ ⟨rfl, rfl⟩⟩
      · refine noo (decide_eq_false fun z => c1 (gS_inj (b := .swapped) (V.str.inj z))) ?_
        exact kN _ _ ⟨rfl, by rw [if_neg c1]; rfl⟩
    rintro σ6 _ ⟨rfl, rfl⟩
    obtain ⟨b0, eb0, hb0⟩ := hb2.getI (j := 0) (by omega)
    have hb05 : (s'.belts.getD 0 []).length ≤ 5 := by
      rw [List.getD_eq_getElem?_getD, List.getElem?_eq_getElem (by omega)]
      exact hb5 _ (List.getElem_mem _)
    have lb := hb2.length
    have lq := hq2.length
    have n3 : p.n ≤ 3 := ok.nb.2
    refine ⟨_, rfl, _, _, _, _, rfl, rfl, Same.seqT s15 hb1, atI_nat eb0, _, _, rfl, .inl (Same.seqT s15 hb0), _, rfl, ok_le (by rw [List.length_append, List.length_map, List.length_singleton]; omega), fun t1 m1 => ?_⟩
    have q1 : Same H5 (upd H5 t1 (.tup ((s'.belts.getD 0 []).map V.int ++ [V.int n]))) := Same.up m1
    refine ⟨_, rfl, _, rfl, ?_⟩
    dsimp only [tNoPart]
    refine slD (k := 1) (Same.seqT (s15.trans q1) hb1) fun t2 H6 q2 ht2 => ?_
    refine ⟨_, _, rfl, .inl ht2, ok_le (by simp; omega), fun t3 m3 => ?_⟩
    have q3 := Same.up (o := .tup ([V.ref t1] ++ (bs.drop 1 ++ []))) m3
    obtain ⟨au, rfl, hau⟩ := hu
    refine ⟨_, rfl, _, rfl, _, rfl, ?_⟩
    dsimp only [tNoPart]
    refine slD (k := 1) (Same.seqT (s15.trans (q1.trans (q2.trans q3))) hq1) fun t4 H7 q4 ht4 => ?_
    refine ⟨_, _, rfl, .inl ht4, ok_le (by simp; omega), fun t5 m5 => ?_⟩
    have q5 := Same.up (o := .tup ([V.ref au] ++ (qs.drop 1 ++ []))) m5
    refine ⟨_, rfl, _, rfl, _, rfl, _, rfl, _, _, rfl, rfl, _, _, rfl, ok_le (by simp), fun t6 m6 => ?_⟩
    have q6 := Same.up (o := .tup [V.ref t3, V.ref t5, V.int (if g = .swapped then n else -2), V.ref lt, V.int (if s'.comings + 1 < p.top then s'.comings + 1 else p.top)]) m6
    have z5 : Same H5 (upd (upd H7 t5 (.tup ([V.ref au] ++ (qs.drop 1 ++ [])))) t6 (.tup [V.ref t3, V.ref t5, V.int (if g = .swapped then n else -2), V.ref lt, V.int (if s'.comings + 1 < p.top then s'.comings + 1 else p.top)])) := q1.trans (q2.trans (q3.trans (q4.trans (q5.trans q6))))
    refine k _ _ (s15.trans z5) ?_
    have emin : (if s'.comings + 1 < p.top then s'.comings + 1 else p.top) = min p.top (s'.comings + 1) := by split <;> omega
    refine ⟨t6, .ref t3, .ref t5, .ref lt, rfl, ?_, ?_, ?_, ?_⟩
    · have := newT (K := K) (H := upd H7 t5 (.tup ([V.ref au] ++ (qs.drop 1 ++ [])))) (p := t6) (xs := [V.ref t3, V.ref t5, V.int (if g = .swapped then n else -2), V.ref lt, V.int (if s'.comings + 1 < p.top then s'.comings + 1 else p.top)])
      rw [emin] at this ⊢
      exact this
    · refine ⟨t3, _, rfl, Same.seqT (q4.trans (q5.trans q6)) newT, ?_⟩
      show All2 (AtI K _) _ (s'.belts.set 0 (s'.belts.getD 0 [] ++ [n]))
      rw [set_zero (by omega)]
      refine All2.front ?_
      refine .cons ⟨t1, rfl, ?_⟩ ((hb2.imp fun _ _ => AtI.mono (s15.trans z5)).drop 1)
      rw [List.map_append]
      exact Same.seqT (q2.trans (q3.trans (q4.trans (q5.trans q6)))) newT
    · refine ⟨t5, _, rfl, Same.seqT q6 newT, ?_⟩
      show All2 (AtI K _) _ (s'.queues.set 0 (appAll (p.rooms.getD 0 0) (s'.queues.getD 0 []) (seenAt s' g n)))
      rw [set_zero (by omega)]
      refine All2.front ?_
      exact .cons ⟨au, rfl, Same.seqT (s5.trans z5) hau⟩ ((hq2.imp fun _ _ => AtI.mono (s15.trans z5)).drop 1)
    · exact ⟨lt, rfl, Same.seqT z5 hlt⟩
end
end Ow
set_option Elab.async false
set_option linter.all false
set_option maxRecDepth 100000
set_option maxHeartbeats 4000000
namespace Ow
open PySem PySem.Spec PyProof.Rows L2
section
variable {P : Program} {w : World} {K : PySem.W.Frag} {mg : Str → Option Value} {base : Heap}
/-- a state of the sizes that the program meets -/
structure Fit (p : Plan) (s : St) : Prop where
  nb : s.belts.length = p.n
  nq : s.queues.length = p.n
  b5 : ∀ b ∈ s.belts, b.length ≤ 5
  q5 : ∀ b ∈ s.queues, b.length ≤ 5
  s9 : s.slips.length ≤ 900
theorem tyLst {H : Hp} {a : Addr} {xs : List V} (h : H a = some (.lst xs)) : tyV K "list" (.ref a) H := .inl ⟨rfl, _, .inl (.inl h)⟩
theorem ixN_nat {n j : Nat} (h : j < n) : ixN n (j : Int) = some j := by
  unfold ixN
  rw [if_pos (by omega), if_pos (by omega), Int.toNat_natCast]
theorem ixN_pred {n j : Nat} (h1 : 1 ≤ j) (h : j - 1 < n) : ixN n ((j : Int) - 1) = some (j - 1) := by
  have : (j : Int) - 1 = ((j - 1 : Nat) : Int) := by omega
  rw [this]
  exact ixN_nat h
/-- three lists made since H: belts, queues, what was found -/
structure Tri (K : PySem.W.Frag) (H H' : Hp) (lb lq lf : Addr) (B Q : List (List Int)) (F : List Int) : Prop where
  s : Same H H'
  fb : H lb = none
  fq : H lq = none
  ff : H lf = none
  bq : lb ≠ lq
  bf : lb ≠ lf
  qf : lq ≠ lf
  b : ∃ bs, H' lb = some (.lst bs) ∧ All2 (AtI K H') bs B
  q : ∃ qs, H' lq = some (.lst qs) ∧ All2 (AtI K H') qs Q
  f : H' lf = some (.lst (F.map V.int))
section
variable {H H1 H2 : Hp} {lb lq lf : Addr} {B C : List (List Int)} {F : List Int}
theorem Tri.grow (t : Tri K H H1 lb lq lf B C F) (e : Same H1 H2) : Tri K H H2 lb lq lf B C F where
  s := t.s.trans e
  fb := t.fb
  fq := t.fq
  ff := t.ff
  bq := t.bq
  bf := t.bf
  qf := t.qf
  b := let ⟨bs, h1, h2⟩ := t.b; ⟨bs, e _ _ h1, h2.imp fun _ _ => AtI.mono e⟩
  q := let ⟨bs, h1, h2⟩ := t.q; ⟨bs, e _ _ h1, h2.imp fun _ _ => AtI.mono e⟩
  f := e _ _ t.f
theorem Tri.setB (t : Tri K H H1 lb lq lf B C F) {bs : List V} {v : V} {b : List Int} {j : Nat} (hl : H1 lb = some (.lst bs)) (hv : AtI K H1 v b) : Tri K H (upd H1 lb (.lst (bs.set j v))) lb lq lf (B.set j b) C F where
  s := Same.put t.s t.fb
  fb := t.fb
  fq := t.fq
  ff := t.ff
  bq := t.bq
  bf := t.bf
  qf := t.qf
  b := by
    obtain ⟨bs', h1, h2⟩ := t.b
    rw [hl] at h1
    cases h1
    exact ⟨_, upd_same, (h2.set hv j).imp fun _ _ => AtI.keep (KeepT.lst hl)⟩
  q := by
    obtain ⟨qs, h1, h2⟩ := t.q
    exact ⟨qs, by rw [upd_ne (Ne.symm t.bq)]; exact h1, h2.imp fun _ _ => AtI.keep (KeepT.lst hl)⟩
  f := by
    rw [upd_ne (Ne.symm t.bf)]
    exact t.f
theorem Tri.setQ (t : Tri K H H1 lb lq lf B C F) {qs : List V} {v : V} {b : List Int} {j : Nat} (hl : H1 lq = some (.lst qs)) (hv : AtI K H1 v b) : Tri K H (upd H1 lq (.lst (qs.set j v))) lb lq lf B (C.set j b) F where
  s := Same.put t.s t.fq
  fb := t.fb
  fq := t.fq
  ff := t.ff
  bq := t.bq
  bf := t.bf
  qf := t.qf
  b := by
    obtain ⟨bs, h1, h2⟩ := t.b
    exact ⟨bs, by rw [upd_ne t.bq]; exact h1, h2.imp fun _ _ => AtI.keep (KeepT.lst hl)⟩
  q := by
    obtain ⟨qs', h1, h2⟩ := t.q
    rw [hl] at h1
    cases h1
    exact ⟨_, upd_same, (h2.set hv j).imp fun _ _ => AtI.keep (KeepT.lst hl)⟩
  f := by
    rw [upd_ne (Ne.symm t.qf)]
    exact t.f
theorem Tri.setF (t : Tri K H H1 lb lq lf B C F) (G : List Int) : Tri K H (upd H1 lf (.lst (G.map V.int))) lb lq lf B C G where
  s := Same.put t.s t.ff
  fb := t.fb
  fq := t.fq
  ff := t.ff
  bq := t.bq
  bf := t.bf
  qf := t.qf
  b := by
    obtain ⟨bs, h1, h2⟩ := t.b
    exact ⟨bs, by rw [upd_ne t.bf]; exact h1, h2.imp fun _ _ => AtI.keep (KeepT.lst t.f)⟩
  q := by
    obtain ⟨qs, h1, h2⟩ := t.q
    exact ⟨qs, by rw [upd_ne t.qf]; exact h1, h2.imp fun _ _ => AtI.keep (KeepT.lst t.f)⟩
  f := upd_same
theorem Tri.atB (t : Tri K H H1 lb lq lf B C F) {j : Nat} (h : j < B.length) : ∃ bs x, H1 lb = some (.lst bs) ∧ bs.length = B.length ∧ bs[j]? = some (.ref x) ∧ SqT K H1 x ((B.getD j []).map V.int) := by
  obtain ⟨bs, h1, h2⟩ := t.b
  obtain ⟨x, h3, h4⟩ := h2.getI h
  exact ⟨bs, x, h1, h2.length, h3, h4⟩
theorem Tri.atQ (t : Tri K H H1 lb lq lf B C F) {j : Nat} (h : j < C.length) : ∃ bs x, H1 lq = some (.lst bs) ∧ bs.length = C.length ∧ bs[j]? = some (.ref x) ∧ SqT K H1 x ((C.getD j []).map V.int) := by
  obtain ⟨bs, h1, h2⟩ := t.q
  obtain ⟨x, h3, h4⟩ := h2.getI h
  exact ⟨bs, x, h1, h2.length, h3, h4⟩
end
theorem look_len (p : Plan) (i : Nat) (q : List Int) (x : Int) : (look p i q x).1.length ≤ q.length ∧ (look p i q x).2.length ≤ 1 := by
  unfold look
  split
  · unfold scanner
    split
    · exact ⟨by rw [List.length_drop]; omega, by simp⟩
    · refine ⟨?_, by simp⟩
      show (if p.first then q.drop 1 else q).length ≤ _
      split
      · rw [List.length_drop]; omega
      · exact Nat.le_refl _
  · unfold eye
    cases q with
    | nil => exact ⟨Nat.le_refl _, by show (if p.blank then [-2] else ([] : List Int)).length ≤ 1; split <;> simp⟩
    | cons y r => exact ⟨by simp, by simp⟩
theorem looks_snoc (p : Plan) (i : Nat) (x : Int) : ∀ (k : Nat) (q : List Int), looks p i x (k + 1) q = ((look p i (looks p i x k q).1 x).1, (looks p i x k q).2 ++ (look p i (looks p i x k q).1 x).2)
  | 0, q => by simp [looks]
  | k + 1, q => by
    have ih := looks_snoc p i x k (look p i q x).1
    have e : looks p i x (k + 1 + 1) q = ((looks p i x (k + 1) (look p i q x).1).1, (look p i q x).2 ++ (looks p i x (k + 1) (look p i q x).1).2) := rfl
    have e2 : looks p i x (k + 1) q = ((looks p i x k (look p i q x).1).1, (look p i q x).2 ++ (looks p i x k (look p i q x).1).2) := rfl
    rw [e, ih, e2, List.append_assoc]
theorem looks_len (p : Plan) (i : Nat) (x : Int) : ∀ (k : Nat) (q : List Int), (looks p i x k q).1.length ≤ q.length ∧ (looks p i x k q).2.length ≤ k
  | 0, q => ⟨Nat.le_refl _, Nat.le_refl _⟩
  | k + 1, q => by
    rw [looks_snoc]
    have h1 := looks_len p i x k q
    have h2 := look_len p i (looks p i x k q).1 x
    refine ⟨Nat.le_trans h2.1 h1.1, ?_⟩
    rw [List.length_append]
    omega
theorem times_le (g : Sight) : g.times ≤ 2 := by cases g <;> decide
theorem getLmem {xs : List (List Int)} {j : Nat} (h : j < xs.length) : xs.getD j [] ∈ xs := by
  rw [List.getD_eq_getElem?_getD, List.getElem?_eq_getElem h]
  exact List.getElem_mem _
theorem getLsame {xs : List (List Int)} {j : Nat} {x : List Int} (h : j < xs.length) : (xs.set j x).getD j [] = x := by
  rw [List.getD_eq_getElem?_getD, List.getElem?_set_self h]
  rfl
theorem getLne {xs : List (List Int)} {i j : Nat} {x : List Int} (h : i ≠ j) : (xs.set i x).getD j [] = xs.getD j [] := by
  rw [List.getD_eq_getElem?_getD, List.getElem?_set_ne h, List.getD_eq_getElem?_getD]
abbrev sPa (a c : Addr) (i : Nat) (g : Sight) (lb lq lf : Addr) (x : Int) (u v r t : Option V) : L2.St := [some (.ref a), some (.ref c), some (.int (i : Int)), some (.str (gS g)), some (.ref lb), some (.ref lq), some (.int x), some (.ref lf), u, v, r, t]
theorem lateT {σ : L2.St} {i j : Nat} {c as : Addr} {cs : List V} {sl : List Int} {g : Sight} {H : Hp} {Q : VK} (hi : σ[i]? = some (some (.ref c))) (hj : σ[j]? = some (some (.str (gS g)))) (hc : SqT K H c cs) (h3 : atI cs 3 = some (.ref as)) (hs : SqT K H as (sl.map V.int)) (h9 : sl.length ≤ 900)
    (k : ∀ lt H', Same H H' → SqT K H' lt ((lateOf sl g).map V.int) → Q (.ref lt) H') :
    tSl (rSlA K) (tOp (rCatA K) (tOp (rIxT K) (tVar i) (tC (V.int 3))) (tTup (tCons (tCB (fun xs H Q => (∃ i, xs = [V.int i] ∧ Q (V.int i) H) ∨ ∃ k, xs = [V.bl k] ∧ Q (V.int (if k = true then 1 else 0)) H) (tCons (tOp rNe (tVar j) (tC (V.str "once"))) tNil)) tNil))) (tPart (tC (V.int 1))) tNoPart σ H Q := by
  have := lateE (K := K) (σ := [some (.ref as), some (.str (gS g))]) (i := 0) (j := 1) (Q := Q) rfl rfl hs h9 k
  obtain ⟨v, h1, h2⟩ := this
  cases h1
  obtain ⟨v, h1, h4⟩ := h2
  cases h1
  exact ⟨_, hi, _, _, _, _, rfl, rfl, hc, h3, _, hj, h4⟩
def sp_passed (K : PySem.W.Frag) : Sp := fun vs H Q _ => ∃ (a : Addr) (p : Plan) (sv : V) (s : St) (i : Nat) (g : Sight), vs = [.ref a, sv, .int (i : Int), .str (gS g)] ∧ PlantAt K H (.ref a) p ∧ p.Ok ∧ StAt K H sv s ∧ Fit p s ∧ 1 ≤ i ∧ i ≤ p.n ∧
  0 < (s.belts.getD (i - 1) []).length ∧ ∀ c v l H', Same H H' → SqT K H' c [v, .int (passed p s i g).2.1, .ref l] → StAt K H' v (passed p s i g).1 → H' l = some (.lst ((passed p s i g).2.2.map V.int)) → H l = none → Q (.ref c) H'
theorem sc_passed : FnScope ["plant", "state", "at", "sight", "belts", "queues", "parcel", "found", "turn", "more", "record", "late"] ["plant", "state", "at", "sight"] (defScope s_passed) := ⟨rfl, rfl, rfl, by decide +kernel, rfl, by decide +kernel, by decide +kernel⟩
theorem Txt.b_passed (T : Txt w K mg) : Binds K (fdA K (He.ga K "passed")) ["plant", "state", "at", "sight"] [] := T.F_passed.binds fun _ _ _ _ _ _ us hl => match us, hl with | [_, _, _, _], _ => rfl
theorem ok_passed (T : Txt w K mg) : FnOk P w K mg base CX0 4 (He.ga K "passed") (fdA K (He.ga K "passed")) ["plant", "state", "at", "sight"] (sp_passed K) := by
  refine T.F_passed.ok sc_passed (fun vs H Q E h => ?_) (fun cdv A outer s H vs Q E hr h => ?_)
  · obtain ⟨a, p, sv, s', i, g, rfl, _⟩ := h
    rfl
  · obtain ⟨a, p, sv, s', i, g, rfl, hp, ok, hst, fit, i1, i2, hb0, k⟩ := h
    obtain ⟨c, vb, vq, vs, rfl, hc, ⟨ab, bs, rfl, hb1, hb2⟩, ⟨aq, qs, rfl, hq1, hq2⟩, ⟨as, rfl, hs⟩⟩ := id hst
    refine ⟨_, (pss_cons (ps_par (i := 4) (j := 5) rfl sc_passed.nd rfl rfl (by decide) rfl rfl (pa_cons (pe_callTy call_list_of (by rfl) T.f_list (by decide +kernel) (pa_cons (pe_ix ix_tup (pv 1) pe_int (fun _ _ => rfl)) pa_nil)) (pa_cons (pe_callTy call_list_of (by rfl) T.f_list (by decide +kernel) (pa_cons (pe_ix ix_tup (pv 1) pe_int (fun _ _ => rfl)) pa_nil)) pa_nil)) (by rfl))
      (pss_cons (ps_par (i := 6) (j := 7) rfl sc_passed.nd rfl rfl (by decide) rfl rfl (pa_cons (pe_ix ix_tup (pe_ix ix_list (pv 4) (pe_op op_sub (pv 2) pe_int) (fun _ _ => rfl)) pe_int (fun _ _ => rfl)) (pa_cons (pe_lst pa_nil) pa_nil)) (by rfl))
      (pss_cons (ps_asg (pe_slice sl_tupA (pe_ix ix_list (pv 4) (pe_op op_sub (pv 2) pe_int) (fun _ _ => rfl)) (po_some pe_int) po_none) (pg_sub (pv 4) (pe_op op_sub (pv 2) pe_int) set_list))
      (pss_cons (ps_for PassesOwn.never rfl (pi_range1 (by rfl) T.f_range (pa_cons (pe_ix ix_kdict (pe_glob (v := .ref (He.ga K "TIMES")) rfl T.g_TIMES rfl) (pv 3) (fun _ _ => rfl)) pa_nil)) (pg_name (i := 8) sc_passed.nd rfl (by first | exact .inl rfl | exact .inr rfl)) (pss_cons (ps_if (pt_val (pe_meth (pe_prop (pv 0) T.cl_Plant T.p_Plant_line (ok_Plant_line T) (hr.mono (by decide)) T.b_Plant_line .nil pass0 rfl) T.cl_Line T.m_Line_is_scanner (ok_Line_is_scanner T) (hr.mono (by decide)) T.b_Line_is_scanner .nil pass0 (pa_cons (pv 2) pa_nil))) (pss_one (ps_asg (pe_call (ok_taken_by_scanner T) (hr.mono (by decide)) (by rfl) T.g_taken_by_scanner T.D_taken_by_scanner.kp T.b_taken_by_scanner .nil pass0 (pa_cons (pv 0) (pa_cons (pe_ix ix_list (pv 5) (pe_op op_sub (pv 2) pe_int) (fun _ _ => rfl)) (pa_cons (pv 6) pa_nil)))) (pg_tup rfl (pgs_cons (pg_sub (pv 5) (pe_op op_sub (pv 2) pe_int) set_list) (pgs_cons (pg_name (i := 9) sc_passed.nd rfl (by first | exact .inl rfl | exact .inr rfl)) pgs_nil))))) (pss_one (ps_asg (pe_call (ok_taken_by_eye T) (hr.mono (by decide)) (by rfl) T.g_taken_by_eye T.D_taken_by_eye.kp T.b_taken_by_eye .nil pass0 (pa_cons (pv 0) (pa_cons (pe_ix ix_list (pv 5) (pe_op op_sub (pv 2) pe_int) (fun _ _ => rfl)) pa_nil))) (pg_tup rfl (pgs_cons (pg_sub (pv 5) (pe_op op_sub (pv 2) pe_int) set_list) (pgs_cons (pg_name (i := 9) sc_passed.nd rfl (by first | exact .inl rfl | exact .inr rfl)) pgs_nil))))))
        (pss_one (ps_expr (pe_bm PySem.F.plainAttrs_list PySem.F.slot_list_extend PySem.F.type_list_extend mt_extend (pv 7) (pa_cons (pv 9) pa_nil))))))
      (pss_cons (ps_if (pt_cmpR op_lt (pv 2) (pe_prop (pe_prop (pv 0) T.cl_Plant T.p_Plant_line (ok_Plant_line T) (hr.mono (by decide)) T.b_Plant_line .nil pass0 rfl) T.cl_Line T.p_Line_last (ok_Line_last T) (hr.mono (by decide)) T.b_Line_last .nil pass0 rfl) (nomark _)) (pss_cons (ps_asg (pe_tup (StX.pa_star (pe_ix ix_list (pv 4) (pv 2) (fun _ _ => rfl)) (pa_cons (pv 6) pa_nil))) (pg_sub (pv 4) (pv 2) set_list))
        (pss_one (ps_for PassesOwn.never rfl (pi_list (pv 7)) (pg_name (i := 10) sc_passed.nd rfl (by first | exact .inl rfl | exact .inr rfl)) (pss_one (ps_asg (pe_call (ok_appended T) (hr.mono (by decide)) (by rfl) T.g_appended T.D_appended.kp T.b_appended .nil pass0 (pa_cons (pe_ix ix_list (pv 5) (pv 2) (fun _ _ => rfl)) (pa_cons (pv 10) (pa_cons (pe_ix ix_list (pe_meth0 (pe_prop (pv 0) T.cl_Plant T.p_Plant_tracker (ok_Plant_tracker T) (hr.mono (by decide)) T.b_Plant_tracker .nil pass0 rfl) T.cl_Tracker T.m_Tracker_rooms (ok_Tracker_rooms T) (hr.mono (by decide)) T.b_Tracker_rooms .nil pass0) (pv 2) (fun _ _ => rfl)) pa_nil)))) (pg_sub (pv 5) (pv 2) set_list)))))) pss_nil)
      (pss_cons (ps_set (i := 11) sc_passed.nd rfl (by first | exact .inl rfl | exact .inr rfl) (pe_slice sl_tupA (pe_op op_catA (pe_ix ix_tup (pv 1) pe_int (fun _ _ => rfl)) (pe_tup (pa_cons (pe_callTy call_int1 (by rfl) T.f_int (by decide +kernel) (pa_cons (pe_cmpR op_ne (pv 3) pe_str (nomark _)) pa_nil)) pa_nil))) (po_some pe_int) po_none))
      (pss_one (ps_ret (pe_tup (pa_cons (pe_tup (pa_cons (pe_callTy (call_tupleK (K := K)) (by rfl) T.f_tuple (by decide +kernel) (pa_cons (pv 4) pa_nil)) (pa_cons (pe_callTy (call_tupleK (K := K)) (by rfl) T.f_tuple (by decide +kernel) (pa_cons (pv 5) pa_nil)) (pa_cons (pe_ix ix_tup (pv 1) pe_int (fun _ _ => rfl)) (pa_cons (pv 11) (pa_cons (pe_ix ix_tup (pv 1) pe_int (fun _ _ => rfl)) pa_nil)))))) (pa_cons (pv 6) (pa_cons (pv 7) pa_nil)))))))))))), ?_⟩
    have lb' := hb2.length
    have lq' := hq2.length
    have f1 := fit.nb
    have f2 := fit.nq
    have n3 : p.n ≤ 3 := ok.nb.2
    refine ⟨_, rfl, _, _, _, _, rfl, rfl, hc, rfl, _, _, rfl, .inr hb1, fun lb m1 => ?_⟩
    have z1 := Same.up (o := .lst bs) m1
    refine ⟨_, rfl, _, _, _, _, rfl, rfl, Same.seqT z1 hc, rfl, _, _, rfl, .inr (Same.seqT z1 hq1), fun lq m2 => ?_⟩
    have z2 := Same.up (o := .lst qs) m2
    refine ⟨_, _, rfl, ?_⟩
    dsimp only
    have nbq : lb ≠ lq := fun e => by
      rw [e] at m2
      rw [upd_same] at m2
      cases m2
    generalize hx : (s'.belts.getD (i - 1) []).getD 0 0 = x
    refine seqE (M := fun σ' H' => ∃ lf, σ' = sPa a c i g lb lq lf x none none none none ∧ Tri K H H' lb lq lf s'.belts s'.queues []) (fun N kN => ?_) ?_
    · have hb : upd (upd H lb (.lst bs)) lq (.lst qs) lb = some (.lst bs) := z2 _ _ upd_same
      obtain ⟨x1, e1, h1⟩ := hb2.getI (j := i - 1) (by omega)
      refine ⟨_, rfl, _, rfl, _, _, rfl, rfl, _, _, _, _, rfl, rfl, .inl (.inl hb), atI_pred i1 e1, _, _, _, _, rfl, rfl, Same.seqT (z1.trans z2) h1, atI_nat (j := 0) (getI hb0), ok_le (by simp), fun lf m3 => ⟨_, _, rfl, ?_⟩⟩
      rw [hx]
      have z3 := Same.up (o := .lst []) m3
      refine kN _ _ ⟨lf, rfl, (z1.trans z2).trans z3, m1, Same.free z1 m2, Same.free (z1.trans z2) m3, nbq, ?_, ?_, ⟨bs, z3 _ _ hb, hb2.imp fun _ _ => AtI.mono ((z1.trans z2).trans z3)⟩, ⟨qs, z3 _ _ upd_same, hq2.imp fun _ _ => AtI.mono ((z1.trans z2).trans z3)⟩, upd_same⟩
      · intro e
        rw [← e, hb] at m3
        cases m3
      · intro e
        rw [← e, upd_same] at m3
        cases m3
    rintro σ1 H1 ⟨lf, rfl, t1⟩
    refine seqE (M := fun σ' H' => σ' = sPa a c i g lb lq lf x none none none none ∧ Tri K H H' lb lq lf (s'.belts.set (i - 1) ((s'.belts.getD (i - 1) []).drop 1)) s'.queues []) (fun N kN => ?_) ?_
    · obtain ⟨b1, x1, e1, e2, e3, e4⟩ := t1.atB (j := i - 1) (by omega)
      refine ⟨_, rfl, _, rfl, _, _, rfl, rfl, _, _, _, _, rfl, rfl, .inl (.inl e1), atI_pred i1 e3, _, rfl, ?_⟩
      dsimp only [tNoPart]
      refine slD (k := 1) e4 fun u H2 s2 h2 => ?_
      refine ⟨_, rfl, _, rfl, _, _, rfl, rfl, _, _, _, _, rfl, rfl, s2 _ _ e1, ixN_pred i1 (by omega), ?_⟩
      refine kN _ _ ⟨rfl, (t1.grow s2).setB (s2 _ _ e1) ⟨u, rfl, ?_⟩⟩
      rw [List.map_drop]
      exact h2
    rintro σ2 H2 ⟨rfl, t2⟩
    have qi5 : (s'.queues.getD (i - 1) []).length ≤ 5 := fit.q5 _ (getLmem (by omega))
    refine seqE (M := fun σ' H' => ∃ u v, σ' = sPa a c i g lb lq lf x u v none none ∧ Tri K H H' lb lq lf (s'.belts.set (i - 1) ((s'.belts.getD (i - 1) []).drop 1)) (s'.queues.set (i - 1) (looks p i x g.times (s'.queues.getD (i - 1) [])).1) (looks p i x g.times (s'.queues.getD (i - 1) [])).2) (fun N kN => ?_) ?_
    · have tl := times_le g
      refine ⟨_, rfl, _, _, _, rfl, rfl, T.times g, _, rfl, by omega, by omega, ?_⟩
      refine for_it walk_range (fun j σ' H' => ∃ u v, σ' = sPa a c i g lb lq lf x u v none none ∧ Tri K H H' lb lq lf (s'.belts.set (i - 1) ((s'.belts.getD (i - 1) []).drop 1)) (s'.queues.set (i - 1) (looks p i x j (s'.queues.getD (i - 1) [])).1) (looks p i x j (s'.queues.getD (i - 1) [])).2)
        ⟨_, _, rfl, ?_⟩ (fun _ _ _ _ _ => trivial) ?_ ?_
      · have e : s'.queues.set (i - 1) (looks p i x 0 (s'.queues.getD (i - 1) [])).1 = s'.queues := by
          show s'.queues.set (i - 1) (s'.queues.getD (i - 1) []) = s'.queues
          rw [List.getD_eq_getElem?_getD, List.getElem?_eq_getElem (by omega)]
          exact List.set_getElem_self _
        rw [e]
        exact t2
      · rintro j y σ' H9 H3 hj ⟨u, v, rfl, t3⟩ ⟨rfl, rfl⟩
        have hj2 : j < g.times := by simpa using hj
        generalize hq : (looks p i x j (s'.queues.getD (i - 1) [])) = lk at t3
        have hlk := looks_len p i x j (s'.queues.getD (i - 1) [])
        rw [hq] at hlk
        have hsn := looks_snoc p i x j (s'.queues.getD (i - 1) [])
        rw [hq] at hsn
        have hll := look_len p i lk.1 x
        refine seqE (M := fun σ' H' => ∃ u l, σ' = sPa a c i g lb lq lf x u (some (.ref l)) none none ∧ Tri K H H' lb lq lf (s'.belts.set (i - 1) ((s'.belts.getD (i - 1) []).drop 1)) (s'.queues.set (i - 1) (look p i lk.1 x).1) lk.2 ∧ H' l = some (.lst ((look p i lk.1 x).2.map V.int))) (fun N kN => ?_) ?_
        · obtain ⟨q1, x1, e1, e2, e3, e4⟩ := t3.atQ (j := i - 1) (by rw [List.length_set]; omega)
          rw [List.length_set] at e2
          rw [getLsame (by omega)] at e4
          have hp3 := hp.mono t3.s
          obtain ⟨a', dx, l, t, ea, h1, h2, h3⟩ := id hp3
          cases ea
          refine ⟨_, rfl, _, _, _, rfl, h1, _, p, rfl, ⟨_, dx, l, t, rfl, h1, h2, h3⟩, fun l' h2' => ?_⟩
          obtain ⟨dx2, lb2, ls2, tp2, lw2, sc2, g1, g2⟩ := id h2'
          refine ⟨_, _, _, rfl, g1, rfl, _, rfl, _, p, i, rfl, h2', i1, i2, _, rfl, ?_⟩
          have fin : ∀ c2 v l H', Same H3 H' → SqT K H' c2 [v, .ref l] → AtI K H' v (look p i lk.1 x).1 → H' l = some (.lst ((look p i lk.1 x).2.map V.int)) → H3 l = none →
              N (sPa a c i g lb lq lf x (some (.int (0 + (j : Int)))) (some (.ref l)) none none) (upd H' lq (.lst (q1.set (i - 1) v))) := fun c2 v l H' s4 _ hv hl hn => by
            refine kN _ _ ⟨_, l, rfl, ?_, ?_⟩
            · have := (t3.grow s4).setQ (j := i - 1) (s4 _ _ e1) hv
              rw [List.set_set] at this
              exact this
            · have : l ≠ lq := fun e => by
                rw [e, e1] at hn
                cases hn
              rw [upd_ne this]
              exact hl
          by_cases cs : p.scans.contains (i : Int) = true
          · refine yes cs ?_
            have el : look p i lk.1 x = scanner p lk.1 x := by
              unfold look
              rw [if_pos cs]
            refine ⟨_, rfl, _, rfl, _, rfl, _, _, rfl, rfl, _, _, _, _, rfl, rfl, .inl (.inl e1), atI_pred i1 e3, _, rfl, a, _, p, lk.1, x, rfl, hp3, ok, e4, by omega, fun c2 v l H' s4 h4 hv hl hn => ?_⟩
            refine ⟨_, _, rfl, h4, rfl, _, _, rfl, _, rfl, _, rfl, _, _, rfl, rfl, _, _, _, _, rfl, rfl, s4 _ _ e1, ixN_pred i1 (by omega), _, _, rfl, rfl, ?_⟩
            rw [← el] at hv hl
            exact fin c2 v l H' s4 h4 hv hl hn
          · have cs' : p.scans.contains (i : Int) = false := by simpa using cs
            refine noo cs' ?_
            have el : look p i lk.1 x = eye p lk.1 := by
              unfold look
              rw [if_neg cs]
            refine ⟨_, rfl, _, rfl, _, rfl, _, _, rfl, rfl, _, _, _, _, rfl, rfl, .inl (.inl e1), atI_pred i1 e3, a, _, p, lk.1, rfl, hp3, e4, by omega, fun c2 v l H' s4 h4 hv hl hn => ?_⟩
            refine ⟨_, _, rfl, h4, rfl, _, _, rfl, _, rfl, _, rfl, _, _, rfl, rfl, _, _, _, _, rfl, rfl, s4 _ _ e1, ixN_pred i1 (by omega), _, _, rfl, rfl, ?_⟩
            rw [← el] at hv hl
            exact fin c2 v l H' s4 h4 hv hl hn
        · rintro σ4 H4 ⟨u, l, rfl, t4, hl⟩
          refine ⟨_, rfl, tyLst t4.f, _, rfl, lf, l, _, _, rfl, rfl, t4.f, hl, by rw [List.length_map, List.length_map]; exact ok_le (by omega), ?_⟩
          rw [hsn]
          refine ⟨_, _, rfl, ?_⟩
          rw [← List.map_append]
          exact t4.setF _
      · rintro σ' H3 ⟨u, v, rfl, t3⟩
        rw [Int.toNat_natCast] at t3
        exact kN _ _ ⟨u, v, rfl, t3⟩
    rintro σ3 H3 ⟨u, v, rfl, t3⟩
    generalize hlk : looks p i x g.times (s'.queues.getD (i - 1) []) = lk at t3
    have hll := looks_len p i x g.times (s'.queues.getD (i - 1) [])
    rw [hlk] at hll
    have tl := times_le g
    generalize hB1 : s'.belts.set (i - 1) ((s'.belts.getD (i - 1) []).drop 1) = B1 at t3
    generalize hQ1 : s'.queues.set (i - 1) lk.1 = Q1 at t3
    have lB1 : B1.length = p.n := by rw [← hB1, List.length_set, f1]
    have lQ1 : Q1.length = p.n := by rw [← hQ1, List.length_set, f2]
    refine seqE (M := fun σ' H' => ∃ u v r, σ' = sPa a c i g lb lq lf x u v r none ∧ Tri K H H' lb lq lf (if i < p.n then B1.set i (B1.getD i [] ++ [x]) else B1) (if i < p.n then Q1.set i (appAll (p.rooms.getD i 0) (Q1.getD i []) lk.2) else Q1) lk.2) (fun N kN => ?_) ?_
    · refine ⟨_, rfl, lineP rfl (hp.mono t3.s) fun vl hv => ⟨_, _, rfl, hv, _, rfl, ?_⟩⟩
      by_cases c1 : i < p.n
      · rw [if_pos c1, if_pos c1] at kN
        refine yes (decide_eq_true (by omega)) ?_
        have hbi : (B1.getD i []).length ≤ 5 := by
          rw [← hB1, getLne (by omega)]
          exact fit.b5 _ (getLmem (by omega))
        have hqi : (Q1.getD i []).length ≤ 5 := by
          rw [← hQ1, getLne (by omega)]
          exact fit.q5 _ (getLmem (by omega))
        refine seqE (M := fun σ' H' => σ' = sPa a c i g lb lq lf x u v none none ∧ Tri K H H' lb lq lf (B1.set i (B1.getD i [] ++ [x])) Q1 lk.2) (fun N kN => ?_) ?_
        · obtain ⟨b1, x1, e1, e2, e3, e4⟩ := t3.atB (j := i) (by omega)
          refine ⟨_, rfl, _, rfl, _, _, _, _, rfl, rfl, .inl (.inl e1), atI_nat e3, _, _, rfl, .inl e4, _, rfl, ok_le (by rw [List.length_append, List.length_map, List.length_singleton]; omega), fun t m => ?_⟩
          have s4 := Same.up (o := .tup ((B1.getD i []).map V.int ++ [V.int x])) m
          refine ⟨_, rfl, _, rfl, _, _, _, _, rfl, rfl, s4 _ _ e1, ixN_nat (by omega), kN _ _ ⟨rfl, (t3.grow s4).setB (s4 _ _ e1) ⟨t, rfl, ?_⟩⟩⟩
          rw [List.map_append]
          exact newT
        rintro σ4 H4 ⟨rfl, t4⟩
        refine ⟨_, rfl, _, rfl, ⟨_, .inl (.inl t4.f)⟩, ?_⟩
        refine for_it (walk_list (xs := lk.2.map V.int)) (fun j σ' H' => ∃ r, σ' = sPa a c i g lb lq lf x u v r none ∧ Tri K H H' lb lq lf (B1.set i (B1.getD i [] ++ [x])) (Q1.set i (appAll (p.rooms.getD i 0) (Q1.getD i []) (lk.2.take j))) lk.2)
          ⟨_, rfl, ?_⟩ (fun j σ' H' _ h => ?_) ?_ ?_
        · have e : Q1.set i (appAll (p.rooms.getD i 0) (Q1.getD i []) (lk.2.take 0)) = Q1 := by
            show Q1.set i (Q1.getD i []) = Q1
            rw [List.getD_eq_getElem?_getD, List.getElem?_eq_getElem (by omega)]
            exact List.set_getElem_self _
          rw [e]
          exact t4
        · obtain ⟨r, _, t5⟩ := h
          exact .inl (.inl t5.f)
        · rintro j y σ' H5 H6 hj ⟨r, rfl, t5⟩ ⟨rfl, hy⟩
          rw [List.length_map] at hj
          rw [getI hj] at hy
          cases hy
          obtain ⟨q1, x1, e1, e2, e3, e4⟩ := t5.atQ (j := i) (by rw [List.length_set]; omega)
          rw [List.length_set] at e2
          rw [getLsame (by omega)] at e4
          have hal := appAll_len (p.rooms.getD i 0) (lk.2.take j) (Q1.getD i [])
          have htk : (lk.2.take j).length ≤ 2 := by rw [List.length_take]; omega
          refine ⟨_, rfl, _, rfl, _, _, _, _, rfl, rfl, .inl (.inl e1), atI_nat e3, _, rfl, trackM (fun _ _ => rfl) rfl (hp.mono t5.s) fun lr H7 s7 hlr => ?_⟩
          refine ⟨_, rfl, _, _, _, _, rfl, rfl, .inl (.inl hlr), atI_nat (getI (xs := p.rooms) (j := i) (by rw [ok.nr]; exact c1)), _, _, _, _, rfl, Same.seqT s7 e4, by omega, fun vl H8 s8 hv => ?_⟩
          refine ⟨_, rfl, _, rfl, _, _, _, _, rfl, rfl, s8 _ _ (s7 _ _ e1), ixN_nat (by omega), ⟨_, rfl, ?_⟩⟩
          have := ((t5.grow s7).grow s8).setQ (j := i) (s8 _ _ (s7 _ _ e1)) hv
          rw [List.set_set] at this
          rw [take_snoc hj, appAll_snoc]
          exact this
        · rintro σ' H5 ⟨r, rfl, t5⟩
          rw [List.length_map, List.take_length] at t5
          exact kN _ _ ⟨_, _, r, rfl, t5⟩
      · rw [if_neg c1, if_neg c1] at kN
        refine noo (decide_eq_false (by omega)) ?_
        exact kN _ _ ⟨_, _, _, rfl, t3⟩
    rintro σ4 H4 ⟨u4, v4, r4, rfl, t4⟩
    generalize hB2 : (if i < p.n then B1.set i (B1.getD i [] ++ [x]) else B1) = B2 at t4
    generalize hQ2 : (if i < p.n then Q1.set i (appAll (p.rooms.getD i 0) (Q1.getD i []) lk.2) else Q1) = Q2 at t4
    have ep : passed p s' i g = (⟨B2, Q2, s'.swap, lateOf s'.slips g, s'.comings⟩, x, lk.2) := by
      unfold passed
      dsimp only
      rw [hx, hlk, hB1, hQ1, hB2, hQ2]
    rw [ep] at k
    refine seqE (M := fun σ' H' => ∃ lt, Same H4 H' ∧ σ' = sPa a c i g lb lq lf x u4 v4 r4 (some (.ref lt)) ∧ SqT K H' lt ((lateOf s'.slips g).map V.int)) (fun N kN => ?_) ?_
    · refine lateT (σ := sPa a c i g lb lq lf x u4 v4 r4 none) (i := 1) (j := 3) rfl rfl (Same.seqT t4.s hc) rfl (Same.seqT t4.s hs) fit.s9 fun lt H5 s5 h5 => kN _ _ ⟨lt, s5, rfl, h5⟩
    rintro σ5 H5 ⟨lt, s5, rfl, hlt⟩
    have t5 := t4.grow s5
    obtain ⟨bs2, e1, e2⟩ := t5.b
    obtain ⟨qs2, e3, e4⟩ := t5.q
    refine ⟨_, rfl, _, _, rfl, .inl ⟨.inl (.inl e1), fun w1 m4 => ?_⟩⟩
    have y1 := Same.up (o := .tup bs2) m4
    refine ⟨_, rfl, _, _, rfl, .inl ⟨.inl (.inl (y1 _ _ e3)), fun w2 m5 => ?_⟩⟩
    have y2 := Same.up (o := .tup qs2) m5
    have hc5 := Same.seqT ((t5.s.trans y1).trans y2) hc
    refine ⟨_, rfl, _, _, _, _, rfl, rfl, hc5, rfl, _, rfl, _, rfl, _, _, _, _, rfl, rfl, hc5, rfl, ok_le (by simp), fun w3 m6 => ?_⟩
    have y3 := Same.up (o := .tup [V.ref w1, V.ref w2, V.int s'.swap, V.ref lt, V.int s'.comings]) m6
    refine ⟨_, rfl, _, rfl, ok_le (by simp), fun w4 m7 => ?_⟩
    have y4 := Same.up (o := .tup [V.ref w3, V.int x, V.ref lf]) m7
    have y14 := y1.trans (y2.trans (y3.trans y4))
    refine k _ (.ref w3) lf _ (t5.s.trans y14) newT ?_ (y14 _ _ t5.f) t5.ff
    exact ⟨w3, _, _, _, rfl, Same.seqT y4 newT, ⟨w1, bs2, rfl, Same.seqT (y2.trans (y3.trans y4)) newT, e2.imp fun _ _ => AtI.mono y14⟩, ⟨w2, qs2, rfl, Same.seqT (y3.trans y4) newT, e4.imp fun _ _ => AtI.mono y14⟩, lt, rfl, Same.seqT y14 hlt⟩
end
end Ow
set_option Elab.async false
set_option linter.all false
set_option maxRecDepth 100000
set_option maxHeartbeats 4000000
namespace Ow
open PySem PySem.Spec PyProof.Rows L2
section
variable {P : Program} {w : World} {K : PySem.W.Frag} {mg : Str → Option Value} {base : Heap}
theorem dpInts {H : Hp} : ∀ xs : List Int, DpAll K H (xs.map V.int) (xs.map PyData.int)
  | [] => .nil
  | x :: r => .cons (.int x) (dpInts r)
theorem eqvNil (xs : List PyData) : PyData.eqv (.list xs) (.list []) = xs.isEmpty := by cases xs <;> rfl
def SentAt (K : PySem.W.Frag) (H : Hp) (v : V) : Option (Int × Int) → Prop
  | none => v = .non
  | some q => ∃ t, v = .ref t ∧ SqT K H t [.int q.1, .int q.2]
theorem SentAt.mono {H H' : Hp} {v : V} {o : Option (Int × Int)} (e : Same H H') (h : SentAt K H v o) : SentAt K H' v o := by
  cases o with
  | none => exact h
  | some q => exact let ⟨t, h1, h2⟩ := h; ⟨t, h1, Same.seqT e h2⟩
/-- the deed is asked at a belt that holds something -/
def Holds (s : St) : Deed → Prop
  | .pass i _ => 0 < (s.belts.getD (i - 1) []).length
  | _ => True
def sp_moved (K : PySem.W.Frag) : Sp := fun vs H Q _ => ∃ (a : Addr) (p : Plan) (sv : V) (s : St) (b : Addr) (d : Deed) (n : Int), vs = [.ref a, sv, .ref b, .int n] ∧ PlantAt K H (.ref a) p ∧ p.Ok ∧ StAt K H sv s ∧ Fit p s ∧ SqT K H b (dV d) ∧ inRange p d = true ∧ Holds s d ∧
  ∀ c v o H', Same H H' → SqT K H' c [v, o] → StAt K H' v (moved p s d n).1 → SentAt K H' o (moved p s d n).2 → Q (.ref c) H'
theorem sc_moved : FnScope ["plant", "state", "deed", "label", "queues", "later", "parcel", "found"] ["plant", "state", "deed", "label"] (defScope s_moved) := ⟨rfl, rfl, rfl, by decide +kernel, rfl, by decide +kernel, by decide +kernel⟩
theorem Txt.b_moved (T : Txt w K mg) : Binds K (fdA K (He.ga K "moved")) ["plant", "state", "deed", "label"] [] := T.F_moved.binds fun _ _ _ _ _ _ us hl => match us, hl with | [_, _, _, _], _ => rfl
theorem ok_moved (T : Txt w K mg) : FnOk P w K mg base CX0 5 (He.ga K "moved") (fdA K (He.ga K "moved")) ["plant", "state", "deed", "label"] (sp_moved K) := by
  refine T.F_moved.ok sc_moved (fun vs H Q E h => ?_) (fun cdv A outer s H vs Q E hr h => ?_)
  · obtain ⟨a, p, sv, s', b, d, n, rfl, _⟩ := h
    rfl
  · obtain ⟨a, p, sv, s', b, d, n, rfl, hp, ok, hst, fit, hd, hin, hh, k⟩ := h
    refine ⟨_, (pss_cons (ps_if (pt_cmpR op_eq (pe_ix ix_tup (pv 2) pe_int (fun _ _ => rfl)) pe_str (nomark _)) (pss_cons (ps_set (i := 4) sc_moved.nd rfl (by first | exact .inl rfl | exact .inr rfl) (pe_ifExp (pt_cmpR op_eq (pe_prop (pe_prop (pv 0) T.cl_Plant T.p_Plant_tracker (ok_Plant_tracker T) (hr.mono (by decide)) T.b_Plant_tracker .nil pass0 rfl) T.cl_Tracker T.p_Tracker_pause (ok_Tracker_pause T) (hr.mono (by decide)) T.b_Tracker_pause .nil pass0 rfl) pe_str (nomark _)) (pe_ix ix_tup (pv 1) pe_int (fun _ _ => rfl)) (pe_op op_repA (pe_tup (pa_cons (pe_tup pa_nil) pa_nil)) (pe_callB (cr_lenK (K := K)) (by rfl) T.f_len (by decide +kernel) (pa_cons (pe_ix ix_tup (pv 1) pe_int (fun _ _ => rfl)) pa_nil)))))
        (pss_one (ps_ret (pe_tup (pa_cons (pe_tup (pa_cons (pe_ix ix_tup (pv 1) pe_int (fun _ _ => rfl)) (pa_cons (pv 4) (pa_cons (pe_ix ix_tup (pv 1) pe_int (fun _ _ => rfl)) (pa_cons (pe_ix ix_tup (pv 1) pe_int (fun _ _ => rfl)) (pa_cons pe_int pa_nil)))))) (pa_cons pe_non pa_nil)))))) pss_nil)
      (pss_cons (ps_if (pt_cmpR op_eq (pe_ix ix_tup (pv 2) pe_int (fun _ _ => rfl)) pe_str (nomark _)) (pss_one (ps_ret (pe_tup (pa_cons (pe_call (ok_come T) (hr.mono (by decide)) (by rfl) T.g_come T.D_come.kp T.b_come .nil pass0 (pa_cons (pv 0) (pa_cons (pv 1) (pa_cons (pe_ix ix_tup (pv 2) pe_int (fun _ _ => rfl)) (pa_cons (pv 3) pa_nil))))) (pa_cons pe_non pa_nil))))) pss_nil)
      (pss_cons (ps_asg (pe_call (ok_passed T) (hr.mono (by decide)) (by rfl) T.g_passed T.D_passed.kp T.b_passed .nil pass0 (pa_cons (pv 0) (pa_cons (pv 1) (pa_cons (pe_ix ix_tup (pv 2) pe_int (fun _ _ => rfl)) (pa_cons (pe_ix ix_tup (pv 2) pe_int (fun _ _ => rfl)) pa_nil))))) (pg_tup rfl (pgs_cons (pg_name (i := 5) sc_moved.nd rfl (by first | exact .inl rfl | exact .inr rfl)) (pgs_cons (pg_name (i := 6) sc_moved.nd rfl (by first | exact .inl rfl | exact .inr rfl)) (pgs_cons (pg_name (i := 7) sc_moved.nd rfl (by first | exact .inl rfl | exact .inr rfl)) pgs_nil)))))
      (pss_cons (ps_if (pt_cmpR op_lt (pe_ix ix_tup (pv 2) pe_int (fun _ _ => rfl)) (pe_prop (pe_prop (pv 0) T.cl_Plant T.p_Plant_line (ok_Plant_line T) (hr.mono (by decide)) T.b_Plant_line .nil pass0 rfl) T.cl_Line T.p_Line_last (ok_Line_last T) (hr.mono (by decide)) T.b_Line_last .nil pass0 rfl) (nomark _)) (pss_one (ps_ret (pe_tup (pa_cons (pv 5) (pa_cons pe_non pa_nil))))) pss_nil)
      (pss_one (ps_ret (pe_tup (pa_cons (pv 5) (pa_cons (pe_tup (pa_cons (pv 6) (pa_cons (pe_ifExp (pt_cmpR (op_neD hr.units) (pv 7) (pe_lst pa_nil) (nomark _)) (pe_ix ix_list (pv 7) pe_int (fun _ _ => rfl)) (C8.pe_gc rfl T.c_BLANK)) pa_nil))) pa_nil))))))))), ?_⟩
    cases d with
    | pause =>
      obtain ⟨c, vb, vq, vs, rfl, hc, hb, hq, hs⟩ := id hst
      refine ⟨_, rfl, _, _, _, _, rfl, rfl, hd, rfl, rfl, _, rfl, yes (by decide +kernel) ?_⟩
      refine seqE (M := fun σ' H' => ∃ vq2, σ' = [some (.ref a), some (.ref c), some (.ref b), some (.int n), some vq2, none, none, none] ∧ Same H H' ∧ AtII K H' vq2 (if p.clear then List.replicate s'.queues.length [] else s'.queues)) (fun N kN => ?_) ?_
      · refine trackP rfl hp fun v hv => ⟨by rw [hv] <;> rfl, _, rfl, ?_⟩
        subst hv
        cases hf : p.clear with
        | true =>
          rw [hf] at kN
          refine noo (by decide +kernel) ?_
          obtain ⟨aq, qs, rfl, hq1, hq2⟩ := hq
          have n3 := ok.nb.2
          have n3' : p.n ≤ 3 := n3
          have f2 := fit.nq
          have lq := hq2.length
          refine ⟨ok_le (by simp), fun t1 m1 => ⟨ok_le (by simp), fun t2 m2 => ?_⟩⟩
          have z1 := Same.up (o := .tup []) m1
          have z2 := Same.up (o := .tup [V.ref t1]) m2
          refine ⟨_, rfl, _, _, _, _, rfl, rfl, Same.seqT (z1.trans z2) hc, rfl, _, _, rfl, .inr (Same.seqT (z1.trans z2) hq1), _, _, _, rfl, rfl, newT, by simp, by omega, by omega, by simp, fun t3 H3 z3 h3 => ?_⟩
          refine kN _ _ ⟨.ref t3, rfl, (z1.trans z2).trans z3, t3, _, rfl, h3, ?_⟩
          rw [List.flatten_replicate_singleton, Int.toNat_natCast, lq]
          exact All2.replicate ⟨t1, rfl, Same.seqT (z2.trans z3) newT⟩ _
        | false =>
          rw [hf] at kN
          refine yes (by decide +kernel) ?_
          exact ⟨_, rfl, _, _, _, _, rfl, rfl, hc, rfl, kN _ _ ⟨_, rfl, Same.refl _, hq⟩⟩
      rintro σ1 H1 ⟨vq2, rfl, z1, hq2⟩
      have hc1 := Same.seqT z1 hc
      refine ⟨_, rfl, _, _, _, _, rfl, rfl, hc1, rfl, _, rfl, _, rfl, _, _, _, _, rfl, rfl, hc1, rfl, _, rfl, _, _, _, _, rfl, rfl, hc1, rfl, ok_le (by simp), fun t1 m1 => ?_⟩
      have z2 := Same.up (o := .tup [vb, vq2, V.int s'.swap, vs, V.int 0]) m1
      refine ⟨ok_le (by simp), fun t2 m2 => ?_⟩
      have z3 := Same.up (o := .tup [V.ref t1, V.non]) m2
      have z := z2.trans z3
      exact k _ _ _ _ (z1.trans z) newT ⟨t1, _, _, _, rfl, Same.seqT z3 newT, hb.mono (z1.trans z), hq2.mono z, hs.mono (z1.trans z)⟩ rfl
    | come g =>
      refine ⟨_, rfl, _, _, _, _, rfl, rfl, hd, rfl, rfl, _, rfl, noo (by decide +kernel) ?_⟩
      refine ⟨_, rfl, _, _, _, _, rfl, rfl, hd, rfl, rfl, _, rfl, yes (by decide +kernel) ?_⟩
      refine ⟨_, rfl, _, rfl, _, rfl, _, _, _, _, rfl, rfl, hd, rfl, _, rfl, a, p, _, s', g, n, rfl, hp, ok, hst, fit.nb, fit.nq, fit.b5, fit.q5, fit.s9, fun v H1 z1 hv => ?_⟩
      refine ⟨ok_le (by simp), fun t1 m1 => ?_⟩
      have z2 := Same.up (o := .tup [v, V.non]) m1
      exact k _ _ _ _ (z1.trans z2) newT (hv.mono z2) rfl
    | pass i g =>
      refine ⟨_, rfl, _, _, _, _, rfl, rfl, hd, rfl, rfl, _, rfl, noo (by decide +kernel) ?_⟩
      refine ⟨_, rfl, _, _, _, _, rfl, rfl, hd, rfl, rfl, _, rfl, noo (by decide +kernel) ?_⟩
      have hi : 1 ≤ i ∧ i ≤ p.n := by simpa [inRange] using hin
      refine ⟨_, rfl, _, rfl, _, rfl, _, _, _, _, rfl, rfl, hd, rfl, _, rfl, _, _, _, _, rfl, rfl, hd, rfl, a, p, _, s', i, g, rfl, hp, ok, hst, fit, hi.1, hi.2, hh, fun c v l H1 z1 hc hv hl hn => ?_⟩
      refine ⟨_, _, rfl, hc, rfl, _, _, rfl, _, _, rfl, _, _, rfl, rfl, ?_⟩
      refine ⟨_, rfl, _, _, _, _, rfl, rfl, Same.seqT z1 hd, rfl, lineP rfl (hp.mono z1) fun vl hvl => ⟨_, _, rfl, hvl, _, rfl, ?_⟩⟩
      generalize hr : passed p s' i g = r at hc hv hl
      have em : moved p s' (.pass i g) n = (r.1, if i < p.n then none else some (r.2.1, r.2.2.getD 0 (-2))) := by
        show ((passed p s' i g).1, if i < p.n then none else some ((passed p s' i g).2.1, (passed p s' i g).2.2.getD 0 (-2))) = _
        rw [hr]
      rw [em] at k
      by_cases c1 : i < p.n
      · refine yes (decide_eq_true (by omega)) ?_
        refine ⟨_, rfl, ok_le (by simp), fun t1 m1 => ?_⟩
        have z2 := Same.up (o := .tup [v, V.non]) m1
        rw [if_pos c1] at k
        exact k _ _ _ _ (z1.trans z2) newT (hv.mono z2) rfl
      · refine noo (decide_eq_false (by omega)) ?_
        rw [if_neg c1] at k
        refine ⟨_, rfl, _, rfl, _, rfl, ok_le (by simp), fun t0 m0 => ?_⟩
        have z0 := Same.up (o := .lst []) m0
        refine ⟨.list (r.2.2.map PyData.int), .list [], .lst (.inl (.inl (z0 _ _ hl))) (dpInts _), .lst (.inl (.inl upd_same)) .nil, PySem.W.shaped_ints _, PySem.W.shaped_ints [], _, rfl, ?_⟩
        rw [eqvNil]
        cases hF : r.2.2 with
        | nil =>
          rw [hF] at k hl
          refine noo rfl ?_
          refine ⟨ok_le (by simp), fun t1 m1 => ?_⟩
          have z2 := Same.up (o := .tup [V.int r.2.1, V.int (-2)]) m1
          refine ⟨ok_le (by simp), fun t2 m2 => ?_⟩
          have z3 := Same.up (o := .tup [v, V.ref t1]) m2
          have z := z0.trans (z2.trans z3)
          exact k _ _ _ _ (z1.trans z) newT (hv.mono z) ⟨t1, rfl, Same.seqT z3 newT⟩
        | cons y rr =>
          rw [hF] at k hl
          refine yes rfl ?_
          refine ⟨_, rfl, _, _, _, _, rfl, rfl, .inl (.inl (z0 _ _ hl)), atI_nat (j := 0) (v := V.int y) rfl, ok_le (by simp), fun t1 m1 => ?_⟩
          have z2 := Same.up (o := .tup [V.int r.2.1, V.int y]) m1
          refine ⟨ok_le (by simp), fun t2 m2 => ?_⟩
          have z3 := Same.up (o := .tup [v, V.ref t1]) m2
          have z := z0.trans (z2.trans z3)
          exact k _ _ _ _ (z1.trans z) newT (hv.mono z) ⟨t1, rfl, Same.seqT z3 newT⟩
end
end Ow
set_option Elab.async false
set_option linter.all false
set_option maxRecDepth 100000
set_option maxHeartbeats 4000000
namespace Ow
open PySem PySem.Spec PyProof.Rows L2
section
variable {P : Program} {w : World} {K : PySem.W.Frag} {mg : Str → Option Value} {base : Heap}
def codeKvs : Nat → List Int → List (Key × V)
  | _, [] => []
  | n, x :: r => (.inl x, .int (n : Int)) :: codeKvs (n + 1) r
theorem codeKvs_snoc (x : Int) : ∀ (n : Nat) (l : List Int), codeKvs n (l ++ [x]) = codeKvs n l ++ [(.inl x, .int ((n + l.length : Nat) : Int))]
  | n, [] => rfl
  | n, y :: l => by
    show (Sum.inl y, V.int (n : Int)) :: codeKvs (n + 1) (l ++ [x]) = ((Sum.inl y, V.int (n : Int)) :: codeKvs (n + 1) l) ++ _
    rw [codeKvs_snoc x (n + 1) l, List.length_cons, show n + 1 + l.length = n + (l.length + 1) by omega]
    rfl
theorem codeKvs_length : ∀ (n : Nat) (l : List Int), (codeKvs n l).length = l.length
  | _, [] => rfl
  | n, y :: l => congrArg Nat.succ (codeKvs_length (n + 1) l)
theorem codeKvs_get (x : Int) : ∀ (n : Nat) (l : List Int), valV (codeKvs n l) (.inl x) = if x ∈ l then some (.int ((n + l.idxOf x : Nat) : Int)) else none
  | n, [] => rfl
  | n, y :: l => by
    show valV ((Sum.inl y, V.int (n : Int)) :: codeKvs (n + 1) l) (Sum.inl x) = _
    by_cases e : y = x
    · subst e
      rw [valV_pos rfl, if_pos List.mem_cons_self, List.idxOf_cons_self, Nat.add_zero]
    · rw [valV_neg (fun z => e (Sum.inl.inj z)), codeKvs_get x (n + 1) l]
      by_cases m : x ∈ l
      · rw [if_pos m, if_pos (List.mem_cons_of_mem _ m), List.idxOf_cons, beq_eq_false_iff_ne.mpr e, cond_false, show n + 1 + l.idxOf x = n + (l.idxOf x + 1) by omega]
      · rw [if_neg m, if_neg (by rw [List.mem_cons]; intro z; rcases z with z | z; exact e z.symm; exact m z)]
theorem codeKvs_put {x : Int} {l : List Int} (h : x ∉ l) : putK (codeKvs 0 l) (.inl x) (.int (((codeKvs 0 l).length : Nat) : Int)) = codeKvs 0 (l ++ [x]) := by
  have e : ((codeKvs 0 l).any fun kv => decide (kv.1 = Sum.inl x)) = false := by
    have := codeKvs_get x 0 l
    rw [if_neg h] at this
    unfold valV at this
    rw [Option.map_eq_none_iff, List.find?_eq_none] at this
    exact List.any_eq_false.mpr fun kv hk => this kv hk
  unfold putK
  rw [if_neg (by rw [e]; exact Bool.false_ne_true), codeKvs_snoc, codeKvs_length, Nat.zero_add]
theorem order_snoc {b : List (List Int)} {i : Nat} (h : i < b.length) : order (b.take (i + 1)) = order (b.take i) ++ (b.getD i []).reverse := by
  unfold order
  rw [List.take_succ, List.getElem?_eq_getElem h, List.map_append, List.flatten_append, List.getD_eq_getElem?_getD, List.getElem?_eq_getElem h]
  simp
theorem order_pre {b : List (List Int)} {i : Nat} : ∃ r, order b = order (b.take i) ++ r := by
  refine ⟨order (b.drop i), ?_⟩
  unfold order
  rw [← List.flatten_append, ← List.map_append, List.take_append_drop]
theorem take_snoc' {xs : List Int} {i : Nat} (h : i < xs.length) : xs.take (i + 1) = xs.take i ++ [xs.getD i 0] := take_snoc h
theorem take_snocL {xs : List (List Int)} {i : Nat} (h : i < xs.length) : xs.take (i + 1) = xs.take i ++ [xs.getD i []] := by
  rw [List.take_succ, List.getElem?_eq_getElem h, List.getD_eq_getElem?_getD, List.getElem?_eq_getElem h]
  rfl
theorem split3 {l : List Int} {j : Nat} (h : j < l.length) : l = l.take j ++ (l.getD j 0 :: l.drop (j + 1)) := by
  rw [List.getD_eq_getElem?_getD, List.getElem?_eq_getElem h]
  simp
theorem code_val (b : List (List Int)) (x : Int) : (valV (codeKvs 0 (order b)) (.inl x)).getD (.int (if -1 < x then -1 else x)) = .int (code b x) := by
  rw [codeKvs_get]
  unfold code
  by_cases m : x ∈ order b
  · rw [if_pos m, if_pos m, Nat.zero_add]
    rfl
  · rw [if_neg m, if_neg m]
    show V.int _ = V.int _
    congr 1
    split <;> omega
def sp_codes (K : PySem.W.Frag) : Sp := fun vs H Q _ => ∃ (v : V) (b : List (List Int)), vs = [v] ∧ AtII K H v b ∧ (order b).Nodup ∧ (order b).length ≤ 900 ∧ ∀ a H', Same H H' → H' a = some (.dK (codeKvs 0 (order b))) → H a = none → Q (.ref a) H'
theorem sc_codes_of : FnScope ["belts", "found", "belt", "label"] ["belts"] (defScope s_codes_of) := ⟨rfl, rfl, rfl, by decide +kernel, rfl, by decide +kernel, by decide +kernel⟩
theorem Txt.b_codes_of (T : Txt w K mg) : Binds K (fdA K (He.ga K "codes_of")) ["belts"] [] := T.F_codes_of.binds fun _ _ _ _ _ _ us hl => match us, hl with | [_], _ => rfl
theorem ok_codes_of (T : Txt w K mg) : FnOk P w K mg base CX0 1 (He.ga K "codes_of") (fdA K (He.ga K "codes_of")) ["belts"] (sp_codes K) := by
  refine T.F_codes_of.ok sc_codes_of (fun vs H Q E h => ?_) (fun cdv A outer s H vs Q E hr h => ?_)
  · obtain ⟨v, b, rfl, _⟩ := h
    rfl
  · obtain ⟨v, b, rfl, ⟨ab, bs, rfl, hb1, hb2⟩, nd, hl, k⟩ := h
    refine ⟨_, (pss_cons (ps_set (i := 1) sc_codes_of.nd rfl (by first | exact .inl rfl | exact .inr rfl) pe_dnewK)
      (pss_cons (ps_for PassesOwn.never rfl (pi_tup (pv 0)) (pg_name (i := 2) sc_codes_of.nd rfl (by first | exact .inl rfl | exact .inr rfl)) (pss_one (ps_for PassesOwn.never rfl (pi_tup (pe_revT (pv 2))) (pg_name (i := 3) sc_codes_of.nd rfl (by first | exact .inl rfl | exact .inr rfl)) (pss_one (ps_dput (hu_of hr) (pv 1) (pv 3) (pe_callB call_lenD (by rfl) T.f_len (by decide +kernel) (pa_cons (pv 1) pa_nil)) rfl)))))
      (pss_one (ps_ret (pv 1))))), ?_⟩
    have lb := hb2.length
    intro d md
    dsimp only [gName]
    have z1 := Same.up (o := .dK []) md
    refine seqE (M := fun σ' H' => ∃ u w, σ' = [some (.ref ab), some (.ref d), u, w] ∧ Same H H' ∧ H' d = some (.dK (codeKvs 0 (order b)))) (fun N kN => ?_) ?_
    · refine ⟨_, rfl, _, rfl, ⟨_, Same.seqT z1 hb1⟩, ?_⟩
      refine for_it (walk_tup (xs := bs)) (fun i σ' H' => ∃ u w, σ' = [some (.ref ab), some (.ref d), u, w] ∧ Same H H' ∧ H' d = some (.dK (codeKvs 0 (order (b.take i)))))
        ⟨_, _, rfl, z1, upd_same⟩ (fun i σ' H' _ h => ?_) ?_ ?_
      · obtain ⟨u, w, _, e, _⟩ := h
        exact Same.seqT e hb1
      · rintro i x σ' H2 H3 hi ⟨u, w, rfl, e, hd⟩ ⟨rfl, hx⟩
        obtain ⟨x1, e1, h1⟩ := hb2.getI (j := i) (by omega)
        rw [e1] at hx
        cases hx
        refine ⟨_, rfl, _, _, rfl, Same.seqT e h1, fun t H4 s4 h4 => ?_⟩
        refine ⟨_, rfl, ⟨_, h4⟩, ?_⟩
        have hib : i < b.length := by omega
        have hsn := order_snoc hib
        obtain ⟨r, hr⟩ := order_pre (b := b) (i := i + 1)
        rw [hsn] at hr
        have ndi : (order (b.take i) ++ (b.getD i []).reverse).Nodup := by
          rw [hr] at nd
          exact (List.nodup_append.mp nd).1
        refine for_it (walk_tup (xs := ((b.getD i []).map V.int).reverse)) (fun j σ' H' => ∃ w, σ' = [some (.ref ab), some (.ref d), some (.ref x1), w] ∧ Same H H' ∧ SqT K H' t ((b.getD i []).map V.int).reverse ∧ H' d = some (.dK (codeKvs 0 (order (b.take i) ++ (b.getD i []).reverse.take j))))
          ⟨_, rfl, e.trans s4, h4, ?_⟩ (fun j σ' H' _ h => ?_) ?_ ?_
        · rw [List.take_zero, List.append_nil]
          exact s4 _ _ hd
        · obtain ⟨w, _, _, h, _⟩ := h
          exact h
        · rintro j x σ' H5 H6 hj ⟨w, rfl, e5, ht5, hd5⟩ ⟨rfl, hx⟩
          rw [← List.map_reverse] at hx
          have hj2 : j < (b.getD i []).reverse.length := by
            rw [List.length_reverse, List.length_map] at hj
            rw [List.length_reverse]
            exact hj
          rw [getI hj2] at hx
          cases hx
          have hl2 : (order (b.take i) ++ (b.getD i []).reverse.take j).length ≤ 900 := by
            rw [List.length_append, List.length_take]
            rw [hr, List.length_append, List.length_append] at hl
            omega
          have nm : (b.getD i []).reverse.getD j 0 ∉ order (b.take i) ++ (b.getD i []).reverse.take j := by
            have e9 : order (b.take i) ++ (b.getD i []).reverse = (order (b.take i) ++ (b.getD i []).reverse.take j) ++ ((b.getD i []).reverse.getD j 0 :: (b.getD i []).reverse.drop (j + 1)) := by
              rw [List.append_assoc]
              congr 1
              exact split3 hj2
            rw [e9] at ndi
            intro hm
            exact (List.nodup_append.mp ndi).2.2 _ hm _ List.mem_cons_self rfl
          refine ⟨_, rfl, _, _, rfl, hd5, _, rfl, _, rfl, d, _, rfl, DPut.k (k := .inl ((b.getD i []).reverse.getD j 0)) hd5 (by rw [codeKvs_length]; exact Nat.lt_of_le_of_lt hl2 (by decide)), ?_⟩
          refine ⟨_, rfl, Same.put e5 md, seqT_dk ht5 hd5, ?_⟩
          rw [upd_same, codeKvs_put nm, take_snoc hj2, List.append_assoc]
        · rintro σ' H5 ⟨w, rfl, e5, ht5, hd5⟩
          refine ⟨_, _, rfl, e5, ?_⟩
          rw [hd5, List.length_reverse, List.length_map, ← List.length_reverse, List.take_length, hsn]
      · rintro σ' H2 ⟨u, w, rfl, e, hd⟩
        rw [lb, List.take_length] at hd
        exact kN _ _ ⟨u, w, rfl, e, hd⟩
    rintro σ1 H1 ⟨u, w, rfl, e, hd⟩
    exact ⟨_, rfl, k _ _ e hd md⟩
def sp_place (K : PySem.W.Frag) : Sp := fun vs H Q _ => ∃ (v : V) (s : St), vs = [v] ∧ StAt K H v s ∧ (order s.belts).Nodup ∧ (order s.belts).length ≤ 900 ∧ s.belts.length ≤ 900 ∧ s.queues.length ≤ 900 ∧ (∀ q ∈ s.queues, q.length ≤ 900) ∧
  ∀ v H', Same H H' → PlAt K H' v (placeOf s) → Q v H'
theorem sc_place_of : FnScope ["state", "codes", "queues", "swap", "queue", "record", "belt"] ["state"] (defScope s_place_of) := ⟨rfl, rfl, rfl, by decide +kernel, rfl, by decide +kernel, by decide +kernel⟩
theorem Txt.b_place_of (T : Txt w K mg) : Binds K (fdA K (He.ga K "place_of")) ["state"] [] := T.F_place_of.binds fun _ _ _ _ _ _ us hl => match us, hl with | [_], _ => rfl
theorem ok_place_of (T : Txt w K mg) : FnOk P w K mg base CX0 2 (He.ga K "place_of") (fdA K (He.ga K "place_of")) ["state"] (sp_place K) := by
  refine T.F_place_of.ok sc_place_of (fun vs H Q E h => ?_) (fun cdv A outer s H vs Q E hr h => ?_)
  · obtain ⟨v, s', rfl, _⟩ := h
    rfl
  · obtain ⟨v, s', rfl, hst, nd, l1, l2, l3, l4, k⟩ := h
    obtain ⟨c, vb, vq, vs, rfl, hc, ⟨ab, bs, rfl, hb1, hb2⟩, ⟨aq, qs, rfl, hq1, hq2⟩, hs⟩ := id hst
    have lb := hb2.length
    have lq := hq2.length
    refine ⟨_, (pss_cons (ps_set (i := 1) sc_place_of.nd rfl (by first | exact .inl rfl | exact .inr rfl) (pe_call (ok_codes_of T) (hr.mono (by decide)) (by rfl) T.g_codes_of T.D_codes_of.kp T.b_codes_of .nil pass0 (pa_cons (pe_ix ix_tup (pv 0) pe_int (fun _ _ => rfl)) pa_nil)))
      (pss_cons (ps_setLc (i := 2) (own := [("queue", 4)]) (g := (gName 4)) rfl sc_place_of.nd rfl rfl (sw_true rfl rfl rfl (by decide +kernel)) (pi_tup (pe_ix ix_tup (pv 0) pe_int (fun _ _ => rfl))) (blkOk_by (N := ["state", "codes", "queues", "swap", "queue", "record", "belt"]) (sc := defScope s_place_of) (by decide +kernel)) (fun _ _ _ _ _ => (pg_name (i := 4) sc_place_of.nd rfl (by first | exact .inl rfl | exact .inr rfl))) (fun _ _ _ _ _ => pts_nil) (fun _ _ _ _ _ => (pe_callTy (call_tupleK (K := K)) (by rfl) T.f_tuple (by decide +kernel) (pa_cons (pe_lc (own := [("record", 5)]) (g := (gName 5)) rfl sc_place_of.nd (pi_tupK (K := K) (pv 4)) (blkOk_by (N := ["state", "codes", "queues", "swap", "queue", "record", "belt"]) (sc := ({ kind := .function, names := [(".0", .local), ("queue", .local), ("tuple", .globalImplicit), ("codes", .cell)], isGenerator := false, isCoroutine := false } : Scope)) (by decide +kernel)) (fun _ _ _ _ _ => (pg_name (i := 5) sc_place_of.nd rfl (by first | exact .inl rfl | exact .inr rfl))) (fun _ _ _ _ _ => pts_nil) (fun _ _ _ _ _ => (pe_dget2 (hu_of hr) (pv 1) (pv 5) (pe_callB (call_min2 rfl) (by rfl) T.f_min (by decide +kernel) (pa_cons (pv 5) (pa_cons (C8.pe_gc rfl T.c_GONE) pa_nil))) ⟨rfl, rfl, rfl, rfl⟩))) pa_nil))))
      (pss_cons (ps_set (i := 3) sc_place_of.nd rfl (by first | exact .inl rfl | exact .inr rfl) (pe_dget2 (hu_of hr) (pv 1) (pe_ix ix_tup (pv 0) pe_int (fun _ _ => rfl)) (pe_callB (call_min2 rfl) (by rfl) T.f_min (by decide +kernel) (pa_cons (pe_ix ix_tup (pv 0) pe_int (fun _ _ => rfl)) (pa_cons (C8.pe_gc rfl T.c_GONE) pa_nil))) ⟨rfl, rfl, rfl, rfl⟩))
      (pss_one (ps_ret (pe_tup (pa_cons (pe_callTy (call_tupleK (K := K)) (by rfl) T.f_tuple (by decide +kernel) (pa_cons (pe_lc (own := [("belt", 6)]) (g := (gName 6)) rfl sc_place_of.nd (pi_tup (pe_ix ix_tup (pv 0) pe_int (fun _ _ => rfl))) (blkOk_by (N := ["state", "codes", "queues", "swap", "queue", "record", "belt"]) (sc := defScope s_place_of) (by decide +kernel)) (fun _ _ _ _ _ => (pg_name (i := 6) sc_place_of.nd rfl (by first | exact .inl rfl | exact .inr rfl))) (fun _ _ _ _ _ => pts_nil) (fun _ _ _ _ _ => (pe_callB (cr_lenK (K := K)) (by rfl) T.f_len (by decide +kernel) (pa_cons (pv 6) pa_nil)))) pa_nil)) (pa_cons (pe_callTy (call_tupleK (K := K)) (by rfl) T.f_tuple (by decide +kernel) (pa_cons (pv 2) pa_nil)) (pa_cons (pv 3) (pa_cons (pe_ix ix_tup (pv 0) pe_int (fun _ _ => rfl)) (pa_cons (pe_ix ix_tup (pv 0) pe_int (fun _ _ => rfl)) pa_nil))))))))))), ?_⟩
    refine ⟨_, rfl, _, _, _, _, rfl, rfl, hc, rfl, _, s'.belts, rfl, ⟨ab, bs, rfl, hb1, hb2⟩, nd, l1, fun d H1 s1 hd nd0 => ?_⟩
    dsimp only [gName]
    refine seqE (M := fun σ' H' => ∃ l ws, σ' = [some (.ref c), some (.ref d), some (.ref l), none, none, none, none] ∧ Same H1 H' ∧ H' l = some (.lst ws) ∧ All2 (AtI K H') ws (s'.queues.map (List.map (code s'.belts)))) (fun N kN => ?_) ?_
    · refine ⟨_, rfl, _, _, _, _, rfl, rfl, Same.seqT s1 hc, rfl, _, rfl, ⟨_, Same.seqT s1 hq1⟩, fun D hD => lcM (walk_tup (xs := qs)) (by omega) hD (fun H e => Same.seqT e (Same.seqT s1 hq1))
        (fun i H acc => All2 (AtI K H) acc ((s'.queues.take i).map (List.map (code s'.belts)))) .nil (fun i H H' acc e h => h.imp fun _ _ => AtI.keep e) ?_ ?_⟩
      · intro i x H2 H3 acc B hi e ha r y hl kB
        obtain ⟨rfl, hx⟩ := y
        obtain ⟨x1, e1, h1⟩ := hq2.getI (j := i) (by omega)
        rw [e1] at hx
        cases hx
        have hiq : i < s'.queues.length := by omega
        have hq9 : (s'.queues.getD i []).length ≤ 900 := l4 _ (getLmem hiq)
        have h1' := Same.seqT (s1.trans e) h1
        refine ⟨rfl, _, rfl, _, rfl, ⟨_, h1'⟩, fun D2 hD2 => lcM (walk_tup (xs := (s'.queues.getD i []).map V.int)) (by rw [List.length_map]; omega) hD2 (fun H e => Same.seqT e h1')
          (fun j H acc => acc = ((s'.queues.getD i []).take j).map fun x => V.int (code s'.belts x)) rfl (fun _ _ _ _ _ h => h) ?_ ?_⟩
        · intro j x H4 H5 acc2 B2 hj e4 ha4 r4 y4 hl4 kB4
          obtain ⟨rfl, hx⟩ := y4
          rw [List.length_map] at hj
          rw [getI hj] at hx
          cases hx
          have hd5 := e4 _ _ (e _ _ hd)
          refine ⟨rfl, _, rfl, d, rfl, .inl ⟨_, .inl hd5⟩, _, rfl, _, rfl, _, _, rfl, _, DGet.k (k := .inl ((s'.queues.getD i []).getD j 0)) hd5, ?_⟩
          rw [code_val]
          refine kB4 _ _ (Same.refl _) ?_
          rw [r4, take_snoc hj, List.map_append]
          rfl
        · intro H4 acc2 e4 ha4 hl4 r4
          rw [List.length_map, List.take_length] at r4
          refine ⟨_, _, rfl, .inl ⟨.inl (.inl ha4), fun t ht => ?_⟩⟩
          have s5 := Same.up (o := .tup acc2) ht
          refine kB _ _ (e4.trans s5) ?_
          rw [take_snocL hiq, List.map_append]
          refine (r.imp fun _ _ => AtI.mono (e4.trans s5)).append (.cons ⟨t, rfl, ?_⟩ .nil)
          rw [List.map_map, r4]
          exact newT
      · intro H2 acc e ha hl r
        rw [lq, List.take_length] at r
        exact kN _ _ ⟨D, acc, rfl, e, ha, r⟩
    rintro σ1 H2 ⟨l, ws, rfl, s2, hl, hws⟩
    have s12 := s1.trans s2
    refine seqE (M := fun σ' H' => H2 = H' ∧ σ' = [some (.ref c), some (.ref d), some (.ref l), some (.int (code s'.belts s'.swap)), none, none, none]) (fun N kN => ?_) ?_
    · have hd2 := s2 _ _ hd
      refine ⟨_, rfl, d, rfl, .inl ⟨_, .inl hd2⟩, _, rfl, _, _, _, _, rfl, rfl, Same.seqT s12 hc, rfl, _, rfl, _, _, _, _, rfl, rfl, Same.seqT s12 hc, rfl, _, _, rfl, _, DGet.k (k := .inl s'.swap) hd2, ?_⟩
      rw [code_val]
      exact kN _ _ ⟨rfl, rfl⟩
    rintro σ2 _ ⟨rfl, rfl⟩
    refine ⟨_, rfl, _, _, _, _, rfl, rfl, Same.seqT s12 hc, rfl, _, rfl, ⟨_, Same.seqT s12 hb1⟩, fun D hD => lcM (walk_tup (xs := bs)) (by omega) hD (fun H e => Same.seqT e (Same.seqT s12 hb1))
      (fun i H acc => acc = (s'.belts.take i).map fun b => V.int ((b.length : Nat) : Int)) rfl (fun _ _ _ _ _ h => h) ?_ ?_⟩
    · intro i x H3 H4 acc B hi e ha r y hl kB
      obtain ⟨rfl, hx⟩ := y
      obtain ⟨a1, e1, h1⟩ := hb2.getI (j := i) (by omega)
      rw [e1] at hx
      cases hx
      refine ⟨rfl, _, rfl, _, _, rfl, .inr (Same.seqT (s12.trans e) h1), kB _ _ (Same.refl _) ?_⟩
      rw [r, take_snocL (by omega), List.map_append, List.length_map]
      rfl
    · intro H3 acc e ha hla r
      rw [lb, List.take_length] at r
      refine ⟨_, _, rfl, .inl ⟨.inl (.inl ha), fun t1 m1 => ?_⟩⟩
      have z1 := Same.up (o := .tup acc) m1
      refine ⟨_, rfl, _, _, rfl, .inl ⟨.inl (.inl (z1 _ _ (e _ _ hl))), fun t2 m2 => ?_⟩⟩
      have z2 := Same.up (o := .tup ws) m2
      have hcz := Same.seqT ((s12.trans e).trans (z1.trans z2)) hc
      refine ⟨_, rfl, _, rfl, _, _, _, _, rfl, rfl, hcz, rfl, _, rfl, _, _, _, _, rfl, rfl, hcz, rfl, ok_le (by simp), fun t3 m3 => ?_⟩
      have z3 := Same.up (o := .tup [V.ref t1, V.ref t2, V.int (code s'.belts s'.swap), vs, V.int s'.comings]) m3
      have z := z1.trans (z2.trans z3)
      refine k _ _ ((s12.trans e).trans z) ⟨t3, _, _, _, rfl, newT, ⟨t1, rfl, ?_⟩, ⟨t2, ws, rfl, Same.seqT z3 newT, hws.imp fun _ _ => AtI.mono (e.trans z)⟩, hs.mono ((s12.trans e).trans z)⟩
      show SqT K _ t1 ((s'.belts.map fun b => ((b.length : Nat) : Int)).map V.int)
      rw [List.map_map]
      rw [r] at z2 z3 ⊢
      exact Same.seqT (z2.trans z3) newT
theorem beltsFrom_snoc (c : Int) : ∀ (m : Int) (cs : List Int), beltsFrom m (cs ++ [c]) = beltsFrom m cs ++ [beltAt (m + cs.sum) c]
  | m, [] => by
    show [beltAt m c] = [beltAt (m + 0) c]
    rw [Int.add_zero]
  | m, x :: cs => by
    show beltAt m x :: beltsFrom (m + x) (cs ++ [c]) = beltAt m x :: beltsFrom (m + x) cs ++ _
    rw [beltsFrom_snoc c (m + x) cs, List.sum_cons, show m + x + cs.sum = m + (x + cs.sum) by omega]
    rfl
def sp_state (K : PySem.W.Frag) : Sp := fun vs H Q _ => ∃ (v : V) (pl : Place), vs = [v] ∧ PlAt K H v pl ∧ pl.counts.length ≤ 900 ∧ (∀ c ∈ pl.counts, 0 ≤ c ∧ c ≤ 900) ∧ ∀ v H', Same H H' → StAt K H' v (stateOf pl) → Q v H'
theorem sc_state_of : FnScope ["place", "belts", "many", "count", "at"] ["place"] (defScope s_state_of) := ⟨rfl, rfl, rfl, by decide +kernel, rfl, by decide +kernel, by decide +kernel⟩
theorem Txt.b_state_of (T : Txt w K mg) : Binds K (fdA K (He.ga K "state_of")) ["place"] [] := T.F_state_of.binds fun _ _ _ _ _ _ us hl => match us, hl with | [_], _ => rfl
theorem ok_state_of (T : Txt w K mg) : FnOk P w K mg base CX0 1 (He.ga K "state_of") (fdA K (He.ga K "state_of")) ["place"] (sp_state K) := by
  refine T.F_state_of.ok sc_state_of (fun vs H Q E h => ?_) (fun cdv A outer s H vs Q E hr h => ?_)
  · obtain ⟨v, pl, rfl, _⟩ := h
    rfl
  · obtain ⟨v, pl, rfl, hpl, l1, l2, k⟩ := h
    obtain ⟨c, vb, vq, vs, rfl, hc, ⟨ab, rfl, hb⟩, hq, hs⟩ := id hpl
    refine ⟨_, (pss_cons (ps_asg (pe_tup (pa_cons (pe_lst pa_nil) (pa_cons pe_int pa_nil))) (pg_tup rfl (pgs_cons (pg_name (i := 1) sc_state_of.nd rfl (by first | exact .inl rfl | exact .inr rfl)) (pgs_cons (pg_name (i := 2) sc_state_of.nd rfl (by first | exact .inl rfl | exact .inr rfl)) pgs_nil))))
      (pss_cons (ps_for PassesOwn.never rfl (pi_tup (pe_ix ix_tup (pv 0) pe_int (fun _ _ => rfl))) (pg_name (i := 3) sc_state_of.nd rfl (by first | exact .inl rfl | exact .inr rfl)) (pss_cons (ps_expr (pe_bm PySem.F.plainAttrs_list PySem.F.slot_list_append PySem.F.type_list_append mt_append (pv 1) (pa_cons (pe_callTy (call_tupleK (K := K)) (by rfl) T.f_tuple (by decide +kernel) (pa_cons (pe_lc (own := [("at", 4)]) (g := (gName 4)) rfl sc_state_of.nd (pi_range1 (by rfl) T.f_range (pa_cons (pv 3) pa_nil)) (blkOk_by (N := ["place", "belts", "many", "count", "at"]) (sc := defScope s_state_of) (by decide +kernel)) (fun _ _ _ _ _ => (pg_name (i := 4) sc_state_of.nd rfl (by first | exact .inl rfl | exact .inr rfl))) (fun _ _ _ _ _ => pts_nil) (fun _ _ _ _ _ => (pe_op op_sub (pe_op op_sub (pe_op op_add (pv 2) (pv 3)) pe_int) (pv 4)))) pa_nil)) pa_nil)))
        (pss_one (ps_aug (i := 2) sc_state_of.nd rfl (by first | exact .inl rfl | exact .inr rfl) (pv 3) ip_add))))
      (pss_one (ps_ret (pe_tup (pa_cons (pe_callTy (call_tupleK (K := K)) (by rfl) T.f_tuple (by decide +kernel) (pa_cons (pv 1) pa_nil)) (StX.pa_star (pe_slice sl_tupA (pv 0) (po_some pe_int) po_none) pa_nil))))))), ?_⟩
    refine ⟨ok_le (by simp), fun lb m1 => ⟨ok_le (by simp), fun t0 m2 => ?_⟩⟩
    have z1 := Same.up (o := .lst []) m1
    have z2 := Same.up (o := .tup [V.ref lb, V.int 0]) m2
    refine ⟨_, _, rfl, newT, rfl, _, _, rfl, _, _, rfl, rfl, ?_⟩
    dsimp only
    refine seqE (M := fun σ' H' => ∃ bs n u w, σ' = [some (.ref c), some (.ref lb), some (.int n), u, w] ∧ Same H H' ∧ H' lb = some (.lst bs) ∧ All2 (AtI K H') bs (beltsFrom 0 pl.counts)) (fun N kN => ?_) ?_
    · refine ⟨_, rfl, _, _, _, _, rfl, rfl, Same.seqT (z1.trans z2) hc, rfl, _, rfl, ⟨_, Same.seqT (z1.trans z2) hb⟩, ?_⟩
      refine for_it (walk_tup (xs := pl.counts.map V.int)) (fun i σ' H' => ∃ bs u w, σ' = [some (.ref c), some (.ref lb), some (.int (pl.counts.take i).sum), u, w] ∧ Same H H' ∧ H' lb = some (.lst bs) ∧ All2 (AtI K H') bs (beltsFrom 0 (pl.counts.take i)))
        ⟨[], _, _, rfl, z1.trans z2, z2 _ _ upd_same, .nil⟩ (fun i σ' H' _ h => ?_) ?_ ?_
      · obtain ⟨bs, u, w, _, e, _⟩ := h
        exact Same.seqT e hb
      · rintro i x σ' H2 H3 hi ⟨bs, u, w, rfl, e, hl, hbs⟩ ⟨rfl, hx⟩
        rw [List.length_map] at hi
        rw [getI hi] at hx
        cases hx
        have hci : 0 ≤ pl.counts.getD i 0 ∧ pl.counts.getD i 0 ≤ 900 := by
          rw [List.getD_eq_getElem?_getD, List.getElem?_eq_getElem hi]
          exact l2 _ (List.getElem_mem _)
        have hbl := hbs.length
        have hfl : ∀ (m : Int) (cs : List Int), (beltsFrom m cs).length = cs.length := fun m cs => by
          induction cs generalizing m with
          | nil => rfl
          | cons x r ih => exact congrArg Nat.succ (ih _)
        rw [hfl, List.length_take] at hbl
        refine ⟨_, rfl, tyLst hl, _, rfl, _, rfl, by omega, by omega, fun D hD => lcM walk_range (by omega) hD (fun _ _ => trivial)
          (fun j H acc => acc = ((List.range j).map fun (a : Nat) => (pl.counts.take i).sum + pl.counts.getD i 0 - 1 - (a : Int)).map V.int) rfl (fun _ _ _ _ _ h => h) ?_ ?_⟩
        · intro j x H4 H5 acc B hj e4 ha r y hla kB
          obtain ⟨rfl, rfl⟩ := y
          refine ⟨rfl, _, rfl, _, rfl, _, _, rfl, rfl, _, _, rfl, rfl, _, rfl, _, _, rfl, rfl, kB _ _ (Same.refl _) ?_⟩
          rw [r, List.range_succ, List.map_append, List.map_append]
          simp
        · intro H4 acc e4 ha hla r
          refine ⟨_, _, rfl, .inl ⟨.inl (.inl ha), fun t m => ?_⟩⟩
          have z := Same.up (o := .tup acc) m
          refine ⟨lb, bs, .ref t, rfl, rfl, z _ _ (e4 _ _ hl), Nat.lt_of_le_of_lt (show bs.length ≤ 900 by omega) (by decide), ?_⟩
          refine ⟨_, rfl, _, rfl, ?_⟩
          refine ⟨_, _, rfl, rfl, ?_⟩
          have hbsl := z _ _ (e4 _ _ hl)
          have esum : (pl.counts.take (i + 1)).sum = (pl.counts.take i).sum + pl.counts.getD i 0 := by
            rw [take_snoc hi, List.sum_append, List.sum_cons, List.sum_nil, Int.add_zero]
          refine ⟨bs ++ [.ref t], some (.int (pl.counts.getD i 0)), w, by rw [esum]; rfl, Same.put ((e.trans e4).trans z) m1, upd_same, ?_⟩
          · rw [take_snoc hi, beltsFrom_snoc, Int.zero_add]
            refine (hbs.imp fun _ _ h => (AtI.mono (e4.trans z) h).keep (KeepT.lst hbsl)).append (.cons ⟨t, rfl, ?_⟩ .nil)
            have ea : acc = (beltAt (pl.counts.take i).sum (pl.counts.getD i 0)).map V.int := r
            rw [ea] at hbsl z ⊢
            exact (KeepT.lst hbsl).seqT newT
      · rintro σ' H2 ⟨bs, u, w, rfl, e, hl, hbs⟩
        rw [List.length_map, List.take_length] at hbs
        exact kN _ _ ⟨bs, _, _, _, rfl, e, hl, hbs⟩
    rintro σ1 H1 ⟨bs, n, u, w, rfl, e, hl, hbs⟩
    refine ⟨_, rfl, _, _, rfl, .inl ⟨.inl (.inl hl), fun t1 m3 => ?_⟩⟩
    have z3 := Same.up (o := .tup bs) m3
    refine ⟨_, rfl, _, rfl, ?_⟩
    dsimp only [tNoPart]
    refine slD (k := 1) (Same.seqT (e.trans z3) hc) fun t2 H2 z4 h2 => ?_
    refine ⟨_, _, rfl, .inl h2, ok_le (by simp), fun t3 m4 => ?_⟩
    have z5 := Same.up (o := .tup (V.ref t1 :: ([vq, V.int pl.swap, vs, V.int pl.comings] ++ []))) m4
    have z := z3.trans (z4.trans z5)
    exact k _ _ (e.trans z) ⟨t3, .ref t1, vq, vs, rfl, newT, ⟨t1, bs, rfl, Same.seqT (z4.trans z5) newT, hbs.imp fun _ _ => AtI.mono z⟩, hq.mono (e.trans z), hs.mono (e.trans z)⟩
def wV : Option Word → V
  | none => .non
  | some .on => .str "on"
  | some .own => .str "own"
  | some .other => .str "other"
def sp_word (K : PySem.W.Frag) : Sp := fun vs H Q _ => ∃ (v : V) (o : Option (Int × Int)), vs = [v] ∧ SentAt K H v o ∧ Q (wV (wordOf o)) H
theorem sc_word_of_sending : FnScope ["sent"] ["sent"] (defScope s_word_of_sending) := ⟨rfl, rfl, rfl, by decide +kernel, rfl, by decide +kernel, by decide +kernel⟩
theorem Txt.b_word_of_sending (T : Txt w K mg) : Binds K (fdA K (He.ga K "word_of_sending")) ["sent"] [] := T.F_word_of_sending.binds fun _ _ _ _ _ _ us hl => match us, hl with | [_], _ => rfl
theorem ok_word_of_sending (T : Txt w K mg) : FnOk P w K mg base CX0 1 (He.ga K "word_of_sending") (fdA K (He.ga K "word_of_sending")) ["sent"] (sp_word K) := by
  refine T.F_word_of_sending.ok sc_word_of_sending (fun vs H Q E h => ?_) (fun cdv A outer s H vs Q E hr h => ?_)
  · obtain ⟨v, o, rfl, _⟩ := h
    rfl
  · obtain ⟨v, o, rfl, hv, k⟩ := h
    refine ⟨_, (pss_cons (ps_if (pt_cmpR op_isN (pv 0) pe_non (nomark _)) (pss_one (ps_ret pe_non)) pss_nil)
      (pss_cons (ps_if (pt_cmpR op_eq (pe_ix ix_tup (pv 0) pe_int (fun _ _ => rfl)) (C8.pe_gc rfl T.c_BLANK) (nomark _)) (pss_one (ps_ret pe_str)) pss_nil)
      (pss_one (ps_ret (pe_ifExp (pt_cmpR op_eq (pe_ix ix_tup (pv 0) pe_int (fun _ _ => rfl)) (pe_ix ix_tup (pv 0) pe_int (fun _ _ => rfl)) (nomark _)) pe_str pe_str))))), ?_⟩
    cases o with
    | none =>
      cases hv
      exact ⟨_, rfl, rfl, _, rfl, yes rfl k⟩
    | some q =>
      obtain ⟨x, r⟩ := q
      obtain ⟨t, rfl, ht⟩ := hv
      refine ⟨_, rfl, rfl, _, rfl, noo rfl ?_⟩
      refine ⟨_, rfl, _, _, _, _, rfl, rfl, ht, rfl, rfl, _, rfl, ?_⟩
      replace k : Q (wV (some (if r = -2 then Word.on else if x = r then Word.own else Word.other))) H := k
      by_cases c1 : r = -2
      · rw [if_pos c1] at k
        exact yes (decide_eq_true (by rw [c1])) k
      · rw [if_neg c1] at k
        refine noo (decide_eq_false fun z => c1 (V.int.inj z)) ?_
        refine ⟨_, rfl, _, _, _, _, rfl, rfl, ht, rfl, _, rfl, _, _, _, _, rfl, rfl, ht, rfl, rfl, _, rfl, ?_⟩
        by_cases c2 : x = r
        · rw [if_pos c2] at k
          exact yes (decide_eq_true (by rw [c2])) k
        · rw [if_neg c2] at k
          exact noo (decide_eq_false fun z => c2 (V.int.inj z)) k
end
end Ow
set_option Elab.async false
set_option linter.all false
set_option maxRecDepth 100000
set_option maxHeartbeats 4000000
namespace Ow
open PySem PySem.Spec PyProof.Rows L2
section
variable {P : Program} {w : World} {K : PySem.W.Frag} {mg : Str → Option Value} {base : Heap}
theorem Good.fit {p : Plan} {s : St} {n : Int} (ok : p.Ok) (g : Good p s n) : Fit p s := ⟨g.sz.b, g.sz.q, fun b h => Nat.le_trans (g.b3 b h) (by decide), fun b h => Nat.le_trans (g.q4 b h) (by decide), by
  have := ok.am
  rw [g.sl]
  omega⟩
theorem order_len {b : List (List Int)} {k m : Nat} (h : ∀ x ∈ b, x.length ≤ k) (hm : b.length ≤ m) : (order b).length ≤ m * k := by
  unfold order
  rw [List.length_flatten, List.map_map]
  have : ∀ l : List (List Int), (∀ x ∈ l, x.length ≤ k) → (l.map (List.length ∘ List.reverse)).sum ≤ l.length * k := fun l => by
    induction l with
    | nil => intro _; simp
    | cons x r ih =>
      intro h
      rw [List.map_cons, List.sum_cons, List.length_cons, Nat.succ_mul]
      have h1 := ih fun y hy => h y (List.mem_cons_of_mem _ hy)
      have h2 := h x List.mem_cons_self
      have h3 : (List.length ∘ List.reverse) x = x.length := List.length_reverse
      omega
  exact Nat.le_trans (this b h) (Nat.mul_le_mul_right k hm)
theorem Good.order {p : Plan} {s : St} {n : Int} (ok : p.Ok) (g : Good p s n) : (order s.belts).length ≤ 900 := by
  have n3 : p.n ≤ 3 := ok.nb.2
  have := order_len g.b3 (m := 3) (by rw [g.sz.b]; exact n3)
  omega
theorem holds_of {p : Plan} {s : St} {d : Deed} (h : possible p s d = true) : Holds s d := by
  cases d with
  | pause => trivial
  | come w => trivial
  | pass i w =>
    have h2 : (passRoom p s i && (decide (w = .once) || (!decide (w = .swapped) && slipOk p s w))) = true := h
    have h3 := (Bool.and_eq_true_iff.mp h2).1
    show 0 < (s.belts.getD (i - 1) []).length
    exact of_decide_eq_true (Bool.and_eq_true_iff.mp h3).1
theorem none_back {H H' : Hp} {l : Addr} (e : Same H H') (h : H' l = none) : H l = none := by
  cases q : H l with
  | none => rfl
  | some o => cases h.symm.trans (e _ _ q)
def sp_first (K : PySem.W.Frag) : Sp := fun vs H Q _ => ∃ (a : Addr) (p : Plan), vs = [.ref a] ∧ PlantAt K H (.ref a) p ∧ p.Ok ∧ ∀ v H', Same H H' → PlAt K H' v (firstPlace p) → Q v H'
theorem sc_first_place : FnScope ["plant"] ["plant"] (defScope s_first_place) := ⟨rfl, rfl, rfl, by decide +kernel, rfl, by decide +kernel, by decide +kernel⟩
theorem Txt.b_first_place (T : Txt w K mg) : Binds K (fdA K (He.ga K "first_place")) ["plant"] [] := T.F_first_place.binds fun _ _ _ _ _ _ us hl => match us, hl with | [_], _ => rfl
theorem ok_first_place (T : Txt w K mg) : FnOk P w K mg base CX0 4 (He.ga K "first_place") (fdA K (He.ga K "first_place")) ["plant"] (sp_first K) := by
  refine T.F_first_place.ok sc_first_place (fun vs H Q E h => ?_) (fun cdv A outer s H vs Q E hr h => ?_)
  · obtain ⟨a, p, rfl, _⟩ := h
    rfl
  · obtain ⟨a, p, rfl, hp, ok, k⟩ := h
    refine ⟨_, (pss_one (ps_ret (pe_call (ok_place_of T) (hr.mono (by decide)) (by rfl) T.g_place_of T.D_place_of.kp T.b_place_of .nil pass0 (pa_cons (pe_call (ok_start T) (hr.mono (by decide)) (by rfl) T.g_start T.D_start.kp T.b_start .nil pass0 (pa_cons (pv 0) pa_nil)) pa_nil)))), ?_⟩
    have g := Good.start ok
    have f := g.fit ok
    have n3 : p.n ≤ 3 := ok.nb.2
    refine ⟨_, rfl, a, p, rfl, hp, ok, fun v H1 z1 hv => ⟨v, St.start p, rfl, hv, g.pr.nd, g.order ok, by rw [f.nb]; omega, by rw [f.nq]; omega, fun q hq => Nat.le_trans (f.q5 q hq) (by decide), fun u H2 z2 hu => ?_⟩⟩
    exact k u H2 (z1.trans z2) hu
def sp_alld (K : PySem.W.Frag) : Sp := fun vs H Q _ => ∃ (a : Addr) (p : Plan), vs = [.ref a] ∧ PlantAt K H (.ref a) p ∧ p.Ok ∧ p.words.length ≤ 3 ∧ ∀ l vs H', Same H H' → H' l = some (.lst vs) → All2 (DeAt K H') vs (allDeeds p) → Q (.ref l) H'
theorem sc_all_deeds : FnScope ["plant", "words", "found", "point", "word"] ["plant"] (defScope s_all_deeds) := ⟨rfl, rfl, rfl, by decide +kernel, rfl, by decide +kernel, by decide +kernel⟩
theorem Txt.b_all_deeds (T : Txt w K mg) : Binds K (fdA K (He.ga K "all_deeds")) ["plant"] [] := T.F_all_deeds.binds fun _ _ _ _ _ _ us hl => match us, hl with | [_], _ => rfl
theorem ok_all_deeds (T : Txt w K mg) : FnOk P w K mg base CX0 3 (He.ga K "all_deeds") (fdA K (He.ga K "all_deeds")) ["plant"] (sp_alld K) := by
  refine T.F_all_deeds.ok sc_all_deeds (fun vs H Q E h => ?_) (fun cdv A outer s H vs Q E hr h => ?_)
  · obtain ⟨a, p, rfl, _⟩ := h
    rfl
  · obtain ⟨a, p, rfl, hp, ok, w3, k⟩ := h
    refine ⟨_, (pss_cons (ps_set (i := 1) sc_all_deeds.nd rfl (by first | exact .inl rfl | exact .inr rfl) (pe_lst (pa_cons pe_str (StX.pa_star (pe_meth0 (pe_prop (pv 0) T.cl_Plant T.p_Plant_line (ok_Plant_line T) (hr.mono (by decide)) T.b_Plant_line .nil pass0 rfl) T.cl_Line T.m_Line_words (ok_Line_words T) (hr.mono (by decide)) T.b_Line_words .nil pass0) pa_nil))))
      (pss_cons (ps_setLc (i := 2) (own := [("word", 4)]) (g := (gName 4)) rfl sc_all_deeds.nd rfl rfl (sw_true rfl rfl rfl (by decide +kernel)) (pi_list (pv 1)) (blkOk_by (N := ["plant", "words", "found", "point", "word"]) (sc := defScope s_all_deeds) (by decide +kernel)) (fun _ _ _ _ _ => (pg_name (i := 4) sc_all_deeds.nd rfl (by first | exact .inl rfl | exact .inr rfl))) (fun _ _ _ _ _ => pts_nil) (fun _ _ _ _ _ => (pe_tup (pa_cons pe_str (pa_cons (pv 4) pa_nil)))))
      (pss_cons (ps_for PassesOwn.never rfl (pi_range2 (by rfl) T.f_range (pa_cons pe_int (pa_cons (pe_op op_add (pe_prop (pe_prop (pv 0) T.cl_Plant T.p_Plant_line (ok_Plant_line T) (hr.mono (by decide)) T.b_Plant_line .nil pass0 rfl) T.cl_Line T.p_Line_last (ok_Line_last T) (hr.mono (by decide)) T.b_Line_last .nil pass0 rfl) pe_int) pa_nil))) (pg_name (i := 3) sc_all_deeds.nd rfl (by first | exact .inl rfl | exact .inr rfl)) (pss_one (ps_expr (pe_bm PySem.F.plainAttrs_list PySem.F.slot_list_extend PySem.F.type_list_extend mt_extend (pv 2) (pa_cons (pe_lc (own := [("word", 4)]) (g := (gName 4)) rfl sc_all_deeds.nd (pi_list (pv 1)) (blkOk_by (N := ["plant", "words", "found", "point", "word"]) (sc := defScope s_all_deeds) (by decide +kernel)) (fun _ _ _ _ _ => (pg_name (i := 4) sc_all_deeds.nd rfl (by first | exact .inl rfl | exact .inr rfl))) (fun _ _ _ _ _ => pts_nil) (fun _ _ _ _ _ => (pe_tup (pa_cons pe_str (pa_cons (pv 3) (pa_cons (pv 4) pa_nil)))))) pa_nil)))))
      (pss_one (ps_ret (pe_lst (StX.pa_star (pv 2) (pa_cons (pe_tup (pa_cons pe_str pa_nil)) pa_nil)))))))), ?_⟩
    refine lineM (fun _ _ _ _ => rfl) rfl hp fun lw H1 z1 hlw => ⟨_, _, rfl, .inr (.inl (.inl hlw)), ok_le (by simp [wordsV]; omega), fun l1 m1 => ?_⟩
    have z2 := Same.up (o := .lst (V.str "once" :: (wordsV p ++ []))) m1
    have z12 := z1.trans z2
    have eW : (V.str "once" :: (wordsV p ++ [])) = (Sight.once :: p.words).map fun g => V.str (gS g) := by
      rw [List.append_nil]
      rfl
    have hl1 : upd H1 l1 (.lst (V.str "once" :: (wordsV p ++ []))) l1 = some (.lst ((Sight.once :: p.words).map fun g => V.str (gS g))) := by rw [upd_same, eW]
    generalize hW : Sight.once :: p.words = W at hl1
    have lW : W.length ≤ 4 := by rw [← hW, List.length_cons]; omega
    dsimp only [gName]
    generalize upd H1 l1 (.lst (V.str "once" :: (wordsV p ++ []))) = H2 at hl1 z2 z12
    have getW : ∀ {i : Nat} (h : i < W.length), (W.map fun g => V.str (gS g))[i]? = some (.str (gS W[i])) := fun {i} h => by rw [List.getElem?_map, List.getElem?_eq_getElem h]; rfl
    have step : ∀ {i : Nat} (h : i < W.length) (f : Sight → Deed), (W.take (i + 1)).map f = (W.take i).map f ++ [f W[i]] := fun {i} h f => by
      rw [List.take_succ, List.getElem?_eq_getElem h, List.map_append]
      rfl
    refine seqE (M := fun σ' H' => ∃ lf fs, σ' = [some (.ref a), some (.ref l1), some (.ref lf), none, none] ∧ l1 ≠ lf ∧ H2 lf = none ∧ Same H2 H' ∧ H' lf = some (.lst fs) ∧ All2 (DeAt K H') fs (W.map Deed.come)) (fun N kN => ?_) ?_
    · refine ⟨_, rfl, _, rfl, ⟨_, .inl (.inl hl1)⟩, fun D hD => lcM (walk_list (xs := W.map fun g => V.str (gS g))) (by rw [List.length_map]; omega) hD (fun H e => .inl (.inl (e _ _ hl1)))
        (fun i H acc => All2 (DeAt K H) acc ((W.take i).map Deed.come)) .nil (fun i H H' acc e h => h.imp fun _ _ => DeAt.keep e) ?_ ?_⟩
      · intro i x H3 H4 acc B hi e ha r y hl kB
        obtain ⟨rfl, hx⟩ := y
        rw [List.length_map] at hi
        rw [getW hi] at hx
        cases hx
        refine ⟨rfl, _, rfl, ok_le (by simp), fun t m => kB _ _ (Same.up m) ?_⟩
        rw [step hi]
        exact (r.imp fun _ _ => DeAt.mono (Same.up m)).append (.cons ⟨t, rfl, newT⟩ .nil)
      · intro H3 acc e ha hl r
        rw [List.length_map, List.take_length] at r
        refine kN _ _ ⟨D, acc, rfl, ?_, hD, e, ha, r⟩
        intro q
        rw [← q, hl1] at hD
        cases hD
    rintro σ1 H3 ⟨lf, fs, rfl, nlf, mlf, z3, hlf, hfs⟩
    have n3 : p.n ≤ 3 := ok.nb.2
    have mlf0 : H lf = none := Same.free z12 mlf
    refine seqE (M := fun σ' H' => ∃ fs u w, σ' = [some (.ref a), some (.ref l1), some (.ref lf), u, w] ∧ Same H H' ∧ H' lf = some (.lst fs) ∧ All2 (DeAt K H') fs (W.map Deed.come ++ ((List.range p.n).map fun i => W.map (Deed.pass (i + 1))).flatten)) (fun N kN => ?_) ?_
    · refine lineP rfl (hp.mono (z12.trans z3)) fun vl hvl => ?_
      subst hvl
      refine ⟨_, _, rfl, rfl, _, _, rfl, ⟨by omega, by omega, by omega, by omega⟩, ?_⟩
      have en : ((p.n : Int) + 1 - 1).toNat = p.n := by omega
      rw [en]
      refine for_it walk_range (fun i σ' H' => ∃ fs u w, σ' = [some (.ref a), some (.ref l1), some (.ref lf), u, w] ∧ Same H H' ∧ H' l1 = some (.lst (W.map fun g => V.str (gS g))) ∧ H' lf = some (.lst fs) ∧ All2 (DeAt K H') fs (W.map Deed.come ++ ((List.range i).map fun i => W.map (Deed.pass (i + 1))).flatten))
        ⟨fs, _, _, rfl, z12.trans z3, z3 _ _ hl1, hlf, by simpa using hfs⟩ (fun _ _ _ _ _ => trivial) ?_ ?_
      · rintro i x σ' H9 H4 hi ⟨fs, u, w, rfl, e4, h1, hf, hfs⟩ ⟨rfl, rfl⟩
        have hfl := hfs.length
        refine ⟨_, rfl, tyLst hf, _, rfl, _, rfl, ⟨_, .inl (.inl h1)⟩, fun D hD => lcM (walk_list (xs := W.map fun g => V.str (gS g))) (by rw [List.length_map]; omega) hD (fun H e => .inl (.inl (e _ _ h1)))
          (fun j H acc => All2 (DeAt K H) acc ((W.take j).map (Deed.pass (i + 1)))) .nil (fun i H H' acc e h => h.imp fun _ _ => DeAt.keep e) ?_ ?_⟩
        · intro j x H5 H6 acc B hj e ha r y hl kB
          obtain ⟨rfl, hx⟩ := y
          rw [List.length_map] at hj
          rw [getW hj] at hx
          cases hx
          refine ⟨rfl, _, rfl, _, rfl, ok_le (by simp), fun t m => kB _ _ (Same.up m) ?_⟩
          rw [step hj]
          refine (r.imp fun _ _ => DeAt.mono (Same.up m)).append (.cons ⟨t, rfl, ?_⟩ .nil)
          have ei : (1 : Int) + (i : Int) = ((i + 1 : Nat) : Int) := by omega
          dsimp only
          rw [ei]
          exact newT
        · intro H5 acc e ha hl r
          rw [List.length_map, List.take_length] at r
          have hf5 := e _ _ hf
          have nfd : lf ≠ D := fun q => by
            rw [← q, hf] at hD
            cases hD
          have l4 : fs.length + acc.length ≤ 1000 := by
            rw [hfl, List.length_append, List.length_map, List.length_flatten, List.map_map]
            rw [List.length_map] at hl
            have : ∀ k : Nat, ((List.range k).map (List.length ∘ fun i => W.map (Deed.pass (i + 1)))).sum = k * W.length := fun k => by
              induction k with
              | zero => simp
              | succ k ih => rw [List.range_succ, List.map_append, List.sum_append, ih, Nat.succ_mul]; simp
            rw [this]
            have : i * W.length ≤ 3 * 4 := Nat.mul_le_mul (by omega) lW
            omega
          refine ⟨lf, D, _, _, rfl, rfl, hf5, ha, Nat.le_trans l4 (by decide), fs ++ acc, _, _, rfl, Same.put (e4.trans e) mlf0, ?_, upd_same, ?_⟩
          · rw [upd_ne nlf]
            exact e _ _ h1
          · rw [List.range_succ, List.map_append, List.flatten_append, ← List.append_assoc]
            refine All2.append (hfs.imp fun _ _ h => (DeAt.mono e h).keep (KeepT.lst hf5)) ?_
            have := r.imp fun _ _ h => DeAt.keep (KeepT.lst (o := .lst (fs ++ acc)) hf5) h
            simpa using this
      · rintro σ' H4 ⟨fs, u, w, rfl, e4, h1, hf, hfs⟩
        exact kN _ _ ⟨fs, u, w, rfl, e4, hf, hfs⟩
    rintro σ2 H4 ⟨fs, u, w, rfl, z4, hf, hfs⟩
    have hfl := hfs.length
    refine ⟨_, rfl, lf, _, rfl, .inr (.inl (.inl hf)), ok_le (by simp), fun t m => ⟨?_, fun l m2 => ?_⟩⟩
    · have : (W.map Deed.come ++ ((List.range p.n).map fun i => W.map (Deed.pass (i + 1))).flatten).length ≤ 900 := by
        rw [List.length_append, List.length_map, List.length_flatten, List.map_map]
        have : ∀ k : Nat, ((List.range k).map (List.length ∘ fun i => W.map (Deed.pass (i + 1)))).sum = k * W.length := fun k => by
          induction k with
          | zero => simp
          | succ k ih => rw [List.range_succ, List.map_append, List.sum_append, ih, Nat.succ_mul]; simp
        rw [this]
        have : p.n * W.length ≤ 3 * 4 := Nat.mul_le_mul (by omega) lW
        omega
      refine ok_le ?_
      rw [List.length_append, List.length_singleton]
      omega
    · have z5 := Same.up (o := .tup [V.str "pause"]) m
      have z6 := Same.up (o := .lst (fs ++ [V.ref t])) m2
      refine k _ _ _ (z4.trans (z5.trans z6)) upd_same ?_
      show All2 _ _ ((Sight.once :: p.words).map Deed.come ++ ((List.range p.n).map fun i => (Sight.once :: p.words).map (Deed.pass (i + 1))).flatten ++ [.pause])
      rw [hW]
      exact (hfs.imp fun _ _ => DeAt.mono (z5.trans z6)).append (.cons ⟨t, rfl, Same.seqT z6 newT⟩ .nil)
def sp_deedsAt (K : PySem.W.Frag) : Sp := fun vs H Q _ => ∃ (a : Addr) (p : Plan) (v : V) (s : St) (n : Int), vs = [.ref a, v] ∧ PlantAt K H (.ref a) p ∧ p.Ok ∧ p.words.length ≤ 3 ∧ PlAt K H v (placeOf s) ∧ Good p s n ∧
  ∀ l vs H', Same H H' → H l = none → H' l = some (.lst vs) → All2 (DeAt K H') vs (deedsAt p (placeOf s)) → Q (.ref l) H'
theorem sc_deeds_at : FnScope ["plant", "place", "state", "deed"] ["plant", "place"] (defScope s_deeds_at) := ⟨rfl, rfl, rfl, by decide +kernel, rfl, by decide +kernel, by decide +kernel⟩
theorem Txt.b_deeds_at (T : Txt w K mg) : Binds K (fdA K (He.ga K "deeds_at")) ["plant", "place"] [] := T.F_deeds_at.binds fun _ _ _ _ _ _ us hl => match us, hl with | [_, _], _ => rfl
theorem ok_deeds_at (T : Txt w K mg) : FnOk P w K mg base CX0 5 (He.ga K "deeds_at") (fdA K (He.ga K "deeds_at")) ["plant", "place"] (sp_deedsAt K) := by
  refine T.F_deeds_at.ok sc_deeds_at (fun vs H Q E h => ?_) (fun cdv A outer s H vs Q E hr h => ?_)
  · obtain ⟨a, p, v, s', n, rfl, _⟩ := h
    rfl
  · obtain ⟨a, p, v, s', n, rfl, hp, ok, w3, hv, g, k⟩ := h
    refine ⟨_, (pss_cons (ps_set (i := 2) sc_deeds_at.nd rfl (by first | exact .inl rfl | exact .inr rfl) (pe_call (ok_state_of T) (hr.mono (by decide)) (by rfl) T.g_state_of T.D_state_of.kp T.b_state_of .nil pass0 (pa_cons (pv 1) pa_nil)))
      (pss_one (ps_ret (pe_lc (own := [("deed", 3)]) (g := (gName 3)) rfl sc_deeds_at.nd (pi_list (pe_call (ok_all_deeds T) (hr.mono (by decide)) (by rfl) T.g_all_deeds T.D_all_deeds.kp T.b_all_deeds .nil pass0 (pa_cons (pv 0) pa_nil))) (blkOk_by (N := ["plant", "place", "state", "deed"]) (sc := defScope s_deeds_at) (by decide +kernel)) (fun _ _ _ _ _ => (pg_name (i := 3) sc_deeds_at.nd rfl (by first | exact .inl rfl | exact .inr rfl))) (fun _ _ _ _ _ => pts_one (pt_val (pe_call (ok_is_possible T) (hr.mono (by decide)) (by rfl) T.g_is_possible T.D_is_possible.kp T.b_is_possible .nil pass0 (pa_cons (pv 0) (pa_cons (pv 2) (pa_cons (pv 3) pa_nil)))))) (fun _ _ _ _ _ => (pv 3)))))), ?_⟩
    have n3 : p.n ≤ 3 := ok.nb.2
    have f := g.fit ok
    refine ⟨_, rfl, v, placeOf s', rfl, hv, ?_, ?_, fun sv H1 z1 hs => ?_⟩
    · show (s'.belts.map fun b => (b.length : Int)).length ≤ 900
      rw [List.length_map, f.nb]
      omega
    · intro c hc
      have hc2 : c ∈ s'.belts.map fun b => (b.length : Int) := hc
      obtain ⟨b, hb, rfl⟩ := List.mem_map.mp hc2
      have := f.b5 b hb
      omega
    dsimp only [gName]
    have hbl : (stateOf (placeOf s')).belts.length = p.n := by
      rw [state_place g.pr.nd]
      show (s'.belts.map _).length = _
      rw [List.length_map, f.nb]
    refine ⟨_, rfl, a, p, rfl, hp.mono z1, ok, w3, fun l ws H2 z2 hl hws => ⟨_, rfl, ⟨_, .inl (.inl hl)⟩, fun D hD => ?_⟩⟩
    have hwl := hws.length
    have l9 : ws.length ≤ 900 := by
      rw [hwl]
      unfold allDeeds
      rw [List.length_append, List.length_append, List.length_map, List.length_flatten, List.map_map, List.length_singleton]
      have : ∀ k : Nat, ((List.range k).map (List.length ∘ fun i => (Sight.once :: p.words).map (Deed.pass (i + 1)))).sum = k * (Sight.once :: p.words).length := fun k => by
        induction k with
        | zero => simp
        | succ k ih => rw [List.range_succ, List.map_append, List.sum_append, ih, Nat.succ_mul]; simp
      rw [this, List.length_cons]
      have : p.n * (p.words.length + 1) ≤ 3 * 4 := Nat.mul_le_mul (by omega) (by omega)
      omega
    refine lcS (walk_list (xs := ws)) (by omega) hD (fun H e => .inl (.inl (e _ _ hl))) (fun i H acc => All2 (DeAt K H) acc (((allDeeds p).take i).filter (possible p (stateOf (placeOf s'))))) .nil (fun i H H' acc e h => h.imp fun _ _ => DeAt.keep e) ?_ ?_
    · intro i x H3 H4 acc B N hi e ha r y hla kB kN
      obtain ⟨rfl, hx⟩ := y
      obtain ⟨d, hd, b, rfl, hb⟩ := hws.get' hx
      have hb4 := Same.seqT e hb
      have hin := all_inRange (List.mem_of_getElem? hd)
      have ez := z2.trans e
      have hsn : (allDeeds p).take (i + 1) = (allDeeds p).take i ++ [d] := by rw [List.take_succ, hd]; rfl
      refine ⟨rfl, _, rfl, _, rfl, _, rfl, a, p, sv, _, b, d, rfl, hp.mono (z1.trans ez), ok, hs.mono ez, hbl, hb4, hin, fun H5 z5 => ⟨_, rfl, ?_⟩⟩
      by_cases c : possible p (stateOf (placeOf s')) d = true
      · refine yes c ?_
        refine ⟨_, rfl, kB _ _ z5 ?_⟩
        rw [hsn, List.filter_append, List.filter_cons_of_pos c, List.filter_nil]
        exact (r.imp fun _ _ => DeAt.mono z5).append (.cons ⟨b, rfl, Same.seqT z5 hb4⟩ .nil)
      · refine noo (by simpa using c) ?_
        refine kN _ z5 ?_
        rw [hsn, List.filter_append, List.filter_cons_of_neg c, List.filter_nil, List.append_nil]
        exact r.imp fun _ _ => DeAt.mono z5
    · intro H3 acc e ha hla r
      rw [hwl, List.take_length] at r
      exact k _ _ _ ((z1.trans z2).trans e) (none_back (z1.trans z2) hD) ha r
def sp_behind (K : PySem.W.Frag) : Sp := fun vs H Q _ => ∃ (a : Addr) (p : Plan) (v : V) (s : St) (n : Int) (b : Addr) (d : Deed), vs = [.ref a, v, .ref b] ∧ PlantAt K H (.ref a) p ∧ p.Ok ∧ PlAt K H v (placeOf s) ∧ Good p s n ∧ SqT K H b (dV d) ∧ inRange p d = true ∧ possible p s d = true ∧
  ∀ c u H', Same H H' → SqT K H' c [u, wV (wordOf (moved p s d n).2)] → PlAt K H' u (placeOf (moved p s d n).1) → Q (.ref c) H'
theorem sc_behind : FnScope ["plant", "place", "deed", "state", "sent"] ["plant", "place", "deed"] (defScope s_behind) := ⟨rfl, rfl, rfl, by decide +kernel, rfl, by decide +kernel, by decide +kernel⟩
theorem Txt.b_behind (T : Txt w K mg) : Binds K (fdA K (He.ga K "behind")) ["plant", "place", "deed"] [] := T.F_behind.binds fun _ _ _ _ _ _ us hl => match us, hl with | [_, _, _], _ => rfl
theorem ok_behind (T : Txt w K mg) : FnOk P w K mg base CX0 6 (He.ga K "behind") (fdA K (He.ga K "behind")) ["plant", "place", "deed"] (sp_behind K) := by
  refine T.F_behind.ok sc_behind (fun vs H Q E h => ?_) (fun cdv A outer s H vs Q E hr h => ?_)
  · obtain ⟨a, p, v, s', n, b, d, rfl, _⟩ := h
    rfl
  · obtain ⟨a, p, v, s', n, b, d, rfl, hp, ok, hv, g, hd, hin, hpo, k⟩ := h
    refine ⟨_, (pss_cons (ps_asg (pe_call (ok_moved T) (hr.mono (by decide)) (by rfl) T.g_moved T.D_moved.kp T.b_moved .nil pass0 (pa_cons (pv 0) (pa_cons (pe_call (ok_state_of T) (hr.mono (by decide)) (by rfl) T.g_state_of T.D_state_of.kp T.b_state_of .nil pass0 (pa_cons (pv 1) pa_nil)) (pa_cons (pv 2) (pa_cons (C8.pe_gc rfl T.c_FRESH) pa_nil))))) (pg_tup rfl (pgs_cons (pg_name (i := 3) sc_behind.nd rfl (by first | exact .inl rfl | exact .inr rfl)) (pgs_cons (pg_name (i := 4) sc_behind.nd rfl (by first | exact .inl rfl | exact .inr rfl)) pgs_nil))))
      (pss_one (ps_ret (pe_tup (pa_cons (pe_call (ok_place_of T) (hr.mono (by decide)) (by rfl) T.g_place_of T.D_place_of.kp T.b_place_of .nil pass0 (pa_cons (pv 3) pa_nil)) (pa_cons (pe_call (ok_word_of_sending T) (hr.mono (by decide)) (by rfl) T.g_word_of_sending T.D_word_of_sending.kp T.b_word_of_sending .nil pass0 (pa_cons (pv 4) pa_nil)) pa_nil)))))), ?_⟩
    have n3 : p.n ≤ 3 := ok.nb.2
    have f := g.fit ok
    have n1 : 1 ≤ p.n := ok.nb.1
    have est := state_place (s := s') g.pr.nd
    have f2 : Fit p (stateOf (placeOf s')) := by
      rw [est]
      refine ⟨?_, ?_, ?_, ?_, f.s9⟩
      · show (s'.belts.map _).length = _
        rw [List.length_map, f.nb]
      · show (s'.queues.map _).length = _
        rw [List.length_map, f.nq]
      · intro b hb
        have hb2 : b ∈ s'.belts.map (List.map (code s'.belts)) := hb
        obtain ⟨c, hc, rfl⟩ := List.mem_map.mp hb2
        rw [List.length_map]
        exact f.b5 c hc
      · intro b hb
        have hb2 : b ∈ s'.queues.map (List.map (code s'.belts)) := hb
        obtain ⟨c, hc, rfl⟩ := List.mem_map.mp hb2
        rw [List.length_map]
        exact f.q5 c hc
    have hpo2 : possible p (stateOf (placeOf s')) d = true := by
      rw [sim_possible g.pr g.n0]
      exact hpo
    have gm := g.moved ok d hin hpo
    have fm := gm.fit ok
    have em := sim_moved g.pr g.n0 d hpo
    have ebh := sim_behind n1 g.sz g.pr g.n0 d hin hpo
    refine ⟨_, rfl, _, rfl, v, placeOf s', rfl, hv, ?_, ?_, fun sv H1 z1 hs => ?_⟩
    · show (s'.belts.map fun b => (b.length : Int)).length ≤ 900
      rw [List.length_map, f.nb]
      omega
    · intro c hc
      have hc2 : c ∈ s'.belts.map fun b => (b.length : Int) := hc
      obtain ⟨b, hb, rfl⟩ := List.mem_map.mp hc2
      have := f.b5 b hb
      omega
    refine ⟨_, rfl, a, p, sv, _, b, d, -9, rfl, hp.mono z1, ok, hs, f2, Same.seqT z1 hd, hin, holds_of hpo2, fun c v2 o H2 z2 hc hv2 ho => ?_⟩
    refine ⟨_, _, rfl, hc, rfl, _, _, rfl, _, _, rfl, rfl, ?_⟩
    have bl : ∀ x ∈ (moved p (stateOf (placeOf s')) d (-9)).1.belts, x.length ≤ 3 := by
      rw [em]
      intro x hx
      have hx2 : x ∈ (moved p s' d n).1.belts.map (List.map (ren s' n)) := hx
      obtain ⟨y, hy, rfl⟩ := List.mem_map.mp hx2
      rw [List.length_map]
      exact gm.b3 y hy
    have nl : (moved p (stateOf (placeOf s')) d (-9)).1.belts.length = p.n := by
      rw [em]
      show ((moved p s' d n).1.belts.map (List.map (ren s' n))).length = _
      rw [List.length_map, fm.nb]
    have nq : (moved p (stateOf (placeOf s')) d (-9)).1.queues.length = p.n := by
      rw [em]
      show ((moved p s' d n).1.queues.map (List.map (ren s' n))).length = _
      rw [List.length_map, fm.nq]
    have ql : ∀ x ∈ (moved p (stateOf (placeOf s')) d (-9)).1.queues, x.length ≤ 900 := by
      rw [em]
      intro x hx
      have hx2 : x ∈ (moved p s' d n).1.queues.map (List.map (ren s' n)) := hx
      obtain ⟨y, hy, rfl⟩ := List.mem_map.mp hx2
      rw [List.length_map]
      exact Nat.le_trans (gm.q4 y hy) (by decide)
    have e1 : placeOf (moved p (stateOf (placeOf s')) d (-9)).1 = placeOf (moved p s' d n).1 := congrArg Prod.fst ebh
    have e2 : wordOf (moved p (stateOf (placeOf s')) d (-9)).2 = wordOf (moved p s' d n).2 := congrArg Prod.snd ebh
    refine ⟨_, rfl, v2, _, rfl, hv2, sim_nodup n1 g.sz g.pr g.n0 d hin hpo, ?_, by omega, by omega, ql, fun u H3 z3 hu => ?_⟩
    · have := order_len bl (m := 3) (by omega)
      omega
    refine ⟨_, rfl, _, _, rfl, ho.mono z3, ok_le (by simp), fun t m => ?_⟩
    have z4 := Same.up (o := .tup [u, wV (wordOf (moved p (stateOf (placeOf s')) d (-9)).2)]) m
    rw [e1] at hu
    rw [e2] at z4 ⊢
    exact k _ _ _ ((z1.trans z2).trans (z3.trans z4)) newT (hu.mono z4)
def sp_needMost : Sp := fun vs H Q _ => vs = [.int 600] ∧ Q .non H
theorem sc_need_most : FnScope ["most"] ["most"] (defScope s_need_most) := ⟨rfl, rfl, rfl, by decide +kernel, rfl, by decide +kernel, by decide +kernel⟩
theorem Txt.b_need_most (T : Txt w K mg) : Binds K (fdA K (He.ga K "need_most")) ["most"] [] := T.F_need_most.binds fun _ _ _ _ _ _ us hl => match us, hl with | [_], _ => rfl
theorem ok_need_most (T : Txt w K mg) : FnOk P w K mg base CX0 2 (He.ga K "need_most") (fdA K (He.ga K "need_most")) ["most"] (sp_needMost) := by
  refine T.F_need_most.ok sc_need_most (fun vs H Q E h => ?_) (fun cdv A outer s H vs Q E hr h => ?_)
  · obtain ⟨rfl, _⟩ := h
    rfl
  · obtain ⟨rfl, k⟩ := h
    refine ⟨_, (pss_one (ps_if (pt_not (pt_val (pe_call (ok_is_number T) (hr.mono (by decide)) (by rfl) T.g_is_number T.D_is_number.kp T.b_is_number .nil pass0 (pa_cons (pv 0) (pa_cons pe_int (pa_cons (C8.pe_gc rfl T.c_MOST_PLACES) pa_nil)))))) (pss_one ps_never) pss_nil)), ?_⟩
    exact ⟨_, rfl, _, _, _, rfl, _, rfl, noo rfl k⟩
def sp_isAstray : Sp := fun vs H Q _ => ∃ o, vs = [wV o, .bl false] ∧ Q (.bl (decide (o = some .other))) H
theorem sc_is_astray : FnScope ["word", "strict"] ["word", "strict"] (defScope s_is_astray) := ⟨rfl, rfl, rfl, by decide +kernel, rfl, by decide +kernel, by decide +kernel⟩
theorem Txt.b_is_astray (T : Txt w K mg) : Binds K (fdA K (He.ga K "is_astray")) ["word", "strict"] [] := T.F_is_astray.binds fun _ _ _ _ _ _ us hl => match us, hl with | [_, _], _ => rfl
theorem ok_is_astray (T : Txt w K mg) : FnOk P w K mg base CX0 1 (He.ga K "is_astray") (fdA K (He.ga K "is_astray")) ["word", "strict"] (sp_isAstray) := by
  refine T.F_is_astray.ok sc_is_astray (fun vs H Q E h => ?_) (fun cdv A outer s H vs Q E hr h => ?_)
  · obtain ⟨o, rfl, _⟩ := h
    rfl
  · obtain ⟨o, rfl, k⟩ := h
    refine ⟨_, (pss_one (ps_ret (pe_or (pe_cmpR op_eq (pv 0) pe_str (nomark _)) (pe_one (pe_and (pv 1) (pe_one (pe_cmpR op_eq (pv 0) pe_str (nomark _)))))))), ?_⟩
    rcases o with _ | ⟨_ | _ | _⟩
    · exact ⟨_, rfl, rfl, _, rfl, noo rfl ⟨_, rfl, _, rfl, noo rfl k⟩⟩
    · exact ⟨_, rfl, rfl, _, rfl, noo (by decide +kernel) ⟨_, rfl, _, rfl, noo rfl k⟩⟩
    · exact ⟨_, rfl, rfl, _, rfl, noo (by decide +kernel) ⟨_, rfl, _, rfl, noo rfl k⟩⟩
    · exact ⟨_, rfl, rfl, _, rfl, yes (by decide +kernel) k⟩
def sp_isStretch : Sp := fun vs H Q _ => ∃ o : Option Int, vs = [oV o] ∧ (∀ k, o = some k → 1 ≤ k ∧ k ≤ 12) ∧ Q (.bl true) H
theorem sc_is_stretch : FnScope ["value"] ["value"] (defScope s_is_stretch) := ⟨rfl, rfl, rfl, by decide +kernel, rfl, by decide +kernel, by decide +kernel⟩
theorem Txt.b_is_stretch (T : Txt w K mg) : Binds K (fdA K (He.ga K "is_stretch")) ["value"] [] := T.F_is_stretch.binds fun _ _ _ _ _ _ us hl => match us, hl with | [_], _ => rfl
theorem ok_is_stretch (T : Txt w K mg) : FnOk P w K mg base CX0 2 (He.ga K "is_stretch") (fdA K (He.ga K "is_stretch")) ["value"] (sp_isStretch) := by
  refine T.F_is_stretch.ok sc_is_stretch (fun vs H Q E h => ?_) (fun cdv A outer s H vs Q E hr h => ?_)
  · obtain ⟨o, rfl, _⟩ := h
    rfl
  · obtain ⟨o, rfl, ho, k⟩ := h
    refine ⟨_, (pss_one (ps_ret (pe_or (pe_cmpR op_isN (pv 0) pe_non (nomark _)) (pe_one (pe_call (ok_is_number T) (hr.mono (by decide)) (by rfl) T.g_is_number T.D_is_number.kp T.b_is_number .nil pass0 (pa_cons (pv 0) (pa_cons pe_int (pa_cons (C8.pe_gc rfl T.c_MOST_STRETCH) pa_nil)))))))), ?_⟩
    cases o with
    | none => exact ⟨_, rfl, rfl, _, rfl, yes rfl k⟩
    | some m =>
      have := ho m rfl
      refine ⟨_, rfl, rfl, _, rfl, noo rfl ?_⟩
      refine ⟨_, rfl, _, _, _, rfl, ?_⟩
      rw [decide_eq_true this.1, decide_eq_true this.2]
      exact k
def sp_isSlips (K : PySem.W.Frag) : Sp := fun vs H Q _ => ∃ (a : Addr) (m n : Int), vs = [.ref a] ∧ SqT K H a [.int m, .int n] ∧ 0 ≤ m ∧ m ≤ 3 ∧ 1 ≤ n ∧ n ≤ 6 ∧ Q (.bl true) H
theorem sc_is_slips : FnScope ["value"] ["value"] (defScope s_is_slips) := ⟨rfl, rfl, rfl, by decide +kernel, rfl, by decide +kernel, by decide +kernel⟩
theorem Txt.b_is_slips (T : Txt w K mg) : Binds K (fdA K (He.ga K "is_slips")) ["value"] [] := T.F_is_slips.binds fun _ _ _ _ _ _ us hl => match us, hl with | [_], _ => rfl
theorem ok_is_slips (T : Txt w K mg) : FnOk P w K mg base CX0 2 (He.ga K "is_slips") (fdA K (He.ga K "is_slips")) ["value"] (sp_isSlips K) := by
  refine T.F_is_slips.ok sc_is_slips (fun vs H Q E h => ?_) (fun cdv A outer s H vs Q E hr h => ?_)
  · obtain ⟨a, m, n, rfl, _⟩ := h
    rfl
  · obtain ⟨a, m, n, rfl, ha, m1, m2, n1, n2, k⟩ := h
    refine ⟨_, (pss_one (ps_ret (pe_and (pe_callB call_isi (by rfl) T.f_isinstance (by decide +kernel) (pa_cons (pv 0) (pa_cons (pe_bltn (v := .ty "tuple") (u := .type "tuple") (by rfl) T.f_tuple (by decide +kernel) rfl) pa_nil))) (pe_and (pe_cmpR op_eq (pe_callB (cr_lenK (K := K)) (by rfl) T.f_len (by decide +kernel) (pa_cons (pv 0) pa_nil)) pe_int (nomark _)) (pe_and (pe_call (ok_is_number T) (hr.mono (by decide)) (by rfl) T.g_is_number T.D_is_number.kp T.b_is_number .nil pass0 (pa_cons (pe_ix ix_tup (pv 0) pe_int (fun _ _ => rfl)) (pa_cons pe_int (pa_cons pe_int pa_nil)))) (pe_one (pe_call (ok_is_number T) (hr.mono (by decide)) (by rfl) T.g_is_number T.D_is_number.kp T.b_is_number .nil pass0 (pa_cons (pe_ix ix_tup (pv 0) pe_int (fun _ _ => rfl)) (pa_cons pe_int (pa_cons pe_int pa_nil)))))))))), ?_⟩
    refine ⟨_, rfl, _, _, _, _, true, rfl, .ty _, tyTup ha, kit_ty (by decide +kernel), true, rfl, yes rfl ?_⟩
    refine ⟨_, rfl, _, _, rfl, .inr ha, rfl, _, rfl, yes rfl ?_⟩
    refine ⟨_, rfl, _, _, _, _, rfl, rfl, ha, rfl, _, _, _, rfl, _, rfl, ?_⟩
    rw [decide_eq_true m1, decide_eq_true m2]
    refine yes rfl ?_
    refine ⟨_, rfl, _, _, _, _, rfl, rfl, ha, rfl, _, _, _, rfl, ?_⟩
    rw [decide_eq_true n1, decide_eq_true n2]
    exact k
def sp_needChute : Sp := fun vs H Q _ => ∃ n : Int, vs = [.int n] ∧ 1 ≤ n ∧ n ≤ 9 ∧ Q .non H
theorem sc_need_chute : FnScope ["chute"] ["chute"] (defScope s_need_chute) := ⟨rfl, rfl, rfl, by decide +kernel, rfl, by decide +kernel, by decide +kernel⟩
theorem Txt.b_need_chute (T : Txt w K mg) : Binds K (fdA K (He.ga K "need_chute")) ["chute"] [] := T.F_need_chute.binds fun _ _ _ _ _ _ us hl => match us, hl with | [_], _ => rfl
theorem ok_need_chute (T : Txt w K mg) : FnOk P w K mg base CX0 2 (He.ga K "need_chute") (fdA K (He.ga K "need_chute")) ["chute"] (sp_needChute) := by
  refine T.F_need_chute.ok sc_need_chute (fun vs H Q E h => ?_) (fun cdv A outer s H vs Q E hr h => ?_)
  · obtain ⟨n, rfl, _⟩ := h
    rfl
  · obtain ⟨n, rfl, n1, n2, k⟩ := h
    refine ⟨_, (pss_one (ps_if (pt_not (pt_val (pe_call (ok_is_number T) (hr.mono (by decide)) (by rfl) T.g_is_number T.D_is_number.kp T.b_is_number .nil pass0 (pa_cons (pv 0) (pa_cons pe_int (pa_cons pe_int pa_nil)))))) (pss_one ps_never) pss_nil)), ?_⟩
    refine ⟨_, rfl, _, _, _, rfl, _, rfl, ?_⟩
    rw [decide_eq_true n1, decide_eq_true n2]
    exact noo rfl k
end
end Ow
set_option Elab.async false
set_option linter.all false
set_option maxRecDepth 100000
set_option maxHeartbeats 4000000
/-! a dict whose keys are nested tuples of ints -/
namespace Ow
open PySem PySem.Spec PyProof.Rows L2
/-! ### keys -/
mutual
inductive KeyAt (K : PySem.W.Frag) (H : Hp) : NestedKey → V → Prop
  | num (i : Int) : KeyAt K H (.num i) (.int i)
  | tup {a : Addr} {xs : List V} {ks : List NestedKey} : SqT K H a xs → KeysAt K H ks xs → KeyAt K H (.tup ks) (.ref a)
inductive KeysAt (K : PySem.W.Frag) (H : Hp) : List NestedKey → List V → Prop
  | nil : KeysAt K H [] []
  | cons {k : NestedKey} {v : V} {ks : List NestedKey} {vs : List V} : KeyAt K H k v → KeysAt K H ks vs → KeysAt K H (k :: ks) (v :: vs)
end
section
variable {X : Cx} {pins : List (Addr × Obj)} {σ : L2.St} {H : Hp} {s : Shared}
mutual
theorem KeyAt.is (I : Inv X pins σ H s) : ∀ (k : NestedKey) (v : V) (u : Value), KeyAt X.K H k v → RelV v u → NestedIs s.heap k u
  | .none, _, _, h, _ => by cases h
  | .num i, _, _, h, r => by
    cases h
    obtain ⟨t, rfl⟩ := r
    exact .int i t
  | .text _, _, _, h, _ => by cases h
  | .tup ks, _, _, h, r => by
    cases h with
    | tup hs ha =>
      cases r
      obtain ⟨its, rv, ⟨o, ho, hc, n, hd⟩, _⟩ := I.tuple hs
      exact .tup ho hc hd (KeysAt.is I ks _ its ha rv)
theorem KeysAt.is (I : Inv X pins σ H s) : ∀ (ks : List NestedKey) (vs : List V) (us : List Value), KeysAt X.K H ks vs → Vals vs us → NestedAll s.heap ks us
  | [], _, _, h, r => by
    cases h
    cases r
    exact .nil
  | k :: ks, _, _, h, r => by
    cases h with
    | cons h1 h2 =>
      cases r with
      | cons r1 r2 => exact .cons (KeyAt.is I k _ _ h1 r1) (KeysAt.is I ks _ _ h2 r2)
end
end
section
variable {K : PySem.W.Frag} {H H' : Hp}
mutual
theorem KeyAt.mono (e : ∀ a xs, SqT K H a xs → SqT K H' a xs) : ∀ (k : NestedKey) (v : V), KeyAt K H k v → KeyAt K H' k v
  | .none, _, h => by cases h
  | .num i, _, h => by
    cases h
    exact .num i
  | .text _, _, h => by cases h
  | .tup ks, _, h => by
    cases h with
    | tup hs ha => exact .tup (e _ _ hs) (KeysAt.mono e ks _ ha)
theorem KeysAt.mono (e : ∀ a xs, SqT K H a xs → SqT K H' a xs) : ∀ (ks : List NestedKey) (vs : List V), KeysAt K H ks vs → KeysAt K H' ks vs
  | [], _, h => by
    cases h
    exact .nil
  | k :: ks, _, h => by
    cases h with
    | cons h1 h2 => exact .cons (KeyAt.mono e k _ h1) (KeysAt.mono e ks _ h2)
end
end
/-! ### the dict -/
abbrev NX : Type := NestedKey × Addr × Value
/-- what is true of the dict's own object -/
def nPhi (P : Program) (w : World) (d : Addr) (xs : List NX) : Heap → Prop := fun h => ∃ o es ep, h.get? d = some o ∧ o.ExactDict ∧ o.data = .dict es ep ∧ es.toList = xs.map (entryOfKey (nestedKind P w)) ∧ (xs.map (·.1)).Nodup
def nHO (P : Program) (w : World) (d : Addr) (xs : List NX) : HO := .ext (nPhi P w d xs)
def NKeys (K : PySem.W.Frag) (H : Hp) (xs : List NX) : Prop := ∀ x ∈ xs, KeyAt K H x.1 (.ref x.2.1) ∧ x.1.depth ≤ 8
structure NDict (P : Program) (w : World) (K : PySem.W.Frag) (H : Hp) (d : Addr) (xs : List NX) : Prop where
  at_ : H d = some (nHO P w d xs)
  lo : (d == sysModules) = false
  keys : NKeys K H xs
theorem NDict.mono {P : Program} {w : World} {K : PySem.W.Frag} {H H' : Hp} {d : Addr} {xs : List NX} (e : Same H H') (h : NDict P w K H d xs) : NDict P w K H' d xs :=
  ⟨e _ _ h.at_, h.lo, fun x hx => ⟨KeyAt.mono (fun _ _ => Same.seqT e) _ _ (h.keys x hx).1, (h.keys x hx).2⟩⟩
theorem nObjOk {P : Program} {w : World} {H : Hp} {h : Heap} {d : Addr} {xs : List NX} (p : nPhi P w d xs h) : ObjOk P w H h d (nHO P w d xs) := by
  refine ⟨p, ?_, fun h1 h2 p1 k => ?_⟩
  · obtain ⟨o, _, _, e, _⟩ := p
    exact ⟨o, e⟩
  · obtain ⟨o, es, ep, e, r⟩ := p1
    exact ⟨o, es, ep, k o e, r⟩
section
variable {X : Cx} {pins : List (Addr × Obj)} {σ : L2.St} {H : Hp} {s : Shared}
theorem NDict.ofH (I : Inv X pins σ H s) {d : Addr} {xs : List NX} (n : NDict X.prog X.w X.K H d xs) : s.heap.DictOfH (nestedKind X.prog X.w) d xs := by
  obtain ⟨⟨o, es, ep, e, c, dt, el, nd⟩, _, _⟩ := (show ObjOk X.prog X.w H s.heap d (nHO X.prog X.w d xs) from I.hok d _ n.at_)
  exact ⟨o, es, ep, e, c, dt, el, fun x hx => ⟨KeyAt.is I _ _ _ (n.keys x hx).1 rfl, (n.keys x hx).2⟩, nd⟩
theorem nRoom {A : Around} (hu : A.units + 64 < cLine) : (nestedKind X.prog X.w).room A.in1 := by
  show A.in1.units + 8 < cLine
  have : A.in1.units = A.units + 1 := rfl
  omega
theorem nRoom0 {A : Around} (hu : A.units + 64 < cLine) : (nestedKind X.prog X.w).room A := by
  show A.units + 8 < cLine
  omega
end
/-! ### rules -/
def tNGet (P : Program) (w : World) (K : PySem.W.Frag) (td ty : TE) : TE := fun σ H Q => td σ H fun x H1 => ty σ H1 fun y H2 => ∃ a xs k b l, x = .ref a ∧ y = .ref b ∧ NDict P w K H2 a xs ∧ KeyAt K H2 k (.ref b) ∧ k.depth ≤ 8 ∧ (∃ c, atKey xs k = some (c, Value.ref l)) ∧ Q (.ref l) H2
def tNNotIn (P : Program) (w : World) (K : PySem.W.Frag) (ty td : TE) : TE := fun σ H Q => ty σ H fun y H1 => td σ H1 fun x H2 => ∃ a xs k b, x = .ref a ∧ y = .ref b ∧ NDict P w K H2 a xs ∧ KeyAt K H2 k (.ref b) ∧ k.depth ≤ 8 ∧ Q (.bl (!(atKey xs k).isSome)) H2
/-- a new key -/
def sNPut (P : Program) (w : World) (K : PySem.W.Frag) (td ty tv : TE) : TS := fun D σ H => tv σ H fun v H1 => td σ H1 fun x H2 => ty σ H2 fun y H3 => ∃ a xs k b l, v = .ref l ∧ x = .ref a ∧ y = .ref b ∧ NDict P w K H3 a xs ∧ KeyAt K H3 k (.ref b) ∧ k.depth ≤ 8 ∧
  atKey xs k = none ∧ xs.length ≤ 1000 ∧ D.nx σ (upd H3 a (nHO P w a (xs ++ [(k, b, Value.ref l)])))
def tNDisp (P : Program) (w : World) (K : PySem.W.Frag) (tk tv : TE) : TE := fun σ H Q => ∀ d, H d = none → (d == sysModules) = false → tk σ (upd H d (nHO P w d [])) fun x H1 => tv σ H1 fun y H2 => ∃ k b l, x = .ref b ∧ y = .ref l ∧
  H2 d = some (nHO P w d []) ∧ KeyAt K H2 k (.ref b) ∧ k.depth ≤ 8 ∧ Q (.ref d) (upd H2 d (nHO P w d [(k, b, Value.ref l)]))
def rListN (P : Program) (w : World) (K : PySem.W.Frag) : List V → Hp → VK → Prop := fun vs H Q => ∃ d xs, vs = [.ref d] ∧ NDict P w K H d xs ∧ xs.length ≤ 1000 ∧ ∀ q, H q = none → Q (.ref q) (upd H q (.lst (xs.map fun x => .ref x.2.1)))
section
variable {X : Cx} {i o : Expr} {td ty tv tk : TE} {pos pos' : Pos}
theorem pe_nget (hu : X.A.units + 64 < cLine) (ho : PE X o td) (hi : PE X i ty) (hs : NoSl i) : PE X (.Subscript o i pos) (tNGet X.prog X.w X.K td ty) := by
  refine ⟨fun pins s σ H Q I h => ?_⟩
  refine subD_of PySem.F.slot_dict_getitem.lookup hs (thn (ho.run pins s σ H _ I h) fun u s1 ⟨x, H1, I1, rx, q1⟩ => thn (hi.run pins s1 σ H1 _ I1 q1) fun iv s2 ⟨y, H2, I2, ry, a, xs, k, b, l, ex, ey, n, hk, hd, ⟨c, hc⟩, q2⟩ => ?_)
  subst ex ey
  obtain rfl : u = Value.ref a := rx
  obtain rfl : iv = Value.ref b := ry
  have dd := n.ofH I2
  refine ⟨dd.typeIs, wpAny_getItem_heap (nRoom (X := X) hu) ⟨KeyAt.is I2 _ _ _ hk rfl, hd⟩ dd hc ?_⟩
  exact ⟨.ref l, H2, I2.tok _, rfl, q2⟩
theorem pc_nnotin (hu : X.A.units + 64 < cLine) (hi : PE X i ty) (ho : PE X o td) : PC X .NotIn i o (tNNotIn X.prog X.w X.K ty td) := by
  refine ⟨fun pins s σ H Q I h => ?_⟩
  refine thn (hi.run pins s σ H _ I h) fun iv s1 ⟨y, H1, I1, ry, q1⟩ => thn (ho.run pins s1 σ H1 _ I1 q1) fun u s2 ⟨x, H2, I2, rx, a, xs, k, b, ex, ey, n, hk, hd, q2⟩ => ?_
  subst ex ey
  obtain rfl : u = Value.ref a := rx
  obtain rfl : iv = Value.ref b := ry
  refine wpAny_notIn_heap (nRoom (X := X) hu) ⟨KeyAt.is I2 _ _ _ hk rfl, hd⟩ n.lo (n.ofH I2) ?_
  exact ⟨.bl _, H2, I2.tok _, rfl, q2⟩
theorem ps_nput {value : Expr} (hu : X.A.units + 64 < cLine) (ho : PE X o td) (hi : PE X i ty) (hv : PE X value tv) (hs : swapsWith value (some (.Subscript o i pos')) pos.line X.env = pure false) :
    PS X (.Assign [.Subscript o i pos'] value pos) (sNPut X.prog X.w X.K td ty tv) := by
  refine ⟨fun pins s σ H D I h => ?_⟩
  refine wpAny_Assign_Subscript (thn (hv.run pins s σ H _ I h) fun r s1 ⟨v, H1, I1, rv, q1⟩ => thn (ho.run pins s1 σ H1 _ I1 q1) fun u s2 ⟨x, H2, I2, rx, q2⟩ => thn (hi.run pins s2 σ H2 _ I2 q2) fun iv s3 ⟨y, H3, I3, ry, a, xs, k, b, l, ev, ex, ey, n, hk, hd, hn, hz, q3⟩ => ?_) hs
  subst ev ex ey
  obtain rfl : u = Value.ref a := rx
  obtain rfl : iv = Value.ref b := ry
  obtain rfl : r = Value.ref l := rv
  refine wpAny_setItem_heap (hsz := Nat.le_trans hz (by decide)) (nRoom (X := X) hu) ⟨KeyAt.is I3 _ _ _ hk rfl, hd⟩ (n.ofH I3) fun h' dd' sb => ?_
  rw [storedH_new hn] at dd'
  obtain ⟨o', es, ep, e1, e2, e3, e4, e5, e6⟩ := id dd'
  exact ⟨σ, _, d_write I3 (by rw [n.at_]; exact True.intro) sb ⟨_, e1⟩ (nObjOk ⟨o', es, ep, e1, e2, e3, e4, e6⟩), q3⟩
theorem pe_ndisp {k v : Expr} (hu : X.A.units + 64 < cLine) (hk : PE X k tk) (hv : PE X v tv) : PE X (.Dict [some k] [v] pos) (tNDisp X.prog X.w X.K tk tv) := by
  refine ⟨fun pins s σ H Q I q => ?_⟩
  have hn := I.hok.fresh (Nat.le_refl s.heap.objs.size)
  have lo : (s.heap.objs.size == sysModules) = false := beq_eq_false_iff_ne.mpr (Ne.symm (Nat.ne_of_lt I.big))
  have I1 := I.laid (a := s.heap.objs.size) (o := nHO X.prog X.w s.heap.objs.size []) (h' := s.heap.push { cls := .type "dict", data := .dict #[] }) (t' := s.toks) (fun _ _ q => Heap.get?_push_of_some _ q) (Nat.le_refl _)
    (nObjOk ⟨_, #[], 0, Heap.get?_push_size _ rfl, ⟨rfl, rfl, rfl⟩, rfl, rfl, List.nodup_nil⟩)
  rw [arm_eval_Dict, zip_pairTrees [some k] [v] X.env pos rfl rfl, dictDisplay_pairs (pairTrees [some k] [v] X.env pos) (fun z => nomatch z) (by show 1 < 17; decide)]
  refine wpAny_bind (wpAny_standAt (wpAny_bind (wpAny_subDictH (knd := nestedKind X.prog X.w) (Q := fun d s' => wpAny (model X.prog X.w) X.A (pure (Value.ref d)) (EP X pins σ Q) X.xe s') (nRoom0 (X := X) hu) (by show 1 ≤ 15; decide) ?_)))
  refine pairTrees_cons_walk (thn (hk.run pins _ σ _ _ I1 (q _ hn lo)) fun u s1 ⟨x, H1, I1, rx, q1⟩ => thn (hv.run pins s1 σ H1 _ I1 q1) fun r s2 ⟨y, H2, I2, ry, kk, b, l, ex, ey, e, hkk, hd, q2⟩ => pairTrees_nil_walk ?_)
  subst ex ey
  obtain rfl : u = Value.ref b := rx
  obtain rfl : r = Value.ref l := ry
  have nd0 : NDict X.prog X.w X.K H2 s.heap.objs.size [] := ⟨e, lo, fun x hx => nomatch hx⟩
  refine ⟨[(kk, b, Value.ref l)], ⟨rfl, rfl, ⟨KeyAt.is I2 _ _ _ hkk rfl, hd⟩, True.intro⟩, nd0.ofH I2, fun h' tk' dd sb => ?_⟩
  have dd2 : h'.DictOfH (nestedKind X.prog X.w) s.heap.objs.size [(kk, b, Value.ref l)] := dd
  obtain ⟨o', es, ep, e1, e2, e3, e4, e5, e6⟩ := id dd2
  exact wpAny_pure ⟨.ref _, _, d_write I2 (by rw [e]; exact True.intro) sb ⟨_, e1⟩ (nObjOk ⟨o', es, ep, e1, e2, e3, e4, e6⟩), rfl, q2⟩
theorem call_listN (hc : X.calm = true) : CallR X (.type "list") (rListN X.prog X.w X.K) := by
  intro pins s σ H xs us Q I r h
  obtain ⟨d, ys, e, n, hz, q⟩ := h
  subst e
  obtain ⟨u, eu, rx⟩ := vals1 r
  subst eu
  obtain rfl : u = Value.ref d := rx
  obtain ⟨⟨o, es, ep, e1, e2, e3, e4, e5⟩, _, _⟩ := (show ObjOk X.prog X.w H s.heap d (nHO X.prog X.w d ys) from I.hok d _ n.at_)
  have hl : es.size = ys.length := by rw [← Array.length_toList, e4, List.length_map]
  refine PySem.W.kdl_call (kdl_raw n.lo e2 e3) (I.ok.hd hc) e1 (by rw [hl]; exact Nat.le_trans hz (by decide)) fun h' tk acc' c' hkeep hS hacc => ?_
  refine ⟨.ref s.heap.objs.size, upd H s.heap.objs.size (.lst (ys.map fun x => .ref x.2.1)), I.laid hkeep (Nat.le_refl _) (show ObjOk X.prog X.w _ _ _ (.lst (ys.map fun x => .ref x.2.1)) from ⟨?_, acc'.toList, c', ?_, ?_⟩), rfl, q _ (I.hok.fresh (Nat.le_refl _))⟩
  · rw [List.length_map]
    exact Nat.le_trans hz (by decide)
  · have el : acc'.toList.length = acc'.size := by simp
    refine vals_of_at (by rw [List.length_map, el, hacc.1, hl]) fun j x w h1 h2 => ?_
    obtain ⟨en, hen, hw⟩ := hacc.2 j w (by rw [← Array.getElem?_toList]; exact h2)
    have h3 : es.toList[j]? = some en := by rw [Array.getElem?_toList]; exact hen
    rw [e4, List.getElem?_map] at h3
    rw [List.getElem?_map] at h1
    cases hy : ys[j]? with
    | none =>
      rw [hy] at h1
      cases h1
    | some y =>
      rw [hy] at h1 h3
      cases h1
      cases h3
      rw [hw]
      rfl
  · rw [Array.toArray_toList]; exact hS
end
end Ow
set_option Elab.async false
set_option linter.all false
set_option maxRecDepth 100000
set_option maxHeartbeats 4000000
/-! defs with *args and keyword-only parameters, called with all of these -/
namespace Ow
open PySem PySem.Spec PyProof.Rows L2
/-- n items for the starred parameter, the keywords ks; what is bound is g of self, of the keywords' values, of the new tuple -/
def FnS (P : Program) (w : World) (K : PySem.W.Frag) (mg : Str → Option Value) (base : Heap) (CX : CXT) (k : Nat) (f : Addr) (n : Nat) (ks : List Str) (gV : V → List V → V → List V) (sp : Sp) : Prop :=
  ∀ (A : Around) (outer : List Env) (s : Shared) (H : Hp) (u : Value) (rest ws : List Value) (v : V) (vr vw : List V) (Q : VK) (E : XK), Room k A → Env0 P w K mg base A outer s H → RelV v u → Vals vr rest → Vals vw ws → vr.length = n → vw.length = ks.length → vr.length ≤ sizeLine →
    (∀ p, H p = none → sp (gV v vw (.ref p)) (upd H p (.tup vr)) Q E) → codeAny (model P w) A (.call (.ref f) ⟨u :: rest, ks.zip ws⟩) (CR CX outer P w H s Q E) s
section
variable {CX : CXT} {P : Program} {w : World} {K : PySem.W.Frag} {mg : Str → Option Value} {base : Heap} {k : Nat} {f : Addr} {fd : FuncData} {x qual : Str} {params : Arguments} {body : List Stmt} {scope : Scope} {N ps : List Str} {sp : Sp} {n : Nat} {ks : List Str} {gV : V → List V → V → List V}
theorem fn_starS {kws : List (Str × V)} (F : FunD K x qual params body scope [] kws f fd) (S : FnScope N ps scope) (hCX : StX.CXUp CX) (g : Value → List Value → Value → List Value)
    (hg : ∀ {v : V} {u : Value} {zs : List V} {ws : List Value} {t : V} {r : Value}, RelV v u → Vals zs ws → RelV t r → zs.length = ks.length → Vals (gV v zs t) (g u ws r) ∧ (gV v zs t).length = ps.length)
    (hb : ∀ (kV doc pm cdv ct : Value) (an : Option Addr) (u : Value) (rest ws : List Value), rest.length = n → ws.length = ks.length → bindArgs (PySem.W.fnOf x qual params body scope .none kV doc pm an cdv ct) ⟨u :: rest, ks.zip ws⟩ = (newTuple rest >>= fun t => pure (ps.zip (g u ws t))))
    (hbody : ∀ (cdv : Value) (A : Around) (outer : List Env) (s : Shared) (H : Hp) (vs : List V) (Q : VK) (E : XK), Room k (A.deeper (envOfC qual scope s.heap.objs.size f cdv)) → sp vs H Q E →
      ∃ t, PSs (cxOf CX P w K mg base N qual scope f cdv A outer s H E).nox body t ∧ t { nx := fun _ H' => Q .non H', rt := Q } (start N vs) H) :
    FnS P w K mg base CX (k + 1) f n ks gV sp := by
  intro A outer s H u rest ws v vr vw Q E hr e0 ru rr rw' hn hks hz hq
  obtain ⟨oc, od, dV, kV, doc, pm, an, cdv, ct, osl, rfl, lk, hcd, hD, hK⟩ := F.ex
  obtain rfl : dV = .none := by
    rcases hD with ⟨_, e⟩ | ⟨e, _⟩
    · exact e
    · exact absurd rfl e
  have hfree : H s.heap.objs.size = none := e0.hok.fresh (Nat.le_refl _)
  have l1 : rest.length = n := rr.length.symm.trans hn
  have l2 : ws.length = ks.length := rw'.length.symm.trans hks
  have hz2 : rest.length ≤ sizeLine := by rw [← rr.length]; exact hz
  refine StX.run_bnd lk hcd S hr e0 (G := fun xs H2 => ∃ p, H p = none ∧ xs = gV v vw (.ref p) ∧ H2 = upd H p (.tup vr)) (fun A' Ex Q' h => ?_) fun s2 H2 xs ⟨p, hp, ex, eH⟩ hr' => ?_
  · rw [hb kV doc pm cdv ct an u rest ws l1 l2]
    refine wpAny_bind (wpAny_newTuple (wpAny_pure ?_) hz2)
    have new : ObjOk P w (upd H s.heap.objs.size (.tup vr)) (s.heap.push ({ cls := .type "tuple", data := .seq rest.toArray } : Obj)) s.heap.objs.size (.tup vr) := ⟨hz, rest, rr, ⟨_, Heap.get?_push_size _ rfl, rfl, _, rfl⟩⟩
    have un := StX.un_laid (fs := frs outer) (s := s) (o := ({ cls := .type "tuple", data := .seq rest.toArray } : Obj)) (u := .tup vr) hfree
    obtain ⟨r1, r2⟩ := hg (t := .ref s.heap.objs.size) (r := Value.ref s.heap.objs.size) ru rw' rfl hks
    exact h _ _ (gV v vw (.ref s.heap.objs.size)) (g u ws (Value.ref s.heap.objs.size)) (StX.env0_laid e0 new) un rfl (fun e s' => hCX outer s H _ _ E e s' un (fun b o q => Heap.get?_push_of_some _ q) rfl) r1 r2 ⟨_, hfree, rfl, rfl⟩
  · subst ex eH
    obtain ⟨t, ht, hqq⟩ := hbody cdv A outer s2 _ _ Q E hr' (hq p hp)
    exact ⟨t, ht.nox, hqq⟩
end
/-- C(e, .., k = v, ..) -/
def tMakeS (C : Addr) (n m : Nat) (gV : V → List V → V → List V) (sp : Sp) (E : XK) (t tk : TA) : TE := fun σ H Q => t σ H fun vs H1 => tk σ H1 fun zs H2 => vs.length = n ∧ zs.length = m ∧ vs.length ≤ sizeLine ∧ ∀ x dx p, H2 x = none → H2 dx = none → dx ≠ x → H2 p = none → p ≠ x → p ≠ dx →
  sp (gV (.ref x) zs (.ref p)) (upd (upd (upd H2 dx (.own x)) x (.ins C dx [])) p (.tup vs)) (fun v H3 => v = .non ∧ Q (.ref x) H3) E
/-- o.m(e, .., k = v, ..) -/
def tMethS (C : Addr) (m : Str) (n mk : Nat) (gV : V → List V → V → List V) (sp : Sp) (E : XK) (ta : TE) (t tk : TA) : TE := fun σ H Q => ta σ H fun x H1 => ∃ a dx fs, x = .ref a ∧ H1 a = some (.ins C dx fs) ∧ fs.lookup m = none ∧ t σ H1 fun vs H2 => tk σ H2 fun zs H3 => vs.length = n ∧ zs.length = mk ∧ vs.length ≤ sizeLine ∧
  ∀ p, H3 p = none → sp (gV x zs (.ref p)) (upd H3 p (.tup vs)) Q E
section
variable {X : Cx} {CX : CXT} {k n : Nat} {f C : Addr} {ks : List Str} {sp : Sp} {E : XK} {x m : Str} {p apos pos : Pos} {e o : Expr} {es : List Expr} {kws : List Keyword} {ta : TE} {t tk : TA} {gV : V → List V → V → List V}
theorem pe_makeS (M : Mk X.K C f) (F : FnS X.prog X.w X.K X.mg X.base CX k f n ks gV sp) (hr : Room (k + 1) X.A) (hg : Gl X x) (hm : X.mg x = some (.ref C)) (hx : Passes CX X E) (ha : PA X (e :: es) t) (hkw : PK X kws tk)
    (hall : (backToKw pos (keywordEach kws X.env)).all (·.1.isSome) = true := by rfl) (hks : (backToKw pos (keywordEach kws X.env)).filterMap (·.1) = ks := by rfl) (hdb : (x == ("__debug__" : Str)) = false := by decide)
    (he : starEach (e :: es) X.env = (false, eval e X.env) :: starEach es X.env := by rfl) (hpl : ((backTo pos (starEach (e :: es) X.env)).any (·.1) || (backToKw pos (keywordEach kws X.env)).any (·.1.isNone)) = false := by rfl) :
    PE X (.Call (.Name x p) (e :: es) kws pos) (tMakeS C n ks.length gV sp E t tk) := by
  refine ⟨fun pins s σ H Q I h => ?_⟩
  refine wpAny_Call_Name_kw (ld_glob I hg hm ?_ hdb)
  refine PySem.W.callWith_KW (h₀ := X.base) I.ok.mod.kin M.kp hall (thn (ha.run pos pins s σ H _ I h) fun us s1 ⟨vs, H1, I1, r, q⟩ => ?_) hpl he
  refine thn (hkw.run pos pins s1 σ H1 _ I1 q) fun ws s2 ⟨zs, H2, I2, rz, l1, l2, l3, q2⟩ => ⟨I2.kIn, ?_⟩
  rw [hks]
  have nx : H2 (s2.heap.objs.size + 1) = none := I2.hok.fresh (Nat.le_succ _)
  have nd : H2 s2.heap.objs.size = none := I2.hok.fresh (Nat.le_refl _)
  have ne : s2.heap.objs.size ≠ s2.heap.objs.size + 1 := Nat.ne_of_lt (Nat.lt_succ_self _)
  have I3 := Inv.made (C := C) I2
  refine wpAny_call (make_map (f := f) I2.kIn M.makes M.init (beq_iff_eq.mp M.fn) (codeAny_mono (F _ X.stack _ _ (Value.ref (s2.heap.objs.size + 1)) us ws (.ref (s2.heap.objs.size + 1)) vs zs (fun v H3 => v = .non ∧ Q (.ref (s2.heap.objs.size + 1)) H3) E (hr.make C us (ks.zip ws))
    (I3.env0.make C us (ks.zip ws)) rfl r rz l1 l2 l3 fun p hp => ?_) fun r s' hq' => ?_))
  · have hpx : p ≠ s2.heap.objs.size + 1 := fun e => by
      rw [e, upd_same] at hp
      cases hp
    rw [upd_ne hpx] at hp
    have hpd : p ≠ s2.heap.objs.size := fun e => by
      rw [e, upd_same] at hp
      cases hp
    rw [upd_ne hpd] at hp
    exact q2 _ _ p nx nd ne hp hpx hpd
  cases r with
  | error e => exact hx pins σ _ _ e s' I3 hq'
  | ok fl =>
    cases fl with
    | ret u =>
      obtain ⟨v, H', I4, rv, ev, q3⟩ := I3.after hq'
      subst ev
      exact ⟨rv, ⟨V.ref (s2.heap.objs.size + 1), H', I4, rfl, q3⟩⟩
    | next => exact False.elim hq'
    | brk => exact False.elim hq'
    | cont => exact False.elim hq'
theorem pe_methS {pl : Sem Bool} (ho : PE X o ta) (c : Cls X.K C) (hm : Meth X.K C m f) (F : FnS X.prog X.w X.K X.mg X.base CX k f n ks gV sp) (hr : Room k X.A) (hx : Passes CX X E) (ha : PA X (e :: es) t) (hkw : PK X kws tk)
    (hall : (backToKw pos (keywordEach kws X.env)).all (·.1.isSome) = true := by rfl) (hks : (backToKw pos (keywordEach kws X.env)).filterMap (·.1) = ks := by rfl)
    (he : starEach (e :: es) X.env = (false, eval e X.env) :: starEach es X.env := by rfl) (hpl : ((backTo pos (starEach (e :: es) X.env)).any (·.1) || (backToKw pos (keywordEach kws X.env)).any (·.1.isNone)) = false := by rfl)
    (ht : eval (.Call (.Attribute o m apos) (e :: es) kws pos) X.env = (do
      let ov ← eval o X.env
      standAt apos.atName
      let (f, first) ← holding [ov] (getMethod ov m pl)
      callWith pos f first (backTo pos (starEach (e :: es) X.env)) (backToKw pos (keywordEach kws X.env))) := by rfl) :
    PE X (.Call (.Attribute o m apos) (e :: es) kws pos) (tMethS C m n ks.length gV sp E ta t tk) := by
  refine ⟨fun pins s σ H Q I h => ?_⟩
  refine PySem.W.methodCall_KW (pl := pl) (thn (ho.run pins s σ H _ I h) fun u s1 ⟨x, H1, I1, rx, a, dx, fs, ex, ea, l, q⟩ => ?_) ht
  subst ex
  obtain rfl : u = Value.ref a := rx
  refine getmeth_ok I1 ea c hm l ?_
  refine PySem.W.callWith_KW (first := [.ref a]) (h₀ := X.base) I.ok.mod.kin hm.kp hall (thn (ha.run pos pins s1 σ H1 _ I1 q) fun us s2 ⟨vs, H2, I2, r, q2⟩ => ?_) hpl he
  refine thn (hkw.run pos pins s2 σ H2 _ I2 q2) fun ws s3 ⟨zs, H3, I3, rz, l1, l2, l3, q3⟩ => ⟨I3.kIn, ?_⟩
  rw [hks]
  refine wpAny_call (codeAny_mono (F _ X.stack _ _ (Value.ref a) us ws (.ref a) vs zs _ E hr I3.env0 rfl r rz l1 l2 l3 q3) fun r s' hq' => ?_)
  cases r with
  | error e => exact hx pins σ _ _ e s' I3 hq'
  | ok fl =>
    cases fl with
    | ret u => exact I3.after hq'
    | next => exact False.elim hq'
    | brk => exact False.elim hq'
    | cont => exact False.elim hq'
end
end Ow
set_option Elab.async false
set_option linter.all false
set_option maxRecDepth 100000
set_option maxHeartbeats 4000000
namespace Ow
open PySem PySem.Spec PyProof.Rows L2
section
variable {P : Program} {w : World} {K : PySem.W.Frag} {mg : Str → Option Value} {base : Heap}
/-- all but the object at x stay -/
def SameX (x : Addr) (H H' : Hp) : Prop := ∀ b o, b ≠ x → H b = some o → H' b = some o
theorem SameX.of {x : Addr} {H H' : Hp} (e : Same H H') : SameX x H H' := fun b o _ h => e b o h
theorem SameX.trans {x : Addr} {H H1 H2 : Hp} (a : SameX x H H1) (b : SameX x H1 H2) : SameX x H H2 := fun c o n h => b c o n (a c o n h)
theorem SameX.put {x : Addr} {H : Hp} {o : HO} : SameX x H (upd H x o) := fun b u n h => by
  rw [upd_ne n]
  exact h
/-- __init__ that keeps one list -/
def sp_init1 (K : PySem.W.Frag) (f : Str) : Sp := fun vs H Q _ => ∃ (C x dx l : Addr) (xs : List V), vs = [.ref x, .ref l] ∧ H x = some (.ins C dx []) ∧ Cls K C ∧ NoAttr K C f ∧ SqL K H l xs ∧
  ∀ m H', SameX x H H' → H' x = some (.ins C dx [(f, .ref m)]) → H m = none → H' m = some (.lst xs) → Q .non H'
theorem init1E {C x dx l : Addr} {xs : List V} {f : Str} {H : Hp} {Q : VK} {σ : L2.St} (hx : H x = some (.ins C dx [])) (cC : Cls K C) (na : NoAttr K C f) (hl : SqL K H l xs) (k : ∀ m H', SameX x H H' → H' x = some (.ins C dx [(f, .ref m)]) → H m = none → H' m = some (.lst xs) → Q .non H')
    (h0 : σ[0]? = some (some (.ref x)) := by rfl) (h1 : σ[1]? = some (some (.ref l)) := by rfl) :
    sFld K (tVar 0) (tCB (fun xs H_1 Q => ∃ p ys, xs = [V.ref p] ∧ (SqL K H_1 p ys ∨ SqT K H_1 p ys) ∧ ∀ (l : Addr), H_1 l = none → Q (V.ref l) (upd H_1 l (HO.lst ys))) (tCons (tVar 1) tNil)) f { nx := fun x H' => Q V.non H', rt := Q } σ H := by
  refine ⟨_, h1, _, _, rfl, .inl hl, fun m hm => ?_⟩
  have hxm : x ≠ m := ne_of_none hx hm
  refine ⟨_, h0, x, C, dx, [], rfl, by rw [upd_ne hxm]; exact hx, cC, na, by simp, ?_⟩
  refine k m _ ((SameX.of (Same.up hm)).trans SameX.put) upd_same hm ?_
  rw [upd_ne (Ne.symm hxm)]
  exact upd_same
theorem sc_Safe___init__ : FnScope ["self", "places"] ["self", "places"] (defScope s_Safe___init__) := ⟨rfl, rfl, rfl, by decide +kernel, rfl, by decide +kernel, by decide +kernel⟩
theorem Txt.b_Safe___init__ (T : Txt w K mg) : Binds K (fdA K (He.ma K (He.ga K "Safe") "__init__")) ["self", "places"] [] := T.F_Safe___init__.binds fun _ _ _ _ _ _ us hl => match us, hl with | [_, _], _ => rfl
theorem ok_Safe___init__ (T : Txt w K mg) : FnOk P w K mg base CX0 1 (He.ma K (He.ga K "Safe") "__init__") (fdA K (He.ma K (He.ga K "Safe") "__init__")) ["self", "places"] (sp_init1 K "own_places") := by
  refine T.F_Safe___init__.ok sc_Safe___init__ (fun vs H Q E h => ?_) (fun cdv A outer s H vs Q E hr h => ?_)
  · obtain ⟨C, x, dx, l, xs, rfl, _⟩ := h
    rfl
  · obtain ⟨C, x, dx, l, xs, rfl, hx, cC, na, hl, k⟩ := h
    refine ⟨_, (pss_one (ps_fld (pv 0) (pe_callTy call_list_of (by rfl) T.f_list (by decide +kernel) (pa_cons (pv 1) pa_nil)) rfl)), ?_⟩
    exact init1E hx cC na hl k
theorem sc_Astray___init__ : FnScope ["self", "flow"] ["self", "flow"] (defScope s_Astray___init__) := ⟨rfl, rfl, rfl, by decide +kernel, rfl, by decide +kernel, by decide +kernel⟩
theorem Txt.b_Astray___init__ (T : Txt w K mg) : Binds K (fdA K (He.ma K (He.ga K "Astray") "__init__")) ["self", "flow"] [] := T.F_Astray___init__.binds fun _ _ _ _ _ _ us hl => match us, hl with | [_, _], _ => rfl
theorem ok_Astray___init__ (T : Txt w K mg) : FnOk P w K mg base CX0 1 (He.ma K (He.ga K "Astray") "__init__") (fdA K (He.ma K (He.ga K "Astray") "__init__")) ["self", "flow"] (sp_init1 K "own_flow") := by
  refine T.F_Astray___init__.ok sc_Astray___init__ (fun vs H Q E h => ?_) (fun cdv A outer s H vs Q E hr h => ?_)
  · obtain ⟨C, x, dx, l, xs, rfl, _⟩ := h
    rfl
  · obtain ⟨C, x, dx, l, xs, rfl, hx, cC, na, hl, k⟩ := h
    refine ⟨_, (pss_one (ps_fld (pv 0) (pe_callTy call_list_of (by rfl) T.f_list (by decide +kernel) (pa_cons (pv 1) pa_nil)) rfl)), ?_⟩
    exact init1E hx cC na hl k
def sp_flow (K : PySem.W.Frag) : Sp := fun vs H Q _ => ∃ (x dx l : Addr) (xs : List V), vs = [.ref x] ∧ H x = some (.ins (He.ga K "Astray") dx [("own_flow", .ref l)]) ∧ H l = some (.lst xs) ∧ ∀ m H', Same H H' → H m = none → H' m = some (.lst xs) → Q (.ref m) H'
theorem sc_Astray_flow : FnScope ["self"] ["self"] (defScope s_Astray_flow) := ⟨rfl, rfl, rfl, by decide +kernel, rfl, by decide +kernel, by decide +kernel⟩
theorem Txt.b_Astray_flow (T : Txt w K mg) : Binds K (fdA K (He.ma K (He.ga K "Astray") "flow")) ["self"] [] := T.F_Astray_flow.binds fun _ _ _ _ _ _ us hl => match us, hl with | [_], _ => rfl
theorem ok_Astray_flow (T : Txt w K mg) : FnOk P w K mg base CX0 1 (He.ma K (He.ga K "Astray") "flow") (fdA K (He.ma K (He.ga K "Astray") "flow")) ["self"] (sp_flow K) := by
  refine T.F_Astray_flow.ok sc_Astray_flow (fun vs H Q E h => ?_) (fun cdv A outer s H vs Q E hr h => ?_)
  · obtain ⟨x, dx, l, xs, rfl, _⟩ := h
    rfl
  · obtain ⟨x, dx, l, xs, rfl, hx, hl, k⟩ := h
    refine ⟨_, (pss_one (ps_ret (pe_callTy call_list_of (by rfl) T.f_list (by decide +kernel) (pa_cons (pe_fld (pv 0) rfl) pa_nil)))), ?_⟩
    exact ⟨_, rfl, _, _, _, _, _, rfl, hx, T.cl_Astray, T.na_Astray_own_flow, rfl, _, _, rfl, .inl (.inl (.inl hl)), fun m hm => k m _ (Same.up hm) hm upd_same⟩
def sp_wordOf (K : PySem.W.Frag) : Sp := fun vs H Q _ => ∃ (C x dx : Addr) (fs : List (Str × V)) (v : V) (u : Value), vs = [.ref x] ∧ H x = some (.ins C dx fs) ∧ Cls K C ∧ Con K C "WORD" v u ∧ fs.lookup ("WORD" : Str) = none ∧ Q v H
theorem sc_Verdict_word : FnScope ["self"] ["self"] (defScope s_Verdict_word) := ⟨rfl, rfl, rfl, by decide +kernel, rfl, by decide +kernel, by decide +kernel⟩
theorem Txt.b_Verdict_word (T : Txt w K mg) : Binds K (fdA K (He5.wf K (He.ga K "Verdict") "property" "word")) ["self"] [] := T.F_Verdict_word.binds fun _ _ _ _ _ _ us hl => match us, hl with | [_], _ => rfl
theorem ok_Verdict_word (T : Txt w K mg) : FnOk P w K mg base CX0 1 (He5.wf K (He.ga K "Verdict") "property" "word") (fdA K (He5.wf K (He.ga K "Verdict") "property" "word")) ["self"] (sp_wordOf K) := by
  refine T.F_Verdict_word.ok sc_Verdict_word (fun vs H Q E h => ?_) (fun cdv A outer s H vs Q E hr h => ?_)
  · obtain ⟨C, x, dx, fs, v, u, rfl, _⟩ := h
    rfl
  · obtain ⟨C, x, dx, fs, v, u, rfl, hx, cC, cn, hf, k⟩ := h
    refine ⟨_, (pss_one (ps_ret (pe_con (pv 0) rfl))), ?_⟩
    exact ⟨_, rfl, _, _, _, _, _, _, rfl, hx, cC, cn, hf, k⟩
end
end Ow
set_option Elab.async false
set_option linter.all false
set_option maxRecDepth 100000
set_option maxHeartbeats 4000000
namespace Ow
open PySem PySem.Spec PyProof.Rows L2
section
variable {P : Program} {w : World} {K : PySem.W.Frag} {mg : Str → Option Value} {base : Heap}
theorem fl_nil : ([] : List (Str × V)).length ≤ 0 := Nat.le_refl _
theorem fl_put {f : Str} {v : V} : ∀ {fs : List (Str × V)} {n : Nat}, fs.length ≤ n → (putF f v fs).length ≤ n + 1
  | [], n, _ => Nat.succ_le_succ (Nat.zero_le n)
  | (g, x) :: r, 0, h => absurd h (Nat.not_succ_le_zero _)
  | (g, x) :: r, n + 1, h => by
    unfold putF
    split
    · exact Nat.le_succ_of_le h
    · exact Nat.succ_le_succ (fl_put (Nat.le_of_succ_le_succ h))
theorem fl_ok {fs : List (Str × V)} {n : Nat} (h : fs.length ≤ n) (hn : n ≤ 9 := by decide) : fs.length < 1000 := Nat.lt_of_le_of_lt (Nat.le_trans h hn) (by decide)
theorem sub_drop {w : Sight} {ws rest : List Sight} {j : Nat} (h : (w :: ws).Sublist rest) (nd : rest.Nodup) (e : rest[j]? = some w) : ws.Sublist (rest.drop (j + 1)) := by
  induction rest generalizing j with
  | nil => cases e
  | cons a r ih =>
    cases h with
    | cons _ h2 =>
      cases j with
      | zero =>
        cases e
        exact absurd (h2.subset List.mem_cons_self) (List.nodup_cons.mp nd).1
      | succ j => exact ih h2 (List.nodup_cons.mp nd).2 e
    | cons_cons _ h2 =>
      cases j with
      | zero => exact h2
      | succ j => exact absurd (List.mem_of_getElem? (show r[j]? = some w from e)) (List.nodup_cons.mp nd).1
theorem eqV_str (a b : Str) : eqV (.str a) (.str b) = (a == b) := rfl
theorem eqgS {a b : Sight} : eqV (.str (gS a)) (.str (gS b)) = decide (a = b) := by
  rw [eqV_str]
  by_cases e : a = b
  · rw [e, decide_eq_true rfl]
    exact beq_self_eq_true _
  · rw [decide_eq_false e]
    exact beq_eq_false_iff_ne.mpr fun z => e (gS_inj z)
theorem cutDrop (xs : List V) (k : Nat) : cutV xs (some ((k : Nat) : Int)) none = xs.drop k := by
  unfold cutV
  rw [HT.sIx_nat, HT.sIx_none]
  rcases Nat.le_total k xs.length with z | z
  · rw [Nat.min_eq_left z, List.take_of_length_le (by rw [List.length_drop]; exact Nat.le_refl _)]
  · rw [Nat.min_eq_right z, Nat.sub_self, List.take_zero, List.drop_eq_nil_of_le z]
theorem cutTake (xs : List V) (k : Nat) : cutV xs none (some ((k : Nat) : Int)) = xs.take k := by
  unfold cutV
  rw [HT.sIx_nat, HT.sIx_none, List.drop_zero, Nat.sub_zero]
  rcases Nat.le_total k xs.length with z | z
  · rw [Nat.min_eq_left z]
  · rw [Nat.min_eq_right z, List.take_of_length_le (Nat.le_refl _), List.take_of_length_le z]
def sp_plantI (K : PySem.W.Frag) : Sp := fun vs H Q _ => ∃ (x dx l t : Addr) (p : Plan), vs = [.ref x, .ref l, .ref t] ∧ H x = some (.ins (He.ga K "Plant") dx []) ∧ LineAt K H l p ∧ TrackAt K H t p ∧ p.Ok ∧
  ∀ H', SameX x H H' → H' x = some (.ins (He.ga K "Plant") dx [("own_line", .ref l), ("own_tracker", .ref t)]) → Q .non H'
theorem sc_Plant___init__ : FnScope ["self", "line", "tracker"] ["self", "line", "tracker"] (defScope s_Plant___init__) := ⟨rfl, rfl, rfl, by decide +kernel, rfl, by decide +kernel, by decide +kernel⟩
theorem Txt.b_Plant___init__ (T : Txt w K mg) : Binds K (fdA K (He.ma K (He.ga K "Plant") "__init__")) ["self", "line", "tracker"] [] := T.F_Plant___init__.binds fun _ _ _ _ _ _ us hl => match us, hl with | [_, _, _], _ => rfl
theorem ok_Plant___init__ (T : Txt w K mg) : FnOk P w K mg base CX0 3 (He.ma K (He.ga K "Plant") "__init__") (fdA K (He.ma K (He.ga K "Plant") "__init__")) ["self", "line", "tracker"] (sp_plantI K) := by
  refine T.F_Plant___init__.ok sc_Plant___init__ (fun vs H Q E h => ?_) (fun cdv A outer s H vs Q E hr h => ?_)
  · obtain ⟨x, dx, l, t, p, rfl, _⟩ := h
    rfl
  · obtain ⟨x, dx, l, t, p, rfl, hx, hl, ht, ok, k⟩ := h
    refine ⟨_, (pss_cons (ps_if (pt_cmpR op_ne (pe_callB (cr_lenK (K := K)) (by rfl) T.f_len (by decide +kernel) (pa_cons (pe_meth0 (pv 2) T.cl_Tracker T.m_Tracker_rooms (ok_Tracker_rooms T) (hr.mono (by decide)) T.b_Tracker_rooms .nil pass0) pa_nil)) (pe_prop (pv 1) T.cl_Line T.p_Line_last (ok_Line_last T) (hr.mono (by decide)) T.b_Line_last .nil pass0 rfl) (nomark _)) (pss_one ps_never) pss_nil)
      (pss_cons (ps_fld (pv 0) (pv 1) rfl)
      (pss_one (ps_fld (pv 0) (pv 2) rfl)))), ?_⟩
    obtain ⟨dxt, lr, tr, ht1, ht2, ht3⟩ := id ht
    obtain ⟨dxl, lb, ls, tp, lw, sc, hl1, hl2⟩ := id hl
    refine ⟨_, rfl, _, _, _, rfl, ht1, rfl, t, p, rfl, ht, fun lr2 H1 z1 hlr => ⟨_, _, rfl, .inl (.inl (.inl hlr)), _, rfl, _, _, _, rfl, z1 _ _ hl1, l, p, rfl, hl.mono z1, fun v hv => ?_⟩⟩
    subst hv
    refine ⟨rfl, _, rfl, noo ?_ ?_⟩
    · rw [List.length_map, ok.nr]
      exact (by simp [Plan.n])
    have hx1 := z1 _ _ hx
    refine ⟨_, rfl, _, rfl, x, _, dx, [], rfl, hx1, T.cl_Plant, T.na_Plant_own_line, by simp, ?_⟩
    refine ⟨_, rfl, _, rfl, x, _, dx, _, rfl, upd_same, T.cl_Plant, T.na_Plant_own_tracker, by simp [putF], ?_⟩
    refine k _ (((SameX.of z1).trans SameX.put).trans SameX.put) upd_same
def sp_trackI (K : PySem.W.Frag) : Sp := fun vs H Q _ => ∃ (x dx tp : Addr) (p : Plan), vs = [.ref x, .int p.seek, .str (wB p.blank), .str (wF p.first), .str (wC p.clear), .ref tp] ∧ H x = some (.ins (He.ga K "Tracker") dx []) ∧ SqT K H tp (p.rooms.map V.int) ∧ p.Ok ∧
  ∀ H', SameX x H H' → TrackAt K H' x p → Q .non H'
theorem sc_Tracker___init__ : FnScope ["self", "seek", "empty", "strange", "pause", "rooms", "room", "word", "known"] ["self", "seek", "empty", "strange", "pause", "rooms"] (defScope s_Tracker___init__) := ⟨rfl, rfl, rfl, by decide +kernel, rfl, by decide +kernel, by decide +kernel⟩
theorem body_Tracker___init__ (T : Txt w K mg) (cdv : Value) (A : Around) (outer : List Env) (s : Shared) (H : Hp) (vs : List V) (Q : VK) (E : XK) (hr : Room 1 (A.deeper (envOfC "Tracker.__init__" (defScope s_Tracker___init__) s.heap.objs.size (He.ma K (He.ga K "Tracker") "__init__") cdv))) (h : (sp_trackI K) vs H Q E) :
    ∃ t, PSs (cxOf CX0 P w K mg base ["self", "seek", "empty", "strange", "pause", "rooms", "room", "word", "known"] "Tracker.__init__" (defScope s_Tracker___init__) (He.ma K (He.ga K "Tracker") "__init__") cdv A outer s H E).nox (defBody s_Tracker___init__) t ∧ t { nx := fun _ H' => Q .non H', rt := Q } (start ["self", "seek", "empty", "strange", "pause", "rooms", "room", "word", "known"] vs) H := by
  · obtain ⟨x, dx, tp, p, rfl, hx, ht, ok, k⟩ := h
    refine ⟨_, (pss_cons (ps_if (pt_not (pt_chain op_le op_le pe_int (pe_callB (cr_lenK (K := K)) (by rfl) T.f_len (by decide +kernel) (pa_cons (pv 5) pa_nil)) (C8.pe_gc rfl T.c_MOST_QUEUES))) (pss_one ps_never) pss_nil)
      (pss_cons (ps_for PassesOwn.never rfl (pi_tup (pv 5)) (pg_name (i := 6) sc_Tracker___init__.nd rfl (by first | exact .inl rfl | exact .inr rfl)) (pss_one (ps_if (pt_not (pt_val (pe_call (ok_is_number T) (hr.mono (by decide)) (by rfl) T.g_is_number T.D_is_number.kp T.b_is_number .nil pass0 (pa_cons (pv 6) (pa_cons pe_int (pa_cons (C8.pe_gc rfl T.c_MOST_ROOM) pa_nil)))))) (pss_one ps_never) pss_nil)))
      (pss_cons (ps_if (pt_not (pt_val (pe_call (ok_is_number T) (hr.mono (by decide)) (by rfl) T.g_is_number T.D_is_number.kp T.b_is_number .nil pass0 (pa_cons (pv 1) (pa_cons pe_int (pa_cons pe_int pa_nil)))))) (pss_one ps_never) pss_nil)
      (pss_cons (ps_for PassesOwn.never rfl (pi_list (pe_lst (pa_cons (pe_tup (pa_cons (pv 2) (pa_cons (pe_glob (v := .ref (He.ga K "EMPTY_WORDS")) rfl T.g_EMPTY_WORDS rfl) pa_nil))) (pa_cons (pe_tup (pa_cons (pv 3) (pa_cons (pe_glob (v := .ref (He.ga K "STRANGE_WORDS")) rfl T.g_STRANGE_WORDS rfl) pa_nil))) (pa_cons (pe_tup (pa_cons (pv 4) (pa_cons (pe_glob (v := .ref (He.ga K "PAUSE_WORDS")) rfl T.g_PAUSE_WORDS rfl) pa_nil))) pa_nil))))) (pg_tup rfl (pgs_cons (pg_name (i := 7) sc_Tracker___init__.nd rfl (by first | exact .inl rfl | exact .inr rfl)) (pgs_cons (pg_name (i := 8) sc_Tracker___init__.nd rfl (by first | exact .inl rfl | exact .inr rfl)) pgs_nil))) (pss_one (ps_if (pt_not (pt_val (pe_call (ok_is_word T) (hr.mono (by decide)) (by rfl) T.g_is_word T.D_is_word.kp T.b_is_word .nil pass0 (pa_cons (pv 7) (pa_cons (pv 8) pa_nil))))) (pss_one ps_never) pss_nil)))
      (pss_cons (ps_fld (pv 0) (pe_callTy call_list_of (by rfl) T.f_list (by decide +kernel) (pa_cons (pv 5) pa_nil)) rfl)
      (pss_cons (ps_fld (pv 0) (pv 1) rfl)
      (pss_one (ps_fld (pv 0) (pe_tup (pa_cons (pv 2) (pa_cons (pv 3) (pa_cons (pv 4) pa_nil)))) rfl)))))))), ?_⟩
    have n3 := ok.nb
    have nr := ok.nr
    refine ⟨_, rfl, _, _, rfl, .inr ht, _, _, rfl, rfl, _, rfl, yes (decide_eq_true (by rw [List.length_map]; omega)) ?_⟩
    refine ⟨_, _, rfl, rfl, _, rfl, noo (by rw [decide_eq_true (by rw [List.length_map]; omega)]; rfl) ?_⟩
    dsimp only [tNext]
    refine seqE (M := fun σ' H' => H = H' ∧ ∃ u, σ' = [some (.ref x), some (.int p.seek), some (.str (wB p.blank)), some (.str (wF p.first)), some (.str (wC p.clear)), some (.ref tp), u, none, none]) (fun N kN => ?_) ?_
    · refine ⟨_, rfl, _, rfl, ⟨_, ht⟩, ?_⟩
      refine for_it (walk_tup (xs := p.rooms.map V.int)) (fun i σ' H' => H = H' ∧ ∃ u, σ' = [some (.ref x), some (.int p.seek), some (.str (wB p.blank)), some (.str (wF p.first)), some (.str (wC p.clear)), some (.ref tp), u, none, none])
        ⟨rfl, _, rfl⟩ (fun i σ' H' _ h => h.1 ▸ ht) ?_ ?_
      · rintro i y σ' H1 H2 hi ⟨e1, u, rfl⟩ ⟨e2, hy⟩
        rw [List.length_map] at hi
        rw [getI hi] at hy
        cases hy
        have hr : 1 ≤ p.rooms.getD i 0 ∧ p.rooms.getD i 0 ≤ 4 := by
          rw [List.getD_eq_getElem?_getD, List.getElem?_eq_getElem hi]
          exact ok.rr _ (List.getElem_mem _)
        refine ⟨_, rfl, _, _, _, rfl, _, rfl, noo ?_ ⟨e1.trans e2.symm, _, rfl⟩⟩
        rw [decide_eq_true hr.1, decide_eq_true hr.2]
        rfl
      · rintro σ' H1 ⟨e1, u, rfl⟩
        exact kN _ _ ⟨e1, u, rfl⟩
    rintro σ1 _ ⟨rfl, u, rfl⟩
    have sk := ok.sk
    refine ⟨_, rfl, _, _, _, rfl, _, rfl, noo (by rw [decide_eq_true sk.1, decide_eq_true sk.2]; rfl) ?_⟩
    dsimp only [tNext]
    refine seqE (M := fun σ' H' => Same H H' ∧ ∃ a b, σ' = [some (.ref x), some (.int p.seek), some (.str (wB p.blank)), some (.str (wF p.first)), some (.str (wC p.clear)), some (.ref tp), u, a, b]) (fun N kN => ?_) ?_
    · refine ⟨_, rfl, ok_le (by simp), fun t1 m1 => ⟨_, rfl, ok_le (by simp), fun t2 m2 => ⟨_, rfl, ok_le (by simp), fun t3 m3 => ⟨ok_le (by simp), fun l m4 => ?_⟩⟩⟩⟩
      have z1 := Same.up (o := .tup [V.str (wB p.blank), V.ref (He.ga K "EMPTY_WORDS")]) m1
      have z2 := Same.up (o := .tup [V.str (wF p.first), V.ref (He.ga K "STRANGE_WORDS")]) m2
      have z3 := Same.up (o := .tup [V.str (wC p.clear), V.ref (He.ga K "PAUSE_WORDS")]) m3
      have z4 := Same.up (o := .lst [V.ref t1, V.ref t2, V.ref t3]) m4
      have h1 := Same.seqT (z2.trans (z3.trans z4)) (newT (K := K) (H := H) (p := t1) (xs := [V.str (wB p.blank), V.ref (He.ga K "EMPTY_WORDS")]))
      have h2 := Same.seqT (z3.trans z4) (newT (K := K) (H := upd H t1 (.tup [V.str (wB p.blank), V.ref (He.ga K "EMPTY_WORDS")])) (p := t2) (xs := [V.str (wF p.first), V.ref (He.ga K "STRANGE_WORDS")]))
      have h3 := Same.seqT z4 (newT (K := K) (H := upd (upd H t1 (.tup [V.str (wB p.blank), V.ref (He.ga K "EMPTY_WORDS")])) t2 (.tup [V.str (wF p.first), V.ref (He.ga K "STRANGE_WORDS")])) (p := t3) (xs := [V.str (wC p.clear), V.ref (He.ga K "PAUSE_WORDS")]))
      have zz := z1.trans (z2.trans (z3.trans z4))
      have hl : upd (upd (upd (upd H t1 (.tup [V.str (wB p.blank), V.ref (He.ga K "EMPTY_WORDS")])) t2 (.tup [V.str (wF p.first), V.ref (He.ga K "STRANGE_WORDS")])) t3 (.tup [V.str (wC p.clear), V.ref (He.ga K "PAUSE_WORDS")])) l (.lst [V.ref t1, V.ref t2, V.ref t3]) l = some (.lst [V.ref t1, V.ref t2, V.ref t3]) := upd_same
      generalize upd (upd (upd (upd H t1 (.tup [V.str (wB p.blank), V.ref (He.ga K "EMPTY_WORDS")])) t2 (.tup [V.str (wF p.first), V.ref (He.ga K "STRANGE_WORDS")])) t3 (.tup [V.str (wC p.clear), V.ref (He.ga K "PAUSE_WORDS")])) l (.lst [V.ref t1, V.ref t2, V.ref t3]) = H4 at zz h1 h2 h3 hl
      refine ⟨_, rfl, ⟨_, .inl (.inl hl)⟩, ?_⟩
      refine for_it (walk_list (xs := [V.ref t1, V.ref t2, V.ref t3])) (fun i σ' H' => H4 = H' ∧ ∃ a b, σ' = [some (.ref x), some (.int p.seek), some (.str (wB p.blank)), some (.str (wF p.first)), some (.str (wC p.clear)), some (.ref tp), u, a, b])
        ⟨rfl, _, _, rfl⟩ (fun i σ' H' _ h => h.1 ▸ .inl (.inl hl)) ?_ ?_
      · rintro i y σ' H1 H2 hi ⟨e1, a, b, rfl⟩ ⟨e2, hy⟩
        have e12 := e2.trans e1.symm
        subst e12
        match i, hi, hy with
        | 0, _, hy =>
          cases hy
          refine ⟨_, _, rfl, h1, rfl, _, _, rfl, _, _, rfl, rfl, ?_⟩
          refine ⟨_, rfl, _, rfl, wB p.blank, _, ["blank", "none"], rfl, .inr (T.t_EMPTY_WORDS _), _, rfl, noo ?_ ⟨rfl, _, _, rfl⟩⟩
          cases p.blank <;> decide +kernel
        | 1, _, hy =>
          cases hy
          refine ⟨_, _, rfl, h2, rfl, _, _, rfl, _, _, rfl, rfl, ?_⟩
          refine ⟨_, rfl, _, rfl, wF p.first, _, ["first", "none"], rfl, .inr (T.t_STRANGE_WORDS _), _, rfl, noo ?_ ⟨rfl, _, _, rfl⟩⟩
          cases p.first <;> decide +kernel
        | 2, _, hy =>
          cases hy
          refine ⟨_, _, rfl, h3, rfl, _, _, rfl, _, _, rfl, rfl, ?_⟩
          refine ⟨_, rfl, _, rfl, wC p.clear, _, ["clear", "keep"], rfl, .inr (T.t_PAUSE_WORDS _), _, rfl, noo ?_ ⟨rfl, _, _, rfl⟩⟩
          cases p.clear <;> decide +kernel
      · rintro σ' H1 ⟨e1, a, b, rfl⟩
        exact kN _ _ ⟨e1 ▸ zz, _, _, rfl⟩
    rintro σ2 H2 ⟨z, a, b, rfl⟩
    have hx2 := z _ _ hx
    refine ⟨_, rfl, _, _, rfl, .inr (Same.seqT z ht), fun lr ml => ?_⟩
    have z5 := Same.up (o := .lst (p.rooms.map V.int)) ml
    refine ⟨_, rfl, x, _, dx, [], rfl, z5 _ _ hx2, T.cl_Tracker, T.na_Tracker_own_rooms, by simp, ?_⟩
    refine ⟨_, rfl, _, rfl, x, _, dx, _, rfl, upd_same, T.cl_Tracker, T.na_Tracker_own_seek, fl_ok (fl_put fl_nil), ?_⟩
    refine ⟨_, rfl, _, rfl, _, rfl, ok_le (by simp), fun tr mt => ?_⟩
    have hxt : x ≠ tr := ne_of_none upd_same mt
    refine ⟨_, rfl, x, _, dx, _, rfl, by rw [upd_ne hxt]; exact upd_same, T.cl_Tracker, T.na_Tracker_own_rules, fl_ok (fl_put (fl_put fl_nil)), ?_⟩
    have hxl : lr ≠ x := fun e => by
      rw [e, hx2] at ml
      cases ml
    have hlt : lr ≠ tr := fun e => by
      rw [← e, upd_ne hxl, upd_ne hxl, upd_same] at mt
      cases mt
    refine k _ (((((SameX.of z).trans (SameX.of z5)).trans SameX.put).trans SameX.put).trans ((SameX.of (Same.up mt)).trans SameX.put)) ?_
    refine ⟨dx, lr, tr, upd_same, ?_, ?_⟩
    · rw [upd_ne hxl, upd_ne hlt, upd_ne hxl, upd_ne hxl]
      exact upd_same
    · exact seqT_put newT (by rw [upd_ne hxt]; exact upd_same) (fun _ e => by cases e) (fun _ _ e => by cases e)
abbrev sLn (x ls tp lw bt : Addr) (p : Plan) (u a b c d : Option V) : L2.St := [some (.ref x), some (.ref ls), some (.ref tp), some (.ref lw), some (oV p.stretch), some (.ref bt), u, a, b, c, d]
def gV_Tracker___init___1 : V → List V → V → List V := fun v zs t => match zs with | [z0, z1, z2, z3] => [v, z0, z1, z2, z3, t] | _ => []
theorem okS_Tracker___init___1 (T : Txt w K mg) : FnS P w K mg base CX0 (1 + 1) (He.ma K (He.ga K "Tracker") "__init__") 1 ["seek", "empty", "strange", "pause"] gV_Tracker___init___1 (sp_trackI K) := by
  refine fn_starS T.D_Tracker___init__ sc_Tracker___init__ StX.cxUp_none (fun v zs t => match zs with | [z0, z1, z2, z3] => [v, z0, z1, z2, z3, t] | _ => []) (fun {v u zs ws t r} rv rz rt hl => ?_) (fun kV doc pm cdv ct an u rest ws h1 h2 => ?_) (body_Tracker___init__ T)
  · obtain ⟨z0, z1, z2, z3, rfl⟩ : ∃ z0 z1 z2 z3, zs = [z0, z1, z2, z3] := by
      match zs, hl with
      | [a0, a1, a2, a3], _ => exact ⟨a0, a1, a2, a3, rfl⟩
    cases rz with
    | cons r0 rz =>
      cases rz with
      | cons r1 rz =>
        cases rz with
        | cons r2 rz =>
          cases rz with
          | cons r3 rz =>
            cases rz
            exact ⟨.cons rv (.cons r0 (.cons r1 (.cons r2 (.cons r3 (.cons rt .nil))))), rfl⟩
  · match rest, h1, ws, h2 with
    | [b0], _, [a0, a1, a2, a3], _ => rfl
def gV_Tracker___init___2 : V → List V → V → List V := fun v zs t => match zs with | [z0, z1, z2, z3] => [v, z3, z2, z1, z0, t] | _ => []
theorem okS_Tracker___init___2 (T : Txt w K mg) : FnS P w K mg base CX0 (1 + 1) (He.ma K (He.ga K "Tracker") "__init__") 2 ["pause", "strange", "empty", "seek"] gV_Tracker___init___2 (sp_trackI K) := by
  refine fn_starS T.D_Tracker___init__ sc_Tracker___init__ StX.cxUp_none (fun v zs t => match zs with | [z0, z1, z2, z3] => [v, z3, z2, z1, z0, t] | _ => []) (fun {v u zs ws t r} rv rz rt hl => ?_) (fun kV doc pm cdv ct an u rest ws h1 h2 => ?_) (body_Tracker___init__ T)
  · obtain ⟨z0, z1, z2, z3, rfl⟩ : ∃ z0 z1 z2 z3, zs = [z0, z1, z2, z3] := by
      match zs, hl with
      | [a0, a1, a2, a3], _ => exact ⟨a0, a1, a2, a3, rfl⟩
    cases rz with
    | cons r0 rz =>
      cases rz with
      | cons r1 rz =>
        cases rz with
        | cons r2 rz =>
          cases rz with
          | cons r3 rz =>
            cases rz
            exact ⟨.cons rv (.cons r3 (.cons r2 (.cons r1 (.cons r0 (.cons rt .nil))))), rfl⟩
  · match rest, h1, ws, h2 with
    | [b0, b1], _, [a0, a1, a2, a3], _ => rfl
def sp_lineI (K : PySem.W.Frag) : Sp := fun vs H Q _ => ∃ (x dx ls tp lw bt : Addr) (p : Plan), vs = [.ref x, .ref ls, .ref tp, .ref lw, oV p.stretch, .ref bt] ∧ H x = some (.ins (He.ga K "Line") dx []) ∧ SqL K H ls (p.scans.map V.int) ∧ SqT K H tp [.int p.most, .int p.among] ∧ SqL K H lw (wordsV p) ∧ SqT K H bt (p.belts.map V.int) ∧
  p.Ok ∧ p.words.Sublist [.missed, .twice, .swapped] ∧ ∀ H', SameX x H H' → LineAt K H' x p → Q .non H'
theorem sc_Line___init__ : FnScope ["self", "scans", "slips", "words", "stretch", "belts", "room", "at", "point", "left", "word"] ["self", "scans", "slips", "words", "stretch", "belts"] (defScope s_Line___init__) := ⟨rfl, rfl, rfl, by decide +kernel, rfl, by decide +kernel, by decide +kernel⟩
theorem body_Line___init__ (T : Txt w K mg) (cdv : Value) (A : Around) (outer : List Env) (s : Shared) (H : Hp) (vs : List V) (Q : VK) (E : XK) (hr : Room 2 (A.deeper (envOfC "Line.__init__" (defScope s_Line___init__) s.heap.objs.size (He.ma K (He.ga K "Line") "__init__") cdv))) (h : (sp_lineI K) vs H Q E) :
    ∃ t, PSs (cxOf CX0 P w K mg base ["self", "scans", "slips", "words", "stretch", "belts", "room", "at", "point", "left", "word"] "Line.__init__" (defScope s_Line___init__) (He.ma K (He.ga K "Line") "__init__") cdv A outer s H E).nox (defBody s_Line___init__) t ∧ t { nx := fun _ H' => Q .non H', rt := Q } (start ["self", "scans", "slips", "words", "stretch", "belts", "room", "at", "point", "left", "word"] vs) H := by
  · obtain ⟨x, dx, ls, tp, lw, bt, p, rfl, hx, hls, htp, hlw, hbt, ok, sub, k⟩ := h
    refine ⟨_, (pss_cons (ps_if (pt_not (pt_chain op_le op_le pe_int (pe_callB (cr_lenK (K := K)) (by rfl) T.f_len (by decide +kernel) (pa_cons (pv 5) pa_nil)) (C8.pe_gc rfl T.c_MOST_BELTS))) (pss_one ps_never) pss_nil)
      (pss_cons (ps_for PassesOwn.never rfl (pi_tup (pv 5)) (pg_name (i := 6) sc_Line___init__.nd rfl (by first | exact .inl rfl | exact .inr rfl)) (pss_one (ps_if (pt_not (pt_val (pe_call (ok_is_number T) (hr.mono (by decide)) (by rfl) T.g_is_number T.D_is_number.kp T.b_is_number .nil pass0 (pa_cons (pv 6) (pa_cons pe_int (pa_cons pe_int pa_nil)))))) (pss_one ps_never) pss_nil)))
      (pss_cons (ps_for PassesOwn.never rfl (pi_enum (by rfl) T.f_enumerate (pa_cons (pv 1) pa_nil)) (pg_tup rfl (pgs_cons (pg_name (i := 7) sc_Line___init__.nd rfl (by first | exact .inl rfl | exact .inr rfl)) (pgs_cons (pg_name (i := 8) sc_Line___init__.nd rfl (by first | exact .inl rfl | exact .inr rfl)) pgs_nil))) (pss_one (ps_if (PW.pt (pw_or (pt_not (pt_val (pe_call (ok_is_number T) (hr.mono (by decide)) (by rfl) T.g_is_number T.D_is_number.kp T.b_is_number .nil pass0 (pa_cons (pv 8) (pa_cons pe_int (pa_cons (pe_op op_sub (pe_callB (cr_lenK (K := K)) (by rfl) T.f_len (by decide +kernel) (pa_cons (pv 5) pa_nil)) pe_int) pa_nil)))))) (pw_or1 (pt_cmpR op_in_seq (pv 8) (pe_slice sl_list (pv 1) po_none (po_some (pv 7))) (by rfl))))) (pss_one ps_never) pss_nil)))
      (pss_cons (ps_if (pt_not (pt_val (pe_call (ok_is_slips T) (hr.mono (by decide)) (by rfl) T.g_is_slips T.D_is_slips.kp T.b_is_slips .nil pass0 (pa_cons (pv 2) pa_nil)))) (pss_one ps_never) pss_nil)
      (pss_cons (ps_set (i := 9) sc_Line___init__.nd rfl (by first | exact .inl rfl | exact .inr rfl) (pe_callTy call_list_of (by rfl) T.f_list (by decide +kernel) (pa_cons (pe_glob (v := .ref (He.ga K "SLIP_WORDS")) rfl T.g_SLIP_WORDS rfl) pa_nil)))
      (pss_cons (ps_for PassesOwn.never rfl (pi_list (pv 3)) (pg_name (i := 10) sc_Line___init__.nd rfl (by first | exact .inl rfl | exact .inr rfl)) (pss_cons (ps_if (pt_not (pt_val (pe_call (ok_is_word T) (hr.mono (by decide)) (by rfl) T.g_is_word T.D_is_word.kp T.b_is_word .nil pass0 (pa_cons (pv 10) (pa_cons (pv 9) pa_nil))))) (pss_one ps_never) pss_nil)
        (pss_one (ps_set (i := 9) sc_Line___init__.nd rfl (by first | exact .inl rfl | exact .inr rfl) (pe_slice sl_list (pv 9) (po_some (pe_op op_add (pe_bm PySem.F.plainAttrs_list PySem.F.slot_list_index PySem.F.type_list_index mt_index (pv 9) (pa_cons (pv 10) pa_nil)) pe_int)) po_none)))))
      (pss_cons (ps_if (pt_not (pt_val (pe_call (ok_is_stretch T) (hr.mono (by decide)) (by rfl) T.g_is_stretch T.D_is_stretch.kp T.b_is_stretch .nil pass0 (pa_cons (pv 4) pa_nil)))) (pss_one ps_never) pss_nil)
      (pss_cons (ps_fld (pv 0) (pe_callTy call_list_of (by rfl) T.f_list (by decide +kernel) (pa_cons (pv 5) pa_nil)) rfl)
      (pss_cons (ps_fld (pv 0) (pe_callB cr_sortedI (by rfl) T.f_sorted (by decide +kernel) (pa_cons (pe_callTy call_list_of (by rfl) T.f_list (by decide +kernel) (pa_cons (pv 1) pa_nil)) pa_nil)) rfl)
      (pss_cons (ps_fld (pv 0) (pv 2) rfl)
      (pss_cons (ps_fld (pv 0) (pe_callTy call_list_of (by rfl) T.f_list (by decide +kernel) (pa_cons (pv 3) pa_nil)) rfl)
      (pss_one (ps_fld (pv 0) (pv 4) rfl))))))))))))), ?_⟩
    have n3 := ok.nb
    refine ⟨_, rfl, _, _, rfl, .inr hbt, _, _, rfl, rfl, _, rfl, yes (decide_eq_true (by rw [List.length_map]; omega)) ?_⟩
    refine ⟨_, _, rfl, rfl, _, rfl, noo (by rw [decide_eq_true (by rw [List.length_map]; omega)]; rfl) ?_⟩
    dsimp only [tNext]
    refine seqE (M := fun σ' H' => H = H' ∧ ∃ u, σ' = sLn x ls tp lw bt p u none none none none) (fun N kN => ?_) ?_
    · refine ⟨_, rfl, _, rfl, ⟨_, hbt⟩, ?_⟩
      refine for_it (walk_tup (xs := p.belts.map V.int)) (fun i σ' H' => H = H' ∧ ∃ u, σ' = sLn x ls tp lw bt p u none none none none) ⟨rfl, _, rfl⟩ (fun i σ' H' _ h => h.1 ▸ hbt) ?_ ?_
      · rintro i y σ' H1 H2 hi ⟨e1, u, rfl⟩ ⟨e2, hy⟩
        rw [List.length_map] at hi
        rw [getI hi] at hy
        cases hy
        have hr : 1 ≤ p.belts.getD i 0 ∧ p.belts.getD i 0 ≤ 3 := by
          rw [List.getD_eq_getElem?_getD, List.getElem?_eq_getElem hi]
          exact ok.rb _ (List.getElem_mem _)
        refine ⟨_, rfl, _, _, _, rfl, _, rfl, noo ?_ ⟨e1.trans e2.symm, _, rfl⟩⟩
        rw [decide_eq_true hr.1, decide_eq_true hr.2]
        rfl
      · rintro σ' H1 ⟨e1, u, rfl⟩
        exact kN _ _ ⟨e1, u, rfl⟩
    rintro σ1 _ ⟨rfl, u, rfl⟩
    refine seqE (M := fun σ' H' => Same H H' ∧ ∃ a b, σ' = sLn x ls tp lw bt p u a b none none) (fun N kN => ?_) ?_
    · refine ⟨_, rfl, _, _, rfl, hls, ?_⟩
      refine for_it (walk_enum (xs := p.scans.map V.int)) (fun i σ' H' => Same H H' ∧ ∃ a b, σ' = sLn x ls tp lw bt p u a b none none) ⟨Same.refl _, _, _, rfl⟩ (fun i σ' H' _ h => Same.seq h.1 hls) ?_ ?_
      · rintro i y σ' H1 H2 hi ⟨e1, a, b, rfl⟩ ⟨t, v1, v2, rfl, mt, rfl, h1, h2⟩
        rw [List.length_map] at hi
        cases h1
        dsimp only at h2
        rw [getI hi] at h2
        cases h2
        have z := Same.up (o := .tup [V.int (i : Nat), V.int (p.scans.getD i 0)]) mt
        have hm : p.scans.getD i 0 ∈ p.scans := by
          rw [List.getD_eq_getElem?_getD, List.getElem?_eq_getElem hi]
          exact List.getElem_mem _
        have hr := ok.sc _ hm
        refine ⟨_, _, rfl, newT, rfl, _, _, rfl, _, _, rfl, rfl, ?_⟩
        refine ⟨_, rfl, _, rfl, _, _, rfl, .inr (Same.seqT (e1.trans z) hbt), _, _, rfl, rfl, _, _, _, rfl, _, rfl, ?_⟩
        refine noo ?_ ?_
        · rw [decide_eq_true hr.1, decide_eq_true (by rw [List.length_map]; exact hr.2)]
          rfl
        refine ⟨_, rfl, _, rfl, _, rfl, _, rfl, ls, _, rfl, Same.seq (e1.trans z) hls, fun q mq => ?_⟩
        rw [cutTake]
        have z2 := Same.up (o := .lst ((p.scans.map V.int).take i)) mq
        refine ⟨q, _, rfl, .inl (.inl (.inl upd_same)), rfl, ?_, _, rfl, ?_⟩
        · rw [← List.map_take]
          exact flatInt _
        refine noo ?_ ⟨(e1.trans z).trans z2, _, _, rfl⟩
        show inV (.int (p.scans.getD i 0)) ((p.scans.map V.int).take i) = false
        rw [← List.map_take, inInt]
        have nd := ok.nsc
        rw [split3 hi] at nd
        have nm : p.scans.getD i 0 ∉ p.scans.take i := fun h => (List.nodup_append.mp nd).2.2 _ h _ List.mem_cons_self rfl
        simpa using nm
      · rintro σ' H1 ⟨e1, a, b, rfl⟩
        exact kN _ _ ⟨e1, a, b, rfl⟩
    rintro σ2 H2 ⟨z2, a, b, rfl⟩
    have am := ok.am
    have mo := ok.mo
    refine ⟨_, rfl, tp, p.most, p.among, rfl, Same.seqT z2 htp, mo.1, mo.2, am.1, am.2, _, rfl, noo rfl ?_⟩
    refine ⟨_, _, rfl, .inr (T.t_SLIP_WORDS _), fun l0 m0 => ?_⟩
    have z3 := Same.up (o := .lst [V.str "missed", V.str "twice", V.str "swapped"]) m0
    dsimp only [gName]
    refine seqE (M := fun σ' H' => Same H H' ∧ ∃ c d, σ' = sLn x ls tp lw bt p u a b c d) (fun N kN => ?_) ?_
    · refine ⟨_, rfl, _, rfl, ⟨_, Same.seq (z2.trans z3) hlw⟩, ?_⟩
      refine for_it (walk_list (xs := wordsV p)) (fun i σ' H' => Same H H' ∧ ∃ ll d rest, σ' = sLn x ls tp lw bt p u a b (some (.ref ll)) d ∧ H' ll = some (.lst (rest.map fun g => V.str (gS g))) ∧ (p.words.drop i).Sublist rest ∧ rest.Nodup)
        ⟨z2.trans z3, l0, _, [.missed, .twice, .swapped], rfl, upd_same, sub, by decide⟩ (fun i σ' H' _ h => Same.seq h.1 hlw) ?_ ?_
      · rintro i y σ' H3 H4 hi ⟨e1, ll, d, rest, rfl, hll, hsub, hnd⟩ ⟨rfl, hy⟩
        have hi2 : i < p.words.length := by simpa [wordsV] using hi
        unfold wordsV at hy
        rw [List.getElem?_map, List.getElem?_eq_getElem hi2] at hy
        cases hy
        rw [List.drop_eq_getElem_cons hi2] at hsub
        have hmem : p.words[i] ∈ rest := hsub.subset List.mem_cons_self
        have hll' : H4 ll = some (.lst ((rest.map gS).map V.str)) := by rw [hll, List.map_map]; rfl
        refine ⟨_, rfl, _, rfl, gS p.words[i], ll, rest.map gS, rfl, .inl (.inl (.inl hll')), _, rfl, ?_⟩
        rw [containsS]
        refine noo (by rw [List.contains_iff_mem.mpr hmem]; rfl) ?_
        obtain ⟨j, hj⟩ := List.mem_iff_getElem?.mp hmem
        refine ⟨_, rfl, _, rfl, tyLst hll, _, rfl, ll, _, _, j, .str (gS p.words[i]), rfl, rfl, .inl (.inl hll), rfl, ?_, ?_, ?_, ?_, ?_⟩
        · exact List.all_eq_true.mpr fun v hv => by
            obtain ⟨g, _, rfl⟩ := List.mem_map.mp hv
            rfl
        · rw [List.getElem?_map, hj]
          rfl
        · rw [eqgS]
          exact decide_eq_true rfl
        · intro m z' hm hz
          rw [List.getElem?_map] at hz
          cases hq : rest[m]? with
          | none =>
            rw [hq] at hz
            cases hz
          | some g =>
            rw [hq] at hz
            cases hz
            rw [eqgS]
            refine decide_eq_false fun e => ?_
            rw [e] at hq
            obtain ⟨h1, h2⟩ := List.getElem?_eq_some_iff.mp hq
            obtain ⟨h3, h4⟩ := List.getElem?_eq_some_iff.mp hj
            have e5 := hnd.idxOf_getElem m h1
            have e6 := hnd.idxOf_getElem j h3
            rw [h2] at e5
            rw [h4] at e6
            omega
        · refine ⟨_, _, rfl, rfl, _, rfl, ll, _, rfl, .inl (.inl hll), fun q mq => ?_⟩
          rw [show ((j : Nat) : Int) + 1 = ((j + 1 : Nat) : Int) by omega, cutDrop, ← List.map_drop]
          exact ⟨e1.trans (Same.up mq), q, _, rest.drop (j + 1), rfl, upd_same, sub_drop hsub hnd hj, hnd.sublist (List.drop_sublist _ _)⟩
      · rintro σ' H3 ⟨e1, ll, d, rest, rfl, _⟩
        exact kN _ _ ⟨e1, _, d, rfl⟩
    rintro σ3 H3 ⟨z, c, d, rfl⟩
    refine ⟨_, rfl, p.stretch, rfl, ok.st, _, rfl, noo rfl ?_⟩
    have hx3 := z _ _ hx
    refine ⟨_, rfl, _, _, rfl, .inr (Same.seqT z hbt), fun lb mb => ?_⟩
    have y1 := Same.up (o := .lst (p.belts.map V.int)) mb
    have hxb : x ≠ lb := ne_of_none hx3 mb
    refine ⟨_, rfl, x, _, dx, [], rfl, y1 _ _ hx3, T.cl_Line, T.na_Line_own_belts, by simp, ?_⟩
    generalize eA : upd (upd H3 lb (.lst (p.belts.map V.int))) x (.ins (He.ga K "Line") dx (putF "own_belts" (V.ref lb) [])) = HA
    have xA : SameX x H HA := by
      rw [← eA]
      exact ((SameX.of z).trans (SameX.of y1)).trans SameX.put
    have hA : HA x = some (.ins (He.ga K "Line") dx (putF "own_belts" (V.ref lb) [])) := by rw [← eA, upd_same]
    have bA : HA lb = some (.lst (p.belts.map V.int)) := by rw [← eA, upd_ne (Ne.symm hxb), upd_same]
    have stay : ∀ {H' : Hp} {l : Addr} {xs : List V}, SameX x H H' → H' x ≠ none → (∀ ys, H x ≠ some (.tup ys)) → SqT K H l xs → SqT K H' l xs := fun {H' l xs} e _ _ h => by
      have hlx : ∀ o, H l = some o → (∀ fs, o ≠ .ins (He.ga K "Line") dx fs) → l ≠ x := fun o ho hn e2 => by
        rw [e2, hx] at ho
        cases ho
        exact hn _ rfl
      rcases h with (h | ⟨o, h⟩) | h
      · exact .inl (.inl (e _ _ (hlx _ h fun _ q => by cases q) h))
      · exact .inl (.inr ⟨o, e _ _ (hlx _ h fun _ q => by cases q) h⟩)
      · exact .inr h
    have stayL : ∀ {H' : Hp} {l : Addr} {xs : List V}, SameX x H H' → SqL K H l xs → SqL K H' l xs := fun {H' l xs} e h => by
      have hlx : ∀ o, H l = some o → (∀ fs, o ≠ .ins (He.ga K "Line") dx fs) → l ≠ x := fun o ho hn e2 => by
        rw [e2, hx] at ho
        cases ho
        exact hn _ rfl
      rcases h with (h | ⟨o, h⟩) | h
      · exact .inl (.inl (e _ _ (hlx _ h fun _ q => by cases q) h))
      · exact .inl (.inr ⟨o, e _ _ (hlx _ h fun _ q => by cases q) h⟩)
      · exact .inr h
    have hnt : ∀ ys, H x ≠ some (.tup ys) := fun ys e => by
      rw [hx] at e
      cases e
    refine ⟨_, rfl, _, _, rfl, .inl (stayL xA hls), fun l2 m2 => ?_⟩
    have y2 := Same.up (o := .lst (p.scans.map V.int)) m2
    refine ⟨l2, p.scans, rfl, .inl (.inl upd_same), fun sc l3 hperm _ m3 => ?_⟩
    have y3 := Same.up (o := .lst (sc.map V.int)) m3
    have hx3' : x ≠ l3 := ne_of_none (y2 _ _ hA) m3
    have hb3 : lb ≠ l3 := ne_of_none (y2 _ _ bA) m3
    refine ⟨_, rfl, x, _, dx, _, rfl, y3 _ _ (y2 _ _ hA), T.cl_Line, T.na_Line_own_scans, fl_ok (fl_put fl_nil), ?_⟩
    refine ⟨_, rfl, _, rfl, x, _, dx, _, rfl, upd_same, T.cl_Line, T.na_Line_own_slips, fl_ok (fl_put (fl_put fl_nil)), ?_⟩
    generalize eB : upd (upd (upd (upd HA l2 (.lst (p.scans.map V.int))) l3 (.lst (sc.map V.int))) x _) x (.ins (He.ga K "Line") dx (putF "own_slips" (V.ref tp) (putF "own_scans" (V.ref l3) (putF "own_belts" (V.ref lb) [])))) = HB
    have xAB : SameX x HA HB := by
      rw [← eB]
      exact (((SameX.of y2).trans (SameX.of y3)).trans SameX.put).trans SameX.put
    have xB := xA.trans xAB
    have hB : HB x = some (.ins (He.ga K "Line") dx (putF "own_slips" (V.ref tp) (putF "own_scans" (V.ref l3) (putF "own_belts" (V.ref lb) [])))) := by rw [← eB, upd_same]
    have bB : HB lb = some (.lst (p.belts.map V.int)) := xAB _ _ (Ne.symm hxb) bA
    have sB : HB l3 = some (.lst (sc.map V.int)) := by rw [← eB, upd_ne (Ne.symm hx3'), upd_ne (Ne.symm hx3'), upd_same]
    refine ⟨_, rfl, _, _, rfl, .inl (stayL xB hlw), fun l4 m4 => ?_⟩
    have y4 := Same.up (o := .lst (wordsV p)) m4
    have hx4 : x ≠ l4 := ne_of_none hB m4
    refine ⟨_, rfl, x, _, dx, _, rfl, y4 _ _ hB, T.cl_Line, T.na_Line_own_words, fl_ok (fl_put (fl_put (fl_put fl_nil))), ?_⟩
    refine ⟨_, rfl, _, rfl, x, _, dx, _, rfl, upd_same, T.cl_Line, T.na_Line_own_stretch, fl_ok (fl_put (fl_put (fl_put (fl_put fl_nil)))), ?_⟩
    have xC : SameX x HB (upd (upd (upd HB l4 (.lst (wordsV p))) x (.ins (He.ga K "Line") dx (putF "own_words" (V.ref l4) (putF "own_slips" (V.ref tp) (putF "own_scans" (V.ref l3) (putF "own_belts" (V.ref lb) [])))))) x (.ins (He.ga K "Line") dx (putF "own_stretch" (oV p.stretch) (putF "own_words" (V.ref l4) (putF "own_slips" (V.ref tp) (putF "own_scans" (V.ref l3) (putF "own_belts" (V.ref lb) []))))))) :=
      ((SameX.of y4).trans SameX.put).trans SameX.put
    refine k _ (xB.trans xC) ⟨dx, lb, l3, tp, l4, sc, upd_same, xC _ _ (Ne.symm hxb) bB, xC _ _ (Ne.symm hx3') sB, fun v => hperm.mem_iff, stay (xB.trans xC) (by rw [upd_same]; exact fun e => by cases e) hnt htp, ?_⟩
    rw [upd_ne (Ne.symm hx4), upd_ne (Ne.symm hx4)]
    exact upd_same
def gV_Line___init___1 : V → List V → V → List V := fun v zs t => match zs with | [z0, z1, z2, z3] => [v, z0, z1, z2, z3, t] | _ => []
theorem okS_Line___init___1 (T : Txt w K mg) : FnS P w K mg base CX0 (2 + 1) (He.ma K (He.ga K "Line") "__init__") 1 ["scans", "slips", "words", "stretch"] gV_Line___init___1 (sp_lineI K) := by
  refine fn_starS T.D_Line___init__ sc_Line___init__ StX.cxUp_none (fun v zs t => match zs with | [z0, z1, z2, z3] => [v, z0, z1, z2, z3, t] | _ => []) (fun {v u zs ws t r} rv rz rt hl => ?_) (fun kV doc pm cdv ct an u rest ws h1 h2 => ?_) (body_Line___init__ T)
  · obtain ⟨z0, z1, z2, z3, rfl⟩ : ∃ z0 z1 z2 z3, zs = [z0, z1, z2, z3] := by
      match zs, hl with
      | [a0, a1, a2, a3], _ => exact ⟨a0, a1, a2, a3, rfl⟩
    cases rz with
    | cons r0 rz =>
      cases rz with
      | cons r1 rz =>
        cases rz with
        | cons r2 rz =>
          cases rz with
          | cons r3 rz =>
            cases rz
            exact ⟨.cons rv (.cons r0 (.cons r1 (.cons r2 (.cons r3 (.cons rt .nil))))), rfl⟩
  · match rest, h1, ws, h2 with
    | [b0], _, [a0, a1, a2, a3], _ => rfl
def gV_Line___init___2 : V → List V → V → List V := fun v zs t => match zs with | [z0, z1, z2, z3] => [v, z3, z2, z1, z0, t] | _ => []
theorem okS_Line___init___2 (T : Txt w K mg) : FnS P w K mg base CX0 (2 + 1) (He.ma K (He.ga K "Line") "__init__") 2 ["stretch", "words", "slips", "scans"] gV_Line___init___2 (sp_lineI K) := by
  refine fn_starS T.D_Line___init__ sc_Line___init__ StX.cxUp_none (fun v zs t => match zs with | [z0, z1, z2, z3] => [v, z3, z2, z1, z0, t] | _ => []) (fun {v u zs ws t r} rv rz rt hl => ?_) (fun kV doc pm cdv ct an u rest ws h1 h2 => ?_) (body_Line___init__ T)
  · obtain ⟨z0, z1, z2, z3, rfl⟩ : ∃ z0 z1 z2 z3, zs = [z0, z1, z2, z3] := by
      match zs, hl with
      | [a0, a1, a2, a3], _ => exact ⟨a0, a1, a2, a3, rfl⟩
    cases rz with
    | cons r0 rz =>
      cases rz with
      | cons r1 rz =>
        cases rz with
        | cons r2 rz =>
          cases rz with
          | cons r3 rz =>
            cases rz
            exact ⟨.cons rv (.cons r3 (.cons r2 (.cons r1 (.cons r0 (.cons rt .nil))))), rfl⟩
  · match rest, h1, ws, h2 with
    | [b0, b1], _, [a0, a1, a2, a3], _ => rfl
end
end Ow
set_option Elab.async false
set_option linter.all false
set_option maxRecDepth 100000
set_option maxHeartbeats 4000000
namespace Ow
open PySem PySem.Spec PyProof.Rows L2
/-! ### an attribute as one of several targets -/
def gFld (K : PySem.W.Frag) (to : TE) (f : Str) : TG := fun v σ H Q => to σ H fun o H1 => ∃ a C dx fs, o = .ref a ∧ H1 a = some (.ins C dx fs) ∧ Cls K C ∧ NoAttr K C f ∧ fs.length < 1000 ∧ Q σ (upd H1 a (.ins C dx (putF f v fs)))
theorem pg_fld {X : Cx} {o : Expr} {f : Str} {to : TE} {pos : Pos} (ho : PE X o to) : PG X (.Attribute o f pos) (gFld X.K to f) := by
  refine ⟨fun pins s σ H v u Q I r h => ?_⟩
  refine PySem.W.kas_attr (thn (ho.run pins s σ H _ I h) fun ov s1 ⟨x, H1, I1, rx, a, C, dx, fs, ex, ea, c, n, l, q⟩ => ?_)
  subst ex
  obtain rfl : ov = Value.ref a := rx
  exact setattr_ok I1 ea c n l r fun s3 I3 => ⟨σ, _, I3, q⟩
/-! ### len of an instance, by its own __len__ -/
def rLenO (C : Addr) (sp : Sp) : List V → Hp → VK → Prop := fun xs H Q => ∃ (a dx : Addr) (fs : List (Str × V)), xs = [.ref a] ∧ H a = some (.ins C dx fs) ∧ sp [.ref a] H (fun v H' => ∃ n : Int, v = .int n ∧ 0 ≤ n ∧ n < 2 ^ 62 ∧ Q (.int n) H') E0
theorem cr_lenO {X : Cx} {C f : Addr} {k : Nat} {fd : FuncData} {ps : List Str} {sp : Sp} {CX : CXT} (hm : Meth X.K C "__len__" f) (F : FnOk X.prog X.w X.K X.mg X.base CX k f fd ps sp) (hr : Room (k + 1) X.A) (hb : Binds X.K fd ps []) (hx : Passes CX X E0) : CallR X (.builtin "len") (rLenO C sp) := by
  intro pins s σ H xs us Q I r h
  obtain ⟨a, dx, fs, e, ea, h⟩ := h
  subst e
  obtain ⟨u, eu, rx⟩ := vals1 r
  subst eu
  obtain rfl : u = Value.ref a := rx
  have hl : ([Value.ref a] ++ []).length = ps.length := by
    have e := F.len _ _ _ _ h
    rw [← e]
    rfl
  obtain ⟨mA, O, _, _, _, _⟩ := ins_get I.hok ea
  obtain ⟨od, J, _⟩ := O.look
  refine Calls.call_function_entry kind_len plain_len entry_len (args_len1 _) ?_
  unfold Builtin.«len»
  refine wpAny_bind (m := oneArg "len" _) (wpAny_pure ?_)
  refine wpAny_bind (m := callSpecial? (.ref a) (Str.ofString "__len__")) (PySem.W.special_fn I.kIn J hm.at_ (beq_iff_eq.mp hm.fn) (wpAny_call (codeAny_mono (F.run X.A.in1 X.stack s H ⟨[.ref a], []⟩ [Value.ref a] [.ref a] _ E0 hr.in1 I.env0.in1 (hb _ [.ref a] I.kIn hl) (.cons rfl .nil) h) fun r s' hq => ?_)))
  cases r with
  | error e => exact hx pins σ H s e s' I hq
  | ok fl =>
    cases fl with
    | ret u =>
      obtain ⟨v, H', I2, rv, n, ev, h0, h1, q⟩ := I.after hq
      subst ev
      obtain ⟨t, rfl⟩ := rv
      refine wpAny_bind (wpAny_holding (wpAny_pure ?_))
      refine wpAny_bind (wpAny_letGo ?_)
      show wpAny _ _ (if n < 0 then _ else _) _ _ _
      rw [if_neg (by omega)]
      show wpAny _ _ (if n ≥ 2 ^ 63 then _ else _) _ _ _
      rw [if_neg (by omega)]
      exact wpAny_bind (wpAny_mkInt (wpAny_pure ⟨_, rfl, ⟨.int n, H', I2.tok _, ⟨_, rfl⟩, q⟩⟩))
    | next => exact False.elim hq
    | brk => exact False.elim hq
    | cont => exact False.elim hq
/-! ### try: body / finally: suite, where nothing raises or leaves -/
def tFin (tb tf : TS) : TS := fun D σ H => tb { nx := fun σ' H' => tf D σ' H', rt := fun _ _ => False, bk := fun _ _ => False, ct := fun _ _ => False } σ H
theorem ps_fin {X : Cx} {body : List Stmt} {f₀ : Stmt} {fs : List Stmt} {tb tf : TS} {pos : Pos} (hb : PSs X.nox body tb) (hf : PSs X.nox (f₀ :: fs) tf) : PS X (.Try body [] [] (f₀ :: fs) pos) (tFin tb tf) := by
  refine ⟨fun pins s σ H D I h => ?_⟩
  refine wpAny_Try_finally (wpAny_mono (hb.run pins s σ H _ (I.wish _) h) (fun f s1 z => ?_) fun _ _ z => False.elim z)
  cases f with
  | next =>
    obtain ⟨σ1, H1, I1, q1⟩ := z
    refine wpAny_execs_nil ?_
    refine wpAny_mono (hf.run pins s1 σ1 H1 D I1 q1) (fun g s2 q => ?_) fun _ _ z => False.elim z
    have q' : SP X pins D g s2 := q.unwish
    cases g with
    | next => exact q'
    | ret w2 => exact q'
    | brk => exact q'
    | cont => exact q'
  | ret u =>
    obtain ⟨_, _, _, _, _, q⟩ := z
    exact q.elim
  | brk =>
    obtain ⟨_, _, _, q⟩ := z
    exact q.elim
  | cont =>
    obtain ⟨_, _, _, q⟩ := z
    exact q.elim
end Ow
set_option Elab.async false
set_option linter.all false
set_option maxRecDepth 100000
set_option maxHeartbeats 4000000
/-! what stays where objects are written; a Run as it stands -/
namespace Ow
open PySem PySem.Spec PyProof.Rows L2
section
variable {K : PySem.W.Frag} {H H' : Hp} {v : V}
/-- the tuples stay -/
def TupS (K : PySem.W.Frag) (H H' : Hp) : Prop := ∀ a xs, SqT K H a xs → SqT K H' a xs
theorem TupS.of (e : Same H H') : TupS K H H' := fun _ _ h => Same.seqT e h
theorem TupS.refl : TupS K H H := fun _ _ h => h
theorem TupS.trans {H1 : Hp} (a : TupS K H H1) (b : TupS K H1 H') : TupS K H H' := fun x xs h => b x xs (a x xs h)
theorem TupS.lst {d : Addr} {xs : List V} {o : HO} (h : H d = some (.lst xs)) : TupS K H (upd H d o) := fun _ _ z => seqT_put z h (fun _ e => by cases e) (fun _ _ e => by cases e)
theorem TupS.ins {d C dx : Addr} {fs : List (Str × V)} {o : HO} (h : H d = some (.ins C dx fs)) : TupS K H (upd H d o) := fun _ _ z => seqT_put z h (fun _ e => by cases e) (fun _ _ e => by cases e)
theorem TupS.dk {d : Addr} {kvs : List (Key × V)} {o : HO} (h : H d = some (.dK kvs)) : TupS K H (upd H d o) := fun _ _ z => seqT_put z h (fun _ e => by cases e) (fun _ _ e => by cases e)
theorem TupS.ext {d : Addr} {φ : Heap → Prop} {o : HO} (h : H d = some (.ext φ)) : TupS K H (upd H d o) := fun _ _ z => seqT_put z h (fun _ e => by cases e) (fun _ _ e => by cases e)
theorem AtI.ts {xs : List Int} (e : TupS K H H') (h : AtI K H v xs) : AtI K H' v xs := let ⟨a, r, q⟩ := h; ⟨a, r, e _ _ q⟩
theorem AtII.ts {xs : List (List Int)} (e : TupS K H H') (h : AtII K H v xs) : AtII K H' v xs := by
  obtain ⟨a, vs, r, q, z⟩ := h
  exact ⟨a, vs, r, e _ _ q, z.imp fun _ _ => AtI.ts e⟩
theorem StAt.ts {s : St} (e : TupS K H H') (h : StAt K H v s) : StAt K H' v s := by
  obtain ⟨a, vb, vq, vs, r, q, h1, h2, h3⟩ := h
  exact ⟨a, vb, vq, vs, r, e _ _ q, h1.ts e, h2.ts e, h3.ts e⟩
theorem PlAt.ts {s : Place} (e : TupS K H H') (h : PlAt K H v s) : PlAt K H' v s := by
  obtain ⟨a, vb, vq, vs, r, q, h1, h2, h3⟩ := h
  exact ⟨a, vb, vq, vs, r, e _ _ q, h1.ts e, h2.ts e, h3.ts e⟩
theorem DeAt.ts {d : Deed} (e : TupS K H H') (h : DeAt K H v d) : DeAt K H' v d := let ⟨a, r, q⟩ := h; ⟨a, r, e _ _ q⟩
theorem SentAt.ts {o : Option (Int × Int)} (e : TupS K H H') (h : SentAt K H v o) : SentAt K H' v o := by
  cases o with
  | none => exact h
  | some q => exact let ⟨t, h1, h2⟩ := h; ⟨t, h1, e _ _ h2⟩
end
/-! ### a Run -/
def runF (pv sv : V) (ls lu lc le : Addr) (b : Bool) : List (Str × V) := [("own_plant", pv), ("steps", .ref ls), ("undone", .ref lu), ("state", sv), ("chutes", .ref lc), ("sent", .ref le), ("is_held", .bl b)]
structure RunP (K : PySem.W.Frag) (H0 H : Hp) (x dx : Addr) (pv sv : V) (ls lu lc le : Addr) (b : Bool) (steps vs : List V) (m : Nat) (p : Plan) (s : St) (cs : List Int) (ss : List (Int × Int)) : Prop where
  base : Same H0 H
  plant : PlantAt K H0 pv p
  nx : H0 x = none
  ns : H0 ls = none
  nc : H0 lc = none
  ne : H0 le = none
  at_ : H x = some (.ins (He.ga K "Run") dx (runF pv sv ls lu lc le b))
  st : StAt K H sv s
  hs : H ls = some (.lst steps)
  hc : H lc = some (.lst (cs.map V.int))
  he : H le = some (.lst vs)
  sent : All2 (fun v q => SentAt K H v (some q)) vs ss
  dcs : lc ≠ ls
  dce : lc ≠ le
  des : le ≠ ls
  zs : steps.length ≤ m
  zc : cs.length ≤ m
  zn : ss.length ≤ m
/-- all but what a Run owns -/
def SameR (x ls lc le : Addr) (H H' : Hp) : Prop := ∀ b o, b ≠ x → b ≠ ls → b ≠ lc → b ≠ le → H b = some o → H' b = some o
theorem SameR.of {x ls lc le : Addr} {H H' : Hp} (e : Same H H') : SameR x ls lc le H H' := fun b o _ _ _ _ h => e b o h
theorem SameR.trans {x ls lc le : Addr} {H H1 H2 : Hp} (a : SameR x ls lc le H H1) (b : SameR x ls lc le H1 H2) : SameR x ls lc le H H2 := fun c o h1 h2 h3 h4 h => b c o h1 h2 h3 h4 (a c o h1 h2 h3 h4 h)
section
variable {K : PySem.W.Frag} {H0 H H' : Hp} {x dx ls lu lc le : Addr} {pv sv : V} {b : Bool} {steps vs : List V} {m : Nat} {p : Plan} {s : St} {cs : List Int} {ss : List (Int × Int)}
theorem RunP.mono (r : RunP K H0 H x dx pv sv ls lu lc le b steps vs m p s cs ss) (e : Same H H') : RunP K H0 H' x dx pv sv ls lu lc le b steps vs m p s cs ss where
  base := r.base.trans e
  plant := r.plant
  nx := r.nx
  ns := r.ns
  nc := r.nc
  ne := r.ne
  at_ := e _ _ r.at_
  st := r.st.mono e
  hs := e _ _ r.hs
  hc := e _ _ r.hc
  he := e _ _ r.he
  sent := r.sent.imp fun _ _ => SentAt.mono e
  dcs := r.dcs
  dce := r.dce
  des := r.des
  zs := r.zs
  zc := r.zc
  zn := r.zn
theorem RunP.xs (r : RunP K H0 H x dx pv sv ls lu lc le b steps vs m p s cs ss) : x ≠ ls := ne_of r.at_ r.hs (fun e => by cases e)
theorem RunP.xc (r : RunP K H0 H x dx pv sv ls lu lc le b steps vs m p s cs ss) : x ≠ lc := ne_of r.at_ r.hc (fun e => by cases e)
theorem RunP.xe (r : RunP K H0 H x dx pv sv ls lu lc le b steps vs m p s cs ss) : x ≠ le := ne_of r.at_ r.he (fun e => by cases e)
theorem RunP.pl (r : RunP K H0 H x dx pv sv ls lu lc le b steps vs m p s cs ss) : PlantAt K H pv p := r.plant.mono r.base
/-- the object itself is written -/
theorem RunP.set (r : RunP K H0 H x dx pv sv ls lu lc le b steps vs m p s cs ss) {sv2 : V} {lu2 : Addr} {b2 : Bool} {s2 : St} (hs : StAt K H sv2 s2) :
    RunP K H0 (upd H x (.ins (He.ga K "Run") dx (runF pv sv2 ls lu2 lc le b2))) x dx pv sv2 ls lu2 lc le b2 steps vs m p s2 cs ss where
  base := Same.put r.base r.nx
  plant := r.plant
  nx := r.nx
  ns := r.ns
  nc := r.nc
  ne := r.ne
  at_ := upd_same
  st := hs.ts (TupS.ins r.at_)
  hs := by rw [upd_ne (Ne.symm r.xs)]; exact r.hs
  hc := by rw [upd_ne (Ne.symm r.xc)]; exact r.hc
  he := by rw [upd_ne (Ne.symm r.xe)]; exact r.he
  sent := r.sent.imp fun _ _ => SentAt.ts (TupS.ins r.at_)
  dcs := r.dcs
  dce := r.dce
  des := r.des
  zs := r.zs
  zc := r.zc
  zn := r.zn
theorem RunP.up (r : RunP K H0 H x dx pv sv ls lu lc le b steps vs m p s cs ss) : RunP K H0 H x dx pv sv ls lu lc le b steps vs (m + 1) p s cs ss :=
  { r with zs := Nat.le_succ_of_le r.zs, zc := Nat.le_succ_of_le r.zc, zn := Nat.le_succ_of_le r.zn }
theorem RunP.chute (r : RunP K H0 H x dx pv sv ls lu lc le b steps vs m p s cs ss) (c : Int) : RunP K H0 (upd H lc (.lst (cs.map V.int ++ [V.int c]))) x dx pv sv ls lu lc le b steps vs (m + 1) p s (cs ++ [c]) ss where
  base := Same.put r.base r.nc
  plant := r.plant
  nx := r.nx
  ns := r.ns
  nc := r.nc
  ne := r.ne
  at_ := by rw [upd_ne r.xc]; exact r.at_
  st := r.st.ts (TupS.lst r.hc)
  hs := by rw [upd_ne (Ne.symm r.dcs)]; exact r.hs
  hc := by rw [upd_same, List.map_append]; rfl
  he := by rw [upd_ne (Ne.symm r.dce)]; exact r.he
  sent := r.sent.imp fun _ _ => SentAt.ts (TupS.lst r.hc)
  dcs := r.dcs
  dce := r.dce
  des := r.des
  zs := Nat.le_succ_of_le r.zs
  zc := by rw [List.length_append]; exact Nat.succ_le_succ r.zc
  zn := Nat.le_succ_of_le r.zn
theorem RunP.send (r : RunP K H0 H x dx pv sv ls lu lc le b steps vs m p s cs ss) {v : V} {q : Int × Int} (hv : SentAt K H v (some q)) : RunP K H0 (upd H le (.lst (vs ++ [v]))) x dx pv sv ls lu lc le b steps (vs ++ [v]) (m + 1) p s cs (ss ++ [q]) where
  base := Same.put r.base r.ne
  plant := r.plant
  nx := r.nx
  ns := r.ns
  nc := r.nc
  ne := r.ne
  at_ := by rw [upd_ne r.xe]; exact r.at_
  st := r.st.ts (TupS.lst r.he)
  hs := by rw [upd_ne (Ne.symm r.des)]; exact r.hs
  hc := by rw [upd_ne r.dce]; exact r.hc
  he := upd_same
  sent := (r.sent.imp fun _ _ => SentAt.ts (TupS.lst r.he)).append (.cons (hv.ts (TupS.lst r.he)) .nil)
  dcs := r.dcs
  dce := r.dce
  des := r.des
  zs := Nat.le_succ_of_le r.zs
  zc := Nat.le_succ_of_le r.zc
  zn := by rw [List.length_append]; exact Nat.succ_le_succ r.zn
theorem RunP.step (r : RunP K H0 H x dx pv sv ls lu lc le b steps vs m p s cs ss) (v : V) : RunP K H0 (upd H ls (.lst (steps ++ [v]))) x dx pv sv ls lu lc le b (steps ++ [v]) vs (m + 1) p s cs ss where
  base := Same.put r.base r.ns
  plant := r.plant
  nx := r.nx
  ns := r.ns
  nc := r.nc
  ne := r.ne
  at_ := by rw [upd_ne r.xs]; exact r.at_
  st := r.st.ts (TupS.lst r.hs)
  hs := upd_same
  hc := by rw [upd_ne r.dcs]; exact r.hc
  he := by rw [upd_ne r.des]; exact r.he
  sent := r.sent.imp fun _ _ => SentAt.ts (TupS.lst r.hs)
  dcs := r.dcs
  dce := r.dce
  des := r.des
  zs := by rw [List.length_append]; exact Nat.succ_le_succ r.zs
  zc := Nat.le_succ_of_le r.zc
  zn := Nat.le_succ_of_le r.zn
theorem SameR.wx {o : HO} : SameR x ls lc le H (upd H x o) := fun c u h1 _ _ _ h => by rw [upd_ne h1]; exact h
theorem SameR.ws {o : HO} : SameR x ls lc le H (upd H ls o) := fun c u _ h1 _ _ h => by rw [upd_ne h1]; exact h
theorem SameR.wc {o : HO} : SameR x ls lc le H (upd H lc o) := fun c u _ _ h1 _ h => by rw [upd_ne h1]; exact h
theorem SameR.we {o : HO} : SameR x ls lc le H (upd H le o) := fun c u _ _ _ h1 h => by rw [upd_ne h1]; exact h
end
def csNext (cs : List Int) (ch : Int) : Deed → List Int
  | .come _ => cs ++ [ch]
  | _ => cs
def ssNext (ss : List (Int × Int)) : Option (Int × Int) → List (Int × Int)
  | none => ss
  | some q => ss ++ [q]
def astrayOf (cs : List Int) (ss : List (Int × Int)) : List Int := (ss.filter fun q => decide (q.2 ≠ -2) && decide (cs.getD q.2.toNat 0 ≠ cs.getD q.1.toNat 0)).map Prod.fst
def InR (cs : List Int) (ss : List (Int × Int)) : Prop := ∀ q ∈ ss, (0 ≤ q.1 ∧ q.1 < cs.length) ∧ (q.2 = -2 ∨ (0 ≤ q.2 ∧ q.2 < cs.length))
end Ow
set_option Elab.async false
set_option linter.all false
set_option maxRecDepth 100000
set_option maxHeartbeats 4000000
namespace Ow
open PySem PySem.Spec PyProof.Rows L2
section
variable {P : Program} {w : World} {K : PySem.W.Frag} {mg : Str → Option Value} {base : Heap}
def sp_runI (K : PySem.W.Frag) : Sp := fun vs H Q _ => ∃ (x dx a : Addr) (p : Plan) (H0 : Hp), vs = [.ref x, .ref a] ∧ H x = some (.ins (He.ga K "Run") dx []) ∧ PlantAt K H0 (.ref a) p ∧ Same H0 H ∧ H0 x = none ∧ p.Ok ∧
  ∀ H' sv ls lu lc le, RunP K H0 H' x dx (.ref a) sv ls lu lc le false [] [] 0 p (St.start p) [] [] → SameX x H H' → H ls = none → H lc = none → H le = none → TupS K H H' → Q .non H'
theorem sc_Run___init__ : FnScope ["self", "plant"] ["self", "plant"] (defScope s_Run___init__) := ⟨rfl, rfl, rfl, by decide +kernel, rfl, by decide +kernel, by decide +kernel⟩
theorem Txt.b_Run___init__ (T : Txt w K mg) : Binds K (fdA K (He.ma K (He.ga K "Run") "__init__")) ["self", "plant"] [] := T.F_Run___init__.binds fun _ _ _ _ _ _ us hl => match us, hl with | [_, _], _ => rfl
theorem ok_Run___init__ (T : Txt w K mg) : FnOk P w K mg base CX0 4 (He.ma K (He.ga K "Run") "__init__") (fdA K (He.ma K (He.ga K "Run") "__init__")) ["self", "plant"] (sp_runI K) := by
  refine T.F_Run___init__.ok sc_Run___init__ (fun vs H Q E h => ?_) (fun cdv A outer s H vs Q E hr h => ?_)
  · obtain ⟨x, dx, a, p, H0, rfl, _⟩ := h
    rfl
  · obtain ⟨x, dx, a, p, H0, rfl, hx, hp, e0, nx, ok, k⟩ := h
    refine ⟨_, (pss_cons (ps_fld (pv 0) (pv 1) rfl)
      (pss_cons (ps_fld (pv 0) (pe_lst pa_nil) rfl)
      (pss_cons (ps_fld (pv 0) (pe_lst pa_nil) rfl)
      (pss_cons (ps_fld (pv 0) (pe_call (ok_start T) (hr.mono (by decide)) (by rfl) T.g_start T.D_start.kp T.b_start .nil pass0 (pa_cons (pv 1) pa_nil)) rfl)
      (pss_cons (ps_fld (pv 0) (pe_lst pa_nil) rfl)
      (pss_cons (ps_fld (pv 0) (pe_lst pa_nil) rfl)
      (pss_one (ps_fld (pv 0) pe_bl rfl)))))))), ?_⟩
    refine ⟨_, rfl, _, rfl, x, _, dx, [], rfl, hx, T.cl_Run, T.na_Run_own_plant, by simp, ?_⟩
    have b1 : Same H0 (upd H x (.ins (He.ga K "Run") dx (putF "own_plant" (V.ref a) []))) := Same.put e0 nx
    have t1 : TupS K H (upd H x (.ins (He.ga K "Run") dx (putF "own_plant" (V.ref a) []))) := TupS.ins hx
    refine ⟨ok_le (by simp), fun ls m1 => ?_⟩
    have n1 : x ≠ ls := ne_of_none upd_same m1
    have m1' : H ls = none := by rw [← m1, upd_ne (Ne.symm n1)]
    refine ⟨_, rfl, x, _, dx, _, rfl, by rw [upd_ne n1]; exact upd_same, T.cl_Run, T.na_Run_steps, fl_ok (fl_put fl_nil), ?_⟩
    refine ⟨ok_le (by simp), fun lu m2 => ?_⟩
    have n2 : x ≠ lu := ne_of_none upd_same m2
    refine ⟨_, rfl, x, _, dx, _, rfl, by rw [upd_ne n2]; exact upd_same, T.cl_Run, T.na_Run_undone, fl_ok (fl_put (fl_put fl_nil)), ?_⟩
    generalize eA : upd (upd (upd (upd (upd H x _) ls (.lst [])) x _) lu (.lst [])) x (.ins (He.ga K "Run") dx (putF "undone" (V.ref lu) (putF "steps" (V.ref ls) (putF "own_plant" (V.ref a) [])))) = HA
    have hA : HA x = some (.ins (He.ga K "Run") dx (putF "undone" (V.ref lu) (putF "steps" (V.ref ls) (putF "own_plant" (V.ref a) [])))) := by rw [← eA, upd_same]
    have ms0 : H0 ls = none := Same.free e0 m1'
    have bA : Same H0 HA := by
      rw [← eA]
      refine Same.put (Same.trans (Same.put (Same.trans b1 (Same.up m1)) nx) (Same.up m2)) nx
    have xA : SameX x H HA := by
      rw [← eA]
      exact ((((SameX.put).trans (SameX.of (Same.up m1))).trans SameX.put).trans (SameX.of (Same.up m2))).trans SameX.put
    have tA : TupS K H HA := by
      rw [← eA]
      exact (((t1.trans (TupS.of (Same.up m1))).trans (TupS.ins (by rw [upd_ne n1]; exact upd_same))).trans (TupS.of (Same.up m2))).trans (TupS.ins (by rw [upd_ne n2]; exact upd_same))
    have nlu : ls ≠ lu := fun e => by
      rw [← e, upd_ne (Ne.symm n1), upd_same] at m2
      cases m2
    have sA : HA ls = some (.lst []) := by rw [← eA, upd_ne (Ne.symm n1), upd_ne nlu, upd_ne (Ne.symm n1), upd_same]
    clear eA
    refine ⟨_, rfl, a, p, rfl, hp.mono bA, ok, fun sv H2 z2 hs => ?_⟩
    refine ⟨_, rfl, x, _, dx, _, rfl, z2 _ _ hA, T.cl_Run, T.na_Run_state, fl_ok (fl_put (fl_put (fl_put fl_nil))), ?_⟩
    refine ⟨ok_le (by simp), fun lc m3 => ?_⟩
    have n3 : x ≠ lc := ne_of_none upd_same m3
    have m3' : H2 lc = none := by rw [← m3, upd_ne (Ne.symm n3)]
    refine ⟨_, rfl, x, _, dx, _, rfl, by rw [upd_ne n3]; exact upd_same, T.cl_Run, T.na_Run_chutes, fl_ok (fl_put (fl_put (fl_put (fl_put fl_nil)))), ?_⟩
    refine ⟨ok_le (by simp), fun le m4 => ?_⟩
    have n4 : x ≠ le := ne_of_none upd_same m4
    have nce : lc ≠ le := fun e => by
      rw [← e, upd_ne (Ne.symm n3), upd_same] at m4
      cases m4
    have m4' : H2 le = none := by rw [← m4, upd_ne (Ne.symm n4), upd_ne (Ne.symm nce), upd_ne (Ne.symm n4)]
    refine ⟨_, rfl, x, _, dx, _, rfl, by rw [upd_ne n4]; exact upd_same, T.cl_Run, T.na_Run_sent, fl_ok (fl_put (fl_put (fl_put (fl_put (fl_put fl_nil))))), ?_⟩
    refine ⟨_, rfl, x, _, dx, _, rfl, upd_same, T.cl_Run, T.na_Run_is_held, fl_ok (fl_put (fl_put (fl_put (fl_put (fl_put (fl_put fl_nil)))))), ?_⟩
    have s2 := z2 _ _ sA
    have ncs : lc ≠ ls := Ne.symm (ne_of_none s2 m3')
    have nes : le ≠ ls := Ne.symm (ne_of_none s2 m4')
    have b2 := bA.trans z2
    have m3h : H lc = none := by
      cases q : H lc with
      | none => rfl
      | some o =>
        rw [z2 _ _ (xA _ _ (Ne.symm n3) q)] at m3'
        cases m3'
    have m4h : H le = none := by
      cases q : H le with
      | none => rfl
      | some o =>
        rw [z2 _ _ (xA _ _ (Ne.symm n4) q)] at m4'
        cases m4'
    have tF : TupS K H2 (upd (upd (upd (upd (upd (upd H2 x (.ins (He.ga K "Run") dx (putF "state" sv (putF "undone" (V.ref lu) (putF "steps" (V.ref ls) (putF "own_plant" (V.ref a) [])))))) lc (.lst [])) x (.ins (He.ga K "Run") dx (putF "chutes" (V.ref lc) (putF "state" sv (putF "undone" (V.ref lu) (putF "steps" (V.ref ls) (putF "own_plant" (V.ref a) []))))))) le (.lst [])) x
        (.ins (He.ga K "Run") dx (putF "sent" (V.ref le) (putF "chutes" (V.ref lc) (putF "state" sv (putF "undone" (V.ref lu) (putF "steps" (V.ref ls) (putF "own_plant" (V.ref a) [])))))))) x
        (.ins (He.ga K "Run") dx (putF "is_held" (V.bl false) (putF "sent" (V.ref le) (putF "chutes" (V.ref lc) (putF "state" sv (putF "undone" (V.ref lu) (putF "steps" (V.ref ls) (putF "own_plant" (V.ref a) []))))))))) :=
      ((((TupS.ins (z2 _ _ hA)).trans (TupS.of (Same.up m3))).trans (TupS.ins (by rw [upd_ne n3]; exact upd_same))).trans (TupS.of (Same.up m4))).trans ((TupS.ins (by rw [upd_ne n4]; exact upd_same)).trans (TupS.ins upd_same))
    refine k _ sv ls lu lc le ?_ ?_ m1' m3h m4h (tA.trans ((TupS.of z2).trans tF))
    · refine ⟨Same.put (Same.put (Same.trans (Same.put (Same.trans (Same.put b2 nx) (Same.up m3)) nx) (Same.up m4)) nx) nx, hp, nx, ms0, Same.free b2 m3', Same.free b2 m4', upd_same, hs.ts tF, ?_, ?_, ?_, .nil, ncs, nce, nes, Nat.le_refl _, Nat.le_refl _, Nat.le_refl _⟩
      · rw [upd_ne (Ne.symm n1), upd_ne (Ne.symm n1), upd_ne (Ne.symm nes), upd_ne (Ne.symm n1), upd_ne (Ne.symm ncs), upd_ne (Ne.symm n1)]
        exact s2
      · rw [upd_ne (Ne.symm n3), upd_ne (Ne.symm n3), upd_ne nce, upd_ne (Ne.symm n3), upd_same]
        rfl
      · rw [upd_ne (Ne.symm n4), upd_ne (Ne.symm n4), upd_same]
    · exact xA.trans ((SameX.of z2).trans (((((SameX.put).trans (SameX.of (Same.up m3))).trans SameX.put).trans (SameX.of (Same.up m4))).trans (SameX.put.trans SameX.put)))
def sp_take (K : PySem.W.Frag) : Sp := fun vs H Q _ => ∃ (H0 : Hp) (x dx : Addr) (a : Addr) (sv : V) (ls lu lc le : Addr) (b : Bool) (steps ws : List V) (m : Nat) (p : Plan) (s : St) (cs : List Int) (ss : List (Int × Int)) (bd : Addr) (d : Deed) (ch : Int), vs = [.ref x, .ref bd, .int ch] ∧
  RunP K H0 H x dx (.ref a) sv ls lu lc le b steps ws m p s cs ss ∧ m ≤ 9000 ∧ p.Ok ∧ Fit p s ∧ SqT K H bd (dV d) ∧ inRange p d = true ∧ Holds s d ∧
  ∀ H' sv' ws', SameR x ls lc le H H' → RunP K H0 H' x dx (.ref a) sv' ls lu lc le b steps ws' (m + 2) p (moved p s d cs.length).1 (csNext cs ch d) (ssNext ss (moved p s d cs.length).2) → TupS K H H' → Q .non H'
theorem sc_Run_take : FnScope ["self", "deed", "chute", "sent"] ["self", "deed", "chute"] (defScope s_Run_take) := ⟨rfl, rfl, rfl, by decide +kernel, rfl, by decide +kernel, by decide +kernel⟩
theorem Txt.b_Run_take (T : Txt w K mg) : Binds K (fdA K (He.ma K (He.ga K "Run") "take")) ["self", "deed", "chute"] [] := T.F_Run_take.binds fun _ _ _ _ _ _ us hl => match us, hl with | [_, _, _], _ => rfl
theorem ok_Run_take (T : Txt w K mg) : FnOk P w K mg base CX0 6 (He.ma K (He.ga K "Run") "take") (fdA K (He.ma K (He.ga K "Run") "take")) ["self", "deed", "chute"] (sp_take K) := by
  refine T.F_Run_take.ok sc_Run_take (fun vs H Q E h => ?_) (fun cdv A outer s H vs Q E hr h => ?_)
  · obtain ⟨H0, x, dx, a, sv, ls, lu, lc, le, b, steps, ws, m, p, s', cs, ss, bd, d, ch, rfl, _⟩ := h
    rfl
  · obtain ⟨H0, x, dx, a, sv, ls, lu, lc, le, b, steps, ws, m, p, s', cs, ss, bd, d, ch, rfl, r, hm, ok, fit, hd, hin, hh, k⟩ := h
    refine ⟨_, (pss_cons (ps_asg (pe_call (ok_moved T) (hr.mono (by decide)) (by rfl) T.g_moved T.D_moved.kp T.b_moved .nil pass0 (pa_cons (pe_fld (pv 0) rfl) (pa_cons (pe_fld (pv 0) rfl) (pa_cons (pv 1) (pa_cons (pe_callB (cr_lenK (K := K)) (by rfl) T.f_len (by decide +kernel) (pa_cons (pe_fld (pv 0) rfl) pa_nil)) pa_nil))))) (pg_tup rfl (pgs_cons (pg_fld (pv 0)) (pgs_cons (pg_name (i := 3) sc_Run_take.nd rfl (by first | exact .inl rfl | exact .inr rfl)) pgs_nil))))
      (pss_cons (ps_if (pt_cmpR op_eq (pe_ix ix_tup (pv 1) pe_int (fun _ _ => rfl)) pe_str (nomark _)) (pss_one (ps_expr (pe_bm PySem.F.plainAttrs_list PySem.F.slot_list_append PySem.F.type_list_append mt_append (pe_fld (pv 0) rfl) (pa_cons (pv 2) pa_nil)))) pss_nil)
      (pss_one (ps_if (pt_cmpR op_notN (pv 3) pe_non (nomark _)) (pss_one (ps_expr (pe_bm PySem.F.plainAttrs_list PySem.F.slot_list_append PySem.F.type_list_append mt_append (pe_fld (pv 0) rfl) (pa_cons (pv 3) pa_nil)))) pss_nil)))), ?_⟩
    refine ⟨_, rfl, _, _, _, _, _, rfl, r.at_, T.cl_Run, T.na_Run_own_plant, rfl, _, rfl, _, _, _, _, _, rfl, r.at_, T.cl_Run, T.na_Run_state, rfl, _, rfl, _, rfl, _, _, _, _, _, rfl, r.at_, T.cl_Run, T.na_Run_chutes, rfl, _, _, rfl, .inl (.inl (.inl r.hc)), ?_⟩
    refine ⟨a, p, sv, s', bd, d, ((cs.map V.int).length : Nat), rfl, r.pl, ok, r.st, fit, hd, hin, hh, fun c v o H1 z1 hc hv ho => ?_⟩
    rw [List.length_map] at hv ho
    have r1 := r.mono z1
    refine ⟨_, _, rfl, hc, rfl, _, _, rfl, _, rfl, x, _, dx, _, rfl, r1.at_, T.cl_Run, T.na_Run_state, by simp [runF], _, _, rfl, rfl, ?_⟩
    have r2 : RunP K H0 (upd H1 x (.ins (He.ga K "Run") dx (runF (.ref a) v ls lu lc le b))) x dx (.ref a) v ls lu lc le b steps ws m p (moved p s' d cs.length).1 cs ss := r1.set hv
    have e2 : SameR x ls lc le H (upd H1 x (.ins (He.ga K "Run") dx (runF (.ref a) v ls lu lc le b))) := (SameR.of z1).trans SameR.wx
    have t2 : TupS K H1 (upd H1 x (.ins (He.ga K "Run") dx (runF (.ref a) v ls lu lc le b))) := TupS.ins r1.at_
    have ho2 := ho.ts t2
    have t02 := (TupS.of z1).trans t2
    have hd2 := t02 _ _ hd
    dsimp only [gName]
    rw [show putF "state" v (runF (.ref a) sv ls lu lc le b) = runF (.ref a) v ls lu lc le b from rfl]
    generalize upd H1 x (.ins (He.ga K "Run") dx (runF (.ref a) v ls lu lc le b)) = H2 at r2 e2 t02 hd2 ho2 ⊢
    refine seqE (M := fun σ' H' => σ' = [some (.ref x), some (.ref bd), some (.int ch), some o] ∧ RunP K H0 H' x dx (.ref a) v ls lu lc le b steps ws (m + 1) p (moved p s' d cs.length).1 (csNext cs ch d) ss ∧ SameR x ls lc le H H' ∧ TupS K H H' ∧ SentAt K H' o (moved p s' d cs.length).2) (fun N kN => ?_) ?_
    · cases d with
      | pause =>
        refine ⟨_, rfl, _, _, _, _, rfl, rfl, hd2, rfl, rfl, _, rfl, noo (by decide +kernel) ?_⟩
        exact kN _ _ ⟨rfl, r2.up, e2, t02, ho2⟩
      | pass i g =>
        refine ⟨_, rfl, _, _, _, _, rfl, rfl, hd2, rfl, rfl, _, rfl, noo (by decide +kernel) ?_⟩
        exact kN _ _ ⟨rfl, r2.up, e2, t02, ho2⟩
      | come g =>
        refine ⟨_, rfl, _, _, _, _, rfl, rfl, hd2, rfl, rfl, _, rfl, yes (by decide +kernel) ?_⟩
        refine ⟨_, rfl, _, _, _, _, _, rfl, r2.at_, T.cl_Run, T.na_Run_chutes, rfl, tyLst r2.hc, _, rfl, lc, _, _, rfl, rfl, r2.hc, ?_, ?_⟩
        · rw [List.length_map]
          exact Nat.lt_of_le_of_lt (Nat.le_trans r2.zc hm) (by decide)
        · exact kN _ _ ⟨rfl, r2.chute ch, e2.trans SameR.wc, t02.trans (TupS.lst r2.hc), ho2.ts (TupS.lst r2.hc)⟩
    rintro σ1 H3 ⟨rfl, r3, e3, t3, ho3⟩
    cases hq : (moved p s' d cs.length).2 with
    | none =>
      rw [hq] at ho3 k
      cases ho3
      refine ⟨_, rfl, rfl, _, rfl, noo rfl ?_⟩
      exact k _ _ _ e3 r3.up t3
    | some q =>
      rw [hq] at ho3 k
      obtain ⟨t, rfl, ht⟩ := id ho3
      refine ⟨_, rfl, rfl, _, rfl, yes rfl ?_⟩
      refine ⟨_, rfl, _, _, _, _, _, rfl, r3.at_, T.cl_Run, T.na_Run_sent, rfl, tyLst r3.he, _, rfl, le, _, _, rfl, rfl, r3.he, ?_, ?_⟩
      · have := r3.sent.length
        have := r3.zn
        exact Nat.lt_of_le_of_lt (show ws.length ≤ 9001 by omega) (by decide)
      · exact k _ _ _ (e3.trans SameR.we) (r3.send ho3) (t3.trans (TupS.lst r3.he))
end
end Ow
set_option Elab.async false
set_option linter.all false
set_option maxRecDepth 100000
set_option maxHeartbeats 4000000
namespace Ow
open PySem PySem.Spec PyProof.Rows L2
section
variable {P : Program} {w : World} {K : PySem.W.Frag} {mg : Str → Option Value} {base : Heap}
/-- some Run at x -/
def RunX (K : PySem.W.Frag) (H : Hp) (x : Addr) (cs : List Int) (ss : List (Int × Int)) : Prop := ∃ (dx lc le : Addr) (fs : List (Str × V)) (vs : List V), H x = some (.ins (He.ga K "Run") dx fs) ∧ fs.lookup ("chutes" : Str) = some (.ref lc) ∧ fs.lookup ("sent" : Str) = some (.ref le) ∧
  fs.lookup ("chute_of" : Str) = none ∧ H lc = some (.lst (cs.map V.int)) ∧ H le = some (.lst vs) ∧ All2 (fun v q => SentAt K H v (some q)) vs ss ∧ cs.length ≤ 9000 ∧ ss.length ≤ 9000
theorem RunP.toX {H0 H : Hp} {x dx ls lu lc le : Addr} {pv sv : V} {b : Bool} {steps vs : List V} {m : Nat} {p : Plan} {s : St} {cs : List Int} {ss : List (Int × Int)} (r : RunP K H0 H x dx pv sv ls lu lc le b steps vs m p s cs ss) (hm : m ≤ 9000) : RunX K H x cs ss :=
  ⟨dx, lc, le, _, vs, r.at_, rfl, rfl, rfl, r.hc, r.he, r.sent, Nat.le_trans r.zc hm, Nat.le_trans r.zn hm⟩
theorem RunX.mono {H H' : Hp} {x : Addr} {cs : List Int} {ss : List (Int × Int)} (e : Same H H') (h : RunX K H x cs ss) : RunX K H' x cs ss := by
  obtain ⟨dx, lc, le, fs, vs, h1, h2, h3, h4, h5, h6, h7, h8⟩ := h
  exact ⟨dx, lc, le, fs, vs, e _ _ h1, h2, h3, h4, e _ _ h5, e _ _ h6, h7.imp fun _ _ => SentAt.mono e, h8⟩
theorem atI_int {xs : List Int} {r : Int} (h0 : 0 ≤ r) (h1 : r < xs.length) : atI (xs.map V.int) r = some (.int (xs.getD r.toNat 0)) := by
  obtain ⟨k, rfl⟩ : ∃ k : Nat, r = (k : Int) := ⟨r.toNat, by omega⟩
  rw [Int.toNat_natCast]
  exact atI_nat (getI (by omega))
def sp_chuteOf (K : PySem.W.Frag) : Sp := fun vs H Q _ => ∃ (x : Addr) (cs : List Int) (ss : List (Int × Int)) (r : Int), vs = [.ref x, .int r] ∧ RunX K H x cs ss ∧ (r = -2 ∨ (0 ≤ r ∧ r < cs.length)) ∧ Q (if r = -2 then .non else .int (cs.getD r.toNat 0)) H
theorem sc_Run_chute_of : FnScope ["self", "record"] ["self", "record"] (defScope s_Run_chute_of) := ⟨rfl, rfl, rfl, by decide +kernel, rfl, by decide +kernel, by decide +kernel⟩
theorem Txt.b_Run_chute_of (T : Txt w K mg) : Binds K (fdA K (He.ma K (He.ga K "Run") "chute_of")) ["self", "record"] [] := T.F_Run_chute_of.binds fun _ _ _ _ _ _ us hl => match us, hl with | [_, _], _ => rfl
theorem ok_Run_chute_of (T : Txt w K mg) : FnOk P w K mg base CX0 1 (He.ma K (He.ga K "Run") "chute_of") (fdA K (He.ma K (He.ga K "Run") "chute_of")) ["self", "record"] (sp_chuteOf K) := by
  refine T.F_Run_chute_of.ok sc_Run_chute_of (fun vs H Q E h => ?_) (fun cdv A outer s H vs Q E hr h => ?_)
  · obtain ⟨x, cs, ss, r, rfl, _⟩ := h
    rfl
  · obtain ⟨x, cs, ss, r, rfl, ⟨dx, lc, le, fs, vs, h1, h2, h3, h4, h5, h6, h7, h8⟩, hr, k⟩ := h
    refine ⟨_, (pss_one (ps_ret (pe_ifExp (pt_cmpR op_eq (pv 1) (C8.pe_gc rfl T.c_BLANK) (nomark _)) pe_non (pe_ix ix_list (pe_fld (pv 0) rfl) (pv 1) (fun _ _ => rfl))))), ?_⟩
    refine ⟨_, rfl, rfl, _, rfl, ?_⟩
    by_cases c : r = -2
    · rw [if_pos c] at k
      exact yes (decide_eq_true (by rw [c])) k
    · rw [if_neg c] at k
      refine noo (decide_eq_false fun z => c (V.int.inj z)) ?_
      have hr2 : 0 ≤ r ∧ r < cs.length := by
        rcases hr with z | z
        · exact absurd z c
        · exact z
      exact ⟨_, rfl, _, _, _, _, _, rfl, h1, T.cl_Run, T.na_Run_chutes, h2, _, rfl, _, _, _, _, rfl, rfl, .inl (.inl h5), atI_int hr2.1 hr2.2, k⟩
def sp_runLen (K : PySem.W.Frag) : Sp := fun vs H Q _ => ∃ (x : Addr) (cs : List Int) (ss : List (Int × Int)), vs = [.ref x] ∧ RunX K H x cs ss ∧ Q (.int (cs.length : Nat)) H
theorem sc_Run___len__ : FnScope ["self"] ["self"] (defScope s_Run___len__) := ⟨rfl, rfl, rfl, by decide +kernel, rfl, by decide +kernel, by decide +kernel⟩
theorem Txt.b_Run___len__ (T : Txt w K mg) : Binds K (fdA K (He.ma K (He.ga K "Run") "__len__")) ["self"] [] := T.F_Run___len__.binds fun _ _ _ _ _ _ us hl => match us, hl with | [_], _ => rfl
theorem ok_Run___len__ (T : Txt w K mg) : FnOk P w K mg base CX0 1 (He.ma K (He.ga K "Run") "__len__") (fdA K (He.ma K (He.ga K "Run") "__len__")) ["self"] (sp_runLen K) := by
  refine T.F_Run___len__.ok sc_Run___len__ (fun vs H Q E h => ?_) (fun cdv A outer s H vs Q E hr h => ?_)
  · obtain ⟨x, cs, ss, rfl, _⟩ := h
    rfl
  · obtain ⟨x, cs, ss, rfl, ⟨dx, lc, le, fs, vs, h1, h2, h3, h4, h5, h6, h7, h8⟩, k⟩ := h
    refine ⟨_, (pss_one (ps_ret (pe_callB (cr_lenK (K := K)) (by rfl) T.f_len (by decide +kernel) (pa_cons (pe_fld (pv 0) rfl) pa_nil)))), ?_⟩
    refine ⟨_, rfl, _, _, _, _, _, rfl, h1, T.cl_Run, T.na_Run_chutes, h2, _, _, rfl, .inl (.inl (.inl h5)), ?_⟩
    rw [List.length_map]
    exact k
theorem astray_snoc (cs : List Int) (ss : List (Int × Int)) (q : Int × Int) : astrayOf cs (ss ++ [q]) = astrayOf cs ss ++ (if (decide (q.2 ≠ -2) && decide (cs.getD q.2.toNat 0 ≠ cs.getD q.1.toNat 0)) = true then [q.1] else []) := by
  unfold astrayOf
  rw [List.filter_append, List.map_append]
  congr 1
  by_cases c : (decide (q.2 ≠ -2) && decide (cs.getD q.2.toNat 0 ≠ cs.getD q.1.toNat 0)) = true
  · rw [if_pos c, List.filter_cons, if_pos c]
    rfl
  · rw [if_neg c, List.filter_cons, if_neg c]
    rfl
def sp_astray (K : PySem.W.Frag) : Sp := fun vs H Q _ => ∃ (x : Addr) (cs : List Int) (ss : List (Int × Int)), vs = [.ref x] ∧ RunX K H x cs ss ∧ InR cs ss ∧ ∀ (l : Addr) (ns : List Int) (H' : Hp), Same H H' → ns.Perm (astrayOf cs ss) → H' l = some (.lst (ns.map V.int)) → Q (.ref l) H'
theorem sc_Run_astray : FnScope ["self", "found", "label", "record"] ["self"] (defScope s_Run_astray) := ⟨rfl, rfl, rfl, by decide +kernel, rfl, by decide +kernel, by decide +kernel⟩
theorem Txt.b_Run_astray (T : Txt w K mg) : Binds K (fdA K (He.ma K (He.ga K "Run") "astray")) ["self"] [] := T.F_Run_astray.binds fun _ _ _ _ _ _ us hl => match us, hl with | [_], _ => rfl
theorem ok_Run_astray (T : Txt w K mg) : FnOk P w K mg base CX0 1 (He.ma K (He.ga K "Run") "astray") (fdA K (He.ma K (He.ga K "Run") "astray")) ["self"] (sp_astray K) := by
  refine T.F_Run_astray.ok sc_Run_astray (fun vs H Q E h => ?_) (fun cdv A outer s H vs Q E hr h => ?_)
  · obtain ⟨x, cs, ss, rfl, _⟩ := h
    rfl
  · obtain ⟨x, cs, ss, rfl, hX, hr, k⟩ := h
    obtain ⟨dx, lc, le, fs, vs, h1, h2, h3, h4, h5, h6, h7, h8, h9⟩ := id hX
    have hl := h7.length
    refine ⟨_, (pss_cons (ps_set (i := 1) sc_Run_astray.nd rfl (by first | exact .inl rfl | exact .inr rfl) (pe_lst pa_nil))
      (pss_cons (ps_for PassesOwn.never rfl (pi_list (pe_fld (pv 0) rfl)) (pg_tup rfl (pgs_cons (pg_name (i := 2) sc_Run_astray.nd rfl (by first | exact .inl rfl | exact .inr rfl)) (pgs_cons (pg_name (i := 3) sc_Run_astray.nd rfl (by first | exact .inl rfl | exact .inr rfl)) pgs_nil))) (pss_one (ps_if (PW.pt (pw_and (pt_cmpR op_ne (pv 3) (C8.pe_gc rfl T.c_BLANK) (nomark _)) (pw_and1 (pt_cmpR op_ne (pe_ix ix_list (pe_fld (pv 0) rfl) (pv 3) (fun _ _ => rfl)) (pe_ix ix_list (pe_fld (pv 0) rfl) (pv 2) (fun _ _ => rfl)) (nomark _))))) (pss_one (ps_expr (pe_bm PySem.F.plainAttrs_list PySem.F.slot_list_append PySem.F.type_list_append mt_append (pv 1) (pa_cons (pv 2) pa_nil)))) pss_nil)))
      (pss_one (ps_ret (pe_callB cr_sortedI (by rfl) T.f_sorted (by decide +kernel) (pa_cons (pv 1) pa_nil)))))), ?_⟩
    refine ⟨ok_le (by simp), fun lf mf => ?_⟩
    have z1 := Same.up (o := .lst []) mf
    dsimp only [gName]
    refine seqE (M := fun σ' H' => ∃ u v, σ' = [some (.ref x), some (.ref lf), u, v] ∧ Same H H' ∧ H' lf = some (.lst ((astrayOf cs ss).map V.int))) (fun N kN => ?_) ?_
    · refine ⟨_, rfl, _, _, _, _, _, rfl, z1 _ _ h1, T.cl_Run, T.na_Run_sent, h3, _, rfl, ⟨_, .inl (.inl (z1 _ _ h6))⟩, ?_⟩
      refine for_it (walk_list (xs := vs)) (fun i σ' H' => ∃ u v, σ' = [some (.ref x), some (.ref lf), u, v] ∧ Same H H' ∧ H' lf = some (.lst ((astrayOf cs (ss.take i)).map V.int)))
        ⟨_, _, rfl, z1, upd_same⟩ (fun i σ' H' _ h => ?_) ?_ ?_
      · obtain ⟨u, v, _, e, _⟩ := h
        exact .inl (.inl (e _ _ h6))
      · rintro i y σ' H2 H3 hi ⟨u, v, rfl, e, hf⟩ ⟨rfl, hy⟩
        obtain ⟨q, hq, t, rfl, ht⟩ := h7.get' hy
        have hsn : ss.take (i + 1) = ss.take i ++ [q] := by rw [List.take_succ, hq]; rfl
        have hin := hr q (List.mem_of_getElem? hq)
        have hal : (astrayOf cs (ss.take i)).length ≤ 9000 := by
          unfold astrayOf
          rw [List.length_map]
          refine Nat.le_trans (List.length_filter_le _ _) ?_
          rw [List.length_take]
          omega
        refine ⟨_, _, rfl, Same.seqT e ht, rfl, _, _, rfl, _, _, rfl, rfl, ?_⟩
        refine ⟨_, rfl, rfl, _, rfl, ?_⟩
        by_cases c : q.2 = -2
        · refine noo (by rw [c]; rfl) ?_
          refine noo rfl ?_
          refine ⟨_, _, rfl, e, ?_⟩
          rw [hsn, astray_snoc, if_neg (by rw [decide_eq_false (fun z => z c)]; exact Bool.false_ne_true), List.append_nil]
          exact hf
        · have hr2 : 0 ≤ q.2 ∧ q.2 < cs.length := by
            rcases hin.2 with z | z
            · exact absurd z c
            · exact z
          refine yes (by rw [decide_eq_false fun z => c (V.int.inj z)]; rfl) ?_
          refine ⟨_, rfl, _, _, _, _, _, rfl, e _ _ h1, T.cl_Run, T.na_Run_chutes, h2, _, rfl, _, _, _, _, rfl, rfl, .inl (.inl (e _ _ h5)), atI_int hr2.1 hr2.2, _, rfl, _, _, _, _, _, rfl, e _ _ h1, T.cl_Run, T.na_Run_chutes, h2, _, rfl, _, _, _, _, rfl, rfl, .inl (.inl (e _ _ h5)), atI_int hin.1.1 hin.1.2, rfl, _, rfl, ?_⟩
          by_cases c2 : cs.getD q.2.toNat 0 = cs.getD q.1.toNat 0
          · refine noo (by rw [c2]; simp) ?_
            refine ⟨_, _, rfl, e, ?_⟩
            rw [hsn, astray_snoc, if_neg (by rw [decide_eq_true c, decide_eq_false (fun z => z c2)]; exact Bool.false_ne_true), List.append_nil]
            exact hf
          · refine yes (by rw [decide_eq_false fun z => c2 (V.int.inj z)]; rfl) ?_
            refine ⟨_, rfl, tyLst hf, _, rfl, lf, _, _, rfl, rfl, hf, ?_, _, _, rfl, Same.put e mf, ?_⟩
            · rw [List.length_map]
              exact Nat.lt_of_le_of_lt hal (by decide)
            · rw [upd_same, hsn, astray_snoc, if_pos (by rw [decide_eq_true c, decide_eq_true c2]; rfl), List.map_append]
              rfl
      · rintro σ' H2 ⟨u, v, rfl, e, hf⟩
        rw [hl, List.take_length] at hf
        exact kN _ _ ⟨u, v, rfl, e, hf⟩
    rintro σ1 H1 ⟨u, v, rfl, e, hf⟩
    exact ⟨_, rfl, lf, _, rfl, .inl (.inl hf), fun ns l hp _ ml => k l ns _ (e.trans (Same.up ml)) hp upd_same⟩
theorem walk_enumT {a : Addr} {xs : List V} : Walk (IteT K a) xs.length (fun H => SqT K H a xs) (YPair (fun i => some (.int (i : Nat))) (fun i => xs[i]?)) := by
  refine ⟨fun i _ hi q => ⟨xs, xs[i], q, by simp [hi]⟩, fun _ q => ⟨xs, q, Nat.le_refl _⟩, fun i H v H' _ q y => ?_⟩
  obtain ⟨T, x, h1, h2, h3, h4⟩ := y
  exact ⟨T, .int (i : Nat), x, h1, h2, h3, rfl, h4 xs q⟩
abbrev sDo (x : Addr) (ch : Int) (bt : Addr) (u v a b c d : Option V) : L2.St := [some (.ref x), some (.int ch), some (.ref bt), u, v, a, b, c, d]
def sp_do (K : PySem.W.Frag) : Sp := fun vs H Q _ => ∃ (H0 : Hp) (x dx : Addr) (a : Addr) (sv : V) (ls lu lc le : Addr) (steps ws : List V) (m : Nat) (p : Plan) (s : St) (cs : List Int) (ss : List (Int × Int)) (n : Int) (bt bd : Addr) (d : Deed) (ch : Int), vs = [.ref x, .int ch, .ref bt] ∧
  SqT K H bt [.ref bd] ∧ RunP K H0 H x dx (.ref a) sv ls lu lc le false steps ws m p s cs ss ∧ m ≤ 8000 ∧ p.Ok ∧ Good p s n ∧ 1 ≤ ch ∧ ch ≤ 9 ∧ SqT K H bd (dV d) ∧ inRange p d = true ∧ possible p s d = true ∧
  ∀ H' sv' lu' steps' ws', SameR x ls lc le H H' → RunP K H0 H' x dx (.ref a) sv' ls lu' lc le false steps' ws' (m + 3) p (moved p s d cs.length).1 (csNext cs ch d) (ssNext ss (moved p s d cs.length).2) → TupS K H H' → Q .non H'
theorem sc_Run_do : FnScope ["self", "chute", "deeds", "at", "deed", "state", "chutes", "sent", "is_done"] ["self", "chute", "deeds"] (defScope s_Run_do) := ⟨rfl, rfl, rfl, by decide +kernel, rfl, by decide +kernel, by decide +kernel⟩
theorem body_Run_do (T : Txt w K mg) (cdv : Value) (A : Around) (outer : List Env) (s : Shared) (H : Hp) (vs : List V) (Q : VK) (E : XK) (hr : Room 7 (A.deeper (envOfC "Run.do" (defScope s_Run_do) s.heap.objs.size (He.ma K (He.ga K "Run") "do") cdv))) (h : (sp_do K) vs H Q E) :
    ∃ t, PSs (cxOf CX0 P w K mg base ["self", "chute", "deeds", "at", "deed", "state", "chutes", "sent", "is_done"] "Run.do" (defScope s_Run_do) (He.ma K (He.ga K "Run") "do") cdv A outer s H E).nox (defBody s_Run_do) t ∧ t { nx := fun _ H' => Q .non H', rt := Q } (start ["self", "chute", "deeds", "at", "deed", "state", "chutes", "sent", "is_done"] vs) H := by
  · obtain ⟨H0, x, dx, a, sv, ls, lu, lc, le, steps, ws, m, p, s', cs, ss, n, bt, bd, d, ch, rfl, hbt, r, hm, ok, g, c1, c9, hd, hin, hpo, k⟩ := h
    refine ⟨_, (pss_cons (ps_expr (pe_call (ok_need_chute T) (hr.mono (by decide)) (by rfl) T.g_need_chute T.D_need_chute.kp T.b_need_chute .nil pass0 (pa_cons (pv 1) pa_nil)))
      (pss_cons (ps_for PassesOwn.never rfl (pi_enumT (by rfl) T.f_enumerate (pa_cons (pv 2) pa_nil)) (pg_tup rfl (pgs_cons (pg_name (i := 3) sc_Run_do.nd rfl (by first | exact .inl rfl | exact .inr rfl)) (pgs_cons (pg_name (i := 4) sc_Run_do.nd rfl (by first | exact .inl rfl | exact .inr rfl)) pgs_nil))) (pss_one (ps_if (pt_not (pt_val (pe_call (ok_is_deed T) (hr.mono (by decide)) (by rfl) T.g_is_deed T.D_is_deed.kp T.b_is_deed .nil pass0 (pa_cons (pe_fld (pv 0) rfl) (pa_cons (pv 4) pa_nil))))) (pss_one ps_never) pss_nil)))
      (pss_cons (ps_par3 (i := 5) (j := 6) (l := 7) rfl sc_Run_do.nd rfl rfl rfl (by decide) (by decide) (by decide) rfl rfl rfl (pa_cons (pe_fld (pv 0) rfl) (pa_cons (pe_callTy call_list_of (by rfl) T.f_list (by decide +kernel) (pa_cons (pe_fld (pv 0) rfl) pa_nil)) (pa_cons (pe_callTy call_list_of (by rfl) T.f_list (by decide +kernel) (pa_cons (pe_fld (pv 0) rfl) pa_nil)) pa_nil))) (by rfl))
      (pss_cons (ps_fld (pv 0) pe_bl rfl)
      (pss_cons (ps_set (i := 8) sc_Run_do.nd rfl (by first | exact .inl rfl | exact .inr rfl) pe_non)
      (pss_cons (ps_fin (pss_cons (ps_for PassesOwn.never rfl (pi_enumT (by rfl) T.f_enumerate (pa_cons (pv 2) pa_nil)) (pg_tup rfl (pgs_cons (pg_name (i := 3) sc_Run_do.nd rfl (by first | exact .inl rfl | exact .inr rfl)) (pgs_cons (pg_name (i := 4) sc_Run_do.nd rfl (by first | exact .inl rfl | exact .inr rfl)) pgs_nil))) (pss_cons (ps_if (pt_not (pt_val (pe_call (ok_is_possible T) (hr.mono (by decide)) (by rfl) T.g_is_possible T.D_is_possible.kp T.b_is_possible .nil pass0 (pa_cons (pe_fld (pv 0) rfl) (pa_cons (pe_fld (pv 0) rfl) (pa_cons (pv 4) pa_nil)))))) (pss_one ps_never) pss_nil)
          (pss_one (ps_expr (pe_meth (pv 0) T.cl_Run T.m_Run_take (ok_Run_take T) (hr.mono (by decide)) T.b_Run_take .nil pass0 (pa_cons (pv 4) (pa_cons (pv 1) pa_nil)))))))
        (pss_one (ps_set (i := 8) sc_Run_do.nd rfl (by first | exact .inl rfl | exact .inr rfl) pe_bl))) (pss_cons (ps_fld (pv 0) pe_bl rfl)
        (pss_one (ps_if (pt_cmpR op_isN (pv 8) pe_non (nomark _)) (pss_one ps_never) pss_nil))))
      (pss_cons (ps_expr (pe_bm PySem.F.plainAttrs_list PySem.F.slot_list_append PySem.F.type_list_append mt_append (pe_fld (pv 0) rfl) (pa_cons (pe_lc (own := [("deed", 4)]) (g := (gName 4)) rfl sc_Run_do.nd (pi_tup (pv 2)) (blkOk_by (N := ["self", "chute", "deeds", "at", "deed", "state", "chutes", "sent", "is_done"]) (sc := defScope s_Run_do) (by decide +kernel)) (fun _ _ _ _ _ => (pg_name (i := 4) sc_Run_do.nd rfl (by first | exact .inl rfl | exact .inr rfl))) (fun _ _ _ _ _ => pts_nil) (fun _ _ _ _ _ => (pe_tup (pa_cons (pv 4) (pa_cons (pv 1) pa_nil))))) pa_nil)))
      (pss_one (ps_fld (pv 0) (pe_lst pa_nil) rfl))))))))), ?_⟩
    refine ⟨_, rfl, ch, rfl, c1, c9, ?_⟩
    dsimp only
    have fit := g.fit ok
    refine seqE (M := fun σ' H' => Same H H' ∧ ∃ u v, σ' = sDo x ch bt u v none none none none) (fun N kN => ?_) ?_
    · refine ⟨_, rfl, bt, _, rfl, hbt, ?_⟩
      refine for_it (walk_enumT (xs := [V.ref bd])) (fun i σ' H' => Same H H' ∧ ∃ u v, σ' = sDo x ch bt u v none none none none) ⟨Same.refl _, _, _, rfl⟩ (fun i σ' H' _ h => Same.seqT h.1 hbt) ?_ ?_
      · rintro i y σ' H1 H2 hi ⟨e1, u, v, rfl⟩ ⟨t, v1, v2, rfl, mt, rfl, h1, h2⟩
        have i0 : i = 0 := by simpa using hi
        subst i0
        cases h1
        cases h2
        have z := Same.up (o := .tup [V.int ((0 : Nat) : Int), V.ref bd]) mt
        have r2 := r.mono (e1.trans z)
        refine ⟨_, _, rfl, newT, rfl, _, _, rfl, _, _, rfl, rfl, ?_⟩
        exact ⟨_, rfl, _, _, _, _, _, rfl, r2.at_, T.cl_Run, T.na_Run_own_plant, rfl, _, rfl, a, p, bd, d, rfl, r2.pl, Same.seqT (e1.trans z) hd, hin, _, rfl, noo rfl ⟨e1.trans z, _, _, rfl⟩⟩
      · rintro σ' H1 h
        exact kN _ _ h
    rintro σ1 H1 ⟨z1, u, v, rfl⟩
    have r1 := r.mono z1
    refine ⟨_, rfl, _, _, _, _, _, rfl, r1.at_, T.cl_Run, T.na_Run_state, rfl, _, rfl, _, _, _, _, _, rfl, r1.at_, T.cl_Run, T.na_Run_chutes, rfl, _, _, rfl, .inl (.inl (.inl r1.hc)), fun l1 m1 => ?_⟩
    have z2 := Same.up (o := .lst (cs.map V.int)) m1
    refine ⟨_, rfl, _, _, _, _, _, rfl, z2 _ _ r1.at_, T.cl_Run, T.na_Run_sent, rfl, _, _, rfl, .inl (.inl (.inl (z2 _ _ r1.he))), fun l2 m2 => ?_⟩
    have z3 := Same.up (o := .lst ws) m2
    have r3 := (r1.mono z2).mono z3
    have z13 := z1.trans (z2.trans z3)
    generalize upd (upd H1 l1 (.lst (cs.map V.int))) l2 (.lst ws) = H3 at r3 z13
    refine ⟨_, _, _, rfl, ?_⟩
    dsimp only
    refine ⟨_, rfl, x, _, dx, _, rfl, r3.at_, T.cl_Run, T.na_Run_is_held, by simp [runF], ?_⟩
    rw [show putF "is_held" (V.bl true) (runF (.ref a) sv ls lu lc le false) = runF (.ref a) sv ls lu lc le true from rfl]
    dsimp only
    have r4 : RunP K H0 (upd H3 x (.ins (He.ga K "Run") dx (runF (.ref a) sv ls lu lc le true))) x dx (.ref a) sv ls lu lc le true steps ws m p s' cs ss := r3.set r3.st
    have e4 : SameR x ls lc le H (upd H3 x (.ins (He.ga K "Run") dx (runF (.ref a) sv ls lu lc le true))) := (SameR.of z13).trans SameR.wx
    have t4 : TupS K H (upd H3 x (.ins (He.ga K "Run") dx (runF (.ref a) sv ls lu lc le true))) := (TupS.of z13).trans (TupS.ins r3.at_)
    generalize upd H3 x (.ins (He.ga K "Run") dx (runF (.ref a) sv ls lu lc le true)) = H4 at r4 e4 t4
    refine seqE (M := fun σ' H' => H4 = H' ∧ ∃ u5 u6 u7, σ' = sDo x ch bt u v u5 u6 u7 (some .non)) (fun N kN => ?_) ?_
    · exact kN _ _ ⟨rfl, _, _, _, rfl⟩
    rintro σ4 _ ⟨rfl, u5, u6, u7, rfl⟩
    refine seqE (M := fun σ' H' => ∃ u v sv' ws', σ' = sDo x ch bt u v u5 u6 u7 (some (.bl true)) ∧ SameR x ls lc le H H' ∧ TupS K H H' ∧ RunP K H0 H' x dx (.ref a) sv' ls lu lc le false steps ws' (m + 2) p (moved p s' d cs.length).1 (csNext cs ch d) (ssNext ss (moved p s' d cs.length).2)) (fun N kN => ?_) ?_
    · refine seqE (M := fun σ' H' => ∃ u v sv' ws', σ' = sDo x ch bt u v u5 u6 u7 (some .non) ∧ SameR x ls lc le H H' ∧ TupS K H H' ∧ RunP K H0 H' x dx (.ref a) sv' ls lu lc le true steps ws' (m + 2) p (moved p s' d cs.length).1 (csNext cs ch d) (ssNext ss (moved p s' d cs.length).2)) (fun N2 kN2 => ?_) ?_
      · refine ⟨_, rfl, bt, _, rfl, t4 _ _ hbt, ?_⟩
        refine for_it (walk_enumT (xs := [V.ref bd])) (fun i σ' H' => ∃ u v sv' ws', σ' = sDo x ch bt u v u5 u6 u7 (some .non) ∧ SameR x ls lc le H H' ∧ TupS K H H' ∧ (i = 0 → RunP K H0 H' x dx (.ref a) sv' ls lu lc le true steps ws' m p s' cs ss) ∧
            (i = 1 → RunP K H0 H' x dx (.ref a) sv' ls lu lc le true steps ws' (m + 2) p (moved p s' d cs.length).1 (csNext cs ch d) (ssNext ss (moved p s' d cs.length).2)))
          ⟨u, v, sv, ws, rfl, e4, t4, fun _ => r4, fun h => absurd h (by decide)⟩ (fun i σ' H' _ h => ?_) ?_ ?_
        · obtain ⟨_, _, _, _, _, _, h, _⟩ := h
          exact h _ _ hbt
        · rintro i y σ' H5 H6 hi ⟨u, v, sv', ws', rfl, e5, t5, rr, _⟩ ⟨t, v1, v2, rfl, mt, rfl, h1, h2⟩
          have i0 : i = 0 := by simpa using hi
          subst i0
          cases h1
          cases h2
          have z := Same.up (o := .tup [V.int ((0 : Nat) : Int), V.ref bd]) mt
          have r6 := (rr rfl).mono z
          have e6 := e5.trans (SameR.of z)
          have t6 := t5.trans (TupS.of z)
          refine ⟨_, _, rfl, newT, rfl, _, _, rfl, _, _, rfl, rfl, ?_⟩
          refine ⟨_, rfl, _, _, _, _, _, rfl, r6.at_, T.cl_Run, T.na_Run_own_plant, rfl, _, rfl, _, _, _, _, _, rfl, r6.at_, T.cl_Run, T.na_Run_state, rfl, _, rfl, a, p, _, s', bd, d, rfl, r6.pl, ok, r6.st, fit.nb, t6 _ _ hd, hin, fun H7 z7 => ⟨_, rfl, ?_⟩⟩
          rw [hpo]
          refine noo rfl ?_
          have r7 := r6.mono z7
          refine ⟨_, rfl, x, dx, _, rfl, r7.at_, rfl, _, rfl, _, rfl, H0, x, dx, a, sv', ls, lu, lc, le, true, steps, ws', m, p, s', cs, ss, bd, d, ch, rfl, r7, by omega, ok, fit, (t6.trans (TupS.of z7)) _ _ hd, hin, holds_of hpo, fun H8 sv8 ws8 e8 r8 t8 => ?_⟩
          exact ⟨_, _, sv8, ws8, rfl, (e6.trans (SameR.of z7)).trans e8, (t6.trans (TupS.of z7)).trans t8, fun h => absurd h (by decide), fun _ => r8⟩
        · rintro σ' H5 ⟨u, v, sv', ws', rfl, e5, t5, _, rr⟩
          exact kN2 _ _ ⟨u, v, sv', ws', rfl, e5, t5, rr rfl⟩
      · rintro σ5 H5 ⟨u, v, sv', ws', rfl, e5, t5, r5⟩
        refine ⟨_, rfl, x, _, dx, _, rfl, r5.at_, T.cl_Run, T.na_Run_is_held, by simp [runF], ?_⟩
        rw [show putF "is_held" (V.bl false) (runF (.ref a) sv' ls lu lc le true) = runF (.ref a) sv' ls lu lc le false from rfl]
        refine ⟨_, rfl, rfl, _, rfl, noo rfl ?_⟩
        exact kN _ _ ⟨u, v, sv', ws', rfl, e5.trans SameR.wx, t5.trans (TupS.ins r5.at_), r5.set r5.st⟩
    rintro σ6 H6 ⟨u, v, sv', ws', rfl, e6, t6, r6⟩
    refine ⟨_, rfl, _, _, _, _, _, rfl, r6.at_, T.cl_Run, T.na_Run_steps, rfl, tyLst r6.hs, _, rfl, _, rfl, ⟨_, t6 _ _ hbt⟩, fun D hD => lcM (walk_tup (xs := [V.ref bd])) (by simp) hD (fun H e => Same.seqT e (t6 _ _ hbt))
      (fun _ _ _ => True) trivial (fun _ _ _ _ _ _ => trivial) ?_ ?_⟩
    · intro i y H7 H8 acc B hi e ha _ hy hl kB
      obtain ⟨rfl, hy⟩ := hy
      exact ⟨rfl, _, rfl, _, rfl, ok_le (by simp), fun t mt => kB _ _ (Same.up mt) trivial⟩
    · intro H7 acc e ha hl _
      have r7 := r6.mono e
      refine ⟨ls, steps, _, rfl, rfl, r7.hs, Nat.lt_of_le_of_lt (Nat.le_trans r7.zs (show m + 2 ≤ 9000 by omega)) (by decide), ?_⟩
      have r8 := r7.step (.ref D)
      refine ⟨ok_le (by simp), fun lu' mu => ?_⟩
      have z9 := Same.up (o := .lst []) mu
      have r9 := r8.mono z9
      refine ⟨_, rfl, x, _, dx, _, rfl, r9.at_, T.cl_Run, T.na_Run_undone, by simp [runF], ?_⟩
      rw [show putF "undone" (V.ref lu') (runF (.ref a) sv' ls lu lc le false) = runF (.ref a) sv' ls lu' lc le false from rfl]
      exact k _ sv' lu' _ ws' ((((e6.trans (SameR.of e)).trans SameR.ws).trans (SameR.of z9)).trans SameR.wx) (r9.set r9.st) ((((t6.trans (TupS.of e)).trans (TupS.lst r7.hs)).trans (TupS.of z9)).trans (TupS.ins r9.at_))
def gV_Run_do_1 : V → List V → V → List V := fun v zs t => match zs with | [z0] => [v, z0, t] | _ => []
theorem okS_Run_do_1 (T : Txt w K mg) : FnS P w K mg base CX0 (7 + 1) (He.ma K (He.ga K "Run") "do") 1 ["chute"] gV_Run_do_1 (sp_do K) := by
  refine fn_starS T.D_Run_do sc_Run_do StX.cxUp_none (fun v zs t => match zs with | [z0] => [v, z0, t] | _ => []) (fun {v u zs ws t r} rv rz rt hl => ?_) (fun kV doc pm cdv ct an u rest ws h1 h2 => ?_) (body_Run_do T)
  · obtain ⟨z0, rfl⟩ : ∃ z0, zs = [z0] := by
      match zs, hl with
      | [a0], _ => exact ⟨a0, rfl⟩
    cases rz with
    | cons r0 rz =>
      cases rz
      exact ⟨.cons rv (.cons r0 (.cons rt .nil)), rfl⟩
  · match rest, h1, ws, h2 with
    | [b0], _, [a0], _ => rfl
end
end Ow
set_option Elab.async false
set_option linter.all false
set_option maxRecDepth 100000
set_option maxHeartbeats 4000000
namespace Ow
open PySem PySem.Spec PyProof.Rows L2
section
variable {P : Program} {w : World} {K : PySem.W.Frag} {mg : Str → Option Value} {base : Heap}
def tmF : List (Str × V) := [("most", .int 600), ("code", .str "TooMany")]
def sp_tooManyI (K : PySem.W.Frag) : Sp := fun vs H Q _ => ∃ a : Addr, vs = [.ref a, .int 600] ∧ H a = some (exo a (He.ga K "TooMany") none) ∧
  ∀ d, H d = none → d ≠ a → Q .non (upd (upd (upd H d (exd d [("code", .str "TooMany")])) a (exo a (He.ga K "TooMany") (some d))) d (exd d tmF))
theorem sc_TooMany___init__ : FnScope ["self", "most"] ["self", "most"] (defScope s_TooMany___init__) := ⟨rfl, rfl, rfl, by decide +kernel, rfl, by decide +kernel, by decide +kernel⟩
theorem Txt.b_TooMany___init__ (T : Txt w K mg) : Binds K (fdA K (He.ma K (He.ga K "TooMany") "__init__")) ["self", "most"] [] := T.F_TooMany___init__.binds fun _ _ _ _ _ _ us hl => match us, hl with | [_, _], _ => rfl
theorem ok_TooMany___init__ (T : Txt w K mg) : FnOk P w K mg base CX0 1 (He.ma K (He.ga K "TooMany") "__init__") (fdA K (He.ma K (He.ga K "TooMany") "__init__")) ["self", "most"] (sp_tooManyI K) := by
  refine T.F_TooMany___init__.ok sc_TooMany___init__ (fun vs H Q E h => ?_) (fun cdv A outer s H vs Q E hr h => ?_)
  · obtain ⟨a, rfl, _⟩ := h
    rfl
  · obtain ⟨a, rfl, ha, k⟩ := h
    refine ⟨_, (pss_cons (ps_ost (pv 0) pe_str) (pss_one (ps_ost (pv 0) (pv 1)))), ?_⟩
    refine ⟨_, rfl, a, He.ga K "TooMany", rfl, T.oex_TooMany, T.na_TooMany_code, .inl ⟨ha, fun d hd hn => ?_⟩⟩
    dsimp only
    refine ⟨_, rfl, _, rfl, a, He.ga K "TooMany", rfl, T.oex_TooMany, T.na_TooMany_most, .inr ⟨d, [("code", .str "TooMany")], upd_same, ?_, by simp, ?_⟩⟩
    · rw [upd_ne hn]
      exact upd_same
    · exact k d hd hn
/-! ### keys -/
def nk (xs : List Int) : NestedKey := .tup (xs.map .num)
def placeKey (s : Place) : NestedKey := .tup [nk s.counts, .tup (s.queues.map nk), .num s.swap, nk s.slips, .num s.comings]
theorem nk_inj {a b : List Int} (h : nk a = nk b) : a = b := by
  have h2 := NestedKey.tup.inj h
  exact List.map_inj_right (fun x y e => NestedKey.num.inj e) |>.mp h2
theorem placeKey_inj {a b : Place} (h : placeKey a = placeKey b) : a = b := by
  have h2 := NestedKey.tup.inj h
  obtain ⟨c1, q1, s1, l1, m1⟩ := a
  obtain ⟨c2, q2, s2, l2, m2⟩ := b
  simp only [List.cons.injEq, and_true] at h2
  obtain ⟨h3, h4, h5, h6, h7⟩ := h2
  have e1 := nk_inj h3
  have e2 := List.map_inj_right (fun x y e => nk_inj e) |>.mp (NestedKey.tup.inj h4)
  have e3 := NestedKey.num.inj h5
  have e4 := nk_inj h6
  have e5 := NestedKey.num.inj h7
  rw [e1, e2, e3, e4, e5]
theorem depthAll_le {k : Nat} : ∀ {l : List NestedKey}, (∀ x ∈ l, x.depth ≤ k) → NestedKey.depthAll l ≤ k
  | [], _ => by simp [NestedKey.depthAll]
  | x :: r, h => by
    rw [NestedKey.depthAll]
    exact Nat.max_le.mpr ⟨h x List.mem_cons_self, depthAll_le fun y hy => h y (List.mem_cons_of_mem _ hy)⟩
theorem nk_depth (xs : List Int) : (nk xs).depth ≤ 1 := by
  show NestedKey.depthAll (xs.map .num) + 1 ≤ 1
  have : NestedKey.depthAll (xs.map .num) ≤ 0 := depthAll_le fun x hx => by
    obtain ⟨i, _, rfl⟩ := List.mem_map.mp hx
    exact Nat.le_refl 0
  omega
theorem placeKey_depth (s : Place) : (placeKey s).depth ≤ 8 := by
  show NestedKey.depthAll [nk s.counts, .tup (s.queues.map nk), .num s.swap, nk s.slips, .num s.comings] + 1 ≤ 8
  have : NestedKey.depthAll [nk s.counts, .tup (s.queues.map nk), .num s.swap, nk s.slips, .num s.comings] ≤ 7 := depthAll_le fun x hx => by
    simp only [List.mem_cons, List.not_mem_nil, or_false] at hx
    rcases hx with rfl | rfl | rfl | rfl | rfl
    · exact Nat.le_trans (nk_depth _) (by decide)
    · show NestedKey.depthAll (s.queues.map nk) + 1 ≤ 7
      have : NestedKey.depthAll (s.queues.map nk) ≤ 1 := depthAll_le fun x hx => by
        obtain ⟨i, _, rfl⟩ := List.mem_map.mp hx
        exact nk_depth i
      omega
    · exact Nat.zero_le _
    · exact Nat.le_trans (nk_depth _) (by decide)
    · exact Nat.zero_le _
  omega
theorem keys_ints {H : Hp} : ∀ xs : List Int, KeysAt K H (xs.map .num) (xs.map V.int)
  | [] => .nil
  | x :: r => .cons (.num x) (keys_ints r)
theorem AtI.key {H : Hp} {v : V} {xs : List Int} (h : AtI K H v xs) : KeyAt K H (nk xs) v := by
  obtain ⟨a, rfl, q⟩ := h
  exact .tup q (keys_ints xs)
theorem keys_all {H : Hp} : ∀ {vs : List V} {xss : List (List Int)}, All2 (AtI K H) vs xss → KeysAt K H (xss.map nk) vs
  | _, _, .nil => .nil
  | _, _, .cons r t => .cons r.key (keys_all t)
theorem AtII.key {H : Hp} {v : V} {xs : List (List Int)} (h : AtII K H v xs) : KeyAt K H (.tup (xs.map nk)) v := by
  obtain ⟨a, vs, rfl, q, z⟩ := h
  exact .tup q (keys_all z)
theorem PlAt.key {H : Hp} {v : V} {s : Place} (h : PlAt K H v s) : KeyAt K H (placeKey s) v := by
  obtain ⟨a, vb, vq, vs, rfl, q, h1, h2, h3⟩ := h
  exact .tup q (.cons h1.key (.cons h2.key (.cons (.num _) (.cons h3.key (.cons (.num _) .nil)))))
/-! ### the walk through the places, plainly -/
inductive Goes (p : Plan) : St → Int → List Deed → Prop where
  | nil : Goes p (St.start p) 0 []
  | snoc {s : St} {n : Int} {ds : List Deed} {d : Deed} : Goes p s n ds → inRange p d = true → possible p s d = true → wordOf (moved p s d n).2 ≠ some .other → Goes p (moved p s d n).1 (nextN n d) (ds ++ [d])
theorem Goes.good {p : Plan} (ok : p.Ok) {s : St} {n : Int} {ds : List Deed} (g : Goes p s n ds) : Good p s n := by
  induction g with
  | nil => exact Good.start ok
  | snoc g hr hp _ ih => exact ih.moved ok _ hr hp
structure En where
  s : St
  n : Int
  ds : List Deed
def Clo (p : Plan) (es : List En) (e : En) (ds : List Deed) : Prop := ∀ d ∈ ds, wordOf (moved p e.s d e.n).2 ≠ some .other ∧ ∃ e' ∈ es, placeOf e'.s = placeOf (moved p e.s d e.n).1
theorem Clo.more {p : Plan} {es : List En} {e x : En} {ds : List Deed} (h : Clo p es e ds) : Clo p (es ++ [x]) e ds := fun d hd => by
  obtain ⟨h1, e', h2, h3⟩ := h d hd
  exact ⟨h1, e', List.mem_append_left _ h2, h3⟩
/-- what a Safe says -/
def JSafe (p : Plan) : Prop := ∃ es : List En, (∃ e ∈ es, e.s = St.start p ∧ e.n = 0) ∧ (∀ e ∈ es, Good p e.s e.n) ∧ ∀ e ∈ es, Clo p es e (deedsAt p (placeOf e.s))
/-- what an Astray says -/
def JAstray (p : Plan) (fl : List Deed) : Prop := ∃ s n ds d, fl = ds ++ [d] ∧ Goes p s n ds ∧ inRange p d = true ∧ possible p s d = true ∧ wordOf (moved p s d n).2 = some .other
/-! ### what stands in the heap -/
def EnAt (K : PySem.W.Frag) (H : Hp) (wl : Addr) (x : NX) (e : En) : Prop := x.1 = placeKey (placeOf e.s) ∧ PlAt K H (.ref x.2.1) (placeOf e.s) ∧ ∃ l vs, x.2.2 = .ref l ∧ l ≠ wl ∧ H l = some (.lst vs) ∧ All2 (DeAt K H) vs e.ds
structure Jv (K : PySem.W.Frag) (P : Program) (w : World) (H0 H : Hp) (p : Plan) (wl dd : Addr) (xs : List NX) (es : List En) : Prop where
  sm : Same H0 H
  n1 : H0 wl = none
  n2 : H0 dd = none
  hw : H wl = some (.lst (xs.map fun x => V.ref x.2.1))
  nd : NDict P w K H dd xs
  nz : (xs.map (·.1)).Nodup
  rel : All2 (EnAt K H wl) xs es
  go : ∀ e ∈ es, Goes p e.s e.n e.ds
  ln : ∀ (i : Nat) (e : En), es[i]? = some e → e.ds.length ≤ i
  le : es.length ≤ 600
  st : ∃ e ∈ es, e.s = St.start p ∧ e.n = 0
variable {H0 H H' : Hp} {p : Plan} {wl dd : Addr} {xs : List NX} {es : List En}
theorem Jv.mono (e : Same H H') (j : Jv K P w H0 H p wl dd xs es) : Jv K P w H0 H' p wl dd xs es where
  sm := j.sm.trans e
  n1 := j.n1
  n2 := j.n2
  hw := e _ _ j.hw
  nd := j.nd.mono e
  nz := j.nz
  rel := j.rel.imp fun x y ⟨h1, h2, l, vs, h3, h4, h5, h6⟩ => ⟨h1, h2.mono e, l, vs, h3, h4, e _ _ h5, h6.imp fun _ _ => DeAt.mono e⟩
  go := j.go
  ln := j.ln
  le := j.le
  st := j.st
/-- a new place -/
theorem Jv.put (j : Jv K P w H0 H p wl dd xs es) {e : En} {u l : Addr} {vs : List V} (hu : PlAt K H (.ref u) (placeOf e.s)) (hl : H l = some (.lst vs)) (hlw : l ≠ wl) (hd : All2 (DeAt K H) vs e.ds) (hn : atKey xs (placeKey (placeOf e.s)) = none)
    (g : Goes p e.s e.n e.ds) (hz : e.ds.length ≤ es.length) (hlt : es.length < 600) :
    Jv K P w H0 (upd (upd H dd (nHO P w dd (xs ++ [(placeKey (placeOf e.s), u, .ref l)]))) wl (.lst ((xs ++ [(placeKey (placeOf e.s), u, Value.ref l)]).map fun x => V.ref x.2.1))) p wl dd (xs ++ [(placeKey (placeOf e.s), u, .ref l)]) (es ++ [e]) := by
  have hdw : dd ≠ wl := fun z => by
    have h1 := j.nd.at_
    rw [z, j.hw] at h1
    cases h1
  have t1 : TupS K H (upd H dd (nHO P w dd (xs ++ [(placeKey (placeOf e.s), u, .ref l)]))) := TupS.ext j.nd.at_
  have hw2 : upd H dd (nHO P w dd (xs ++ [(placeKey (placeOf e.s), u, .ref l)])) wl = some (.lst (xs.map fun x => V.ref x.2.1)) := by
    rw [upd_ne (Ne.symm hdw)]
    exact j.hw
  have t2 := TupS.trans t1 (TupS.lst (o := .lst ((xs ++ [(placeKey (placeOf e.s), u, Value.ref l)]).map fun x => V.ref x.2.1)) hw2)
  have stay : ∀ q ys, q ≠ wl → H q = some (.lst ys) → upd (upd H dd (nHO P w dd (xs ++ [(placeKey (placeOf e.s), u, .ref l)]))) wl (.lst ((xs ++ [(placeKey (placeOf e.s), u, Value.ref l)]).map fun x => V.ref x.2.1)) q = some (.lst ys) := fun q ys hq h => by
    rw [upd_ne hq, upd_ne fun z => by
      rw [z, j.nd.at_] at h
      cases h]
    exact h
  refine ⟨fun b o h => ?_, j.n1, j.n2, upd_same, ⟨?_, j.nd.lo, fun x hx => ?_⟩, ?_, All2.snoc ?_ (j.rel.imp fun x y h => ?_), fun e' he => ?_, fun i e' he => ?_, ?_, ?_⟩
  · rw [upd_ne (ne_of_none h j.n1), upd_ne (ne_of_none h j.n2)]
    exact j.sm _ _ h
  · rw [upd_ne hdw]
    exact upd_same
  · rcases List.mem_append.mp hx with hx | hx
    · exact ⟨KeyAt.mono t2 _ _ (j.nd.keys x hx).1, (j.nd.keys x hx).2⟩
    · obtain rfl := List.mem_singleton.mp hx
      exact ⟨KeyAt.mono t2 _ _ hu.key, placeKey_depth _⟩
  · rw [List.map_append, List.nodup_append]
    refine ⟨j.nz, by simp, fun a ha b hb => ?_⟩
    obtain rfl := List.mem_singleton.mp hb
    rintro rfl
    obtain ⟨x, hx, hk⟩ := List.mem_map.mp ha
    obtain ⟨i, hi⟩ := List.mem_iff_getElem?.mp hx
    obtain ⟨k, q⟩ := x
    cases hk
    have h9 := hn.symm.trans (atKey_of_get j.nz hi)
    cases h9
  · exact ⟨rfl, hu.ts t2, l, vs, rfl, hlw, stay l vs hlw hl, hd.imp fun _ _ => DeAt.ts t2⟩
  · obtain ⟨h1, h2, q, ys, h3, h4, h5, h6⟩ := h
    exact ⟨h1, h2.ts t2, q, ys, h3, h4, stay q ys h4 h5, h6.imp fun _ _ => DeAt.ts t2⟩
  · rcases List.mem_append.mp he with he | he
    · exact j.go _ he
    · obtain rfl := List.mem_singleton.mp he
      exact g
  · by_cases c : i < es.length
    · rw [List.getElem?_append_left c] at he
      exact j.ln i e' he
    · have hi : i = es.length := by
        have := (List.getElem?_eq_some_iff.mp he).1
        rw [List.length_append, List.length_singleton] at this
        omega
      subst hi
      rw [List.getElem?_append_right (Nat.le_refl _), Nat.sub_self] at he
      cases he
      exact hz
  · rw [List.length_append, List.length_singleton]
    omega
  · obtain ⟨e', h1, h2⟩ := j.st
    exact ⟨e', List.mem_append_left _ h1, h2⟩
theorem Jv.put_ts (j : Jv K P w H0 H p wl dd xs es) {e : List NX} {l : List V} : TupS K H (upd (upd H dd (nHO P w dd e)) wl (.lst l)) := by
  have hdw : dd ≠ wl := fun z => by
    have h1 := j.nd.at_
    rw [z, j.hw] at h1
    cases h1
  have t1 : TupS K H (upd H dd (nHO P w dd e)) := TupS.ext j.nd.at_
  have hw2 : upd H dd (nHO P w dd e) wl = some (.lst (xs.map fun x => V.ref x.2.1)) := by
    rw [upd_ne (Ne.symm hdw)]
    exact j.hw
  exact TupS.trans t1 (TupS.lst hw2)
theorem Jv.put_lst (j : Jv K P w H0 H p wl dd xs es) {e : List NX} {l ys : List V} {q : Addr} (hq : q ≠ wl) (h : H q = some (.lst ys)) : upd (upd H dd (nHO P w dd e)) wl (.lst l) q = some (.lst ys) := by
  rw [upd_ne hq, upd_ne fun z => by
    rw [z, j.nd.at_] at h
    cases h]
  exact h
theorem Jv.inKey (j : Jv K P w H0 H p wl dd xs es) {pl : Place} (h : (atKey xs (placeKey pl)).isSome = true) : ∃ e ∈ es, placeOf e.s = pl := by
  cases hc : atKey xs (placeKey pl) with
  | none => rw [hc] at h; cases h
  | some q =>
    by_cases hx : ∃ (i : Nat) (r : Addr × Value), xs[i]? = some (placeKey pl, r)
    · obtain ⟨i, r, hi⟩ := hx
      obtain ⟨e, he, h1, _⟩ := j.rel.get' hi
      exact ⟨e, List.mem_of_getElem? he, (placeKey_inj h1).symm⟩
    · have := atKey_none_of_get (xs := xs) (k := placeKey pl) fun i r e => hx ⟨i, r, e⟩
      rw [hc] at this
      cases this
theorem isFn_ty {v : Value} (h : PySem.W.isFn K v = true) : PySem.W.typeIn K v = some (.type "function") := eq_of_beq h
def sp_judged (K : PySem.W.Frag) : Sp := fun vs H Q E => ∃ (a : Addr) (p : Plan), vs = [.ref a, .bl false, .int 600] ∧ PlantAt K H (.ref a) p ∧ p.Ok ∧ p.words.length ≤ 3 ∧
  (∀ x dx m xs H', Same H H' → H' x = some (.ins (He.ga K "Safe") dx [("own_places", .ref m)]) → H' m = some (.lst xs) → JSafe p → Q (.ref x) H') ∧
  (∀ x dx m xs fl H', Same H H' → H' x = some (.ins (He.ga K "Astray") dx [("own_flow", .ref m)]) → H' m = some (.lst xs) → All2 (DeAt K H') xs fl → fl.length ≤ 600 → JAstray p fl → Q (.ref x) H') ∧
  (∀ d H', Same H H' → H' d = some (.xd tmF) → E (.ref (He.ga K "TooMany")) (some d) H')
abbrev sJ (pl : V) (dd wl : Addr) (i : Nat) (a b c d : Option V) : L2.St := [some pl, some (.bl false), some (.int 600), some (.ref dd), some (.ref wl), some (.int (i : Int)), a, b, c, d]
def JW (K : PySem.W.Frag) (P : Program) (w : World) (H : Hp) (p : Plan) (a dd wl : Addr) (m : Nat) (σ : L2.St) (H' : Hp) : Prop := ∃ (i : Nat) (xs : List NX) (es : List En) (b c d e : Option V), m + i = 600 ∧ σ = sJ (.ref a) dd wl i b c d e ∧ Jv K P w H H' p wl dd xs es ∧ i ≤ es.length ∧
  ∀ (k : Nat) (e : En), k < i → es[k]? = some e → Clo p es e (deedsAt p (placeOf e.s))
structure JI (K : PySem.W.Frag) (P : Program) (w : World) (H : Hp) (p : Plan) (wl dd : Addr) (i : Nat) (en : En) (pa ld ll : Addr) (lvs : List V) (jj : Nat) (H' : Hp) (xs : List NX) (es : List En) : Prop where
  jv : Jv K P w H H' p wl dd xs es
  hen : es[i]? = some en
  hnx : xs[i]? = some (placeKey (placeOf en.s), pa, .ref ld)
  hc : ∀ (k : Nat) (e : En), k < i → es[k]? = some e → Clo p es e (deedsAt p (placeOf e.s))
  cl : Clo p es en ((deedsAt p (placeOf en.s)).take jj)
  hll : H' ll = some (.lst lvs)
  hlv : All2 (DeAt K H') lvs (deedsAt p (placeOf en.s))
theorem sc_judged : FnScope ["plant", "strict", "most", "roads", "waiting", "at", "place", "deed", "later", "word"] ["plant", "strict", "most"] (defScope s_judged) := ⟨rfl, rfl, rfl, by decide +kernel, rfl, by decide +kernel, by decide +kernel⟩
theorem ok_judged (T : Txt w K mg) : FnOk P w K mg base (L2.CX P w) 8 (He.ga K "judged") (fdA K (He.ga K "judged")) ["plant", "strict", "most"] (sp_judged K) := by
  refine T.D_judged.ok sc_judged (fun vs H Q E h => ?_) (fun cdv A outer s H vs Q E hr h => ?_)
  · obtain ⟨a, p, rfl, _⟩ := h
    rfl
  · obtain ⟨a, p, rfl, hp, ok, w3, kS, kA, kE⟩ := h
    refine ⟨_, (pss_cons (ps_expr (pe_call (ok_need_most T) (hr.mono (by decide)) (by rfl) T.g_need_most T.D_need_most.kp T.b_need_most .nil pass0 (pa_cons (pv 2) pa_nil)))
      (pss_cons (ps_set (i := 3) sc_judged.nd rfl (by first | exact .inl rfl | exact .inr rfl) (pe_ndisp hr.units (pe_call (ok_first_place T) (hr.mono (by decide)) (by rfl) T.g_first_place T.D_first_place.kp T.b_first_place .nil pass0 (pa_cons (pv 0) pa_nil)) (pe_lst pa_nil)))
      (pss_cons (ps_par (i := 4) (j := 5) rfl sc_judged.nd rfl rfl (by decide) rfl rfl (pa_cons (pe_callTy (call_listN rfl) (by rfl) T.f_list (by decide +kernel) (pa_cons (pv 3) pa_nil)) (pa_cons pe_int pa_nil)) (by rfl))
      (pss_cons (ps_while (passes_of rfl) (pt_cmpR op_lt (pv 5) (pe_callB (cr_lenK (K := K)) (by rfl) T.f_len (by decide +kernel) (pa_cons (pv 4) pa_nil)) (nomark _)) (pss_cons (ps_set (i := 6) sc_judged.nd rfl (by first | exact .inl rfl | exact .inr rfl) (pe_ix ix_list (pv 4) (pv 5) (fun _ _ => rfl)))
        (pss_cons (ps_for (passes_of rfl) rfl (pi_list (pe_call (ok_deeds_at T) (hr.mono (by decide)) (by rfl) T.g_deeds_at T.D_deeds_at.kp T.b_deeds_at .nil pass0 (pa_cons (pv 0) (pa_cons (pv 6) pa_nil)))) (pg_name (i := 7) sc_judged.nd rfl (by first | exact .inl rfl | exact .inr rfl)) (pss_cons (ps_asg (pe_call (ok_behind T) (hr.mono (by decide)) (by rfl) T.g_behind T.D_behind.kp T.b_behind .nil pass0 (pa_cons (pv 0) (pa_cons (pv 6) (pa_cons (pv 7) pa_nil)))) (pg_tup rfl (pgs_cons (pg_name (i := 8) sc_judged.nd rfl (by first | exact .inl rfl | exact .inr rfl)) (pgs_cons (pg_name (i := 9) sc_judged.nd rfl (by first | exact .inl rfl | exact .inr rfl)) pgs_nil))))
          (pss_cons (ps_if (pt_val (pe_call (ok_is_astray T) (hr.mono (by decide)) (by rfl) T.g_is_astray T.D_is_astray.kp T.b_is_astray .nil pass0 (pa_cons (pv 9) (pa_cons (pv 1) pa_nil)))) (pss_one (ps_ret (pe_make T.mk_Astray (ok_Astray___init__ T) (hr.mono (by decide)) (by rfl) T.g_Astray T.b_Astray___init__ .nil pass0 (pa_cons (pe_lst (StX.pa_star (pe_nget hr.units (pv 3) (pv 6) (fun _ _ => rfl)) (pa_cons (pv 7) pa_nil))) pa_nil)))) pss_nil)
          (pss_one (ps_if (pt_cmp (pc_nnotin hr.units (pv 8) (pv 3))) (pss_cons (ps_if (pt_cmpR op_eq (pe_callB (cr_lenK (K := K)) (by rfl) T.f_len (by decide +kernel) (pa_cons (pv 4) pa_nil)) (pv 2) (nomark _)) (pss_one (ps_raise rfl (takes_of rfl rfl rfl rfl) (pmk_oex T.oex_TooMany T.m_TooMany___init__.1 (isFn_ty T.m_TooMany___init__.fn) (ok_TooMany___init__ T) (hr.mono (by decide)) T.b_TooMany___init__ .nil pass0 (by rfl) T.g_TooMany (pa_cons (pv 2) pa_nil)))) pss_nil)
            (pss_cons (ps_nput hr.units (pv 3) (pv 8) (pe_lst (StX.pa_star (pe_nget hr.units (pv 3) (pv 6) (fun _ _ => rfl)) (pa_cons (pv 7) pa_nil))) rfl)
            (pss_one (ps_expr (pe_bm PySem.F.plainAttrs_list PySem.F.slot_list_append PySem.F.type_list_append mt_append (pv 4) (pa_cons (pv 8) pa_nil)))))) pss_nil)))))
        (pss_one (ps_aug (i := 5) sc_judged.nd rfl (by first | exact .inl rfl | exact .inr rfl) pe_int ip_add)))))
      (pss_one (ps_ret (pe_make T.mk_Safe (ok_Safe___init__ T) (hr.mono (by decide)) (by rfl) T.g_Safe T.b_Safe___init__ .nil pass0 (pa_cons (pv 4) pa_nil)))))))), ?_⟩
    refine ⟨_, rfl, rfl, ?_⟩
    dsimp only [tNext]
    intro dd hdd hlo
    have z0 := Same.up (o := nHO P w dd []) hdd
    refine ⟨_, rfl, a, p, rfl, hp.mono z0, ok, fun v H1 z1 hv => ⟨ok_le (by simp), fun l ml => ?_⟩⟩
    obtain ⟨va, vb, vq, vs, rfl, hv2⟩ := id hv
    have z2 := Same.up (o := .lst []) ml
    refine ⟨placeKey (firstPlace p), va, l, rfl, rfl, z2 _ _ (z1 _ _ upd_same), (hv.mono z2).key, placeKey_depth _, ?_⟩
    have hdl : dd ≠ l := ne_of_none (z1 _ _ upd_same) ml
    dsimp only [gName]
    refine seqE (M := fun σ' H' => ∃ wl, σ' = sJ (.ref a) dd wl 0 none none none none ∧ Jv K P w H H' p wl dd [(placeKey (firstPlace p), va, Value.ref l)] [⟨St.start p, 0, []⟩]) (fun N kN => ?_) ?_
    · have hst : Same (upd H1 l (.lst [])) (upd (upd H1 l (.lst [])) dd (nHO P w dd [(placeKey (firstPlace p), va, Value.ref l)])) → True := fun _ => trivial
      have hat : upd H1 l (.lst []) dd = some (nHO P w dd []) := z2 _ _ (z1 _ _ upd_same)
      have t3 : TupS K (upd H1 l (.lst [])) (upd (upd H1 l (.lst [])) dd (nHO P w dd [(placeKey (firstPlace p), va, Value.ref l)])) := TupS.ext hat
      have hv3 := (hv.mono z2).ts t3
      have nd3 : NDict P w K (upd (upd H1 l (.lst [])) dd (nHO P w dd [(placeKey (firstPlace p), va, Value.ref l)])) dd [(placeKey (firstPlace p), va, Value.ref l)] := ⟨upd_same, hlo, fun x hx => by
        obtain rfl := List.mem_singleton.mp hx
        exact ⟨hv3.key, placeKey_depth _⟩⟩
      refine ⟨_, rfl, ⟨dd, _, rfl, nd3, by simp, fun wl hwl => ?_⟩⟩
      refine ⟨_, _, rfl, kN _ _ ⟨wl, rfl, ?_⟩⟩
      have hwl' : upd (upd H1 l (.lst [])) dd (nHO P w dd [(placeKey (firstPlace p), va, Value.ref l)]) wl = none := hwl
      have z4 := Same.up (o := .lst [V.ref va]) hwl
      have hll : upd (upd H1 l (.lst [])) dd (nHO P w dd [(placeKey (firstPlace p), va, Value.ref l)]) l = some (.lst []) := by
        rw [upd_ne (Ne.symm hdl)]
        exact upd_same
      have smA : Same H (upd (upd H1 l (.lst [])) dd (nHO P w dd [(placeKey (firstPlace p), va, Value.ref l)])) := fun b o hb => by
        rw [upd_ne (ne_of_none hb hdd)]
        exact z2 _ _ (z1 _ _ (z0 _ _ hb))
      refine ⟨smA.trans z4, ?_, hdd, upd_same, nd3.mono z4, by simp, .cons ⟨rfl, hv3.mono z4, l, [], rfl, fun e => ?_, z4 _ _ hll, .nil⟩ .nil, fun e he => ?_, fun i e he => ?_, by simp, ⟨_, List.mem_singleton_self _, rfl, rfl⟩⟩
      · cases hq : H wl with
        | none => rfl
        | some o =>
          cases hwl'.symm.trans (smA _ _ hq)
      · rw [e] at hll hwl'
        cases hwl'.symm.trans hll
      · obtain rfl := List.mem_singleton.mp he
        exact .nil
      · have : i = 0 := by
          have := (List.getElem?_eq_some_iff.mp he).1
          simpa using this
        subst this
        cases he
        exact Nat.le_refl 0
    rintro σ1 H2 ⟨wl, rfl, j0⟩
    refine seqE (M := fun σ' H' => ∃ i xs es b c d e, σ' = sJ (.ref a) dd wl i b c d e ∧ Jv K P w H H' p wl dd xs es ∧ ∀ e ∈ es, Clo p es e (deedsAt p (placeOf e.s))) (fun N kN => ?_) ?_
    · refine ⟨JW K P w H p a dd wl, ⟨600, 0, _, _, _, _, _, _, rfl, rfl, j0, Nat.zero_le _, fun k e hk => absurd hk (Nat.not_lt_zero _)⟩, ?_⟩
      rintro m σ1 H3 ⟨i, xs, es, b, c, d, e, hm, rfl, j, hi, hc⟩
      have hlen := j.rel.length
      refine ⟨_, rfl, _, rfl, _, _, rfl, .inl (.inl (.inl j.hw)), _, _, rfl, rfl, _, rfl, ?_⟩
      by_cases ci : i < es.length
      · refine yes (decide_eq_true (by rw [List.length_map, hlen]; exact Int.ofNat_lt.mpr ci)) ?_
        have hle := j.le
        refine ⟨JW K P w H p a dd wl (m - 1), fun σ' H' h => ⟨m - 1, by omega, h⟩, ?_⟩
        obtain ⟨en, hen⟩ : ∃ en, es[i]? = some en := ⟨es[i], List.getElem?_eq_getElem ci⟩
        obtain ⟨⟨nk1, pa, nv⟩, hnx, hk1, hk2, ld, dvs, hk3, hk4, hk5, hk6⟩ := j.rel.get hen
        dsimp only at hk1 hk3 hk2
        subst hk1 hk3
        have gen := (j.go en (List.mem_of_getElem? hen)).good ok
        refine ⟨_, rfl, _, rfl, _, _, _, _, rfl, rfl, .inl (.inl j.hw), atI_nat (v := .ref pa) (by rw [List.getElem?_map, hnx]; rfl), ?_⟩
        dsimp only [gName]
        refine seqE (M := fun σ' H' => ∃ xs es c d e, σ' = sJ (.ref a) dd wl i (some (.ref pa)) c d e ∧ Jv K P w H H' p wl dd xs es ∧ i + 1 ≤ es.length ∧ ∀ (k : Nat) (e : En), k < i + 1 → es[k]? = some e → Clo p es e (deedsAt p (placeOf e.s))) (fun N2 kN2 => ?_) ?_
        · refine ⟨_, rfl, _, rfl, a, p, .ref pa, en.s, en.n, rfl, hp.mono j.sm, ok, w3, hk2, gen, fun ll lvs H4 z4 hl0 hll hlv => ⟨_, rfl, ⟨_, .inl (.inl hll)⟩, ?_⟩⟩
          have hlw : ll ≠ wl := fun z => by
            rw [z, j.hw] at hl0
            cases hl0
          refine for_it (walk_list (xs := lvs)) (fun jj σ' H' => ∃ xs es c d e, σ' = sJ (.ref a) dd wl i (some (.ref pa)) c d e ∧ JI K P w H p wl dd i en pa ld ll lvs jj H' xs es)
            ⟨xs, es, _, _, _, rfl, j.mono z4, hen, hnx, hc, fun d hd => absurd hd (by simp), hll, hlv⟩ (fun jj σ' H' _ h => ?_) ?_ ?_
          · obtain ⟨xs, es, c, d, e, _, h⟩ := h
            exact .inl (.inl h.hll)
          · rintro jj y σ' H5 H6 hj ⟨xs, es, c, d, e, rfl, h⟩ ⟨rfl, hy⟩
            obtain ⟨d1, hd1, bd, rfl, hbd⟩ := h.hlv.get' hy
            obtain ⟨hda, hpo0⟩ := List.mem_filter.mp (List.mem_of_getElem? hd1)
            have hin := all_inRange hda
            have hpo : possible p en.s d1 = true := by
              rw [← sim_possible gen.pr gen.n0]
              exact hpo0
            obtain ⟨⟨_, _, _⟩, hx9, hkk, hpl, l9, vs9, hl9, hlw9, hv9, hds9⟩ := h.jv.rel.get h.hen
            cases h.hnx.symm.trans hx9
            obtain rfl : ld = l9 := Value.ref.inj hl9
            dsimp only at hpl
            have hdl := h.jv.ln i en h.hen
            have hle := h.jv.le
            have hie := (List.getElem?_eq_some_iff.mp h.hen).1
            have htk : (deedsAt p (placeOf en.s)).take (jj + 1) = (deedsAt p (placeOf en.s)).take jj ++ [d1] := by rw [List.take_succ, hd1]; rfl
            have gend := h.jv.go en (List.mem_of_getElem? h.hen)
            refine ⟨_, rfl, _, rfl, _, rfl, a, p, .ref pa, en.s, en.n, bd, d1, rfl, hp.mono h.jv.sm, ok, hpl, gen, hbd, hin, hpo, fun c9 u H7 z7 hc9 hu => ?_⟩
            obtain ⟨ua, ub, uc, ue, rfl, hu2⟩ := id hu
            have j7 := h.jv.mono z7
            refine ⟨_, _, rfl, hc9, rfl, _, _, rfl, _, _, rfl, rfl, ?_⟩
            have hvs7 : All2 (DeAt K H7) (vs9 ++ [V.ref bd]) (en.ds ++ [d1]) := (hds9.imp fun _ _ => DeAt.mono z7).append (.cons ⟨bd, rfl, Same.seqT z7 hbd⟩ .nil)
            have hkey : ∃ c, atKey xs (placeKey (placeOf en.s)) = some (c, Value.ref ld) := ⟨pa, atKey_of_get h.jv.nz h.hnx⟩
            have vl : (vs9 ++ [V.ref bd]).length = en.ds.length + 1 := by
              rw [List.length_append, hds9.length, List.length_singleton]
            refine ⟨_, rfl, _, rfl, _, rfl, _, rfl, ?_⟩
            by_cases co : wordOf (moved p en.s d1 en.n).2 = some .other
            · refine yes (decide_eq_true co) ?_
              refine ⟨_, rfl, _, rfl, dd, xs, _, pa, ld, rfl, rfl, j7.nd, (hpl.mono z7).key, placeKey_depth _, hkey, ld, vs9, rfl, .inr (.inl (.inl (z7 _ _ hv9))), ⟨_, rfl, ok_le (by rw [vl]; omega), fun q hq => ?_⟩⟩
              intro x dx hx hdx hne
              have z8 := Same.up (o := .lst (vs9 ++ [V.ref bd])) hq
              have z9 := Same.up (o := .own x) hdx
              have hx2 : upd (upd H7 q (.lst (vs9 ++ [V.ref bd]))) dx (HO.own x) x = none := by
                rw [upd_ne (Ne.symm hne)]
                exact hx
              have z10 := Same.up (o := .ins (He.ga K "Astray") dx []) hx2
              have z11 := z8.trans (z9.trans z10)
              refine ⟨He.ga K "Astray", x, dx, q, vs9 ++ [V.ref bd], rfl, upd_same, T.cl_Astray, T.na_Astray_own_flow, .inl (.inl (z10 _ _ (z9 _ _ upd_same))), fun m9 H8 sx h4 hm9 h5 => ⟨rfl, ?_⟩⟩
              have tx : TupS K (upd (upd (upd H7 q (.lst (vs9 ++ [V.ref bd]))) dx (HO.own x)) x (.ins (He.ga K "Astray") dx [])) H8 := fun b ys h => by
                rcases h with (h | ⟨o, h⟩) | h
                · refine .inl (.inl (sx _ _ (fun e => ?_) h))
                  rw [e, upd_same] at h
                  cases h
                · refine .inl (.inr ⟨o, sx _ _ (fun e => ?_) h⟩)
                  rw [e, upd_same] at h
                  cases h
                · exact .inr h
              refine kA x dx m9 _ (en.ds ++ [d1]) H8 (fun b o hb => ?_) h4 h5 (hvs7.imp fun _ _ h => (h.mono z11).ts tx) (by rw [List.length_append, List.length_singleton]; omega) ⟨en.s, en.n, en.ds, d1, rfl, gend, hin, hpo, co⟩
              have hbx : b ≠ x := fun e => by
                have h9 := z9 _ _ (z8 _ _ (j7.sm _ _ hb))
                rw [e, hx2] at h9
                cases h9
              exact sx _ _ hbx (z11 _ _ (j7.sm _ _ hb))
            · refine noo (decide_eq_false co) ?_
              have gnew : Goes p (moved p en.s d1 en.n).1 (nextN en.n d1) (en.ds ++ [d1]) := .snoc gend hin hpo co
              refine ⟨_, rfl, _, rfl, dd, xs, _, ua, rfl, rfl, j7.nd, hu.key, placeKey_depth _, ⟨_, rfl, ?_⟩⟩
              cases hat : atKey xs (placeKey (placeOf (moved p en.s d1 en.n).1)) with
              | some q9 =>
                refine noo rfl ?_
                obtain ⟨e9, he9, hp9⟩ := j7.inKey (pl := placeOf (moved p en.s d1 en.n).1) (by rw [hat]; rfl)
                refine ⟨xs, es, _, _, _, rfl, j7, h.hen, h.hnx, h.hc, ?_, z7 _ _ h.hll, h.hlv.imp fun _ _ => DeAt.mono z7⟩
                rw [htk]
                intro d hd
                rcases List.mem_append.mp hd with hd | hd
                · exact h.cl d hd
                · obtain rfl := List.mem_singleton.mp hd
                  exact ⟨co, e9, he9, hp9⟩
              | none =>
                refine yes rfl ?_
                refine ⟨_, rfl, _, _, rfl, .inl (.inl (.inl j7.hw)), _, rfl, rfl, _, rfl, ?_⟩
                by_cases c6 : es.length = 600
                · refine yes (decide_eq_true (by rw [List.length_map, h.jv.rel.length, c6]; rfl)) ?_
                  refine ⟨_, rfl, by simp, fun ea hea => ⟨ea, rfl, upd_same, fun q hq hn => ⟨rfl, q, tmF, ?_, upd_same, ?_, kE q _ (fun b o hb => ?_) upd_same⟩⟩⟩
                  · rw [upd_ne (Ne.symm hn)]
                    exact upd_same
                  · rw [upd_ne hn] at hq
                    exact hq
                  · rw [upd_ne hn] at hq
                    have hb7 := j7.sm _ _ hb
                    have bq : b ≠ q := ne_of_none hb7 hq
                    have be : b ≠ ea := ne_of_none hb7 hea
                    rw [upd_ne bq]
                    show del _ ea b = some o
                    unfold del
                    rw [if_neg be, upd_ne bq, upd_ne be, upd_ne bq, upd_ne be]
                    exact hb7
                · refine noo (decide_eq_false (by
                    rw [List.length_map, h.jv.rel.length]
                    intro z
                    have := V.int.inj z
                    omega)) ?_
                  dsimp only [tNext]
                  refine ⟨_, rfl, _, rfl, dd, xs, _, pa, ld, rfl, rfl, j7.nd, (hpl.mono z7).key, placeKey_depth _, hkey, ld, vs9, rfl, .inr (.inl (.inl (z7 _ _ hv9))), ⟨_, rfl, ok_le (by rw [vl]; omega), fun q hq => ?_⟩⟩
                  have z8 := Same.up (o := .lst (vs9 ++ [V.ref bd])) hq
                  have j8 := j7.mono z8
                  have hqw : q ≠ wl := fun e => by
                    rw [e, j7.hw] at hq
                    cases hq
                  have jp := j8.put (e := ⟨(moved p en.s d1 en.n).1, nextN en.n d1, en.ds ++ [d1]⟩) (hu.mono z8) upd_same hqw (hvs7.imp fun _ _ => DeAt.mono z8) hat gnew (by
                    rw [List.length_append, List.length_singleton]
                    omega) (by omega)
                  refine ⟨_, rfl, _, rfl, dd, xs, _, ua, q, rfl, rfl, rfl, j8.nd, (hu.mono z8).key, placeKey_depth _, hat, by rw [h.jv.rel.length]; omega, ?_⟩
                  have hdw : dd ≠ wl := fun z => by
                    have h1 := j8.nd.at_
                    rw [z, j8.hw] at h1
                    cases h1
                  have hw8 : upd (upd H7 q (HO.lst (vs9 ++ [V.ref bd]))) dd (nHO P w dd (xs ++ [(placeKey (placeOf (moved p en.s d1 en.n).fst), ua, Value.ref q)])) wl = some (.lst (xs.map fun x => V.ref x.2.1)) := by
                    rw [upd_ne (Ne.symm hdw)]
                    exact j8.hw
                  refine ⟨_, rfl, tyLst hw8, _, rfl, wl, _, _, rfl, rfl, hw8, by rw [List.length_map, h.jv.rel.length]; exact Nat.lt_of_le_of_lt hle (by decide), ?_⟩
                  have tsp := j8.put_ts (e := (xs ++ [(placeKey (placeOf (moved p en.s d1 en.n).1), ua, Value.ref q)])) (l := (xs.map fun x => V.ref x.2.1) ++ [V.ref ua])
                  rw [List.map_append] at jp
                  refine ⟨xs ++ [(placeKey (placeOf (moved p en.s d1 en.n).1), ua, Value.ref q)], es ++ [En.mk (moved p en.s d1 en.n).1 (nextN en.n d1) (en.ds ++ [d1])], _, _, _, rfl, jp, ?_, ?_, fun k e' hk he' => ?_, ?_, ?_, (h.hlv.imp fun _ _ => DeAt.mono (z7.trans z8)).imp fun _ _ => DeAt.ts tsp⟩
                  · rw [List.getElem?_append_left hie]
                    exact h.hen
                  · rw [List.getElem?_append_left (by rw [h.jv.rel.length]; exact hie)]
                    exact h.hnx
                  · rw [List.getElem?_append_left (Nat.lt_trans hk hie)] at he'
                    exact (h.hc k e' hk he').more
                  · rw [htk]
                    intro d hd
                    rcases List.mem_append.mp hd with hd | hd
                    · exact h.cl.more d hd
                    · obtain rfl := List.mem_singleton.mp hd
                      exact ⟨co, _, List.mem_append_right _ (List.mem_singleton_self _), rfl⟩
                  · exact j8.put_lst hlw (z8 _ _ (z7 _ _ h.hll))
          · rintro σ' H5 ⟨xs, es, c, d, e, rfl, h⟩
            refine kN2 _ _ ⟨xs, es, c, d, e, rfl, h.jv, (List.getElem?_eq_some_iff.mp h.hen).1, fun k e' hk he' => ?_⟩
            by_cases c2 : k < i
            · exact h.hc k e' c2 he'
            · have : k = i := by omega
              subst this
              cases h.hen.symm.trans he'
              have := h.cl
              rw [hlv.length, List.take_length] at this
              exact this
        · rintro σ' H5 ⟨xs, es, c, d, e, rfl, h1, h2, h3⟩
          refine ⟨_, rfl, _, _, rfl, rfl, ?_⟩
          exact ⟨i + 1, xs, es, _, _, _, _, by omega, rfl, h1, h2, h3⟩
      · refine noo (decide_eq_false (by rw [List.length_map, hlen]; exact fun z => ci (Int.ofNat_lt.mp z))) ?_
        refine kN _ _ ⟨i, xs, es, b, c, d, e, rfl, j, fun e' he => ?_⟩
        obtain ⟨k, hk⟩ := List.mem_iff_getElem?.mp he
        exact hc k e' (Nat.lt_of_lt_of_le (List.getElem?_eq_some_iff.mp hk).1 (Nat.le_of_not_lt ci)) hk
    · rintro σ1 H3 ⟨i, xs, es, b, c, d, e, rfl, j, hc⟩
      refine ⟨_, rfl, fun x dx hx hdx hne => ?_⟩
      have z1 := Same.up (o := .own x) hdx
      have hx2 : upd H3 dx (HO.own x) x = none := by
        rw [upd_ne (Ne.symm hne)]
        exact hx
      have z2 := Same.up (o := .ins (He.ga K "Safe") dx []) hx2
      refine ⟨He.ga K "Safe", x, dx, wl, _, rfl, upd_same, T.cl_Safe, T.na_Safe_own_places, .inl (.inl (z2 _ _ (z1 _ _ j.hw))), fun m H4 sx h4 hm h5 => ⟨rfl, ?_⟩⟩
      refine kS x dx m _ H4 (fun b o hb => ?_) h4 h5 ⟨es, j.st, fun e he => (j.go e he).good ok, hc⟩
      have hbx : b ≠ x := fun e => by
        have h9 := j.sm _ _ hb
        rw [e, hx] at h9
        cases h9
      exact sx _ _ hbx (z2 _ _ (z1 _ _ (j.sm _ _ hb)))
end
end Ow
set_option Elab.async false
set_option linter.all false
set_option maxRecDepth 100000
set_option maxHeartbeats 4000000
namespace Ow
open PySem PySem.Spec PyProof.Rows L2
/-! the law's own draws -/
section
variable {P : Program} {w : World} {K : PySem.W.Frag} {mg : Str → Option Value} {base : Heap}
/-- all stays but what stands at the addresses fp -/
def SameE (fp : List Addr) (H H' : Hp) : Prop := ∀ b o, b ∉ fp → H b = some o → H' b = some o
theorem SameE.of {fp : List Addr} {H H' : Hp} (e : Same H H') : SameE fp H H' := fun b o _ h => e b o h
theorem SameE.refl {fp : List Addr} {H : Hp} : SameE fp H H := fun _ _ _ h => h
theorem SameE.trans {fp : List Addr} {H H1 H2 : Hp} (a : SameE fp H H1) (b : SameE fp H1 H2) : SameE fp H H2 := fun c o n h => b c o n (a c o n h)
theorem SameE.put {fp : List Addr} {H : Hp} {x : Addr} {o : HO} (h : x ∈ fp) : SameE fp H (upd H x o) := fun b u n z => by
  rw [upd_ne (fun e => n (by rw [e]; exact h))]
  exact z
theorem SameE.more {fp gp : List Addr} {H H' : Hp} (h : ∀ a ∈ fp, a ∈ gp) (e : SameE fp H H') : SameE gp H H' := fun b o n z => e b o (fun q => n (h b q)) z
structure BagAt (K : PySem.W.Frag) (H : Hp) (b lc : Addr) : Prop where
  ex : ∃ (cells : List Int) (i x m : Int), H b = some (.lst [.ref lc, .int i, .int x, .int m]) ∧ H lc = some (.lst (cells.map V.int)) ∧ cells.length ≤ 63 ∧ 0 ≤ i
  ne : lc ≠ b
theorem BagAt.mono {H H' : Hp} {b lc : Addr} (e : Same H H') (h : BagAt K H b lc) : BagAt K H' b lc := by
  obtain ⟨⟨cells, i, x, m, h1, h2, h3⟩, n⟩ := h
  exact ⟨⟨cells, i, x, m, e _ _ h1, e _ _ h2, h3⟩, n⟩
theorem BagAt.lt {H : Hp} {b lc : Addr} (h : BagAt K H b lc) : ∃ xs, H b = some (.lst xs) := by
  obtain ⟨⟨cells, i, x, m, h1, h2, h3⟩, n⟩ := h
  exact ⟨_, h1⟩
def sp_bag (K : PySem.W.Frag) : Sp := fun vs H Q _ => ∃ (a : Addr) (xs : List Int), vs = [.ref a] ∧ SqL K H a (xs.map V.int) ∧ ∀ b lc H', Same H H' → H b = none → H lc = none → BagAt K H' b lc → Q (.ref b) H'
theorem fmod_nn {a b : Int} (h : 0 < b) : 0 ≤ a.fmod b := by
  rw [Int.fmod_eq_emod_of_nonneg _ (by omega)]
  exact Int.emod_nonneg _ (by omega)
theorem fmod_lt {a b : Int} (h : 0 < b) : a.fmod b < b := by
  rw [Int.fmod_eq_emod_of_nonneg _ (by omega)]
  exact Int.emod_lt_of_pos _ h
theorem ixC {σ : L2.St} {H : Hp} {Q : VK} {i : Nat} {j : Int} {b : Addr} {xs : List V} {v : V} (h : H b = some (.lst xs)) (q : Q v H) (hv : σ[i]? = some (some (.ref b)) := by rfl) (e : atI xs j = some v := by rfl) : tOp (rIxL K) (tVar i) (tC (.int j)) σ H Q :=
  ⟨_, hv, _, _, _, _, rfl, rfl, .inl (.inl h), e, q⟩
theorem testE {tt : TT} {σ : L2.St} {H : Hp} {Q : Bool → Hp → Prop} (M : Bool → Hp → Prop) (h1 : ∀ N : Bool → Hp → Prop, (∀ b H', M b H' → N b H') → tt σ H N) (h2 : ∀ b H', M b H' → Q b H') : tt σ H Q := h1 _ h2
abbrev fInt : List V → Hp → VK → Prop := fun xs H Q => (∃ i, xs = [V.int i] ∧ Q (V.int i) H) ∨ ∃ k, xs = [V.bl k] ∧ Q (V.int (if k = true then 1 else 0)) H
theorem cm {i j : Int} (h1 : -(2 ^ 64) < j) (h2 : j < 2 ^ 64) : CMul i j := .inr ⟨h1, h2⟩
theorem sc__law_bag : FnScope ["_law_script", "_law_cells", "_law_mark", "_law_cell"] ["_law_script"] (defScope s__law_bag) := ⟨rfl, rfl, rfl, by decide +kernel, rfl, by decide +kernel, by decide +kernel⟩
theorem Txt.b__law_bag (T : Txt w K mg) : Binds K (fdA K (He.ga K "_law_bag")) ["_law_script"] [] := T.F__law_bag.binds fun _ _ _ _ _ _ us hl => match us, hl with | [_], _ => rfl
theorem ok__law_bag (T : Txt w K mg) : FnOk P w K mg base CX0 2 (He.ga K "_law_bag") (fdA K (He.ga K "_law_bag")) ["_law_script"] (sp_bag K) := by
  refine T.F__law_bag.ok sc__law_bag (fun vs H Q E h => ?_) (fun cdv A outer s H vs Q E hr h => ?_)
  · obtain ⟨a, xs, rfl, _⟩ := h
    rfl
  · obtain ⟨a, xs, rfl, ha, k⟩ := h
    refine ⟨_, (pss_cons (ps_setLc (i := 1) (own := [("_law_cell", 3)]) (g := (gName 3)) rfl sc__law_bag.nd rfl rfl (sw_true rfl rfl rfl (by decide +kernel)) (pi_list (pe_slice sl_list (pv 0) po_none (po_some pe_int))) (blkOk_by (N := ["_law_script", "_law_cells", "_law_mark", "_law_cell"]) (sc := defScope s__law_bag) (by decide +kernel)) (fun _ _ _ _ _ => (pg_name (i := 3) sc__law_bag.nd rfl (by first | exact .inl rfl | exact .inr rfl))) (fun _ _ _ _ _ => pts_nil) (fun _ _ _ _ _ => (pe_callTy call_int1 (by rfl) T.f_int (by decide +kernel) (pa_cons (pv 3) pa_nil))))
      (pss_cons (ps_set (i := 2) sc__law_bag.nd rfl (by first | exact .inl rfl | exact .inr rfl) (pe_op op_add pe_int (pe_op op_mul pe_int (pe_callB (cr_lenK (K := K)) (by rfl) T.f_len (by decide +kernel) (pa_cons (pv 1) pa_nil)))))
      (pss_cons (ps_for PassesOwn.never rfl (pi_list (pv 1)) (pg_name (i := 3) sc__law_bag.nd rfl (by first | exact .inl rfl | exact .inr rfl)) (pss_one (ps_set (i := 2) sc__law_bag.nd rfl (by first | exact .inl rfl | exact .inr rfl) (pe_op op_modN (pe_callTy call_int1 (by rfl) T.f_int (by decide +kernel) (pa_cons (pe_op op_add (pe_op op_mul (pv 2) pe_int) (pv 3)) pa_nil)) pe_int))))
      (pss_one (ps_ret (pe_lst (pa_cons (pv 1) (pa_cons pe_int (pa_cons pe_int (pa_cons (pv 2) pa_nil)))))))))), ?_⟩
    dsimp only [tNoPart]
    refine ⟨_, rfl, _, rfl, a, _, rfl, ha, fun l1 m1 => ?_⟩
    have z1 := Same.up (o := .lst (cutV (xs.map V.int) none (some 63))) m1
    have hys : cutV (xs.map V.int) none (some 63) = (xs.take 63).map V.int := by
      rw [show (63 : Int) = ((63 : Nat) : Int) from rfl, cutTake, List.map_take]
    rw [hys] at z1 ⊢
    have hyl : ((xs.take 63).map V.int).length ≤ 63 := by
      rw [List.length_map, List.length_take]
      omega
    generalize xs.take 63 = ys at z1 hyl
    refine ⟨_, rfl, ⟨_, .inl (.inl upd_same)⟩, fun D hD => lcM (walk_list (xs := ys.map V.int)) (by omega) hD (fun H e => .inl (.inl (e _ _ upd_same))) (fun i H acc => acc = (ys.take i).map V.int) rfl (fun _ _ _ _ _ h => h) ?_ ?_⟩
    · rintro i x H1 H2 acc B hi e ha2 hr2 ⟨rfl, hx⟩ hl kB
      rw [List.getElem?_map] at hx
      obtain ⟨c, hc, rfl⟩ := Option.map_eq_some_iff.mp hx
      refine ⟨rfl, _, rfl, .inl ⟨_, rfl, kB _ _ (Same.refl _) ?_⟩⟩
      rw [hr2, List.take_succ, hc, List.map_append]
      rfl
    · intro H1 acc e ha2 hl hr2
      rw [List.length_map, List.take_length] at hr2
      subst hr2
      have hDn := none_back z1 hD
      have z2 := z1.trans e
      refine ⟨_, rfl, _, _, rfl, .inl (.inl (.inl ha2)), _, _, rfl, rfl, cm ?_ ?_, _, _, rfl, rfl, ?_⟩
      · omega
      · omega
      dsimp only [gName]
      refine seqE (M := fun σ' H' => H1 = H' ∧ ∃ u v, σ' = [some (.ref a), some (.ref D), some (.int u), v]) (fun N kN => ?_) ?_
      · refine ⟨_, rfl, _, rfl, ⟨_, .inl (.inl ha2)⟩, ?_⟩
        refine for_it (walk_list (xs := ys.map V.int)) (fun i σ' H' => H1 = H' ∧ ∃ u v, σ' = [some (.ref a), some (.ref D), some (.int u), v]) ⟨rfl, _, _, rfl⟩ (fun i σ' H' _ h => ?_) ?_ ?_
        · obtain ⟨rfl, _⟩ := h
          exact .inl (.inl ha2)
        · rintro i y σ' H3 H4 hi ⟨rfl, u, v, rfl⟩ ⟨rfl, hy⟩
          rw [List.getElem?_map] at hy
          obtain ⟨c, hc, rfl⟩ := Option.map_eq_some_iff.mp hy
          refine ⟨_, rfl, _, _, rfl, rfl, cm (by decide) (by decide), _, rfl, _, _, rfl, rfl, .inl ⟨_, rfl, _, _, rfl, rfl, by omega, ?_⟩⟩
          exact ⟨rfl, _, _, rfl⟩
        · rintro σ' H3 ⟨rfl, u, v, rfl⟩
          exact kN _ _ ⟨rfl, _, _, rfl⟩
      rintro σ1 _ ⟨rfl, u, v, rfl⟩
      refine ⟨_, rfl, _, rfl, ok_le (by simp), fun b hb => ?_⟩
      have z3 := Same.up (o := .lst [V.ref D, V.int 0, V.int 0, V.int u]) hb
      refine k b D _ (z2.trans z3) (none_back z2 hb) hDn ⟨⟨ys, 0, 0, u, upd_same, z3 _ _ ha2, by rw [List.length_map] at hyl; omega, Int.le_refl 0⟩, ?_⟩
      rintro rfl
      cases hb.symm.trans ha2
def sp_draw (K : PySem.W.Frag) : Sp := fun vs H Q _ => ∃ (b lc : Addr) (n : Int), vs = [.ref b, .int n] ∧ BagAt K H b lc ∧ 1 ≤ n ∧ n ≤ 1000 ∧ ∀ d H', SameE [b] H H' → TupS K H H' → BagAt K H' b lc → 0 ≤ d → d < n → Q (.int d) H'
theorem sc__law_draw : FnScope ["_law_bag_here", "_law_many", "_law_cell", "_law_first", "_law_second", "_law_digit"] ["_law_bag_here", "_law_many"] (defScope s__law_draw) := ⟨rfl, rfl, rfl, by decide +kernel, rfl, by decide +kernel, by decide +kernel⟩
theorem Txt.b__law_draw (T : Txt w K mg) : Binds K (fdA K (He.ga K "_law_draw")) ["_law_bag_here", "_law_many"] [] := T.F__law_draw.binds fun _ _ _ _ _ _ us hl => match us, hl with | [_, _], _ => rfl
theorem ok__law_draw (T : Txt w K mg) : FnOk P w K mg base CX0 2 (He.ga K "_law_draw") (fdA K (He.ga K "_law_draw")) ["_law_bag_here", "_law_many"] (sp_draw K) := by
  refine T.F__law_draw.ok sc__law_draw (fun vs H Q E h => ?_) (fun cdv A outer s H vs Q E hr h => ?_)
  · obtain ⟨b, lc, n, rfl, _⟩ := h
    rfl
  · obtain ⟨b, lc, n, rfl, hb, n1, n2, k⟩ := h
    refine ⟨_, (pss_cons (ps_if (pt_cmpR op_lt (pe_ix ix_list (pv 0) pe_int (fun _ _ => rfl)) pe_int (nomark _)) (pss_cons (ps_asg (pe_op op_add (pe_ix ix_list (pv 0) pe_int (fun _ _ => rfl)) pe_int) (pg_sub (pv 0) pe_int set_list))
        (pss_cons (ps_set (i := 2) sc__law_draw.nd rfl (by first | exact .inl rfl | exact .inr rfl) (pe_op op_add (pe_ix ix_list (pv 0) pe_int (fun _ _ => rfl)) (pe_op op_mul (pe_ix ix_list (pv 0) pe_int (fun _ _ => rfl)) pe_int)))
        (pss_cons (ps_if (pt_cmpR op_le (pe_ix ix_list (pv 0) pe_int (fun _ _ => rfl)) (pe_callB (cr_lenK (K := K)) (by rfl) T.f_len (by decide +kernel) (pa_cons (pe_ix ix_list (pv 0) pe_int (fun _ _ => rfl)) pa_nil)) (nomark _)) (pss_one (ps_set (i := 2) sc__law_draw.nd rfl (by first | exact .inl rfl | exact .inr rfl) (pe_ix ix_list (pe_ix ix_list (pv 0) pe_int (fun _ _ => rfl)) (pe_op op_sub (pe_ix ix_list (pv 0) pe_int (fun _ _ => rfl)) pe_int) (fun _ _ => rfl)))) pss_nil)
        (pss_cons (ps_if (PW.pt (pw_or (pt_cmpR op_gt (pe_ix ix_list (pv 0) pe_int (fun _ _ => rfl)) (pe_callB (cr_lenK (K := K)) (by rfl) T.f_len (by decide +kernel) (pa_cons (pe_ix ix_list (pv 0) pe_int (fun _ _ => rfl)) pa_nil)) (nomark _)) (pw_or1 (pt_cmpR op_lt (pv 2) (pe_op op_pow pe_int pe_int) (nomark _))))) (pss_cons (ps_set (i := 3) sc__law_draw.nd rfl (by first | exact .inl rfl | exact .inr rfl) (pe_op op_modN (pe_callTy call_int1 (by rfl) T.f_int (by decide +kernel) (pa_cons (pe_op op_add (pe_op op_add (pe_op op_mul (pv 2) pe_int) (pe_op op_mul (pe_ix ix_list (pv 0) pe_int (fun _ _ => rfl)) pe_int)) (pe_ix ix_list (pv 0) pe_int (fun _ _ => rfl))) pa_nil)) pe_int))
          (pss_cons (ps_set (i := 4) sc__law_draw.nd rfl (by first | exact .inl rfl | exact .inr rfl) (pe_op op_modN (pe_callTy call_int1 (by rfl) T.f_int (by decide +kernel) (pa_cons (pe_op op_add (pe_op op_mul (pv 3) (pv 3)) (pe_op op_mul (pe_ix ix_list (pv 0) pe_int (fun _ _ => rfl)) pe_int)) pa_nil)) pe_int))
          (pss_one (ps_ret (pe_op op_modN (pe_op op_fdivN (pe_op op_modN (pe_callTy call_int1 (by rfl) T.f_int (by decide +kernel) (pa_cons (pe_op op_add (pe_op op_mul (pv 4) pe_int) (pv 3)) pa_nil)) pe_int) pe_int) (pv 1)))))) pss_nil)
        (pss_one (ps_asg (pv 2) (pg_sub (pv 0) pe_int set_list))))))) pss_nil)
      (pss_cons (ps_set (i := 5) sc__law_draw.nd rfl (by first | exact .inl rfl | exact .inr rfl) (pe_op op_modN (pe_callTy call_int1 (by rfl) T.f_int (by decide +kernel) (pa_cons (pe_ix ix_list (pv 0) pe_int (fun _ _ => rfl)) pa_nil)) (pv 1)))
      (pss_cons (ps_asg (pe_op op_fdivN (pe_callTy call_int1 (by rfl) T.f_int (by decide +kernel) (pa_cons (pe_ix ix_list (pv 0) pe_int (fun _ _ => rfl)) pa_nil)) (pv 1)) (pg_sub (pv 0) pe_int set_list))
      (pss_one (ps_ret (pv 5)))))), ?_⟩
    obtain ⟨⟨cells, i, x, m, h1, h2, h3, h4⟩, hne⟩ := id hb
    refine seqE (M := fun σ' H' => SameE [b] H H' ∧ TupS K H H' ∧ BagAt K H' b lc ∧ ∃ u v w z, σ' = [some (.ref b), some (.int n), u, v, w, z]) (fun N kN => ?_) ?_
    · refine ixC h1 ⟨_, _, rfl, rfl, _, rfl, ?_⟩
      by_cases c : x < 2
      · refine yes (decide_eq_true c) ?_
        refine ixC h1 ⟨_, _, rfl, rfl, ?_⟩
        refine ⟨_, rfl, _, _, _, _, rfl, rfl, h1, rfl, ?_⟩
        have h1' : upd H b (.lst [V.ref lc, V.int (i + 1), V.int x, V.int m]) b = some (.lst [V.ref lc, V.int (i + 1), V.int x, V.int m]) := upd_same
        have e1 : SameE [b] H (upd H b (.lst [V.ref lc, V.int (i + 1), V.int x, V.int m])) := SameE.put (List.mem_singleton_self b)
        have t1 : TupS K H (upd H b (.lst [V.ref lc, V.int (i + 1), V.int x, V.int m])) := TupS.lst h1
        have h2' : upd H b (.lst [V.ref lc, V.int (i + 1), V.int x, V.int m]) lc = some (.lst (cells.map V.int)) := by
          rw [upd_ne hne]
          exact h2
        have goal : ∀ H', H' = upd H b (.lst [V.ref lc, V.int (i + 1), V.int x, V.int m]) → True := fun _ _ => trivial
        clear goal
        show tSeq _ _ _ _ (upd H b (.lst [V.ref lc, V.int (i + 1), V.int x, V.int m]))
        generalize upd H b (.lst [V.ref lc, V.int (i + 1), V.int x, V.int m]) = H1 at h1' e1 t1 h2'
        refine ixC h1' (ixC h1' ⟨_, _, rfl, rfl, cm (by decide) (by decide), _, _, rfl, rfl, ?_⟩)
        dsimp only [gName]
        refine seqE (M := fun σ' H' => H1 = H' ∧ ∃ u, σ' = [some (.ref b), some (.int n), some (.int u), none, none, none]) (fun N1 kN1 => ?_) ?_
        · refine ixC h1' (ixC h1' ⟨_, _, rfl, .inl (.inl (.inl h2')), _, _, rfl, rfl, _, rfl, ?_⟩)
          by_cases c2 : i + 1 ≤ ((cells.map V.int).length : Int)
          · refine yes (decide_eq_true c2) ?_
            refine ixC h1' (ixC h1' ⟨_, _, rfl, rfl, _, _, _, .int (cells.getD i.toNat 0), rfl, rfl, .inl (.inl h2'), ?_, ?_⟩)
            · show atI (cells.map V.int) (i + 1 - 1) = _
              rw [show i + 1 - 1 = i from by omega]
              exact atI_int h4 (by rw [List.length_map] at c2; omega)
            · exact kN1 _ _ ⟨rfl, _, rfl⟩
          · refine noo (decide_eq_false c2) ?_
            exact kN1 _ _ ⟨rfl, _, rfl⟩
        rintro σ1 _ ⟨rfl, u, rfl⟩
        refine testE (M := fun _ H' => H1 = H') (fun N2 kN2 => ?_) ?_
        · refine ixC h1' (ixC h1' ⟨_, _, rfl, .inl (.inl (.inl h2')), _, _, rfl, rfl, _, rfl, ?_⟩)
          by_cases c3 : ((cells.map V.int).length : Int) < i + 1
          · refine yes (decide_eq_true c3) ?_
            exact kN2 _ _ rfl
          · refine noo (decide_eq_false c3) ?_
            refine ⟨_, rfl, _, _, rfl, rfl, ⟨by decide, by decide, by decide⟩, _, _, rfl, rfl, _, rfl, ?_⟩
            exact kN2 _ _ rfl
        rintro b1 _ rfl
        cases b1 with
        | true =>
          refine yes rfl ?_
          refine ⟨_, rfl, _, _, rfl, rfl, cm (by decide) (by decide), ?_⟩
          refine ixC h1' ⟨_, _, rfl, rfl, cm (by decide) (by decide), _, _, rfl, rfl, ?_⟩
          refine ixC h1' ⟨_, _, rfl, rfl, ?_⟩
          refine .inl ⟨_, rfl, _, _, rfl, rfl, by omega, ?_⟩
          dsimp only [gName]
          have f1 := fmod_nn (a := u * 42061 + (i + 1) * 37021 + m) (b := 2147483629) (by decide)
          have f2 := fmod_lt (a := u * 42061 + (i + 1) * 37021 + m) (b := 2147483629) (by decide)
          generalize (u * 42061 + (i + 1) * 37021 + m).fmod 2147483629 = fi at f1 f2
          refine ⟨_, rfl, _, rfl, _, _, rfl, rfl, cm (by omega) (by omega), ?_⟩
          refine ixC h1' ⟨_, _, rfl, rfl, cm (by decide) (by decide), _, _, rfl, rfl, ?_⟩
          refine .inl ⟨_, rfl, _, _, rfl, rfl, by omega, ?_⟩
          dsimp only [gName]
          refine ⟨_, rfl, _, _, rfl, rfl, cm (by decide) (by decide), _, rfl, _, _, rfl, rfl, .inl ⟨_, rfl, _, _, rfl, rfl, by omega, _, _, rfl, rfl, ⟨by omega, by decide⟩, _, rfl, _, _, rfl, rfl, by omega, ?_⟩⟩
          exact k _ _ e1 t1 ⟨⟨cells, _, _, _, h1', h2', h3, by omega⟩, hne⟩ (fmod_nn (by omega)) (fmod_lt (by omega))
        | false =>
          refine noo rfl ?_
          dsimp only [tNext]
          refine ⟨_, rfl, ?_⟩
          refine ⟨_, rfl, _, _, _, _, rfl, rfl, h1', rfl, ?_⟩
          refine kN _ _ ⟨e1.trans (SameE.put (List.mem_singleton_self b)), t1.trans (TupS.lst h1'), ⟨⟨cells, _, _, m, upd_same, ?_, h3, by omega⟩, hne⟩, _, _, _, _, rfl⟩
          rw [upd_ne hne]
          exact h2'
      · refine noo (decide_eq_false c) ?_
        exact kN _ _ ⟨SameE.refl, TupS.refl, hb, _, _, _, _, rfl⟩
    rintro σ1 H1 ⟨e1, t1, hb1, u, v, w, z, rfl⟩
    obtain ⟨⟨cells1, i1, x1, m1, a1, a2, a3, a4⟩, _⟩ := id hb1
    refine ixC a1 (.inl ⟨_, rfl, _, rfl, _, _, rfl, rfl, by omega, ?_⟩)
    refine ixC a1 (.inl ⟨_, rfl, _, rfl, _, _, rfl, rfl, ⟨by omega, by omega⟩, ?_⟩)
    refine ⟨_, rfl, _, _, _, _, rfl, rfl, a1, rfl, ?_⟩
    refine ⟨_, rfl, ?_⟩
    refine k _ _ (e1.trans (SameE.put (List.mem_singleton_self b))) (t1.trans (TupS.lst a1)) ⟨⟨cells1, i1, _, m1, upd_same, ?_, a3, a4⟩, hne⟩ (fmod_nn (by omega)) (fmod_lt (by omega))
    rw [upd_ne hne]
    exact a2
end
end Ow
set_option Elab.async false
set_option linter.all false
set_option maxRecDepth 100000
set_option maxHeartbeats 4000000
namespace Ow
open PySem PySem.Spec PyProof.Rows L2
section
variable {P : Program} {w : World} {K : PySem.W.Frag} {mg : Str → Option Value} {base : Heap}
def sp_of (K : PySem.W.Frag) : Sp := fun vs H Q _ => ∃ (b lc l : Addr) (xs : List V), vs = [.ref b, .ref l] ∧ BagAt K H b lc ∧ H l = some (.lst xs) ∧ l ≠ b ∧ 0 < xs.length ∧ xs.length ≤ 1000 ∧ ∀ (i : Nat) (v : V) (H' : Hp), xs[i]? = some v → SameE [b] H H' → TupS K H H' → BagAt K H' b lc → Q v H'
theorem sc__law_of : FnScope ["_law_bag_here", "_law_some"] ["_law_bag_here", "_law_some"] (defScope s__law_of) := ⟨rfl, rfl, rfl, by decide +kernel, rfl, by decide +kernel, by decide +kernel⟩
theorem Txt.b__law_of (T : Txt w K mg) : Binds K (fdA K (He.ga K "_law_of")) ["_law_bag_here", "_law_some"] [] := T.F__law_of.binds fun _ _ _ _ _ _ us hl => match us, hl with | [_, _], _ => rfl
theorem ok__law_of (T : Txt w K mg) : FnOk P w K mg base CX0 3 (He.ga K "_law_of") (fdA K (He.ga K "_law_of")) ["_law_bag_here", "_law_some"] (sp_of K) := by
  refine T.F__law_of.ok sc__law_of (fun vs H Q E h => ?_) (fun cdv A outer s H vs Q E hr h => ?_)
  · obtain ⟨b, lc, l, xs, rfl, _⟩ := h
    rfl
  · obtain ⟨b, lc, l, xs, rfl, hb, hl, hne, n1, n2, k⟩ := h
    refine ⟨_, (pss_one (ps_ret (pe_ix ix_list (pv 1) (pe_call (ok__law_draw T) (hr.mono (by decide)) (by rfl) T.g__law_draw T.D__law_draw.kp T.b__law_draw .nil pass0 (pa_cons (pv 0) (pa_cons (pe_callB (cr_lenK (K := K)) (by rfl) T.f_len (by decide +kernel) (pa_cons (pv 1) pa_nil)) pa_nil))) (fun _ _ => rfl)))), ?_⟩
    refine ⟨_, rfl, _, rfl, _, rfl, _, _, rfl, .inl (.inl (.inl hl)), b, lc, _, rfl, hb, by omega, by omega, fun d H1 e1 t1 b1 d0 d1 => ?_⟩
    have hv : xs[d.toNat]? = some xs[d.toNat] := List.getElem?_eq_getElem (by omega)
    refine ⟨_, _, _, xs[d.toNat], rfl, rfl, .inl (.inl (e1 _ _ (fun z => hne (List.mem_singleton.mp z)) hl)), ?_, k _ _ H1 hv e1 t1 b1⟩
    obtain ⟨j, rfl⟩ : ∃ j : Nat, d = (j : Int) := ⟨d.toNat, by omega⟩
    exact atI_nat hv
/-- what a draw changes: the bag alone -/
structure BX (K : PySem.W.Frag) (b lc : Addr) (H H' : Hp) : Prop where
  e : SameE [b] H H'
  t : TupS K H H'
  g : BagAt K H' b lc
theorem BX.refl {b lc : Addr} {H : Hp} (h : BagAt K H b lc) : BX K b lc H H := ⟨SameE.refl, TupS.refl, h⟩
theorem BX.trans {b lc : Addr} {H H1 H2 : Hp} (a : BX K b lc H H1) (c : BX K b lc H1 H2) : BX K b lc H H2 := ⟨a.e.trans c.e, a.t.trans c.t, c.g⟩
theorem BX.up {b lc : Addr} {H H1 H2 : Hp} (a : BX K b lc H H1) (c : Same H1 H2) : BX K b lc H H2 := ⟨a.e.trans (.of c), a.t.trans (.of c), a.g.mono c⟩
theorem BX.get {b lc a : Addr} {H H1 : Hp} {o : HO} (x : BX K b lc H H1) (n : a ≠ b) (h : H a = some o) : H1 a = some o := x.e _ _ (fun z => n (List.mem_singleton.mp z)) h
theorem BX.put {b lc D : Addr} {H H1 : Hp} {xs : List V} {o : HO} (x : BX K b lc H H1) (hb : BagAt K H b lc) (n : H D = none) (h : H1 D = some (.lst xs)) : BX K b lc H (upd H1 D o) := by
  obtain ⟨⟨cells, i, y, m, h1, h2, h3⟩, ne⟩ := hb
  obtain ⟨⟨cells', i', y', m', a1, a2, a3⟩, _⟩ := x.g
  have n1 : b ≠ D := ne_of_none h1 n
  have n2 : lc ≠ D := ne_of_none h2 n
  refine ⟨fun c u hc hu => ?_, x.t.trans (TupS.lst h), ⟨⟨cells', i', y', m', ?_, ?_, a3⟩, ne⟩⟩
  · rw [upd_ne (ne_of_none hu n)]
    exact x.e c u hc hu
  · rw [upd_ne n1]
    exact a1
  · rw [upd_ne n2]
    exact a2
/-- a comprehension that draws -/
theorem lcB {J : It} {n : Nat} {G : Hp → Prop} {Y : Nat → Hp → V → Hp → Prop} {g : TG} {tt : TT} {te : TE} {vs : List Nat} {σ : L2.St} {H1 : Hp} {D b lc : Addr} {Qd : Hp → Prop} (w : Walk J n G Y) (hn : n ≤ 1000) (hD : H1 D = none) (hb : BagAt K H1 b lc)
    (hG : ∀ H, BX K b lc H1 H → G H) (R : Nat → List V → Prop) (h0 : R 0 [])
    (hs : ∀ i x H H' acc (B : VK) (N : Hp → Prop), i < n → BX K b lc H1 H → R i acc → Y i H x H' → (∀ y H4, BX K b lc H H4 → R (i + 1) (acc ++ [y]) → B y H4) → (∀ H3, BX K b lc H H3 → R (i + 1) acc → N H3) →
      g x (wipe σ vs) H' fun σ2 H2 => wipe σ2 vs = wipe σ vs ∧ tt σ2 H2 fun b H3 => if b = true then te σ2 H3 B else N H3)
    (hd : ∀ H acc, BX K b lc H1 H → H D = some (.lst acc) → R n acc → Qd H) :
    ∃ W : Nat → Nat → Hp → Prop, (∃ m, W 0 m (upd H1 D (.lst []))) ∧ ∀ i m H, W i m H →
      (J.stop i H ∧ Qd H) ∨ (J.go i H ∧ ∃ Nx : Hp → Prop, (∀ H', Nx H' → ∃ m', m' < m ∧ W (i + 1) m' H') ∧ ∀ x H', J.yld i H x H' → g x (wipe σ vs) H' fun σ2 H2 => wipe σ2 vs = wipe σ vs ∧ tt σ2 H2 fun b H3 =>
        if b = true then te σ2 H3 fun y H4 => ∃ acc, H4 D = some (.lst acc) ∧ acc.length < sizeLine ∧ Nx (upd H4 D (.lst (acc ++ [y]))) else Nx H3) := by
  have nDb : D ≠ b := by
    obtain ⟨xs, hx⟩ := hb.lt
    exact Ne.symm (ne_of_none hx hD)
  refine lc_it w (fun i H => BX K b lc H1 H ∧ ∃ acc, H D = some (.lst acc) ∧ acc.length ≤ i ∧ R i acc) ⟨(BX.refl hb).up (Same.put (Same.refl H1) hD), [], upd_same, Nat.le_refl _, h0⟩ (fun i H _ h => hG H h.1) ?_ fun H h => ?_
  · rintro i x H H' hi ⟨e, acc, ha, hl, r⟩ y
    refine hs i x H H' acc _ _ hi e r y (fun v H4 e4 r4 => ?_) fun H3 e3 r3 => ⟨e.trans e3, acc, e3.get nDb ha, Nat.le_succ_of_le hl, r3⟩
    have ha4 := e4.get nDb ha
    exact ⟨acc, ha4, Nat.lt_of_le_of_lt hl (Nat.lt_of_lt_of_le (Nat.lt_of_lt_of_le hi hn) (by decide)), (e.trans e4).put hb hD ha4, _, upd_same, by rw [List.length_append]; exact Nat.succ_le_succ hl, r4⟩
  · obtain ⟨e, acc, ha, hl, r⟩ := h
    exact hd H acc e ha r
def gsV (ws : List Sight) : List V := ws.map fun g => V.str (gS g)
def sp_slipWords (K : PySem.W.Frag) : Sp := fun vs H Q _ => ∃ (b lc : Addr), vs = [.ref b] ∧ BagAt K H b lc ∧ ∀ l ws H', BX K b lc H H' → H l = none → H' l = some (.lst (gsV ws)) → ws.Sublist [Sight.missed, .twice, .swapped] → Q (.ref l) H'
theorem sc__law_slip_words : FnScope ["_law_bag_here", "_law_word"] ["_law_bag_here"] (defScope s__law_slip_words) := ⟨rfl, rfl, rfl, by decide +kernel, rfl, by decide +kernel, by decide +kernel⟩
theorem Txt.b__law_slip_words (T : Txt w K mg) : Binds K (fdA K (He.ga K "_law_slip_words")) ["_law_bag_here"] [] := T.F__law_slip_words.binds fun _ _ _ _ _ _ us hl => match us, hl with | [_], _ => rfl
theorem ok__law_slip_words (T : Txt w K mg) : FnOk P w K mg base CX0 3 (He.ga K "_law_slip_words") (fdA K (He.ga K "_law_slip_words")) ["_law_bag_here"] (sp_slipWords K) := by
  refine T.F__law_slip_words.ok sc__law_slip_words (fun vs H Q E h => ?_) (fun cdv A outer s H vs Q E hr h => ?_)
  · obtain ⟨b, lc, rfl, _⟩ := h
    rfl
  · obtain ⟨b, lc, rfl, hb, k⟩ := h
    refine ⟨_, (pss_one (ps_ret (pe_lc (own := [("_law_word", 1)]) (g := (gName 1)) rfl sc__law_slip_words.nd (pi_list (pe_lst (pa_cons pe_str (pa_cons pe_str (pa_cons pe_str pa_nil))))) (blkOk_by (N := ["_law_bag_here", "_law_word"]) (sc := defScope s__law_slip_words) (by decide +kernel)) (fun _ _ _ _ _ => (pg_name (i := 1) sc__law_slip_words.nd rfl (by first | exact .inl rfl | exact .inr rfl))) (fun _ _ _ _ _ => pts_one (pt_cmpR op_gt (pe_call (ok__law_draw T) (hr.mono (by decide)) (by rfl) T.g__law_draw T.D__law_draw.kp T.b__law_draw .nil pass0 (pa_cons (pv 0) (pa_cons pe_int pa_nil))) pe_int (nomark _))) (fun _ _ _ _ _ => (pv 1))))), ?_⟩
    refine ⟨ok_le (by simp), fun l hl => ⟨_, rfl, ⟨_, .inl (.inl upd_same)⟩, fun D hD => ?_⟩⟩
    have z1 := Same.up (o := .lst [V.str "missed", V.str "twice", V.str "swapped"]) hl
    have hlb : l ≠ b := by
      obtain ⟨xs, hx⟩ := hb.lt
      exact Ne.symm (ne_of_none hx hl)
    refine lcB (walk_list (xs := gsV [Sight.missed, .twice, .swapped])) (by decide) hD (hb.mono z1) (fun H e => .inl (.inl (e.get hlb upd_same))) (fun i acc => ∃ ws, acc = gsV ws ∧ ws.Sublist ([Sight.missed, .twice, .swapped].take i)) ⟨[], rfl, .slnil⟩ ?_ ?_
    · rintro i x H1 H2 acc B N hi e ⟨ws, rfl, hs⟩ ⟨rfl, hx⟩ kB kN
      obtain ⟨g, hg, rfl⟩ := Option.map_eq_some_iff.mp ((List.getElem?_map ..).symm.trans hx)
      have ht : [Sight.missed, .twice, .swapped].take (i + 1) = [Sight.missed, .twice, .swapped].take i ++ [g] := by rw [List.take_succ, hg]; rfl
      refine ⟨rfl, _, rfl, b, lc, 3, rfl, e.g, by omega, by omega, fun d H3 e1 t1 b1 d0 d1 => ⟨_, _, rfl, rfl, _, rfl, ?_⟩⟩
      by_cases c : 0 < d
      · refine yes (decide_eq_true c) ?_
        refine ⟨_, rfl, kB _ _ ⟨e1, t1, b1⟩ ⟨ws ++ [g], ?_, ?_⟩⟩
        · unfold gsV
          rw [List.map_append]
          rfl
        · rw [ht]
          exact hs.append (List.Sublist.refl _)
      · refine noo (decide_eq_false c) ?_
        refine kN _ ⟨e1, t1, b1⟩ ⟨ws, rfl, ?_⟩
        rw [ht]
        exact hs.trans (List.sublist_append_left _ _)
    · rintro H1 acc e ha ⟨ws, rfl, hs⟩
      exact k D ws H1 (((BX.refl hb).up z1).trans e) (none_back z1 hD) ha hs
/-! ### the law's plan -/
def planK (lb ls tp lw lr : Addr) (p : Plan) : List (Key × V) := [(.inr "belts", .ref lb), (.inr "scans", .ref ls), (.inr "slips", .ref tp), (.inr "words", .ref lw), (.inr "stretch", oV p.stretch), (.inr "rooms", .ref lr), (.inr "seek", .int p.seek), (.inr "empty", .str (wB p.blank)), (.inr "strange", .str (wF p.first)), (.inr "pause", .str (wC p.clear))]
theorem putK_new {kvs : List (Key × V)} {k : Key} {v : V} (h : k ∉ kvs.map (·.1)) : putK kvs k v = kvs ++ [(k, v)] := by
  unfold putK
  rw [if_neg]
  intro z
  obtain ⟨x, hx, hk⟩ := List.any_eq_true.mp z
  exact h (List.mem_map.mpr ⟨x, hx, of_decide_eq_true hk⟩)
theorem merge_new : ∀ (more kvs : List (Key × V)), ((kvs ++ more).map (·.1)).Nodup → mergeK kvs more = kvs ++ more
  | [], kvs, _ => (List.append_nil kvs).symm
  | x :: r, kvs, h => by
    have e : kvs ++ x :: r = (kvs ++ [x]) ++ r := by simp
    have hx : x.1 ∉ kvs.map (·.1) := fun z => by
      rw [List.map_append, List.map_cons, List.nodup_append] at h
      exact h.2.2 _ z _ List.mem_cons_self rfl
    show mergeK (putK kvs x.1 x.2) r = _
    rw [putK_new hx, merge_new r (kvs ++ [(x.1, x.2)]) (by rw [e] at h; exact h), e]
theorem planK_nodup {lb ls tp lw lr : Addr} {p : Plan} : ((([] : List (Key × V)) ++ planK lb ls tp lw lr p).map (fun x => x.1)).Nodup := by
  show ([.inr "belts", .inr "scans", .inr "slips", .inr "words", .inr "stretch", .inr "rooms", .inr "seek", .inr "empty", .inr "strange", .inr "pause"] : List Key).Nodup
  decide +kernel
structure LPlan (K : PySem.W.Frag) (H : Hp) (r lb ls tp lw lr : Addr) (p : Plan) : Prop where
  at_ : H r = some (.dK (planK lb ls tp lw lr p))
  hb : H lb = some (.lst (p.belts.map V.int))
  hs : H ls = some (.lst (p.scans.map V.int))
  ht : SqT K H tp [.int p.most, .int p.among]
  hw : H lw = some (.lst (gsV p.words))
  hr : H lr = some (.lst (p.rooms.map V.int))
structure Drawn (p : Plan) : Prop where
  nb : p.belts.length = 1 ∨ p.belts.length = 2
  rb : ∀ x ∈ p.belts, 1 ≤ x ∧ x ≤ 2
  nr : p.rooms.length = p.belts.length
  rr : ∀ x ∈ p.rooms, 1 ≤ x ∧ x ≤ 3
  sc : p.scans.Sublist ((List.range (p.belts.length - 1)).map fun (k : Nat) => 1 + (k : Int))
  mo : 0 ≤ p.most ∧ p.most ≤ 2
  am : 1 ≤ p.among ∧ p.among ≤ 4
  wd : p.words.Sublist [Sight.missed, .twice, .swapped]
  st : ∀ k, p.stretch = some k → 1 ≤ k ∧ k ≤ 3
  sk : 0 ≤ p.seek ∧ p.seek ≤ 2
theorem Drawn.ok {p : Plan} (d : Drawn p) : p.Ok where
  nb := by rcases d.nb with h | h <;> omega
  nr := d.nr
  rb := fun x h => by have := d.rb x h; omega
  rr := fun x h => by have := d.rr x h; omega
  sc := fun x h => by
    obtain ⟨k, hk, rfl⟩ := List.mem_map.mp (d.sc.subset h)
    have := List.mem_range.mp hk
    omega
  nsc := d.sc.nodup (nodup_map List.nodup_range fun x _ y _ e => by omega)
  mo := by have := d.mo; omega
  am := by have := d.am; omega
  st := fun k h => by have := d.st k h; omega
  sk := by have := d.sk; omega
theorem Drawn.w3 {p : Plan} (d : Drawn p) : p.words.length ≤ 3 := d.wd.length_le
theorem stretch_of {i : Nat} {v : V} (h : [V.non, .non, .int 1, .int 2, .int 3][i]? = some v) : ∃ st : Option Int, v = oV st ∧ ∀ k, st = some k → 1 ≤ k ∧ k ≤ 3 := by
  match i, h with
  | 0, h => exact ⟨none, (Option.some.inj h).symm, fun k e => by cases e⟩
  | 1, h => exact ⟨none, (Option.some.inj h).symm, fun k e => by cases e⟩
  | 2, h => exact ⟨some 1, (Option.some.inj h).symm, fun k e => by cases e; omega⟩
  | 3, h => exact ⟨some 2, (Option.some.inj h).symm, fun k e => by cases e; omega⟩
  | 4, h => exact ⟨some 3, (Option.some.inj h).symm, fun k e => by cases e; omega⟩
theorem two_of {i : Nat} {v x y : V} (h : [x, y][i]? = some v) : ∃ c : Bool, v = if c then x else y := by
  match i, h with
  | 0, h => exact ⟨true, (Option.some.inj h).symm⟩
  | 1, h => exact ⟨false, (Option.some.inj h).symm⟩
theorem ofE {b lc l9 : Addr} {H : Hp} {Q : VK} {E : XK} {xs : List V} (hb : BagAt K H b lc) (hl : H l9 = none) (h0 : 0 < xs.length) (hz : xs.length ≤ 1000) (k : ∀ (i : Nat) (v : V) (H' : Hp), xs[i]? = some v → BX K b lc H H' → Q v H') : sp_of K [.ref b, .ref l9] (upd H l9 (.lst xs)) Q E := by
  obtain ⟨ys, hx⟩ := hb.lt
  have z := Same.up (o := .lst xs) hl
  exact ⟨b, lc, l9, xs, rfl, hb.mono z, upd_same, Ne.symm (ne_of_none hx hl), h0, hz, fun i v H' hv e t g => k i v H' hv ⟨(SameE.of z).trans e, (TupS.of z).trans t, g⟩⟩
def sp_planned (K : PySem.W.Frag) : Sp := fun vs H Q _ => ∃ (b lc : Addr), vs = [.ref b, .int 2, .int 2] ∧ BagAt K H b lc ∧ ∀ r lb ls tp lw lr p H', BX K b lc H H' → H r = none → LPlan K H' r lb ls tp lw lr p → Drawn p → Q (.ref r) H'
/-- [1 + draw(n) for k in range(m)] -/
theorem drawsE {σ : L2.St} {H1 : Hp} {D b lc : Addr} {Qd : Hp → Prop} {m j : Nat} {n : Int} {ti : TE} {vs : List Nat} (hm : m ≤ 3) (hD : H1 D = none) (hb : BagAt K H1 b lc) (n1 : 1 ≤ n) (n2 : n ≤ 1000)
    (hj : ∀ x, wipe (List.set (wipe σ vs) j (some x)) vs = wipe σ vs) (hti : ∀ x H (Q : VK), Q (.int n) H → ti (List.set (wipe σ vs) j (some x)) H Q) (h0 : ∀ x, (List.set (wipe σ vs) j (some x))[0]? = some (some (.ref b)))
    (k : ∀ (bs : List Int) H, BX K b lc H1 H → H D = some (.lst (bs.map V.int)) → bs.length = m → (∀ x ∈ bs, 1 ≤ x ∧ x ≤ n) → Qd H) :
    ∃ W : Nat → Nat → Hp → Prop, (∃ m', W 0 m' (upd H1 D (.lst []))) ∧ ∀ i m' H, W i m' H →
      ((Itr 0 m).stop i H ∧ Qd H) ∨ ((Itr 0 m).go i H ∧ ∃ Nx : Hp → Prop, (∀ H', Nx H' → ∃ m'', m'' < m' ∧ W (i + 1) m'' H') ∧ ∀ x H', (Itr 0 m).yld i H x H' → gName j x (wipe σ vs) H' fun σ2 H2 => wipe σ2 vs = wipe σ vs ∧ tYes σ2 H2 fun b H3 =>
        if b = true then tOp (rI0 fun i j => V.int (i + j)) (tC (V.int 1)) (tCall (sp_draw K) [] E0 (tCons (tVar 0) (tCons ti tNil))) σ2 H3 fun y H4 => ∃ acc, H4 D = some (.lst acc) ∧ acc.length < sizeLine ∧ Nx (upd H4 D (.lst (acc ++ [y]))) else Nx H3) := by
  refine lcB walk_range (by omega) hD hb (fun _ _ => trivial) (fun i acc => ∃ bs : List Int, acc = bs.map V.int ∧ bs.length = i ∧ ∀ x ∈ bs, 1 ≤ x ∧ x ≤ n) ⟨[], rfl, rfl, fun x h => by cases h⟩ ?_ ?_
  · rintro i x H2 H3 acc B N hi e ⟨bs, rfl, hl, hx⟩ ⟨rfl, rfl⟩ kB kN
    refine ⟨hj _, ?_⟩
    refine ⟨_, h0 _, hti _ _ _ ?_⟩
    refine ⟨b, lc, n, rfl, e.g, n1, n2, fun d H4 e1 t1 b1 d0 d1 => ⟨_, _, rfl, rfl, kB _ _ ⟨e1, t1, b1⟩ ⟨bs ++ [1 + d], ?_, ?_, fun x h => ?_⟩⟩⟩
    · rw [List.map_append]
      rfl
    · rw [List.length_append, List.length_singleton, hl]
    · rcases List.mem_append.mp h with h | h
      · exact hx x h
      · obtain rfl := List.mem_singleton.mp h
        omega
  · rintro H2 acc e ha ⟨bs, rfl, hl, hx⟩
    exact k bs H2 e ha hl hx
theorem sc__law_planned : FnScope ["_law_bag_here", "_law_most_z", "_law_wide", "_law_many", "_law_scans_z", "_law_point", "_law_k"] ["_law_bag_here", "_law_most_z", "_law_wide"] (defScope s__law_planned) := ⟨rfl, rfl, rfl, by decide +kernel, rfl, by decide +kernel, by decide +kernel⟩
theorem Txt.b__law_planned (T : Txt w K mg) : Binds K (fdA K (He.ga K "_law_planned")) ["_law_bag_here", "_law_most_z", "_law_wide"] [] := T.F__law_planned.binds fun _ _ _ _ _ _ us hl => match us, hl with | [_, _, _], _ => rfl
theorem ok__law_planned (T : Txt w K mg) : FnOk P w K mg base CX0 4 (He.ga K "_law_planned") (fdA K (He.ga K "_law_planned")) ["_law_bag_here", "_law_most_z", "_law_wide"] (sp_planned K) := by
  refine T.F__law_planned.ok sc__law_planned (fun vs H Q E h => ?_) (fun cdv A outer s H vs Q E hr h => ?_)
  · obtain ⟨b, lc, rfl, _⟩ := h
    rfl
  · obtain ⟨b, lc, rfl, hb, k⟩ := h
    refine ⟨_, (pss_cons (ps_set (i := 3) sc__law_planned.nd rfl (by first | exact .inl rfl | exact .inr rfl) (pe_op op_add pe_int (pe_call (ok__law_draw T) (hr.mono (by decide)) (by rfl) T.g__law_draw T.D__law_draw.kp T.b__law_draw .nil pass0 (pa_cons (pv 0) (pa_cons (pv 1) pa_nil)))))
      (pss_cons (ps_setLc (i := 4) (own := [("_law_point", 5)]) (g := (gName 5)) rfl sc__law_planned.nd rfl rfl (sw_true rfl rfl rfl (by decide +kernel)) (pi_range2 (by rfl) T.f_range (pa_cons pe_int (pa_cons (pv 3) pa_nil))) (blkOk_by (N := ["_law_bag_here", "_law_most_z", "_law_wide", "_law_many", "_law_scans_z", "_law_point", "_law_k"]) (sc := defScope s__law_planned) (by decide +kernel)) (fun _ _ _ _ _ => (pg_name (i := 5) sc__law_planned.nd rfl (by first | exact .inl rfl | exact .inr rfl))) (fun _ _ _ _ _ => pts_one (pt_cmpR op_eq (pe_call (ok__law_draw T) (hr.mono (by decide)) (by rfl) T.g__law_draw T.D__law_draw.kp T.b__law_draw .nil pass0 (pa_cons (pv 0) (pa_cons pe_int pa_nil))) pe_int (nomark _))) (fun _ _ _ _ _ => (pv 5)))
      (pss_one (ps_ret (pe_disp (pps_cons pe_str (pe_lc (own := [("_law_k", 6)]) (g := (gName 6)) rfl sc__law_planned.nd (pi_range1 (by rfl) T.f_range (pa_cons (pv 3) pa_nil)) (blkOk_by (N := ["_law_bag_here", "_law_most_z", "_law_wide", "_law_many", "_law_scans_z", "_law_point", "_law_k"]) (sc := defScope s__law_planned) (by decide +kernel)) (fun _ _ _ _ _ => (pg_name (i := 6) sc__law_planned.nd rfl (by first | exact .inl rfl | exact .inr rfl))) (fun _ _ _ _ _ => pts_nil) (fun _ _ _ _ _ => (pe_op op_add pe_int (pe_call (ok__law_draw T) (hr.mono (by decide)) (by rfl) T.g__law_draw T.D__law_draw.kp T.b__law_draw .nil pass0 (pa_cons (pv 0) (pa_cons (pv 2) pa_nil)))))) (pps_cons pe_str (pv 4) (pps_cons pe_str (pe_tup (pa_cons (pe_call (ok__law_draw T) (hr.mono (by decide)) (by rfl) T.g__law_draw T.D__law_draw.kp T.b__law_draw .nil pass0 (pa_cons (pv 0) (pa_cons (pe_op op_add (pv 2) pe_int) pa_nil))) (pa_cons (pe_op op_add pe_int (pe_call (ok__law_draw T) (hr.mono (by decide)) (by rfl) T.g__law_draw T.D__law_draw.kp T.b__law_draw .nil pass0 (pa_cons (pv 0) (pa_cons (pe_op op_mul pe_int (pv 2)) pa_nil)))) pa_nil))) (pps_cons pe_str (pe_call (ok__law_slip_words T) (hr.mono (by decide)) (by rfl) T.g__law_slip_words T.D__law_slip_words.kp T.b__law_slip_words .nil pass0 (pa_cons (pv 0) pa_nil)) (pps_cons pe_str (pe_call (ok__law_of T) (hr.mono (by decide)) (by rfl) T.g__law_of T.D__law_of.kp T.b__law_of .nil pass0 (pa_cons (pv 0) (pa_cons (pe_lst (pa_cons pe_non (pa_cons pe_non (pa_cons pe_int (pa_cons pe_int (pa_cons pe_int pa_nil)))))) pa_nil))) (pps_cons pe_str (pe_lc (own := [("_law_k", 6)]) (g := (gName 6)) rfl sc__law_planned.nd (pi_range1 (by rfl) T.f_range (pa_cons (pv 3) pa_nil)) (blkOk_by (N := ["_law_bag_here", "_law_most_z", "_law_wide", "_law_many", "_law_scans_z", "_law_point", "_law_k"]) (sc := defScope s__law_planned) (by decide +kernel)) (fun _ _ _ _ _ => (pg_name (i := 6) sc__law_planned.nd rfl (by first | exact .inl rfl | exact .inr rfl))) (fun _ _ _ _ _ => pts_nil) (fun _ _ _ _ _ => (pe_op op_add pe_int (pe_call (ok__law_draw T) (hr.mono (by decide)) (by rfl) T.g__law_draw T.D__law_draw.kp T.b__law_draw .nil pass0 (pa_cons (pv 0) (pa_cons (pe_op op_add (pv 2) pe_int) pa_nil)))))) (pps_cons pe_str (pe_call (ok__law_draw T) (hr.mono (by decide)) (by rfl) T.g__law_draw T.D__law_draw.kp T.b__law_draw .nil pass0 (pa_cons (pv 0) (pa_cons (pe_op op_add (pv 2) pe_int) pa_nil))) (pps_cons pe_str (pe_call (ok__law_of T) (hr.mono (by decide)) (by rfl) T.g__law_of T.D__law_of.kp T.b__law_of .nil pass0 (pa_cons (pv 0) (pa_cons (pe_lst (pa_cons pe_str (pa_cons pe_str pa_nil))) pa_nil))) (pps_cons pe_str (pe_call (ok__law_of T) (hr.mono (by decide)) (by rfl) T.g__law_of T.D__law_of.kp T.b__law_of .nil pass0 (pa_cons (pv 0) (pa_cons (pe_lst (pa_cons pe_str (pa_cons pe_str pa_nil))) pa_nil))) (pps_cons pe_str (pe_call (ok__law_of T) (hr.mono (by decide)) (by rfl) T.g__law_of T.D__law_of.kp T.b__law_of .nil pass0 (pa_cons (pv 0) (pa_cons (pe_lst (pa_cons pe_str (pa_cons pe_str pa_nil))) pa_nil))) pps_nil)))))))))) (by rfl) (by rfl) (fun z => by cases z) (by decide)))))), ?_⟩
    refine ⟨_, rfl, _, rfl, b, lc, 2, rfl, hb, by omega, by omega, fun d H1 e1 t1 b1 d0 d1 => ⟨_, _, rfl, rfl, ?_⟩⟩
    have x1 : BX K b lc H H1 := ⟨e1, t1, b1⟩
    obtain ⟨m, hm, rfl⟩ : ∃ m : Nat, m ≤ 1 ∧ d = (m : Int) := ⟨d.toNat, by omega, by omega⟩
    dsimp only [gName]
    refine ⟨_, rfl, _, _, rfl, ⟨by omega, by omega, by omega, by omega⟩, fun D hD => ?_⟩
    refine lcB walk_range (by omega) hD b1 (fun _ _ => trivial) (fun i acc => ∃ sc : List Int, acc = sc.map V.int ∧ sc.Sublist ((List.range i).map fun (k : Nat) => 1 + (k : Int))) ⟨[], rfl, .slnil⟩ ?_ ?_
    · rintro i x H2 H3 acc B N hi e ⟨sc, rfl, hs⟩ ⟨rfl, rfl⟩ kB kN
      have hr : (List.range (i + 1)).map (fun (k : Nat) => 1 + (k : Int)) = (List.range i).map (fun (k : Nat) => 1 + (k : Int)) ++ [1 + (i : Int)] := by
        rw [List.range_succ, List.map_append]
        rfl
      refine ⟨rfl, _, rfl, b, lc, 2, rfl, e.g, by omega, by omega, fun d H4 e4 t4 b4 _ _ => ⟨rfl, _, rfl, ?_⟩⟩
      by_cases c : d = 0
      · refine yes (by rw [c]; rfl) ?_
        refine ⟨_, rfl, kB _ _ ⟨e4, t4, b4⟩ ⟨sc ++ [1 + (i : Int)], ?_, ?_⟩⟩
        · rw [List.map_append]
          rfl
        · rw [hr]
          exact hs.append (List.Sublist.refl _)
      · refine noo (decide_eq_false fun z => c (V.int.inj z)) ?_
        refine kN _ ⟨e4, t4, b4⟩ ⟨sc, rfl, ?_⟩
        rw [hr]
        exact hs.trans (List.sublist_append_left _ _)
    · rintro H2 acc e ha ⟨sc, rfl, hs⟩
      have x2 := x1.trans e
      have nDb : D ≠ b := by
        obtain ⟨xs, hx⟩ := b1.lt
        exact Ne.symm (ne_of_none hx hD)
      intro r hr
      have x3 := x2.up (Same.up (o := .dK []) hr)
      have hrb : r ≠ b := by
        obtain ⟨xs, hx⟩ := x2.g.lt
        exact Ne.symm (ne_of_none hx hr)
      have hr3 : upd H2 r (.dK []) r = some (.dK []) := upd_same
      have hD3 : upd H2 r (.dK []) D = some (.lst (sc.map V.int)) := by
        rw [upd_ne (ne_of_none ha hr)]
        exact ha
      have hrn : H r = none := by
        cases q : H r with
        | none => rfl
        | some o => cases (x2.get hrb q).symm.trans hr
      dsimp only [tPairs]
      generalize upd H2 r (.dK []) = H3 at x3 hr3 hD3
      refine ⟨_, rfl, _, rfl, by omega, by omega, fun lb hlb => ?_⟩
      refine drawsE (n := 2) (by omega) hlb x3.g (by omega) (by omega) (fun _ => rfl) (fun x H Q h => ⟨_, rfl, h⟩) (fun _ => rfl) fun bs H4 x4 hb4 hbl hbx => ?_
      have n4 : lb ≠ b := by
        obtain ⟨xs, hx⟩ := x3.g.lt
        exact Ne.symm (ne_of_none hx hlb)
      refine ⟨_, rfl, ?_⟩
      refine ⟨_, rfl, _, rfl, _, _, rfl, rfl, b, lc, _, rfl, x4.g, by omega, by omega, fun mo H5 e5 t5 g5 mo0 mo1 => ?_⟩
      have x5 : BX K b lc H4 H5 := ⟨e5, t5, g5⟩
      refine ⟨_, rfl, _, rfl, _, _, rfl, rfl, cm (by decide) (by decide), b, lc, _, rfl, g5, by omega, by omega, fun am H6 e6 t6 g6 am0 am1 => ⟨_, _, rfl, rfl, ok_le (by simp), fun tp htp => ?_⟩⟩
      have x6 : BX K b lc H5 H6 := ⟨e6, t6, g6⟩
      have x7 := x6.up (Same.up (o := .tup [V.int mo, V.int (1 + am)]) htp)
      have ht7 : SqT K (upd H6 tp (.tup [V.int mo, V.int (1 + am)])) tp [V.int mo, V.int (1 + am)] := newT
      generalize upd H6 tp (.tup [V.int mo, V.int (1 + am)]) = H7 at x7 ht7
      refine ⟨_, rfl, b, lc, rfl, x7.g, fun lw ws H8 x8 hlw hw8 hws => ?_⟩
      have n8 : lw ≠ b := by
        obtain ⟨xs, hx⟩ := x7.g.lt
        exact Ne.symm (ne_of_none hx hlw)
      refine ⟨_, rfl, ok_le (by simp), fun l9 hl9 => ?_⟩
      refine ofE (E := E0) x8.g hl9 (by decide) (by decide) fun i9 v9 H9 hv9 x9 => ?_
      obtain ⟨st, rfl, hst⟩ := stretch_of hv9
      refine ⟨_, rfl, _, rfl, by omega, by omega, fun lr hlr => ?_⟩
      refine drawsE (n := 3) (by omega) hlr x9.g (by omega) (by omega) (fun _ => rfl) (fun x H Q h => ⟨_, rfl, _, _, rfl, rfl, h⟩) (fun _ => rfl) fun rs H10 x10 hr10 hrl hrx => ?_
      refine ⟨_, rfl, _, rfl, _, _, rfl, rfl, b, lc, _, rfl, x10.g, by omega, by omega, fun sk H11 e11 t11 g11 sk0 sk1 => ?_⟩
      have x11 : BX K b lc H10 H11 := ⟨e11, t11, g11⟩
      refine ⟨_, rfl, ok_le (by simp), fun l12 hl12 => ?_⟩
      refine ofE (E := E0) x11.g hl12 (by decide) (by decide) fun i12 v12 H12 hv12 x12 => ?_
      obtain ⟨c12, rfl⟩ := two_of hv12
      refine ⟨_, rfl, ok_le (by simp), fun l13 hl13 => ?_⟩
      refine ofE (E := E0) x12.g hl13 (by decide) (by decide) fun i13 v13 H13 hv13 x13 => ?_
      obtain ⟨c13, rfl⟩ := two_of hv13
      refine ⟨_, rfl, ok_le (by simp), fun l14 hl14 => ?_⟩
      refine ofE (E := E0) x13.g hl14 (by decide) (by decide) fun i14 v14 H14 hv14 x14 => ?_
      obtain ⟨c14, rfl⟩ := two_of hv14
      have n10 : lr ≠ b := by
        obtain ⟨xs, hx⟩ := x9.g.lt
        exact Ne.symm (ne_of_none hx hlr)
      have y10 := x10.trans (x11.trans (x12.trans (x13.trans x14)))
      have y8 := (x8.trans x9).trans y10 
      have y4 := (x5.trans x7).trans y8
      have y3 := x4.trans y4
      have z10 := x11.trans (x12.trans (x13.trans x14))
      refine ⟨y3.get hrb hr3, planK lb D tp lw lr ⟨bs, sc, mo, 1 + am, ws, st, rs, sk, c12, c13, c14⟩, ?_, Nat.le_of_ble_eq_true rfl, ?_⟩
      · cases c12 <;> cases c13 <;> cases c14 <;> rfl
      have hm2 : mergeK [] (planK lb D tp lw lr ⟨bs, sc, mo, 1 + am, ws, st, rs, sk, c12, c13, c14⟩) = planK lb D tp lw lr ⟨bs, sc, mo, 1 + am, ws, st, rs, sk, c12, c13, c14⟩ := merge_new _ [] planK_nodup
      rw [hm2]
      have tdk : TupS K H14 (upd H14 r (.dK (planK lb D tp lw lr ⟨bs, sc, mo, 1 + am, ws, st, rs, sk, c12, c13, c14⟩))) := TupS.dk (y3.get hrb hr3)
      have st1 : ∀ a ys, H14 a = some (.lst ys) → upd H14 r (.dK (planK lb D tp lw lr ⟨bs, sc, mo, 1 + am, ws, st, rs, sk, c12, c13, c14⟩)) a = some (.lst ys) := fun a ys h => by
        rw [upd_ne (fun z => by
          rw [z, y3.get hrb hr3] at h
          cases h)]
        exact h
      have y0 := x3.trans y3
      refine k r lb D tp lw lr ⟨bs, sc, mo, 1 + am, ws, st, rs, sk, c12, c13, c14⟩ _ ⟨fun c o hc ho => ?_, y0.t.trans tdk, ?_⟩ hrn ⟨upd_same, st1 _ _ (y4.get n4 hb4), st1 _ _ (y3.get nDb hD3), tdk _ _ (y8.t _ _ ht7), st1 _ _ ((x9.trans y10).get n8 hw8), st1 _ _ (z10.get n10 hr10)⟩ ⟨?_, hbx, ?_, hrx, ?_, ⟨mo0, ?_⟩, ⟨?_, ?_⟩, hws, hst, ⟨sk0, ?_⟩⟩
      · rw [upd_ne (ne_of_none ho hrn)]
        exact y0.e c o hc ho
      · obtain ⟨⟨cells, i, y, m', a1, a2, a3⟩, ne⟩ := y0.g
        exact ⟨⟨cells, i, y, m', st1 _ _ a1, st1 _ _ a2, a3⟩, ne⟩
      · show bs.length = 1 ∨ bs.length = 2
        omega
      · show rs.length = bs.length
        omega
      · show sc.Sublist ((List.range (bs.length - 1)).map _)
        rw [show bs.length - 1 = (1 + (m : Int) - 1).toNat by omega]
        exact hs
      · show mo ≤ 2
        omega
      · show 1 ≤ 1 + am
        omega
      · show 1 + am ≤ 4
        omega
      · show sk ≤ 2
        omega
end
end Ow
set_option Elab.async false
set_option linter.all false
set_option maxRecDepth 100000
set_option maxHeartbeats 4000000
namespace Ow
open PySem PySem.Spec PyProof.Rows L2
section
variable {P : Program} {w : World} {K : PySem.W.Frag} {mg : Str → Option Value} {base : Heap}
theorem valV_at {k : Key} {v : V} : ∀ {kvs : List (Key × V)} {i : Nat}, (kvs.map (fun x => x.1)).Nodup → kvs[i]? = some (k, v) → valV kvs k = some v
  | [], i, _, h => by simp at h
  | x :: r, 0, _, h => by
    cases h
    exact valV_pos rfl
  | x :: r, i + 1, n, h => by
    rw [List.map_cons, List.nodup_cons] at n
    have h' : r[i]? = some (k, v) := h
    rw [valV_neg (fun e => n.1 (List.mem_map.mpr ⟨(k, v), List.mem_of_getElem? h', e.symm⟩))]
    exact valV_at n.2 h'
theorem map_at {k : Key} {v : V} : ∀ {kvs : List (Key × V)} {i : Nat} {v0 : V}, (kvs.map (fun x => x.1)).Nodup → kvs[i]? = some (k, v0) → kvs.map (fun kv => if kv.1 = k then (kv.1, v) else kv) = kvs.set i (k, v)
  | [], i, _, _, h => by simp at h
  | x :: r, 0, _, n, h => by
    cases h
    rw [List.map_cons, List.nodup_cons] at n
    rw [List.map_cons, if_pos rfl, List.set_cons_zero]
    congr 1
    refine (List.map_congr_left fun y hy => ?_).trans (List.map_id r)
    rw [if_neg fun e => n.1 (List.mem_map.mpr ⟨y, hy, e⟩)]
    rfl
  | x :: r, i + 1, v0, n, h => by
    rw [List.map_cons, List.nodup_cons] at n
    have h' : r[i]? = some (k, v0) := h
    rw [List.map_cons, List.set_cons_succ, map_at n.2 h', if_neg fun e => n.1 (List.mem_map.mpr ⟨(k, v0), List.mem_of_getElem? h', e.symm⟩)]
theorem putK_at {k : Key} {v v0 : V} {kvs : List (Key × V)} {i : Nat} (n : (kvs.map (fun x => x.1)).Nodup) (h : kvs[i]? = some (k, v0)) : putK kvs k v = kvs.set i (k, v) := by
  unfold putK
  rw [if_pos (List.any_eq_true.mpr ⟨(k, v0), List.mem_of_getElem? h, decide_eq_true rfl⟩), map_at n h]
theorem dget_at {H : Hp} {a : Addr} {kvs : List (Key × V)} {i : Nat} {k : Key} {v : V} (e : H a = some (.dK kvs)) (n : (kvs.map (fun x => x.1)).Nodup) (h : kvs[i]? = some (k, v)) : DGet H a (kV k) (some v) := by
  rw [← valV_at n h]
  exact DGet.k e
theorem dput_at {H : Hp} {a : Addr} {kvs : List (Key × V)} {i : Nat} {k : Key} {v v0 : V} (e : H a = some (.dK kvs)) (n : (kvs.map (fun x => x.1)).Nodup) (h : kvs[i]? = some (k, v0)) (hz : kvs.length ≤ 100) : DPut H a (kV k) v (upd H a (.dK (kvs.set i (k, v)))) := by
  rw [← putK_at n h]
  exact DPut.k e (Nat.lt_of_le_of_lt hz (by decide))
section
variable {H : Hp} {r lb ls tp lw lr : Addr} {p : Plan}
theorem LPlan.nd (_ : LPlan K H r lb ls tp lw lr p) : ((planK lb ls tp lw lr p).map (fun x => x.1)).Nodup := planK_nodup
theorem LPlan.belts (h : LPlan K H r lb ls tp lw lr p) : DGet H r (.str "belts") (some (.ref lb)) := dget_at (i := 0) h.at_ h.nd rfl
theorem LPlan.scans (h : LPlan K H r lb ls tp lw lr p) : DGet H r (.str "scans") (some (.ref ls)) := dget_at (i := 1) h.at_ h.nd rfl
theorem LPlan.slips (h : LPlan K H r lb ls tp lw lr p) : DGet H r (.str "slips") (some (.ref tp)) := dget_at (i := 2) h.at_ h.nd rfl
theorem LPlan.words (h : LPlan K H r lb ls tp lw lr p) : DGet H r (.str "words") (some (.ref lw)) := dget_at (i := 3) h.at_ h.nd rfl
theorem LPlan.stretch (h : LPlan K H r lb ls tp lw lr p) : DGet H r (.str "stretch") (some (oV p.stretch)) := dget_at (i := 4) h.at_ h.nd rfl
theorem LPlan.rooms (h : LPlan K H r lb ls tp lw lr p) : DGet H r (.str "rooms") (some (.ref lr)) := dget_at (i := 5) h.at_ h.nd rfl
theorem LPlan.seek (h : LPlan K H r lb ls tp lw lr p) : DGet H r (.str "seek") (some (.int p.seek)) := dget_at (i := 6) h.at_ h.nd rfl
theorem LPlan.empty (h : LPlan K H r lb ls tp lw lr p) : DGet H r (.str "empty") (some (.str (wB p.blank))) := dget_at (i := 7) h.at_ h.nd rfl
theorem LPlan.strange (h : LPlan K H r lb ls tp lw lr p) : DGet H r (.str "strange") (some (.str (wF p.first))) := dget_at (i := 8) h.at_ h.nd rfl
theorem LPlan.pause (h : LPlan K H r lb ls tp lw lr p) : DGet H r (.str "pause") (some (.str (wC p.clear))) := dget_at (i := 9) h.at_ h.nd rfl
end
theorem upd_upd {H : Hp} {r : Addr} {x y : HO} : upd (upd H r x) r y = upd H r y := by
  funext a
  by_cases ca : a = r
  · rw [ca, upd_same, upd_same]
  · rw [upd_ne ca, upd_ne ca, upd_ne ca]
theorem ne_bag {b lc a : Addr} {H : Hp} {xs : List Int} (g : BagAt K H b lc) (h : H a = some (.lst (xs.map V.int))) : a ≠ b := by
  rintro rfl
  obtain ⟨⟨cells, i, x, m, h1, _⟩, _⟩ := g
  rw [h] at h1
  cases xs <;> cases h1
theorem ne_bagS {b lc a : Addr} {H : Hp} {xs : List Sight} (g : BagAt K H b lc) (h : H a = some (.lst (gsV xs))) : a ≠ b := by
  rintro rfl
  obtain ⟨⟨cells, i, x, m, h1, _⟩, _⟩ := g
  rw [h] at h1
  cases xs <;> cases h1
theorem ne_bagD {b lc a : Addr} {H : Hp} {xs : List (Key × V)} (g : BagAt K H b lc) (h : H a = some (.dK xs)) : a ≠ b := by
  rintro rfl
  obtain ⟨⟨cells, i, x, m, h1, _⟩, _⟩ := g
  rw [h] at h1
  cases h1
theorem LPlan.mono {H H' : Hp} {r lb ls tp lw lr : Addr} {p : Plan} (e : Same H H') (h : LPlan K H r lb ls tp lw lr p) : LPlan K H' r lb ls tp lw lr p :=
  ⟨e _ _ h.at_, e _ _ h.hb, e _ _ h.hs, Same.seqT e h.ht, e _ _ h.hw, e _ _ h.hr⟩
theorem LPlan.bx {H H' : Hp} {b lc r lb ls tp lw lr : Addr} {p : Plan} (h : LPlan K H r lb ls tp lw lr p) (g : BagAt K H b lc) (e : BX K b lc H H') : LPlan K H' r lb ls tp lw lr p :=
  ⟨e.get (ne_bagD g h.at_) h.at_, e.get (ne_bag g h.hb) h.hb, e.get (ne_bag g h.hs) h.hs, e.t _ _ h.ht, e.get (ne_bagS g h.hw) h.hw, e.get (ne_bag g h.hr) h.hr⟩
theorem LPlan.set {H : Hp} {r lb ls tp lw lr lb' tp' lr' : Addr} {p p' : Plan} (h : LPlan K H r lb ls tp lw lr p) (hb : H lb' = some (.lst (p'.belts.map V.int))) (hr : H lr' = some (.lst (p'.rooms.map V.int))) (ht : SqT K H tp' [.int p'.most, .int p'.among])
    (es : p'.scans = p.scans) (ew : p'.words = p.words) : LPlan K (upd H r (.dK (planK lb' ls tp' lw lr' p'))) r lb' ls tp' lw lr' p' := by
  have st1 : ∀ a ys, H a = some (.lst ys) → upd H r (.dK (planK lb' ls tp' lw lr' p')) a = some (.lst ys) := fun a ys z => by
    rw [upd_ne (fun e => by
      rw [e, h.at_] at z
      cases z)]
    exact z
  exact ⟨upd_same, st1 _ _ hb, st1 _ _ (by rw [es]; exact h.hs), TupS.dk h.at_ _ _ ht, st1 _ _ (by rw [ew]; exact h.hw), st1 _ _ hr⟩
theorem BX.dk {b lc r : Addr} {H H1 : Hp} {xs ys : List (Key × V)} (x : BX K b lc H H1) (hb : BagAt K H b lc) (n : H r = none) (h : H1 r = some (.dK xs)) : BX K b lc H (upd H1 r (.dK ys)) := by
  obtain ⟨⟨cells, i, y, m, h1, h2, h3⟩, ne⟩ := hb
  obtain ⟨⟨cells', i', y', m', a1, a2, a3⟩, _⟩ := x.g
  refine ⟨fun c u hc hu => ?_, x.t.trans (TupS.dk h), ⟨⟨cells', i', y', m', ?_, ?_, a3⟩, ne⟩⟩
  · rw [upd_ne (ne_of_none hu n)]
    exact x.e c u hc hu
  · rw [upd_ne (ne_of_none h1 n)]
    exact a1
  · rw [upd_ne (ne_of_none h2 n)]
    exact a2
def sp_small (K : PySem.W.Frag) : Sp := fun vs H Q _ => ∃ (b lc : Addr), vs = [.ref b] ∧ BagAt K H b lc ∧ ∀ r lb ls tp lw lr p H', BX K b lc H H' → H r = none → LPlan K H' r lb ls tp lw lr p → Drawn p → Q (.ref r) H'
theorem sc__law_small : FnScope ["_law_bag_here", "_law_plan", "_law_most_z", "_law_among", "_law_k"] ["_law_bag_here"] (defScope s__law_small) := ⟨rfl, rfl, rfl, by decide +kernel, rfl, by decide +kernel, by decide +kernel⟩
theorem Txt.b__law_small (T : Txt w K mg) : Binds K (fdA K (He.ga K "_law_small")) ["_law_bag_here"] [] := T.F__law_small.binds fun _ _ _ _ _ _ us hl => match us, hl with | [_], _ => rfl
theorem ok__law_small (T : Txt w K mg) : FnOk P w K mg base CX0 5 (He.ga K "_law_small") (fdA K (He.ga K "_law_small")) ["_law_bag_here"] (sp_small K) := by
  refine T.F__law_small.ok sc__law_small (fun vs H Q E h => ?_) (fun cdv A outer s H vs Q E hr h => ?_)
  · obtain ⟨b, lc, rfl, _⟩ := h
    rfl
  · obtain ⟨b, lc, rfl, hb, k⟩ := h
    refine ⟨_, (pss_cons (ps_set (i := 1) sc__law_small.nd rfl (by first | exact .inl rfl | exact .inr rfl) (pe_call (ok__law_planned T) (hr.mono (by decide)) (by rfl) T.g__law_planned T.D__law_planned.kp T.b__law_planned .nil pass0 (pa_cons (pv 0) (pa_cons pe_int (pa_cons pe_int pa_nil)))))
      (pss_cons (ps_if (pt_cmpR op_eq (pe_callB (cr_lenK (K := K)) (by rfl) T.f_len (by decide +kernel) (pa_cons (pe_dget (hu_of hr) (pv 1) pe_str (fun _ _ => rfl)) pa_nil)) pe_int (nomark _)) (pss_one (ps_asg (pe_tup (pa_cons (pe_lst (pa_cons pe_int (pa_cons pe_int pa_nil))) (pa_cons (pe_lc (own := [("_law_k", 4)]) (g := (gName 4)) rfl sc__law_small.nd (pi_range1 (by rfl) T.f_range (pa_cons pe_int pa_nil)) (blkOk_by (N := ["_law_bag_here", "_law_plan", "_law_most_z", "_law_among", "_law_k"]) (sc := defScope s__law_small) (by decide +kernel)) (fun _ _ _ _ _ => (pg_name (i := 4) sc__law_small.nd rfl (by first | exact .inl rfl | exact .inr rfl))) (fun _ _ _ _ _ => pts_nil) (fun _ _ _ _ _ => (pe_op op_add pe_int (pe_call (ok__law_draw T) (hr.mono (by decide)) (by rfl) T.g__law_draw T.D__law_draw.kp T.b__law_draw .nil pass0 (pa_cons (pv 0) (pa_cons pe_int pa_nil)))))) pa_nil))) (pg_tup rfl (pgs_cons (pg_sub (pv 1) pe_str (set_dict (hu_of hr))) (pgs_cons (pg_sub (pv 1) pe_str (set_dict (hu_of hr))) pgs_nil))))) pss_nil)
      (pss_cons (ps_asg (pe_dget (hu_of hr) (pv 1) pe_str (fun _ _ => rfl)) (pg_tup rfl (pgs_cons (pg_name (i := 2) sc__law_small.nd rfl (by first | exact .inl rfl | exact .inr rfl)) (pgs_cons (pg_name (i := 3) sc__law_small.nd rfl (by first | exact .inl rfl | exact .inr rfl)) pgs_nil))))
      (pss_cons (ps_dput (hu_of hr) (pv 1) pe_str (pe_ifExp (pt_cmpR op_eq (pe_callB (cr_lenK (K := K)) (by rfl) T.f_len (by decide +kernel) (pa_cons (pe_dget (hu_of hr) (pv 1) pe_str (fun _ _ => rfl)) pa_nil)) pe_int (nomark _)) (pe_tup (pa_cons (pe_callB (call_min2 rfl) (by rfl) T.f_min (by decide +kernel) (pa_cons (pv 2) (pa_cons pe_int pa_nil))) (pa_cons (pe_callB (call_min2 rfl) (by rfl) T.f_min (by decide +kernel) (pa_cons (pv 3) (pa_cons pe_int pa_nil))) pa_nil))) (pe_tup (pa_cons (pe_callB (call_min2 rfl) (by rfl) T.f_min (by decide +kernel) (pa_cons (pv 2) (pa_cons pe_int pa_nil))) (pa_cons (pe_callB (call_min2 rfl) (by rfl) T.f_min (by decide +kernel) (pa_cons (pv 3) (pa_cons pe_int pa_nil))) pa_nil)))) rfl)
      (pss_one (ps_ret (pv 1))))))), ?_⟩
    refine ⟨_, rfl, b, lc, rfl, hb, fun r lb ls tp lw lr p H1 x1 hrn hp dp => ?_⟩
    dsimp only [gName]
    have hrb : r ≠ b := by
      obtain ⟨xs, hx⟩ := hb.lt
      exact Ne.symm (ne_of_none hx hrn)
    refine seqE (M := fun σ' H' => ∃ lb lr p u v w, BX K b lc H H' ∧ LPlan K H' r lb ls tp lw lr p ∧ Drawn p ∧ σ' = [some (.ref b), some (.ref r), u, v, w]) (fun N kN => ?_) ?_
    · refine ⟨_, rfl, r, _, rfl, hp.belts, _, _, rfl, .inl (.inl (.inl hp.hb)), rfl, _, rfl, ?_⟩
      by_cases c : p.belts.length = 2
      · refine yes (by rw [List.length_map, c]; rfl) ?_
        refine ⟨ok_le (by simp), fun lb2 hlb2 => ?_⟩
        have z2 := Same.up (o := .lst [V.int 1, V.int 1]) hlb2
        have hlb3 : upd H1 lb2 (.lst [V.int 1, V.int 1]) lb2 = some (.lst ([1, 1].map V.int)) := upd_same
        have hp2 := hp.mono z2
        have x2 := x1.up z2
        generalize upd H1 lb2 (.lst [V.int 1, V.int 1]) = H2 at z2 hlb3 hp2 x2
        refine ⟨2, rfl, by omega, by omega, fun lr2 hlr2 => ?_⟩
        refine drawsE (n := 2) (by decide) hlr2 x2.g (by omega) (by omega) (fun _ => rfl) (fun x H Q h => h) (fun _ => rfl) fun rs H3 x3 hr3 hrl hrx => ?_
        have hp3 := hp2.bx x2.g x3
        have nlb : lb2 ≠ b := ne_bag x2.g hlb3
        have hlb4 := x3.get nlb hlb3
        refine ⟨ok_le (by simp), fun tq htq => ?_⟩
        have z4 := Same.up (o := .tup [V.ref lb2, V.ref lr2]) htq
        have hp4 := hp3.mono z4
        have x4 := (x2.trans x3).up z4
        have hlb5 := z4 _ _ hlb4
        have hr5 := z4 _ _ hr3
        refine ⟨tq, _, rfl, newT, rfl, ?_⟩
        generalize upd H3 tq (.tup [V.ref lb2, V.ref lr2]) = H4 at z4 hp4 x4 hlb5 hr5
        refine ⟨_, _, rfl, _, rfl, r, _, rfl, dput_at (i := 0) hp4.at_ planK_nodup rfl (Nat.le_of_ble_eq_true rfl), ?_⟩
        refine ⟨_, _, rfl, _, rfl, r, _, rfl, dput_at (i := 5) upd_same planK_nodup rfl (Nat.le_of_ble_eq_true rfl), rfl, ?_⟩
        show N _ (upd (upd H4 r _) r (.dK (planK lb2 ls tp lw lr2 { p with belts := [1, 1], rooms := rs })))
        rw [upd_upd]
        have hps := hp4.set (lb' := lb2) (lr' := lr2) (tp' := tp) (p' := { p with belts := [1, 1], rooms := rs }) hlb5 hr5 hp4.ht rfl rfl
        refine kN _ _ ⟨lb2, lr2, _, _, _, _, x4.dk hb hrn hp4.at_, hps, ⟨.inr rfl, ?_, ?_, ?_, ?_, dp.mo, dp.am, dp.wd, dp.st, dp.sk⟩, rfl⟩
        · intro x hx
          have : x = 1 := by simpa using hx
          omega
        · exact hrl
        · intro x hx
          have := hrx x hx
          omega
        · show p.scans.Sublist ((List.range (2 - 1)).map _)
          have := dp.sc
          rw [c] at this
          exact this
      · refine noo (decide_eq_false fun z => c (by
          have := V.int.inj z
          rw [List.length_map] at this
          omega)) ?_
        exact kN _ _ ⟨lb, lr, p, _, _, _, x1, hp, dp, rfl⟩
    rintro σ1 H2 ⟨lb, lr, p, u, v, w, x2, hp, dp, rfl⟩
    have hz : ∀ x y : Int, V.int (if y < x then y else x) = V.int (min x y) := fun x y => by
      congr 1
      by_cases c : y < x
      · rw [if_pos c]; omega
      · rw [if_neg c]; omega
    refine ⟨_, rfl, r, _, rfl, hp.slips, tp, _, rfl, hp.ht, rfl, _, _, rfl, _, _, rfl, rfl, ?_⟩
    dsimp only
    refine seqE (M := fun σ' H' => ∃ tp, BX K b lc H H' ∧ LPlan K H' r lb ls tp lw lr { p with most := min p.most (if p.belts.length = 2 then 1 else 2), among := min p.among (if p.belts.length = 2 then 2 else 3) } ∧ ∃ u v w, σ' = [some (.ref b), some (.ref r), u, v, w]) (fun N kN => ?_) ?_
    · refine ⟨_, rfl, r, _, rfl, hp.belts, _, _, rfl, .inl (.inl (.inl hp.hb)), rfl, _, rfl, ?_⟩
      have fin : ∀ (x y : Int) (tq : Addr), H2 tq = none → (x = min p.most (if p.belts.length = 2 then 1 else 2)) → (y = min p.among (if p.belts.length = 2 then 2 else 3)) →
          ∃ v', some (some (V.ref r)) = some (some v') ∧ ∃ a H4, v' = .ref a ∧ DPut (upd H2 tq (.tup [V.int x, V.int y])) a (.str "slips") (.ref tq) H4 ∧ N [some (.ref b), some (.ref r), some (.int p.most), some (.int p.among), w] H4 := by
        rintro x y tq htq rfl rfl
        have z4 := Same.up (o := .tup [V.int (min p.most (if p.belts.length = 2 then 1 else 2)), V.int (min p.among (if p.belts.length = 2 then 2 else 3))]) htq
        have hp4 := hp.mono z4
        have x4 := x2.up z4
        refine ⟨_, rfl, r, _, rfl, dput_at (i := 2) hp4.at_ planK_nodup rfl (Nat.le_of_ble_eq_true rfl), ?_⟩
        have hps := hp4.set (lb' := lb) (lr' := lr) (tp' := tq) (p' := { p with most := min p.most (if p.belts.length = 2 then 1 else 2), among := min p.among (if p.belts.length = 2 then 2 else 3) }) hp4.hb hp4.hr newT rfl rfl
        exact kN _ _ ⟨tq, x4.dk hb hrn hp4.at_, hps, _, _, _, rfl⟩
      by_cases c : p.belts.length = 2
      · refine yes (by rw [List.length_map, c]; rfl) ?_
        refine ⟨_, rfl, _, _, rfl, ?_⟩
        refine ⟨_, rfl, _, _, rfl, ok_le (by simp), fun tq htq => fin _ _ tq htq ?_ ?_⟩
        · rw [if_pos c]
          exact V.int.inj (hz _ _)
        · rw [if_pos c]
          exact V.int.inj (hz _ _)
      · refine noo (decide_eq_false fun z => c (by
          have := V.int.inj z
          rw [List.length_map] at this
          omega)) ?_
        refine ⟨_, rfl, _, _, rfl, ?_⟩
        refine ⟨_, rfl, _, _, rfl, ok_le (by simp), fun tq htq => fin _ _ tq htq ?_ ?_⟩
        · rw [if_neg c]
          exact V.int.inj (hz _ _)
        · rw [if_neg c]
          exact V.int.inj (hz _ _)
    rintro σ1 H3 ⟨tp, x3, hp3, u, v, w, rfl⟩
    refine ⟨_, rfl, ?_⟩
    refine k r lb ls tp lw lr _ H3 x3 hrn hp3 ⟨dp.nb, dp.rb, dp.nr, dp.rr, dp.sc, ?_, ?_, dp.wd, dp.st, dp.sk⟩
    · have := dp.mo
      show 0 ≤ min p.most _ ∧ min p.most _ ≤ 2
      by_cases c : p.belts.length = 2
      · rw [if_pos c]; omega
      · rw [if_neg c]; omega
    · have := dp.am
      show 1 ≤ min p.among _ ∧ min p.among _ ≤ 4
      by_cases c : p.belts.length = 2
      · rw [if_pos c]; omega
      · rw [if_neg c]; omega
end
end Ow
set_option Elab.async false
set_option linter.all false
set_option maxRecDepth 100000
set_option maxHeartbeats 4000000
namespace Ow
open PySem PySem.Spec PyProof.Rows L2
section
variable {P : Program} {w : World} {K : PySem.W.Frag} {mg : Str → Option Value} {base : Heap}
theorem len2 {α : Type} : ∀ {l : List α}, l.length = 2 → ∃ x y, l = [x, y]
  | [x, y], _ => ⟨x, y, rfl⟩
def sp_mkLine (K : PySem.W.Frag) : Sp := fun vs H Q _ => ∃ (r lb ls tp lw lr : Addr) (p : Plan), vs = [.ref r] ∧ LPlan K H r lb ls tp lw lr p ∧ Drawn p ∧ ∀ x H', Same H H' → H x = none → LineAt K H' x p → Q (.ref x) H'
theorem sc__law_made_line : FnScope ["_law_plan", "_law_belts"] ["_law_plan"] (defScope s__law_made_line) := ⟨rfl, rfl, rfl, by decide +kernel, rfl, by decide +kernel, by decide +kernel⟩
theorem Txt.b__law_made_line (T : Txt w K mg) : Binds K (fdA K (He.ga K "_law_made_line")) ["_law_plan"] [] := T.F__law_made_line.binds fun _ _ _ _ _ _ us hl => match us, hl with | [_], _ => rfl
theorem ok__law_made_line (T : Txt w K mg) : FnOk P w K mg base CX0 5 (He.ga K "_law_made_line") (fdA K (He.ga K "_law_made_line")) ["_law_plan"] (sp_mkLine K) := by
  refine T.F__law_made_line.ok sc__law_made_line (fun vs H Q E h => ?_) (fun cdv A outer s H vs Q E hr h => ?_)
  · obtain ⟨r, lb, ls, tp, lw, lr, p, rfl, _⟩ := h
    rfl
  · obtain ⟨r, lb, ls, tp, lw, lr, p, rfl, hp, dp, k⟩ := h
    refine ⟨_, (pss_cons (ps_set (i := 1) sc__law_made_line.nd rfl (by first | exact .inl rfl | exact .inr rfl) (pe_dget (hu_of hr) (pv 0) pe_str (fun _ _ => rfl)))
      (pss_cons (ps_if (pt_cmpR op_eq (pe_callB (cr_lenK (K := K)) (by rfl) T.f_len (by decide +kernel) (pa_cons (pv 1) pa_nil)) pe_int (nomark _)) (pss_one (ps_ret (pe_makeS T.mk_Line (okS_Line___init___1 T) (hr.mono (by decide)) (by rfl) T.g_Line pass0 (pa_cons (pe_ix ix_list (pv 1) pe_int (fun _ _ => rfl)) pa_nil) (pk_cons (pe_dget (hu_of hr) (pv 0) pe_str (fun _ _ => rfl)) (pk_cons (pe_dget (hu_of hr) (pv 0) pe_str (fun _ _ => rfl)) (pk_cons (pe_dget (hu_of hr) (pv 0) pe_str (fun _ _ => rfl)) (pk_cons (pe_dget (hu_of hr) (pv 0) pe_str (fun _ _ => rfl)) pk_nil))))))) pss_nil)
      (pss_cons (ps_if (pt_cmpR op_eq (pe_callB (cr_lenK (K := K)) (by rfl) T.f_len (by decide +kernel) (pa_cons (pv 1) pa_nil)) pe_int (nomark _)) (pss_one (ps_ret (pe_makeS T.mk_Line (okS_Line___init___2 T) (hr.mono (by decide)) (by rfl) T.g_Line pass0 (pa_cons (pe_ix ix_list (pv 1) pe_int (fun _ _ => rfl)) (pa_cons (pe_ix ix_list (pv 1) pe_int (fun _ _ => rfl)) pa_nil)) (pk_cons (pe_dget (hu_of hr) (pv 0) pe_str (fun _ _ => rfl)) (pk_cons (pe_dget (hu_of hr) (pv 0) pe_str (fun _ _ => rfl)) (pk_cons (pe_dget (hu_of hr) (pv 0) pe_str (fun _ _ => rfl)) (pk_cons (pe_dget (hu_of hr) (pv 0) pe_str (fun _ _ => rfl)) pk_nil))))))) pss_nil)
      (pss_one ps_never)))), ?_⟩
    refine ⟨_, rfl, r, _, rfl, hp.belts, ?_⟩
    dsimp only [gName]
    have go : ∀ (vs : List V), vs = p.belts.map V.int → ∀ x dx q, H x = none → H dx = none → dx ≠ x → H q = none → q ≠ x → q ≠ dx →
        sp_lineI K [.ref x, .ref ls, .ref tp, .ref lw, oV p.stretch, .ref q] (upd (upd (upd H dx (.own x)) x (.ins (He.ga K "Line") dx [])) q (.tup vs)) (fun v H3 => v = .non ∧ Q (.ref x) H3) E0 := by
      rintro vs rfl x dx q hx hdx hne hq hqx hqd
      have z1 := Same.up (o := .own x) hdx
      have hx2 : upd H dx (HO.own x) x = none := by
        rw [upd_ne (Ne.symm hne)]
        exact hx
      have z2 := Same.up (o := .ins (He.ga K "Line") dx []) hx2
      have hq2 : upd (upd H dx (.own x)) x (.ins (He.ga K "Line") dx []) q = none := by
        rw [upd_ne hqx, upd_ne hqd]
        exact hq
      have z3 := Same.up (o := .tup (p.belts.map V.int)) hq2
      have zz := z1.trans (z2.trans z3)
      refine ⟨x, dx, ls, tp, lw, q, p, rfl, z3 _ _ upd_same, .inl (.inl (zz _ _ hp.hs)), Same.seqT zz hp.ht, .inl (.inl (zz _ _ hp.hw)), newT, dp.ok, dp.wd, fun H' sx hl => ⟨rfl, k x H' (fun b o hb => ?_) hx hl⟩⟩
      exact sx b o (ne_of_none hb hx) (zz _ _ hb)
    have h01 : p.belts.length = 1 ∨ p.belts.length = 2 := by
      rcases dp.nb with h | h
      · exact .inl (h)
      · exact .inr (h)
    rcases h01 with c | c
    · obtain ⟨x1, hx1⟩ : ∃ x, p.belts = [x] := List.length_eq_one_iff.mp c
      refine ⟨_, rfl, _, _, rfl, .inl (.inl (.inl hp.hb)), rfl, _, rfl, yes (by rw [List.length_map, c]; rfl) ?_⟩
      refine ixC hp.hb (e := atI_nat (j := 0) (by rw [hx1]; rfl)) (v := .int x1) ?_
      exact ⟨_, rfl, r, _, rfl, hp.scans, _, rfl, r, _, rfl, hp.slips, _, rfl, r, _, rfl, hp.words, _, rfl, r, _, rfl, hp.stretch, rfl, rfl, ok_le (by simp), go [.int x1] (by rw [hx1]; rfl)⟩
    · obtain ⟨x1, x2, hx1⟩ : ∃ x y, p.belts = [x, y] := len2 c
      refine ⟨_, rfl, _, _, rfl, .inl (.inl (.inl hp.hb)), rfl, _, rfl, noo (by rw [List.length_map, c]; rfl) ?_⟩
      dsimp only [tNext]
      refine ⟨_, rfl, _, _, rfl, .inl (.inl (.inl hp.hb)), rfl, _, rfl, yes (by rw [List.length_map, c]; rfl) ?_⟩
      refine ixC hp.hb (e := atI_nat (j := 0) (by rw [hx1]; rfl)) (v := .int x1) ?_
      refine ixC hp.hb (e := atI_nat (j := 1) (by rw [hx1]; rfl)) (v := .int x2) ?_
      exact ⟨_, rfl, r, _, rfl, hp.stretch, _, rfl, r, _, rfl, hp.words, _, rfl, r, _, rfl, hp.slips, _, rfl, r, _, rfl, hp.scans, rfl, rfl, ok_le (by simp), go [.int x1, .int x2] (by rw [hx1]; rfl)⟩
def sp_mkTrack (K : PySem.W.Frag) : Sp := fun vs H Q _ => ∃ (r lb ls tp lw lr : Addr) (p : Plan), vs = [.ref r] ∧ LPlan K H r lb ls tp lw lr p ∧ Drawn p ∧ ∀ x H', Same H H' → H x = none → TrackAt K H' x p → Q (.ref x) H'
theorem sc__law_made_tracker : FnScope ["_law_plan", "_law_rooms"] ["_law_plan"] (defScope s__law_made_tracker) := ⟨rfl, rfl, rfl, by decide +kernel, rfl, by decide +kernel, by decide +kernel⟩
theorem Txt.b__law_made_tracker (T : Txt w K mg) : Binds K (fdA K (He.ga K "_law_made_tracker")) ["_law_plan"] [] := T.F__law_made_tracker.binds fun _ _ _ _ _ _ us hl => match us, hl with | [_], _ => rfl
theorem ok__law_made_tracker (T : Txt w K mg) : FnOk P w K mg base CX0 4 (He.ga K "_law_made_tracker") (fdA K (He.ga K "_law_made_tracker")) ["_law_plan"] (sp_mkTrack K) := by
  refine T.F__law_made_tracker.ok sc__law_made_tracker (fun vs H Q E h => ?_) (fun cdv A outer s H vs Q E hr h => ?_)
  · obtain ⟨r, lb, ls, tp, lw, lr, p, rfl, _⟩ := h
    rfl
  · obtain ⟨r, lb, ls, tp, lw, lr, p, rfl, hp, dp, k⟩ := h
    refine ⟨_, (pss_cons (ps_set (i := 1) sc__law_made_tracker.nd rfl (by first | exact .inl rfl | exact .inr rfl) (pe_dget (hu_of hr) (pv 0) pe_str (fun _ _ => rfl)))
      (pss_cons (ps_if (pt_cmpR op_eq (pe_callB (cr_lenK (K := K)) (by rfl) T.f_len (by decide +kernel) (pa_cons (pv 1) pa_nil)) pe_int (nomark _)) (pss_one (ps_ret (pe_makeS T.mk_Tracker (okS_Tracker___init___1 T) (hr.mono (by decide)) (by rfl) T.g_Tracker pass0 (pa_cons (pe_ix ix_list (pv 1) pe_int (fun _ _ => rfl)) pa_nil) (pk_cons (pe_dget (hu_of hr) (pv 0) pe_str (fun _ _ => rfl)) (pk_cons (pe_dget (hu_of hr) (pv 0) pe_str (fun _ _ => rfl)) (pk_cons (pe_dget (hu_of hr) (pv 0) pe_str (fun _ _ => rfl)) (pk_cons (pe_dget (hu_of hr) (pv 0) pe_str (fun _ _ => rfl)) pk_nil))))))) pss_nil)
      (pss_cons (ps_if (pt_cmpR op_eq (pe_callB (cr_lenK (K := K)) (by rfl) T.f_len (by decide +kernel) (pa_cons (pv 1) pa_nil)) pe_int (nomark _)) (pss_one (ps_ret (pe_makeS T.mk_Tracker (okS_Tracker___init___2 T) (hr.mono (by decide)) (by rfl) T.g_Tracker pass0 (pa_cons (pe_ix ix_list (pv 1) pe_int (fun _ _ => rfl)) (pa_cons (pe_ix ix_list (pv 1) pe_int (fun _ _ => rfl)) pa_nil)) (pk_cons (pe_dget (hu_of hr) (pv 0) pe_str (fun _ _ => rfl)) (pk_cons (pe_dget (hu_of hr) (pv 0) pe_str (fun _ _ => rfl)) (pk_cons (pe_dget (hu_of hr) (pv 0) pe_str (fun _ _ => rfl)) (pk_cons (pe_dget (hu_of hr) (pv 0) pe_str (fun _ _ => rfl)) pk_nil))))))) pss_nil)
      (pss_one ps_never)))), ?_⟩
    refine ⟨_, rfl, r, _, rfl, hp.rooms, ?_⟩
    dsimp only [gName]
    have go : ∀ (vs : List V), vs = p.rooms.map V.int → ∀ x dx q, H x = none → H dx = none → dx ≠ x → H q = none → q ≠ x → q ≠ dx →
        sp_trackI K [.ref x, .int p.seek, .str (wB p.blank), .str (wF p.first), .str (wC p.clear), .ref q] (upd (upd (upd H dx (.own x)) x (.ins (He.ga K "Tracker") dx [])) q (.tup vs)) (fun v H3 => v = .non ∧ Q (.ref x) H3) E0 := by
      rintro vs rfl x dx q hx hdx hne hq hqx hqd
      have z1 := Same.up (o := .own x) hdx
      have hx2 : upd H dx (HO.own x) x = none := by
        rw [upd_ne (Ne.symm hne)]
        exact hx
      have z2 := Same.up (o := .ins (He.ga K "Tracker") dx []) hx2
      have hq2 : upd (upd H dx (.own x)) x (.ins (He.ga K "Tracker") dx []) q = none := by
        rw [upd_ne hqx, upd_ne hqd]
        exact hq
      have z3 := Same.up (o := .tup (p.rooms.map V.int)) hq2
      have zz := z1.trans (z2.trans z3)
      refine ⟨x, dx, q, p, rfl, z3 _ _ upd_same, newT, dp.ok, fun H' sx hl => ⟨rfl, k x H' (fun b o hb => ?_) hx hl⟩⟩
      exact sx b o (ne_of_none hb hx) (zz _ _ hb)
    have h01 : p.rooms.length = 1 ∨ p.rooms.length = 2 := by
      rcases dp.nb with h | h
      · exact .inl (dp.nr.trans h)
      · exact .inr (dp.nr.trans h)
    rcases h01 with c | c
    · obtain ⟨x1, hx1⟩ : ∃ x, p.rooms = [x] := List.length_eq_one_iff.mp c
      refine ⟨_, rfl, _, _, rfl, .inl (.inl (.inl hp.hr)), rfl, _, rfl, yes (by rw [List.length_map, c]; rfl) ?_⟩
      refine ixC hp.hr (e := atI_nat (j := 0) (by rw [hx1]; rfl)) (v := .int x1) ?_
      exact ⟨_, rfl, r, _, rfl, hp.seek, _, rfl, r, _, rfl, hp.empty, _, rfl, r, _, rfl, hp.strange, _, rfl, r, _, rfl, hp.pause, rfl, rfl, ok_le (by simp), go [.int x1] (by rw [hx1]; rfl)⟩
    · obtain ⟨x1, x2, hx1⟩ : ∃ x y, p.rooms = [x, y] := len2 c
      refine ⟨_, rfl, _, _, rfl, .inl (.inl (.inl hp.hr)), rfl, _, rfl, noo (by rw [List.length_map, c]; rfl) ?_⟩
      dsimp only [tNext]
      refine ⟨_, rfl, _, _, rfl, .inl (.inl (.inl hp.hr)), rfl, _, rfl, yes (by rw [List.length_map, c]; rfl) ?_⟩
      refine ixC hp.hr (e := atI_nat (j := 0) (by rw [hx1]; rfl)) (v := .int x1) ?_
      refine ixC hp.hr (e := atI_nat (j := 1) (by rw [hx1]; rfl)) (v := .int x2) ?_
      exact ⟨_, rfl, r, _, rfl, hp.pause, _, rfl, r, _, rfl, hp.strange, _, rfl, r, _, rfl, hp.empty, _, rfl, r, _, rfl, hp.seek, rfl, rfl, ok_le (by simp), go [.int x1, .int x2] (by rw [hx1]; rfl)⟩
def sp_mkPlant (K : PySem.W.Frag) : Sp := fun vs H Q _ => ∃ (r lb ls tp lw lr : Addr) (p : Plan), vs = [.ref r] ∧ LPlan K H r lb ls tp lw lr p ∧ Drawn p ∧ ∀ x H', Same H H' → H x = none → PlantAt K H' (.ref x) p → Q (.ref x) H'
theorem sc__law_made_plant : FnScope ["_law_plan"] ["_law_plan"] (defScope s__law_made_plant) := ⟨rfl, rfl, rfl, by decide +kernel, rfl, by decide +kernel, by decide +kernel⟩
theorem Txt.b__law_made_plant (T : Txt w K mg) : Binds K (fdA K (He.ga K "_law_made_plant")) ["_law_plan"] [] := T.F__law_made_plant.binds fun _ _ _ _ _ _ us hl => match us, hl with | [_], _ => rfl
theorem ok__law_made_plant (T : Txt w K mg) : FnOk P w K mg base CX0 6 (He.ga K "_law_made_plant") (fdA K (He.ga K "_law_made_plant")) ["_law_plan"] (sp_mkPlant K) := by
  refine T.F__law_made_plant.ok sc__law_made_plant (fun vs H Q E h => ?_) (fun cdv A outer s H vs Q E hr h => ?_)
  · obtain ⟨r, lb, ls, tp, lw, lr, p, rfl, _⟩ := h
    rfl
  · obtain ⟨r, lb, ls, tp, lw, lr, p, rfl, hp, dp, k⟩ := h
    refine ⟨_, (pss_one (ps_ret (pe_make T.mk_Plant (ok_Plant___init__ T) (hr.mono (by decide)) (by rfl) T.g_Plant T.b_Plant___init__ .nil pass0 (pa_cons (pe_call (ok__law_made_line T) (hr.mono (by decide)) (by rfl) T.g__law_made_line T.D__law_made_line.kp T.b__law_made_line .nil pass0 (pa_cons (pv 0) pa_nil)) (pa_cons (pe_call (ok__law_made_tracker T) (hr.mono (by decide)) (by rfl) T.g__law_made_tracker T.D__law_made_tracker.kp T.b__law_made_tracker .nil pass0 (pa_cons (pv 0) pa_nil)) pa_nil))))), ?_⟩
    refine ⟨_, rfl, r, lb, ls, tp, lw, lr, p, rfl, hp, dp, fun x1 H1 z1 hx1 h1 => ?_⟩
    refine ⟨_, rfl, r, lb, ls, tp, lw, lr, p, rfl, hp.mono z1, dp, fun x2 H2 z2 hx2 h2 => ?_⟩
    refine fun x dx hx hdx hne => ?_
    have z3 := Same.up (o := .own x) hdx
    have hx4 : upd H2 dx (HO.own x) x = none := by
      rw [upd_ne (Ne.symm hne)]
      exact hx
    have z4 := Same.up (o := .ins (He.ga K "Plant") dx []) hx4
    refine ⟨x, dx, x1, x2, p, rfl, upd_same, (h1.mono z2).mono (z3.trans z4), h2.mono (z3.trans z4), dp.ok, fun H5 sx h5 => ⟨rfl, ?_⟩⟩
    have z5 : Same H2 H5 := fun b o hb => sx b o (ne_of_none (z3 _ _ hb) hx4) (z4 _ _ (z3 _ _ hb))
    exact k x H5 (z1.trans (z2.trans z5)) (none_back (z1.trans z2) hx) ⟨x, dx, x1, x2, rfl, h5, (h1.mono z2).mono z5, h2.mono z5⟩
end
end Ow
set_option Elab.async false
set_option linter.all false
set_option maxRecDepth 100000
set_option maxHeartbeats 4000000
namespace Ow
open PySem PySem.Spec PyProof.Rows L2
section
variable {P : Program} {w : World} {K : PySem.W.Frag} {mg : Str → Option Value} {base : Heap}
/-! ### the law's own run -/
def runK (lb lq ls le : Addr) (lr : LR) : List (Key × V) := [(.inr "belts", .ref lb), (.inr "queues", .ref lq), (.inr "swap", oV lr.swap), (.inr "slips", .ref ls), (.inr "since", .int lr.since), (.inr "came", .int lr.came), (.inr "sent", .ref le)]
theorem runK_nodup {lb lq ls le : Addr} {lr : LR} : ((([] : List (Key × V)) ++ runK lb lq ls le lr).map (fun x => x.1)).Nodup := by
  show ([.inr "belts", .inr "queues", .inr "swap", .inr "slips", .inr "since", .inr "came", .inr "sent"] : List Key).Nodup
  decide +kernel
def SentL (K : PySem.W.Frag) (H : Hp) (v : V) (q : Int × Option Int) : Prop := ∃ t, v = .ref t ∧ SqT K H t [.int q.1, oV q.2]
def IntsAt (H : Hp) (a : Addr) (xs : List Int) : Prop := H a = some (.lst (xs.map V.int))
def OptsAt (H : Hp) (a : Addr) (xs : List (Option Int)) : Prop := H a = some (.lst (xs.map oV))
structure LRun (K : PySem.W.Frag) (b lc : Addr) (H0 H : Hp) (r lb : Addr) (bs : List Addr) (lq : Addr) (qs : List Addr) (ls le : Addr) (sv : List V) (lr : LR) : Prop where
  g0 : BagAt K H0 b lc
  x : BX K b lc H0 H
  at_ : H r = some (.dK (runK lb lq ls le lr))
  hb : H lb = some (.lst (bs.map V.ref))
  bb : All2 (IntsAt H) bs lr.belts
  hq : H lq = some (.lst (qs.map V.ref))
  qq : All2 (OptsAt H) qs lr.queues
  hs : H ls = some (.lst (lr.slips.map V.int))
  he : H le = some (.lst sv)
  ee : All2 (SentL K H) sv lr.sent
  nd : (ls :: lb :: lq :: le :: (bs ++ qs)).Nodup
  off : ∀ a ∈ r :: ls :: lb :: lq :: le :: (bs ++ qs), H0 a = none
variable {b lc r lb lq ls le : Addr} {H0 H H' : Hp} {bs qs : List Addr} {sv : List V} {lr : LR}
theorem LRun.ne (h : LRun K b lc H0 H r lb bs lq qs ls le sv lr) {a : Addr} (ha : a ∈ r :: ls :: lb :: lq :: le :: (bs ++ qs)) : a ≠ b := by
  obtain ⟨xs, hx⟩ := h.g0.lt
  rintro rfl
  cases hx.symm.trans (h.off _ ha)
theorem SentL.ts {v : V} {q : Int × Option Int} (t : TupS K H H') (h : SentL K H v q) : SentL K H' v q := let ⟨a, e, z⟩ := h; ⟨a, e, t _ _ z⟩
theorem All2.impM {α β : Type} {R S : α → β → Prop} : ∀ {l : List α} {m : List β}, (∀ a b, a ∈ l → R a b → S a b) → All2 R l m → All2 S l m
  | _, _, _, .nil => .nil
  | _, _, f, .cons r t => .cons (f _ _ List.mem_cons_self r) (t.impM fun a b h => f a b (List.mem_cons_of_mem _ h))
/-- the bag is drawn from, new objects are made -/
theorem LRun.bx (h : LRun K b lc H0 H r lb bs lq qs ls le sv lr) (e : BX K b lc H H') : LRun K b lc H0 H' r lb bs lq qs ls le sv lr where
  g0 := h.g0
  x := h.x.trans e
  at_ := e.get (h.ne (by simp)) h.at_
  hb := e.get (h.ne (by simp)) h.hb
  bb := h.bb.impM fun a xs ha q => e.get (h.ne (by simp [ha])) q
  hq := e.get (h.ne (by simp)) h.hq
  qq := h.qq.impM fun a xs ha q => e.get (h.ne (by simp [ha])) q
  hs := e.get (h.ne (by simp)) h.hs
  he := e.get (h.ne (by simp)) h.he
  ee := h.ee.imp fun _ _ => SentL.ts e.t
  nd := h.nd
  off := h.off
theorem LRun.up (h : LRun K b lc H0 H r lb bs lq qs ls le sv lr) (e : Same H H') : LRun K b lc H0 H' r lb bs lq qs ls le sv lr := h.bx ((BX.refl h.x.g).up e)
section
theorem LRun.belts (h : LRun K b lc H0 H r lb bs lq qs ls le sv lr) : DGet H r (.str "belts") (some (.ref lb)) := dget_at (i := 0) h.at_ runK_nodup rfl
theorem LRun.queues (h : LRun K b lc H0 H r lb bs lq qs ls le sv lr) : DGet H r (.str "queues") (some (.ref lq)) := dget_at (i := 1) h.at_ runK_nodup rfl
theorem LRun.swap (h : LRun K b lc H0 H r lb bs lq qs ls le sv lr) : DGet H r (.str "swap") (some (oV lr.swap)) := dget_at (i := 2) h.at_ runK_nodup rfl
theorem LRun.slips (h : LRun K b lc H0 H r lb bs lq qs ls le sv lr) : DGet H r (.str "slips") (some (.ref ls)) := dget_at (i := 3) h.at_ runK_nodup rfl
theorem LRun.since (h : LRun K b lc H0 H r lb bs lq qs ls le sv lr) : DGet H r (.str "since") (some (.int lr.since)) := dget_at (i := 4) h.at_ runK_nodup rfl
theorem LRun.came (h : LRun K b lc H0 H r lb bs lq qs ls le sv lr) : DGet H r (.str "came") (some (.int lr.came)) := dget_at (i := 5) h.at_ runK_nodup rfl
theorem LRun.sent (h : LRun K b lc H0 H r lb bs lq qs ls le sv lr) : DGet H r (.str "sent") (some (.ref le)) := dget_at (i := 6) h.at_ runK_nodup rfl
end
/-- [[] for k in range(m)] -/
theorem emptiesE {σ : L2.St} {H1 : Hp} {D : Addr} {Qd : Hp → Prop} {m j : Nat} {vs : List Nat} (hm : m ≤ 3) (hD : H1 D = none) (hj : ∀ x, wipe (List.set (wipe σ vs) j (some x)) vs = wipe σ vs)
    (k : ∀ (as : List Addr) H, Same H1 H → H D = some (.lst (as.map V.ref)) → as.length = m → (∀ a ∈ as, H a = some (.lst []) ∧ H1 a = none ∧ a ≠ D) → as.Nodup → Qd H) :
    ∃ W : Nat → Nat → Hp → Prop, (∃ m', W 0 m' (upd H1 D (.lst []))) ∧ ∀ i m' H, W i m' H →
      ((Itr 0 m).stop i H ∧ Qd H) ∨ ((Itr 0 m).go i H ∧ ∃ Nx : Hp → Prop, (∀ H', Nx H' → ∃ m'', m'' < m' ∧ W (i + 1) m'' H') ∧ ∀ x H', (Itr 0 m).yld i H x H' → gName j x (wipe σ vs) H' fun σ2 H2 => wipe σ2 vs = wipe σ vs ∧ tYes σ2 H2 fun b H3 =>
        if b = true then tLst tNil σ2 H3 fun y H4 => ∃ acc, H4 D = some (.lst acc) ∧ acc.length < sizeLine ∧ Nx (upd H4 D (.lst (acc ++ [y]))) else Nx H3) := by
  refine lc_it walk_range (fun i H => Same H1 H ∧ ∃ as : List Addr, H D = some (.lst (as.map V.ref)) ∧ as.length = i ∧ (∀ a ∈ as, H a = some (.lst []) ∧ H1 a = none ∧ a ≠ D) ∧ as.Nodup) ⟨Same.put (Same.refl H1) hD, [], upd_same, rfl, ⟨fun a h => absurd h List.not_mem_nil, List.nodup_nil⟩⟩ (fun _ _ _ _ => trivial) ?_ ?_
  · rintro i x H2 H3 hi ⟨e, as, ha, hl, hz, hn⟩ ⟨rfl, rfl⟩
    refine ⟨hj _, ?_⟩
    refine ⟨ok_le (by simp), fun a hna => ?_⟩
    have z := Same.up (o := .lst []) hna
    have hDa : D ≠ a := ne_of_none ha hna
    have haD := z _ _ ha
    refine ⟨_, haD, by rw [List.length_map, hl]; exact Nat.lt_of_lt_of_le hi (Nat.le_trans hm (by decide)), fun b o hb => ?_, as ++ [a], ?_, ?_, fun c hc => ?_, ?_⟩
    · rw [upd_ne (ne_of_none hb hD)]
      exact z _ _ (e _ _ hb)
    · rw [upd_same, List.map_append]
      rfl
    · rw [List.length_append, hl]
      rfl
    · rcases List.mem_append.mp hc with hc | hc
      · obtain ⟨h1, h2, h3⟩ := hz c hc
        refine ⟨?_, h2, h3⟩
        rw [upd_ne h3]
        exact z _ _ h1
      · obtain rfl := List.mem_singleton.mp hc
        refine ⟨?_, none_back e hna, Ne.symm hDa⟩
        rw [upd_ne (Ne.symm hDa)]
        exact upd_same
    · rw [List.nodup_append]
      refine ⟨hn, by simp, fun c hc d hd => ?_⟩
      obtain rfl := List.mem_singleton.mp hd
      rintro rfl
      cases hna.symm.trans (hz c hc).1
  · rintro H2 ⟨e, as, ha, hl, hz, hn⟩
    exact k as H2 e ha hl hz hn
def sp_begun (K : PySem.W.Frag) : Sp := fun vs H Q _ => ∃ (b lc rp lb ls tp lw lrr : Addr) (p : Plan), vs = [.ref rp] ∧ BagAt K H b lc ∧ LPlan K H rp lb ls tp lw lrr p ∧ Drawn p ∧ ∀ r lb bs lq qs ls le H', Same H H' → LRun K b lc H H' r lb bs lq qs ls le [] (LR.begun p) → Q (.ref r) H'
theorem sc__law_begun : FnScope ["_law_plan", "_law_many", "_law_k"] ["_law_plan"] (defScope s__law_begun) := ⟨rfl, rfl, rfl, by decide +kernel, rfl, by decide +kernel, by decide +kernel⟩
theorem Txt.b__law_begun (T : Txt w K mg) : Binds K (fdA K (He.ga K "_law_begun")) ["_law_plan"] [] := T.F__law_begun.binds fun _ _ _ _ _ _ us hl => match us, hl with | [_], _ => rfl
theorem ok__law_begun (T : Txt w K mg) : FnOk P w K mg base CX0 1 (He.ga K "_law_begun") (fdA K (He.ga K "_law_begun")) ["_law_plan"] (sp_begun K) := by
  refine T.F__law_begun.ok sc__law_begun (fun vs H Q E h => ?_) (fun cdv A outer s H vs Q E hr h => ?_)
  · obtain ⟨b, lc, r, lb, ls, tp, lw, lr, p, rfl, _⟩ := h
    rfl
  · obtain ⟨b, lc, rp, plb, pls, tp, lw, lrr, p, rfl, hg, hp, dp, k⟩ := h
    refine ⟨_, (pss_cons (ps_set (i := 1) sc__law_begun.nd rfl (by first | exact .inl rfl | exact .inr rfl) (pe_callB (cr_lenK (K := K)) (by rfl) T.f_len (by decide +kernel) (pa_cons (pe_dget (hu_of hr) (pv 0) pe_str (fun _ _ => rfl)) pa_nil)))
      (pss_one (ps_ret (pe_disp (pps_cons pe_str (pe_lc (own := [("_law_k", 2)]) (g := (gName 2)) rfl sc__law_begun.nd (pi_range1 (by rfl) T.f_range (pa_cons (pv 1) pa_nil)) (blkOk_by (N := ["_law_plan", "_law_many", "_law_k"]) (sc := defScope s__law_begun) (by decide +kernel)) (fun _ _ _ _ _ => (pg_name (i := 2) sc__law_begun.nd rfl (by first | exact .inl rfl | exact .inr rfl))) (fun _ _ _ _ _ => pts_nil) (fun _ _ _ _ _ => (pe_lst pa_nil))) (pps_cons pe_str (pe_lc (own := [("_law_k", 2)]) (g := (gName 2)) rfl sc__law_begun.nd (pi_range1 (by rfl) T.f_range (pa_cons (pv 1) pa_nil)) (blkOk_by (N := ["_law_plan", "_law_many", "_law_k"]) (sc := defScope s__law_begun) (by decide +kernel)) (fun _ _ _ _ _ => (pg_name (i := 2) sc__law_begun.nd rfl (by first | exact .inl rfl | exact .inr rfl))) (fun _ _ _ _ _ => pts_nil) (fun _ _ _ _ _ => (pe_lst pa_nil))) (pps_cons pe_str pe_non (pps_cons pe_str (pe_lst pa_nil) (pps_cons pe_str pe_int (pps_cons pe_str pe_int (pps_cons pe_str (pe_lst pa_nil) pps_nil))))))) (by rfl) (by rfl) (fun z => by cases z) (by decide))))), ?_⟩
    refine ⟨_, rfl, rp, _, rfl, hp.belts, _, _, rfl, .inl (.inl (.inl hp.hb)), ?_⟩
    dsimp only [gName]
    intro r hr
    dsimp only [tPairs]
    have l3 : (p.belts.map V.int).length ≤ 3 := by
      rw [List.length_map]
      rcases dp.nb with h | h <;> omega
    have z0 := Same.up (o := .dK []) hr
    refine ⟨_, rfl, _, rfl, by omega, by omega, fun lb hlb => ?_⟩
    refine emptiesE (by omega) hlb (fun _ => rfl) fun bs H1 z1 hb1 hbl hbz hbn => ?_
    refine ⟨_, rfl, _, rfl, by omega, by omega, fun lq hlq => ?_⟩
    refine emptiesE (by omega) hlq (fun _ => rfl) fun qs H2 z2 hq2 hql hqz hqn => ?_
    refine ⟨ok_le (by simp), fun ls hls => ?_⟩
    have z3 := Same.up (o := .lst []) hls
    refine ⟨ok_le (by simp), fun le hle => ?_⟩
    have z4 := Same.up (o := .lst []) hle
    have z24 := z3.trans z4
    have hb4 := z24 _ _ (z2 _ _ hb1)
    have hq4 := z24 _ _ hq2
    have hle4 : upd (upd H2 ls (.lst [])) le (.lst []) le = some (.lst []) := upd_same
    have hls4 := z4 _ _ (upd_same (H := H2) (a := ls) (o := .lst []))
    have s1 : ∀ a ∈ bs, H1 a = some (.lst []) := fun a h => (hbz a h).1
    have hr4 : upd (upd H2 ls (.lst [])) le (.lst []) r = some (.dK []) := z24 _ _ (z2 _ _ (z1 _ _ upd_same))
    have bb4 : ∀ a ∈ bs, upd (upd H2 ls (.lst [])) le (.lst []) a = some (.lst []) := fun a h => z24 _ _ (z2 _ _ (s1 a h))
    have qq4 : ∀ a ∈ qs, upd (upd H2 ls (.lst [])) le (.lst []) a = some (.lst []) := fun a h => z24 _ _ (hqz a h).1
    have zz : Same H H2 := z0.trans (z1.trans z2)
    have zn : Same H (upd (upd H2 ls (.lst [])) le (.lst [])) := zz.trans z24
    have e1 : lb ≠ lq := ne_of_none hb1 hlq
    have e2 : ls ≠ le := ne_of_none (upd_same (H := H2) (a := ls) (o := .lst [])) hle
    have e3 : lb ≠ ls := ne_of_none (z2 _ _ hb1) hls
    have e4 : lq ≠ ls := ne_of_none hq2 hls
    have e5 : lb ≠ le := ne_of_none (z3 _ _ (z2 _ _ hb1)) hle
    have e6 : lq ≠ le := ne_of_none (z3 _ _ hq2) hle
    have f1 : ∀ a ∈ bs ++ qs, H2 a = some (.lst []) := fun a h => by
      rcases List.mem_append.mp h with h | h
      · exact z2 _ _ (s1 a h)
      · exact (hqz a h).1
    have nd : (ls :: lb :: lq :: le :: (bs ++ qs)).Nodup := by
      refine List.nodup_cons.mpr ⟨fun h => ?_, List.nodup_cons.mpr ⟨fun h => ?_, List.nodup_cons.mpr ⟨fun h => ?_, List.nodup_cons.mpr ⟨fun h => ?_, List.nodup_append.mpr ⟨hbn, hqn, fun a ha c hc => ?_⟩⟩⟩⟩⟩
      · rcases List.mem_cons.mp h with h | h
        · exact e3 h.symm
        rcases List.mem_cons.mp h with h | h
        · exact e4 h.symm
        rcases List.mem_cons.mp h with h | h
        · exact e2 h
        · cases hls.symm.trans (f1 _ h)
      · rcases List.mem_cons.mp h with h | h
        · exact e1 h
        rcases List.mem_cons.mp h with h | h
        · exact e5 h
        rcases List.mem_append.mp h with h | h
        · exact (hbz _ h).2.2 rfl
        · cases hb1.symm.trans (hqz _ h).2.1
      · rcases List.mem_cons.mp h with h | h
        · exact e6 h
        rcases List.mem_append.mp h with h | h
        · cases hlq.symm.trans (s1 _ h)
        · exact (hqz _ h).2.2 rfl
      · cases hle.symm.trans (z3 _ _ (f1 _ h))
      · rintro rfl
        cases (s1 _ ha).symm.trans (hqz _ hc).2.1
    have off : ∀ a ∈ r :: ls :: lb :: lq :: le :: (bs ++ qs), H a = none := fun a h => by
      rcases List.mem_cons.mp h with rfl | h
      · exact hr
      rcases List.mem_cons.mp h with rfl | h
      · exact none_back zz hls
      rcases List.mem_cons.mp h with rfl | h
      · exact none_back z0 hlb
      rcases List.mem_cons.mp h with rfl | h
      · exact none_back (z0.trans z1) hlq
      rcases List.mem_cons.mp h with rfl | h
      · exact none_back (zz.trans z3) hle
      rcases List.mem_append.mp h with h | h
      · exact none_back z0 (hbz _ h).2.1
      · exact none_back (z0.trans z1) (hqz _ h).2.1
    refine ⟨hr4, runK lb lq ls le (LR.begun p), rfl, Nat.le_of_ble_eq_true rfl, ?_⟩
    rw [merge_new _ [] runK_nodup]
    generalize upd (upd H2 ls (.lst [])) le (.lst []) = H4 at hb4 hq4 hle4 hls4 hr4 bb4 qq4 zn
    have st1 : ∀ a ys, H4 a = some (.lst ys) → upd H4 r (.dK ([] ++ runK lb lq ls le (LR.begun p))) a = some (.lst ys) := fun a ys h => by
      rw [upd_ne (fun z => by
        rw [z, hr4] at h
        cases h)]
      exact h
    have smf : Same H (upd H4 r (.dK ([] ++ runK lb lq ls le (LR.begun p)))) := fun c o hc => by
      rw [upd_ne (ne_of_none hc hr)]
      exact zn c o hc
    have allE : ∀ {S : Hp → Addr → List Int → Prop} {as : List Addr} {m : Nat}, as.length = m → (∀ a ∈ as, upd H4 r (.dK ([] ++ runK lb lq ls le (LR.begun p))) a = some (.lst [])) → All2 (IntsAt (upd H4 r (.dK ([] ++ runK lb lq ls le (LR.begun p))))) as (List.replicate m []) := fun {_ as m} hm ha => by
      subst hm
      induction as with
      | nil => exact .nil
      | cons a as ih => exact .cons (ha a List.mem_cons_self) (ih fun c hc => ha c (List.mem_cons_of_mem _ hc))
    have allO : ∀ {as : List Addr} {m : Nat}, as.length = m → (∀ a ∈ as, upd H4 r (.dK ([] ++ runK lb lq ls le (LR.begun p))) a = some (.lst [])) → All2 (OptsAt (upd H4 r (.dK ([] ++ runK lb lq ls le (LR.begun p))))) as (List.replicate m []) := fun {as m} hm ha => by
      subst hm
      induction as with
      | nil => exact .nil
      | cons a as ih => exact .cons (ha a List.mem_cons_self) (ih fun c hc => ha c (List.mem_cons_of_mem _ hc))
    have hpl : ((p.belts.map V.int).length : Int).toNat = p.n := by
      rw [List.length_map]
      rfl
    refine k r lb bs lq qs ls le _ smf ⟨hg, (BX.refl hg).up smf, upd_same, st1 _ _ hb4, ?_, st1 _ _ hq4, ?_, st1 _ _ hls4, st1 _ _ hle4, .nil, nd, off⟩
    · exact allE (S := fun _ _ _ => True) (hbl.trans hpl) fun a h => st1 _ _ (bb4 a h)
    · exact allO (hql.trans hpl) fun a h => st1 _ _ (qq4 a h)
end
end Ow
set_option Elab.async false
set_option linter.all false
set_option maxRecDepth 100000
set_option maxHeartbeats 4000000
namespace Ow
open PySem PySem.Spec PyProof.Rows L2
section
variable {P : Program} {w : World} {K : PySem.W.Frag} {mg : Str → Option Value} {base : Heap}
/-! ### data compared -/
section
variable {H : Hp}
def pdDeed (d : Deed) : PyData := .tuple (match d with
  | .come g => [.str "come", .str (gS g)]
  | .pass i g => [.str "pass", .int (i : Int), .str (gS g)]
  | .pause => [.str "pause"])
theorem dpDeed {a : Addr} {d : Deed} (h : SqT K H a (dV d)) : Dp K H (.ref a) (pdDeed d) := by
  cases d with
  | come g => exact .tup h (.cons (.str _) (.cons (.str _) .nil))
  | pass i g => exact .tup h (.cons (.str _) (.cons (.int _) (.cons (.str _) .nil)))
  | pause => exact .tup h (.cons (.str _) .nil)
theorem shaped_deed (d : Deed) : SeqAt.shaped (pdDeed d) = true := by
  cases d with
  | come g => cases g <;> decide +kernel
  | pass i g =>
    have e : SeqAt.shaped (pdDeed (.pass i g)) = SeqAt.shaped (pdDeed (.pass 0 g)) := by simp only [SeqAt.shaped, pdDeed, PyData.canLay0, PyData.canLayAll0, PyData.depth, PyData.depthAll]
    rw [e]
    cases g <;> decide +kernel
  | pause => decide +kernel
theorem eqv_pause (d : Deed) : PyData.eqv (pdDeed d) (pdDeed .pause) = decide (d = .pause) := by
  cases d with
  | come g => cases g <;> decide +kernel
  | pass i g => cases g <;> rfl
  | pause => decide +kernel
def pdBelts (b : List (List Int)) : PyData := .list (b.map fun l => .list (l.map .int))
theorem canB : ∀ b : List (List Int), PyData.canLayAll0 (b.map fun l => PyData.list (l.map .int)) = true
  | [] => by simp [PyData.canLayAll0]
  | l :: r => by
    rw [List.map_cons, PyData.canLayAll0, canB r, PyData.canLay0, Bool.and_true]
    have h := PySem.W.shaped_ints l
    exact (by simpa [PyData.canLay0] using (Bool.and_eq_true_iff.mp h).1)
theorem depI : ∀ l : List Int, PyData.depthAll (l.map PyData.int) = 0
  | [] => by simp [PyData.depthAll]
  | x :: r => by
    rw [List.map_cons, PyData.depthAll, depI r, PyData.depth]
    rfl
theorem depB : ∀ b : List (List Int), PyData.depthAll (b.map fun l => PyData.list (l.map .int)) ≤ 1
  | [] => by simp [PyData.depthAll]
  | l :: r => by
    have h := depB r
    rw [List.map_cons, PyData.depthAll, PyData.depth, depI]
    omega
theorem shaped_belts (b : List (List Int)) : SeqAt.shaped (pdBelts b) = true := by
  have h2 : PyData.depth (pdBelts b) ≤ 64 := by
    have := depB b
    unfold pdBelts
    rw [PyData.depth]
    omega
  show (PyData.canLay0 (pdBelts b) && decide (PyData.depth (pdBelts b) ≤ 64)) = true
  rw [Bool.and_eq_true]
  refine ⟨?_, decide_eq_true h2⟩
  unfold pdBelts
  rw [PyData.canLay0]
  exact canB b
theorem eqvAll_ints : ∀ l m : List Int, PyData.eqvAll (l.map PyData.int) (m.map PyData.int) = decide (l = m)
  | [], [] => by simp [PyData.eqvAll]
  | [], _ :: _ => by simp [PyData.eqvAll]
  | _ :: _, [] => by simp [PyData.eqvAll]
  | x :: l, y :: m => by
    rw [List.map_cons, List.map_cons, PyData.eqvAll, eqvAll_ints l m, PyData.eqv]
    by_cases h1 : x = y <;> by_cases h2 : l = m <;> simp [h1, h2]
theorem eqv_belts : ∀ b c : List (List Int), PyData.eqvAll (b.map fun l => PyData.list (l.map .int)) (c.map fun l => PyData.list (l.map .int)) = decide (b = c)
  | [], [] => by simp [PyData.eqvAll]
  | [], _ :: _ => by simp [PyData.eqvAll]
  | _ :: _, [] => by simp [PyData.eqvAll]
  | x :: l, y :: m => by
    rw [List.map_cons, List.map_cons, PyData.eqvAll, eqv_belts l m, PyData.eqv, eqvAll_ints]
    by_cases h1 : x = y <;> by_cases h2 : l = m <;> simp [h1, h2]
theorem dpBelts : ∀ {bs : List Addr} {b : List (List Int)}, All2 (IntsAt H) bs b → DpAll K H (bs.map V.ref) (b.map fun l => PyData.list (l.map .int))
  | _, _, .nil => .nil
  | _, _, .cons r t => .cons (.lst (.inl (.inl r)) (dpInts _)) (dpBelts t)
end
theorem dpEmpties {H : Hp} {e : Addr} (h : H e = some (.lst [])) : ∀ m : Nat, DpAll K H (List.replicate m [V.ref e]).flatten ((List.replicate m ([] : List Int)).map fun l => PyData.list (l.map .int))
  | 0 => .nil
  | m + 1 => .cons (.lst (.inl (.inl h)) .nil) (dpEmpties h m)
/-- the plan and the law's run at one heap -/
def sp_late (K : PySem.W.Frag) : Sp := fun vs H Q _ => ∃ (b lc rp plb pls tp lw lrr r lb : Addr) (bs : List Addr) (lq : Addr) (qs : List Addr) (ls le : Addr) (sv : List V) (p : Plan) (lr : LR) (H0 : Hp), vs = [.ref rp, .ref r] ∧ LPlan K H rp plb pls tp lw lrr p ∧ Drawn p ∧ LRun K b lc H0 H r lb bs lq qs ls le sv lr ∧ lr.slips.length ≤ 900 ∧
  ∀ l H', Same H H' → H' l = some (.lst ((lLate p lr).map V.int)) → Q (.ref l) H'
theorem sc__law_late_slips : FnScope ["_law_plan", "_law_run", "_law_many", "_law_flags"] ["_law_plan", "_law_run"] (defScope s__law_late_slips) := ⟨rfl, rfl, rfl, by decide +kernel, rfl, by decide +kernel, by decide +kernel⟩
theorem Txt.b__law_late_slips (T : Txt w K mg) : Binds K (fdA K (He.ga K "_law_late_slips")) ["_law_plan", "_law_run"] [] := T.F__law_late_slips.binds fun _ _ _ _ _ _ us hl => match us, hl with | [_, _], _ => rfl
theorem ok__law_late_slips (T : Txt w K mg) : FnOk P w K mg base CX0 1 (He.ga K "_law_late_slips") (fdA K (He.ga K "_law_late_slips")) ["_law_plan", "_law_run"] (sp_late K) := by
  refine T.F__law_late_slips.ok sc__law_late_slips (fun vs H Q E h => ?_) (fun cdv A outer s H vs Q E hr h => ?_)
  · obtain ⟨b, lc, rp, plb, pls, tp, lw, lrr, r, lb, bs, lq, qs, ls, le, sv, p, lr, H0, rfl, _⟩ := h
    rfl
  · obtain ⟨b, lc, rp, plb, pls, tp, lw, lrr, r, lb, bs, lq, qs, ls, le, sv, p, lr, H0, rfl, hp, dp, hR, hz, k⟩ := h
    refine ⟨_, (pss_cons (ps_set (i := 2) sc__law_late_slips.nd rfl (by first | exact .inl rfl | exact .inr rfl) (pe_op op_sub (pe_ix ix_tup (pe_dget (hu_of hr) (pv 0) pe_str (fun _ _ => rfl)) pe_int (fun _ _ => rfl)) pe_int))
      (pss_cons (ps_set (i := 3) sc__law_late_slips.nd rfl (by first | exact .inl rfl | exact .inr rfl) (pe_op op_cat (pe_op op_rep (pe_lst (pa_cons pe_int pa_nil)) (pv 2)) (pe_dget (hu_of hr) (pv 1) pe_str (fun _ _ => rfl))))
      (pss_one (ps_ret (pe_slice sl_list (pv 3) (po_some (pe_op op_sub (pe_callB (cr_lenK (K := K)) (by rfl) T.f_len (by decide +kernel) (pa_cons (pv 3) pa_nil)) (pv 2))) po_none))))), ?_⟩
    refine ⟨_, rfl, rp, _, rfl, hp.slips, _, _, _, _, rfl, rfl, hp.ht, rfl, _, _, rfl, rfl, ?_⟩
    dsimp only [gName]
    have am := dp.am
    refine ⟨ok_le (by simp), fun l1 hl1 => ⟨_, rfl, l1, _, _, rfl, rfl, upd_same, by omega, by omega, ?_, fun l2 hl2 => ?_⟩⟩
    · exact Nat.le_trans (show 1 * (p.among - 1).toNat ≤ 3 by omega) (by decide)
    have z1 := Same.up (o := .lst [V.int 0]) hl1
    have z2 := Same.up (o := .lst (List.replicate (p.among - 1).toNat [V.int 0]).flatten) hl2
    have hR2 := hR.up (z1.trans z2)
    have z12 := z1.trans z2
    have e2 := upd_same (H := upd H l1 (.lst [V.int 0])) (a := l2) (o := .lst (List.replicate (p.among - 1).toNat [V.int 0]).flatten)
    generalize upd (upd H l1 (.lst [V.int 0])) l2 (.lst (List.replicate (p.among - 1).toNat [V.int 0]).flatten) = H2 at hR2 z12 e2
    refine ⟨_, rfl, r, _, rfl, hR2.slips, ?_⟩
    have efl : (List.replicate (p.among - 1).toNat [V.int 0]).flatten ++ lr.slips.map V.int = (List.replicate (p.among - 1).toNat 0 ++ lr.slips).map V.int := by
      rw [List.map_append, List.map_replicate]
      congr 1
      generalize (p.among - 1).toNat = m
      induction m with
      | zero => rfl
      | succ m ih => rw [List.replicate_succ, List.replicate_succ, List.flatten_cons, ih]; rfl
    have flen : (List.replicate (p.among - 1).toNat (0 : Int) ++ lr.slips).length ≤ 903 := by
      rw [List.length_append, List.length_replicate]
      omega
    refine ⟨l2, ls, _, _, rfl, rfl, e2, hR2.hs, ?_, fun l3 hl3 => ?_⟩
    · rw [← List.length_append, efl, List.length_map]
      exact Nat.le_trans flen (by decide)
    rw [efl]
    have z3 := Same.up (o := .lst ((List.replicate (p.among - 1).toNat 0 ++ lr.slips).map V.int)) hl3
    dsimp only [gName]
    refine ⟨_, rfl, _, rfl, _, _, rfl, .inl (.inl (.inl upd_same)), _, rfl, _, _, rfl, rfl, _, rfl, ?_⟩
    refine ⟨l3, _, rfl, .inl (.inl upd_same), fun l4 hl4 => ?_⟩
    have z4 := Same.up (o := .lst ((lLate p lr).map V.int)) hl4
    have ek : ((((List.replicate (p.among - 1).toNat 0 ++ lr.slips).map V.int).length : Nat) : Int) - (p.among - 1) = (((List.replicate (p.among - 1).toNat (0 : Int) ++ lr.slips).length - (p.among - 1).toNat : Nat) : Int) := by
      rw [List.length_map, List.length_append, List.length_replicate]
      omega
    have ec : cutV ((List.replicate (p.among - 1).toNat 0 ++ lr.slips).map V.int) (some (((((List.replicate (p.among - 1).toNat 0 ++ lr.slips).map V.int).length : Nat) : Int) - (p.among - 1))) none = (lLate p lr).map V.int := by
      rw [ek, cutDrop, ← List.map_drop]
      rfl
    refine k l4 _ (z12.trans (z3.trans ?_)) ?_
    · exact Same.up hl4
    · rw [upd_same]
      exact congrArg (fun l => some (HO.lst l)) ec
theorem intsGet {H : Hp} {bs : List Addr} {xss : List (List Int)} {j : Nat} (h : All2 (IntsAt H) bs xss) (hj : j < xss.length) : ∃ a, bs[j]? = some a ∧ H a = some (.lst ((xss.getD j []).map V.int)) := by
  have e : xss[j]? = some (xss.getD j []) := by
    rw [List.getD_eq_getElem?_getD, List.getElem?_eq_getElem hj]
    rfl
  exact h.get e
theorem nb_t {x : Bool} (h : true = !x) : x = false := by cases x <;> first | rfl | cases h
theorem nb_f {x : Bool} (h : false = !x) : x = true := by cases x <;> first | rfl | cases h
theorem inGs {g : Sight} : ∀ ws : List Sight, inV (.str (gS g)) (gsV ws) = ws.contains g
  | [] => rfl
  | x :: r => by
    show (eqV (.str (gS x)) (.str (gS g)) || inV (.str (gS g)) (gsV r)) = _
    rw [inGs r, List.contains_cons]
    congr 1
    cases x <;> cases g <;> decide +kernel
theorem flatGs : ∀ ws : List Sight, (gsV ws).all flatV = true
  | [] => rfl
  | _ :: r => flatGs r
theorem slipT {b lc rp plb pls tp lw lrr r lb lq ls le : Addr} {bs qs : List Addr} {sv : List V} {p : Plan} {lr : LR} {H0 H1 : Hp} {g : Sight} {σ : L2.St} {Q : Bool → Hp → Prop} (h0 : σ[0]? = some (some (.ref rp))) (h1 : σ[1]? = some (some (.ref r))) (h4 : σ[4]? = some (some (.str (gS g))))
    (hp : LPlan K H1 rp plb pls tp lw lrr p) (dp : Drawn p) (hR : LRun K b lc H0 H1 r lb bs lq qs ls le sv lr) (hz : lr.slips.length ≤ 900) (k : ∀ b H', Same H1 H' → b = !lSlip p lr g → Q b H') :
    tAnd (tTest (tOp rNe (tVar 4) (tC (.str "once")))) (tOr (tTest (tOp (rIn K true) (tVar 4) (tDGet (tVar 0) (tC (.str "words"))))) (tTest (tOp (rI0 fun i j => .bl (decide (j < i))) (tOp (rI0 fun i j => .int (i + j)) (tCB (rSum K) (tCons (tCall (sp_late K) [] E0 (tCons (tVar 0) (tCons (tVar 1) tNil))) tNil)) (tC (.int 1))) (tOp (rIxT K) (tDGet (tVar 0) (tC (.str "slips"))) (tC (.int 0)))))) σ H1 Q := by
  have es : lSlip p lr g = (decide (g = .once) || !((!p.words.contains g) || decide (p.most < (lLate p lr).sum + 1))) := rfl
  refine ⟨_, h4, rfl, _, rfl, ?_⟩
  by_cases c : g = .once
  · refine noo (by rw [c]; rfl) ?_
    refine k _ _ (Same.refl _) ?_
    rw [es, decide_eq_true c]
    rfl
  · refine yes (by cases g <;> first | exact absurd rfl c | rfl) ?_
    refine ⟨_, h4, _, h0, rp, _, rfl, hp.words, lw, _, rfl, .inl (.inl (.inl hp.hw)), rfl, flatGs _, _, rfl, ?_⟩
    rw [inGs]
    by_cases c2 : p.words.contains g = true
    · refine noo (by rw [c2]; rfl) ?_
      refine ⟨_, h0, _, h1, b, lc, rp, plb, pls, tp, lw, lrr, r, lb, bs, lq, qs, ls, le, sv, p, lr, H0, rfl, hp, dp, hR, hz, fun l H2 z2 hl => ?_⟩
      refine ⟨l, _, rfl, .inl (.inl hl), _, _, rfl, rfl, _, h0, rp, _, rfl, (hp.mono z2).slips, _, _, _, .int p.most, rfl, rfl, (hp.mono z2).ht, rfl, _, _, rfl, rfl, _, rfl, ?_⟩
      refine k _ _ z2 ?_
      rw [es, decide_eq_false c, c2]
      simp
    · have c3 : p.words.contains g = false := by simpa using c2
      refine yes (by rw [c3]; rfl) ?_
      refine k _ _ (Same.refl _) ?_
      rw [es, decide_eq_false c, c3]
      rfl
def sp_can (K : PySem.W.Frag) : Sp := fun vs H Q _ => ∃ (b lc rp plb pls tp lw lrr r lb : Addr) (bs : List Addr) (lq : Addr) (qs : List Addr) (ls le : Addr) (sv : List V) (p : Plan) (lr : LR) (H0 : Hp) (bd : Addr) (d : Deed), vs = [.ref rp, .ref r, .ref bd] ∧ LPlan K H rp plb pls tp lw lrr p ∧ Drawn p ∧ LRun K b lc H0 H r lb bs lq qs ls le sv lr ∧ lr.slips.length ≤ 900 ∧
  SqT K H bd (dV d) ∧ inRange p d = true ∧ lr.belts.length = p.n ∧ ∀ H', Same H H' → Q (.bl (lCan p lr d)) H'
theorem sc__law_can : FnScope ["_law_plan", "_law_run", "_law_deed", "_law_belts", "_law_sight", "_law_bound", "_law_at"] ["_law_plan", "_law_run", "_law_deed"] (defScope s__law_can) := ⟨rfl, rfl, rfl, by decide +kernel, rfl, by decide +kernel, by decide +kernel⟩
theorem Txt.b__law_can (T : Txt w K mg) : Binds K (fdA K (He.ga K "_law_can")) ["_law_plan", "_law_run", "_law_deed"] [] := T.F__law_can.binds fun _ _ _ _ _ _ us hl => match us, hl with | [_, _, _], _ => rfl
theorem ok__law_can (T : Txt w K mg) : FnOk P w K mg base CX0 3 (He.ga K "_law_can") (fdA K (He.ga K "_law_can")) ["_law_plan", "_law_run", "_law_deed"] (sp_can K) := by
  refine T.F__law_can.ok sc__law_can (fun vs H Q E h => ?_) (fun cdv A outer s H vs Q E hr h => ?_)
  · obtain ⟨b, lc, rp, plb, pls, tp, lw, lrr, r, lb, bs, lq, qs, ls, le, sv, p, lr, H0, bd, d, rfl, _⟩ := h
    rfl
  · obtain ⟨b, lc, rp, plb, pls, tp, lw, lrr, r, lb, bs, lq, qs, ls, le, sv, p, lr, H0, bd, d, rfl, hp, dp, hR, hz, hd, hin, hlb, k⟩ := h
    refine ⟨_, (pss_cons (ps_set (i := 3) sc__law_can.nd rfl (by first | exact .inl rfl | exact .inr rfl) (pe_dget (hu_of hr) (pv 1) pe_str (fun _ _ => rfl)))
      (pss_cons (ps_if (pt_cmpR (op_eqD hr.units) (pv 2) (pe_tup (pa_cons pe_str pa_nil)) (nomark _)) (pss_one (ps_ret (pe_and (pe_cmpR (op_eqD hr.units) (pv 3) (pe_op op_rep (pe_lst (pa_cons (pe_lst pa_nil) pa_nil)) (pe_callB (cr_lenK (K := K)) (by rfl) T.f_len (by decide +kernel) (pa_cons (pv 3) pa_nil))) (nomark _)) (pe_and (pe_cmpR op_isN (pe_dget (hu_of hr) (pv 1) pe_str (fun _ _ => rfl)) pe_non (nomark _)) (pe_one (pe_cmpR op_gt (pe_dget (hu_of hr) (pv 1) pe_str (fun _ _ => rfl)) pe_int (nomark _))))))) pss_nil)
      (pss_cons (ps_set (i := 4) sc__law_can.nd rfl (by first | exact .inl rfl | exact .inr rfl) (pe_ix ix_tup (pv 2) (pe_op op_sub (pe_callB (cr_lenK (K := K)) (by rfl) T.f_len (by decide +kernel) (pa_cons (pv 2) pa_nil)) pe_int) (fun _ _ => rfl)))
      (pss_cons (ps_if (PW.pt (pw_and (pt_cmpR op_ne (pv 4) pe_str (nomark _)) (pw_and1 (PW.pt (pw_or (pt_cmpR op_notIn_seq (pv 4) (pe_dget (hu_of hr) (pv 0) pe_str (fun _ _ => rfl)) (by rfl)) (pw_or1 (pt_cmpR op_gt (pe_op op_add (pe_callB (cr_sum rfl) (by rfl) T.f_sum (by decide +kernel) (pa_cons (pe_call (ok__law_late_slips T) (hr.mono (by decide)) (by rfl) T.g__law_late_slips T.D__law_late_slips.kp T.b__law_late_slips .nil pass0 (pa_cons (pv 0) (pa_cons (pv 1) pa_nil))) pa_nil)) pe_int) (pe_ix ix_tup (pe_dget (hu_of hr) (pv 0) pe_str (fun _ _ => rfl)) pe_int (fun _ _ => rfl)) (nomark _)))))))) (pss_one (ps_ret pe_bl)) pss_nil)
      (pss_cons (ps_if (pt_cmpR op_eq (pe_ix ix_tup (pv 2) pe_int (fun _ _ => rfl)) pe_str (nomark _)) (pss_cons (ps_if (PW.pt (pw_and (pt_cmpR op_notN (pe_dget (hu_of hr) (pv 1) pe_str (fun _ _ => rfl)) pe_non (nomark _)) (pw_and1 (pt_cmpR op_ne (pv 4) pe_str (nomark _))))) (pss_one (ps_ret pe_bl)) pss_nil)
        (pss_cons (ps_if (pt_cmpR op_eq (pe_callB (cr_lenK (K := K)) (by rfl) T.f_len (by decide +kernel) (pa_cons (pe_ix ix_list (pv 3) pe_int (fun _ _ => rfl)) pa_nil)) (pe_ix ix_list (pe_dget (hu_of hr) (pv 0) pe_str (fun _ _ => rfl)) pe_int (fun _ _ => rfl)) (nomark _)) (pss_one (ps_ret pe_bl)) pss_nil)
        (pss_cons (ps_set (i := 5) sc__law_can.nd rfl (by first | exact .inl rfl | exact .inr rfl) (pe_dget (hu_of hr) (pv 0) pe_str (fun _ _ => rfl)))
        (pss_one (ps_ret (pe_or (pe_cmpR op_isN (pv 5) pe_non (nomark _)) (pe_or (pe_cmpR op_notN (pe_dget (hu_of hr) (pv 1) pe_str (fun _ _ => rfl)) pe_non (nomark _)) (pe_one (pe_cmpR op_lt (pe_dget (hu_of hr) (pv 1) pe_str (fun _ _ => rfl)) (pv 5) (nomark _)))))))))) pss_nil)
      (pss_cons (ps_set (i := 6) sc__law_can.nd rfl (by first | exact .inl rfl | exact .inr rfl) (pe_ix ix_tup (pv 2) pe_int (fun _ _ => rfl)))
      (pss_cons (ps_if (PW.pt (pw_or (pt_cmpR op_eq (pv 4) pe_str (nomark _)) (pw_or1 (pt_cmpR (op_eqD hr.units) (pe_ix ix_list (pv 3) (pe_op op_sub (pv 6) pe_int) (fun _ _ => rfl)) (pe_lst pa_nil) (nomark _))))) (pss_one (ps_ret pe_bl)) pss_nil)
      (pss_one (ps_ret (pe_or (pe_cmpR op_eq (pv 6) (pe_callB (cr_lenK (K := K)) (by rfl) T.f_len (by decide +kernel) (pa_cons (pv 3) pa_nil)) (nomark _)) (pe_one (pe_cmpR op_lt (pe_callB (cr_lenK (K := K)) (by rfl) T.f_len (by decide +kernel) (pa_cons (pe_ix ix_list (pv 3) (pv 6) (fun _ _ => rfl)) pa_nil)) (pe_ix ix_list (pe_dget (hu_of hr) (pv 0) pe_str (fun _ _ => rfl)) (pv 6) (fun _ _ => rfl)) (nomark _))))))))))))), ?_⟩
    refine ⟨_, rfl, r, _, rfl, hR.belts, ?_⟩
    dsimp only [gName]
    have hRb := hR.hb
    have lbs := hR.bb.length
    have b2 : lr.belts.length ≤ 2 := by
      rcases dp.nb with h | h
      · rw [hlb]
        show p.belts.length ≤ 2
        omega
      · rw [hlb]
        show p.belts.length ≤ 2
        omega
    refine ⟨_, rfl, ok_le (by simp), fun tq htq => ?_⟩
    have z1 := Same.up (o := .tup [V.str "pause"]) htq
    refine ⟨_, _, dpDeed (Same.seqT z1 hd), dpDeed (d := .pause) newT, shaped_deed d, shaped_deed .pause, _, rfl, ?_⟩
    rw [eqv_pause]
    have hR1 := hR.up z1
    have hp1 := hp.mono z1
    have hd1 := Same.seqT z1 hd
    generalize upd H tq (.tup [V.str "pause"]) = H1 at z1 hR1 hp1 hd1
    by_cases c0 : d = .pause
    · subst c0
      refine yes (decide_eq_true rfl) ?_
      refine ⟨_, rfl, ok_le (by simp), fun e1 he1 => ⟨ok_le (by simp), fun e2 he2 => ?_⟩⟩
      have y1 := Same.up (o := .lst []) he1
      have y2 := Same.up (o := .lst [V.ref e1]) he2
      have hR2 := hR1.up (y1.trans y2)
      refine ⟨_, rfl, _, _, rfl, .inl (.inl (.inl hR2.hb)), e2, _, _, rfl, rfl, upd_same, by omega, ?_, ?_, fun e3 he3 => ?_⟩
      · rw [List.length_map]
        omega
      · rw [List.length_map]
        exact Nat.le_trans (show 1 * bs.length ≤ 2 by omega) (by decide)
      have y3 := Same.up (o := .lst (List.replicate (((bs.map V.ref).length : Nat) : Int).toNat [V.ref e1]).flatten) he3
      have hR3 := hR2.up y3
      have hE := y3 _ _ (y2 _ _ (upd_same (H := H1) (a := e1) (o := .lst [])))
      have zz := z1.trans (y1.trans (y2.trans y3))
      refine ⟨pdBelts lr.belts, pdBelts (List.replicate (((bs.map V.ref).length : Nat) : Int).toNat []), .lst (.inl (.inl hR3.hb)) (dpBelts hR3.bb), .lst (.inl (.inl upd_same)) (dpEmpties hE _), shaped_belts _, shaped_belts _, ?_⟩
      have ep : PyData.eqv (pdBelts lr.belts) (pdBelts (List.replicate (((bs.map V.ref).length : Nat) : Int).toNat [])) = decide (lr.belts = List.replicate lr.belts.length []) := by
        unfold pdBelts
        rw [PyData.eqv, eqv_belts, List.length_map, lbs]
        rfl
      rw [ep]
      generalize upd (upd (upd H1 e1 (.lst [])) e2 (.lst [V.ref e1])) e3 (.lst (List.replicate (((bs.map V.ref).length : Nat) : Int).toNat [V.ref e1]).flatten) = H3 at hR3 zz
      have kk := k H3 zz
      have el : lCan p lr .pause = (decide (lr.belts = List.replicate lr.belts.length []) && (decide (lr.swap = none) && decide (0 < lr.since))) := rfl
      rw [el] at kk
      refine ⟨_, rfl, ?_⟩
      by_cases a1 : lr.belts = List.replicate lr.belts.length []
      · rw [decide_eq_true a1, Bool.true_and] at kk
        refine yes (decide_eq_true a1) ?_
        refine ⟨_, rfl, r, _, rfl, hR3.swap, rfl, _, rfl, ?_⟩
        have es : decide (oV lr.swap = V.non) = decide (lr.swap = none) := by cases lr.swap <;> rfl
        rw [es]
        by_cases a2 : lr.swap = none
        · rw [decide_eq_true a2, Bool.true_and] at kk
          refine yes (decide_eq_true a2) ?_
          exact ⟨_, rfl, r, _, rfl, hR3.since, _, _, rfl, rfl, kk⟩
        · rw [decide_eq_false a2, Bool.false_and] at kk
          exact noo (decide_eq_false a2) kk
      · rw [decide_eq_false a1, Bool.false_and] at kk
        exact noo (decide_eq_false a1) kk
    · refine noo (decide_eq_false c0) ?_
      dsimp only [tNext]
      have hn : ∀ H', Same H H' → (lCan p lr d = false) → Q (.bl false) H' := fun H' z e => by
        have := k H' z
        rw [e] at this
        exact this
      cases d with
      | pause => exact absurd rfl c0
      | come g =>
        refine ⟨_, rfl, _, rfl, _, _, rfl, .inr hd1, _, _, rfl, rfl, _, _, _, .str (gS g), rfl, rfl, hd1, rfl, ?_⟩
        dsimp only [gName]
        refine slipT (g := g) rfl rfl rfl hp1 dp hR1 hz fun b1 H2 z2 eb => ?_
        have hR2 := hR1.up z2
        have hp2 := hp1.mono z2
        have hd2 := Same.seqT z2 hd1
        have z12 := z1.trans z2
        have ec : lCan p lr (.come g) = (lSlip p lr g && (!(!decide (lr.swap = none) && !decide (g = .once)) && (!decide (((lr.belts.getD 0 []).length : Int) = p.belts.getD 0 0) &&
            ((match p.stretch with
              | none => true
              | some k => !decide (lr.swap = none) || decide (lr.since < k)))))) := rfl
        cases b1 with
        | true =>
          refine yes rfl ?_
          refine hn _ z12 ?_
          rw [ec, nb_t eb]
          rfl
        | false =>
          refine noo rfl ?_
          have hs1 : lSlip p lr g = true := nb_f eb
          dsimp only [tNext]
          refine ⟨_, rfl, _, _, _, .str "come", rfl, rfl, hd2, rfl, rfl, _, rfl, yes rfl ?_⟩
          rw [hs1, Bool.true_and] at ec
          have esw : decide (oV lr.swap = V.non) = decide (lr.swap = none) := by cases lr.swap <;> rfl
          dsimp only [tSeq, tIfS]
          refine testE (M := fun c H' => H2 = H' ∧ c = (!decide (lr.swap = none) && !decide (g = .once))) (fun N2 kN2 => ?_) ?_
          · refine ⟨_, rfl, r, _, rfl, hR2.swap, rfl, _, rfl, ?_⟩
            rw [esw]
            by_cases a2 : lr.swap = none
            · refine noo (by rw [decide_eq_true a2]; rfl) (kN2 _ _ ⟨rfl, by rw [decide_eq_true a2]; rfl⟩)
            · refine yes (by rw [decide_eq_false a2]; rfl) ⟨_, rfl, rfl, _, rfl, kN2 _ _ ⟨rfl, ?_⟩⟩
              rw [decide_eq_false a2]
              cases g <;> rfl
          rintro c _ ⟨rfl, ec2⟩
          rw [← ec2] at ec
          cases c with
          | true =>
            refine yes rfl ?_
            exact hn _ z12 ec
          | false =>
            refine noo rfl ?_
            dsimp only [tNext]
            have ec3 : lCan p lr (.come g) = (!decide (((lr.belts.getD 0 []).length : Int) = p.belts.getD 0 0) &&
              ((match p.stretch with
                | none => true
                | some k => !decide (lr.swap = none) || decide (lr.since < k)))) := ec
            have n0 : 0 < lr.belts.length := by
              rw [hlb]
              exact dp.ok.nb.1
            obtain ⟨a0, ha0, hb0⟩ := intsGet hR2.bb n0
            refine ⟨_, rfl, _, _, _, .ref a0, rfl, rfl, .inl (.inl hR2.hb), atI_nat (j := 0) (by rw [List.getElem?_map, ha0]; rfl), _, _, rfl, .inl (.inl (.inl hb0)), _, rfl, rp, _, rfl, hp2.belts, _, _, _, .int (p.belts.getD 0 0), rfl, rfl, .inl (.inl hp2.hb), atI_nat (j := 0) (getI dp.ok.nb.1), rfl, _, rfl, ?_⟩
            rw [List.length_map]
            by_cases a3 : ((lr.belts.getD 0 []).length : Int) = p.belts.getD 0 0
            · rw [decide_eq_true a3] at ec3
              exact yes (decide_eq_true (by rw [a3])) (hn _ z12 ec3)
            · rw [decide_eq_false a3] at ec3
              refine noo (decide_eq_false fun z => a3 (V.int.inj z)) ?_
              refine ⟨_, rfl, rp, _, rfl, hp2.stretch, ?_⟩
              dsimp only [gName]
              cases hst : p.stretch with
              | none =>
                rw [hst] at ec3
                refine ⟨_, rfl, rfl, _, rfl, yes rfl ?_⟩
                have := k _ z12
                rw [ec3] at this
                exact this
              | some kk =>
                rw [hst] at ec3
                refine ⟨_, rfl, rfl, _, rfl, noo rfl ?_⟩
                refine ⟨_, rfl, r, _, rfl, hR2.swap, rfl, _, rfl, ?_⟩
                rw [esw]
                have kq := k _ z12
                rw [ec3] at kq
                by_cases a2 : lr.swap = none
                · rw [decide_eq_true a2] at kq
                  refine noo (by rw [decide_eq_true a2]; rfl) ?_
                  exact ⟨_, rfl, r, _, rfl, hR2.since, _, rfl, _, _, rfl, rfl, kq⟩
                · rw [decide_eq_false a2] at kq
                  exact yes (by rw [decide_eq_false a2]; rfl) kq
      | pass i g =>
        refine ⟨_, rfl, _, rfl, _, _, rfl, .inr hd1, _, _, rfl, rfl, _, _, _, .str (gS g), rfl, rfl, hd1, rfl, ?_⟩
        dsimp only [gName]
        have hi : 1 ≤ i ∧ i ≤ p.n := by
          have h2 : (decide (1 ≤ i) && decide (i ≤ p.n)) = true := hin
          obtain ⟨h3, h4⟩ := Bool.and_eq_true_iff.mp h2
          exact ⟨of_decide_eq_true h3, of_decide_eq_true h4⟩
        refine slipT (g := g) rfl rfl rfl hp1 dp hR1 hz fun b1 H2 z2 eb => ?_
        have hR2 := hR1.up z2
        have hp2 := hp1.mono z2
        have hd2 := Same.seqT z2 hd1
        have z12 := z1.trans z2
        have ec : lCan p lr (.pass i g) = (lSlip p lr g && (!(decide (g = .swapped) || decide (lr.belts.getD (i - 1) [] = [])) && (decide (i = lr.belts.length) || decide (((lr.belts.getD i []).length : Int) < p.belts.getD i 0)))) := rfl
        cases b1 with
        | true =>
          refine yes rfl ?_
          refine hn _ z12 ?_
          rw [ec, nb_t eb]
          rfl
        | false =>
          refine noo rfl ?_
          rw [nb_f eb, Bool.true_and] at ec
          dsimp only [tNext]
          refine ⟨_, rfl, _, _, _, .str "pass", rfl, rfl, hd2, rfl, rfl, _, rfl, noo (by decide +kernel) ?_⟩
          dsimp only [tNext]
          refine ⟨_, rfl, _, _, _, .int (i : Int), rfl, rfl, hd2, rfl, ?_⟩
          dsimp only [gName, tSeq, tIfS]
          obtain ⟨a1, ha1, hb1⟩ := intsGet hR2.bb (j := i - 1) (by omega)
          refine testE (M := fun c H' => Same H2 H' ∧ c = (decide (g = .swapped) || decide (lr.belts.getD (i - 1) [] = []))) (fun N2 kN2 => ?_) ?_
          · refine ⟨_, rfl, rfl, _, rfl, ?_⟩
            by_cases c1 : g = .swapped
            · refine yes (by rw [c1]; rfl) (kN2 _ _ ⟨Same.refl _, by rw [decide_eq_true c1]; rfl⟩)
            · refine noo (by cases g <;> first | exact absurd rfl c1 | rfl) ?_
              refine ⟨_, rfl, _, rfl, _, _, rfl, rfl, _, _, _, .ref a1, rfl, rfl, .inl (.inl hR2.hb), atI_pred hi.1 (by rw [List.getElem?_map, ha1]; rfl), ok_le (by simp), fun t1 ht1 => ?_⟩
              have z3 := Same.up (o := .lst []) ht1
              refine ⟨.list ((lr.belts.getD (i - 1) []).map PyData.int), .list [], .lst (.inl (.inl (z3 _ _ hb1))) (dpInts _), .lst (.inl (.inl upd_same)) .nil, PySem.W.shaped_ints _, PySem.W.shaped_ints [], _, rfl, ?_⟩
              rw [eqvNil]
              refine kN2 _ _ ⟨z3, ?_⟩
              rw [decide_eq_false c1, Bool.false_or]
              cases lr.belts.getD (i - 1) [] <;> rfl
          rintro c H3 ⟨z3, ec2⟩
          rw [← ec2] at ec
          have z13 := z12.trans z3
          cases c with
          | true =>
            refine yes rfl ?_
            exact hn _ z13 ec
          | false =>
            refine noo rfl ?_
            dsimp only [tNext]
            have hR3 := hR2.up z3
            have hp3 := hp2.mono z3
            have ec3 : lCan p lr (.pass i g) = (decide (i = lr.belts.length) || decide (((lr.belts.getD i []).length : Int) < p.belts.getD i 0)) := ec
            have kq := k _ z13
            rw [ec3] at kq
            refine ⟨_, rfl, _, rfl, _, _, rfl, .inl (.inl (.inl hR3.hb)), rfl, _, rfl, ?_⟩
            rw [List.length_map, lbs]
            by_cases c1 : i = lr.belts.length
            · rw [decide_eq_true c1] at kq
              exact yes (decide_eq_true (by rw [← c1])) kq
            · rw [decide_eq_false c1, Bool.false_or] at kq
              refine noo (decide_eq_false fun z => c1 (by have := V.int.inj z; omega)) ?_
              obtain ⟨a2, ha2, hb2⟩ := intsGet hR3.bb (j := i) (by omega)
              refine ⟨_, rfl, _, rfl, _, _, _, .ref a2, rfl, rfl, .inl (.inl hR3.hb), atI_nat (by rw [List.getElem?_map, ha2]; rfl), _, _, rfl, .inl (.inl (.inl hb2)), ?_⟩
              rw [List.length_map]
              exact ⟨_, rfl, rp, _, rfl, hp3.belts, _, rfl, _, _, _, .int (p.belts.getD i 0), rfl, rfl, .inl (.inl hp3.hb), atI_nat (getI (by rw [hlb] at c1; show i < p.n; omega)), _, _, rfl, rfl, kq⟩
end
end Ow
set_option Elab.async false
set_option linter.all false
set_option maxRecDepth 100000
set_option maxHeartbeats 4000000
namespace Ow
open PySem PySem.Spec PyProof.Rows L2
section
variable {P : Program} {w : World} {K : PySem.W.Frag} {mg : Str → Option Value} {base : Heap}
/-! ### the law's run written -/
theorem putAll {α : Type} {f : α → V} {H : Hp} {a : Addr} {xs : List α} : ∀ {bs : List Addr} {xss : List (List α)} {i : Nat}, bs[i]? = some a → bs.Nodup → All2 (fun c ys => H c = some (.lst (ys.map f))) bs xss →
    All2 (fun c ys => upd H a (.lst (xs.map f)) c = some (.lst (ys.map f))) bs (xss.set i xs)
  | [], _, i, h, _, _ => by simp at h
  | c :: bs, _, 0, h, n, .cons r t => by
    cases h
    rw [List.nodup_cons] at n
    refine .cons upd_same (t.impM fun d ys hd q => ?_)
    rw [upd_ne (fun e => n.1 (by rw [← e]; exact hd))]
    exact q
  | c :: bs, _, i + 1, h, n, .cons r t => by
    rw [List.nodup_cons] at n
    have h' : bs[i]? = some a := h
    refine .cons ?_ (putAll h' n.2 t)
    show upd H a _ c = _
    rw [upd_ne (fun e => n.1 (by rw [e]; exact List.mem_of_getElem? h'))]
    exact r
theorem keepAll {α : Type} {f : α → V} {H : Hp} {a : Addr} {o : HO} {bs : List Addr} {xss : List (List α)} (h : a ∉ bs) (t : All2 (fun c ys => H c = some (.lst (ys.map f))) bs xss) : All2 (fun c ys => upd H a o c = some (.lst (ys.map f))) bs xss :=
  t.impM fun d ys hd q => by
    rw [upd_ne (fun e => h (by rw [← e]; exact hd))]
    exact q
structure Sep (ls lb lq le : Addr) (bs qs : List Addr) : Prop where
  b : bs.Nodup
  q : qs.Nodup
  bq : ∀ a ∈ bs, a ∉ qs
  bo : ∀ a ∈ bs, a ≠ ls ∧ a ≠ lb ∧ a ≠ lq ∧ a ≠ le
  qo : ∀ a ∈ qs, a ≠ ls ∧ a ≠ lb ∧ a ≠ lq ∧ a ≠ le
  o : ls ≠ lb ∧ ls ≠ lq ∧ ls ≠ le ∧ lb ≠ lq ∧ lb ≠ le ∧ lq ≠ le
theorem sep_of {ls lb lq le : Addr} {bs qs : List Addr} (n : (ls :: lb :: lq :: le :: (bs ++ qs)).Nodup) : Sep ls lb lq le bs qs := by
  rw [List.nodup_cons, List.nodup_cons, List.nodup_cons, List.nodup_cons, List.nodup_append] at n
  obtain ⟨n1, n2, n3, n4, n5, n6, n7⟩ := n
  simp only [List.mem_cons, List.mem_append, not_or] at n1 n2 n3 n4
  refine ⟨n5, n6, fun a h1 h2 => n7 a h1 a h2 rfl, fun a h => ⟨?_, ?_, ?_, ?_⟩, fun a h => ⟨?_, ?_, ?_, ?_⟩, n1.1, n1.2.1, n1.2.2.1, n2.1, n2.2.1, n3.1⟩
  · rintro rfl; exact n1.2.2.2.1 h
  · rintro rfl; exact n2.2.2.1 h
  · rintro rfl; exact n3.2.1 h
  · rintro rfl; exact n4.1 h
  · rintro rfl; exact n1.2.2.2.2 h
  · rintro rfl; exact n2.2.2.2 h
  · rintro rfl; exact n3.2.2 h
  · rintro rfl; exact n4.2 h
variable {b lc r lb lq ls le : Addr} {H0 H H' : Hp} {bs qs : List Addr} {sv : List V} {lr : LR}
theorem LRun.putB (h : LRun K b lc H0 H r lb bs lq qs ls le sv lr) {i : Nat} {a : Addr} {ys : List V} (xs : List Int) (hi : bs[i]? = some a) (ha : H a = some (.lst ys)) :
    LRun K b lc H0 (upd H a (.lst (xs.map V.int))) r lb bs lq qs ls le sv { lr with belts := lr.belts.set i xs } := by
  have s := sep_of h.nd
  have hm := List.mem_of_getElem? hi
  obtain ⟨o1, o2, o3, o4⟩ := s.bo a hm
  refine ⟨h.g0, h.x.put h.g0 (h.off a (by simp [hm])) ha, ?_, ?_, putAll hi s.b h.bb, ?_, keepAll (s.bq a hm) h.qq, ?_, ?_, h.ee.imp fun _ _ => SentL.ts (TupS.lst ha), h.nd, h.off⟩
  · rw [upd_ne (fun e => by rw [← e, h.at_] at ha; cases ha)]
    exact h.at_
  · rw [upd_ne (Ne.symm o2)]; exact h.hb
  · rw [upd_ne (Ne.symm o3)]; exact h.hq
  · rw [upd_ne (Ne.symm o1)]; exact h.hs
  · rw [upd_ne (Ne.symm o4)]; exact h.he
theorem LRun.putQ (h : LRun K b lc H0 H r lb bs lq qs ls le sv lr) {i : Nat} {a : Addr} {ys : List V} (xs : List (Option Int)) (hi : qs[i]? = some a) (ha : H a = some (.lst ys)) :
    LRun K b lc H0 (upd H a (.lst (xs.map oV))) r lb bs lq qs ls le sv { lr with queues := lr.queues.set i xs } := by
  have s := sep_of h.nd
  have hm := List.mem_of_getElem? hi
  obtain ⟨o1, o2, o3, o4⟩ := s.qo a hm
  refine ⟨h.g0, h.x.put h.g0 (h.off a (by simp [hm])) ha, ?_, ?_, keepAll (fun z => s.bq a z hm) h.bb, ?_, putAll hi s.q h.qq, ?_, ?_, h.ee.imp fun _ _ => SentL.ts (TupS.lst ha), h.nd, h.off⟩
  · rw [upd_ne (fun e => by rw [← e, h.at_] at ha; cases ha)]
    exact h.at_
  · rw [upd_ne (Ne.symm o2)]; exact h.hb
  · rw [upd_ne (Ne.symm o3)]; exact h.hq
  · rw [upd_ne (Ne.symm o1)]; exact h.hs
  · rw [upd_ne (Ne.symm o4)]; exact h.he
theorem LRun.putE (h : LRun K b lc H0 H r lb bs lq qs ls le sv lr) {v : V} {q : Int × Option Int} (hv : SentL K H v q) :
    LRun K b lc H0 (upd H le (.lst (sv ++ [v]))) r lb bs lq qs ls le (sv ++ [v]) { lr with sent := lr.sent ++ [q] } := by
  have s := sep_of h.nd
  obtain ⟨o1, o2, o3, o4, o5, o6⟩ := s.o
  refine ⟨h.g0, h.x.put h.g0 (h.off le (by simp)) h.he, ?_, ?_, keepAll (fun z => (s.bo _ z).2.2.2 rfl) h.bb, ?_, keepAll (fun z => (s.qo _ z).2.2.2 rfl) h.qq, ?_, upd_same, (h.ee.imp fun _ _ => SentL.ts (TupS.lst h.he)).append (.cons (hv.ts (TupS.lst h.he)) .nil), h.nd, h.off⟩
  · rw [upd_ne (fun e => by have := h.he; rw [← e, h.at_] at this; cases this)]
    exact h.at_
  · rw [upd_ne o5]; exact h.hb
  · rw [upd_ne o6]; exact h.hq
  · rw [upd_ne o3]; exact h.hs
/-- the dict itself -/
theorem LRun.putR (h : LRun K b lc H0 H r lb bs lq qs ls le sv lr) {ls' : Addr} {lr' : LR} (hs : H ls' = some (.lst (lr'.slips.map V.int))) (nd : (ls' :: lb :: lq :: le :: (bs ++ qs)).Nodup) (off : H0 ls' = none) (eb : lr'.belts = lr.belts) (eq : lr'.queues = lr.queues) (es : lr'.sent = lr.sent) :
    LRun K b lc H0 (upd H r (.dK (runK lb lq ls' le lr'))) r lb bs lq qs ls' le sv lr' := by
  have st1 : ∀ a ys, H a = some (.lst ys) → upd H r (.dK (runK lb lq ls' le lr')) a = some (.lst ys) := fun a ys z => by
    rw [upd_ne (fun e => by
      rw [e, h.at_] at z
      cases z)]
    exact z
  refine ⟨h.g0, h.x.dk h.g0 (h.off r (by simp)) h.at_, upd_same, st1 _ _ h.hb, ?_, st1 _ _ h.hq, ?_, st1 _ _ hs, st1 _ _ h.he, ?_, nd, fun a ha => ?_⟩
  · rw [eb]
    exact h.bb.imp fun a ys => st1 a _
  · rw [eq]
    exact h.qq.imp fun a ys => st1 a _
  · rw [es]
    exact h.ee.imp fun _ _ => SentL.ts (TupS.dk h.at_)
  · simp only [List.mem_cons] at ha
    rcases ha with rfl | rfl | rfl | rfl | rfl | ha
    · exact h.off _ (by simp)
    · exact off
    · exact h.off _ (by simp)
    · exact h.off _ (by simp)
    · exact h.off _ (by simp)
    · exact h.off _ (by simp only [List.mem_cons]; exact .inr (.inr (.inr (.inr (.inr ha)))))
theorem optsGet {H : Hp} {bs : List Addr} {xss : List (List (Option Int))} {j : Nat} (h : All2 (OptsAt H) bs xss) (hj : j < xss.length) : ∃ a, bs[j]? = some a ∧ H a = some (.lst ((xss.getD j []).map oV)) := by
  have e : xss[j]? = some (xss.getD j []) := by
    rw [List.getD_eq_getElem?_getD, List.getElem?_eq_getElem hj]
    rfl
  exact h.get e
theorem six0 {n : Nat} (h : 0 < n) : seqIndex? 0 n = some 0 := by
  unfold seqIndex?
  simp only
  split <;> simp_all
  all_goals omega
def sp_lawAdd (K : PySem.W.Frag) : Sp := fun vs H Q _ => ∃ (b lc rp plb pls tp lw lrr r lb : Addr) (bs : List Addr) (lq : Addr) (qs : List Addr) (ls le : Addr) (sv : List V) (p : Plan) (lr : LR) (H0 : Hp) (i : Nat) (o : Option Int), vs = [.ref rp, .ref r, .int (i : Int), oV o] ∧ LPlan K H0 rp plb pls tp lw lrr p ∧ Drawn p ∧ LRun K b lc H0 H r lb bs lq qs ls le sv lr ∧
  i < p.n ∧ lr.queues.length = p.n ∧ (lr.queues.getD i []).length ≤ 900 ∧ ∀ H', SameE qs H H' → TupS K H H' → LRun K b lc H0 H' r lb bs lq qs ls le sv { lr with queues := lr.queues.set i (lAdd (lr.queues.getD i []) o (p.rooms.getD i 0)) } → Q .non H'
theorem sc__law_add : FnScope ["_law_plan", "_law_run", "_law_at", "_law_record", "_law_queue"] ["_law_plan", "_law_run", "_law_at", "_law_record"] (defScope s__law_add) := ⟨rfl, rfl, rfl, by decide +kernel, rfl, by decide +kernel, by decide +kernel⟩
theorem Txt.b__law_add (T : Txt w K mg) : Binds K (fdA K (He.ga K "_law_add")) ["_law_plan", "_law_run", "_law_at", "_law_record"] [] := T.F__law_add.binds fun _ _ _ _ _ _ us hl => match us, hl with | [_, _, _, _], _ => rfl
theorem ok__law_add (T : Txt w K mg) : FnOk P w K mg base CX0 1 (He.ga K "_law_add") (fdA K (He.ga K "_law_add")) ["_law_plan", "_law_run", "_law_at", "_law_record"] (sp_lawAdd K) := by
  refine T.F__law_add.ok sc__law_add (fun vs H Q E h => ?_) (fun cdv A outer s H vs Q E hr h => ?_)
  · obtain ⟨b, lc, rp, plb, pls, tp, lw, lrr, r, lb, bs, lq, qs, ls, le, sv, p, lr, H0, i, o, rfl, _⟩ := h
    rfl
  · obtain ⟨b, lc, rp, plb, pls, tp, lw, lrr, r, lb, bs, lq, qs, ls, le, sv, p, lr, H0, i, o, rfl, hp0, dp, hR, hi, hlq, hz, k⟩ := h
    refine ⟨_, (pss_cons (ps_set (i := 4) sc__law_add.nd rfl (by first | exact .inl rfl | exact .inr rfl) (pe_ix ix_list (pe_dget (hu_of hr) (pv 1) pe_str (fun _ _ => rfl)) (pv 2) (fun _ _ => rfl)))
      (pss_cons (ps_expr (pe_bm PySem.F.plainAttrs_list PySem.F.slot_list_append PySem.F.type_list_append mt_append (pv 4) (pa_cons (pv 3) pa_nil)))
      (pss_one (ps_if (pt_cmpR op_gt (pe_callB (cr_lenK (K := K)) (by rfl) T.f_len (by decide +kernel) (pa_cons (pv 4) pa_nil)) (pe_ix ix_list (pe_dget (hu_of hr) (pv 0) pe_str (fun _ _ => rfl)) (pv 2) (fun _ _ => rfl)) (nomark _)) (pss_one (ps_expr (pe_bm PySem.F.plainAttrs_list PySem.F.slot_list_pop PySem.F.type_list_pop mt_popAt (pv 4) (pa_cons pe_int pa_nil)))) pss_nil)))), ?_⟩
    obtain ⟨a, ha, hqa⟩ := optsGet hR.qq (j := i) (by omega)
    refine ⟨_, rfl, r, _, rfl, hR.queues, _, rfl, _, _, _, .ref a, rfl, rfl, .inl (.inl hR.hq), atI_nat (by rw [List.getElem?_map, ha]; rfl), ?_⟩
    dsimp only [gName]
    refine ⟨_, rfl, tyLst hqa, _, rfl, a, _, _, rfl, rfl, hqa, ?_, ?_⟩
    · rw [List.length_map]
      exact Nat.lt_of_le_of_lt hz (by decide)
    have em : (lr.queues.getD i []).map oV ++ [oV o] = (lr.queues.getD i [] ++ [o]).map oV := by rw [List.map_append]; rfl
    rw [em]
    have hR1 := hR.putQ (lr.queues.getD i [] ++ [o]) ha hqa
    have e1 : SameE qs H (upd H a (.lst ((lr.queues.getD i [] ++ [o]).map oV))) := SameE.put (List.mem_of_getElem? ha)
    have t1 : TupS K H (upd H a (.lst ((lr.queues.getD i [] ++ [o]).map oV))) := TupS.lst hqa
    have hq1 : upd H a (.lst ((lr.queues.getD i [] ++ [o]).map oV)) a = some (.lst ((lr.queues.getD i [] ++ [o]).map oV)) := upd_same
    generalize upd H a (.lst ((lr.queues.getD i [] ++ [o]).map oV)) = H1 at hR1 hq1 e1 t1
    have hp1 := hp0.bx hR1.g0 hR1.x
    dsimp only
    have hi2 : i < p.rooms.length := by rw [dp.nr]; exact hi
    refine ⟨_, rfl, _, _, rfl, .inl (.inl (.inl hq1)), _, rfl, rp, _, rfl, hp1.rooms, _, rfl, _, _, _, .int (p.rooms.getD i 0), rfl, rfl, .inl (.inl hp1.hr), atI_nat (getI hi2), _, _, rfl, rfl, _, rfl, ?_⟩
    rw [List.length_map]
    by_cases c : p.rooms.getD i 0 < ((lr.queues.getD i [] ++ [o]).length : Int)
    · refine yes (decide_eq_true c) ?_
      have ea : lAdd (lr.queues.getD i []) o (p.rooms.getD i 0) = (lr.queues.getD i [] ++ [o]).drop 1 := if_pos c
      rw [ea] at k
      obtain ⟨y0, r0, e0⟩ : ∃ y0 r0, lr.queues.getD i [] ++ [o] = y0 :: r0 := by
        cases lr.queues.getD i [] with
        | nil => exact ⟨o, [], rfl⟩
        | cons x l => exact ⟨x, l ++ [o], rfl⟩
      rw [e0] at hq1 hR1 k
      refine ⟨_, rfl, tyLst hq1, a, _, 0, 0, oV y0, rfl, rfl, hq1, by omega, by omega, six0 (by simp), rfl, ?_⟩
      refine k _ (e1.trans (SameE.put (List.mem_of_getElem? ha))) (t1.trans (TupS.lst hq1)) ?_
      have hR2 := hR1.putQ r0 ha hq1
      have es : ({ lr with queues := (lr.queues.set i (y0 :: r0)).set i r0 } : LR) = { lr with queues := lr.queues.set i ((y0 :: r0).drop 1) } := by
        rw [List.set_set]
        rfl
      rw [← es]
      exact hR2
    · refine noo (decide_eq_false c) ?_
      refine k _ e1 t1 ?_
      unfold lAdd
      rw [if_neg c]
      exact hR1
end
end Ow
set_option Elab.async false
set_option linter.all false
set_option maxRecDepth 100000
set_option maxHeartbeats 4000000
namespace Ow
open PySem PySem.Spec PyProof.Rows L2
section
variable {P : Program} {w : World} {K : PySem.W.Frag} {mg : Str → Option Value} {base : Heap}
def pdO : Option Int → PyData
  | none => .none
  | some i => .int i
theorem dpOpts {H : Hp} : ∀ xs : List (Option Int), DpAll K H (xs.map oV) (xs.map pdO)
  | [] => .nil
  | none :: r => .cons .non (dpOpts r)
  | some x :: r => .cons (.int x) (dpOpts r)
theorem canO : ∀ b : List (Option Int), PyData.canLayAll0 (b.map pdO) = true
  | [] => by simp [PyData.canLayAll0]
  | none :: r => by rw [List.map_cons, PyData.canLayAll0, canO r]; simp [pdO, PyData.canLay0]
  | some x :: r => by rw [List.map_cons, PyData.canLayAll0, canO r]; simp [pdO, PyData.canLay0]
theorem depO : ∀ b : List (Option Int), PyData.depthAll (b.map pdO) = 0
  | [] => by simp [PyData.depthAll]
  | none :: r => by rw [List.map_cons, PyData.depthAll, depO r]; simp [pdO, PyData.depth]
  | some x :: r => by rw [List.map_cons, PyData.depthAll, depO r]; simp [pdO, PyData.depth]
theorem shaped_opts (b : List (Option Int)) : SeqAt.shaped (.list (b.map pdO)) = true := by
  have h2 : PyData.depth (.list (b.map pdO)) ≤ 64 := by
    rw [PyData.depth, depO]
    decide
  show (PyData.canLay0 (.list (b.map pdO)) && decide (PyData.depth (.list (b.map pdO)) ≤ 64)) = true
  rw [Bool.and_eq_true]
  refine ⟨?_, decide_eq_true h2⟩
  rw [PyData.canLay0]
  exact canO b
theorem inInts {x : Int} : ∀ ws : List Int, inV (.int x) (ws.map V.int) = ws.contains x
  | [] => rfl
  | y :: r => by
    show (eqV (.int y) (.int x) || inV (.int x) (r.map V.int)) = _
    rw [inInts r, List.contains_cons]
    congr 1
    show decide (y = x) = (x == y)
    by_cases h : y = x
    · rw [decide_eq_true h, h]; simp
    · rw [decide_eq_false h]; simp; exact fun z => h z.symm
theorem flatI : ∀ ws : List Int, (ws.map V.int).all flatV = true
  | [] => rfl
  | _ :: r => flatI r
theorem flatO : ∀ ws : List (Option Int), (ws.map oV).all flatV = true
  | [] => rfl
  | none :: r => flatO r
  | some _ :: r => flatO r
theorem eqI {x y : Int} (h : x = y) : eqV (.int x) (.int y) = true := decide_eq_true h
theorem eqI_ne {x y : Int} (h : x ≠ y) : eqV (.int x) (.int y) = false := decide_eq_false h
theorem inOpts {x : Int} : ∀ ws : List (Option Int), inV (.int x) (ws.map oV) = ws.contains (some x)
  | [] => rfl
  | none :: r => by
    show (eqV .non (.int x) || inV (.int x) (r.map oV)) = _
    rw [inOpts r, List.contains_cons]
    rfl
  | some y :: r => by
    show (eqV (.int y) (.int x) || inV (.int x) (r.map oV)) = _
    rw [inOpts r, List.contains_cons]
    congr 1
    by_cases h : y = x
    · rw [eqI h, h]; simp
    · rw [eqI_ne h]; simp; exact fun z => h z.symm
theorem before_idx {y : Option Int} : ∀ {q : List (Option Int)} {m : Nat} {z : Option Int}, m < q.idxOf y → q[m]? = some z → z ≠ y
  | [], m, z, h, _ => by simp at h
  | c :: q, 0, z, h, e => by
    cases e
    rintro rfl
    simp at h
  | c :: q, m + 1, z, h, e => by
    rw [List.idxOf_cons] at h
    by_cases hc : (c == y) = true
    · rw [hc] at h
      cases h
    · rw [Bool.not_eq_true] at hc
      rw [hc] at h
      exact before_idx (Nat.lt_of_succ_lt_succ h) (by simpa using e)
theorem set_getD {α : Type} {l : List α} {j : Nat} {d : α} (h : j < l.length) : l.set j (l.getD j d) = l := by
  rw [List.getD_eq_getElem?_getD, List.getElem?_eq_getElem h]
  exact List.set_getElem_self h
theorem popE {σ : L2.St} {v : Nat} {a : Addr} {y0 : Option Int} {r0 : List (Option Int)} {H : Hp} {Q : VK} (h4 : σ[v]? = some (some (.ref a))) (h : H a = some (.lst ((y0 :: r0).map oV))) (k : Q (oV y0) (upd H a (.lst (r0.map oV)))) :
    tBM K "list" rPopAt (tVar v) (tCons (tC (.int 0)) tNil) σ H Q :=
  ⟨_, h4, tyLst h, a, _, 0, 0, oV y0, rfl, rfl, h, by omega, by omega, six0 (by simp), rfl, k⟩
section
variable {p : Plan} {i : Nat} {x : Int} {q : List (Option Int)}
theorem see_nil (c : ¬ p.scans.contains (i : Int) = true) : lSee p i [] x = ([], if p.blank then [none] else []) := by
  unfold lSee
  rw [if_neg c]
theorem see_cons (c : ¬ p.scans.contains (i : Int) = true) {y : Option Int} {r : List (Option Int)} : lSee p i (y :: r) x = (r, [y]) := by
  unfold lSee
  rw [if_neg c]
theorem see_scan (c : p.scans.contains (i : Int) = true) : lSee p i q x = (if (q.take (p.seek + 1).toNat).contains (some x) then q.drop (q.idxOf (some x) + 1) else if p.first && decide (q ≠ []) then q.drop 1 else q, [some x]) := by
  unfold lSee
  rw [if_pos c]
end
def sp_lawSee (K : PySem.W.Frag) : Sp := fun vs H Q _ => ∃ (b lc rp plb pls tp lw lrr r lb : Addr) (bs : List Addr) (lq : Addr) (qs : List Addr) (ls le : Addr) (sv : List V) (p : Plan) (lr : LR) (H0 : Hp) (i : Nat) (x : Int), vs = [.ref rp, .ref r, .int (i : Int), .int x] ∧ LPlan K H0 rp plb pls tp lw lrr p ∧ Drawn p ∧ LRun K b lc H0 H r lb bs lq qs ls le sv lr ∧
  1 ≤ i ∧ i ≤ p.n ∧ lr.queues.length = p.n ∧ (lr.queues.getD (i - 1) []).length ≤ 900 ∧ ∀ l H', SameE qs H H' → TupS K H H' → LRun K b lc H0 H' r lb bs lq qs ls le sv { lr with queues := lr.queues.set (i - 1) (lSee p i (lr.queues.getD (i - 1) []) x).1 } → H l = none → H' l = some (.lst ((lSee p i (lr.queues.getD (i - 1) []) x).2.map oV)) → Q (.ref l) H'
theorem sc__law_see : FnScope ["_law_plan", "_law_run", "_law_at", "_law_label", "_law_queue", "_law_k"] ["_law_plan", "_law_run", "_law_at", "_law_label"] (defScope s__law_see) := ⟨rfl, rfl, rfl, by decide +kernel, rfl, by decide +kernel, by decide +kernel⟩
theorem Txt.b__law_see (T : Txt w K mg) : Binds K (fdA K (He.ga K "_law_see")) ["_law_plan", "_law_run", "_law_at", "_law_label"] [] := T.F__law_see.binds fun _ _ _ _ _ _ us hl => match us, hl with | [_, _, _, _], _ => rfl
theorem ok__law_see (T : Txt w K mg) : FnOk P w K mg base CX0 1 (He.ga K "_law_see") (fdA K (He.ga K "_law_see")) ["_law_plan", "_law_run", "_law_at", "_law_label"] (sp_lawSee K) := by
  refine T.F__law_see.ok sc__law_see (fun vs H Q E h => ?_) (fun cdv A outer s H vs Q E hr h => ?_)
  · obtain ⟨b, lc, rp, plb, pls, tp, lw, lrr, r, lb, bs, lq, qs, ls, le, sv, p, lr, H0, i, x, rfl, _⟩ := h
    rfl
  · obtain ⟨b, lc, rp, plb, pls, tp, lw, lrr, r, lb, bs, lq, qs, ls, le, sv, p, lr, H0, i, x, rfl, hp0, dp, hR, i1, i2, hlq, hz, k⟩ := h
    refine ⟨_, (pss_cons (ps_set (i := 4) sc__law_see.nd rfl (by first | exact .inl rfl | exact .inr rfl) (pe_ix ix_list (pe_dget (hu_of hr) (pv 1) pe_str (fun _ _ => rfl)) (pe_op op_sub (pv 2) pe_int) (fun _ _ => rfl)))
      (pss_cons (ps_if (pt_cmpR op_notIn_seq (pv 2) (pe_dget (hu_of hr) (pv 0) pe_str (fun _ _ => rfl)) (by rfl)) (pss_cons (ps_if (pt_cmpR (op_eqD hr.units) (pv 4) (pe_lst pa_nil) (nomark _)) (pss_one (ps_ret (pe_ifExp (pt_cmpR op_eq (pe_dget (hu_of hr) (pv 0) pe_str (fun _ _ => rfl)) pe_str (nomark _)) (pe_lst (pa_cons pe_non pa_nil)) (pe_lst pa_nil)))) pss_nil)
        (pss_one (ps_ret (pe_lst (pa_cons (pe_bm PySem.F.plainAttrs_list PySem.F.slot_list_pop PySem.F.type_list_pop mt_popAt (pv 4) (pa_cons pe_int pa_nil)) pa_nil))))) pss_nil)
      (pss_cons (ps_if (pt_cmpR op_in_seq (pv 3) (pe_slice sl_list (pv 4) po_none (po_some (pe_op op_add (pe_dget (hu_of hr) (pv 0) pe_str (fun _ _ => rfl)) pe_int))) (by rfl)) (pss_one (ps_for PassesOwn.never rfl (pi_range1 (by rfl) T.f_range (pa_cons (pe_op op_add (pe_bm PySem.F.plainAttrs_list PySem.F.slot_list_index PySem.F.type_list_index mt_index (pv 4) (pa_cons (pv 3) pa_nil)) pe_int) pa_nil)) (pg_name (i := 5) sc__law_see.nd rfl (by first | exact .inl rfl | exact .inr rfl)) (pss_one (ps_expr (pe_bm PySem.F.plainAttrs_list PySem.F.slot_list_pop PySem.F.type_list_pop mt_popAt (pv 4) (pa_cons pe_int pa_nil)))))) (pss_one (ps_if (PW.pt (pw_and (pt_cmpR op_eq (pe_dget (hu_of hr) (pv 0) pe_str (fun _ _ => rfl)) pe_str (nomark _)) (pw_and1 (pt_cmpR (op_neD hr.units) (pv 4) (pe_lst pa_nil) (nomark _))))) (pss_one (ps_expr (pe_bm PySem.F.plainAttrs_list PySem.F.slot_list_pop PySem.F.type_list_pop mt_popAt (pv 4) (pa_cons pe_int pa_nil)))) pss_nil)))
      (pss_one (ps_ret (pe_lst (pa_cons (pv 3) pa_nil))))))), ?_⟩
    obtain ⟨a, ha, hqa⟩ := optsGet hR.qq (j := i - 1) (by omega)
    have hp1 := hp0.bx hR.g0 hR.x
    refine ⟨_, rfl, r, _, rfl, hR.queues, _, rfl, _, _, rfl, rfl, _, _, _, .ref a, rfl, rfl, .inl (.inl hR.hq), atI_pred i1 (by rw [List.getElem?_map, ha]; rfl), ?_⟩
    dsimp only [gName]
    have q0 : lr.queues.set (i - 1) (lr.queues.getD (i - 1) []) = lr.queues := set_getD (by omega)
    have eR : ({ lr with queues := lr.queues.set (i - 1) (lr.queues.getD (i - 1) []) } : LR) = lr := by rw [q0]
    generalize hq : lr.queues.getD (i - 1) [] = q at hqa hz k eR
    refine seqE (M := fun σ' H' => Same H H' ∧ p.scans.contains (i : Int) = true ∧ σ' = [some (.ref rp), some (.ref r), some (.int (i : Int)), some (.int x), some (.ref a), none]) (fun N kN => ?_) ?_
    · refine ⟨_, rfl, _, rfl, rp, _, rfl, hp1.scans, pls, _, rfl, .inl (.inl (.inl hp1.hs)), rfl, flatI _, _, rfl, ?_⟩
      rw [inInts]
      by_cases c : p.scans.contains (i : Int) = true
      · refine noo (by rw [c]; rfl) ?_
        exact kN _ _ ⟨Same.refl _, c, rfl⟩
      · have c' : p.scans.contains (i : Int) = false := by simpa using c
        refine yes (by rw [c']; rfl) ?_
        refine ⟨_, rfl, ok_le (by simp), fun t ht => ?_⟩
        have z1 := Same.up (o := .lst []) ht
        refine ⟨.list (q.map pdO), .list [], .lst (.inl (.inl (z1 _ _ hqa))) (dpOpts _), .lst (.inl (.inl upd_same)) .nil, shaped_opts _, PySem.W.shaped_ints [], _, rfl, ?_⟩
        rw [eqvNil]
        have hR1 := hR.up z1
        have hp2 := hp1.mono z1
        have hq1 := z1 _ _ hqa
        generalize upd H t (.lst []) = H1 at z1 hR1 hp2 hq1
        cases q with
        | nil =>
          rw [see_nil c, eR] at k
          refine yes rfl ?_
          refine ⟨_, rfl, rp, _, rfl, hp2.empty, rfl, _, rfl, ?_⟩
          cases hbk : p.blank with
          | true =>
            rw [hbk] at k
            refine yes (by decide +kernel) ?_
            exact ⟨ok_le (by simp), fun l hl => k l _ (.of (z1.trans (Same.up hl))) (.of (z1.trans (Same.up hl))) (hR1.up (Same.up hl)) (none_back z1 hl) upd_same⟩
          | false =>
            rw [hbk] at k
            refine noo (by decide +kernel) ?_
            exact ⟨ok_le (by simp), fun l hl => k l _ (.of (z1.trans (Same.up hl))) (.of (z1.trans (Same.up hl))) (hR1.up (Same.up hl)) (none_back z1 hl) upd_same⟩
        | cons y0 r0 =>
          rw [see_cons c] at k
          refine noo rfl ?_
          dsimp only [tNext]
          refine popE rfl hq1 ⟨ok_le (by simp), fun l hl => ?_⟩
          have hR2 := hR1.putQ r0 ha hq1
          refine k l _ (((SameE.of z1).trans (SameE.put (List.mem_of_getElem? ha))).trans (.of (Same.up hl))) (((TupS.of z1).trans (TupS.lst hq1)).trans (.of (Same.up hl))) (hR2.up (Same.up hl)) ?_ upd_same
          have hla : l ≠ a := by
            rintro rfl
            rw [upd_same] at hl
            cases hl
          rw [upd_ne hla] at hl
          exact none_back z1 hl
    rintro σ1 H1 ⟨z1, c, rfl⟩
    have el := see_scan (p := p) (i := i) (x := x) (q := q) c
    have hR1 := hR.up z1
    have hp2 := hp1.mono z1
    have hq1 := z1 _ _ hqa
    refine seqE (M := fun σ' H' => (SameE qs H H' ∧ TupS K H H' ∧ ∀ l, H' l = none → H l = none) ∧ LRun K b lc H0 H' r lb bs lq qs ls le sv { lr with queues := lr.queues.set (i - 1) (lSee p i q x).1 } ∧ ∃ v, σ' = [some (.ref rp), some (.ref r), some (.int (i : Int)), some (.int x), some (.ref a), v]) (fun N kN => ?_) ?_
    · refine ⟨_, rfl, _, rfl, ?_⟩
      dsimp only [tNoPart]
      refine ⟨_, rfl, rp, _, rfl, hp2.seek, _, _, rfl, rfl, _, rfl, a, _, rfl, .inl (.inl hq1), fun t ht => ?_⟩
      have z2 := Same.up (o := .lst (cutV (q.map oV) none (some (p.seek + 1)))) ht
      have hcut : cutV (q.map oV) none (some (p.seek + 1)) = (q.take (p.seek + 1).toNat).map oV := by
        have sk := dp.sk
        rw [show p.seek + 1 = (((p.seek + 1).toNat : Nat) : Int) by omega, cutTake, List.map_take]
        rfl
      rw [hcut] at z2 ⊢
      refine ⟨t, _, rfl, .inl (.inl (.inl upd_same)), rfl, flatO _, _, rfl, ?_⟩
      have e9 : (if false = true then !inV (V.int x) ((q.take (p.seek + 1).toNat).map oV) else inV (V.int x) ((q.take (p.seek + 1).toNat).map oV)) = (q.take (p.seek + 1).toNat).contains (some x) := inOpts _
      rw [e9]
      have hR2 := hR1.up z2
      have hq2 := z2 _ _ hq1
      have hp3 := hp2.mono z2
      have z12 := z1.trans z2
      generalize upd H1 t (.lst ((q.take (p.seek + 1).toNat).map oV)) = H2 at z2 hR2 hq2 hp3 z12
      by_cases cc : (q.take (p.seek + 1).toNat).contains (some x) = true
      · refine yes cc ?_
        rw [if_pos cc] at el
        have hmem : some x ∈ q := List.mem_of_mem_take (List.contains_iff_mem.mp cc)
        have hlt := List.idxOf_lt_length_iff.mpr hmem
        have hget : q[q.idxOf (some x)]? = some (some x) := by
          rw [List.getElem?_eq_getElem hlt, List.getElem_idxOf]
        refine ⟨_, rfl, tyLst hq2, _, rfl, a, _, _, q.idxOf (some x), .int x, rfl, rfl, .inl (.inl hq2), rfl, flatO _, by rw [List.getElem?_map, hget]; rfl, eqI rfl, fun m z' hm hz' => ?_, _, _, rfl, rfl, _, rfl, by omega, by omega, ?_⟩
        · rw [List.getElem?_map] at hz'
          obtain ⟨zo, hzo, rfl⟩ := Option.map_eq_some_iff.mp hz'
          have hne := before_idx hm hzo
          cases zo with
          | none => rfl
          | some y => exact eqI_ne fun e => hne (by rw [e])
        have en : ((q.idxOf (some x) : Int) + 1).toNat = q.idxOf (some x) + 1 := by omega
        rw [en]
        refine for_it walk_range (fun j σ' H' => (SameE qs H H' ∧ TupS K H H' ∧ ∀ l, H' l = none → H l = none) ∧ LRun K b lc H0 H' r lb bs lq qs ls le sv { lr with queues := lr.queues.set (i - 1) (q.drop j) } ∧ H' a = some (.lst ((q.drop j).map oV)) ∧ ∃ v, σ' = [some (.ref rp), some (.ref r), some (.int (i : Int)), some (.int x), some (.ref a), v])
          ⟨⟨.of z12, .of z12, fun l hl => none_back z12 hl⟩, by rw [List.drop_zero, eR]; exact hR2, by rw [List.drop_zero]; exact hq2, _, rfl⟩ (fun _ _ _ _ _ => trivial) ?_ ?_
        · rintro j y σ' H4 H5 hj ⟨hn, hR4, hq4, v, rfl⟩ ⟨rfl, rfl⟩
          have hjl : j < q.length := by omega
          rw [List.drop_eq_getElem_cons hjl] at hq4 hR4
          refine popE rfl hq4 ?_
          have hR5 := hR4.putQ (q.drop (j + 1)) ha hq4
          have e5 : ({ lr with queues := (lr.queues.set (i - 1) (q[j] :: q.drop (j + 1))).set (i - 1) (q.drop (j + 1)) } : LR) = { lr with queues := lr.queues.set (i - 1) (q.drop (j + 1)) } := by rw [List.set_set]
          refine ⟨⟨hn.1.trans (SameE.put (List.mem_of_getElem? ha)), hn.2.1.trans (TupS.lst hq4), fun l hl => ?_⟩, by rw [← e5]; exact hR5, upd_same, _, rfl⟩
          have hla : l ≠ a := by
            rintro rfl
            rw [upd_same] at hl
            cases hl
          rw [upd_ne hla] at hl
          exact hn.2.2 l hl
        · rintro σ' H4 ⟨hn, hR4, hq4, v, rfl⟩
          exact kN _ _ ⟨hn, by rw [el]; exact hR4, v, rfl⟩
      · refine noo (by simpa using cc) ?_
        rw [if_neg cc] at el
        dsimp only [tIfS]
        refine testE (M := fun c H' => Same H2 H' ∧ c = (p.first && decide (q ≠ []))) (fun N2 kN2 => ?_) ?_
        · refine ⟨_, rfl, rp, _, rfl, hp3.strange, rfl, _, rfl, ?_⟩
          cases hf : p.first with
          | false => exact noo (by decide +kernel) (kN2 _ _ ⟨Same.refl _, by rw [hf]; rfl⟩)
          | true =>
            refine yes (by decide +kernel) ?_
            refine ⟨_, rfl, ok_le (by simp), fun t1 ht1 => ?_⟩
            have z3 := Same.up (o := .lst []) ht1
            refine ⟨.list (q.map pdO), .list [], .lst (.inl (.inl (z3 _ _ hq2))) (dpOpts _), .lst (.inl (.inl upd_same)) .nil, shaped_opts _, PySem.W.shaped_ints [], _, rfl, ?_⟩
            rw [eqvNil]
            refine kN2 _ _ ⟨z3, ?_⟩
            rw [hf]
            cases q <;> rfl
        rintro c3 H3 ⟨z3, ec⟩
        rw [← ec] at el
        have hR3 := hR2.up z3
        have hq3 := z3 _ _ hq2
        have z13 := z12.trans z3
        cases c3 with
        | false =>
          refine noo rfl ?_
          exact kN _ _ ⟨⟨.of z13, .of z13, fun l hl => none_back z13 hl⟩, by rw [el]; show LRun K b lc H0 H3 r lb bs lq qs ls le sv { lr with queues := lr.queues.set (i - 1) q }; rw [eR]; exact hR3, _, rfl⟩
        | true =>
          refine yes rfl ?_
          cases q with
          | nil =>
            exfalso
            cases h : p.first <;> rw [h] at ec <;> cases ec
          | cons y0 r0 =>
            refine popE rfl hq3 ?_
            have hR5 := hR3.putQ r0 ha hq3
            refine kN _ _ ⟨⟨(SameE.of z13).trans (SameE.put (List.mem_of_getElem? ha)), (TupS.of z13).trans (TupS.lst hq3), fun l hl => ?_⟩, by rw [el]; exact hR5, _, rfl⟩
            have hla : l ≠ a := by
              rintro rfl
              rw [upd_same] at hl
              cases hl
            rw [upd_ne hla] at hl
            exact none_back z13 hl
    rintro σ2 H2 ⟨hn, hR2, v, rfl⟩
    refine ⟨_, rfl, ok_le (by simp), fun l hl => k l _ (hn.1.trans (.of (Same.up hl))) (hn.2.1.trans (.of (Same.up hl))) (hR2.up (Same.up hl)) (hn.2.2 _ hl) ?_⟩
    rw [el]
    exact upd_same
end
end Ow
set_option Elab.async false
set_option linter.all false
set_option maxRecDepth 100000
set_option maxHeartbeats 4000000
namespace Ow
open PySem PySem.Spec PyProof.Rows L2
section
variable {P : Program} {w : World} {K : PySem.W.Frag} {mg : Str → Option Value} {base : Heap}
theorem getS {i : Nat} (h : i < sights.length) : (sights.map fun g => V.str (gS g))[i]? = some (.str (gS sights[i])) := by rw [List.getElem?_map, List.getElem?_eq_getElem h]; rfl
theorem stepS {i : Nat} (h : i < sights.length) (f : Sight → Deed) : (sights.take (i + 1)).map f = (sights.take i).map f ++ [f sights[i]] := by
  rw [List.take_succ, List.getElem?_eq_getElem h, List.map_append]
  rfl
theorem lenPass (W : List Sight) (k : Nat) : (((List.range k).map fun i => W.map (Deed.pass (i + 1))).flatten).length = k * W.length := by
  rw [List.length_flatten, List.map_map]
  induction k with
  | zero => simp
  | succ k ih => rw [List.range_succ, List.map_append, List.sum_append, ih, Nat.succ_mul]; simp
def sp_lawAll (K : PySem.W.Frag) : Sp := fun vs H Q _ => ∃ (rp plb pls tp lw lrr : Addr) (p : Plan), vs = [.ref rp] ∧ LPlan K H rp plb pls tp lw lrr p ∧ Drawn p ∧ ∀ l vs H', Same H H' → H l = none → H' l = some (.lst vs) → All2 (DeAt K H') vs (lAllDeeds p) → Q (.ref l) H'
theorem sc__law_all_deeds : FnScope ["_law_plan", "_law_found", "_law_at", "_law_sight"] ["_law_plan"] (defScope s__law_all_deeds) := ⟨rfl, rfl, rfl, by decide +kernel, rfl, by decide +kernel, by decide +kernel⟩
theorem Txt.b__law_all_deeds (T : Txt w K mg) : Binds K (fdA K (He.ga K "_law_all_deeds")) ["_law_plan"] [] := T.F__law_all_deeds.binds fun _ _ _ _ _ _ us hl => match us, hl with | [_], _ => rfl
theorem ok__law_all_deeds (T : Txt w K mg) : FnOk P w K mg base CX0 1 (He.ga K "_law_all_deeds") (fdA K (He.ga K "_law_all_deeds")) ["_law_plan"] (sp_lawAll K) := by
  refine T.F__law_all_deeds.ok sc__law_all_deeds (fun vs H Q E h => ?_) (fun cdv A outer s H vs Q E hr h => ?_)
  · obtain ⟨rp, plb, pls, tp, lw, lrr, p, rfl, _⟩ := h
    rfl
  · obtain ⟨rp, plb, pls, tp, lw, lrr, p, rfl, hp, dp, k⟩ := h
    refine ⟨_, (pss_cons (ps_setLc (i := 1) (own := [("_law_sight", 3)]) (g := (gName 3)) rfl sc__law_all_deeds.nd rfl rfl (sw_true rfl rfl rfl (by decide +kernel)) (pi_list (pe_lst (pa_cons pe_str (pa_cons pe_str (pa_cons pe_str (pa_cons pe_str pa_nil)))))) (blkOk_by (N := ["_law_plan", "_law_found", "_law_at", "_law_sight"]) (sc := defScope s__law_all_deeds) (by decide +kernel)) (fun _ _ _ _ _ => (pg_name (i := 3) sc__law_all_deeds.nd rfl (by first | exact .inl rfl | exact .inr rfl))) (fun _ _ _ _ _ => pts_nil) (fun _ _ _ _ _ => (pe_tup (pa_cons pe_str (pa_cons (pv 3) pa_nil)))))
      (pss_cons (ps_for PassesOwn.never rfl (pi_range2 (by rfl) T.f_range (pa_cons pe_int (pa_cons (pe_op op_add (pe_callB (cr_lenK (K := K)) (by rfl) T.f_len (by decide +kernel) (pa_cons (pe_dget (hu_of hr) (pv 0) pe_str (fun _ _ => rfl)) pa_nil)) pe_int) pa_nil))) (pg_name (i := 2) sc__law_all_deeds.nd rfl (by first | exact .inl rfl | exact .inr rfl)) (pss_one (ps_set (i := 1) sc__law_all_deeds.nd rfl (by first | exact .inl rfl | exact .inr rfl) (pe_op op_cat (pv 1) (pe_lc (own := [("_law_sight", 3)]) (g := (gName 3)) rfl sc__law_all_deeds.nd (pi_list (pe_lst (pa_cons pe_str (pa_cons pe_str (pa_cons pe_str (pa_cons pe_str pa_nil)))))) (blkOk_by (N := ["_law_plan", "_law_found", "_law_at", "_law_sight"]) (sc := defScope s__law_all_deeds) (by decide +kernel)) (fun _ _ _ _ _ => (pg_name (i := 3) sc__law_all_deeds.nd rfl (by first | exact .inl rfl | exact .inr rfl))) (fun _ _ _ _ _ => pts_nil) (fun _ _ _ _ _ => (pe_tup (pa_cons pe_str (pa_cons (pv 2) (pa_cons (pv 3) pa_nil))))))))))
      (pss_one (ps_ret (pe_op op_cat (pv 1) (pe_lst (pa_cons (pe_tup (pa_cons pe_str pa_nil)) pa_nil))))))), ?_⟩
    have n3 : p.n ≤ 3 := dp.ok.nb.2
    refine ⟨ok_le (by simp), fun l1 m1 => ?_⟩
    have z1 := Same.up (o := .lst (sights.map fun g => V.str (gS g))) m1
    have hl1 : upd H l1 (.lst (sights.map fun g => V.str (gS g))) l1 = some (.lst (sights.map fun g => V.str (gS g))) := upd_same
    show ∃ _, _
    refine ⟨_, rfl, ⟨_, .inl (.inl hl1)⟩, fun D hD => ?_⟩
    refine lcM (walk_list (xs := sights.map fun g => V.str (gS g))) (by decide) hD (fun H e => .inl (.inl (e _ _ hl1)))
        (fun i H acc => All2 (DeAt K H) acc ((sights.take i).map Deed.come)) .nil (fun i H H' acc e h => h.imp fun _ _ => DeAt.keep e) ?_ ?_
    · intro i x H3 H4 acc B hi e ha r y hl kB
      obtain ⟨rfl, hx⟩ := y
      rw [List.length_map] at hi
      rw [getS hi] at hx
      cases hx
      refine ⟨rfl, _, rfl, ok_le (by simp), fun t m => kB _ _ (Same.up m) ?_⟩
      rw [stepS hi]
      exact (r.imp fun _ _ => DeAt.mono (Same.up m)).append (.cons ⟨t, rfl, newT⟩ .nil)
    intro H3 acc e ha hl r
    rw [List.length_map, List.take_length] at r
    have z13 := z1.trans e
    have hDn := none_back z1 hD
    dsimp only [gName]
    refine seqE (M := fun σ' H' => ∃ lf fs u w, σ' = [some (.ref rp), some (.ref lf), u, w] ∧ Same H H' ∧ H lf = none ∧ H' lf = some (.lst fs) ∧ All2 (DeAt K H') fs (sights.map Deed.come ++ ((List.range p.n).map fun i => sights.map (Deed.pass (i + 1))).flatten)) (fun N kN => ?_) ?_
    · refine ⟨_, rfl, rp, _, rfl, (hp.mono z13).belts, _, _, rfl, .inl (.inl (.inl (hp.mono z13).hb)), _, _, rfl, rfl, _, _, rfl, ?_⟩
      rw [List.length_map]
      refine ⟨⟨by omega, by omega, by show ((p.n : Int) + 1) ≥ _; omega, by show ((p.n : Int) + 1) < _; omega⟩, ?_⟩
      have en : ((p.belts.length : Int) + 1 - 1).toNat = p.n := by show ((p.n : Int) + 1 - 1).toNat = p.n; omega
      rw [en]
      refine for_it walk_range (fun i σ' H' => ∃ lf fs u w, σ' = [some (.ref rp), some (.ref lf), u, w] ∧ Same H H' ∧ H lf = none ∧ H' lf = some (.lst fs) ∧ All2 (DeAt K H') fs (sights.map Deed.come ++ ((List.range i).map fun i => sights.map (Deed.pass (i + 1))).flatten))
        ⟨D, acc, _, _, rfl, z13, hDn, ha, by simpa using r⟩ (fun _ _ _ _ _ => trivial) ?_ ?_
      · rintro i x σ' H9 H4 hi ⟨lf, fs, u, w, rfl, e4, hln, hf, hfs⟩ ⟨rfl, rfl⟩
        have hfl := hfs.length
        refine ⟨_, rfl, ok_le (by simp), fun l2 m2 => ?_⟩
        have y1 := Same.up (o := .lst (sights.map fun g => V.str (gS g))) m2
        have hl2 : upd H4 l2 (.lst (sights.map fun g => V.str (gS g))) l2 = some (.lst (sights.map fun g => V.str (gS g))) := upd_same
        show ∃ _, _
        refine ⟨_, rfl, ⟨_, .inl (.inl hl2)⟩, fun D2 hD2 => ?_⟩
        refine lcM (walk_list (xs := sights.map fun g => V.str (gS g))) (by decide) hD2 (fun H e => .inl (.inl (e _ _ hl2)))
          (fun j H acc => All2 (DeAt K H) acc ((sights.take j).map (Deed.pass (i + 1)))) .nil (fun i H H' acc e h => h.imp fun _ _ => DeAt.keep e) ?_ ?_
        · intro j x H5 H6 acc B hj e ha r y hl kB
          obtain ⟨rfl, hx⟩ := y
          rw [List.length_map] at hj
          rw [getS hj] at hx
          cases hx
          refine ⟨rfl, _, rfl, _, rfl, ok_le (by simp), fun t m => kB _ _ (Same.up m) ?_⟩
          rw [stepS hj]
          refine (r.imp fun _ _ => DeAt.mono (Same.up m)).append (.cons ⟨t, rfl, ?_⟩ .nil)
          have ei : (1 : Int) + (i : Int) = ((i + 1 : Nat) : Int) := by omega
          dsimp only
          rw [ei]
          exact newT
        · intro H5 acc2 e5 ha5 hl5 r5
          rw [List.length_map, List.take_length] at r5
          have y5 := y1.trans e5
          have l4 : fs.length + acc2.length ≤ 1000 := by
            rw [hfl, List.length_append, List.length_map, lenPass]
            have h2 : sights.length = 4 := rfl
            rw [List.length_map] at hl5
            have : i * sights.length ≤ 3 * 4 := Nat.mul_le_mul (by omega) (Nat.le_refl 4)
            omega
          refine ⟨lf, D2, _, _, rfl, rfl, y5 _ _ hf, ha5, Nat.le_trans l4 (by decide), fun l6 m6 => ?_⟩
          have y6 := Same.up (o := .lst (fs ++ acc2)) m6
          refine ⟨l6, fs ++ acc2, _, _, rfl, e4.trans (y5.trans y6), none_back (e4.trans y5) m6, upd_same, ?_⟩
          rw [List.range_succ, List.map_append, List.flatten_append, ← List.append_assoc]
          refine All2.append (hfs.imp fun _ _ h => (DeAt.mono (y5.trans y6) h)) ?_
          have := r5.imp fun _ _ h => DeAt.mono y6 h
          simpa using this
      · rintro σ' H4 ⟨lf, fs, u, w, rfl, e4, h⟩
        exact kN _ _ ⟨lf, fs, u, w, rfl, e4, h⟩
    rintro σ2 H4 ⟨lf, fs, u, w, rfl, z4, hln, hf, hfs⟩
    have hfl := hfs.length
    refine ⟨_, rfl, ok_le (by simp), fun t m => ⟨ok_le (by simp), fun l7 m7 => ?_⟩⟩
    have z5 := Same.up (o := .tup [V.str "pause"]) m
    have z6 := Same.up (o := .lst [V.ref t]) m7
    have z56 := z5.trans z6
    refine ⟨lf, l7, _, _, rfl, rfl, z56 _ _ hf, upd_same, ?_, fun l m2 => ?_⟩
    · rw [hfl, List.length_append, List.length_map, lenPass]
      have h2 : sights.length = 4 := rfl
      have : p.n * sights.length ≤ 3 * 4 := Nat.mul_le_mul (by omega) (Nat.le_refl 4)
      refine Nat.le_trans (show _ ≤ 20 from ?_) (by decide)
      rw [List.length_singleton]
      omega
    · have z7 := Same.up (o := .lst (fs ++ [V.ref t])) m2
      refine k _ _ _ (z4.trans (z56.trans z7)) (none_back (z4.trans z56) m2) upd_same ?_
      exact (hfs.imp fun _ _ => DeAt.mono (z56.trans z7)).append (.cons ⟨t, rfl, Same.seqT (z6.trans z7) newT⟩ .nil)
def sp_lawDeeds (K : PySem.W.Frag) : Sp := fun vs H Q _ => ∃ (b lc rp plb pls tp lw lrr r lb : Addr) (bs : List Addr) (lq : Addr) (qs : List Addr) (ls le : Addr) (sv : List V) (p : Plan) (lr : LR) (H0 : Hp), vs = [.ref rp, .ref r] ∧ LPlan K H rp plb pls tp lw lrr p ∧ Drawn p ∧ LRun K b lc H0 H r lb bs lq qs ls le sv lr ∧ lr.slips.length ≤ 900 ∧
  lr.belts.length = p.n ∧ ∀ l vs H', Same H H' → H l = none → H' l = some (.lst vs) → All2 (DeAt K H') vs (lDeeds p lr) → Q (.ref l) H'
theorem lall_inRange {p : Plan} {d : Deed} (h : d ∈ lAllDeeds p) : inRange p d = true := by
  unfold lAllDeeds at h
  rcases List.mem_append.mp h with h | h
  · rcases List.mem_append.mp h with h | h
    · obtain ⟨g, _, rfl⟩ := List.mem_map.mp h
      rfl
    · obtain ⟨l, hl, hd⟩ := List.mem_flatten.mp h
      obtain ⟨i, hi, rfl⟩ := List.mem_map.mp hl
      obtain ⟨g, _, rfl⟩ := List.mem_map.mp hd
      have := List.mem_range.mp hi
      show (decide (1 ≤ i + 1) && decide (i + 1 ≤ p.n)) = true
      rw [Bool.and_eq_true]
      exact ⟨decide_eq_true (by omega), decide_eq_true (by omega)⟩
  · obtain rfl := List.mem_singleton.mp h
    rfl
theorem sc__law_deeds : FnScope ["_law_plan", "_law_run", "_law_deed"] ["_law_plan", "_law_run"] (defScope s__law_deeds) := ⟨rfl, rfl, rfl, by decide +kernel, rfl, by decide +kernel, by decide +kernel⟩
theorem Txt.b__law_deeds (T : Txt w K mg) : Binds K (fdA K (He.ga K "_law_deeds")) ["_law_plan", "_law_run"] [] := T.F__law_deeds.binds fun _ _ _ _ _ _ us hl => match us, hl with | [_, _], _ => rfl
theorem ok__law_deeds (T : Txt w K mg) : FnOk P w K mg base CX0 4 (He.ga K "_law_deeds") (fdA K (He.ga K "_law_deeds")) ["_law_plan", "_law_run"] (sp_lawDeeds K) := by
  refine T.F__law_deeds.ok sc__law_deeds (fun vs H Q E h => ?_) (fun cdv A outer s H vs Q E hr h => ?_)
  · obtain ⟨b, lc, rp, plb, pls, tp, lw, lrr, r, lb, bs, lq, qs, ls, le, sv, p, lr, H0, rfl, _⟩ := h
    rfl
  · obtain ⟨b, lc, rp, plb, pls, tp, lw, lrr, r, lb, bs, lq, qs, ls, le, sv, p, lr, H0, rfl, hp, dp, hR, hz, hlb, k⟩ := h
    refine ⟨_, (pss_one (ps_ret (pe_lc (own := [("_law_deed", 2)]) (g := (gName 2)) rfl sc__law_deeds.nd (pi_list (pe_call (ok__law_all_deeds T) (hr.mono (by decide)) (by rfl) T.g__law_all_deeds T.D__law_all_deeds.kp T.b__law_all_deeds .nil pass0 (pa_cons (pv 0) pa_nil))) (blkOk_by (N := ["_law_plan", "_law_run", "_law_deed"]) (sc := defScope s__law_deeds) (by decide +kernel)) (fun _ _ _ _ _ => (pg_name (i := 2) sc__law_deeds.nd rfl (by first | exact .inl rfl | exact .inr rfl))) (fun _ _ _ _ _ => pts_one (pt_val (pe_call (ok__law_can T) (hr.mono (by decide)) (by rfl) T.g__law_can T.D__law_can.kp T.b__law_can .nil pass0 (pa_cons (pv 0) (pa_cons (pv 1) (pa_cons (pv 2) pa_nil)))))) (fun _ _ _ _ _ => (pv 2))))), ?_⟩
    refine ⟨_, rfl, rp, plb, pls, tp, lw, lrr, p, rfl, hp, dp, fun l ws H2 z2 hln hl hws => ⟨_, rfl, ⟨_, .inl (.inl hl)⟩, fun D hD => ?_⟩⟩
    have hwl := hws.length
    have n3 : p.n ≤ 3 := dp.ok.nb.2
    have l9 : ws.length ≤ 900 := by
      rw [hwl]
      unfold lAllDeeds
      rw [List.length_append, List.length_append, List.length_map, lenPass, List.length_singleton]
      have h2 : sights.length = 4 := rfl
      have : p.n * sights.length ≤ 3 * 4 := Nat.mul_le_mul (by omega) (Nat.le_refl 4)
      omega
    refine lcS (walk_list (xs := ws)) (by omega) hD (fun H e => .inl (.inl (e _ _ hl))) (fun i H acc => All2 (DeAt K H) acc (((lAllDeeds p).take i).filter (lCan p lr))) .nil (fun i H H' acc e h => h.imp fun _ _ => DeAt.keep e) ?_ ?_
    · intro i x H3 H4 acc B N hi e ha r9 y hla kB kN
      obtain ⟨rfl, hx⟩ := y
      obtain ⟨d, hd, b9, rfl, hb⟩ := hws.get' hx
      have hb4 := Same.seqT e hb
      have hin := lall_inRange (List.mem_of_getElem? hd)
      have ez := z2.trans e
      have hsn : (lAllDeeds p).take (i + 1) = (lAllDeeds p).take i ++ [d] := by rw [List.take_succ, hd]; rfl
      refine ⟨rfl, _, rfl, _, rfl, _, rfl, b, lc, rp, plb, pls, tp, lw, lrr, r, lb, bs, lq, qs, ls, le, sv, p, lr, H0, b9, d, rfl, hp.mono ez, dp, hR.up ez, hz, hb4, hin, hlb, fun H5 z5 => ⟨_, rfl, ?_⟩⟩
      by_cases c : lCan p lr d = true
      · refine yes c ?_
        refine ⟨_, rfl, kB _ _ z5 ?_⟩
        rw [hsn, List.filter_append, List.filter_cons_of_pos c, List.filter_nil]
        exact (r9.imp fun _ _ => DeAt.mono z5).append (.cons ⟨b9, rfl, Same.seqT z5 hb4⟩ .nil)
      · refine noo (by simpa using c) ?_
        refine kN _ z5 ?_
        rw [hsn, List.filter_append, List.filter_cons_of_neg c, List.filter_nil, List.append_nil]
        exact r9.imp fun _ _ => DeAt.mono z5
    · intro H3 acc e ha hla r9
      rw [hwl, List.take_length] at r9
      exact k _ _ _ (z2.trans e) (none_back z2 hD) ha r9
end
end Ow
set_option Elab.async false
set_option linter.all false
set_option maxRecDepth 100000
set_option maxHeartbeats 4000000
namespace Ow
open PySem PySem.Spec PyProof.Rows L2
section
variable {P : Program} {w : World} {K : PySem.W.Frag} {mg : Str → Option Value} {base : Heap}
section
variable {b lc r lb lq ls le : Addr} {H0 H H' : Hp} {bs qs : List Addr} {sv : List V} {lr : LR}
theorem LRun.fresh (h : LRun K b lc H0 H r lb bs lq qs ls le sv lr) {l : Addr} (hl : H l = none) : H0 l = none := by
  cases q : H0 l with
  | none => rfl
  | some o =>
    by_cases hb : l = b
    · obtain ⟨xs, hx⟩ := h.x.g.lt
      rw [hb, hx] at hl
      cases hl
    · cases hl.symm.trans (h.x.get hb q)
theorem LRun.fresh_nd (h : LRun K b lc H0 H r lb bs lq qs ls le sv lr) {l : Addr} (hl : H l = none) : (l :: lb :: lq :: le :: (bs ++ qs)).Nodup := by
  have n := h.nd
  rw [List.nodup_cons] at n ⊢
  refine ⟨fun hm => ?_, n.2⟩
  simp only [List.mem_cons, List.mem_append] at hm
  rcases hm with rfl | rfl | rfl | hm | hm
  · cases hl.symm.trans h.hb
  · cases hl.symm.trans h.hq
  · cases hl.symm.trans h.he
  · obtain ⟨i, hi⟩ := List.mem_iff_getElem?.mp hm
    obtain ⟨xs, _, hx⟩ := h.bb.get' hi
    cases hl.symm.trans hx
  · obtain ⟨i, hi⟩ := List.mem_iff_getElem?.mp hm
    obtain ⟨xs, _, hx⟩ := h.qq.get' hi
    cases hl.symm.trans hx
end
theorem LRun.fresh_bq {b lc r lb lq ls le : Addr} {H0 H : Hp} {bs qs : List Addr} {sv : List V} {lr : LR} (h : LRun K b lc H0 H r lb bs lq qs ls le sv lr) {l : Addr} (hl : H l = none) : l ∉ bs ++ qs := fun hm => by
  rcases List.mem_append.mp hm with hm | hm
  · obtain ⟨i, hi⟩ := List.mem_iff_getElem?.mp hm
    obtain ⟨xs, _, hx⟩ := h.bb.get' hi
    cases hl.symm.trans hx
  · obtain ⟨i, hi⟩ := List.mem_iff_getElem?.mp hm
    obtain ⟨xs, _, hx⟩ := h.qq.get' hi
    cases hl.symm.trans hx
/-- all stays but what stands at fp; the tuples stay -/
structure FrE (K : PySem.W.Frag) (fp : List Addr) (H H' : Hp) : Prop where
  e : SameE fp H H'
  t : TupS K H H'
theorem FrE.refl {fp : List Addr} {H : Hp} : FrE K fp H H := ⟨SameE.refl, TupS.refl⟩
theorem FrE.of {fp : List Addr} {H H' : Hp} (z : Same H H') : FrE K fp H H' := ⟨SameE.of z, TupS.of z⟩
theorem FrE.trans {fp : List Addr} {H H1 H2 : Hp} (a : FrE K fp H H1) (b : FrE K fp H1 H2) : FrE K fp H H2 := ⟨a.e.trans b.e, a.t.trans b.t⟩
theorem FrE.lst {fp : List Addr} {H : Hp} {a : Addr} {xs : List V} {o : HO} (m : a ∈ fp) (h : H a = some (.lst xs)) : FrE K fp H (upd H a o) := ⟨SameE.put m, TupS.lst h⟩
theorem FrE.dk {fp : List Addr} {H : Hp} {a : Addr} {xs : List (Key × V)} {o : HO} (m : a ∈ fp) (h : H a = some (.dK xs)) : FrE K fp H (upd H a o) := ⟨SameE.put m, TupS.dk h⟩
theorem FrE.more {fp gp : List Addr} {H H' : Hp} (m : ∀ a ∈ fp, a ∈ gp) (a : FrE K fp H H') : FrE K gp H H' := ⟨a.e.more m, a.t⟩
structure LFit (p : Plan) (lr : LR) : Prop where
  nb : lr.belts.length = p.n
  nq : lr.queues.length = p.n
  b9 : ∀ x ∈ lr.belts, x.length ≤ 800
  q9 : ∀ x ∈ lr.queues, x.length ≤ 800
  s9 : lr.slips.length ≤ 800
  e9 : lr.sent.length ≤ 800
theorem lAdd_len (q : List (Option Int)) (x : Option Int) (room : Int) : (lAdd q x room).length ≤ q.length + 1 := by
  unfold lAdd
  split
  · rw [List.length_drop, List.length_append, List.length_singleton]; omega
  · rw [List.length_append, List.length_singleton]; exact Nat.le_refl _
theorem lAddAll_snoc (room : Int) (r : Option Int) : ∀ (rs q : List (Option Int)), lAddAll room q (rs ++ [r]) = lAdd (lAddAll room q rs) r room
  | [], q => rfl
  | x :: rs, q => lAddAll_snoc room r rs (lAdd q x room)
theorem lAddAll_len (room : Int) : ∀ (rs q : List (Option Int)), (lAddAll room q rs).length ≤ q.length + rs.length
  | [], q => Nat.le_refl _
  | x :: rs, q => by
    have h1 := lAddAll_len room rs (lAdd q x room)
    have h2 := lAdd_len q x room
    show (lAddAll room (lAdd q x room) rs).length ≤ _
    rw [List.length_cons]
    omega
theorem lSees_snoc (p : Plan) (i : Nat) (x : Int) : ∀ (k : Nat) (q on : List (Option Int)), lSees p i x (k + 1) q on = ((lSee p i (lSees p i x k q on).1 x).1, (lSees p i x k q on).2 ++ (lSee p i (lSees p i x k q on).1 x).2)
  | 0, q, on => rfl
  | k + 1, q, on => lSees_snoc p i x k (lSee p i q x).1 (on ++ (lSee p i q x).2)
theorem lSee_len (p : Plan) (i : Nat) (q : List (Option Int)) (x : Int) : (lSee p i q x).1.length ≤ q.length ∧ (lSee p i q x).2.length ≤ 1 := by
  unfold lSee
  split
  · refine ⟨?_, Nat.le_refl _⟩
    dsimp only
    split
    · rw [List.length_drop]; omega
    · split
      · rw [List.length_drop]; omega
      · exact Nat.le_refl _
  · cases q with
    | nil => refine ⟨Nat.le_refl _, ?_⟩; dsimp only; split <;> simp
    | cons y r => exact ⟨Nat.le_succ _, Nat.le_refl _⟩
theorem lSees_len (p : Plan) (i : Nat) (x : Int) (q : List (Option Int)) : ∀ k, (lSees p i x k q []).1.length ≤ q.length ∧ (lSees p i x k q []).2.length ≤ k
  | 0 => ⟨Nat.le_refl _, Nat.le_refl _⟩
  | k + 1 => by
    have ih := lSees_len p i x q k
    have h := lSee_len p i (lSees p i x k q []).1 x
    rw [lSees_snoc]
    dsimp only
    rw [List.length_append]
    omega
theorem tupT {H : Hp} {p : Addr} {xs : List V} (h : H p = some (.tup xs)) : SqT K H p xs := .inl (.inl h)
def olds : Option Int → List (Option Int)
  | none => []
  | some o => [some o]
/-- records appended, one behind the other -/
theorem addLoop {b lc rp plb pls tp lw lrr r lb : Addr} {bs : List Addr} {lq : Addr} {qs : List Addr} {ls le : Addr} {sv : List V} {p : Plan} {lr : LR} {H0 H : Hp} {i : Nat} {rs : List (Option Int)} {σ : L2.St} {vi : Nat} {ti : TE} {D : Ends} {l4 : Addr} (hp0 : LPlan K H0 rp plb pls tp lw lrr p) (dp : Drawn p)
    (hR : LRun K b lc H0 H r lb bs lq qs ls le sv lr) (hl : H l4 = some (.lst (rs.map oV))) (hi : i < p.n) (hq : lr.queues.length = p.n) (hz : (lr.queues.getD i []).length + rs.length ≤ 900) (nq : l4 ∉ qs)
    (s0 : ∀ v, (σ.set vi (some v))[0]? = some (some (.ref rp))) (s1 : ∀ v, (σ.set vi (some v))[1]? = some (some (.ref r))) (sl : vi < σ.length) (hti : ∀ v H (Q : VK), Q (.int (i : Int)) H → ti (σ.set vi (some v)) H Q)
    (k : ∀ u H', SameE qs H H' → TupS K H H' → LRun K b lc H0 H' r lb bs lq qs ls le sv { lr with queues := lr.queues.set i (lAddAll (p.rooms.getD i 0) (lr.queues.getD i []) rs) } → D.nx (σ.set vi u) H') :
    ∃ W : Nat → Nat → L2.St → Hp → Prop, (∃ m, W 0 m σ H) ∧ ∀ j m σ H, W j m σ H →
      ((Itl K l4).stop j H ∧ D.nx σ H) ∨ ((Itl K l4).go j H ∧ ∃ N : L2.St → Hp → Prop, (∀ σ' H', N σ' H' → ∃ m', m' < m ∧ W (j + 1) m' σ' H') ∧ ∀ x H', (Itl K l4).yld j H x H' → gName vi x σ H' fun σ2 H2 =>
        tDrop (tCall (sp_lawAdd K) [] E0 (tCons (tVar 0) (tCons (tVar 1) (tCons ti (tCons (tVar vi) tNil))))) { D with nx := N, ct := N, bk := D.nx } σ2 H2) := by
  have q0 : lr.queues.set i (lr.queues.getD i []) = lr.queues := set_getD (by omega)
  refine for_it (walk_list (xs := rs.map oV)) (fun j σ' H' => (∃ u, σ' = σ.set vi u) ∧ H' l4 = some (.lst (rs.map oV)) ∧ SameE qs H H' ∧ TupS K H H' ∧ LRun K b lc H0 H' r lb bs lq qs ls le sv { lr with queues := lr.queues.set i (lAddAll (p.rooms.getD i 0) (lr.queues.getD i []) (rs.take j)) })
    ⟨⟨σ[vi], (List.set_getElem_self sl).symm⟩, hl, SameE.refl, TupS.refl, ?_⟩ (fun j σ' H' _ h => .inl (.inl h.2.1)) ?_ ?_
  · rw [List.take_zero]
    show LRun K b lc H0 H r lb bs lq qs ls le sv { lr with queues := lr.queues.set i (lr.queues.getD i []) }
    rw [q0]
    exact hR
  · rintro j y σ' H3 H4 hj ⟨⟨u, rfl⟩, hl3, e3, t3, hR3⟩ ⟨rfl, hy⟩
    rw [List.getElem?_map] at hy
    obtain ⟨o, ho, rfl⟩ := Option.map_eq_some_iff.mp hy
    have hsn : rs.take (j + 1) = rs.take j ++ [o] := by rw [List.take_succ, ho]; rfl
    have hjl : j < rs.length := (List.getElem?_eq_some_iff.mp ho).1
    have egd : (lr.queues.set i (lAddAll (p.rooms.getD i 0) (lr.queues.getD i []) (rs.take j))).getD i [] = lAddAll (p.rooms.getD i 0) (lr.queues.getD i []) (rs.take j) := by
      rw [List.getD_eq_getElem?_getD, List.getElem?_set_self (by omega)]
      rfl
    have ss : (σ.set vi u).set vi (some (oV o)) = σ.set vi (some (oV o)) := by rw [List.set_set]
    show tDrop _ _ ((σ.set vi u).set vi (some (oV o))) H4
    rw [ss]
    refine ⟨_, s0 _, _, s1 _, hti _ _ _ ⟨_, List.getElem?_set_self sl, ?_⟩⟩
    refine ⟨b, lc, rp, plb, pls, tp, lw, lrr, r, lb, bs, lq, qs, ls, le, sv, p, _, H0, i, o, rfl, hp0, dp, hR3, hi, by rw [List.length_set]; exact hq, ?_, fun H5 e5 t5 hR5 => ⟨⟨_, rfl⟩, e5 _ _ nq hl3, e3.trans e5, t3.trans t5, ?_⟩⟩
    · dsimp only
      rw [egd]
      have := lAddAll_len (p.rooms.getD i 0) (rs.take j) (lr.queues.getD i [])
      rw [List.length_take] at this
      omega
    · dsimp only at hR5
      rw [egd, List.set_set] at hR5
      rw [hsn, lAddAll_snoc]
      exact hR5
  · rintro σ' H3 ⟨⟨u, rfl⟩, hl3, e3, t3, hR3⟩
    rw [List.length_map, List.take_length] at hR3
    exact k u H3 e3 t3 hR3
def sp_lawDo (K : PySem.W.Frag) : Sp := fun vs H Q _ => ∃ (b lc rp plb pls tp lw lrr r lb : Addr) (bs : List Addr) (lq : Addr) (qs : List Addr) (ls le : Addr) (sv : List V) (p : Plan) (lr : LR) (H0 : Hp) (bd : Addr) (d : Deed), vs = [.ref rp, .ref r, .ref bd] ∧ LPlan K H0 rp plb pls tp lw lrr p ∧ Drawn p ∧ LRun K b lc H0 H r lb bs lq qs ls le sv lr ∧
  SqT K H bd (dV d) ∧ inRange p d = true ∧ lCan p lr d = true ∧ LFit p lr ∧ ∀ H' ls' sv', LRun K b lc H0 H' r lb bs lq qs ls' le sv' (lDo p lr d) → FrE K (r :: le :: (bs ++ qs)) H H' → (ls' = ls ∨ H ls' = none) → Q .non H'
theorem sc__law_do : FnScope ["_law_plan", "_law_run", "_law_deed", "_law_queue", "_law_sight", "_law_times", "_law_label", "_law_old", "_law_record", "_law_at", "_law_onward", "_law_turn"] ["_law_plan", "_law_run", "_law_deed"] (defScope s__law_do) := ⟨rfl, rfl, rfl, by decide +kernel, rfl, by decide +kernel, by decide +kernel⟩
theorem Txt.b__law_do (T : Txt w K mg) : Binds K (fdA K (He.ga K "_law_do")) ["_law_plan", "_law_run", "_law_deed"] [] := T.F__law_do.binds fun _ _ _ _ _ _ us hl => match us, hl with | [_, _, _], _ => rfl
theorem ok__law_do (T : Txt w K mg) : FnOk P w K mg base CX0 3 (He.ga K "_law_do") (fdA K (He.ga K "_law_do")) ["_law_plan", "_law_run", "_law_deed"] (sp_lawDo K) := by
  refine T.F__law_do.ok sc__law_do (fun vs H Q E h => ?_) (fun cdv A outer s H vs Q E hr h => ?_)
  · obtain ⟨b, lc, rp, plb, pls, tp, lw, lrr, r, lb, bs, lq, qs, ls, le, sv, p, lr, H0, bd, d, rfl, _⟩ := h
    rfl
  · obtain ⟨b, lc, rp, plb, pls, tp, lw, lrr, r, lb, bs, lq, qs, ls, le, sv, p, lr, H0, bd, d, rfl, hp0, dp, hR, hd, hin, hcan, fit, k⟩ := h
    refine ⟨_, (pss_cons (ps_if (pt_cmpR (op_eqD hr.units) (pv 2) (pe_tup (pa_cons pe_str pa_nil)) (nomark _)) (pss_cons (ps_dput (hu_of hr) (pv 1) pe_str pe_int rfl)
        (pss_cons (ps_for PassesOwn.never rfl (pi_list (pe_dget (hu_of hr) (pv 1) pe_str (fun _ _ => rfl))) (pg_name (i := 3) sc__law_do.nd rfl (by first | exact .inl rfl | exact .inr rfl)) (pss_one (ps_if (pt_cmpR op_eq (pe_dget (hu_of hr) (pv 0) pe_str (fun _ _ => rfl)) pe_str (nomark _)) (pss_one (ps_expr (pe_bm0 PySem.F.plainAttrs_list PySem.F.slot_list_clear PySem.F.type_list_clear mt_clear (pv 3)))) pss_nil)))
        (pss_one ps_retN))) pss_nil)
      (pss_cons (ps_set (i := 4) sc__law_do.nd rfl (by first | exact .inl rfl | exact .inr rfl) (pe_ix ix_tup (pv 2) (pe_op op_sub (pe_callB (cr_lenK (K := K)) (by rfl) T.f_len (by decide +kernel) (pa_cons (pv 2) pa_nil)) pe_int) (fun _ _ => rfl)))
      (pss_cons (ps_dput (hu_of hr) (pv 1) pe_str (pe_op op_cat (pe_dget (hu_of hr) (pv 1) pe_str (fun _ _ => rfl)) (pe_lst (pa_cons (pe_callTy call_int1 (by rfl) T.f_int (by decide +kernel) (pa_cons (pe_cmpR op_ne (pv 4) pe_str (nomark _)) pa_nil)) pa_nil))) rfl)
      (pss_cons (ps_set (i := 5) sc__law_do.nd rfl (by first | exact .inl rfl | exact .inr rfl) (pe_ifExp (pt_cmpR op_ne (pv 4) pe_str (nomark _)) (pe_bm PySem.F.plainAttrs_list PySem.F.slot_list_index PySem.F.type_list_index mt_index (pe_lst (pa_cons pe_str (pa_cons pe_str (pa_cons pe_str (pa_cons pe_str pa_nil))))) (pa_cons (pv 4) pa_nil)) pe_int))
      (pss_cons (ps_if (pt_cmpR op_eq (pe_ix ix_tup (pv 2) pe_int (fun _ _ => rfl)) pe_str (nomark _)) (pss_cons (ps_par (i := 6) (j := 7) rfl sc__law_do.nd rfl rfl (by decide) rfl rfl (pa_cons (pe_dget (hu_of hr) (pv 1) pe_str (fun _ _ => rfl)) (pa_cons (pe_dget (hu_of hr) (pv 1) pe_str (fun _ _ => rfl)) pa_nil)) (by rfl))
        (pss_cons (ps_asg (pe_tup (pa_cons (pe_op op_add (pv 6) pe_int) (pa_cons (pe_op op_add (pe_dget (hu_of hr) (pv 1) pe_str (fun _ _ => rfl)) pe_int) pa_nil))) (pg_tup rfl (pgs_cons (pg_sub (pv 1) pe_str (set_dict (hu_of hr))) (pgs_cons (pg_sub (pv 1) pe_str (set_dict (hu_of hr))) pgs_nil))))
        (pss_cons (ps_expr (pe_bm PySem.F.plainAttrs_list PySem.F.slot_list_append PySem.F.type_list_append mt_append (pe_ix ix_list (pe_dget (hu_of hr) (pv 1) pe_str (fun _ _ => rfl)) pe_int (fun _ _ => rfl)) (pa_cons (pv 6) pa_nil)))
        (pss_cons (ps_for PassesOwn.never rfl (pi_list (pe_op op_cat (pe_op op_rep (pe_lst (pa_cons (pv 6) pa_nil)) (pv 5)) (pe_ifExp (pt_cmpR op_notN (pv 7) pe_non (nomark _)) (pe_lst (pa_cons (pv 7) pa_nil)) (pe_lst pa_nil)))) (pg_name (i := 8) sc__law_do.nd rfl (by first | exact .inl rfl | exact .inr rfl)) (pss_one (ps_expr (pe_call (ok__law_add T) (hr.mono (by decide)) (by rfl) T.g__law_add T.D__law_add.kp T.b__law_add .nil pass0 (pa_cons (pv 0) (pa_cons (pv 1) (pa_cons pe_int (pa_cons (pv 8) pa_nil))))))))
        (pss_cons (ps_dput (hu_of hr) (pv 1) pe_str (pe_ifExp (pt_cmpR op_eq (pv 4) pe_str (nomark _)) (pv 6) pe_non) rfl)
        (pss_one ps_retN)))))) pss_nil)
      (pss_cons (ps_set (i := 9) sc__law_do.nd rfl (by first | exact .inl rfl | exact .inr rfl) (pe_ix ix_tup (pv 2) pe_int (fun _ _ => rfl)))
      (pss_cons (ps_par (i := 6) (j := 10) rfl sc__law_do.nd rfl rfl (by decide) rfl rfl (pa_cons (pe_bm PySem.F.plainAttrs_list PySem.F.slot_list_pop PySem.F.type_list_pop mt_popAt (pe_ix ix_list (pe_dget (hu_of hr) (pv 1) pe_str (fun _ _ => rfl)) (pe_op op_sub (pv 9) pe_int) (fun _ _ => rfl)) (pa_cons pe_int pa_nil)) (pa_cons (pe_lst pa_nil) pa_nil)) (by rfl))
      (pss_cons (ps_for PassesOwn.never rfl (pi_range1 (by rfl) T.f_range (pa_cons (pv 5) pa_nil)) (pg_name (i := 11) sc__law_do.nd rfl (by first | exact .inl rfl | exact .inr rfl)) (pss_one (ps_set (i := 10) sc__law_do.nd rfl (by first | exact .inl rfl | exact .inr rfl) (pe_op op_cat (pv 10) (pe_call (ok__law_see T) (hr.mono (by decide)) (by rfl) T.g__law_see T.D__law_see.kp T.b__law_see .nil pass0 (pa_cons (pv 0) (pa_cons (pv 1) (pa_cons (pv 9) (pa_cons (pv 6) pa_nil)))))))))
      (pss_cons (ps_if (pt_cmpR op_eq (pv 9) (pe_callB (cr_lenK (K := K)) (by rfl) T.f_len (by decide +kernel) (pa_cons (pe_dget (hu_of hr) (pv 1) pe_str (fun _ _ => rfl)) pa_nil)) (nomark _)) (pss_cons (ps_expr (pe_bm PySem.F.plainAttrs_list PySem.F.slot_list_append PySem.F.type_list_append mt_append (pe_dget (hu_of hr) (pv 1) pe_str (fun _ _ => rfl)) (pa_cons (pe_tup (pa_cons (pv 6) (pa_cons (pe_ifExp (pt_cmpR (op_neD hr.units) (pv 10) (pe_lst pa_nil) (nomark _)) (pe_ix ix_list (pv 10) pe_int (fun _ _ => rfl)) pe_non) pa_nil))) pa_nil)))
        (pss_one ps_retN)) pss_nil)
      (pss_cons (ps_expr (pe_bm PySem.F.plainAttrs_list PySem.F.slot_list_append PySem.F.type_list_append mt_append (pe_ix ix_list (pe_dget (hu_of hr) (pv 1) pe_str (fun _ _ => rfl)) (pv 9) (fun _ _ => rfl)) (pa_cons (pv 6) pa_nil)))
      (pss_one (ps_for PassesOwn.never rfl (pi_list (pv 10)) (pg_name (i := 8) sc__law_do.nd rfl (by first | exact .inl rfl | exact .inr rfl)) (pss_one (ps_expr (pe_call (ok__law_add T) (hr.mono (by decide)) (by rfl) T.g__law_add T.D__law_add.kp T.b__law_add .nil pass0 (pa_cons (pv 0) (pa_cons (pv 1) (pa_cons (pv 9) (pa_cons (pv 8) pa_nil))))))))))))))))))), ?_⟩
    have mr : r ∈ r :: le :: (bs ++ qs) := List.mem_cons_self
    have me : le ∈ r :: le :: (bs ++ qs) := List.mem_cons_of_mem _ List.mem_cons_self
    have mb : ∀ a ∈ bs, a ∈ r :: le :: (bs ++ qs) := fun a h => List.mem_cons_of_mem _ (List.mem_cons_of_mem _ (List.mem_append_left _ h))
    have mq : ∀ a ∈ qs, a ∈ r :: le :: (bs ++ qs) := fun a h => List.mem_cons_of_mem _ (List.mem_cons_of_mem _ (List.mem_append_right _ h))
    generalize hfp : r :: le :: (bs ++ qs) = fp at mr me mb mq k
    refine ⟨_, rfl, ok_le (by simp), fun tq htq => ?_⟩
    have z1 := Same.up (o := .tup [V.str "pause"]) htq
    refine ⟨_, _, dpDeed (Same.seqT z1 hd), dpDeed (d := .pause) newT, shaped_deed d, shaped_deed .pause, _, rfl, ?_⟩
    rw [eqv_pause]
    have hR1 := hR.up z1
    have hd1 := Same.seqT z1 hd
    have f1 : FrE K fp H (upd H tq (.tup [V.str "pause"])) := .of z1
    generalize upd H tq (.tup [V.str "pause"]) = H1 at z1 hR1 hd1 f1
    have hp1 := hp0.bx hR1.g0 hR1.x
    by_cases c0 : d = .pause
    · subst c0
      refine yes (decide_eq_true rfl) ?_
      refine ⟨_, rfl, r, _, rfl, dput_at (i := 4) hR1.at_ runK_nodup rfl (Nat.le_of_ble_eq_true rfl), ?_⟩
      have hR2 := hR1.putR (ls' := ls) (lr' := { lr with since := 0 }) hR1.hs hR1.nd (hR1.off ls (by simp)) rfl rfl rfl
      have f2 : FrE K fp H (upd H1 r (.dK (runK lb lq ls le { lr with since := 0 }))) := f1.trans (.dk mr hR1.at_)
      dsimp only
      refine seqE (M := fun σ' H' => ∃ u, σ' = [some (.ref rp), some (.ref r), some (.ref bd), u, none, none, none, none, none, none, none, none] ∧ LRun K b lc H0 H' r lb bs lq qs ls le sv (lDo p lr .pause) ∧ FrE K fp H H') (fun N kN => ?_) ?_
      · refine ⟨_, rfl, r, _, rfl, hR2.queues, _, rfl, ⟨_, .inl (.inl hR2.hq)⟩, ?_⟩
        refine for_it (walk_list (xs := qs.map V.ref)) (fun j σ' H' => ∃ u, σ' = [some (.ref rp), some (.ref r), some (.ref bd), u, none, none, none, none, none, none, none, none] ∧ LRun K b lc H0 H' r lb bs lq qs ls le sv { lr with since := 0, queues := if p.clear then List.replicate j [] ++ lr.queues.drop j else lr.queues } ∧ FrE K fp H H')
          ⟨_, rfl, ?_, f2⟩ (fun j σ' H' _ h => ?_) ?_ ?_
        · have e0 : (if p.clear then List.replicate 0 [] ++ lr.queues.drop 0 else lr.queues) = lr.queues := by cases p.clear <;> rfl
          rw [e0]
          exact hR2
        · obtain ⟨u, _, h, _⟩ := h
          exact .inl (.inl h.hq)
        · rintro j y σ' H3 H4 hj ⟨u, rfl, h, f4⟩ ⟨rfl, hy⟩
          rw [List.getElem?_map] at hy
          obtain ⟨a, ha, rfl⟩ := Option.map_eq_some_iff.mp hy
          have hp3 := hp0.bx h.g0 h.x
          have hjl : j < lr.queues.length := by
            rw [List.length_map, hR.qq.length] at hj
            exact hj
          refine ⟨_, rfl, rp, _, rfl, hp3.pause, rfl, _, rfl, ?_⟩
          cases hc : p.clear with
          | true =>
            rw [hc] at h
            refine yes (by decide +kernel) ?_
            obtain ⟨xs, hxs, hax⟩ := h.qq.get' ha
            refine ⟨_, rfl, tyLst hax, a, _, rfl, rfl, hax, ?_⟩
            refine ⟨_, rfl, ?_, f4.trans (.lst (mq _ (List.mem_of_getElem? ha)) hax)⟩
            have h5 := h.putQ [] ha hax
            have e5 : (List.replicate j ([] : List (Option Int)) ++ lr.queues.drop j).set j [] = List.replicate (j + 1) [] ++ lr.queues.drop (j + 1) := by
              rw [List.drop_eq_getElem_cons hjl, List.set_append_right _ _ (by simp), List.length_replicate, Nat.sub_self, List.set_cons_zero, List.replicate_succ', List.append_assoc]
              rfl
            have h6 : LRun K b lc H0 (upd H4 a (.lst [])) r lb bs lq qs ls le sv { lr with since := 0, queues := (List.replicate j ([] : List (Option Int)) ++ lr.queues.drop j).set j [] } := h5
            rw [e5] at h6
            exact h6
          | false =>
            rw [hc] at h
            refine noo (by decide +kernel) ?_
            exact ⟨_, rfl, h, f4⟩
        · rintro σ' H3 ⟨u, rfl, h, f4⟩
          refine kN _ _ ⟨u, rfl, ?_, f4⟩
          rw [List.length_map, hR.qq.length, List.drop_length, List.append_nil] at h
          exact h
      rintro σ' H3 ⟨u, rfl, h, f3⟩
      exact k H3 ls sv h f3 (.inl rfl)
    · refine noo (decide_eq_false c0) ?_
      dsimp only [tNext]
      obtain ⟨g, eg, ed⟩ : ∃ g, atI (dV d) (((dV d).length : Int) - 1) = some (.str (gS g)) ∧ (d = .come g ∨ ∃ i, d = .pass i g) := by
        cases d with
        | pause => exact absurd rfl c0
        | come g => exact ⟨g, rfl, .inl rfl⟩
        | pass i g => exact ⟨g, rfl, .inr ⟨i, rfl⟩⟩
      refine ⟨_, rfl, _, rfl, _, _, rfl, .inr hd1, _, _, rfl, rfl, _, _, _, _, rfl, rfl, hd1, eg, ?_⟩
      dsimp only [gName]
      refine seqE (M := fun σ' H' => FrE K fp H H' ∧ ∃ ls', H ls' = none ∧ LRun K b lc H0 H' r lb bs lq qs ls' le sv { lr with slips := lr.slips ++ [if g = Sight.once then 0 else 1] } ∧ TupS K H1 H' ∧ σ' = [some (.ref rp), some (.ref r), some (.ref bd), none, some (.str (gS g)), none, none, none, none, none, none, none]) (fun N kN => ?_) ?_
      · refine ⟨_, rfl, r, _, rfl, hR1.slips, ?_⟩
        refine ⟨_, rfl, rfl, .inr ⟨_, rfl, ok_le (by simp), fun l1 hl1 => ?_⟩⟩
        have y1 := Same.up (o := .lst [V.int (if (!decide (V.str (gS g) = V.str "once")) = true then 1 else 0)]) hl1
        have hR1a := hR1.up y1
        refine ⟨ls, l1, _, _, rfl, rfl, hR1a.hs, upd_same, ?_, fun l2 hl2 => ?_⟩
        · rw [List.length_map]
          exact Nat.le_trans (show lr.slips.length + 1 ≤ 801 from Nat.succ_le_succ fit.s9) (by decide)
        have ev : lr.slips.map V.int ++ [V.int (if (!decide (V.str (gS g) = V.str "once")) = true then 1 else 0)] = (lr.slips ++ [if g = Sight.once then 0 else 1]).map V.int := by
          rw [List.map_append]
          cases g <;> rfl
        have y2 := Same.up (o := .lst (lr.slips.map V.int ++ [V.int (if (!decide (V.str (gS g) = V.str "once")) = true then 1 else 0)])) hl2
        have hR1b := hR1a.up y2
        have hs2 : upd (upd H1 l1 (.lst [V.int (if (!decide (V.str (gS g) = V.str "once")) = true then 1 else 0)])) l2 (.lst (lr.slips.map V.int ++ [V.int (if (!decide (V.str (gS g) = V.str "once")) = true then 1 else 0)])) l2 = some (.lst ((lr.slips ++ [if g = Sight.once then 0 else 1]).map V.int)) := by
          rw [upd_same, ev]
        refine ⟨_, rfl, r, _, rfl, dput_at (i := 3) hR1b.at_ runK_nodup rfl (Nat.le_of_ble_eq_true rfl), ?_⟩
        have hR1c := hR1b.putR (ls' := l2) (lr' := { lr with slips := lr.slips ++ [if g = Sight.once then 0 else 1] }) hs2 (hR1a.fresh_nd hl2) (hR1a.fresh hl2) rfl rfl rfl
        exact kN _ _ ⟨f1.trans ((FrE.of (y1.trans y2)).trans (.dk mr hR1b.at_)), l2, none_back (z1.trans y1) hl2, hR1c, (TupS.of (y1.trans y2)).trans (TupS.dk hR1b.at_), rfl⟩
      rintro σ1 H2 ⟨f2, ls', hln, hR2, t2, rfl⟩
      refine seqE (M := fun σ' H' => Same H2 H' ∧ σ' = [some (.ref rp), some (.ref r), some (.ref bd), none, some (.str (gS g)), some (.int (g.times : Int)), none, none, none, none, none, none]) (fun N kN => ?_) ?_
      · refine ⟨_, rfl, rfl, _, rfl, ?_⟩
        by_cases cs : g = Sight.swapped
        · refine noo (by rw [cs]; rfl) ?_
          exact kN _ _ ⟨Same.refl _, by rw [cs]; rfl⟩
        · refine yes (by cases g <;> first | exact absurd rfl cs | rfl) ?_
          refine ⟨ok_le (by simp), fun l1 hl1 => ?_⟩
          have y1 := Same.up (o := .lst [V.str "missed", V.str "once", V.str "twice", V.str "swapped"]) hl1
          refine ⟨tyLst upd_same, _, rfl, l1, _, _, g.times, .str (gS g), rfl, rfl, .inl (.inl upd_same), rfl, rfl, ?_, ?_, ?_, ?_⟩
          · cases g <;> first | exact absurd rfl cs | rfl
          · cases g <;> decide +kernel
          · intro m z' hm hz
            cases g with
            | swapped => exact absurd rfl cs
            | missed => exact absurd hm (Nat.not_lt_zero m)
            | once =>
              obtain rfl : m = 0 := Nat.lt_one_iff.mp hm
              cases hz
              decide +kernel
            | twice =>
              have hm2 : m < 2 := hm
              rcases (by omega : m = 0 ∨ m = 1) with rfl | rfl
              · cases hz
                decide +kernel
              · cases hz
                decide +kernel
          · exact kN _ _ ⟨y1, rfl⟩
      rintro σ1 H3 ⟨z3, rfl⟩
      have hR3 := hR2.up z3
      have f3 := f2.trans (.of z3)
      have hd3 := Same.seqT z3 (t2 _ _ hd1)
      rcases ed with rfl | ⟨i, rfl⟩
      · refine ⟨_, rfl, _, _, _, .str "come", rfl, rfl, hd3, rfl, rfl, _, rfl, yes rfl ?_⟩
        refine ⟨_, rfl, r, _, rfl, hR3.came, _, rfl, r, _, rfl, hR3.swap, _, _, rfl, ?_⟩
        dsimp only
        refine ⟨_, rfl, _, _, rfl, rfl, _, rfl, r, _, rfl, hR3.since, _, _, rfl, rfl, ok_le (by simp), fun t ht => ?_⟩
        have y1 := Same.up (o := .tup [V.int (lr.came + 1), V.int (lr.since + 1)]) ht
        have hR4 := hR3.up y1
        refine ⟨t, _, rfl, newT, rfl, ?_⟩
        refine ⟨_, _, rfl, _, rfl, r, _, rfl, dput_at (i := 5) hR4.at_ runK_nodup rfl (Nat.le_of_ble_eq_true rfl), ?_⟩
        refine ⟨_, _, rfl, _, rfl, r, _, rfl, dput_at (i := 4) (kvs := [] ++ runK lb lq ls' le { lr with slips := lr.slips ++ [if g = Sight.once then 0 else 1], came := lr.came + 1 }) upd_same runK_nodup rfl (Nat.le_of_ble_eq_true rfl), rfl, ?_⟩
        have eset : (([] : List (Key × V)) ++ runK lb lq ls' le { lr with slips := lr.slips ++ [if g = Sight.once then 0 else 1], came := lr.came + 1 }).set 4 (Sum.inr "since", V.int (lr.since + 1)) = runK lb lq ls' le { lr with slips := lr.slips ++ [if g = Sight.once then 0 else 1], came := lr.came + 1, since := lr.since + 1 } := rfl
        rw [upd_upd, eset]
        have hR5 := hR4.putR (ls' := ls') (lr' := { lr with slips := lr.slips ++ [if g = Sight.once then 0 else 1], came := lr.came + 1, since := lr.since + 1 }) hR4.hs hR4.nd (hR4.off ls' (by simp)) rfl rfl rfl
        have hd5 : SqT K (upd (upd H3 t (.tup [V.int (lr.came + 1), V.int (lr.since + 1)])) r (.dK (runK lb lq ls' le { lr with slips := lr.slips ++ [if g = Sight.once then 0 else 1], came := lr.came + 1, since := lr.since + 1 }))) bd (dV (.come g)) := TupS.dk hR4.at_ _ _ (Same.seqT y1 hd3)
        have n0 : 0 < lr.belts.length := by
          rw [fit.nb]
          exact dp.ok.nb.1
        obtain ⟨a0, ha0, hb0⟩ := intsGet hR5.bb n0
        dsimp only
        refine ⟨_, rfl, r, _, rfl, hR5.belts, _, _, _, .ref a0, rfl, rfl, .inl (.inl hR5.hb), atI_nat (j := 0) (by rw [List.getElem?_map, ha0]; rfl), tyLst hb0, _, rfl, a0, _, _, rfl, rfl, hb0, ?_, ?_⟩
        · rw [List.length_map]
          exact Nat.lt_of_le_of_lt (fit.b9 _ (by rw [List.getD_eq_getElem?_getD, List.getElem?_eq_getElem n0]; exact List.getElem_mem n0)) (by decide)
        have em : (lr.belts.getD 0 [] ++ [lr.came]).map V.int = (lr.belts.getD 0 []).map V.int ++ [V.int lr.came] := by rw [List.map_append]; rfl
        have hR6 := hR5.putB (lr.belts.getD 0 [] ++ [lr.came]) ha0 hb0
        rw [em] at hR6
        have hd6 : SqT K (upd (upd (upd H3 t (.tup [V.int (lr.came + 1), V.int (lr.since + 1)])) r (.dK (runK lb lq ls' le { lr with slips := lr.slips ++ [if g = Sight.once then 0 else 1], came := lr.came + 1, since := lr.since + 1 }))) a0 (.lst ((lr.belts.getD 0 []).map V.int ++ [V.int lr.came]))) bd (dV (.come g)) := TupS.lst hb0 _ _ hd5
        have f6 : FrE K fp H (upd (upd (upd H3 t (.tup [V.int (lr.came + 1), V.int (lr.since + 1)])) r (.dK (runK lb lq ls' le { lr with slips := lr.slips ++ [if g = Sight.once then 0 else 1], came := lr.came + 1, since := lr.since + 1 }))) a0 (.lst ((lr.belts.getD 0 []).map V.int ++ [V.int lr.came]))) :=
          ((f3.trans (.of y1)).trans (.dk mr hR4.at_)).trans (.lst (mb _ (List.mem_of_getElem? ha0)) hb0)
        dsimp only
        refine seqE (M := fun σ' H' => ∃ u, LRun K b lc H0 H' r lb bs lq qs ls' le sv { lDo p lr (.come g) with swap := lr.swap } ∧ FrE K fp H H' ∧ σ' = [some (.ref rp), some (.ref r), some (.ref bd), none, some (.str (gS g)), some (.int (g.times : Int)), some (.int lr.came), some (oV lr.swap), u, none, none, none]) (fun N kN => ?_) ?_
        · have gt2 : g.times ≤ 2 := by cases g <;> decide
          generalize upd (upd (upd H3 t (.tup [V.int (lr.came + 1), V.int (lr.since + 1)])) r _) a0 _ = H6 at hR6 hd6 f6 ⊢
          refine ⟨_, rfl, ok_le (by simp), fun l1 hl1 => ⟨_, rfl, l1, _, _, rfl, rfl, upd_same, by omega, by omega, ?_, fun l2 hl2 => ?_⟩⟩
          · exact Nat.le_trans (show 1 * ((g.times : Nat) : Int).toNat ≤ 2 by omega) (by decide)
          have y2 := Same.up (o := .lst [V.int lr.came]) hl1
          have y3 := Same.up (o := .lst (List.replicate ((g.times : Nat) : Int).toNat [V.int lr.came]).flatten) hl2
          have y23 := y2.trans y3
          have e2 := upd_same (H := upd H6 l1 (.lst [V.int lr.came])) (a := l2) (o := .lst (List.replicate ((g.times : Nat) : Int).toNat [V.int lr.came]).flatten)
          generalize upd (upd H6 l1 (.lst [V.int lr.came])) l2 (.lst (List.replicate ((g.times : Nat) : Int).toNat [V.int lr.came]).flatten) = H7 at y23 e2
          have hR7 := hR6.up y23
          have f7 := f6.trans (.of y23)
          show tIf _ _ _ _ _ _
          refine valE (M := fun v H' => ∃ l3, v = .ref l3 ∧ Same H7 H' ∧ H' l3 = some (.lst ((olds lr.swap).map oV))) (fun N2 kN2 => ?_) ?_
          · refine ⟨_, rfl, rfl, _, rfl, ?_⟩
            cases hsw : lr.swap with
            | none => exact noo rfl ⟨ok_le (by simp), fun l3 hl3 => kN2 _ _ ⟨l3, rfl, Same.up hl3, by rw [hsw]; exact upd_same⟩⟩
            | some o => exact yes rfl ⟨_, rfl, ok_le (by simp), fun l3 hl3 => kN2 _ _ ⟨l3, rfl, Same.up hl3, by rw [hsw]; exact upd_same⟩⟩
          rintro _ H8 ⟨l3, rfl, z8, hl3⟩
          have eo : (olds lr.swap).length ≤ 1 := by cases lr.swap <;> simp [olds]
          have er : (List.replicate ((g.times : Nat) : Int).toNat [V.int lr.came]).flatten = (List.replicate g.times (some lr.came)).map oV := by
            rw [Int.toNat_natCast, List.map_replicate]
            cases g <;> rfl
          rw [er] at e2
          refine ⟨l2, l3, _, _, rfl, rfl, z8 _ _ e2, hl3, ?_, fun l4 hl4 => ?_⟩
          · rw [List.length_map, List.length_map, List.length_replicate]
            exact Nat.le_trans (show g.times + (olds lr.swap).length ≤ 3 by omega) (by decide)
          have z9 := Same.up (o := .lst ((List.replicate g.times (some lr.came)).map oV ++ (olds lr.swap).map oV)) hl4
          have hR8 := (hR7.up z8).up z9
          have f9 := f7.trans (.of (z8.trans z9))
          have hl5 : upd H8 l4 (.lst ((List.replicate g.times (some lr.came)).map oV ++ (olds lr.swap).map oV)) l4 = some (.lst ((List.replicate g.times (some lr.came) ++ olds lr.swap).map oV)) := by
            rw [upd_same, List.map_append]
          have nq4 : l4 ∉ qs := fun hm => by
            obtain ⟨q4, hq4⟩ := List.mem_iff_getElem?.mp hm
            obtain ⟨xs, _, hx⟩ := (hR7.up z8).qq.get' hq4
            cases hl4.symm.trans hx
          have el : lDo p lr (.come g) = { lr with belts := lr.belts.set 0 (lr.belts.getD 0 [] ++ [lr.came]), queues := lr.queues.set 0 (lAddAll (p.rooms.getD 0 0) (lr.queues.getD 0 []) (List.replicate g.times (some lr.came) ++ olds lr.swap)), swap := if g = .swapped then some lr.came else none, slips := lr.slips ++ [if g = .once then 0 else 1], since := lr.since + 1, came := lr.came + 1 } := by
            unfold lDo
            cases lr.swap <;> rfl
          refine ⟨l4, rfl, ⟨_, .inl (.inl hl5)⟩, ?_⟩
          refine addLoop (i := 0) (rs := List.replicate g.times (some lr.came) ++ olds lr.swap) hp0 dp hR8 hl5 (by have := dp.ok.nb.1; exact this) fit.nq ?_ nq4 (fun _ => rfl) (fun _ => rfl) (Nat.le_of_ble_eq_true rfl) (fun _ _ _ h => h) fun u H10 e10 t10 hR10 => ?_
          · show (lr.queues.getD 0 []).length + _ ≤ 900
            rw [List.length_append, List.length_replicate]
            have h9 : (lr.queues.getD 0 []).length ≤ 800 := fit.q9 _ (getD_mem (by rw [fit.nq]; exact dp.ok.nb.1))
            omega
          refine kN _ _ ⟨u, ?_, f9.trans ⟨e10.more mq, t10⟩, rfl⟩
          rw [el]
          exact hR10
        · rintro σ1 H7 ⟨u, hR7, f7, rfl⟩
          refine ⟨_, rfl, rfl, _, rfl, ?_⟩
          have hR8 := hR7.putR (ls' := ls') (lr' := lDo p lr (.come g)) hR7.hs hR7.nd (hR7.off ls' (by simp)) rfl rfl rfl
          have ew : (lDo p lr (.come g)).swap = if g = .swapped then some lr.came else none := rfl
          by_cases cs : g = Sight.swapped
          · refine yes (by rw [cs]; rfl) ?_
            refine ⟨_, rfl, _, rfl, r, _, rfl, dput_at (i := 2) hR7.at_ runK_nodup rfl (Nat.le_of_ble_eq_true rfl), ?_⟩
            refine k _ ls' sv ?_ (f7.trans (.dk mr hR7.at_)) (.inr hln)
            have e9 : runK lb lq ls' le (lDo p lr (.come g)) = (runK lb lq ls' le { lDo p lr (.come g) with swap := lr.swap }).set 2 (.inr "swap", .int lr.came) := by
              unfold runK
              rw [ew, if_pos cs]
              rfl
            rw [e9] at hR8
            exact hR8
          · refine noo (by cases g <;> first | exact absurd rfl cs | rfl) ?_
            refine ⟨_, rfl, r, _, rfl, dput_at (i := 2) hR7.at_ runK_nodup rfl (Nat.le_of_ble_eq_true rfl), ?_⟩
            refine k _ ls' sv ?_ (f7.trans (.dk mr hR7.at_)) (.inr hln)
            have e9 : runK lb lq ls' le (lDo p lr (.come g)) = (runK lb lq ls' le { lDo p lr (.come g) with swap := lr.swap }).set 2 (.inr "swap", .non) := by
              unfold runK
              rw [ew, if_neg cs]
              rfl
            rw [e9] at hR8
            exact hR8
      · have hr2 : 1 ≤ i ∧ i ≤ p.n := by
          have : (decide (1 ≤ i) && decide (i ≤ p.n)) = true := hin
          rw [Bool.and_eq_true_iff, decide_eq_true_iff, decide_eq_true_iff] at this
          exact this
        have ib : i - 1 < lr.belts.length := by rw [fit.nb]; omega
        obtain ⟨a0, ha0, hb0⟩ := intsGet hR3.bb ib
        refine ⟨_, rfl, _, _, _, .str "pass", rfl, rfl, hd3, rfl, rfl, _, rfl, noo rfl ?_⟩
        refine ⟨_, rfl, _, _, _, .int (i : Int), rfl, rfl, hd3, rfl, ?_⟩
        dsimp only [gName]
        have hne : lr.belts.getD (i - 1) [] ≠ [] := by
          have h2 : (lSlip p lr g && (!(decide (g = .swapped) || decide (lr.belts.getD (i - 1) [] = [])) && (decide (i = lr.belts.length) || decide (((lr.belts.getD i []).length : Int) < p.belts.getD i 0)))) = true := hcan
          intro e
          rw [e] at h2
          revert h2
          simp
        obtain ⟨x, rest, exr⟩ : ∃ x rest, lr.belts.getD (i - 1) [] = x :: rest := by
          cases e : lr.belts.getD (i - 1) [] with
          | nil => exact absurd e hne
          | cons x rest => exact ⟨x, rest, rfl⟩
        have hb0' : H3 a0 = some (.lst ((x :: rest).map V.int)) := by rw [← exr]; exact hb0
        refine ⟨_, rfl, r, _, rfl, hR3.belts, _, rfl, _, _, rfl, rfl, _, _, _, .ref a0, rfl, rfl, .inl (.inl hR3.hb), atI_pred hr2.1 (by rw [List.getElem?_map, ha0]; rfl), tyLst hb0', a0, _, 0, 0, .int x, rfl, rfl, hb0', by omega, by omega, six0 (by simp), rfl, ?_⟩
        have hR4 := hR3.putB rest ha0 hb0'
        have f4 : FrE K fp H (upd H3 a0 (.lst (rest.map V.int))) := f3.trans (.lst (mb _ (List.mem_of_getElem? ha0)) hb0')
        refine ⟨ok_le (by simp), fun l1 hl1 => ?_⟩
        have y1 : Same (upd H3 a0 (.lst (rest.map V.int))) (upd (upd H3 a0 (.lst (rest.map V.int))) l1 (.lst [])) := Same.up hl1
        have hR5 := hR4.up y1
        have f5 := f4.trans (.of y1)
        have hln1 := upd_same (H := upd H3 a0 (.lst (rest.map V.int))) (a := l1) (o := .lst [])
        have nq1 : l1 ∉ bs ++ qs := hR4.fresh_bq hl1
        refine ⟨_, _, rfl, ?_⟩
        dsimp only
        show tSeq _ _ _ _ (upd (upd H3 a0 (.lst (rest.map V.int))) l1 (.lst []))
        generalize upd (upd H3 a0 (.lst (rest.map V.int))) l1 (.lst []) = H5 at hR5 f5 hln1
        have iq : i - 1 < lr.queues.length := by rw [fit.nq]; omega
        have hq8 : (lr.queues.getD (i - 1) []).length ≤ 800 := fit.q9 _ (getD_mem iq)
        have gt2 : g.times ≤ 2 := by cases g <;> decide
        have hp5 := hp0.bx hR5.g0 hR5.x
        refine seqE (M := fun σ' H' => ∃ lo u, σ' = [some (.ref rp), some (.ref r), some (.ref bd), none, some (.str (gS g)), some (.int (g.times : Int)), some (.int x), none, none, some (.int (i : Int)), some (.ref lo), u] ∧ lo ∉ bs ++ qs ∧
            H' lo = some (.lst ((lSees p i x g.times (lr.queues.getD (i - 1) []) []).2.map oV)) ∧ FrE K fp H H' ∧
            LRun K b lc H0 H' r lb bs lq qs ls' le sv { lr with belts := lr.belts.set (i - 1) rest, queues := lr.queues.set (i - 1) (lSees p i x g.times (lr.queues.getD (i - 1) []) []).1, slips := lr.slips ++ [if g = Sight.once then 0 else 1] }) (fun N kN => ?_) ?_
        · refine ⟨_, rfl, (g.times : Int), rfl, by omega, by omega, ?_⟩
          rw [Int.toNat_natCast]
          refine for_it walk_range (fun j σ' H' => ∃ lo u, σ' = [some (.ref rp), some (.ref r), some (.ref bd), none, some (.str (gS g)), some (.int (g.times : Int)), some (.int x), none, none, some (.int (i : Int)), some (.ref lo), u] ∧ lo ∉ bs ++ qs ∧
            H' lo = some (.lst ((lSees p i x j (lr.queues.getD (i - 1) []) []).2.map oV)) ∧ FrE K fp H H' ∧
            LRun K b lc H0 H' r lb bs lq qs ls' le sv { lr with belts := lr.belts.set (i - 1) rest, queues := lr.queues.set (i - 1) (lSees p i x j (lr.queues.getD (i - 1) []) []).1, slips := lr.slips ++ [if g = Sight.once then 0 else 1] })
            ⟨l1, _, rfl, nq1, hln1, f5, ?_⟩ (fun _ _ _ _ _ => trivial) ?_ ?_
          · have q0 : lr.queues.set (i - 1) (lr.queues.getD (i - 1) []) = lr.queues := set_getD iq
            show LRun K b lc H0 H5 r lb bs lq qs ls' le sv { lr with belts := lr.belts.set (i - 1) rest, queues := lr.queues.set (i - 1) (lr.queues.getD (i - 1) []), slips := lr.slips ++ [if g = Sight.once then 0 else 1] }
            rw [q0]
            exact hR5
          · rintro j y σ' H6 H7 hj ⟨lo, u, rfl, nqo, hlo, f6, hR6⟩ ⟨rfl, rfl⟩
            have egd : (lr.queues.set (i - 1) (lSees p i x j (lr.queues.getD (i - 1) []) []).1).getD (i - 1) [] = (lSees p i x j (lr.queues.getD (i - 1) []) []).1 := by
              rw [List.getD_eq_getElem?_getD, List.getElem?_set_self iq]
              rfl
            have hl6 := lSees_len p i x (lr.queues.getD (i - 1) []) j
            refine ⟨_, rfl, _, rfl, _, rfl, _, rfl, _, rfl, b, lc, rp, plb, pls, tp, lw, lrr, r, lb, bs, lq, qs, ls', le, sv, p, _, H0, i, x, rfl, hp0, dp, hR6, hr2.1, hr2.2, by rw [List.length_set]; exact fit.nq, ?_, fun l7 H7 e7 t7 hR7 hn7 hl7 => ?_⟩
            · dsimp only
              rw [egd]
              omega
            · dsimp only at hR7 hl7
              rw [egd] at hR7 hl7
              rw [List.set_set] at hR7
              have hl7b := (lSee_len p i (lSees p i x j (lr.queues.getD (i - 1) []) []).1 x).2
              refine ⟨lo, l7, _, _, rfl, rfl, e7 _ _ (fun z => nqo (List.mem_append_right _ z)) hlo, hl7, ?_, fun l8 hl8 => ?_⟩
              · rw [List.length_map, List.length_map]
                exact Nat.le_trans (show _ ≤ 3 by omega) (by decide)
              have y8 := Same.up (o := .lst ((lSees p i x j (lr.queues.getD (i - 1) []) []).2.map oV ++ (lSee p i (lSees p i x j (lr.queues.getD (i - 1) []) []).1 x).2.map oV)) hl8
              refine ⟨l8, _, rfl, hR7.fresh_bq hl8, ?_, (f6.trans ⟨e7.more mq, t7⟩).trans (.of y8), ?_⟩
              · rw [upd_same, lSees_snoc, List.map_append]
              · rw [lSees_snoc]
                exact hR7.up y8
          · rintro σ' H6 ⟨lo, u, rfl, h⟩
            exact kN _ _ ⟨lo, u, rfl, h⟩
        rintro σ6 H6 ⟨lo, u, rfl, nqo, hlo, f6, hR6⟩
        have ex0 : (lr.belts.getD (i - 1) []).getD 0 0 = x := by rw [exr]; rfl
        have ed1 : (lr.belts.getD (i - 1) []).drop 1 = rest := by rw [exr]; rfl
        have hl6 := lSees_len p i x (lr.queues.getD (i - 1) []) g.times
        generalize hsn : lSees p i x g.times (lr.queues.getD (i - 1) []) [] = sn at hlo hR6 hl6
        have ed : lDo p lr (.pass i g) = (if i = lr.belts.length then { lr with belts := lr.belts.set (i - 1) rest, queues := lr.queues.set (i - 1) sn.1, slips := lr.slips ++ [if g = Sight.once then 0 else 1], sent := lr.sent ++ [(x, sn.2.getD 0 none)] }
            else { lr with belts := (lr.belts.set (i - 1) rest).set i ((lr.belts.set (i - 1) rest).getD i [] ++ [x]), queues := (lr.queues.set (i - 1) sn.1).set i (lAddAll (p.rooms.getD i 0) ((lr.queues.set (i - 1) sn.1).getD i []) sn.2), slips := lr.slips ++ [if g = Sight.once then 0 else 1] }) := by
          unfold lDo
          dsimp only
          rw [ex0, ed1, hsn]
        have hbl : bs.length = lr.belts.length := by
          have := hR6.bb.length
          rw [List.length_set] at this
          exact this
        refine ⟨_, rfl, _, rfl, r, _, rfl, hR6.belts, _, _, rfl, .inl (.inl (.inl hR6.hb)), rfl, _, rfl, ?_⟩
        rw [List.length_map, hbl]
        by_cases cl : i = lr.belts.length
        · rw [if_pos cl] at ed
          refine yes (by rw [← cl]; exact decide_eq_true rfl) ?_
          refine ⟨_, rfl, r, _, rfl, hR6.sent, tyLst hR6.he, ?_⟩
          refine ⟨_, rfl, ?_⟩
          show tIf _ _ _ _ _ _
          refine valE (M := fun v H' => v = oV (sn.2.getD 0 none) ∧ Same H6 H') (fun N2 kN2 => ?_) ?_
          · refine ⟨_, rfl, ok_le (by simp), fun t1 ht1 => ?_⟩
            have z1 := Same.up (o := .lst []) ht1
            refine ⟨.list (sn.2.map pdO), .list [], .lst (.inl (.inl (z1 _ _ hlo))) (dpOpts _), .lst (.inl (.inl upd_same)) .nil, shaped_opts _, PySem.W.shaped_ints [], _, rfl, ?_⟩
            rw [eqvNil]
            cases e2 : sn.2 with
            | nil => exact noo rfl (kN2 _ _ ⟨by rw [e2]; rfl, z1⟩)
            | cons y r0 =>
              rw [e2] at hlo
              exact yes rfl (ixC (v := oV y) (z1 _ _ hlo) (kN2 _ _ ⟨by rw [e2]; rfl, z1⟩) (e := atI_nat (j := 0) rfl))
          rintro _ H7 ⟨rfl, z7⟩
          refine ⟨ok_le (by simp), fun t2 ht2 => ?_⟩
          have z8 := Same.up (o := .tup [V.int x, oV (sn.2.getD 0 none)]) ht2
          have hR8 := (hR6.up z7).up z8
          refine ⟨le, _, _, rfl, rfl, hR8.he, ?_, ?_⟩
          · have h1 := hR8.ee.length
            have h2 := fit.e9
            exact Nat.lt_of_le_of_lt (show sv.length ≤ 800 by rw [h1]; exact h2) (by decide)
          refine k _ ls' (sv ++ [.ref t2]) ?_ ((f6.trans (.of (z7.trans z8))).trans (.lst me hR8.he)) (.inr hln)
          rw [ed]
          exact hR8.putE (q := (x, sn.2.getD 0 none)) ⟨t2, rfl, newT⟩
        · rw [if_neg cl] at ed
          refine noo (decide_eq_false fun e => cl (Int.ofNat.inj (V.int.inj e))) ?_
          dsimp only [tNext]
          have il : i < lr.belts.length := by rw [fit.nb] at cl ⊢; omega
          have il2 : i < (lr.belts.set (i - 1) rest).length := by rw [List.length_set]; exact il
          obtain ⟨a1, ha1, hb1⟩ := intsGet hR6.bb il2
          refine ⟨_, rfl, r, _, rfl, hR6.belts, _, rfl, _, _, _, .ref a1, rfl, rfl, .inl (.inl hR6.hb), atI_nat (by rw [List.getElem?_map, ha1]; rfl), tyLst hb1, _, rfl, a1, _, _, rfl, rfl, hb1, ?_, ?_⟩
          · rw [List.length_map]
            have e9 : (lr.belts.set (i - 1) rest).getD i [] = lr.belts.getD i [] := by
              rw [List.getD_eq_getElem?_getD, List.getD_eq_getElem?_getD, List.getElem?_set_ne (by omega)]
            rw [e9]
            exact Nat.lt_of_le_of_lt (fit.b9 _ (getD_mem il)) (by decide)
          have em : ((lr.belts.set (i - 1) rest).getD i []).map V.int ++ [V.int x] = ((lr.belts.set (i - 1) rest).getD i [] ++ [x]).map V.int := by rw [List.map_append]; rfl
          rw [em]
          have hR7 := hR6.putB ((lr.belts.set (i - 1) rest).getD i [] ++ [x]) ha1 hb1
          have f7 := f6.trans (.lst (o := .lst (((lr.belts.set (i - 1) rest).getD i [] ++ [x]).map V.int)) (mb _ (List.mem_of_getElem? ha1)) hb1)
          have lo1 : lo ≠ a1 := fun e => nqo (List.mem_append_left _ (by rw [e]; exact List.mem_of_getElem? ha1))
          have hlo7 : upd H6 a1 (.lst (((lr.belts.set (i - 1) rest).getD i [] ++ [x]).map V.int)) lo = some (.lst (sn.2.map oV)) := by
            rw [upd_ne lo1]
            exact hlo
          refine ⟨_, rfl, lo, rfl, ⟨_, .inl (.inl hlo7)⟩, ?_⟩
          refine addLoop (i := i) (rs := sn.2) hp0 dp hR7 hlo7 (by rw [← fit.nb]; exact il) (by rw [List.length_set]; exact fit.nq) ?_ (fun z => nqo (List.mem_append_right _ z)) (fun _ => rfl) (fun _ => rfl) (Nat.le_of_ble_eq_true rfl) (fun _ _ _ h => ⟨_, rfl, h⟩) fun u H10 e10 t10 hR10 => ?_
          · show ((lr.queues.set (i - 1) sn.1).getD i []).length + _ ≤ 900
            have e9 : (lr.queues.set (i - 1) sn.1).getD i [] = lr.queues.getD i [] := by
              rw [List.getD_eq_getElem?_getD, List.getD_eq_getElem?_getD, List.getElem?_set_ne (by omega)]
            rw [e9]
            have h9 : (lr.queues.getD i []).length ≤ 800 := fit.q9 _ (getD_mem (by rw [fit.nq, ← fit.nb]; exact il))
            omega
          refine k H10 ls' sv ?_ (f7.trans ⟨e10.more mq, t10⟩) (.inr hln)
          rw [ed]
          exact hR10
end
end Ow
set_option Elab.async false
set_option linter.all false
set_option maxRecDepth 100000
set_option maxHeartbeats 4000000
namespace Ow
open PySem PySem.Spec PyProof.Rows L2
section
variable {P : Program} {w : World} {K : PySem.W.Frag} {mg : Str → Option Value} {base : Heap}
theorem LFit.of {p : Plan} {t : T3} {ds : List Deed} (h : Inv3 p t) (e : t = T3.run p ds) (hz : ds.length ≤ 800) : LFit p t.lr where
  nb := by rw [← h.m.b]; exact h.g.sz.b
  nq := by
    have := h.g.sz.q
    rw [h.m.q, List.length_map] at this
    exact this
  b9 := fun x hx => by
    rw [← h.m.b] at hx
    exact Nat.le_trans (h.g.b3 x hx) (by decide)
  q9 := fun x hx => by
    have h2 : x.map rc ∈ t.s.queues := by rw [h.m.q]; exact List.mem_map.mpr ⟨x, hx, rfl⟩
    have := h.g.q4 _ h2
    rw [List.length_map] at this
    exact Nat.le_trans this (by decide)
  s9 := by
    have := run_slips (p := p) ds
    rw [e]
    omega
  e9 := by
    have := run_sent (p := p) ds
    rw [e]
    omega
/-- a list that is none of the run's is written -/
theorem LRun.putF {b lc r lb lq ls le : Addr} {H0 H : Hp} {bs qs : List Addr} {sv : List V} {lr : LR} {D : Addr} {xs ys : List V} (h : LRun K b lc H0 H r lb bs lq qs ls le sv lr) (n0 : H0 D = none) (hD : H D = some (.lst xs)) (nd : D ∉ ls :: lb :: lq :: le :: (bs ++ qs)) :
    LRun K b lc H0 (upd H D (.lst ys)) r lb bs lq qs ls le sv lr := by
  simp only [List.mem_cons, List.mem_append, not_or] at nd
  obtain ⟨n1, n2, n3, n4, n5, n6⟩ := nd
  refine ⟨h.g0, h.x.put h.g0 n0 hD, ?_, ?_, h.bb.impM fun a ys ha q => ?_, ?_, h.qq.impM fun a ys ha q => ?_, ?_, ?_, h.ee.imp fun _ _ => SentL.ts (TupS.lst hD), h.nd, h.off⟩
  · rw [upd_ne (fun e => by rw [← e, h.at_] at hD; cases hD)]
    exact h.at_
  · rw [upd_ne (Ne.symm n2)]; exact h.hb
  · show upd H D _ a = _
    rw [upd_ne (fun e => n5 (by rw [← e]; exact ha))]; exact q
  · rw [upd_ne (Ne.symm n3)]; exact h.hq
  · show upd H D _ a = _
    rw [upd_ne (fun e => n6 (by rw [← e]; exact ha))]; exact q
  · rw [upd_ne (Ne.symm n1)]; exact h.hs
  · rw [upd_ne (Ne.symm n4)]; exact h.he
def sp_lawWalk (K : PySem.W.Frag) : Sp := fun vs H Q _ => ∃ (b lc rp plb pls tp lw lrr r lb : Addr) (bs : List Addr) (lq : Addr) (qs : List Addr) (ls le : Addr) (p : Plan) (H0 : Hp), vs = [.ref b, .ref rp, .ref r, .int 60] ∧ LPlan K H0 rp plb pls tp lw lrr p ∧ Drawn p ∧ LRun K b lc H0 H r lb bs lq qs ls le [] (LR.begun p) ∧
  ∀ l ws ds H', H l = none → FrE K (b :: r :: le :: (bs ++ qs)) H H' → BagAt K H' b lc → H' l = some (.lst ws) → All2 (DeAt K H') ws ds → FlowOk p ds → ds.length = 60 → Q (.ref l) H'
theorem sc__law_walk : FnScope ["_law_bag_here", "_law_plan", "_law_run", "_law_many", "_law_found", "_law_k", "_law_some", "_law_deed"] ["_law_bag_here", "_law_plan", "_law_run", "_law_many"] (defScope s__law_walk) := ⟨rfl, rfl, rfl, by decide +kernel, rfl, by decide +kernel, by decide +kernel⟩
theorem Txt.b__law_walk (T : Txt w K mg) : Binds K (fdA K (He.ga K "_law_walk")) ["_law_bag_here", "_law_plan", "_law_run", "_law_many"] [] := T.F__law_walk.binds fun _ _ _ _ _ _ us hl => match us, hl with | [_, _, _, _], _ => rfl
theorem ok__law_walk (T : Txt w K mg) : FnOk P w K mg base CX0 5 (He.ga K "_law_walk") (fdA K (He.ga K "_law_walk")) ["_law_bag_here", "_law_plan", "_law_run", "_law_many"] (sp_lawWalk K) := by
  refine T.F__law_walk.ok sc__law_walk (fun vs H Q E h => ?_) (fun cdv A outer s H vs Q E hr h => ?_)
  · obtain ⟨b, lc, rp, plb, pls, tp, lw, lrr, r, lb, bs, lq, qs, ls, le, p, H0, rfl, _⟩ := h
    rfl
  · obtain ⟨b, lc, rp, plb, pls, tp, lw, lrr, r, lb, bs, lq, qs, ls, le, p, H0, rfl, hp0, dp, hR, k⟩ := h
    refine ⟨_, (pss_cons (ps_set (i := 4) sc__law_walk.nd rfl (by first | exact .inl rfl | exact .inr rfl) (pe_lst pa_nil))
      (pss_cons (ps_for PassesOwn.never rfl (pi_range1 (by rfl) T.f_range (pa_cons (pv 3) pa_nil)) (pg_name (i := 5) sc__law_walk.nd rfl (by first | exact .inl rfl | exact .inr rfl)) (pss_cons (ps_set (i := 6) sc__law_walk.nd rfl (by first | exact .inl rfl | exact .inr rfl) (pe_call (ok__law_deeds T) (hr.mono (by decide)) (by rfl) T.g__law_deeds T.D__law_deeds.kp T.b__law_deeds .nil pass0 (pa_cons (pv 1) (pa_cons (pv 2) pa_nil))))
        (pss_cons (ps_set (i := 7) sc__law_walk.nd rfl (by first | exact .inl rfl | exact .inr rfl) (pe_call (ok__law_of T) (hr.mono (by decide)) (by rfl) T.g__law_of T.D__law_of.kp T.b__law_of .nil pass0 (pa_cons (pv 0) (pa_cons (pv 6) pa_nil))))
        (pss_cons (ps_expr (pe_call (ok__law_do T) (hr.mono (by decide)) (by rfl) T.g__law_do T.D__law_do.kp T.b__law_do .nil pass0 (pa_cons (pv 1) (pa_cons (pv 2) (pa_cons (pv 7) pa_nil)))))
        (pss_one (ps_expr (pe_bm PySem.F.plainAttrs_list PySem.F.slot_list_append PySem.F.type_list_append mt_append (pv 4) (pa_cons (pv 7) pa_nil))))))))
      (pss_one (ps_ret (pv 4))))), ?_⟩
    have ok := dp.ok
    refine ⟨ok_le (by simp), fun lf hlf => ?_⟩
    have z1 := Same.up (o := .lst []) hlf
    have hR1 := hR.up z1
    have n0 := hR.fresh hlf
    have nbq := hR.fresh_bq hlf
    have nlb : lf ≠ lb := by
      rintro rfl
      cases hlf.symm.trans hR.hb
    have nlq : lf ≠ lq := by
      rintro rfl
      cases hlf.symm.trans hR.hq
    have nls : lf ≠ ls := by
      rintro rfl
      cases hlf.symm.trans hR.hs
    have nle : lf ≠ le := by
      rintro rfl
      cases hlf.symm.trans hR.he
    have nf : lf ∉ b :: r :: le :: (bs ++ qs) := by
      simp only [List.mem_cons, not_or]
      refine ⟨?_, ?_, ?_, hR.fresh_bq hlf⟩
      · obtain ⟨xs, hx⟩ := hR.x.g.lt
        rintro rfl
        cases hlf.symm.trans hx
      · rintro rfl
        cases hlf.symm.trans hR.at_
      · rintro rfl
        cases hlf.symm.trans hR.he
    have f1 : FrE K (b :: r :: le :: (bs ++ qs)) H (upd H lf (.lst [])) := .of z1
    have hl1 := upd_same (H := H) (a := lf) (o := .lst [])
    dsimp only [gName]
    generalize upd H lf (.lst []) = H1 at hR1 f1 hl1 z1
    refine seqE (M := fun σ' H' => ∃ u v w ws ds ls' sv', σ' = [some (.ref b), some (.ref rp), some (.ref r), some (.int 60), some (.ref lf), u, v, w] ∧ ds.length = 60 ∧ FlowOk p ds ∧ H' lf = some (.lst ws) ∧ All2 (DeAt K H') ws ds ∧ FrE K (b :: r :: le :: (bs ++ qs)) H H' ∧ lf ≠ ls' ∧ LRun K b lc H0 H' r lb bs lq qs ls' le sv' (T3.run p ds).lr) (fun N kN => ?_) ?_
    · refine ⟨_, rfl, 60, rfl, by decide, by decide, ?_⟩
      refine for_it walk_range (fun j σ' H' => ∃ u v w ws ds ls' sv', σ' = [some (.ref b), some (.ref rp), some (.ref r), some (.int 60), some (.ref lf), u, v, w] ∧ ds.length = j ∧ FlowOk p ds ∧ H' lf = some (.lst ws) ∧ All2 (DeAt K H') ws ds ∧ FrE K (b :: r :: le :: (bs ++ qs)) H H' ∧ lf ≠ ls' ∧ LRun K b lc H0 H' r lb bs lq qs ls' le sv' (T3.run p ds).lr)
        ⟨_, _, _, [], [], ls, [], rfl, rfl, FlowOk.nil, hl1, .nil, f1, nls, hR1⟩ (fun _ _ _ _ _ => trivial) ?_ ?_
      · rintro j y σ' H2 H3 hj ⟨u, v, w, ws, ds, ls', sv', rfl, hdl, hfl, hlf2, hws, f2, nls2, hR2⟩ ⟨rfl, rfl⟩
        have I := hfl.inv ok
        have fit := LFit.of I rfl (show ds.length ≤ 800 by have : j < 60 := hj; omega)
        have hp2 := hp0.bx hR2.g0 hR2.x
        have hrs := run_slips (p := p) ds
        have hwl := hws.length
        have j60 : j < 60 := hj
        refine ⟨_, rfl, _, rfl, b, lc, rp, plb, pls, tp, lw, lrr, r, lb, bs, lq, qs, ls', le, sv', p, _, H0, rfl, hp2, dp, hR2, by omega, fit.nb, fun l3 vs3 H4 z3 hn3 hl3 hws3 => ?_⟩
        have hR3 := hR2.up z3
        have hne := deeds_some ok I.m I.g
        have hl9 := hws3.length
        have hdz : (lDeeds p (T3.run p ds).lr).length ≤ 1000 := by
          unfold lDeeds
          refine Nat.le_trans (List.length_filter_le _ _) ?_
          unfold lAllDeeds
          rw [List.length_append, List.length_append, List.length_map, lenPass, List.length_singleton]
          have h2 : sights.length = 4 := rfl
          have n3 : p.n ≤ 3 := ok.nb.2
          have : p.n * sights.length ≤ 3 * 4 := Nat.mul_le_mul n3 (Nat.le_refl 4)
          omega
        have hpos : 0 < (lDeeds p (T3.run p ds).lr).length := List.length_pos_iff.mpr hne
        have l3b : l3 ≠ b := by
          obtain ⟨xs, hx⟩ := hR2.x.g.lt
          rintro rfl
          cases hn3.symm.trans hx
        refine ⟨_, rfl, _, rfl, b, lc, l3, vs3, rfl, hR3.x.g, hl3, l3b, by omega, by omega, fun i v H5 hv e5 t5 g5 => ?_⟩
        obtain ⟨d, hd, bd, rfl, hdt⟩ := hws3.get' hv
        have hR5 := hR3.bx ⟨e5, t5, g5⟩
        have hmd := List.mem_of_getElem? hd
        have hin : inRange p d = true := lall_inRange (List.mem_filter.mp hmd).1
        have hcan : lCan p (T3.run p ds).lr d = true := (List.mem_filter.mp hmd).2
        have hpo : possible p (T3.run p ds).s d = true := by rw [← can_possible ok I.m I.g.sz hin]; exact hcan
        have f5 : FrE K (b :: r :: le :: (bs ++ qs)) H3 H5 := (FrE.of z3).trans ⟨e5.more (fun a h => by rw [List.mem_singleton.mp h]; exact List.mem_cons_self ..), t5⟩
        refine ⟨_, rfl, _, rfl, _, rfl, b, lc, rp, plb, pls, tp, lw, lrr, r, lb, bs, lq, qs, ls', le, sv', p, _, H0, bd, d, rfl, hp0, dp, hR5, t5 _ _ hdt, hin, hcan, fit, fun H6 ls6 sv6 hR6 f6 hls6 => ?_⟩
        have f26 := f5.trans (f6.more (gp := b :: r :: le :: (bs ++ qs)) fun a h => List.mem_cons_of_mem _ h)
        have hlf6 := f26.e _ _ nf hlf2
        refine ⟨_, rfl, tyLst hlf6, _, rfl, lf, _, _, rfl, rfl, hlf6, Nat.lt_of_le_of_lt (show ws.length ≤ 60 by omega) (by decide), ?_⟩
        have nl6 : lf ≠ ls6 := by
          rcases hls6 with e | e
          · rw [e]; exact nls2
          · rintro rfl
            cases e.symm.trans ((FrE.trans (FrE.of z3) (⟨e5.more (fun a h => by rw [List.mem_singleton.mp h]; exact List.mem_cons_self ..), t5⟩ : FrE K (b :: r :: le :: (bs ++ qs)) H4 H5)).e _ _ nf hlf2)
        refine ⟨_, _, _, ws ++ [.ref bd], ds ++ [d], ls6, sv6, rfl, by rw [List.length_append, hdl]; rfl, hfl.snoc hin hpo, upd_same, ?_, ⟨fun a o n h => ?_, (f2.t.trans f26.t).trans (TupS.lst hlf6)⟩, nl6, ?_⟩
        · have hts : TupS K H3 (upd H6 lf (.lst (ws ++ [.ref bd]))) := f26.t.trans (TupS.lst hlf6)
          exact (hws.imp fun _ _ => DeAt.ts hts).append (.cons ⟨bd, rfl, TupS.lst hlf6 _ _ (f6.t _ _ (t5 _ _ hdt))⟩ .nil)
        · rw [upd_ne (ne_of_none h hlf)]
          exact (f2.trans f26).e a o n h
        · rw [T3.run_snoc]
          refine hR6.putF n0 hlf6 ?_
          simp only [List.mem_cons, not_or]
          exact ⟨nl6, nlb, nlq, nle, nbq⟩
      · rintro σ' H2 ⟨u, v, w, ws, ds, ls', sv', rfl, hdl, h⟩
        exact kN _ _ ⟨u, v, w, ws, ds, ls', sv', rfl, hdl, h⟩
    rintro σ2 H2 ⟨u, v, w, ws, ds, ls', sv', rfl, hdl, hfl, hlf2, hws, f2, nls2, hR2⟩
    exact ⟨_, rfl, k lf ws ds H2 hlf f2 hR2.x.g hlf2 hws hfl hdl⟩
end
end Ow
set_option Elab.async false
set_option linter.all false
set_option maxRecDepth 100000
set_option maxHeartbeats 4000000
namespace Ow
open PySem PySem.Spec PyProof.Rows L2
section
variable {P : Program} {w : World} {K : PySem.W.Frag} {mg : Str → Option Value} {base : Heap}
theorem pair_ty {K : PySem.W.Frag} {t : String} {a b : String} {r : Bool} {H : Hp} {tp : Addr} {x : V} {Q : VK} (h : H tp = some (.tup [.ty a, .ty b])) (ty : TyX K H x (.type t)) (e : PySem.W.kitAny K (.type t) [.type a, .type b] = some r) (q : Q (.bl r) H) : rIsiT K [x, .ref tp] H Q :=
  ⟨x, tp, _, _, _, r, rfl, h, .cons (.ty _) (.cons (.ty _) .nil), ty, e, q⟩
theorem any_int {K : PySem.W.Frag} : PySem.W.kitAny K (.type "int") [.type "int", .type "str"] = some true :=
  kitAny_cons (b := true) (kit_ty (by decide +kernel)) (fun h => by cases h) (fun _ => rfl)
theorem any_not {K : PySem.W.Frag} {t : String} (h1 : kitB t "int" = some false) (h2 : kitB t "str" = some false) : PySem.W.kitAny K (.type t) [.type "int", .type "str"] = some false :=
  kitAny_cons (b := false) (kit_ty h1) (fun _ => kitAny_cons (b := false) (kit_ty h2) (fun _ => kitAny_nil) (fun h => by cases h)) (fun h => by cases h)
/-- two equal ints -/
def sp_same0 (K : PySem.W.Frag) : Sp := fun vs H Q _ => ∃ i : Int, vs = [.int i, .int i] ∧ ∀ H', Same H H' → Q (.bl true) H'
theorem sc__law_same : FnScope ["_law_found", "_law_due", "_law_one", "_law_two"] ["_law_found", "_law_due"] (defScope s__law_same) := ⟨rfl, rfl, rfl, by decide +kernel, rfl, by decide +kernel, by decide +kernel⟩
theorem Txt.b__law_same (T : Txt w K mg) : Binds K (fdA K (He.ga K "_law_same")) ["_law_found", "_law_due"] [] := T.F__law_same.binds fun _ _ _ _ _ _ us hl => match us, hl with | [_, _], _ => rfl
theorem ok__law_same (T : Txt w K mg) : FnOk P w K mg base CX0 1 (He.ga K "_law_same") (fdA K (He.ga K "_law_same")) ["_law_found", "_law_due"] (sp_same0 K) := by
  refine T.F__law_same.ok sc__law_same (fun vs H Q E h => ?_) (fun cdv A outer s H vs Q E hr h => ?_)
  · obtain ⟨i, rfl, _⟩ := h
    rfl
  · obtain ⟨i, rfl, k⟩ := h
    refine ⟨_, (pss_cons (ps_if (pt_cmpR op_isN (pv 1) pe_non (nomark _)) (pss_one (ps_ret (pe_cmpR op_isN (pv 0) pe_non (nomark _)))) pss_nil)
      (pss_cons (ps_if (PW.pt (pw_or (pt_val (pe_callB call_isi (by rfl) T.f_isinstance (by decide +kernel) (pa_cons (pv 1) (pa_cons (pe_bltn (v := .ty "bool") (u := .type "bool") (by rfl) T.f_bool (by decide +kernel) rfl) pa_nil)))) (pw_or1 (pt_val (pe_callB call_isi (by rfl) T.f_isinstance (by decide +kernel) (pa_cons (pv 0) (pa_cons (pe_bltn (v := .ty "bool") (u := .type "bool") (by rfl) T.f_bool (by decide +kernel) rfl) pa_nil))))))) (pss_one (ps_ret (pe_and (pe_callB call_isi (by rfl) T.f_isinstance (by decide +kernel) (pa_cons (pv 1) (pa_cons (pe_bltn (v := .ty "bool") (u := .type "bool") (by rfl) T.f_bool (by decide +kernel) rfl) pa_nil))) (pe_and (pe_callB call_isi (by rfl) T.f_isinstance (by decide +kernel) (pa_cons (pv 0) (pa_cons (pe_bltn (v := .ty "bool") (u := .type "bool") (by rfl) T.f_bool (by decide +kernel) rfl) pa_nil))) (pe_one (pe_cmpR op_eq (pv 0) (pv 1) (nomark _))))))) pss_nil)
      (pss_cons (ps_if (pt_val (pe_callB call_isiT (by rfl) T.f_isinstance (by decide +kernel) (pa_cons (pv 1) (pa_cons (pe_tup (pa_cons (pe_bltn (v := .ty "int") (u := .type "int") (by rfl) T.f_int (by decide +kernel) rfl) (pa_cons (pe_bltn (v := .ty "str") (u := .type "str") (by rfl) T.f_str (by decide +kernel) rfl) pa_nil))) pa_nil)))) (pss_one (ps_ret (pe_and (pe_callB call_isiT (by rfl) T.f_isinstance (by decide +kernel) (pa_cons (pv 0) (pa_cons (pe_tup (pa_cons (pe_bltn (v := .ty "int") (u := .type "int") (by rfl) T.f_int (by decide +kernel) rfl) (pa_cons (pe_bltn (v := .ty "str") (u := .type "str") (by rfl) T.f_str (by decide +kernel) rfl) pa_nil))) pa_nil))) (pe_and (pe_cmpR op_eq (pe_callB call_isi (by rfl) T.f_isinstance (by decide +kernel) (pa_cons (pv 0) (pa_cons (pe_bltn (v := .ty "int") (u := .type "int") (by rfl) T.f_int (by decide +kernel) rfl) pa_nil))) (pe_callB call_isi (by rfl) T.f_isinstance (by decide +kernel) (pa_cons (pv 1) (pa_cons (pe_bltn (v := .ty "int") (u := .type "int") (by rfl) T.f_int (by decide +kernel) rfl) pa_nil))) (nomark _)) (pe_one (pe_cmpR op_eq (pv 0) (pv 1) (nomark _))))))) pss_nil)
      (pss_cons (ps_if (PW.pt (pw_or (pt_cmpR op_ne (pe_callB call_isi (by rfl) T.f_isinstance (by decide +kernel) (pa_cons (pv 1) (pa_cons (pe_bltn (v := .ty "list") (u := .type "list") (by rfl) T.f_list (by decide +kernel) rfl) pa_nil))) (pe_callB call_isi (by rfl) T.f_isinstance (by decide +kernel) (pa_cons (pv 0) (pa_cons (pe_bltn (v := .ty "list") (u := .type "list") (by rfl) T.f_list (by decide +kernel) rfl) pa_nil))) (nomark _)) (pw_or1 (pt_cmpR op_ne (pe_callB call_isi (by rfl) T.f_isinstance (by decide +kernel) (pa_cons (pv 1) (pa_cons (pe_bltn (v := .ty "tuple") (u := .type "tuple") (by rfl) T.f_tuple (by decide +kernel) rfl) pa_nil))) (pe_callB call_isi (by rfl) T.f_isinstance (by decide +kernel) (pa_cons (pv 0) (pa_cons (pe_bltn (v := .ty "tuple") (u := .type "tuple") (by rfl) T.f_tuple (by decide +kernel) rfl) pa_nil))) (nomark _))))) (pss_one (ps_ret pe_bl)) pss_nil)
      (pss_one ps_never))))), ?_⟩
    refine ⟨_, rfl, rfl, _, rfl, noo rfl ?_⟩
    dsimp only [tNext]
    refine ⟨_, rfl, _, _, _, _, false, rfl, .ty _, .base (.int i), kit_ty (by decide +kernel), _, rfl, noo rfl ⟨_, rfl, _, _, _, _, false, rfl, .ty _, .base (.int i), kit_ty (by decide +kernel), _, rfl, noo rfl ?_⟩⟩
    dsimp only [tNext]
    refine ⟨_, rfl, ok_le (by simp), fun t1 h1 => ⟨_, t1, _, _, _, true, rfl, upd_same, .cons (.ty _) (.cons (.ty _) .nil), .base (.int i), any_int, _, rfl, yes rfl ?_⟩⟩
    refine ⟨_, rfl, ok_le (by simp), fun t2 h2 => ⟨_, t2, _, _, _, true, rfl, upd_same, .cons (.ty _) (.cons (.ty _) .nil), .base (.int i), any_int, _, rfl, yes rfl ?_⟩⟩
    refine ⟨_, rfl, _, _, _, _, true, rfl, .ty _, .base (.int i), kit_ty (by decide +kernel), _, rfl, _, _, _, _, true, rfl, .ty _, .base (.int i), kit_ty (by decide +kernel), rfl, _, rfl, yes rfl ?_⟩
    refine ⟨_, rfl, _, rfl, rfl, ?_⟩
    have e : decide (V.int i = V.int i) = true := decide_eq_true rfl
    rw [e]
    exact k _ ((Same.up h1).trans (Same.up h2))
def IntsQ (K : PySem.W.Frag) (l : Bool) (H : Hp) (a : Addr) (xs : List Int) : Prop := match l with
  | true => H a = some (.lst (xs.map V.int))
  | false => SqT K H a (xs.map V.int)
theorem IntsQ.ty {l : Bool} {H : Hp} {a : Addr} {xs : List Int} (h : IntsQ K l H a xs) : TyX K H (.ref a) (.type (if l then "list" else "tuple")) := by
  cases l with
  | true => exact .base (.lst h)
  | false => exact tyTup h
theorem IntsQ.mono {l : Bool} {H H' : Hp} {a : Addr} {xs : List Int} (e : Same H H') (h : IntsQ K l H a xs) : IntsQ K l H' a xs := by
  cases l with
  | true => exact e _ _ h
  | false => exact Same.seqT e h
theorem walk_zipT {K : PySem.W.Frag} {a b : Addr} {xs : List V} : Walk (RZ.ItzT K a b) xs.length (fun H => SqT K H a xs ∧ SqT K H b xs) (YPair (fun i => xs[i]?) (fun i => xs[i]?)) := by
  refine ⟨fun i _ hi q => ⟨xs, xs, xs[i], xs[i], q.1, q.2, by simp [hi], by simp [hi]⟩, fun _ q => ⟨xs, xs, q.1, q.2, .inl (Nat.le_refl _)⟩, fun i H v H' _ q y => ?_⟩
  obtain ⟨T, x, y, h1, h2, h3, h4, h5⟩ := y
  exact ⟨T, x, y, h1, h2, h3, h4 xs q.1, h5 xs q.2⟩
theorem walk_zipL {K : PySem.W.Frag} {a b : Addr} {xs : List V} : Walk (Itz K a b) xs.length (fun H => SqL K H a xs ∧ SqL K H b xs) (YPair (fun i => xs[i]?) (fun i => xs[i]?)) := by
  refine ⟨fun i _ hi q => ⟨xs, xs, xs[i], xs[i], q.1, q.2, by simp [hi], by simp [hi]⟩, fun _ q => ⟨xs, xs, q.1, q.2, .inl (Nat.le_refl _)⟩, fun i H v H' _ q y => ?_⟩
  obtain ⟨T, x, y, h1, h2, h3, h4, h5⟩ := y
  exact ⟨T, x, y, h1, h2, h3, h4 xs q.1, h5 xs q.2⟩
theorem IntsQ.len {l : Bool} {H : Hp} {a : Addr} {xs : List Int} (h : IntsQ K l H a xs) : SqL K H a (xs.map V.int) ∨ SqT K H a (xs.map V.int) := by
  cases l with
  | true => exact .inl (.inl (.inl h))
  | false => exact .inr h
/-- two equal lists or tuples of ints -/
def sp_same1 (K : PySem.W.Frag) : Sp := fun vs H Q _ => ∃ (l : Bool) (a c : Addr) (xs : List Int), vs = [.ref a, .ref c] ∧ IntsQ K l H a xs ∧ IntsQ K l H c xs ∧ xs.length ≤ 10 ∧ ∀ H', Same H H' → Q (.bl true) H'
theorem ok__law_same_1 (T : Txt w K mg) : FnOk P w K mg base CX0 2 (He.ga K "_law_same") (fdA K (He.ga K "_law_same")) ["_law_found", "_law_due"] (sp_same1 K) := by
  refine T.F__law_same.ok sc__law_same (fun vs H Q E h => ?_) (fun cdv A outer s H vs Q E hr h => ?_)
  · obtain ⟨l, a, c, xs, rfl, _⟩ := h
    rfl
  · obtain ⟨l, a, c, xs, rfl, ha, hc, hz, k⟩ := h
    refine ⟨_, (pss_cons (ps_if (pt_cmpR op_isN (pv 1) pe_non (nomark _)) (pss_one (ps_ret (pe_cmpR op_isN (pv 0) pe_non (nomark _)))) pss_nil)
      (pss_cons (ps_if (PW.pt (pw_or (pt_val (pe_callB call_isi (by rfl) T.f_isinstance (by decide +kernel) (pa_cons (pv 1) (pa_cons (pe_bltn (v := .ty "bool") (u := .type "bool") (by rfl) T.f_bool (by decide +kernel) rfl) pa_nil)))) (pw_or1 (pt_val (pe_callB call_isi (by rfl) T.f_isinstance (by decide +kernel) (pa_cons (pv 0) (pa_cons (pe_bltn (v := .ty "bool") (u := .type "bool") (by rfl) T.f_bool (by decide +kernel) rfl) pa_nil))))))) (pss_one (ps_ret (pe_and (pe_callB call_isi (by rfl) T.f_isinstance (by decide +kernel) (pa_cons (pv 1) (pa_cons (pe_bltn (v := .ty "bool") (u := .type "bool") (by rfl) T.f_bool (by decide +kernel) rfl) pa_nil))) (pe_and (pe_callB call_isi (by rfl) T.f_isinstance (by decide +kernel) (pa_cons (pv 0) (pa_cons (pe_bltn (v := .ty "bool") (u := .type "bool") (by rfl) T.f_bool (by decide +kernel) rfl) pa_nil))) (pe_one (pe_cmpR op_eq (pv 0) (pv 1) (nomark _))))))) pss_nil)
      (pss_cons (ps_if (pt_val (pe_callB call_isiT (by rfl) T.f_isinstance (by decide +kernel) (pa_cons (pv 1) (pa_cons (pe_tup (pa_cons (pe_bltn (v := .ty "int") (u := .type "int") (by rfl) T.f_int (by decide +kernel) rfl) (pa_cons (pe_bltn (v := .ty "str") (u := .type "str") (by rfl) T.f_str (by decide +kernel) rfl) pa_nil))) pa_nil)))) (pss_one (ps_ret (pe_and (pe_callB call_isiT (by rfl) T.f_isinstance (by decide +kernel) (pa_cons (pv 0) (pa_cons (pe_tup (pa_cons (pe_bltn (v := .ty "int") (u := .type "int") (by rfl) T.f_int (by decide +kernel) rfl) (pa_cons (pe_bltn (v := .ty "str") (u := .type "str") (by rfl) T.f_str (by decide +kernel) rfl) pa_nil))) pa_nil))) (pe_and (pe_cmpR op_eq (pe_callB call_isi (by rfl) T.f_isinstance (by decide +kernel) (pa_cons (pv 0) (pa_cons (pe_bltn (v := .ty "int") (u := .type "int") (by rfl) T.f_int (by decide +kernel) rfl) pa_nil))) (pe_callB call_isi (by rfl) T.f_isinstance (by decide +kernel) (pa_cons (pv 1) (pa_cons (pe_bltn (v := .ty "int") (u := .type "int") (by rfl) T.f_int (by decide +kernel) rfl) pa_nil))) (nomark _)) (pe_one (pe_cmpR op_eq (pv 0) (pv 1) (nomark _))))))) pss_nil)
      (pss_cons (ps_if (PW.pt (pw_or (pt_cmpR op_ne (pe_callB call_isi (by rfl) T.f_isinstance (by decide +kernel) (pa_cons (pv 1) (pa_cons (pe_bltn (v := .ty "list") (u := .type "list") (by rfl) T.f_list (by decide +kernel) rfl) pa_nil))) (pe_callB call_isi (by rfl) T.f_isinstance (by decide +kernel) (pa_cons (pv 0) (pa_cons (pe_bltn (v := .ty "list") (u := .type "list") (by rfl) T.f_list (by decide +kernel) rfl) pa_nil))) (nomark _)) (pw_or1 (pt_cmpR op_ne (pe_callB call_isi (by rfl) T.f_isinstance (by decide +kernel) (pa_cons (pv 1) (pa_cons (pe_bltn (v := .ty "tuple") (u := .type "tuple") (by rfl) T.f_tuple (by decide +kernel) rfl) pa_nil))) (pe_callB call_isi (by rfl) T.f_isinstance (by decide +kernel) (pa_cons (pv 0) (pa_cons (pe_bltn (v := .ty "tuple") (u := .type "tuple") (by rfl) T.f_tuple (by decide +kernel) rfl) pa_nil))) (nomark _))))) (pss_one (ps_ret pe_bl)) pss_nil)
      (pss_one (ps_ret (pe_and (pe_cmpR op_eq (pe_callB (cr_lenK (K := K)) (by rfl) T.f_len (by decide +kernel) (pa_cons (pv 0) pa_nil)) (pe_callB (cr_lenK (K := K)) (by rfl) T.f_len (by decide +kernel) (pa_cons (pv 1) pa_nil)) (nomark _)) (pe_one (pe_callB (cr_all rfl) (by rfl) T.f_all (by decide +kernel) (pa_cons (pe_lc (own := [("_law_one", 2), ("_law_two", 3)]) (g := (gTup K 2 (gCons (gName 2) (gCons (gName 3) gNil)))) rfl sc__law_same.nd (RZ.pi_zipA (by rfl) T.f_zip (pa_cons (pv 0) (pa_cons (pv 1) pa_nil))) (blkOk_by (N := ["_law_found", "_law_due", "_law_one", "_law_two"]) (sc := defScope s__law_same) (by decide +kernel)) (fun _ _ _ _ _ => (pg_tup rfl (pgs_cons (pg_name (i := 2) sc__law_same.nd rfl (by first | exact .inl rfl | exact .inr rfl)) (pgs_cons (pg_name (i := 3) sc__law_same.nd rfl (by first | exact .inl rfl | exact .inr rfl)) pgs_nil)))) (fun _ _ _ _ _ => pts_nil) (fun _ _ _ _ _ => (pe_call (ok__law_same T) (hr.mono (by decide)) (by rfl) T.g__law_same T.D__law_same.kp T.b__law_same .nil pass0 (pa_cons (pv 2) (pa_cons (pv 3) pa_nil))))) pa_nil)))))))))), ?_⟩
    have kb : kitB (if l then "list" else "tuple") "bool" = some false := by cases l <;> decide +kernel
    have ki : kitB (if l then "list" else "tuple") "int" = some false := by cases l <;> decide +kernel
    have ks : kitB (if l then "list" else "tuple") "str" = some false := by cases l <;> decide +kernel
    have kl : kitB (if l then "list" else "tuple") "list" = some l := by cases l <;> decide +kernel
    have kt : kitB (if l then "list" else "tuple") "tuple" = some (!l) := by cases l <;> decide +kernel
    refine ⟨_, rfl, rfl, _, rfl, noo rfl ?_⟩
    dsimp only [tNext]
    refine ⟨_, rfl, _, _, _, _, false, rfl, .ty _, hc.ty, kit_ty kb, _, rfl, noo rfl ⟨_, rfl, _, _, _, _, false, rfl, .ty _, ha.ty, kit_ty kb, _, rfl, noo rfl ?_⟩⟩
    dsimp only [tNext]
    refine ⟨_, rfl, ok_le (by simp), fun t1 h1 => ⟨_, t1, _, _, _, false, rfl, upd_same, .cons (.ty _) (.cons (.ty _) .nil), (hc.mono (Same.up h1)).ty, any_not ki ks, _, rfl, noo rfl ?_⟩⟩
    have z1 := Same.up (o := .tup [V.ty "int", V.ty "str"]) h1
    have ha1 := ha.mono z1
    have hc1 := hc.mono z1
    generalize upd H t1 (.tup [V.ty "int", V.ty "str"]) = H1 at z1 ha1 hc1
    dsimp only [tNext]
    refine ⟨_, rfl, _, _, _, _, l, rfl, .ty _, hc1.ty, kit_ty kl, _, rfl, _, _, _, _, l, rfl, .ty _, ha1.ty, kit_ty kl, rfl, _, rfl, noo (by cases l <;> rfl) ?_⟩
    refine ⟨_, rfl, _, _, _, _, !l, rfl, .ty _, hc1.ty, kit_ty kt, _, rfl, _, _, _, _, !l, rfl, .ty _, ha1.ty, kit_ty kt, rfl, _, rfl, noo (by cases l <;> rfl) ?_⟩
    dsimp only [tNext]
    refine ⟨_, rfl, _, _, rfl, ha1.len, _, rfl, _, _, rfl, hc1.len, rfl, _, rfl, yes (decide_eq_true rfl) ?_⟩
    refine ⟨_, rfl, _, rfl, a, c, xs.map V.int, xs.map V.int, rfl, ?_⟩
    cases l with
    | true =>
      refine .inl ⟨.inl (.inl ha1), .inl (.inl hc1), ?_⟩
      refine fun D hD => lcM (walk_zipL (K := K)) (by rw [List.length_map]; omega) hD (fun H e => ⟨.inl (.inl (e _ _ ha1)), .inl (.inl (e _ _ hc1))⟩) (fun i H acc => acc = List.replicate i (V.bl true)) rfl (fun _ _ _ _ _ h => h) ?_ ?_
      · rintro i x H2 H3 acc B hi e hacc rfl ⟨T1, x1, y1, rfl, hn, rfl, hx, hy⟩ hl kB
        dsimp only at hx hy
        rw [List.getElem?_map] at hx hy
        obtain ⟨v, hv, rfl⟩ := Option.map_eq_some_iff.mp hx
        rw [hv] at hy
        cases hy
        have zt := Same.up (o := .tup [V.int v, V.int v]) hn
        refine ⟨_, _, rfl, newT, rfl, _, _, rfl, _, _, rfl, rfl, ?_⟩
        refine ⟨rfl, _, rfl, _, rfl, v, rfl, fun H4 z4 => kB _ _ (zt.trans z4) ?_⟩
        rw [List.replicate_succ']
      · intro H2 acc e hacc hl hr2
        rw [List.length_map] at hr2
        refine ⟨D, List.replicate xs.length true, rfl, .inl (.inl ?_), ?_⟩
        · rw [hacc, hr2, List.map_replicate]
        · have ea : (List.replicate xs.length true).all id = true := by rw [List.all_eq_true]; intro x hx; rw [List.eq_of_mem_replicate hx]; rfl
          rw [ea]
          exact k _ (z1.trans e)
    | false =>
      refine .inr ⟨ha1, hc1, ?_⟩
      refine fun D hD => lcM (walk_zipT (K := K)) (by rw [List.length_map]; omega) hD (fun H e => ⟨Same.seqT e ha1, Same.seqT e hc1⟩) (fun i H acc => acc = List.replicate i (V.bl true)) rfl (fun _ _ _ _ _ h => h) ?_ ?_
      · rintro i x H2 H3 acc B hi e hacc rfl ⟨T1, x1, y1, rfl, hn, rfl, hx, hy⟩ hl kB
        dsimp only at hx hy
        rw [List.getElem?_map] at hx hy
        obtain ⟨v, hv, rfl⟩ := Option.map_eq_some_iff.mp hx
        rw [hv] at hy
        cases hy
        have zt := Same.up (o := .tup [V.int v, V.int v]) hn
        refine ⟨_, _, rfl, newT, rfl, _, _, rfl, _, _, rfl, rfl, ?_⟩
        refine ⟨rfl, _, rfl, _, rfl, v, rfl, fun H4 z4 => kB _ _ (zt.trans z4) ?_⟩
        rw [List.replicate_succ']
      · intro H2 acc e hacc hl hr2
        rw [List.length_map] at hr2
        refine ⟨D, List.replicate xs.length true, rfl, .inl (.inl ?_), ?_⟩
        · rw [hacc, hr2, List.map_replicate]
        · have ea : (List.replicate xs.length true).all id = true := by rw [List.all_eq_true]; intro x hx; rw [List.eq_of_mem_replicate hx]; rfl
          rw [ea]
          exact k _ (z1.trans e)
end
end Ow
set_option Elab.async false
set_option linter.all false
set_option maxRecDepth 100000
set_option maxHeartbeats 4000000
/-! try .. except (A, B, C) as n; a def called in such a suite with the exception; a call with keywords -/
namespace Ow
open PySem PySem.Spec PyProof.Rows L2
theorem flying_kept {B h h' : Heap} {l : List Env} {a : Addr} {Z : Obj → Prop} (k : ∀ b o, h.get? b = some o → h'.get? b = some o) (x : HandSPX.FlyingZ B l a Z h) : HandSPX.FlyingZ B l a Z h' := by
  obtain ⟨x1, x2, x3, oe, vs, T, oT, ts, y1, y2, y3, y4, y5, y6, y7, y8, y9⟩ := x
  exact ⟨fun b o e => k b o (x1 b o e), x2, x3.of_keeps (fun b o e _ => ⟨o, k b o e, rfl⟩), oe, vs, T, oT, ts, k _ _ y1, y2, y3, y4, y5, y6, k _ _ y7, y8, y9⟩
/-- what the suite is left to reach: the name is gone -/
def goneD (i : Nat) (D : Ends) : Ends := { nx := fun σ' H' => D.nx (σ'.set i none) H', rt := D.rt, bk := fun σ' H' => D.bk (σ'.set i none) H', ct := fun σ' H' => D.ct (σ'.set i none) H' }
/-- each exception of the body is one of the three -/
def w3 (K : PySem.W.Frag) (c1 c2 c3 : Value) (i : Nat) (ts : Addr → Value → Option Addr → TS) (D : Ends) : WX := fun cls d σ H =>
  PySem.W.exmAny K cls [c1, c2, c3] = some true ∧ (i < σ.length → ∀ a, H a = none → ts a cls d (goneD i D) (σ.set i (some (.ref a))) H)
section
variable {X : Cx} {x1 x2 x3 n : Str} {c1 c2 c3 : Value} {i kk : Nat} {body suite : List Stmt} {b₀ : Stmt} {p1 p2 p3 tp pos pos' : Pos} {tb : WX → TS} {ts : Addr → Value → Option Addr → TS}
theorem ps_try3 (hs : X.stack = X.env :: X.outer) (hf : X.env.frame = some X.env.locals) (hN : X.N.Nodup) (hi : X.N[i]? = some n) (hln : X.env.kindOf n = some .local) (n1 : Names X x1 c1) (n2 : Names X x2 c2) (n3 : Names X x3 c3)
    (hb : ∀ (W : WX) (pn : List (Addr × Obj)) (xe : Value → Shared → Prop), Takes (X.tr pn xe) W → PassesOwn (model X.prog X.w) X.A X.env xe → PSs (X.tr pn xe) body (tb W))
    (hsu : ∀ (a : Addr) (oe : Obj) (cls : Value) (d : Option Addr) (pn : List (Addr × Obj)), Zc cls d oe → (∃ vs, oe.data = .fields vs) → PSs (X.suite a ((a, oe) :: pn)) (b₀ :: suite) (ts a cls d)) :
    PS X (.Try body [.ExceptHandler (some (.Tuple [.Name x1 p1, .Name x2 p2, .Name x3 p3] kk tp)) (some n) (b₀ :: suite) pos'] [] [] pos) (fun D σ H => tb (w3 X.K c1 c2 c3 i ts D) D σ H) := by
  refine ⟨fun pins s σ H D I h => wpAny_Try_except ?_⟩
  have hx := I.ok
  have hfr : X.A.frames = some (X.env :: X.outer) := by rw [hx.frames, hs]
  let hand : List ExceptHandler := [.ExceptHandler (some (.Tuple [.Name x1 p1, .Name x2 p2, .Name x3 p3] kk tp)) (some n) (b₀ :: suite) pos']
  let caught : Value → Shared → Prop := fun e z1 => wpAny (model X.prog X.w) X.A (noteFrame e X.env) (fun _ z2 => wpAny (model X.prog X.w) X.A (setFlight e none) (fun _ z3 => wpAny (model X.prog X.w) X.A (handleBy e X.env hand) (SP X pins D) X.xe z3) X.xe z2) X.xe z1
  have tk : Takes (X.tr (X.pn ++ pins) caught) (w3 X.K c1 c2 c3 i ts D) := by
    rintro u s' ⟨a, B, sI, pins', σ', H', cls, d, rfl, J', nb, up, sky, na, os, ag, hm, hyes⟩
    have J := J'.ofTry hx
    have hlen : i < σ'.length := by
      rw [J.len]
      exact (List.getElem?_eq_some_iff.mp hi).1
    have sky1 : Sky B (X.env :: X.outer) a (Zc cls d) X.env.locals s'.heap := by rw [← hs]; exact sky
    refine Sky.land Zc.steady hfr hf sky1 fun h3 fl3 up3 => ?_
    have J3 : Inv X pins σ' H' { s' with heap := h3 } := J.landed nb fl3.1 (up.trans up3) os ag
    obtain ⟨oe3, vs3, he3, hz3, hd3⟩ := fl3.there
    have nfr : a ∉ frs (X.env :: X.outer) := fun hmem => by
      obtain ⟨_, o', e', hnf⟩ := fl3.2.2.1.mem hmem
      rw [he3] at e'
      cases e'
      exact hnf _ hd3
    have nL : a ≠ X.env.locals := fun z => nfr (List.mem_filterMap.mpr ⟨X.env, List.mem_cons_self, by rw [hf, z]⟩)
    have nF : a ∉ X.fs := fun hmem => by
      obtain ⟨e, he, q⟩ := List.mem_filterMap.mp hmem
      exact nfr (List.mem_filterMap.mpr ⟨e, List.mem_cons_of_mem _ he, q⟩)
    have S3 := J3.suite he3 hd3 na nL nF
    refine wpAny_handleBy_cons (codeAny_handlers_test ?_) (by intro q; cases q)
    have test : ∀ {x : Str} {c : Value} {p : Pos} {Q : Value → Shared → Prop} {E : Value → Shared → Prop}, Names X x c → Q c { s' with heap := h3 } → wpAny (model X.prog X.w) (X.A.mark (some (.ref a))) (eval (.Name x p) X.env) Q E { s' with heap := h3 } := fun {x c p Q E} hc q => by
      obtain ⟨hg, hdbg, hm | ⟨hm, hv, hnn⟩⟩ := hc
      · exact ld_glob (X := X.suite a ((a, oe3) :: (X.pn ++ pins))) S3 hg hm q hdbg
      · exact ld_blt (X := X.suite a ((a, oe3) :: (X.pn ++ pins))) S3 hg hm hv q hnn hdbg
    refine wpAny_Tuple (wpAny_items_cons (test n1 (wpAny_items_cons (test n2 (wpAny_items_cons (test n3 (wpAny_items_nil ⟨?_, ?_⟩)))))))
    · show 3 ≤ sizeLine
      decide
    have kp : ∀ b o, h3.get? b = some o → (h3.push { cls := .type "tuple", data := .seq [c1, c2, c3].toArray }).get? b = some o := fun _ _ z => Heap.get?_push_of_some _ z
    have LT : PySem.W.Looks (model X.prog X.w) (h3.push { cls := .type "tuple", data := .seq [c1, c2, c3].toArray }) (typeOf (.ref a)) cls := fun A Q E z k q => wpAny_typeOf_ref (k _ _ (kp _ _ he3)) (by rw [hz3.1]; exact q)
    have fl4 := flying_kept kp fl3
    have J4 : Inv X pins σ' H' { s' with heap := h3.push { cls := .type "tuple", data := .seq [c1, c2, c3].toArray } } := J3.kept (t' := s'.toks) kp
    refine (PySem.W.exm_tup3 J4.kIn LT (Heap.get?_push_size h3 rfl) hm).here ?_
    refine codeAny_handlers_suite_as ?_
    refine HandSPX.lands_againZ fl4 fun h5 fl5 up5 => ?_
    have up04 : sI.heap.UpToSlots (h3.push { cls := .type "tuple", data := .seq [c1, c2, c3].toArray }) := fun b o e nf => by
      obtain ⟨sl, q⟩ := (up.trans up3) b o e nf
      exact ⟨sl, kp _ _ q⟩
    have J5 : Inv X pins σ' H' { s' with heap := h5 } := J.landed nb fl5.1 (up04.trans up5) os ag
    obtain ⟨oe5, vs5, he5, hz5, hd5⟩ := fl5.there
    have S5 := J5.suite he5 hd5 na nL nF
    refine store_ok (X := X.suite a ((a, oe5) :: (X.pn ++ pins))) (v := .ref a) S5 hN hi (.inl hln) rfl (fun s6 S6 => ?_) (.inr hln)
    refine wpAny_mono ((hsu a oe5 cls d (X.pn ++ pins) hz5 ⟨_, hd5⟩).run [] s6 _ H' _ S6 (hyes hlen a na)) (fun f s7 hsp => ?_) (fun _ _ z => False.elim z)
    have leave : ∀ {σ7 : L2.St} {H7 : Hp} {Q : Shared → Prop}, Inv (X.suite a ((a, oe5) :: (X.pn ++ pins))) [] σ7 H7 s7 → (∀ s8, Inv X pins (σ7.set i none) H7 s8 → Q s8) → wpAny (model X.prog X.w) X.A (do bindName X.env n .none; unbindBehindTheSuite X.env n pos') (fun _ s8 => Q s8) X.xe s7 := fun {σ7 H7 Q} S7 hq => gone_ok (S7.unsuite hx) hN hi hln hq
    cases f with
    | ret u =>
      obtain ⟨v7, σ7, H7, S7, r7, q7⟩ := hsp
      exact leave S7 fun s8 J8 => ⟨_, _, _, J8, r7, q7⟩
    | next =>
      obtain ⟨σ7, H7, S7, q7⟩ := hsp
      exact leave S7 fun s8 J8 => ⟨_, _, J8, q7⟩
    | brk =>
      obtain ⟨σ7, H7, S7, q7⟩ := hsp
      exact leave S7 fun s8 J8 => ⟨_, _, J8, q7⟩
    | cont =>
      obtain ⟨σ7, H7, S7, q7⟩ := hsp
      exact leave S7 fun s8 J8 => ⟨_, _, J8, q7⟩
  refine wpAny_mono ((hb (w3 X.K c1 c2 c3 i ts D) (X.pn ++ pins) caught tk PassesOwn.looking).run [] s σ H D (I.toTry _) h) (fun f s1 hsp => ?_) (fun e s1 he => he)
  cases f with
  | next =>
    obtain ⟨σ', H', J', q⟩ := hsp
    exact wpAny_execs_nil ⟨σ', H', J'.ofTry hx, q⟩
  | brk =>
    obtain ⟨σ', H', J', q⟩ := hsp
    exact ⟨σ', H', J'.ofTry hx, q⟩
  | cont =>
    obtain ⟨σ', H', J', q⟩ := hsp
    exact ⟨σ', H', J'.ofTry hx, q⟩
  | ret u =>
    obtain ⟨v, σ', H', J', r, q⟩ := hsp
    exact ⟨v, σ', H', J'.ofTry hx, r, q⟩
end
/-- a def called in an except suite with what is handled: its body reads the handled exception -/
theorem pe_callX {X : Cx} {a f : Addr} {oe : Obj} {pn : List (Addr × Obj)} {k : Nat} {x qual y : Str} {params : Arguments} {body : List Stmt} {scope : Scope} {kws : List (Str × V)} {fd : FuncData} {N : List Str} {e : Expr} {te : TE} {tb : TS} {p pos : Pos} (F : FunD X.K x qual params body scope [] kws f fd) (S : FnScope N [y] scope)
    (hb : Binds X.K fd [y] []) (hd : ∃ vs, oe.data = .fields vs) (hr : Room (k + 1) X.A) (hg : Gl X x) (hm : X.mg x = some (.ref f)) (hk : PySem.W.keepIn X.K (.ref f) = true) (he : PE (X.suite a ((a, oe) :: pn)) e te)
    (hbody : ∀ (cdv : Value) (outer : List Env) (s : Shared) (H : Hp), PSs ((cxOf C8.CX0 X.prog X.w X.K X.mg X.base N qual scope f cdv X.A outer s H C8.E0).suite a [(a, oe)]) body tb) (hdb : (x == ("__debug__" : Str)) = false := by decide)
    (hst : starEach [e] X.env = (false, eval e X.env) :: starEach [] X.env := by rfl) :
    PE (X.suite a ((a, oe) :: pn)) (.Call (.Name x p) [e] [] pos) (fun σ H Q => te σ H fun v H1 => tb { nx := fun _ H' => Q .non H', rt := Q } (L2.start N [v]) H1) := by
  refine ⟨fun pins s σ H Q I h => ?_⟩
  refine wpAny_Call_Name_kw (ld_glob I hg hm ?_ hdb)
  refine PySem.W.callWith_K (h₀ := X.base) I.ok.mod.kin hk ?_ hst (by rfl)
  rw [hst]
  show wpAny _ _ (spliced ((false, eval e X.env) :: backTo pos (starEach [] X.env))) _ _ s
  refine Calls.spliced_cons (thn (he.run pins s σ H _ I h) fun u s1 ⟨v, H1, I1, rv, q⟩ => ?_)
  refine Calls.spliced_nil ⟨I1.kIn, ?_⟩
  obtain ⟨oc, od, dV, kV, doc, pm, an, cdv, ct, osl, rfl, lk, hcd, hD, hK⟩ := F.ex
  obtain ⟨vs0, hd0⟩ := hd
  obtain ⟨g1, g2, g3, g4, g5⟩ := I1.pin (a, oe) (List.mem_append_left _ List.mem_cons_self)
  have pinok : L2H.PinOk X.stack H1 s1 (a, oe) := ⟨g1, g2, fun z => (List.mem_cons.mp (I1.stkSub _ z)).elim g3 g4, g5⟩
  have e0 : Env0 X.prog X.w X.K X.mg X.base (X.A.mark (some (.ref a))) X.stack s1 H1 := I1.env0
  have KX : X.K.In s1.heap := I1.kIn
  have hkind : ∀ z ∈ [y].zip [u], scope.names.lookup z.1 = some .local ∨ (scope.names.lookup z.1 = some .cell ∧ ((cellsFrom (s1.heap.objs.size + 1) scope.names []).lookup z.1).isSome = true) := fun ⟨m, c⟩ hz => by
    rcases S.par m (List.of_mem_zip hz).1 with q | q
    · exact .inl q
    · exact .inr ⟨q, PySem.W.cellsFrom_some _ _ _ (.inl q)⟩
  have rc : codeAny (model X.prog X.w) (X.A.mark (some (.ref a))) (.call (.ref f) ⟨[u], []⟩) (CR C8.CX0 X.stack X.prog X.w H1 s1 Q C8.E0) s1 := by
    refine codeAny_call_function (L2H.roomH_of hr).depth (KX _ _ lk) rfl S.co S.gen rfl (PySem.W.codeRec_of KX hcd) (hb s1 [u] KX rfl _ _ _ _ ?_)
    refine wpAny_newFunctionEnv_cells S.kind hkind fun env hen s2 xc => ?_
    subst hen
    refine ⟨I1.nolimit.keeps xc.toInCall.keep, codeAny_func ?_⟩
    have J := L2H.inv_startH (CX := C8.CX0) (E := C8.E0) (f := f) (cd := cdv) (qual := qual) (vs := [v]) (us := [u]) S pinok e0 rfl (.cons rv .nil) xc
    have J2 : Inv ((cxOf C8.CX0 X.prog X.w X.K X.mg X.base N qual scope f cdv X.A X.stack s1 H1 C8.E0).suite a [(a, oe)]) [] (L2.start N [v]) H1 s2 :=
      ⟨⟨J.ok.mod, J.ok.kind, J.ok.glob, J.ok.blt, J.ok.above, J.ok.inj, J.ok.has, J.ok.cab, J.ok.hd, J.ok.frames, J.ok.stk, J.ok.exf, J.ok.bs, J.ok.bsz, J.ok.noex, J.ok.exfs, J.ok.funs, J.ok.frf⟩, J.os, J.bare, J.base, J.loc, J.cell, J.free, J.freeC, J.pin, J.hok, J.len⟩
    refine wpAny_mono ((hbody cdv X.stack s1 H1).run [] s2 (L2.start N [v]) H1 _ J2 q) (fun fl s' hs => ?_) (fun _ _ z => False.elim z)
    have fin : ∀ {σ' : L2.St} {H' : Hp} {v : V} {u : Value}, Inv ((cxOf C8.CX0 X.prog X.w X.K X.mg X.base N qual scope f cdv X.A X.stack s1 H1 C8.E0).suite a [(a, oe)]) [] σ' H' s' → L2.RelV v u → Q v H' → CE X.stack X.prog X.w H1 s1 Q u s' :=
      fun {σ' H' v u} J rv q => ⟨v, H', J.os, J.bare, J.base, J.hok, rv, q⟩
    cases fl with
    | ret u =>
      obtain ⟨v, σ', H', J, rv, q⟩ := hs
      exact fin J rv q
    | next =>
      obtain ⟨σ', H', J, q⟩ := hs
      exact fin (v := V.non) (u := Value.none) J rfl q
    | brk =>
      obtain ⟨_, _, _, z⟩ := hs
      exact False.elim z
    | cont =>
      obtain ⟨_, _, _, z⟩ := hs
      exact False.elim z
  refine wpAny_call (codeAny_mono rc fun r s2 hq => ?_)
  cases r with
  | error e => exact (show False from hq).elim
  | ok fl =>
    cases fl with
    | ret u => exact I1.after hq
    | next => exact False.elim hq
    | brk => exact False.elim hq
    | cont => exact False.elim hq
end Ow
set_option Elab.async false
set_option linter.all false
set_option maxRecDepth 100000
set_option maxHeartbeats 4000000
/-! a generator def with one for loop that yields; a comprehension that walks it -/
namespace Ow
open PySem PySem.Spec PyProof.Rows L2 GenW
/-- between two items: v comes behind the list at S, the record at C may change -/
structure Nap (S C : Addr) (v : Value) (s s' : Shared) : Prop where
  os : s'.os = s.os
  bare : AllBare s'.gens
  keep : ∀ b o, b ≠ S → b ≠ C → s.heap.get? b = some o → s'.heap.get? b = some o
  own : ∀ acc c, s.heap.get? S = some (lstObj acc c) → ∃ c', s'.heap.get? S = some (lstObj (acc.push v) c')
  rcd : ∃ o, s'.heap.get? C = some o ∧ ∀ v, o.data ≠ .cell v
/-- the generator runs: ys are out -/
def GJ (X : Cx) (S C : Addr) (oC : Obj) (ip : List (Addr × Obj)) (ys : List V) (σ : L2.St) (H : Hp) (s : Shared) : Prop :=
  ∃ (acc : Array Value) (c : Nat), Vals ys acc.toList ∧ Inv X ((S, lstObj acc c) :: (C, oC) :: ip) σ H s
structure Aw (X : Cx) (S C : Addr) : Prop where
  ne : S ≠ C
  pn : ∀ p ∈ X.pn, p.1 ≠ S ∧ p.1 ≠ C
  aS : Apart X S
  aC : Apart X C
section
variable {X : Cx} {S C : Addr} {ip : List (Addr × Obj)} {ys : List V} {x : V} {v : Value} {oC : Obj} {σ : L2.St} {H : Hp} {s s' : Shared}
theorem GJ.atS (h : GJ X S C oC ip ys σ H s) : H S = none ∧ ∃ (acc : Array Value) (c : Nat), Vals ys acc.toList ∧ s.heap.get? S = some (lstObj acc c) := by
  obtain ⟨acc, c, r, I⟩ := h
  obtain ⟨h1, h2, _⟩ := I.pin (S, lstObj acc c) (List.mem_append_right _ List.mem_cons_self)
  exact ⟨h2, acc, c, r, h1⟩
theorem GJ.atC (h : GJ X S C oC ip ys σ H s) : s.heap.get? C = some oC ∧ H C = none := by
  obtain ⟨acc, c, r, I⟩ := h
  obtain ⟨h1, h2, _⟩ := I.pin (C, oC) (List.mem_append_right _ (List.mem_cons_of_mem _ List.mem_cons_self))
  exact ⟨h1, h2⟩
theorem GJ.woken (A : Aw X S C) (hip : ∀ p ∈ ip, p.1 ≠ S ∧ p.1 ≠ C) (h : GJ X S C oC ip ys σ H s) (rv : RelV x v) (z : Nap S C v s s') : ∃ oC', s'.heap.get? C = some oC' ∧ GJ X S C oC' ip (ys ++ [x]) σ H s' := by
  obtain ⟨acc, c, r, I⟩ := h
  obtain ⟨a1, a2, a3, a4, _⟩ := I.pin (S, lstObj acc c) (List.mem_append_right _ List.mem_cons_self)
  obtain ⟨b1, b2, b3, b4, _⟩ := I.pin (C, oC) (List.mem_append_right _ (List.mem_cons_of_mem _ List.mem_cons_self))
  have I0 : Inv X ip σ H s := I.pins_of fun p hp => I.pin p (List.mem_append_right _ (List.mem_cons_of_mem _ (List.mem_cons_of_mem _ hp)))
  obtain ⟨o', ho', hcl⟩ := z.rcd
  obtain ⟨c', hS'⟩ := z.own acc c a1
  have nt : ∀ b u, H b = some u → b ≠ S ∧ b ≠ C := fun b u q => ⟨fun e => (by rw [e, a2] at q; cases q), fun e => (by rw [e, b2] at q; cases q)⟩
  have un : Un (frs X.stack) [S, C] H H s.heap s'.heap := by
    have nc : ∀ b, b ∉ [S, C] → b ≠ S ∧ b ≠ C := fun b hb => by simpa using hb
    exact ⟨fun b o q _ _ hx => z.keep b o (nc b hx).1 (nc b hx).2 q, fun b o q _ _ hx => ⟨o.slots, z.keep b o (nc b hx).1 (nc b hx).2 q⟩, fun _ _ _ n _ => n, fun b o q hx => ⟨o, z.keep b o (nc b hx).1 (nc b hx).2 q⟩, fun _ _ q => q, fun _ _ _ q => q, fun b ps q => ⟨#[], by rw [q]; simp⟩⟩
  have hok : HOk X.prog X.w H s'.heap := fun b u q => by
    refine (I0.hok b u q).stay (fun d w hd y => ?_) (fun _ y => y) fun _ _ y => y
    have : d ≠ S ∧ d ≠ C := by
      rcases hd with e | e
      · rw [e]; exact nt b u q
      · exact nt d _ e
    exact z.keep d w this.1 this.2 y
  have J : Inv X ip σ H s' := I0.call' z.os un hok z.bare fun b hb => by
    have e : b = S ∨ b = C := by simpa using hb
    rcases e with rfl | rfl
    · exact ⟨.inr A.aS.1, A.aS.2.1, A.aS.2.2, fun p hp => (List.mem_append.mp hp).elim (fun y => (A.pn p y).1) fun y => (hip p y).1⟩
    · exact ⟨.inr A.aC.1, A.aC.2.1, A.aC.2.2, fun p hp => (List.mem_append.mp hp).elim (fun y => (A.pn p y).2) fun y => (hip p y).2⟩
  refine ⟨o', ho', acc.push v, c', ?_, J.pins_of fun p hp => ?_⟩
  · rw [Array.toList_push]
    exact r.append (.cons rv .nil)
  · rcases List.mem_cons.mp hp with e | hp
    · rw [e]
      exact ⟨hS', a2, a3, a4, fun v q => by cases q⟩
    · rcases List.mem_cons.mp hp with e | hp
      · rw [e]
        exact ⟨ho', b2, b3, b4, hcl⟩
      · exact J.pin p (List.mem_append_right _ hp)
end
/-! ### the protocol -/
def GYp (X : Cx) (S C : Addr) : Protocol := fun n s₀ v s kap =>
  ∃ ys x ip σ H oC, n + 1 + ys.length = sizeLine ∧ RelV x v ∧ GJ X S C oC ip ys σ H s ∧ s₀.heap.get? C = some oC ∧ ∀ s', Nap S C v s s' → kap (.send .none) s'
/-- where the code stands -/
structure GCp (X : Cx) (A : Around) (c : Code) (fs : List Frame) (gd : Bool → Bool) : Prop where
  over : A.over c fs = X.A
  split : splitAtGen fs = none
  guard : fs.any Frame.guarded = false
  gd : gd false = false
/-- for target in iter: yield e -/
def tForY (wi : TI) (g : TG) (te : TE) (Dn : List V → L2.St → Hp → Prop) : List V → L2.St → Hp → Prop := fun ys σ H => wi σ H fun J H1 => ∃ W : Nat → List V → L2.St → Hp → Prop, W 0 ys σ H1 ∧ ∀ i ys σ H, W i ys σ H →
  (J.stop i H ∧ Dn ys σ H) ∨ (J.go i H ∧ ys.length < sizeLine ∧ ∀ x H', J.yld i H x H' → g x σ H' fun σ2 H2 => te σ2 H2 fun y H3 => W (i + 1) (ys ++ [y]) σ2 H3)
section
variable {X : Cx} {S C : Addr} {A : Around} {R : GenEnd} {fs : List Frame} {c : Code}
theorem seg_forT {tg e : Expr} {it : Addr} {fp : List Addr} {tn : Nat → Heap → Prop} {J : It} {yp ep : Pos} {g : TG} {te : TE} {fs1 : List Frame} (hxe : X.xe = fun _ _ => False) (hc : X.calm = true) (hg : PG X tg g) (he : PE X e te) (hco : X.env.scope.isCoroutine = false) (hin : interactive X.env = false) (aw : Aw X S C)
    (T : Turn X.prog X.w X.K tg J fp it tn) (f2 : ∀ b ∈ fp, b ≠ X.env.locals ∧ b ∉ X.fs ∧ (b ∈ X.ex ∨ X.s_0.heap.objs.size ≤ b) ∧ (∀ x c, X.env.cells.lookup x = some c → c ≠ b) ∧ (∀ p ∈ X.pn, p.1 ≠ b) ∧ b ≠ S ∧ b ≠ C)
    (ov : A.over (.forLoop tg (.ref it) [.Expr (.Yield (some e) yp) ep] [] X.env) fs1 = X.A) (sp : splitAtGen fs1 = none) (gu : fs1.any Frame.guarded = false) {Dn : List V → L2.St → Hp → Prop} {W : Nat → List V → L2.St → Hp → Prop}
    (turn : ∀ i ys σ H, W i ys σ H → (J.stop i H ∧ Dn ys σ H) ∨ (J.go i H ∧ ys.length < sizeLine ∧ ∀ x H', J.yld i H x H' → g x σ H' fun σ2 H2 => te σ2 H2 fun y H3 => W (i + 1) (ys ++ [y]) σ2 H3))
    (hend : ∀ (n : Nat) (ys : List V) (s₀ s : Shared) (σ : L2.St) (H : Hp) (oC : Obj), n + ys.length = sizeLine → s₀.heap.get? C = some oC → GJ X S C oC [] ys σ H s → Dn ys σ H → Seg (model X.prog X.w) A R (GYp X S C) n s₀ (.block [] X.env) (leafOf (.ok .next)) fs1 s) :
    ∀ (n i : Nat) (ys : List V) (s₀ s : Shared) (σ : L2.St) (H : Hp) (oC : Obj), n + ys.length = sizeLine → s₀.heap.get? C = some oC → GJ X S C oC [] ys σ H s → tn i s.heap → (∀ b ∈ fp, H b = none) → W i ys σ H →
      Seg (model X.prog X.w) A R (GYp X S C) n s₀ (.forLoop tg (.ref it) [.Expr (.Yield (some e) yp) ep] [] X.env) ((model X.prog X.w).den (.forLoop tg (.ref it) [.Expr (.Yield (some e) yp) ep] [] X.env)) fs1 s := by
  have lift : ∀ {α : Type} {t : Sem α} {s : Shared} {Q Q' : α → Shared → Prop} {E : Value → Shared → Prop}, wpAny (model X.prog X.w) X.A t Q (fun _ _ => False) s → (∀ a s', Q a s' → Q' a s') → wpAny (model X.prog X.w) X.A t Q' E s := fun h q => wpAny_mono h q fun x s' z => z.elim
  have pinF : ∀ {acc : Array Value} {cc : Nat} {oC : Obj} {H : Hp}, (∀ b ∈ fp, H b = none) → ∀ b ∈ fp, FpOk X [(S, lstObj acc cc), (C, oC)] H b := fun hn b hb => by
    obtain ⟨a1, a2, a3, a4, a5, a6, a7⟩ := f2 b hb
    refine ⟨hn b hb, a1, a2, a3, a4, fun q hq => ?_⟩
    rcases List.mem_append.mp hq with hq | hq
    · exact a5 q hq
    · rcases List.mem_cons.mp hq with e | hq
      · rw [e]
        exact Ne.symm a6
      · rw [List.mem_singleton.mp hq]
        exact Ne.symm a7
  intro n
  induction n using Nat.strongRecOn with
  | ind n ih =>
    intro i ys s₀ s σ H oC hn h0 hI st fr w
    obtain ⟨acc, cc, r, I⟩ := hI
    show Seg _ A _ _ _ s₀ _ ((forTurn tg (.ref it) [.Expr (.Yield (some e) yp) ep] [] X.env).onRaise _) fs1 s
    unfold forTurn
    rw [Sem.onRaise_eq_wrap]
    refine seg_bind_wrap (wpAny_standAt ?_)
    refine seg_bind_wrap (wpAny_onRaise ?_)
    rw [ov]
    rcases turn i ys σ H w with ⟨stop, qd⟩ | ⟨go, hlt, step⟩
    · refine lift (T.done X rfl rfl rfl hc i _ s σ H (fun _ _ => False) I (pinF fr) st stop) fun rr s4 ⟨hr, I4⟩ => ?_
      subst hr
      refine seg_again rfl ?_
      exact hend n ys s₀ s4 σ H oC hn h0 ⟨acc, cc, r, I4⟩ qd
    · obtain ⟨m, rfl⟩ : ∃ m, n = m + 1 := ⟨n - 1, by omega⟩
      refine lift (T.item X rfl rfl rfl hc i _ s σ H (fun _ _ => False) I (pinF fr) st go) fun rr s4 ⟨u, hr, h4⟩ => ?_
      subst hr
      dsimp only
      refine seg_bind_wrap ?_
      rw [ov]
      refine lift h4 fun _ s5 ⟨x, H5, I5, r5, y5, st5, fr5⟩ => ?_
      have I5' := I5.pinned (pinF fr5) (T.obj _ _ st5)
      refine seg_bind_wrap ?_
      rw [ov]
      refine wpAny_mono (hg.run _ s5 σ H5 x u _ I5' r5 (step x H5 y5)) (fun _ s6 ⟨σ6, H6, I6, q6⟩ => ?_) (fun x s' z => by rw [hxe] at z; exact z.elim)
      rw [Sem.bind_eq_wrap', Sem.wrap_wrap]
      refine seg_execs_cons ?_
      refine seg_Expr_Yield sp rfl gu ?_ hco hin
      rw [ov]
      refine wpAny_mono (he.run _ s6 σ6 H6 _ I6 q6) (fun v s7 ⟨y, H7, I7, r7, w7⟩ => ?_) (fun x s' z => by rw [hxe] at z; exact z.elim)
      intro kap hkap
      have G7 : GJ X S C oC (pinsAt fp s5.heap) ys σ6 H7 s7 := ⟨acc, cc, r, I7⟩
      refine ⟨ys, y, pinsAt fp s5.heap, σ6, H7, oC, hn, r7, G7, h0, fun s8 z => hkap .none s8 ?_⟩
      obtain ⟨oC', hC', acc8, cc8, r8, I8⟩ := G7.woken aw (fun q hq => by
        obtain ⟨hb, _⟩ := of_pinsAt hq
        obtain ⟨_, _, _, _, _, a6, a7⟩ := f2 q.1 hb
        exact ⟨a6, a7⟩) r7 z
      have at8 : ∀ b ∈ fp, ∀ o, s5.heap.get? b = some o → s8.heap.get? b = some o ∧ H7 b = none := fun b hb o eo =>
        let z := I8.pin (b, o) (List.mem_append_right _ (List.mem_cons_of_mem _ (List.mem_cons_of_mem _ (mem_pinsAt hb eo))))
        ⟨z.1, z.2.1⟩
      refine seg_again rfl (ih m (Nat.lt_succ_self m) (i + 1) (ys ++ [y]) s8 s8 σ6 H7 oC' ?_ hC' ⟨acc8, cc8, r8, I8.pins_of fun q hq => I8.pin q (List.mem_append_right _ ?_)⟩ (T.keep _ _ _ st5 fun b hb o eo => (at8 b hb o eo).1) (fun b hb => ?_) w7)
      · rw [List.length_append, List.length_singleton]
        omega
      · rcases List.mem_cons.mp hq with e | hq
        · rw [e]
          exact List.mem_cons_self
        · rw [List.mem_singleton.mp hq]
          exact List.mem_cons_of_mem _ List.mem_cons_self
      · obtain ⟨o, eo, _⟩ := T.obj _ _ st5 b hb
        exact (at8 b hb o eo).2
theorem seg_forY {tg iter e : Expr} {yp ep pos : Pos} {wi : TI} {g : TG} {te : TE} (hxe : X.xe = fun _ _ => False) (hc : X.calm = true) (hi : PI X tg iter wi) (hg : PG X tg g) (he : PE X e te) (hco : X.env.scope.isCoroutine = false) (hin : interactive X.env = false) (aw : Aw X S C)
    (hs : ∀ x, foldedSetIterable iter X.env x = pure x) {K : Flow → Sem PySem.Fin} {J0 : Value → Sem PySem.Fin} {gd : Bool → Bool} {lv : List Value → List Value} (gc : GCp X A c fs gd) {Dn : List V → L2.St → Hp → Prop}
    (hk : ∀ (n : Nat) (ys : List V) (s₀ s : Shared) (σ : L2.St) (H : Hp) (oC : Obj), n + ys.length = sizeLine → s₀.heap.get? C = some oC → GJ X S C oC [] ys σ H s → Dn ys σ H → Seg (model X.prog X.w) A R (GYp X S C) n s₀ c (K .next) fs s)
    {n : Nat} {ys : List V} {s₀ s : Shared} {σ : L2.St} {H : Hp} {oC : Obj} (hn : n + ys.length = sizeLine) (h0 : s₀.heap.get? C = some oC) (hI : GJ X S C oC [] ys σ H s) (ht : tForY wi g te Dn ys σ H) :
    Seg (model X.prog X.w) A R (GYp X S C) n s₀ c ((exec (.For tg iter [.Expr (.Yield (some e) yp) ep] [] pos) X.env).wrap K J0 gd lv) fs s := by
  have lift : ∀ {α : Type} {t : Sem α} {s : Shared} {Q Q' : α → Shared → Prop} {E : Value → Shared → Prop}, wpAny (model X.prog X.w) X.A t Q X.xe s → (∀ a s', Q a s' → Q' a s') → wpAny (model X.prog X.w) X.A t Q' E s := fun h q => wpAny_mono h q fun x s' z => by
    rw [hxe] at z
    exact z.elim
  rw [exec_For]
  refine seg_bind_wrap (wpAny_standAt ?_)
  obtain ⟨acc, cc, r, I⟩ := hI
  refine seg_bind_wrap ?_
  rw [gc.over]
  refine lift (hi.run _ s σ H _ I ht) fun v s1 h1 => ?_
  refine seg_bind_wrap (wpAny_of_eq (hs v) ?_)
  refine seg_bind_wrap (wpAny_standAt ?_)
  refine seg_bind_wrap (wpAny_holding ?_)
  rw [gc.over]
  refine lift h1 fun itv s2 h2 => ?_
  obtain ⟨it, fp, tn, J, H2, rfl, I2, T, st2, f2, W, w0, turn⟩ := h2
  refine seg_call fun p => ?_
  refine seg_forT hxe hc hg he hco hin aw T (fun b hb => ?_) ((over_loop rfl rfl).trans gc.over) ?_ ?_ turn (fun n' ys' s₀' s' σ' H' oC' a1 a2 a3 a4 => seg_leaf (.ok .next) (hk n' ys' s₀' s' σ' H' oC' a1 a2 a3 a4)) n 0 ys s₀ s2 σ H2 oC hn h0 ⟨acc, cc, r, I2⟩ st2 (fun b hb => (f2 b hb).1) w0
  · obtain ⟨_, a1, a2, a3, a4, a5⟩ := f2 b hb
    exact ⟨a1, a2, a3, a4, fun q hq => a5 q (List.mem_append_left _ hq), fun z => a5 (S, lstObj acc cc) (List.mem_append_right _ List.mem_cons_self) z.symm, fun z => a5 (C, oC) (List.mem_append_right _ (List.mem_cons_of_mem _ List.mem_cons_self)) z.symm⟩
  · show (splitAtGen fs).map _ = none
    rw [gc.split]
    rfl
  · show (gd false || fs.any Frame.guarded) = false
    rw [gc.gd, gc.guard]
    rfl
end
/-! ### a generator that has not begun -/
def gcx (P : Program) (w : World) (K : PySem.W.Frag) (mg : Str → Option Value) (base : Heap) (N : List Str) (qual : Str) (scope : Scope) (f : Addr) (cd : Value) (A : Around) (outer : List Env) (s : Shared) (H : Hp) (pn : List (Addr × Obj)) : Cx :=
  { cxOf C8.CX0 P w K mg base N qual scope f cd A outer s H C8.E0 with pn := pn, xe := fun _ _ => False }
/-- all is out -/
def GenF (P : Program) (w : World) (outer : List Env) (H : Hp) (s : Shared) (S C : Addr) (Q : List V → Hp → Prop) : Nat → Shared → Shared → Prop := fun n s₀ s1 =>
  ∃ H' ys acc c, s1.os = s.os ∧ AllBare s1.gens ∧ Un (frs outer) [] H H' s.heap s1.heap ∧ HOk P w H' s1.heap ∧ H' S = none ∧ H' C = none ∧ s1.heap.get? S = some (lstObj acc c) ∧ s1.heap.get? C = s₀.heap.get? C ∧ Vals ys acc.toList ∧ ys.length ≤ sizeLine ∧ Q ys H'
def GenE (P : Program) (w : World) (outer : List Env) (H : Hp) (s : Shared) (S C : Addr) (Q : List V → Hp → Prop) : GenEnd := fun n s₀ r s1 => ((r = .ok (.ret .none) ∨ r = .ok .next) ∧ GenF P w outer H s S C Q n s₀ s1) ∨ ∃ e, r = .error e ∧ False
def GenY (s : Shared) (S C a : Addr) (g : Nat) : Protocol := fun n s₀ v s1 kap =>
  s1.os = s.os ∧ AllBare s1.gens ∧ s1.heap.NoLimit ∧ s1.heap.IsGen a g ∧ (∃ (acc : Array Value) (c : Nat), s1.heap.get? S = some (lstObj acc c) ∧ n + 1 + acc.size = sizeLine) ∧ s1.heap.get? C = s₀.heap.get? C ∧ ∀ s', Nap S C v s1 s' → kap (.send .none) s'
def Made2 (P : Program) (w : World) (k : Nat) (outer : List Env) (H : Hp) (s : Shared) (Q : List V → Hp → Prop) (u : Value) (s' : Shared) : Prop :=
  ∃ (a : Addr) (g : Nat) (c : Code), u = .ref a ∧ s.heap.objs.size ≤ a ∧ a < s'.heap.objs.size ∧ s'.heap.IsGen a g ∧ s'.gens[g]? = some (.fresh c) ∧ s'.os = s.os ∧ AllBare s'.gens ∧ s'.heap.NoLimit ∧ (∀ b o, s.heap.get? b = some o → s'.heap.get? b = some o) ∧
    ∀ (A : Around) (S C : Addr) (s2 : Shared) (oC : Obj), Room k A → A.frames = some outer → s'.heap.objs.size ≤ S → s'.heap.objs.size ≤ C → S ≠ C → (∀ b o, s'.heap.get? b = some o → s2.heap.get? b = some o) → (∃ c, s2.heap.get? S = some (lstObj #[] c)) → s2.heap.get? C = some oC → (∀ v, oC.data ≠ .cell v) → s2.os = s.os → AllBare s2.gens →
      Seg (model P w) A (GenE P w outer H s S C Q) (GenY s S C a g) sizeLine s2 c ((model P w).den c) [] s2
theorem run_gen2 {P : Program} {w : World} {K : PySem.W.Frag} {mg : Str → Option Value} {base : Heap} {k : Nat} {f : Addr} {x qual : Str} {params : Arguments} {tg iter e : Expr} {yp ep pos : Pos} {scope : Scope} {kws : List (Str × V)} {fd : FuncData} {N ps : List Str}
    (F : FunD K x qual params [.For tg iter [.Expr (.Yield (some e) yp) ep] [] pos] scope [] kws f fd) (S0 : GScope N ps scope) (hs : ∀ env x, foldedSetIterable iter env x = pure x) (hin : ∀ L cd, interactive (envOfC qual scope L f cd) = false)
    {A : Around} {outer : List Env} {s : Shared} {H : Hp} {args : Args} {us : List Value} {vs : List V} {Q : List V → Hp → Prop} (hr : Room (k + 1) A) (e0 : Env0 P w K mg base A outer s H) (hb : BindsTo s fd args (ps.zip us)) (r : Vals vs us) (hl : vs.length = ps.length)
    (hbody : ∀ (cdv : Value) (A : Around) (pn : List (Addr × Obj)), Room k (A.deeper (envOfC qual scope s.heap.objs.size f cdv)) → ∃ wi g te, PI (gcx P w K mg base N qual scope f cdv A outer s H pn) tg iter wi ∧ PG (gcx P w K mg base N qual scope f cdv A outer s H pn) tg g ∧ PE (gcx P w K mg base N qual scope f cdv A outer s H pn) e te ∧
      tForY wi g te (fun ys _ H' => Q ys H') [] (L2.start N vs) H) :
    codeAny (model P w) A (.call (.ref f) args) (fun r s' => match r with | .ok (.ret u) => Made2 P w (k + 1) outer H s Q u s' | _ => False) s := by
  obtain ⟨oc, od, dV, kV, doc, pm, an, cdv, ct, osl, rfl, lk, hcd, hD, hK⟩ := F.ex
  have KX : K.In s.heap := e0.mod.kin.keeps fun b o q => (e0.bs b o q).1
  have lim : s.heap.NoLimit := e0.mod.nolimit.keeps fun b o q => (e0.bs b o q).1
  have hkind : ∀ y ∈ ps.zip us, scope.names.lookup y.1 = some .local ∨ (scope.names.lookup y.1 = some .cell ∧ ((cellsFrom (s.heap.objs.size + 1) scope.names []).lookup y.1).isSome = true) := fun ⟨m, c⟩ hy => by
    rcases S0.par m (List.of_mem_zip hy).1 with q | q
    · exact .inl q
    · exact .inr ⟨q, PySem.W.cellsFrom_some _ _ _ (.inl q)⟩
  refine codeAny_call_generator hr.depth (KX _ _ lk) rfl S0.co S0.gen rfl (PySem.W.codeRec_of KX hcd) (hb _ _ _ _ ?_)
  refine wpAny_newFunctionEnv_cells S0.kind hkind fun env hen s1 xc => ?_
  subst hen
  have lim1 : s1.heap.NoLimit := lim.keeps xc.toInCall.keep
  refine ⟨lim1, ?_⟩
  obtain ⟨h1, tk, es1, hk1⟩ := xc.done
  have os1 : s1.os = s.os := by rw [es1]
  have gen1 : s1.gens = s.gens := by rw [es1]
  have lt1 : s.heap.objs.size < s1.heap.objs.size := xc.toInCall.ns.lt
  have kp1 : ∀ b o, s.heap.get? b = some o → s1.heap.get? b = some o := xc.toInCall.keep
  show Made2 P w (k + 1) outer H s Q _ _
  generalize hgo : ({ cls := .type "generator", data := .fields #[.int s1.gens.size 0, .str _ s1.toks, .str _ (s1.toks + 1)] } : Obj) = go
  have hgc : go.cls = .type "generator" := by rw [← hgo]
  have hgd : ∃ nm qn, go.data = .fields #[.int s1.gens.size 0, nm, qn] := by rw [← hgo]; exact ⟨_, _, rfl⟩
  have hgs : go.slots = #[] := by rw [← hgo]
  have hgp : ∀ h : Heap, (h.push go).get? h.objs.size = some go := fun h => by rw [← hgo]; exact Heap.get?_push_size _ rfl
  clear hgo
  obtain ⟨nm, qn, hgd⟩ := hgd
  have hgen : ∀ h : Heap, h.get? s1.heap.objs.size = some go → h.IsGen s1.heap.objs.size s1.gens.size := fun h q => ⟨go, nm, qn, q, hgc, hgd, hgs⟩
  refine ⟨s1.heap.objs.size, s1.gens.size, _, rfl, Nat.le_of_lt lt1, ?_, hgen _ (hgp _), Array.getElem?_push_size .., os1, AllBare.push (by rw [gen1]; exact e0.bare) rfl, lim1.keeps fun b o q => Heap.get?_push_of_some _ q, fun b o q => Heap.get?_push_of_some _ (kp1 b o q), ?_⟩
  · show _ < (s1.heap.push _).objs.size
    rw [Heap.size_push]
    exact Nat.lt_succ_self _
  intro Ar Sx Cc s2 oC hrw hfr hSx hCc0 hSC hk2 hSo hC hCc hos hba
  have e0w : Env0 P w K mg base Ar outer s H := ⟨hfr, e0.mod, e0.bs, e0.bsz, e0.funs, e0.frf, e0.hok, e0.bare⟩
  obtain ⟨wi, g, te, hpi, hpg, hpe, ht⟩ := hbody cdv Ar [(s1.heap.objs.size, go)] (hrw.deeper _)
  have I1 : Inv (gcxOf P w K mg base N qual scope f cdv Ar outer s H C8.E0 []) [] (L2.start N vs) H s1 := inv_startG S0 hrw.hd e0w hl r xc
  have kp2 : ∀ b o, s1.heap.get? b = some o → s2.heap.get? b = some o := fun b o q => hk2 b o (Heap.get?_push_of_some _ q)
  have I2 := I1.call' (ch := []) (hos.trans os1.symm) (Un.kept kp2) (I1.hok.kept kp2) hba fun b z => by simp at z
  have lt2 : ∀ b, (s1.heap.push go).objs.size ≤ b → s1.heap.objs.size < b := fun b hb => by
    rw [Heap.size_push] at hb
    exact hb
  have hS1 := lt2 Sx hSx
  have hC1 := lt2 Cc hCc0
  obtain ⟨cS, heS⟩ := hSo
  have hea : s2.heap.get? s1.heap.objs.size = some go := hk2 s1.heap.objs.size go (hgp _)
  have young : ∀ b, s1.heap.objs.size ≤ b → H b = none ∧ b ≠ s.heap.objs.size ∧ b ∉ frs outer ∧ s.heap.objs.size ≤ b ∧ ∀ y c, (cellsFrom (s.heap.objs.size + 1) scope.names []).lookup y = some c → c ≠ b := fun b hb => by
    refine ⟨I1.hok.fresh hb, Nat.ne_of_gt (Nat.lt_of_lt_of_le lt1 hb), I1.nofs hb, Nat.le_trans (Nat.le_of_lt lt1) hb, fun y c q z => ?_⟩
    obtain ⟨v, ob, ho, _⟩ := I1.cell y c q
    have hlt := Heap.lt_size ho
    rw [z] at hlt
    exact absurd (Nat.lt_of_lt_of_le hlt hb) (Nat.lt_irrefl _)
  have IG : Inv (gcx P w K mg base N qual scope f cdv Ar outer s H [(s1.heap.objs.size, go)]) [(Sx, lstObj #[] cS), (Cc, oC)] (L2.start N vs) H s2 := by
    refine ⟨⟨I2.ok.mod, I2.ok.kind, I2.ok.glob, I2.ok.blt, I2.ok.above, I2.ok.inj, I2.ok.has, I2.ok.cab, I2.ok.hd, I2.ok.frames, I2.ok.stk, I2.ok.exf, I2.ok.bs, I2.ok.bsz, I2.ok.noex, I2.ok.exfs, I2.ok.funs, I2.ok.frf⟩, I2.os, I2.bare, I2.base, I2.loc, I2.cell, I2.free, I2.freeC, fun q hq => ?_, I2.hok, I2.len⟩
    have hq : q ∈ [(s1.heap.objs.size, go), (Sx, lstObj #[] cS), (Cc, oC)] := hq
    simp only [List.mem_cons, List.not_mem_nil, or_false] at hq
    rcases hq with rfl | rfl | rfl
    · obtain ⟨y1, y2, y3, _⟩ := young s1.heap.objs.size (Nat.le_refl _)
      exact ⟨hea, y1, y2, y3, fun v z => by rw [hgd] at z; cases z⟩
    · obtain ⟨y1, y2, y3, _⟩ := young Sx (Nat.le_of_lt hS1)
      exact ⟨heS, y1, y2, y3, fun v z => by cases z⟩
    · obtain ⟨y1, y2, y3, _⟩ := young Cc (Nat.le_of_lt hC1)
      exact ⟨hC, y1, y2, y3, hCc⟩
  have apart : Ow.Aw (gcx P w K mg base N qual scope f cdv Ar outer s H [(s1.heap.objs.size, go)]) Sx Cc := by
    obtain ⟨_, y2, _, y4, y5⟩ := young Sx (Nat.le_of_lt hS1)
    obtain ⟨_, z2, _, z4, z5⟩ := young Cc (Nat.le_of_lt hC1)
    refine ⟨hSC, fun q hq => ?_, ⟨y4, y2, y5⟩, ⟨z4, z2, z5⟩⟩
    have hq : q ∈ [(s1.heap.objs.size, go)] := hq
    rw [List.mem_singleton.mp hq]
    exact ⟨Nat.ne_of_lt hS1, Nat.ne_of_lt hC1⟩
  have pinned : ∀ {oC : Obj} {ip : List (Addr × Obj)} {ys : List V} {s' : Shared} {σ' : L2.St} {H' : Hp}, GJ (gcx P w K mg base N qual scope f cdv Ar outer s H [(s1.heap.objs.size, go)]) Sx Cc oC ip ys σ' H' s' → s'.heap.IsGen s1.heap.objs.size s1.gens.size := fun hI => by
    obtain ⟨_, _, _, J⟩ := hI
    exact hgen _ (J.pin (s1.heap.objs.size, go) (List.mem_append_left _ (List.mem_singleton.mpr rfl))).1
  refine seg_func ?_
  refine seg_imp (R := fun n s₀ r s3 => ∃ ys σ' H' oC', r = .ok (.ret .none) ∧ n + ys.length = sizeLine ∧ s₀.heap.get? Cc = some oC' ∧ GJ (gcx P w K mg base N qual scope f cdv Ar outer s H [(s1.heap.objs.size, go)]) Sx Cc oC' [] ys σ' H' s3 ∧ Q ys H')
    (Y := GYp (gcx P w K mg base N qual scope f cdv Ar outer s H [(s1.heap.objs.size, go)]) Sx Cc) (fun n s₀ r s3 hR => ?_) (fun n s₀ v s3 kap kap' hkk hY => ?_) sizeLine ?_
  · obtain ⟨ys, σ', H', oC', rfl, a1, a2, a3, a4⟩ := hR
    obtain ⟨b1, acc, cc, b2, b3⟩ := a3.atS
    obtain ⟨c1, c2⟩ := a3.atC
    obtain ⟨_, _, _, J⟩ := a3
    exact .inl ⟨.inl rfl, H', ys, acc, cc, J.os, J.bare, J.base, J.hok, b1, c2, b3, c1.trans a2.symm, b2, by omega, a4⟩
  · obtain ⟨ys, y, ip, σ', H', oC', a1, a2, a3, a4, a5⟩ := hY
    obtain ⟨b1, acc, cc, b2, b3⟩ := a3.atS
    obtain ⟨c1, c2⟩ := a3.atC
    have hg := pinned a3
    obtain ⟨_, _, _, J⟩ := a3
    have hsz : acc.size = ys.length := by
      have e1 := b2.length
      have e2 : acc.toList.length = acc.size := by simp
      omega
    exact ⟨J.os, J.bare, J.nolimit, hg, ⟨acc, cc, b3, by rw [hsz]; exact a1⟩, c1.trans a4.symm, fun s' z => hkk _ _ (a5 s' z)⟩
  · refine seg_execs_cons ?_
    refine seg_forY (X := gcx P w K mg base N qual scope f cdv Ar outer s H [(s1.heap.objs.size, go)]) rfl rfl hpi hpg hpe S0.co (hin _ _) apart (hs _) ⟨over_func, rfl, rfl, rfl⟩ (fun n ys s₀ s3 σ' H' oC' a1 a2 a3 a4 => ?_) (Nat.add_zero _) hC ⟨#[], cS, .nil, IG⟩ ht
    exact seg_end (.ok (.ret .none)) ⟨ys, σ', H', oC', rfl, a1, a2, a3, a4⟩
/-! ### the comprehension -/
theorem goes_le {P : Program} {w : World} {outer : List Env} {H : Hp} {sc : Shared} {S C a : Addr} {g : Nat} {Q : List V → Hp → Prop} {gs : GenState} {B : Around} {n : Nat} {r : Resume} {s : Shared} (h : gs.Goes (model P w) B (GenE P w outer H sc S C Q) (GenY sc S C a g) n r s) :
    gs.Goes (model P w) B (fun n s₀ r s1 => ((r = .ok (.ret .none) ∨ r = .ok .next) ∧ GenF P w outer H sc S C Q n s₀ s1) ∨ ∃ e, r = .error e ∧ (fun _ _ => False : Value → Shared → Prop) e s1) (GenY sc S C a g) n r s := h
/-- [x for x in g], the turns -/
theorem comp_drain {P : Program} {w : World} {outer : List Env} {H : Hp} {sc : Shared} {Q : List V → Hp → Prop} {A : Around} {R : Result → Shared → Prop} {D C a : Addr} {g : Nat} {xn : Str} {px pe pos : Pos} {iter : Expr} {scope : Scope} {ce : Env} (hh : A.handled = none) (hd : A.depth < recursionLimit) (hDa : D ≠ a) (hCa : C ≠ a) (hDs : D ≠ cStatics) (hCs : C ≠ cStatics) (hDC : D ≠ C)
    (hL : ce.locals = C) (hk : ce.scope.kind = .function) (hx : ce.kindOf xn = some .local) (hdb : (xn == ("__debug__" : Str)) = false)
    (hend : ∀ s' acc c H' ys mm, s'.heap.get? D = some (lstObj acc c) → Vals ys acc.toList → ys.length ≤ sizeLine → s'.os = sc.os → AllBare s'.gens → Un (frs outer) [] H H' sc.heap s'.heap → HOk P w H' s'.heap → H' D = none → H' C = none → s'.heap.Ns C mm → Q ys H' → R (.ok .next) s')
    (n : Nat) (s : Shared) (mm : Str → Option Value) (hg : s.heap.IsGen a g) (hl : s.heap.NoLimit) (hns : s.heap.Ns C mm) (hgo : ∃ gs, s.gens[g]? = some gs ∧ gs.Goes (model P w) A.in1 (GenE P w outer H sc D C Q) (GenY sc D C a g) n (.send .none) (s.setGen g .running)) :
    codeAny (model P w) A (.compLoop (.ListComp (.Name xn pe) [⟨.Name xn px, iter, [], 0⟩] scope pos) 0 (.ref a) (.ref D) ce) R s := by
  refine compLoop_any (fun n s => ∃ mm, s.heap.IsGen a g ∧ s.heap.NoLimit ∧ s.heap.Ns C mm ∧ ∃ gs, s.gens[g]? = some gs ∧ gs.Goes (model P w) A.in1 (GenE P w outer H sc D C Q) (GenY sc D C a g) n (.send .none) (s.setGen g .running)) ?_ n ⟨mm, hg, hl, hns, hgo⟩
  rintro n s ⟨mm, hg, hl, hns, gs, hgs, hgo⟩
  have hgl : g < s.gens.size := (Array.getElem?_eq_some_iff.mp hgs).1
  refine wpAny_gsz (n := g + 1) hgl (next_genG (A := A) hh hl hd hg hgs (goes_le hgo) (fun v s₁ gs' hbare hv => ?_) (fun s₁ hp h' hk' => ?_) fun e s₁ he => he.elim)
  · intro hsz
    obtain ⟨os1, hb1, hl1, hg1, ⟨acc, cc, hD1, hasz⟩, hC1, hkap⟩ := hv
    refine wpAny_of_eq (rfl : letOwnedTupleGo (.Name xn px) (.ref a) v = pure ()) ?_
    have hns1 : s₁.heap.Ns C mm := hns.at' fun o e => hC1.trans e
    refine wpAny_assign_Name (wpAny_storeName_local hx (by rw [hL]; exact hns1) (fun h2 hn2 hs2 => ?_) (by rw [hk]; rfl))
    rw [hL] at hn2 hs2
    refine wpAny_tests_nil ?_
    rw [if_pos rfl]
    refine wpAny_Name (wpAny_loadName_local hk hx (by rw [hL]; exact hn2) (v := v) (if_pos rfl) ?_) hdb
    have hD2 : h2.get? D = some (lstObj acc cc) := (hs2.2 D hDC).trans hD1
    refine append_at (hsz := by omega) hD2 fun h3 sb3 hD3 => ?_
    have hn3 : h3.Ns C (fun x => if x = xn then some v else mm x) := hn2.sameBut sb3 (Ne.symm hDC)
    have keep3 : ∀ b o, b ≠ D → b ≠ C → s₁.heap.get? b = some o → h3.get? b = some o := fun b o b1 b2 e => (sb3.2 b b1).trans ((hs2.2 b b2).trans e)
    have hsz1 : g < s₁.gens.size := by
      have q : (s₁.setGen g gs').gens.size = s₁.gens.size := setGen_size _ _ _
      have hsz' : g + 1 ≤ (s₁.setGen g gs').gens.size := hsz
      omega
    have nap : Nap D C v s₁ (({ s₁.setGen g gs' with heap := h3, toks := s₁.toks + 1 } : Shared).setGen g .running) := by
      refine ⟨rfl, allBare_setGen (s := { s₁.setGen g gs' with heap := h3, toks := s₁.toks + 1 }) (allBare_setGen hb1 hbare) rfl, keep3, fun acc' c' e => ?_, ?_⟩
      · rw [hD1] at e
        cases e
        exact ⟨_, hD3⟩
      · obtain ⟨o, es, ep, ho, hdt, _⟩ := hn3
        exact ⟨o, ho, fun v z => by rw [hdt] at z; cases z⟩
    have hk3 := hkap _ nap
    cases n with
    | zero => exact False.elim hk3
    | succ m =>
      refine ⟨m, Nat.lt_succ_self m, _, ?_, ?_, hn3, gs', setGen_at hsz1, hk3⟩
      · obtain ⟨o, nm, qn, ho, rr⟩ := hg1
        exact ⟨o, nm, qn, keep3 a o (Ne.symm hDa) (Ne.symm hCa) ho, rr⟩
      · obtain ⟨mc, hnc, hnn⟩ := hl1
        exact ⟨mc, hnc.at' fun o e => keep3 _ o (Ne.symm hDs) (Ne.symm hCs) e, hnn⟩
  · intro hsz
    obtain ⟨H', ys, acc, cc, os1, hb1, un, hok, hDn, hCn, hD1, hC1, hv, hle, hQ⟩ := hp
    exact hend _ acc cc H' ys mm (hk' _ _ hD1) hv hle os1 (allBare_setGen hb1 rfl) (un.trans (Un.kept hk')) (hok.kept hk') hDn hCn (hns.at' fun o e => hk' _ _ (hC1.trans e)) hQ
/-- an expression whose value is a generator that has not begun -/
structure PGen2 (X : Cx) (k : Nat) (e : Expr) (tg : TGen) : Prop where
  run : ∀ (pins : List (Addr × Obj)) (s : Shared) (σ : L2.St) (H : Hp) (cont : List V → Hp → Prop), Inv X pins σ H s → tg σ H cont → wpAny (model X.prog X.w) X.A (eval e X.env) (fun u s' => ∃ H1 sc, Inv X pins σ H1 sc ∧ Made2 X.prog X.w k X.stack H1 sc cont u s') X.xe s
theorem pe_lcG {X : Cx} {k : Nat} {xn : Str} {px pe pos : Pos} {iter : Expr} {scope : Scope} {own : List (Str × Nat)} {tg : TGen} (hc : X.calm = true) (hi : PGen2 X k iter tg) (ok : BlkOk X.N X.env.scope scope own) (hxn : scope.names.lookup xn = some .local) (hr : Room (k + 1) X.A) (hdb : (xn == ("__debug__" : Str)) = false)
    (hs : ∀ x, foldedSetIterable iter X.env x = pure x := by intro _; rfl) : PE X (.ListComp (.Name xn pe) [⟨.Name xn px, iter, [], 0⟩] scope pos) (tListG tg) := by
  refine ⟨fun pins s σ H Q I h => ?_⟩
  rw [eval_ListComp]
  have hfree : ∀ y ∈ scope.names, y.2 = .free → ∃ c, X.env.cells.lookup y.1 = some c := fun y hy e => by
    rcases ok.free y hy e with q | q
    · exact I.ok.has _ (.inl q)
    · exact I.ok.has _ (.inr q)
  refine wpAny_comprehension_free (use := none) rfl hs (closure_ok hfree) ok.kind (fun y hy e => by rw [ok.uniq y hy, e]) (thn (hi.run pins s σ H _ I h) fun u s1 ⟨H1, sc, I1, hG⟩ => ?_)
  obtain ⟨a, g, c, rfl, ha1, ha2, hg, hgs, hos, hb, hl, hkp, wake⟩ := hG
  refine wpAny_pyIter_gen hg ?_
  refine wpAny_newObj_type (newEnv_comp ?_) (by show 0 ≤ sizeLine; decide)
  generalize hs3 : ({ s1 with heap := s1.heap.push { cls := .type "list", data := .seq ([] : List Value).toArray } } : Shared) = s3
  have h3 : s3.heap = s1.heap.push { cls := .type "list", data := .seq ([] : List Value).toArray } := by rw [← hs3]
  have hD3 : s3.heap.get? s1.heap.objs.size = some (lstObj #[] 0) := by
    rw [h3]
    exact Heap.get?_push_size _ rfl
  have kp3 : ∀ b o, s1.heap.get? b = some o → s3.heap.get? b = some o := fun b o e => by
    rw [h3]
    exact Heap.get?_push_of_some _ e
  have sz3 : s3.heap.objs.size = s1.heap.objs.size + 1 := by rw [h3, Heap.size_push]
  show codeAny _ _ (.compStart (.ListComp (.Name xn pe) [⟨.Name xn px, iter, [], 0⟩] scope pos) 0 (.ref a) (.ref s1.heap.objs.size) (compEnvC scope (cellsFrom (s3.heap.objs.size + 1) scope.names (cloFrom X.env.cells scope.names [])) s3.heap.objs.size X.env)) (compPost (model X.prog X.w) X.A X.xe none _ (.ref s1.heap.objs.size) s3.heap.objs.size) { s3 with heap := pushCells (s3.heap.push { cls := .type "dict", data := .dict #[] }) scope.names }
  generalize hce : compEnvC scope (cellsFrom (s3.heap.objs.size + 1) scope.names (cloFrom X.env.cells scope.names [])) s3.heap.objs.size X.env = ce
  have cL : ce.locals = s3.heap.objs.size := by subst hce; rfl
  have cS : ce.scope = relS scope X.env.scope := by subst hce; rfl
  generalize hs4 : ({ s3 with heap := pushCells (s3.heap.push { cls := .type "dict", data := .dict #[] }) scope.names } : Shared) = s4
  have h4 : s4.heap = pushCells (s3.heap.push { cls := .type "dict", data := .dict #[] }) scope.names := by rw [← hs4]
  have kp34 : ∀ b o, s3.heap.get? b = some o → s4.heap.get? b = some o := fun b o e => by
    rw [h4]
    exact pushCells_keeps _ _ _ _ (Heap.get?_push_of_some _ e)
  have kp14 : ∀ b o, s1.heap.get? b = some o → s4.heap.get? b = some o := fun b o e => kp34 b o (kp3 b o e)
  have hns4 : s4.heap.Ns s3.heap.objs.size (fun _ => none) := by
    rw [h4]
    exact Heap.Ns.keeps (Heap.Ns.new ..) fun b o e => pushCells_keeps _ _ _ _ e
  have os4 : s4.os = s1.os := by rw [← hs4, ← hs3]
  have gens4 : s4.gens = s1.gens := by rw [← hs4, ← hs3]
  have kx : ce.kindOf xn = some .local := by
    show ce.scope.names.lookup xn = some .local
    rw [cS]
    exact lookup_relS_keep (by decide) hxn
  have kk : ce.scope.kind = .function := by
    rw [cS]
    exact ok.kind
  have hcl : cStatics < s1.heap.objs.size := let ⟨_, hn, _⟩ := hl; hn.lt
  obtain ⟨oC, es, ep, hoC, hdC, _⟩ := id hns4
  have hDC : s1.heap.objs.size ≠ s3.heap.objs.size := by rw [sz3]; exact Nat.ne_of_lt (Nat.lt_succ_self _)
  have sc1 : sc.heap.objs.size ≤ s1.heap.objs.size := Nat.le_trans ha1 (Nat.le_of_lt ha2)
  have loop : codeAny (model X.prog X.w) X.A (.compLoop (.ListComp (.Name xn pe) [⟨.Name xn px, iter, [], 0⟩] scope pos) 0 (.ref a) (.ref s1.heap.objs.size) ce) (compPost (model X.prog X.w) X.A X.xe none (EP X pins σ Q) (.ref s1.heap.objs.size) s3.heap.objs.size) s4 := by
    refine comp_drain (C := s3.heap.objs.size) (outer := X.stack) (H := H1) (sc := sc) (g := g) (Q := fun out H2 => ∀ p, H2 p = none → Q (.ref p) (upd H2 p (.lst out))) hr.hd (by have := hr.dp; omega) (Nat.ne_of_gt ha2) (by rw [sz3]; exact Nat.ne_of_gt (Nat.lt_succ_of_lt ha2)) (Nat.ne_of_gt hcl) (by rw [sz3]; exact Nat.ne_of_gt (Nat.lt_succ_of_lt hcl)) hDC cL kk kx hdb (fun s' acc cc H' ys mm q1 q2 q3 q4 q5 q6 q7 q8 q9 q10 q11 => ?_)
      sizeLine s4 _ ?_ (hl.keeps kp14) hns4 ⟨.fresh c, by rw [gens4]; exact hgs, rfl, ?_⟩
    · have J := I1.drained sc1 q3 q1 q2 ExOk.nil q4 q5 q6 q7 q8
      have nC : upd H' s1.heap.objs.size (.lst ys) s3.heap.objs.size = none := by rw [upd_ne (Ne.symm hDC)]; exact q9
      obtain ⟨f0, f1, f2, f3, f4, f5⟩ := I1.fpOk (by rw [sz3]; exact Nat.le_succ_of_le sc1) nC
      exact ⟨mm, q10, fun h'' sb => ⟨.ref s1.heap.objs.size, _, J.turned (t' := s'.toks) (fun b o hb e => (sb.2 b hb).trans e) f0 f1 f3 f4 f5, rfl, q11 _ q8⟩⟩
    · obtain ⟨o, nm, qn, ho, rr⟩ := hg
      exact ⟨o, nm, qn, kp14 a o ho, rr⟩
    · refine wake X.A.in1 s1.heap.objs.size s3.heap.objs.size (s4.setGen g .running) oC hr.in1 I1.ok.frames (Nat.le_refl _) (by rw [sz3]; exact Nat.le_succ _) hDC kp14 ⟨0, kp34 _ _ hD3⟩ hoC (fun v z => by rw [hdC] at z; cases z) (os4.trans hos) (allBare_setGen (by rw [gens4]; exact hb) rfl)
  exact codeAny_compStart_list loop (wpAny_pyIter_gen (by
    obtain ⟨o, nm, qn, ho, rr⟩ := hg
    exact ⟨o, nm, qn, kp14 a o ho, rr⟩) loop)
/-- o.m() of a generator method -/
def tMethG2 (C : Addr) (m : Str) (sp : Addr → Hp → (List V → Hp → Prop) → Prop) (ta : TE) : TGen := fun σ H cont => ta σ H fun x H1 => ∃ a dx fs, x = .ref a ∧ H1 a = some (.ins C dx fs) ∧ fs.lookup m = none ∧ sp a H1 cont
theorem pgen2_meth0 {X : Cx} {k : Nat} {C f : Addr} {m : Str} {o : Expr} {apos pos : Pos} {ta : TE} {sp : Addr → Hp → (List V → Hp → Prop) → Prop} {pl : Sem Bool} (he : PE X o ta) (c : Cls X.K C) (hm : Meth X.K C m f) (hr : Room k X.A)
    (hF : ∀ (A : Around) (outer : List Env) (s : Shared) (H : Hp) (a : Addr) (Q : List V → Hp → Prop), Room k A → Env0 X.prog X.w X.K X.mg X.base A outer s H → sp a H Q → codeAny (model X.prog X.w) A (.call (.ref f) ⟨[.ref a], []⟩) (fun r s' => match r with | .ok (.ret u) => Made2 X.prog X.w k outer H s Q u s' | _ => False) s)
    (ht : eval (.Call (.Attribute o m apos) [] [] pos) X.env = (do
      let ov ← eval o X.env
      standAt apos.atName
      let (f, first) ← holding [ov] (getMethod ov m pl)
      callWith pos f first (backTo pos (starEach [] X.env)) (backToKw pos (keywordEach [] X.env))) := by rfl) :
    PGen2 X k (.Call (.Attribute o m apos) [] [] pos) (tMethG2 C m sp ta) := by
  refine ⟨fun pins s σ H cont I h => ?_⟩
  refine PySem.W.methodCall_KW (pl := pl) (thn (he.run pins s σ H _ I h) fun u s1 ⟨x, H1, I1, rx, a, dx, fs, ex, ea, l, q⟩ => ?_) ht
  subst ex
  obtain rfl : u = Value.ref a := rx
  refine getmeth_ok I1 ea c hm l ?_
  refine PySem.W.callWith_K0 (first := [.ref a]) I1.kIn hm.kp (wpAny_call (codeAny_mono (hF X.A X.stack s1 H1 a cont hr I1.env0 q) fun r s2 hq => ?_))
  cases r with
  | error e => exact False.elim hq
  | ok fl =>
    cases fl with
    | ret u => exact ⟨H1, s1, I1, hq⟩
    | next => exact False.elim hq
    | brk => exact False.elim hq
    | cont => exact False.elim hq
end Ow
set_option Elab.async false
set_option linter.all false
set_option maxRecDepth 100000
set_option maxHeartbeats 4000000
namespace Ow
open PySem PySem.Spec PyProof.Rows L2
section
variable {P : Program} {w : World} {K : PySem.W.Frag} {mg : Str → Option Value} {base : Heap}
/-! ### the law's own try -/
theorem sc__law_field : FnScope ["_law_e"] ["_law_e"] (defScope s__law_field) := ⟨rfl, rfl, rfl, by decide +kernel, rfl, by decide +kernel, by decide +kernel⟩
theorem Txt.b__law_field (T : Txt w K mg) : Binds K (fdA K (He.ga K "_law_field")) ["_law_e"] [] := T.F__law_field.binds fun _ _ _ _ _ _ us hl => match us, hl with | [_], _ => rfl
abbrev cxFd (P : Program) (w : World) (K : PySem.W.Frag) (mg : Str → Option Value) (base : Heap) (cdv : Value) (A : Around) (outer : List Env) (s : Shared) (H : Hp) : Cx := cxOf C8.CX0 P w K mg base ["_law_e"] "_law_field" (defScope s__law_field) (He.ga K "_law_field") cdv A outer s H C8.E0
def strT (te : TE) (K : PySem.W.Frag) (ta : TA) : TT := tTest (tOp (rIn K false) te (tTup ta))
def fieldT (K : PySem.W.Frag) (a : Addr) (cls : Value) (d : Option Addr) : TS :=
  tSeq (tIfS (strT (tXf a cls d (He.ga K "TooMany") "code" (tVar 0)) K (tCons (tC (V.str "WrongCount")) (tCons (tC (V.str "InvalidNumber")) (tCons (tC (V.str "InvalidWord")) (tCons (tC (V.str "InvalidPoint")) (tCons (tC (V.str "InvalidChute")) (tCons (tC (V.str "InvalidName")) (tCons (tC (V.str "InvalidLimit")) tNil)))))))) tNever tNext)
  (tSeq (tIfS (strT (tXf a cls d (He.ga K "TooMany") "code" (tVar 0)) K (tCons (tC (V.str "InvalidText")) (tCons (tC (V.str "InvalidDeed")) (tCons (tC (V.str "NotNow")) (tCons (tC (V.str "InvalidOffer")) (tCons (tC (V.str "InvalidCommand")) (tCons (tC (V.str "InvalidPage")) tNil))))))) tNever tNext)
  (tSeq (tIfS (strT (tXf a cls d (He.ga K "TooMany") "code" (tVar 0)) K (tCons (tC (V.str "InvalidField")) (tCons (tC (V.str "DuplicateName")) (tCons (tC (V.str "UnknownName")) tNil)))) tNever tNext)
  (tRet (tIf (strT (tXf a cls d (He.ga K "TooMany") "code" (tVar 0)) K (tCons (tC (V.str "TooMany")) (tCons (tC (V.str "Full")) tNil))) (tTup (tCons (tXf a cls d (He.ga K "TooMany") "most" (tVar 0)) tNil)) (tTup tNil)))))
theorem field_pss (T : Txt w K mg) {cdv : Value} {A : Around} {outer : List Env} {s : Shared} {H : Hp} {a : Addr} {oe : Obj} {cls : Value} {d : Option Addr} (hz : Zc cls d oe) (hf : ∃ vs, oe.data = .fields vs) :
    PSs ((cxFd P w K mg base cdv A outer s H).suite a [(a, oe)]) (defBody s__law_field) (fieldT K a cls d) :=
  (pss_cons (ps_if (pt_cmpR op_in_seq (pe_xf (a := a) (C := He.ga K "TooMany") (oe := oe) (pn := []) T.xf_TooMany T.na_TooMany_code hz hf (pv 0)) (pe_tup (pa_cons pe_str (pa_cons pe_str (pa_cons pe_str (pa_cons pe_str (pa_cons pe_str (pa_cons pe_str (pa_cons pe_str pa_nil)))))))) (by rfl)) (pss_one ps_never) pss_nil)
      (pss_cons (ps_if (pt_cmpR op_in_seq (pe_xf (a := a) (C := He.ga K "TooMany") (oe := oe) (pn := []) T.xf_TooMany T.na_TooMany_code hz hf (pv 0)) (pe_tup (pa_cons pe_str (pa_cons pe_str (pa_cons pe_str (pa_cons pe_str (pa_cons pe_str (pa_cons pe_str pa_nil))))))) (by rfl)) (pss_one ps_never) pss_nil)
      (pss_cons (ps_if (pt_cmpR op_in_seq (pe_xf (a := a) (C := He.ga K "TooMany") (oe := oe) (pn := []) T.xf_TooMany T.na_TooMany_code hz hf (pv 0)) (pe_tup (pa_cons pe_str (pa_cons pe_str (pa_cons pe_str pa_nil)))) (by rfl)) (pss_one ps_never) pss_nil)
      (pss_one (ps_ret (pe_ifExp (pt_cmpR op_in_seq (pe_xf (a := a) (C := He.ga K "TooMany") (oe := oe) (pn := []) T.xf_TooMany T.na_TooMany_code hz hf (pv 0)) (pe_tup (pa_cons pe_str (pa_cons pe_str pa_nil))) (by rfl)) (pe_tup (pa_cons (pe_xf (a := a) (C := He.ga K "TooMany") (oe := oe) (pn := []) T.xf_TooMany T.na_TooMany_most hz hf (pv 0)) pa_nil)) (pe_tup pa_nil)))))))
theorem fieldT_ok {a dd : Addr} {H : Hp} {Q : VK} (h : H dd = some (.xd tmF)) (k : ∀ v H', Same H H' → Q v H') : fieldT K a (.ref (He.ga K "TooMany")) (some dd) { nx := fun _ H' => Q .non H', rt := Q } (L2.start ["_law_e"] [.ref a]) H := by
  refine ⟨_, rfl, rfl, rfl, dd, tmF, .str "TooMany", rfl, h, rfl, ok_le (by simp), fun t1 m1 => ?_⟩
  have z1 := Same.up (o := .tup [V.str "WrongCount", V.str "InvalidNumber", V.str "InvalidWord", V.str "InvalidPoint", V.str "InvalidChute", V.str "InvalidName", V.str "InvalidLimit"]) m1
  have h1 := z1 _ _ h
  refine ⟨t1, _, rfl, .inr newT, rfl, rfl, _, rfl, noo (by decide +kernel) ?_⟩
  dsimp only [tNext]
  refine ⟨_, rfl, rfl, rfl, dd, tmF, .str "TooMany", rfl, h1, rfl, ok_le (by simp), fun t2 m2 => ?_⟩
  have z2 := Same.up (o := .tup [V.str "InvalidText", V.str "InvalidDeed", V.str "NotNow", V.str "InvalidOffer", V.str "InvalidCommand", V.str "InvalidPage"]) m2
  have h2 := z2 _ _ h1
  refine ⟨t2, _, rfl, .inr newT, rfl, rfl, _, rfl, noo (by decide +kernel) ?_⟩
  dsimp only [tNext]
  refine ⟨_, rfl, rfl, rfl, dd, tmF, .str "TooMany", rfl, h2, rfl, ok_le (by simp), fun t3 m3 => ?_⟩
  have z3 := Same.up (o := .tup [V.str "InvalidField", V.str "DuplicateName", V.str "UnknownName"]) m3
  have h3 := z3 _ _ h2
  refine ⟨t3, _, rfl, .inr newT, rfl, rfl, _, rfl, noo (by decide +kernel) ?_⟩
  dsimp only [tNext]
  refine ⟨_, rfl, rfl, rfl, dd, tmF, .str "TooMany", rfl, h3, rfl, ok_le (by simp), fun t4 m4 => ?_⟩
  have z4 := Same.up (o := .tup [V.str "TooMany", V.str "Full"]) m4
  have h4 := z4 _ _ h3
  refine ⟨t4, _, rfl, .inr newT, rfl, rfl, _, rfl, yes (by decide +kernel) ?_⟩
  refine ⟨_, rfl, rfl, rfl, dd, tmF, .int 600, rfl, h4, rfl, ok_le (by simp), fun t5 m5 => ?_⟩
  exact k _ _ (z1.trans (z2.trans (z3.trans (z4.trans (Same.up m5)))))
/-- what the law's try makes of a lambda's reading -/
def TTgot (K : PySem.W.Frag) : (XK → Hp → VK → Prop) → Hp → VK → Prop := fun tl H Q =>
  tl (fun cls d H' => cls = .ref (He.ga K "TooMany") ∧ ∃ dd, d = some dd ∧ H' dd = some (.xd tmF) ∧ ∀ t rest H'', Same H' H'' → H'' t = some (.tup [.str "TooMany", rest]) → Q (.ref t) H'') H
    (fun v H' => [V.str "told", v].length ≤ sizeLine ∧ ∀ t, H' t = none → Q (.ref t) (upd H' t (.tup [V.str "told", v])))
theorem got_gives {X : Cx} {cdg : Value} {q : Str} (T : Txt X.w X.K X.mg) (hr : Room 3 X.A) : LamX.GivesTo X ["_law_ask", "_law_e"] "_law_got" (defScope s__law_got) (He.ga X.K "_law_got") cdg (defBody s__law_got) "_law_ask" q (TTgot X.K) := by
  intro f c' s H Q tl act hc h
  have hr2 : Room 2 ((cxOf C8.CX0 X.prog X.w X.K X.mg X.base ["_law_ask", "_law_e"] "_law_got" (defScope s__law_got) (He.ga X.K "_law_got") cdg X.A X.stack s H C8.E0).nox).A := hr.deeper _
  refine ⟨_, pss_one (ps_try3 (X := (cxOf C8.CX0 X.prog X.w X.K X.mg X.base ["_law_ask", "_law_e"] "_law_got" (defScope s__law_got) (He.ga X.K "_law_got") cdg X.A X.stack s H C8.E0).nox) (i := 1)
      (c1 := .ref (He.ga X.K "BeltError")) (c2 := .ref (He.ga X.K "Missing")) (c3 := .ref (He.ga X.K "NothingLeft"))
      (tb := fun W D σ H => ∃ Ech : XK, (∀ cls d σ' H', Ech cls d H' → W cls d σ' H') ∧ σ[0]? = some (some (.ref f)) ∧ H c' = some (LamX.CodeO c' q) ∧ tl Ech H (fun v H' => [V.str "told", v].length ≤ sizeLine ∧ ∀ t, H' t = none → D.rt (.ref t) (upd H' t (.tup [V.str "told", v]))))
      (ts := fun a cls d => tRet (tTup (tCons (tXf a cls d (He.ga X.K "TooMany") "code" (tVar 1)) (tCons (fun σ H Q => tVar 1 σ H fun v H1 => fieldT X.K a cls d { nx := fun _ H' => Q .non H', rt := Q } (L2.start ["_law_e"] [v]) H1) tNil))))
      rfl rfl (show (["_law_ask", "_law_e"] : List Str).Nodup by decide +kernel) rfl rfl ⟨rfl, by decide, .inl T.g_BeltError⟩ ⟨rfl, by decide, .inl T.g_Missing⟩ ⟨rfl, by decide, .inl T.g_NothingLeft⟩ (fun W pn xe tk _ => ?_) (fun a oe cls d pn hz hf => ?_)), ?_⟩
  · refine ⟨fun pins s' σ H' D I h' => ?_⟩
    obtain ⟨Ech, hW, h1, h2, h3⟩ := h'
    exact (pss_one (ps_ret (pe_tup (pa_cons pe_str (pa_cons (act W pn xe Ech _ _ tk hW) pa_nil))))).run pins s' σ H' D I ⟨h1, h2, h3⟩
  · exact pss_one (ps_ret (pe_tup (pa_cons (pe_xf (C := He.ga X.K "TooMany") T.xf_TooMany T.na_TooMany_code hz hf (pv 1)) (pa_cons (pe_callX (k := 0) T.D__law_field sc__law_field T.b__law_field hf (hr2.mono (by decide)) (by rfl) T.g__law_field T.D__law_field.kp (pv 1) (fun cdv outer s H => field_pss T hz hf)) pa_nil))))
  · refine ⟨fun cls d H' => cls = .ref (He.ga X.K "TooMany") ∧ ∃ dd, d = some dd ∧ H' dd = some (.xd tmF) ∧ ∀ t rest H'', Same H' H'' → H'' t = some (.tup [.str "TooMany", rest]) → Q (.ref t) H'', ?_, rfl, hc, h⟩
    rintro cls d σ' H' ⟨rfl, dd, rfl, hdd, kk⟩
    refine ⟨?_, fun hlen a na => ?_⟩
    · show PySem.W.exmAny X.K _ _ = _
      simp only [PySem.W.exmAny, T.x_belt, T.x_miss, T.x_noth]
      rfl
    · refine ⟨_, List.getElem?_set_self hlen, rfl, rfl, dd, tmF, .str "TooMany", rfl, hdd, rfl, _, List.getElem?_set_self hlen, ?_⟩
      exact fieldT_ok hdd fun v H'' z => ⟨ok_le (by simp), fun t mt => kk t v _ (z.trans (Same.up mt)) upd_same⟩
end
end Ow
set_option Elab.async false
set_option linter.all false
set_option maxRecDepth 100000
set_option maxHeartbeats 4000000
namespace Ow
open PySem PySem.Spec PyProof.Rows L2
section
variable {P : Program} {w : World} {K : PySem.W.Frag} {mg : Str → Option Value} {base : Heap}
/-! ### Run.sendings -/
theorem sc_Run_sendings : GScope ["self", "label", "record"] ["self"] (defScope s_Run_sendings) := ⟨rfl, rfl, rfl, by decide +kernel, rfl, by decide +kernel, by decide +kernel⟩
theorem Txt.b_Run_sendings (T : Txt w K mg) : Binds K (fdA K (He.ma K (He.ga K "Run") "sendings")) ["self"] [] := T.F_Run_sendings.binds fun _ _ _ _ _ _ us hl => match us, hl with | [_], _ => rfl
/-- what is handed out of a sending -/
def rowV (cs : List Int) (q : Int × Int) : List V := [.int q.1, if q.2 = -2 then .non else .int q.2, if q.2 = -2 then .non else .int (cs.getD q.2.toNat 0)]
def RowAt (K : PySem.W.Frag) (H : Hp) (cs : List Int) (v : V) (q : Int × Int) : Prop := ∃ t, v = .ref t ∧ SqT K H t (rowV cs q)
def sp_sendings (K : PySem.W.Frag) : Addr → Hp → (List V → Hp → Prop) → Prop := fun x H Q => ∃ (cs : List Int) (ss : List (Int × Int)), RunX K H x cs ss ∧ InR cs ss ∧ ∀ out H', Same H H' → All2 (RowAt K H' cs) out ss → Q out H'
theorem gen_sendings (T : Txt w K mg) (A : Around) (outer : List Env) (s : Shared) (H : Hp) (x : Addr) (Q : List V → Hp → Prop) (hr : Room 3 A) (e0 : Env0 P w K mg base A outer s H) (h : sp_sendings K x H Q) :
    codeAny (model P w) A (.call (.ref (He.ma K (He.ga K "Run") "sendings")) ⟨[.ref x], []⟩) (fun r s' => match r with | .ok (.ret u) => Made2 P w 3 outer H s Q u s' | _ => False) s := by
  have KX : K.In s.heap := e0.mod.kin.keeps fun b o q => (e0.bs b o q).1
  refine run_gen2 (vs := [.ref x]) (us := [.ref x]) T.D_Run_sendings sc_Run_sendings (fun _ _ => rfl) (fun _ _ => rfl) hr e0 (T.b_Run_sendings s [.ref x] KX rfl) (.cons rfl .nil) rfl (fun cdv Ar pn hr => ?_)
  refine ⟨_, _, _, (pi_list (pe_fld (pv 0) rfl)), (pg_tup rfl (pgs_cons (pg_name (i := 1) sc_Run_sendings.nd rfl (by first | exact .inl rfl | exact .inr rfl)) (pgs_cons (pg_name (i := 2) sc_Run_sendings.nd rfl (by first | exact .inl rfl | exact .inr rfl)) pgs_nil))), (pe_tup (pa_cons (pv 1) (pa_cons (pe_ifExp (pt_cmpR op_eq (pv 2) (C8.pe_gc rfl T.c_BLANK) (nomark _)) pe_non (pv 2)) (pa_cons (pe_meth (pv 0) T.cl_Run T.m_Run_chute_of (ok_Run_chute_of T) (hr.mono (by decide)) T.b_Run_chute_of .nil pass0 (pa_cons (pv 2) pa_nil)) pa_nil)))), ?_⟩
  obtain ⟨cs, ss, hX, hin, k⟩ := h
  obtain ⟨dx, lc, le, fs, vs, h1, h2, h3, h4, h5, h6, h7, h8, h9⟩ := id hX
  have hl := h7.length
  refine ⟨_, rfl, _, _, _, _, _, rfl, h1, T.cl_Run, T.na_Run_sent, h3, _, rfl, ⟨_, .inl (.inl h6)⟩, ?_⟩
  refine ⟨fun i ys σ' H' => i ≤ vs.length ∧ Same H H' ∧ All2 (RowAt K H' cs) ys (ss.take i) ∧ ∃ u v, σ' = [some (.ref x), u, v], ⟨Nat.zero_le _, Same.refl _, .nil, _, _, rfl⟩, ?_⟩
  rintro i ys σ' H' ⟨hi, e, hrows, u, v, rfl⟩
  have hle := e _ _ h6
  have hyl := hrows.length
  by_cases hlt : i < vs.length
  · refine .inr ⟨⟨vs, vs[i], .inl (.inl hle), List.getElem?_eq_getElem hlt⟩, ?_, ?_⟩
    · rw [hyl, List.length_take]
      exact Nat.lt_of_le_of_lt (show _ ≤ 9000 by omega) (by decide)
    · rintro y H2 ⟨rfl, hy⟩
      have hy2 := hy vs (.inl (.inl hle))
      obtain ⟨q, hq, t, rfl, ht⟩ := h7.get' hy2
      have hsn : ss.take (i + 1) = ss.take i ++ [q] := by rw [List.take_succ, hq]; rfl
      have hin2 := hin q (List.mem_of_getElem? hq)
      refine ⟨_, _, rfl, Same.seqT e ht, rfl, _, _, rfl, _, _, rfl, rfl, ?_⟩
      refine ⟨_, rfl, ?_⟩
      show tIf _ _ _ _ _ _
      refine ⟨_, rfl, rfl, _, rfl, ?_⟩
      have fin : ∀ (a b : V), a = (if q.2 = -2 then .non else .int q.2) → b = (if q.2 = -2 then .non else .int (cs.getD q.2.toNat 0)) → ∀ t2, H2 t2 = none → All2 (RowAt K (upd H2 t2 (.tup [.int q.1, a, b])) cs) (ys ++ [.ref t2]) (ss.take (i + 1)) := fun a b ea eb t2 m2 => by
        rw [hsn, ea, eb]
        exact (hrows.imp fun _ _ ⟨t3, r3, q3⟩ => ⟨t3, r3, Same.seqT (Same.up m2) q3⟩).append (.cons ⟨t2, rfl, newT⟩ .nil)
      by_cases c : q.2 = -2
      · refine yes (decide_eq_true (by rw [c])) ?_
        refine ⟨_, rfl, x, dx, fs, rfl, e _ _ h1, h4, _, rfl, x, cs, ss, q.2, rfl, hX.mono e, hin2.2, ?_⟩
        rw [if_pos c]
        refine ⟨ok_le (by simp), fun t2 m2 => ⟨hlt, e.trans (Same.up m2), fin _ _ (by rw [if_pos c]) (by rw [if_pos c]) t2 m2, _, _, rfl⟩⟩
      · refine noo (decide_eq_false fun z => c (V.int.inj z)) ?_
        refine ⟨_, rfl, _, rfl, x, dx, fs, rfl, e _ _ h1, h4, _, rfl, x, cs, ss, q.2, rfl, hX.mono e, hin2.2, ?_⟩
        rw [if_neg c]
        refine ⟨ok_le (by simp), fun t2 m2 => ⟨hlt, e.trans (Same.up m2), fin _ _ (by rw [if_neg c]) (by rw [if_neg c]) t2 m2, _, _, rfl⟩⟩
  · obtain rfl : i = vs.length := by omega
    refine .inl ⟨⟨vs, .inl (.inl hle), Nat.le_refl _⟩, ?_⟩
    rw [hl, List.take_length] at hrows
    exact k ys H' e hrows
end
end Ow
set_option Elab.async false
set_option linter.all false
set_option maxRecDepth 100000
set_option maxHeartbeats 4000000
/-! list.count of a tuple; a value told in two ways; the law's own try called; judged called -/
namespace Ow
open PySem PySem.Spec PyProof.Rows L2
section
variable {X : Cx}
/-- l.count(x) over data -/
def rCntD (K : PySem.W.Frag) : V → List V → Hp → VK → Prop := fun x xs H Q => ∃ (p : Addr) (vs : List V) (ds : List PyData) (v : V) (d : PyData), x = .ref p ∧ xs = [v] ∧ SqL K H p vs ∧ DpAll K H vs ds ∧ Dp K H v d ∧ PyData.plainAll ds = true ∧ d.plain = true ∧ d.depth ≤ 50 ∧ Q (.int ((ds.countP fun y => PyData.eqv y d : Nat) : Int)) H
theorem mt_lcountD (hu : X.A.units + 64 < cLine) : MtR X "list.count" (rCntD X.K) := by
  intro pins s σ H x xs v us Q I rx rxs h
  obtain ⟨p, vs, ds, y, d, rfl, rfl, hs, hds, hd, h1, h2, h3, q⟩ := h
  cases rx
  obtain ⟨u, rfl, ru⟩ := rxs.one
  obtain ⟨its, rv, hl, hlen⟩ := I.list hs
  obtain ⟨as, r1⟩ := Dp.readsAll I ds vs its hds rv
  obtain ⟨bs, r2⟩ := Dp.reads I d y u hd ru
  refine SeqAt.count_list_data (vs := its.toArray) hl.isList (by simpa using r1) r2 h1 h2 ?_ ⟨.int ((ds.countP fun y => PyData.eqv y d : Nat) : Int), H, I.tok _, ⟨_, rfl⟩, q⟩
  have : min (PyData.depthAll ds) d.depth ≤ 50 := Nat.le_trans (Nat.min_le_right _ _) h3
  omega
theorem pe_alt {e : Expr} {t u : TE} (h1 : PE X e t) (h2 : PE X e u) : PE X e (fun σ H Q => t σ H Q ∨ u σ H Q) := ⟨fun pins s σ H Q I h => h.elim (h1.run pins s σ H Q I) (h2.run pins s σ H Q I)⟩
end
/-- judged(plant, most=..) -/
theorem kb_judged {w : World} {K : PySem.W.Frag} {mg : Str → Option Value} (T : Txt w K mg) : ∃ mv : List Value, KBn K (fdA K (He.ga K "judged")) ["plant", "strict", "most"] 1 ["most"] (fun us ws => us ++ mv ++ ws) (fun vs zs => vs ++ [V.bl false] ++ zs) := by
  refine T.D_judged.kbinds0 1 ["most"] [("strict", V.bl false)] (fun us mv ws => us ++ mv ++ ws) (by simp) (by simp) (fun a b c => (a.append b).append c) (fun D doc pm an cdv ct us mv ws l1 l2 l3 => ?_)
  match us, l1, mv, l2, ws, l3 with
  | [u], _, [m], _, [z], _ => exact ⟨_, _, _, _, _, _, rfl, rfl, rfl⟩
/-- _law_got(lambda: ..) -/
theorem pe_got {X : Cx} {fd : FuncData} {c P0 : Addr} {k : Nat} {Tb : List (Addr × Str)} {params : Arguments} {body : Expr} {scope : Scope} {t : XK → TE} {p lpos pos : Pos} (T : Txt X.w X.K X.mg) (F : FunD X.K "_law_got" "_law_got" (defArgs s__law_got) (defBody s__law_got) (defScope s__law_got) [] [] (He.ga X.K "_law_got") fd) (hb : Binds X.K fd ["_law_ask"] [])
    (TB : LamX.TabB X.base X.mg c P0) (hcode : X.env.code = .ref c) (hmT : (P0, X.env.qual ++ "<lambda>") ∈ Tb) (hu : ∀ q ∈ Tb, q.1 = P0 → q.2 = X.env.qual ++ "<lambda>") (hr : Room (k + 3) X.A) (L : LamX.LamS X.env.scope scope) (hdef : defaultsOf params X.env = ([], []))
    (hbind : ∀ (q : Str) (cl : List (Str × Addr)) (pm cv ctv : Value), bindArgs (PySem.W.kla_fn "<lambda>" q params body scope cl pm cv ctv) ⟨[], []⟩ = pure [])
    (hbody : ∀ (A : Around) (outer : List Env) (s : Shared) (H : Hp) (E : XK) (f c' : Addr), Room (k + 1) (A.deeper (LamX.lamEnv X scope s.heap.objs.size f c')) → PE (LamX.lamCx X A outer s H E scope f c') body (t E)) (hg : Gl X "_law_got" := by rfl) :
    PE X (.Call (.Name "_law_got" p) [.Lambda params body scope lpos] [] pos) (LamX.tLam Tb (TTgot X.K) t) := by
  have hkp := F.kp
  obtain ⟨oc, od, dV, kV, doc, pm, an, cdv, ct, osl, rfl, lk, hcd, hD, hK⟩ := F.ex
  exact LamX.pe_lamcall (k := k + 1) hg T.g__law_got hkp lk hcd hb (⟨rfl, rfl, rfl, by decide +kernel, rfl, by decide +kernel, by decide +kernel⟩ : FnScope ["_law_ask", "_law_e"] ["_law_ask"] (defScope s__law_got)) rfl (by first | exact Or.inl rfl | exact Or.inr (Or.inl rfl)) (got_gives T (hr.mono (by omega))) TB hcode hmT hu (by exact hr) L hdef hbind hbody
end Ow
set_option Elab.async false
set_option linter.all false
set_option maxRecDepth 100000
set_option maxHeartbeats 4000000
/-! what the verdicts say of flows -/
namespace Ow
open PySem PySem.Spec PyProof.Rows L2
theorem ssNext_eq (ss : List (Int × Int)) (o : Option (Int × Int)) : ssNext ss o = ssN ss o := by cases o <;> rfl
theorem csNext_eq (cs : List Int) (c : Int) (d : Deed) : csNext cs c d = csN cs c d := by cases d <;> rfl
theorem astrayOf_eq (cs : List Int) (ss : List (Int × Int)) : astrayOf cs ss = (ss.filter (isAst cs)).map Prod.fst := rfl
section
variable {p : Plan}
theorem ssN_ok {ss : List (Int × Int)} {o : Option (Int × Int)} (h : ∀ q ∈ ss, q.2 = -2 ∨ q.2 = q.1) (hw : wordOf o ≠ some .other) : ∀ q ∈ ssN ss o, q.2 = -2 ∨ q.2 = q.1 := by
  cases o with
  | none => exact h
  | some q0 =>
    intro q hq
    rcases List.mem_append.mp hq with z | z
    · exact h q z
    · rw [List.mem_singleton.mp z]
      exact word_ok hw
theorem JSafe.flow (ok : p.Ok) (hj : JSafe p) {ds : List Deed} (hf : FlowOk p ds) : ∀ q ∈ (T3.run p ds).ss, q.2 = -2 ∨ q.2 = q.1 := by
  obtain ⟨es, ⟨e0, m0, s0, n0⟩, hg, hc⟩ := hj
  have key : ∀ k, k ≤ ds.length → (∀ q ∈ (T3.run p (ds.take k)).ss, q.2 = -2 ∨ q.2 = q.1) ∧ ∃ e ∈ es, placeOf e.s = placeOf (T3.run p (ds.take k)).s := by
    intro k
    induction k with
    | zero =>
      intro _
      rw [List.take_zero]
      exact ⟨fun q h => (by cases h), e0, m0, by rw [s0]; rfl⟩
    | succ k ih =>
      intro hk
      obtain ⟨h1, e, he, hpl⟩ := ih (by omega)
      have ed : ds[k]? = some ds[k] := List.getElem?_eq_getElem (by omega)
      obtain ⟨hr, hp⟩ := hf k _ ed
      have I := (hf.take k).inv ok
      obtain ⟨a1, a2, a3⟩ := place_step ok I.g (hg e he) hpl hr hp
      have hm := mem_deedsAt (hg e he) hr a1
      obtain ⟨b1, e', he', b2⟩ := hc e he _ hm
      rw [takeD ed, T3.run_snoc]
      refine ⟨ssN_ok h1 (by rw [← a3]; exact b1), e', he', ?_⟩
      rw [b2]
      exact a2
  have := (key ds.length (Nat.le_refl _)).1
  rwa [List.take_length] at this
theorem Goes.flow {s : St} {n : Int} {ds : List Deed} (g : Goes p s n ds) : FlowOk p ds ∧ (T3.run p ds).s = s ∧ (T3.run p ds).n = n ∧ ∀ q ∈ (T3.run p ds).ss, q.2 = -2 ∨ q.2 = q.1 := by
  induction g with
  | nil => exact ⟨FlowOk.nil, rfl, rfl, fun q h => by cases h⟩
  | @snoc s n ds d g hr hp hw ih =>
    obtain ⟨h1, h2, h3, h4⟩ := ih
    refine ⟨h1.snoc hr (by rw [h2]; exact hp), ?_, ?_, ?_⟩
    · rw [T3.run_snoc]
      show (moved p (T3.run p ds).s d (T3.run p ds).n).1 = _
      rw [h2, h3]
    · rw [T3.run_snoc]
      show nextN (T3.run p ds).n d = _
      rw [h3]
    · rw [T3.run_snoc]
      show ∀ q ∈ ssN (T3.run p ds).ss (moved p (T3.run p ds).s d (T3.run p ds).n).2, _
      rw [h2, h3]
      exact ssN_ok h4 hw
theorem map_last {α β : Type} {f : α → β} {l : List α} {pre : List β} {y : β} (h : l.map f = pre ++ [y]) : ∃ l0 x, l = l0 ++ [x] ∧ f x = y := by
  have hne : l ≠ [] := by
    rintro rfl
    simp at h
  obtain ⟨l0, x, rfl⟩ : ∃ l0 x, l = l0 ++ [x] := ⟨l.dropLast, l.getLast hne, (List.dropLast_concat_getLast hne).symm⟩
  refine ⟨l0, x, rfl, ?_⟩
  rw [List.map_append] at h
  have := List.append_inj_right' h rfl
  simpa using this
structure AstW (p : Plan) (fl : List Deed) (pre : List (Int × Int)) (x R : Int) (lpre : List (Int × Option Int)) : Prop where
  f : FlowOk p fl
  ss : (T3.run p fl).ss = pre ++ [(x, R)]
  ok : ∀ q ∈ pre, q.2 = -2 ∨ q.2 = q.1
  ne : x ≠ R
  x0 : 0 ≤ x
  x1 : x < (T3.run p fl).n
  r0 : 0 ≤ R
  r1 : R < (T3.run p fl).n
  se : (T3.run p fl).lr.sent = lpre ++ [(x, some R)]
theorem JAstray.flow (ok : p.Ok) {fl : List Deed} (h : JAstray p fl) : ∃ pre x R lpre, AstW p fl pre x R lpre := by
  obtain ⟨s, n, ds, d, rfl, g, hr, hp, hw⟩ := h
  obtain ⟨h1, h2, h3, h4⟩ := g.flow
  have hf : FlowOk p (ds ++ [d]) := h1.snoc hr (by rw [h2]; exact hp)
  have I := hf.inv ok
  obtain ⟨x, R, e, n2, ne⟩ := word_other hw
  have ess : (T3.run p (ds ++ [d])).ss = (T3.run p ds).ss ++ [(x, R)] := by
    rw [T3.run_snoc]
    show ssN (T3.run p ds).ss (moved p (T3.run p ds).s d (T3.run p ds).n).2 = _
    rw [h2, h3, e]
    rfl
  have hin := I.r (x, R) (by rw [ess]; exact List.mem_append_right _ (List.mem_singleton_self _))
  have hR : 0 ≤ R ∧ R < (T3.run p (ds ++ [d])).n := by
    rcases hin.2 with z | z
    · exact absurd z n2
    · exact z
  have he := I.e
  rw [ess] at he
  obtain ⟨l0, ⟨x', o⟩, el, ey⟩ := map_last he.symm
  have e1 : x' = x := congrArg Prod.fst ey
  have e2 : rc o = R := congrArg Prod.snd ey
  have e3 : o = some R := by
    cases o with
    | none =>
      have z : (-2 : Int) = R := e2
      omega
    | some y => rw [show y = R from e2]
  refine ⟨_, x, R, l0, hf, ess, h4, ne, hin.1.1, hin.1.2, hR.1, hR.2, ?_⟩
  rw [el, e1, e3]
end
end Ow
set_option Elab.async false
set_option linter.all false
set_option maxRecDepth 100000
set_option maxHeartbeats 4000000
/-! the two runs of a turn of the law -/
namespace Ow
open PySem PySem.Spec PyProof.Rows L2
section
variable {K : PySem.W.Frag} {H H' H0 H1 Hs : Hp} {b lc a : Addr} {p : Plan} {fp : List Addr}
def noB (H : Hp) (b : Addr) : Hp := fun c => if c = b then none else H c
theorem noB_self : noB H b b = none := if_pos rfl
theorem noB_ne {c : Addr} (h : c ≠ b) : noB H b c = H c := if_neg h
theorem noB_none {c : Addr} (h : H c = none) : noB H b c = none := by
  unfold noB
  split
  · rfl
  · exact h
theorem noB_same : Same (noB H b) H := fun c o h => by
  unfold noB at h
  split at h
  · cases h
  · exact h
theorem noB_e : SameE [b] H (noB H b) := fun c o n h => by
  rw [noB_ne (fun z => n (List.mem_singleton.mpr z))]
  exact h
theorem noB_t (g : BagAt K H b lc) : TupS K H (noB H b) := fun a xs h => by
  obtain ⟨ys, hb⟩ := g.lt
  have key : ∀ o, H a = some o → (∀ zs, o ≠ .lst zs) → noB H b a = some o := fun o h n => by
    rw [noB_ne (fun z => by rw [z, hb] at h; exact n ys (Option.some.inj h).symm)]
    exact h
  rcases h with (h | ⟨o, h⟩) | h
  · exact .inl (.inl (key _ h (fun zs e => by cases e)))
  · exact .inl (.inr ⟨o, key _ h (fun zs e => by cases e)⟩)
  · exact .inr h
theorem SameE.get1 {o : HO} (e : SameE [b] H H') (n : a ≠ b) (h : H a = some o) : H' a = some o := e _ _ (fun z => n (List.mem_singleton.mp z)) h
theorem ne_bagI {C dx : Addr} {fs : List (Str × V)} (g : BagAt K H b lc) (h : H a = some (.ins C dx fs)) : a ≠ b := by
  obtain ⟨ys, hb⟩ := g.lt
  rintro rfl
  cases h.symm.trans hb
theorem PlantAt.bx {v : V} (e : SameE [b] H H') (t : TupS K H H') (g : BagAt K H b lc) (h : PlantAt K H v p) : PlantAt K H' v p := by
  obtain ⟨a, dx, l, tt, rfl, h1, ⟨dx2, lb, ls, tp, lw, sc, a1, a2, a3, a4, a5, a6⟩, ⟨dx3, lr, tr, c1, c2, c3⟩⟩ := h
  exact ⟨a, dx, l, tt, rfl, e.get1 (ne_bagI g h1) h1, ⟨dx2, lb, ls, tp, lw, sc, e.get1 (ne_bagI g a1) a1, e.get1 (ne_bag g a2) a2, e.get1 (ne_bag g a3) a3, a4, t _ _ a5, e.get1 (ne_bagS g a6) a6⟩, ⟨dx3, lr, tr, e.get1 (ne_bagI g c1) c1, e.get1 (ne_bag g c2) c2, t _ _ c3⟩⟩
theorem Same.fr (e0 : Same H0 H) (e : SameE fp H H') (n : ∀ a ∈ fp, H0 a = none) : Same H0 H' := fun c o h => e c o (fun z => by cases (n c z).symm.trans h) (e0 c o h)
theorem RunP.fr {x dx ls lu lc le : Addr} {pv sv : V} {bb : Bool} {steps vs : List V} {m : Nat} {s : St} {cs : List Int} {ss : List (Int × Int)} (r : RunP K H0 H x dx pv sv ls lu lc le bb steps vs m p s cs ss) (e : SameE fp H H') (t : TupS K H H') (n0 : ∀ a ∈ fp, H0 a = none) (n : ∀ a ∈ [x, ls, lc, le], a ∉ fp) :
    RunP K H0 H' x dx pv sv ls lu lc le bb steps vs m p s cs ss where
  base := Same.fr r.base e n0
  plant := r.plant
  nx := r.nx
  ns := r.ns
  nc := r.nc
  ne := r.ne
  at_ := e _ _ (n x (by simp)) r.at_
  st := r.st.ts t
  hs := e _ _ (n ls (by simp)) r.hs
  hc := e _ _ (n lc (by simp)) r.hc
  he := e _ _ (n le (by simp)) r.he
  sent := r.sent.imp fun _ _ => SentAt.ts t
  dcs := r.dcs
  dce := r.dce
  des := r.des
  zs := r.zs
  zc := r.zc
  zn := r.zn
theorem SameR.toE {x ls lc le : Addr} (e : SameR x ls lc le H H') : SameE [x, ls, lc, le] H H' := fun c o n h => by
  simp only [List.mem_cons, List.not_mem_nil, or_false, not_or] at n
  exact e c o n.1 n.2.1 n.2.2.1 n.2.2.2 h
theorem BagAt.fr (g : BagAt K H b lc) (e : SameE fp H H') (n1 : b ∉ fp) (n2 : lc ∉ fp) : BagAt K H' b lc := by
  obtain ⟨⟨cells, i, x, m, h1, h2, h3⟩, n⟩ := g
  exact ⟨⟨cells, i, x, m, e _ _ n1 h1, e _ _ n2 h2, h3⟩, n⟩
theorem BX.fr (x : BX K b lc Hs H) (g : BagAt K Hs b lc) (e : SameE fp H H') (t : TupS K H H') (n : ∀ a ∈ fp, Hs a = none) : BX K b lc Hs H' := by
  refine ⟨fun c o hc h => e c o (fun z => by cases (n c z).symm.trans h) (x.e c o hc h), x.t.trans t, ?_⟩
  obtain ⟨⟨cells, i, y, m, h1, h2, h3⟩, _⟩ := g
  exact x.g.fr e (fun z => by cases (n _ z).symm.trans h1) (fun z => by cases (n _ z).symm.trans h2)
/-- all stays, and the bag is drawn from, and what is new may change -/
theorem BX.frb (x : BX K b lc Hs H) (e : SameE (b :: fp) H H') (t : TupS K H H') (g : BagAt K H' b lc) (n : ∀ a ∈ fp, Hs a = none) : BX K b lc Hs H' :=
  ⟨fun c o hc h => e c o (fun z => (List.mem_cons.mp z).elim (fun z => hc (List.mem_singleton.mpr z)) fun z => by cases (n c z).symm.trans h) (x.e c o hc h), x.t.trans t, g⟩
theorem LRun.known {r lb lq ls le : Addr} {bs qs : List Addr} {sv : List V} {lr : LR} (h : LRun K b lc H0 H r lb bs lq qs ls le sv lr) (ha : a ∈ b :: r :: ls :: lb :: lq :: le :: (bs ++ qs)) : ∃ o, H a = some o := by
  simp only [List.mem_cons, List.mem_append] at ha
  rcases ha with rfl | rfl | rfl | rfl | rfl | rfl | ha | ha
  · obtain ⟨xs, hx⟩ := h.x.g.lt
    exact ⟨_, hx⟩
  · exact ⟨_, h.at_⟩
  · exact ⟨_, h.hs⟩
  · exact ⟨_, h.hb⟩
  · exact ⟨_, h.hq⟩
  · exact ⟨_, h.he⟩
  · obtain ⟨i, hi⟩ := List.mem_iff_getElem?.mp ha
    obtain ⟨xs, _, hx⟩ := h.bb.get' hi
    exact ⟨_, hx⟩
  · obtain ⟨i, hi⟩ := List.mem_iff_getElem?.mp ha
    obtain ⟨xs, _, hx⟩ := h.qq.get' hi
    exact ⟨_, hx⟩
/-- a Run is made -/
theorem run_made {pl : Addr} {σ : L2.St} {Q : VK} (z1 : Same Hs H1) (g : BagAt K Hs b lc) (hp : PlantAt K Hs (.ref pl) p) (ok : p.Ok) (s4 : σ[4]? = some (some (.ref pl)))
    (k : ∀ x dx sv ls lu lc' le H2, RunP K (noB Hs b) H2 x dx (.ref pl) sv ls lu lc' le false [] [] 0 p (St.start p) [] [] → (∀ a ∈ [x, ls, lc', le], H1 a = none) → Same H1 H2 → Q (.ref x) H2) :
    tMake (He.ga K "Run") (sp_runI K) [] E0 (tCons (tVar 4) tNil) σ H1 Q := by
  refine ⟨_, s4, fun x dx hx hdx ne => ?_⟩
  have zz : Same H1 (upd (upd H1 dx (.own x)) x (.ins (He.ga K "Run") dx [])) := Same.put (Same.put (Same.refl H1) hdx) hx
  refine ⟨x, dx, pl, p, noB Hs b, rfl, upd_same, hp.bx noB_e (noB_t g) g, noB_same.trans (z1.trans zz), noB_none (none_back z1 hx), ok, fun H2 sv ls lu lc' le r sx n1 n2 n3 t2 => ⟨rfl, k x dx sv ls lu lc' le H2 r (fun c hc => ?_) fun c o h => ?_⟩⟩
  · simp only [List.mem_cons, List.not_mem_nil, or_false] at hc
    rcases hc with rfl | rfl | rfl | rfl
    · exact hx
    · exact none_back zz n1
    · exact none_back zz n2
    · exact none_back zz n3
  · exact sx c o (ne_of_none h hx) (zz c o h)
/-- the deeds of a flow done to a Run -/
theorem doLoop {D : Ends} {tk : TE} {σ : L2.St} {l x dx pl rls rlc rle : Addr} {sv0 : V} {lu0 : Addr} {ws : List V} {ds : List Deed} {Hr : Hp} {C : Nat → List Int → Prop} (g : BagAt K Hr b lc)
    (ok : p.Ok) (hf : FlowOk p ds) (hz : ds.length ≤ 600) (hl : Hr l = some (.lst ws)) (hws : All2 (DeAt K Hr) ws ds) (r0 : RunP K (noB Hs b) Hr x dx (.ref pl) sv0 rls lu0 rlc rle false [] [] 0 p (St.start p) [] [])
    (nl : l ∉ [b, x, rls, rlc, rle]) (nb : b ∉ [x, rls, rlc, rle]) (nlc : lc ∉ [x, rls, rlc, rle]) (s7 : ∀ v, (σ.set 8 v)[7]? = some (some (.ref x))) (sl : 8 < σ.length) (c0 : C 0 [])
    (hk : ∀ (j : Nat) (d : Deed) (cs : List Int) (sv : V) (lu bd : Addr) (steps vs : List V) (m : Nat) (s : St) (ss : List (Int × Int)) (H : Hp) (Q : VK), ds[j]? = some d → RunP K (noB Hs b) H x dx (.ref pl) sv rls lu rlc rle false steps vs m p s cs ss → m ≤ 8000 → SqT K H bd (dV d) → C j cs → BagAt K H b lc →
      (∀ ch H', SameE [b] H H' → TupS K H H' → BagAt K H' b lc → 1 ≤ ch → ch ≤ 9 → C (j + 1) (csN cs ch d) → Q (.int ch) H') → tk (σ.set 8 (some (.ref bd))) H Q)
    (k : ∀ u H' sv lu steps vs cs, RunP K (noB Hs b) H' x dx (.ref pl) sv rls lu rlc rle false steps vs (3 * ds.length) p (T3.run p ds).s cs (T3.run p ds).ss → (cs.length : Int) = (T3.run p ds).n → C ds.length cs → FrE K (b :: [x, rls, rlc, rle]) Hr H' → BagAt K H' b lc → D.nx (σ.set 8 u) H') :
    ∃ W : Nat → Nat → L2.St → Hp → Prop, (∃ m, W 0 m σ Hr) ∧ ∀ j m σ H, W j m σ H →
      ((Itl K l).stop j H ∧ D.nx σ H) ∨ ((Itl K l).go j H ∧ ∃ N : L2.St → Hp → Prop, (∀ σ' H', N σ' H' → ∃ m', m' < m ∧ W (j + 1) m' σ' H') ∧ ∀ y H', (Itl K l).yld j H y H' → gName 8 y σ H' fun σ2 H2 =>
        tDrop (tMethS (He.ga K "Run") "do" 1 1 gV_Run_do_1 (sp_do K) E0 (tVar 7) (tCons (tVar 8) tNil) (tCons tk tNil)) { D with nx := N, ct := N, bk := D.nx } σ2 H2) := by
  have hwl := hws.length
  refine for_it (walk_list (xs := ws)) (fun j σ' H' => (∃ u, σ' = σ.set 8 u) ∧ FrE K (b :: [x, rls, rlc, rle]) Hr H' ∧ BagAt K H' b lc ∧ ∃ sv lu steps vs cs, RunP K (noB Hs b) H' x dx (.ref pl) sv rls lu rlc rle false steps vs (3 * j) p (T3.run p (ds.take j)).s cs (T3.run p (ds.take j)).ss ∧ (cs.length : Int) = (T3.run p (ds.take j)).n ∧ C j cs)
    ⟨⟨σ[8], (List.set_getElem_self sl).symm⟩, .refl, g, sv0, lu0, [], [], [], r0, rfl, c0⟩ (fun j σ' H' _ h => .inl (.inl (h.2.1.e _ _ nl hl))) ?_ ?_
  · rintro j y σ' H2 H3 hj ⟨⟨u, rfl⟩, f2, g2, sv, lu, steps, vs, cs, r2, hcn, hC⟩ ⟨rfl, hy⟩
    obtain ⟨d, hd, bd, rfl, hdt⟩ := hws.get' hy
    obtain ⟨hin, hpo⟩ := hf j d hd
    have I := (hf.take j).inv ok
    have hjl : j < ds.length := by rw [← hwl]; exact hj
    have ss2 : (σ.set 8 u).set 8 (some (V.ref bd)) = σ.set 8 (some (.ref bd)) := by rw [List.set_set]
    show tDrop _ _ ((σ.set 8 u).set 8 (some (V.ref bd))) H3
    rw [ss2]
    refine ⟨_, s7 _, x, dx, _, rfl, r2.at_, rfl, _, List.getElem?_set_self sl, ?_⟩
    refine hk j d cs sv lu bd steps vs (3 * j) _ _ H3 _ hd r2 (by omega) (f2.t _ _ hdt) hC g2 fun ch H4 e4 t4 g4 c1 c9 hC4 => ⟨rfl, rfl, show 1 ≤ sizeLine by decide, fun q hq => ?_⟩
    have y4 := Same.up (o := .tup [V.ref bd]) hq
    have nr : ∀ a ∈ [x, rls, rlc, rle], a ∉ [b] := fun a ha h => nb (by rw [← List.mem_singleton.mp h]; exact ha)
    have nbz : ∀ a ∈ [b], noB Hs b a = none := fun a ha => by rw [List.mem_singleton.mp ha]; exact noB_self
    have r4 := (r2.fr e4 t4 nbz nr).mono y4
    refine ⟨noB Hs b, x, dx, pl, sv, rls, lu, rlc, rle, steps, vs, 3 * j, p, _, cs, _, _, q, bd, d, ch, rfl, newT, r4, by omega, ok, I.g, c1, c9, Same.seqT y4 (t4 _ _ (f2.t _ _ hdt)), hin, hpo, fun H6 sv' lu' steps' ws' e6 r6 t6 => ?_⟩
    have f6 : FrE K (b :: [x, rls, rlc, rle]) H3 H6 := ⟨((e4.more (gp := b :: [x, rls, rlc, rle]) fun a ha => by rw [List.mem_singleton.mp ha]; exact List.mem_cons_self).trans (.of y4)).trans (e6.toE.more fun a ha => List.mem_cons_of_mem _ ha), (t4.trans (.of y4)).trans t6⟩
    refine ⟨⟨_, rfl⟩, f2.trans f6, (g4.mono y4).fr e6.toE nb nlc, sv', lu', steps', ws', csN cs ch d, ?_, ?_, hC4⟩
    · rw [takeD hd, T3.run_snoc]
      rw [hcn, csNext_eq, ssNext_eq] at r6
      exact r6
    · rw [takeD hd, T3.run_snoc]
      show ((csN cs ch d).length : Int) = nextN (T3.run p (ds.take j)).n d
      cases d with
      | come g =>
        show ((cs ++ [ch]).length : Int) = _ + 1
        rw [List.length_append, List.length_singleton]
        omega
      | pass i g => exact hcn
      | pause => exact hcn
  · rintro σ' H2 ⟨⟨u, rfl⟩, f2, g2, sv, lu, steps, vs, cs, r2, hcn, hC⟩
    rw [hwl, List.take_length] at r2 hcn
    rw [hwl] at hC
    exact k u H2 sv lu steps vs cs r2 hcn hC f2 g2
end
end Ow
set_option Elab.async false
set_option linter.all false
set_option maxRecDepth 100000
set_option maxHeartbeats 4000000
/-! the safe turn of the law -/
namespace Ow
open PySem PySem.Spec PyProof.Rows L2
section
variable {K : PySem.W.Frag} {b lc : Addr} {p : Plan}
theorem T3.inR {cs : List Int} {t : T3} (I : Inv3 p t) (h : (cs.length : Int) = t.n) : InR cs t.ss := fun q hq => by
  rw [h]
  exact I.r q hq
def safeT (K : PySem.W.Frag) : TS := tSeq (tPar 6 7 (tCons (tCall (sp_begun K) [] E0 (tCons (tVar 3) tNil)) (tCons (tMake (He.ga K "Run") (sp_runI K) [] E0 (tCons (tVar 4) tNil)) tNil))) (tSeq (tFor (iList K (tCall (sp_lawWalk K) [] E0 (tCons (tVar 1) (tCons (tVar 3) (tCons (tVar 6) (tCons (tC (V.int 60)) tNil)))))) (gName 8) (tDrop (tMethS (He.ga K "Run") "do" 1 1 gV_Run_do_1 (sp_do K) E0 (tVar 7) (tCons (tVar 8) tNil) (tCons (tOp (rI0 fun i j => V.int (i + j)) (tC (V.int 1)) (tCall (sp_draw K) [] E0 (tCons (tVar 1) (tCons (tC (V.int 9)) tNil)))) tNil))))
  (tIfS (tTest (tOp (rNeD K) (tMeth (He.ga K "Run") "astray" (sp_astray K) [] E0 (tVar 7) tNil) (tLst tNil))) (tRet (tC (V.bl false))) tNext))
theorem safe_run {D : Ends} {Hs : Hp} {s0 u2 u5 u6 u7 u8 u9 u10 u11 u12 : Option V} {rp plb pls tp lw lrr pl : Addr} (T : Txt w K mg) (g : BagAt K Hs b lc) (hP : LPlan K Hs rp plb pls tp lw lrr p) (dp : Drawn p) (hp : PlantAt K Hs (.ref pl) p) (hj : JSafe p)
    (k : ∀ v6 v7 v8 H', BX K b lc Hs H' → D.nx [s0, some (.ref b), u2, some (.ref rp), some (.ref pl), u5, v6, v7, v8, u9, u10, u11, u12] H') :
    safeT K D [s0, some (.ref b), u2, some (.ref rp), some (.ref pl), u5, u6, u7, u8, u9, u10, u11, u12] Hs := by
  have ok := dp.ok
  refine ⟨_, rfl, b, lc, rp, plb, pls, tp, lw, lrr, p, rfl, g, hP, dp, fun r lb bs lq qs ls le H1 z1 hR => ?_⟩
  refine run_made z1 g hp ok rfl fun x dx sv rls lu rlc rle H2 r2 n2 z2 => ⟨_, _, rfl, ?_⟩
  have z12 := z1.trans z2
  have hR2 := hR.up z2
  have g2 := g.mono z12
  have nx : ∀ a ∈ [x, rls, rlc, rle], Hs a = none := fun a ha => none_back z1 (n2 a ha)
  have nk : ∀ a ∈ [x, rls, rlc, rle], a ∉ b :: r :: le :: (bs ++ qs) := fun a ha hm => by
    obtain ⟨o, ho⟩ := hR.known (a := a) (by
      simp only [List.mem_cons, List.mem_append] at hm ⊢
      rcases hm with h | h | h | h | h <;> simp [h])
    cases ho.symm.trans (n2 a ha)
  have nb : b ∉ [x, rls, rlc, rle] := fun h => nk b h List.mem_cons_self
  have nlc : lc ∉ [x, rls, rlc, rle] := fun h => by
    obtain ⟨⟨cells, i, y, m, h1, h2, h3⟩, _⟩ := g
    cases h2.symm.trans (nx lc h)
  refine ⟨_, rfl, _, rfl, _, rfl, b, lc, rp, plb, pls, tp, lw, lrr, r, lb, bs, lq, qs, ls, le, p, Hs, rfl, hP, dp, hR2, fun l ws ds H3 hl0 f3 g3 hl hws hf hdl => ⟨l, rfl, ⟨_, .inl (.inl hl)⟩, ?_⟩⟩
  have off : ∀ a ∈ r :: le :: (bs ++ qs), Hs a = none := fun a ha => hR.off a (by
      simp only [List.mem_cons, List.mem_append] at ha ⊢
      rcases ha with h | h | h | h <;> simp [h])
  have n0 : ∀ a ∈ b :: r :: le :: (bs ++ qs), noB Hs b a = none := fun a ha => by
    rcases List.mem_cons.mp ha with rfl | ha
    · exact noB_self
    · exact noB_none (off a ha)
  have r3 := r2.fr f3.e f3.t n0 nk
  have x3 : BX K b lc Hs H3 := ((BX.refl g).up z12).frb f3.e f3.t g3 off
  have nl : l ∉ [b, x, rls, rlc, rle] := fun h => by
    simp only [List.mem_cons, List.not_mem_nil, or_false] at h
    obtain ⟨ys, hb⟩ := g2.lt
    rcases h with rfl | rfl | rfl | rfl | rfl
    · cases hb.symm.trans hl0
    · cases r2.at_.symm.trans hl0
    · cases r2.hs.symm.trans hl0
    · cases r2.hc.symm.trans hl0
    · cases r2.he.symm.trans hl0
  refine doLoop (C := fun _ _ => True) g3 ok hf (by omega) hl hws r3 nl nb nlc (fun _ => rfl) (Nat.le_of_ble_eq_true rfl) trivial (fun j d cs sv lu bd steps vs m s ss H Q hd rr hm hdt _ gg kk => ?_) fun u H4 sv4 lu4 st4 vs4 cs r4 hcn _ f4 g4 => ?_
  · refine ⟨_, rfl, b, lc, 9, rfl, gg, by decide, by decide, fun e H' e5 t5 g5 e0 e9 => ⟨_, _, rfl, rfl, ?_⟩⟩
    exact kk _ _ e5 t5 g5 (by omega) (by omega) trivial
  have I := hf.inv ok
  refine ⟨_, rfl, x, dx, _, rfl, r4.at_, rfl, x, cs, _, rfl, r4.toX (by omega), T3.inR I hcn, fun la ns H5 z5 hpm hla => ?_⟩
  have hns : ns = [] := by
    rw [astrayOf_eq, filter_ok (hj.flow ok hf)] at hpm
    exact hpm.eq_nil
  subst hns
  refine ⟨ok_le (by simp), fun t1 ht1 => ?_⟩
  have z6 := Same.up (o := .lst []) ht1
  refine ⟨.list [], .list [], .lst (.inl (.inl (z6 _ _ hla))) .nil, .lst (.inl (.inl upd_same)) .nil, PySem.W.shaped_ints [], PySem.W.shaped_ints [], _, rfl, ?_⟩
  refine noo rfl ?_
  exact k _ _ _ _ ((x3.frb f4.e f4.t g4 nx).up (z5.trans z6))
end
end Ow
set_option Elab.async false
set_option linter.all false
set_option maxRecDepth 100000
set_option maxHeartbeats 4000000
/-! the astray turn of the law -/
namespace Ow
open PySem PySem.Spec PyProof.Rows L2
section
variable {w : World} {mg : Str → Option Value} {K : PySem.W.Frag} {b lc : Addr} {p : Plan}
/-- the law's own run does the deeds of a flow -/
theorem lawLoop {D : Ends} {σ : L2.St} {l r lb lq ls le rp plb pls tp lw lrr : Addr} {bs qs : List Addr} {ws : List V} {ds : List Deed} {Hs Hr : Hp} {X : List Addr} (dp : Drawn p) (hP : LPlan K Hs rp plb pls tp lw lrr p) (hf : FlowOk p ds) (hz : ds.length ≤ 600) (hl : Hr l = some (.lst ws)) (hws : All2 (DeAt K Hr) ws ds)
    (hR : LRun K b lc Hs Hr r lb bs lq qs ls le [] (LR.begun p)) (nl : l ∉ r :: le :: (bs ++ qs)) (hX : ∀ a ∈ X, ls ≠ a ∧ a ∉ r :: le :: (bs ++ qs) ∧ ∃ o, Hr a = some o) (s3 : ∀ v, (σ.set 8 v)[3]? = some (some (.ref rp))) (s6 : ∀ v, (σ.set 8 v)[6]? = some (some (.ref r))) (sl : 8 < σ.length)
    (k : ∀ u H' ls' sv', LRun K b lc Hs H' r lb bs lq qs ls' le sv' (T3.run p ds).lr → FrE K (r :: le :: (bs ++ qs)) Hr H' → (∀ a ∈ X, ls' ≠ a) → D.nx (σ.set 8 u) H') :
    ∃ W : Nat → Nat → L2.St → Hp → Prop, (∃ m, W 0 m σ Hr) ∧ ∀ j m σ H, W j m σ H →
      ((Itl K l).stop j H ∧ D.nx σ H) ∨ ((Itl K l).go j H ∧ ∃ N : L2.St → Hp → Prop, (∀ σ' H', N σ' H' → ∃ m', m' < m ∧ W (j + 1) m' σ' H') ∧ ∀ y H', (Itl K l).yld j H y H' → gName 8 y σ H' fun σ2 H2 =>
        tDrop (tCall (sp_lawDo K) [] E0 (tCons (tVar 3) (tCons (tVar 6) (tCons (tVar 8) tNil)))) { D with nx := N, ct := N, bk := D.nx } σ2 H2) := by
  have hwl := hws.length
  have ok := dp.ok
  refine for_it (walk_list (xs := ws)) (fun j σ' H' => (∃ u, σ' = σ.set 8 u) ∧ FrE K (r :: le :: (bs ++ qs)) Hr H' ∧ ∃ ls' sv', (∀ a ∈ X, ls' ≠ a) ∧ LRun K b lc Hs H' r lb bs lq qs ls' le sv' (T3.run p (ds.take j)).lr)
    ⟨⟨σ[8], (List.set_getElem_self sl).symm⟩, .refl, ls, [], fun a ha => (hX a ha).1, hR⟩ (fun j σ' H' _ h => .inl (.inl (h.2.1.e _ _ nl hl))) ?_ ?_
  · rintro j y σ' H2 H3 hj ⟨⟨u, rfl⟩, f2, ls', sv', hls, hR2⟩ ⟨rfl, hy⟩
    obtain ⟨d, hd, bd, rfl, hdt⟩ := hws.get' hy
    obtain ⟨hin, hpo⟩ := hf j d hd
    have I := (hf.take j).inv ok
    have hjl : j < ds.length := by rw [← hwl]; exact hj
    have ss2 : (σ.set 8 u).set 8 (some (V.ref bd)) = σ.set 8 (some (.ref bd)) := by rw [List.set_set]
    have fit := LFit.of I rfl (by rw [List.length_take]; omega)
    show tDrop _ _ ((σ.set 8 u).set 8 (some (V.ref bd))) H3
    rw [ss2]
    refine ⟨_, s3 _, _, s6 _, _, List.getElem?_set_self sl, b, lc, rp, plb, pls, tp, lw, lrr, r, lb, bs, lq, qs, ls', le, sv', p, _, Hs, bd, d, rfl, hP, dp, hR2, f2.t _ _ hdt, hin, ?_, fit, fun H6 ls6 sv6 hR6 f6 h6 => ?_⟩
    · rw [can_possible ok I.m I.g.sz hin]
      exact hpo
    · refine ⟨⟨_, rfl⟩, f2.trans f6, ls6, sv6, fun a ha => ?_, ?_⟩
      · rcases h6 with e | e
        · rw [e]
          exact hls a ha
        · obtain ⟨_, h2, o, ho⟩ := hX a ha
          exact Ne.symm (ne_of_none (f2.e _ _ h2 ho) e)
      · rw [takeD hd, T3.run_snoc]
        exact hR6
  · rintro σ' H2 ⟨⟨u, rfl⟩, f2, ls', sv', hls, hR2⟩
    rw [hwl, List.take_length] at hR2
    exact k u H2 ls' sv' hR2 f2 hls
def astrayT (K : PySem.W.Frag) : TS := tSeq (tPar3 9 6 7 (tCons (tMeth (He.ga K "Astray") "flow" (sp_flow K) [] E0 (tOp (rIxT K) (tVar 5) (tC (V.int 1))) tNil) (tCons (tCall (sp_begun K) [] E0 (tCons (tVar 3) tNil)) (tCons (tMake (He.ga K "Run") (sp_runI K) [] E0 (tCons (tVar 4) tNil)) tNil)))) (tSeq (tFor (iList K (tVar 9)) (gName 8) (tDrop (tCall (sp_lawDo K) [] E0 (tCons (tVar 3) (tCons (tVar 6) (tCons (tVar 8) tNil))))))
  (tSeq (tAsg (tOp (rIxL K) (tDGet (tVar 6) (tC (V.str "sent"))) (tUn (rU fun i => V.int (-i)) (tC (V.int 1)))) (gTup K 2 (gCons (gName 10) (gCons (gName 11) gNil)))) (tSeq (tFor (iList K (tVar 9)) (gName 8) (tDrop (tMethS (He.ga K "Run") "do" 1 1 gV_Run_do_1 (sp_do K) E0 (tVar 7) (tCons (tVar 8) tNil) (tCons (tIf (tAnd (tTest (tOp rEq (tOp (rIxT K) (tVar 8) (tC (V.int 0))) (tC (V.str "come")))) (tTest (tOp rEq (tCB (rLenO (He.ga K "Run") (sp_runLen K)) (tCons (tVar 7) tNil)) (tVar 11)))) (tC (V.int 2)) (tC (V.int 5))) tNil))))
  (tSeq (tIfS (tOr (tNot (tB (tCall (sp_same1 K) [] E0 (tCons (tMeth (He.ga K "Run") "astray" (sp_astray K) [] E0 (tVar 7) tNil) (tCons (tLst (tCons (tVar 10) tNil)) tNil))))) (tTest (tOp rNe (tCB (rLen K) (tCons (tVar 9) tNil)) (tOp (rI0 fun i j => V.int (i + j)) (tCB (rLen K) (tCons (tDGet (tVar 6) (tC (V.str "slips"))) tNil)) (tBM K "list" (rCntD K) (tVar 9) (tCons (tTup (tCons (tC (V.str "pause")) tNil)) tNil)))))) (tRet (tC (V.bl false))) tNext)
  (tIfS (tNot (tB (tCall (sp_same1 K) [] E0 (tCons (tOp (rIxL K) (tListG (tMethG2 (He.ga K "Run") "sendings" (sp_sendings K) (tVar 7))) (tUn (rU fun i => V.int (-i)) (tC (V.int 1)))) (tCons (tTup (tCons (tVar 10) (tCons (tVar 11) (tCons (tC (V.int 2)) tNil)))) tNil))))) (tRet (tC (V.bl false))) tNext)))))
theorem dpDeeds {H : Hp} : ∀ {ws : List V} {ds : List Deed}, All2 (DeAt K H) ws ds → DpAll K H ws (ds.map pdDeed)
  | _, _, .nil => .nil
  | _, _, .cons ⟨a, e, h⟩ t => .cons (by rw [e]; exact dpDeed h) (dpDeeds t)
theorem plain_deeds : ∀ ds : List Deed, PyData.plainAll (ds.map pdDeed) = true
  | [] => rfl
  | d :: r => by
    have e : (pdDeed d).plain = true := by cases d <;> rfl
    show ((pdDeed d).plain && PyData.plainAll (r.map pdDeed)) = true
    rw [e, plain_deeds r]
    rfl
theorem count_pause (ds : List Deed) : (ds.map pdDeed).countP (fun y => PyData.eqv y (pdDeed .pause)) = ds.count .pause := by
  rw [List.countP_map]
  unfold List.count
  congr 1
  funext d
  show PyData.eqv (pdDeed d) (pdDeed .pause) = _
  rw [eqv_pause]
  cases d <;> rfl
end
end Ow
set_option Elab.async false
set_option linter.all false
set_option maxRecDepth 100000
set_option maxHeartbeats 4000000
/-! the astray turn of the law is walked -/
namespace Ow
open PySem PySem.Spec PyProof.Rows L2
theorem All2.last {α β : Type} {R : α → β → Prop} {y : β} : ∀ {m : List β} {l : List α}, All2 R l (m ++ [y]) → ∃ l0 x, l = l0 ++ [x] ∧ R x y
  | [], _, .cons (a := a) h .nil => ⟨[], a, rfl, h⟩
  | _ :: m, _, .cons (a := a) _ t => let ⟨l0, x, e, h⟩ := All2.last (m := m) t; ⟨a :: l0, x, by rw [e]; rfl, h⟩
section
variable {w : World} {mg : Str → Option Value} {K : PySem.W.Frag} {b lc : Addr} {p : Plan}
theorem astray_run {D : Ends} {Hs : Hp} {s0 u2 u6 u7 u8 u9 u10 u11 u12 : Option V} {rp plb pls tp lw lrr pl t xv dxv mm : Addr} {ws : List V} {fl : List Deed} (T : Txt w K mg) (g : BagAt K Hs b lc) (hP : LPlan K Hs rp plb pls tp lw lrr p) (dp : Drawn p) (hp : PlantAt K Hs (.ref pl) p)
    (ht : SqT K Hs t [.str "told", .ref xv]) (hx : Hs xv = some (.ins (He.ga K "Astray") dxv [("own_flow", .ref mm)])) (hm : Hs mm = some (.lst ws)) (hws : All2 (DeAt K Hs) ws fl) (hz : fl.length ≤ 600) (hj : JAstray p fl)
    (k : ∀ v6 v7 v8 v9 v10 v11 H', BX K b lc Hs H' → D.nx [s0, some (.ref b), u2, some (.ref rp), some (.ref pl), some (.ref t), v6, v7, v8, v9, v10, v11, u12] H') :
    astrayT K D [s0, some (.ref b), u2, some (.ref rp), some (.ref pl), some (.ref t), u6, u7, u8, u9, u10, u11, u12] Hs := by
  have ok := dp.ok
  obtain ⟨pre, x0, R, lpre, W⟩ := hj.flow ok
  refine ⟨_, rfl, t, _, 1, .ref xv, rfl, rfl, ht, rfl, xv, dxv, _, rfl, hx, rfl, xv, dxv, mm, ws, rfl, hx, hm, fun l H1 z1 hl0 hl => ?_⟩
  have g1 := g.mono z1
  refine ⟨_, rfl, b, lc, rp, plb, pls, tp, lw, lrr, p, rfl, g1, hP.mono z1, dp, fun r lb bs lq qs ls le H2 z2 hR => ?_⟩
  refine run_made z2 g1 (hp.mono z1) ok rfl fun x dx sv rls lu rlc rle H3 r3 n3 z3 => ⟨_, _, _, rfl, ?_⟩
  have z23 := z2.trans z3
  have hR3 := hR.up z3
  have hl3 := z23 _ _ hl
  have hws3 : All2 (DeAt K H3) ws fl := hws.imp fun _ _ => DeAt.mono (z1.trans z23)
  have nx : ∀ a ∈ [x, rls, rlc, rle], H1 a = none := fun a ha => none_back z2 (n3 a ha)
  have nk : ∀ a ∈ [x, rls, rlc, rle], a ∉ r :: le :: (bs ++ qs) := fun a ha hm => by
    obtain ⟨o, ho⟩ := hR.known (a := a) (by
      simp only [List.mem_cons, List.mem_append] at hm ⊢
      rcases hm with h | h | h | h <;> simp [h])
    cases ho.symm.trans (n3 a ha)
  have nls : ∀ a ∈ [x, rls, rlc, rle], ls ≠ a := fun a ha => ne_of_none hR.hs (n3 a ha)
  have nr : ∀ a ∈ [x, rls, rlc, rle], r ≠ a := fun a ha => ne_of_none hR.at_ (n3 a ha)
  have nll : ∀ a ∈ [x, rls, rlc, rle], l ≠ a := fun a ha => ne_of_none (z2 _ _ hl) (n3 a ha)
  have kn : ∀ a ∈ [x, rls, rlc, rle], ∃ o, H3 a = some o := fun a ha => by
    simp only [List.mem_cons, List.not_mem_nil, or_false] at ha
    rcases ha with rfl | rfl | rfl | rfl
    · exact ⟨_, r3.at_⟩
    · exact ⟨_, r3.hs⟩
    · exact ⟨_, r3.hc⟩
    · exact ⟨_, r3.he⟩
  have nb : b ∉ [x, rls, rlc, rle] := fun h => by
    obtain ⟨ys, hb⟩ := g1.lt
    cases hb.symm.trans (nx b h)
  have nlc : lc ∉ [x, rls, rlc, rle] := fun h => by
    obtain ⟨⟨cells, i, y, m, h1, h2, h3⟩, _⟩ := g1
    cases h2.symm.trans (nx lc h)
  have off : ∀ a ∈ r :: le :: (bs ++ qs), H1 a = none := fun a ha => hR.off a (by
      simp only [List.mem_cons, List.mem_append] at ha ⊢
      rcases ha with h | h | h | h <;> simp [h])
  have nl1 : l ∉ r :: le :: (bs ++ qs) := fun h => by cases hl.symm.trans (off l h)
  have nlb : l ≠ b := by
    obtain ⟨ys, hb⟩ := g.lt
    exact Ne.symm (ne_of_none hb hl0)
  refine ⟨_, rfl, l, rfl, ⟨_, .inl (.inl hl3)⟩, ?_⟩
  refine lawLoop (X := [x, rls, rlc, rle]) dp (hP.mono z1) W.f hz hl3 hws3 hR3 nl1 (fun a ha => ⟨nls a ha, nk a ha, kn a ha⟩) (fun _ => rfl) (fun _ => rfl) (Nat.le_of_ble_eq_true rfl) fun v8 H4 ls' sv' hR4 f4 hls4 => ?_
  have hl4 := f4.e _ _ nl1 hl3
  have hws4 : All2 (DeAt K H4) ws fl := hws3.imp fun _ _ => DeAt.ts f4.t
  have g4 := hR4.x.g
  have r4 := r3.fr f4.e f4.t (fun a ha => noB_none (off a ha)) nk
  obtain ⟨sv0, _, esv, tq, rfl, htq⟩ := All2.last (by have := hR4.ee; rw [W.se] at this; exact this)
  have hle := hR4.he
  rw [esv] at hle
  refine ⟨_, rfl, r, _, rfl, hR4.sent, 1, rfl, le, _, -1, .ref tq, rfl, rfl, .inl (.inl hle), atI_last _ _, tq, _, rfl, htq, rfl, _, _, rfl, _, _, rfl, rfl, ?_⟩
  refine ⟨_, rfl, l, rfl, ⟨_, .inl (.inl hl4)⟩, ?_⟩
  refine doLoop (C := fun j cs => cs = csOf R (fl.take j)) g4 ok W.f hz hl4 hws4 r4 ?_ nb nlc (fun _ => rfl) (Nat.le_of_ble_eq_true rfl) rfl (fun j d cs sv lu bd steps vs m s ss H Q hd rr hm hdt hC gg kk => ?_) fun v8 H5 sv5 lu5 st5 vs5 cs r5 hcn hcs f5 g5 => ?_
  · simp only [List.mem_cons, List.not_mem_nil, or_false, not_or]
    exact ⟨nlb, nll x (by simp), nll rls (by simp), nll rlc (by simp), nll rle (by simp)⟩
  · have eC : csN cs (chOf R cs) d = csOf R (fl.take (j + 1)) := by rw [takeD hd, csOf_snoc, ← hC]
    cases d with
    | come gg2 =>
      refine ⟨_, rfl, bd, _, 0, .str "come", rfl, rfl, hdt, rfl, rfl, _, rfl, yes (decide_eq_true rfl) ?_⟩
      refine ⟨_, rfl, x, dx, _, rfl, rr.at_, x, cs, ss, rfl, rr.toX (by omega), (cs.length : Nat), rfl, by omega, ?_, _, rfl, rfl, _, rfl, ?_⟩
      · have := rr.zc
        have h2 : (8000 : Int) < 2 ^ 62 := by decide
        omega
      · by_cases c : (cs.length : Int) = R
        · have e2 : chOf R cs = 2 := if_pos c
          rw [e2] at eC
          refine yes (decide_eq_true (by rw [c]; rfl)) ?_
          exact kk 2 H SameE.refl TupS.refl gg (by decide) (by decide) eC
        · have e2 : chOf R cs = 5 := if_neg c
          rw [e2] at eC
          refine noo (decide_eq_false fun z => c (V.int.inj z)) ?_
          exact kk 5 H SameE.refl TupS.refl gg (by decide) (by decide) eC
    | pass i gg2 =>
      refine ⟨_, rfl, bd, _, 0, .str "pass", rfl, rfl, hdt, rfl, rfl, _, rfl, noo (decide_eq_false (by decide)) ?_⟩
      refine noo rfl ?_
      exact kk 5 H SameE.refl TupS.refl gg (by decide) (by decide) eC
    | pause =>
      refine ⟨_, rfl, bd, _, 0, .str "pause", rfl, rfl, hdt, rfl, rfl, _, rfl, noo (decide_eq_false (by decide)) ?_⟩
      refine noo rfl ?_
      exact kk 5 H SameE.refl TupS.refl gg (by decide) (by decide) eC
  rw [List.take_length] at hcs
  have I := W.f.inv ok
  have hch := csOf_ch (p := p) R fl
  rw [← hcs] at hch
  have hin := T3.inR I hcn
  have nfp : ∀ c, (c ≠ b) → (∀ a ∈ [x, rls, rlc, rle], c ≠ a) → c ∉ b :: [x, rls, rlc, rle] := fun c h1 h2 h => by
    rcases List.mem_cons.mp h with h | h
    · exact h1 h
    · exact h2 c h rfl
  have hl5 := f5.e _ _ (nfp l nlb nll) hl4
  have hat5 := f5.e _ _ (nfp r (hR4.ne List.mem_cons_self) nr) hR4.at_
  have hsl5 := f5.e _ _ (nfp ls' (hR4.ne (by simp)) hls4) hR4.hs
  have hws5 : All2 (DeAt K H5) ws fl := hws4.imp fun _ _ => DeAt.ts f5.t
  have x5 : BX K b lc Hs H5 := by
    refine (((BX.refl g).up (z1.trans z23)).fr g f4.e f4.t fun a ha => none_back z1 (off a ha)).frb f5.e f5.t g5 fun a ha => none_back z1 (nx a ha)
  have hwl := hws.length
  have hcl := r5.zc
  refine ⟨_, rfl, x, dx, _, rfl, r5.at_, rfl, x, cs, _, rfl, r5.toX (by omega), hin, fun la ns H6 z6 hpm hla => ?_⟩
  have hns : ns = [x0] := by
    rw [astrayOf_eq, W.ss, filter_one hch W.ok W.x0 W.x1 W.r0 W.r1 W.ne] at hpm
    exact List.perm_singleton.mp hpm
  subst hns
  refine ⟨_, rfl, ok_le (by simp), fun t1 ht1 => ?_⟩
  have z7 := Same.up (o := .lst [V.int x0]) ht1
  refine ⟨true, la, t1, [x0], rfl, z7 _ _ hla, upd_same, show 1 ≤ 10 by decide, fun H7 z8 => ⟨true, rfl, noo rfl ?_⟩⟩
  have z57 := z6.trans (z7.trans z8)
  refine ⟨_, rfl, l, ws, rfl, .inl (.inl (.inl (z57 _ _ hl5))), ?_⟩
  refine ⟨_, rfl, r, _, rfl, dget_at (i := 3) (z57 _ _ hat5) runK_nodup rfl, ls', _, rfl, .inl (.inl (.inl (z57 _ _ hsl5))), ?_⟩
  refine ⟨_, rfl, tyLst (z57 _ _ hl5), ok_le (by simp), fun t2 ht2 => ?_⟩
  have z9 := Same.up (o := .tup [V.str "pause"]) ht2
  have z59 := z57.trans z9
  refine ⟨l, ws, fl.map pdDeed, .ref t2, pdDeed .pause, rfl, rfl, .inl (.inl (z59 _ _ hl5)), dpDeeds (hws5.imp fun _ _ => DeAt.mono z59), dpDeed (d := .pause) newT, plain_deeds fl, rfl, by decide +kernel, _, _, rfl, rfl, rfl, _, rfl, ?_⟩
  have hcnt : (ws.length : Int) = (((T3.run p fl).lr.slips.map V.int).length : Int) + ((fl.map pdDeed).countP fun y => PyData.eqv y (pdDeed .pause) : Nat) := by
    rw [count_pause, List.length_map, hwl]
    have := run_slips (p := p) fl
    omega
  refine noo (by rw [hcnt, decide_eq_true rfl]; rfl) ?_
  have r9 := r5.mono z59
  refine ⟨_, rfl, x, dx, _, rfl, r9.at_, rfl, cs, _, r9.toX (by omega), hin, fun out H8 z10 hout tl htl => ?_⟩
  rw [W.ss] at hout
  obtain ⟨out0, _, rfl, tr, rfl, htr⟩ := All2.last hout
  have z11 := Same.up (o := .lst (out0 ++ [V.ref tr])) htl
  refine ⟨1, rfl, tl, _, -1, .ref tr, rfl, rfl, .inl (.inl upd_same), atI_last _ _, ?_⟩
  refine ⟨_, rfl, _, rfl, ok_le (by simp), fun t3 ht3 => ?_⟩
  have z12 := Same.up (o := .tup [V.int x0, V.int R, V.int 2]) ht3
  have erow : rowV cs (x0, R) = [x0, R, 2].map V.int := by
    have h2 : R ≠ -2 := by have := W.r0; omega
    have h3 : cs.getD R.toNat 0 = 2 := by rw [hch.at W.r0 W.r1, if_pos rfl]
    show [V.int x0, if R = -2 then V.non else .int R, if R = -2 then V.non else .int (cs.getD R.toNat 0)] = _
    rw [if_neg h2, if_neg h2, h3]
    rfl
  rw [erow] at htr
  refine ⟨false, tr, t3, [x0, R, 2], rfl, Same.seqT (z11.trans z12) htr, newT, show 3 ≤ 10 by decide, fun H9 z13 => ⟨true, rfl, noo rfl ?_⟩⟩
  exact k _ _ _ _ _ _ _ (x5.up (z59.trans (z10.trans (z11.trans (z12.trans z13)))))
end
end Ow
set_option Elab.async false
set_option linter.all false
set_option maxRecDepth 100000
set_option maxHeartbeats 4000000
/-! a turn of the law -/
namespace Ow
open PySem PySem.Spec PyProof.Rows L2
section
variable {w : World} {mg : Str → Option Value} {K : PySem.W.Frag} {H H' : Hp} {b lc a : Addr} {p : Plan}
theorem enT (e : LamX.ExtN H H') : TupS K H H' := fun a xs h => by
  rcases h with (h | ⟨o, h⟩) | h
  · exact .inl (.inl (e _ _ h fun ps z => by cases z))
  · exact .inl (.inr ⟨o, e _ _ h fun ps z => by cases z⟩)
  · exact .inr h
theorem enL {xs : List V} (e : LamX.ExtN H H') (h : H a = some (.lst xs)) : H' a = some (.lst xs) := e _ _ h fun ps z => by cases z
theorem enI {C dx : Addr} {fs : List (Str × V)} (e : LamX.ExtN H H') (h : H a = some (.ins C dx fs)) : H' a = some (.ins C dx fs) := e _ _ h fun ps z => by cases z
theorem PlantAt.en {v : V} (e : LamX.ExtN H H') (h : PlantAt K H v p) : PlantAt K H' v p := by
  obtain ⟨a, dx, l, tt, rfl, h1, ⟨dx2, lb, ls, tp, lw, sc, a1, a2, a3, a4, a5, a6⟩, ⟨dx3, lr, tr, c1, c2, c3⟩⟩ := h
  exact ⟨a, dx, l, tt, rfl, enI e h1, ⟨dx2, lb, ls, tp, lw, sc, enI e a1, enL e a2, enL e a3, a4, enT e _ _ a5, enL e a6⟩, ⟨dx3, lr, tr, enI e c1, enL e c2, enT e _ _ c3⟩⟩
theorem LPlan.en {r lb ls tp lw lr : Addr} (e : LamX.ExtN H H') (h : LPlan K H r lb ls tp lw lr p) : LPlan K H' r lb ls tp lw lr p :=
  ⟨e _ _ h.at_ fun ps z => (by cases z), enL e h.hb, enL e h.hs, enT e _ _ h.ht, enL e h.hw, enL e h.hr⟩
theorem BagAt.en (e : LamX.ExtN H H') (g : BagAt K H b lc) : BagAt K H' b lc := by
  obtain ⟨⟨cells, i, x, m, h1, h2, h3⟩, n⟩ := g
  exact ⟨⟨cells, i, x, m, enL e h1, enL e h2, h3⟩, n⟩
theorem tabsB {Tb : List (Addr × Str)} (t : LamX.Tabs Tb H) (g : BagAt K H b lc) (e : SameE [b] H H') : LamX.Tabs Tb H' := fun q hq => by
  obtain ⟨ys, hb⟩ := g.lt
  obtain ⟨ps, h1, h2, h3⟩ := t q hq
  refine ⟨ps, e.get1 (ne_of h1 hb fun z => by cases z) h1, h2, fun pos cv hc => ?_⟩
  obtain ⟨c, e1, e2⟩ := h3 pos cv hc
  exact ⟨c, e1, e.get1 (ne_of e2 hb fun z => by unfold LamX.CodeO at z; cases z) e2⟩
def isT (K : PySem.W.Frag) (wd : Str) : TT := tAnd (tTest (tOp rEq (tOp (rIxT K) (tVar 5) (tC (V.int 0))) (tC (V.str "told")))) (tTest (tOp rEq (fun σ H_1 Q => tProp (He.ga K "Safe") (sp_wordOf K) [] E0 (tOp (rIxT K) (tVar 5) (tC (V.int 1))) σ H_1 Q ∨ tProp (He.ga K "Astray") (sp_wordOf K) [] E0 (tOp (rIxT K) (tVar 5) (tC (V.int 1))) σ H_1 Q) (tC (V.str wd))))
variable {σ : L2.St} {t x dx m : Addr} {wd : Str} {Q : Bool → Hp → Prop}
theorem isT_safe (T : Txt w K mg) (s5 : σ[5]? = some (some (.ref t))) (ht : SqT K H t [.str "told", .ref x]) (hx : H x = some (.ins (He.ga K "Safe") dx [("own_places", .ref m)])) (q : Q (decide (V.str "safe" = V.str wd)) H) : isT K wd σ H Q := by
  obtain ⟨u, hu⟩ := T.con_Safe
  refine ⟨_, s5, t, _, 0, .str "told", rfl, rfl, ht, rfl, rfl, _, rfl, yes (decide_eq_true rfl) (.inl ⟨_, s5, t, _, 1, .ref x, rfl, rfl, ht, rfl, x, dx, _, rfl, hx, He.ga K "Safe", x, dx, _, .str "safe", u, rfl, hx, T.cl_Safe, hu, rfl, rfl, _, rfl, q⟩)⟩
theorem isT_astray (T : Txt w K mg) (s5 : σ[5]? = some (some (.ref t))) (ht : SqT K H t [.str "told", .ref x]) (hx : H x = some (.ins (He.ga K "Astray") dx [("own_flow", .ref m)])) (q : Q (decide (V.str "astray" = V.str wd)) H) : isT K wd σ H Q := by
  obtain ⟨u, hu⟩ := T.con_Astray
  refine ⟨_, s5, t, _, 0, .str "told", rfl, rfl, ht, rfl, rfl, _, rfl, yes (decide_eq_true rfl) (.inr ⟨_, s5, t, _, 1, .ref x, rfl, rfl, ht, rfl, x, dx, _, rfl, hx, He.ga K "Astray", x, dx, _, .str "astray", u, rfl, hx, T.cl_Astray, hu, rfl, rfl, _, rfl, q⟩)⟩
theorem isT_too {rest : V} (s5 : σ[5]? = some (some (.ref t))) (ht : SqT K H t [.str "TooMany", rest]) (q : Q false H) : isT K wd σ H Q :=
  ⟨_, s5, t, _, 0, .str "TooMany", rfl, rfl, ht, rfl, rfl, _, rfl, noo (decide_eq_false (by decide)) q⟩
/-- what the law found -/
inductive Fnd (K : PySem.W.Frag) (H : Hp) (p : Plan) (t : Addr) : Prop where
  | safe {x dx m : Addr} : SqT K H t [.str "told", .ref x] → H x = some (.ins (He.ga K "Safe") dx [("own_places", .ref m)]) → JSafe p → Fnd K H p t
  | astray {x dx m : Addr} {ws : List V} {fl : List Deed} : SqT K H t [.str "told", .ref x] → H x = some (.ins (He.ga K "Astray") dx [("own_flow", .ref m)]) → H m = some (.lst ws) → All2 (DeAt K H) ws fl → fl.length ≤ 600 → JAstray p fl → Fnd K H p t
  | too {rest : V} : SqT K H t [.str "TooMany", rest] → Fnd K H p t
theorem ifs_run {D : Ends} {s0 u2 u6 u7 u8 u9 u10 u11 u12 : Option V} {rp plb pls tp lw lrr pl : Addr} (T : Txt w K mg) (g : BagAt K H b lc) (hP : LPlan K H rp plb pls tp lw lrr p) (dp : Drawn p) (hp : PlantAt K H (.ref pl) p) (hF : Fnd K H p t)
    (k : ∀ v6 v7 v8 v9 v10 v11 H', BX K b lc H H' → D.nx [s0, some (.ref b), u2, some (.ref rp), some (.ref pl), some (.ref t), v6, v7, v8, v9, v10, v11, u12] H') :
    tSeq (tIfS (isT K "safe") (safeT K) tNext) (tIfS (isT K "astray") (astrayT K) tNext) D [s0, some (.ref b), u2, some (.ref rp), some (.ref pl), some (.ref t), u6, u7, u8, u9, u10, u11, u12] H := by
  cases hF with
  | safe ht hx hj =>
    refine isT_safe T rfl ht hx (yes (decide_eq_true rfl) ?_)
    refine safe_run T g hP dp hp hj fun v6 v7 v8 H' x' => ?_
    refine isT_safe T rfl (x'.t _ _ ht) (x'.get (ne_bagI g hx) hx) (noo (decide_eq_false (by decide)) ?_)
    exact k _ _ _ _ _ _ _ x'
  | astray ht hx hm hws hz hj =>
    refine isT_astray T rfl ht hx (noo (decide_eq_false (by decide)) ?_)
    refine isT_astray T rfl ht hx (yes (decide_eq_true rfl) ?_)
    exact astray_run T g hP dp hp ht hx hm hws hz hj k
  | too ht =>
    refine isT_too rfl ht (noo rfl ?_)
    refine isT_too rfl ht (noo rfl ?_)
    exact k _ _ _ _ _ _ _ (BX.refl g)
end
end Ow
set_option Elab.async false
set_option linter.all false
set_option maxRecDepth 100000
set_option maxHeartbeats 8000000
namespace Ow
open PySem PySem.Spec PyProof.Rows L2
section
variable {P : Program} {w : World} {K : PySem.W.Frag} {mg : Str → Option Value} {base : Heap}
/-! ### the law -/
def lamQ : Str := (("law" : Str) ++ ".<locals>.") ++ "<lambda>"
abbrev lawN : List Str := ["_law_script", "_law_bag_here", "_law_turn", "_law_plan", "_law_plant", "_law_found", "_law_run", "_law_made", "_law_deed", "_law_flow", "_law_label", "_law_record", "_law_row"]
def sp_law (K : PySem.W.Frag) : Sp := fun vs H Q _ => ∃ (a : Addr) (xs : List Int), vs = [.ref a] ∧ SqL K H a (xs.map V.int) ∧ H (lawTab K).2 = some (.tbl #[]) ∧ ∀ H', Q (.bl true) H'
theorem Txt.b__law_got (T : Txt w K mg) : Binds K (fdA K (He.ga K "_law_got")) ["_law_ask"] [] := T.F__law_got.binds fun _ _ _ _ _ _ us hl => match us, hl with | [_], _ => rfl
theorem Txt.pw_Safe (T : Txt w K mg) : PropOf K (He.ga K "Safe") "word" (He.ma K (He.ga K "Safe") "word") (He5.wf K (He.ga K "Verdict") "property" "word") := by
  have e : He5.wf K (He.ga K "Safe") "property" "word" = He5.wf K (He.ga K "Verdict") "property" "word" := of_decide_eq_true (T.ex 10)
  rw [← e]
  exact T.p_Safe_word
theorem Txt.pw_Astray (T : Txt w K mg) : PropOf K (He.ga K "Astray") "word" (He.ma K (He.ga K "Astray") "word") (He5.wf K (He.ga K "Verdict") "property" "word") := by
  have e : He5.wf K (He.ga K "Astray") "property" "word" = He5.wf K (He.ga K "Verdict") "property" "word" := of_decide_eq_true (T.ex 11)
  rw [← e]
  exact T.p_Astray_word
theorem sc_law : FnScope ["_law_script", "_law_bag_here", "_law_turn", "_law_plan", "_law_plant", "_law_found", "_law_run", "_law_made", "_law_deed", "_law_flow", "_law_label", "_law_record", "_law_row"] ["_law_script"] (defScope s_law) := ⟨rfl, rfl, rfl, by decide +kernel, rfl, by decide +kernel, by decide +kernel⟩
theorem law_pss (T : Txt w K mg) (TB : LamX.TabB base mg (lawTab K).1 (lawTab K).2) {A : Around} {outer : List Env} {s : Shared} {H : Hp} {vs : List V} {Q : VK} {E : XK} (hr : Room 12 (A.deeper (envOfC "law" (defScope s_law) s.heap.objs.size (He.ga K "law") (.ref (lawTab K).1)))) (h : sp_law K vs H Q E) :
    ∃ t, PSs (cxOf C8.CX0 P w K mg base ["_law_script", "_law_bag_here", "_law_turn", "_law_plan", "_law_plant", "_law_found", "_law_run", "_law_made", "_law_deed", "_law_flow", "_law_label", "_law_record", "_law_row"] "law" (defScope s_law) (He.ga K "law") (.ref (lawTab K).1) A outer s H E).nox (defBody s_law) t ∧ t { nx := fun _ H' => Q .non H', rt := Q } (L2.start ["_law_script", "_law_bag_here", "_law_turn", "_law_plan", "_law_plant", "_law_found", "_law_run", "_law_made", "_law_deed", "_law_flow", "_law_label", "_law_record", "_law_row"] vs) H := by
  obtain ⟨mv, hkb⟩ := kb_judged T
  have hcode : (cxOf C8.CX0 P w K mg base ["_law_script", "_law_bag_here", "_law_turn", "_law_plan", "_law_plant", "_law_found", "_law_run", "_law_made", "_law_deed", "_law_flow", "_law_label", "_law_record", "_law_row"] "law" (defScope s_law) (He.ga K "law") (.ref (lawTab K).1) A outer s H E).nox.env.code = .ref (lawTab K).1 := rfl
  refine ⟨_, (pss_cons (ps_set (i := 1) sc_law.nd rfl (by first | exact .inl rfl | exact .inr rfl) (pe_call (ok__law_bag T) (hr.mono (by decide)) (by rfl) T.g__law_bag T.D__law_bag.kp T.b__law_bag .nil pass0 (pa_cons (pv 0) pa_nil)))
      (pss_cons (ps_for PassesOwn.never rfl (pi_range1 (by rfl) T.f_range (pa_cons pe_int pa_nil)) (pg_name (i := 2) sc_law.nd rfl (by first | exact .inl rfl | exact .inr rfl)) (pss_cons (ps_set (i := 3) sc_law.nd rfl (by first | exact .inl rfl | exact .inr rfl) (pe_call (ok__law_small T) (hr.mono (by decide)) (by rfl) T.g__law_small T.D__law_small.kp T.b__law_small .nil pass0 (pa_cons (pv 1) pa_nil)))
        (pss_cons (ps_set (i := 4) sc_law.nd rfl (by first | exact .inl rfl | exact .inr rfl) (pe_call (ok__law_made_plant T) (hr.mono (by decide)) (by rfl) T.g__law_made_plant T.D__law_made_plant.kp T.b__law_made_plant .nil pass0 (pa_cons (pv 3) pa_nil)))
        (pss_cons (ps_set (i := 5) sc_law.nd rfl (by first | exact .inl rfl | exact .inr rfl) (pe_got (Tb := [((lawTab K).2, lamQ)]) T T.D__law_got T.b__law_got TB hcode (List.mem_singleton.mpr rfl) (fun _ h _ => by rw [List.mem_singleton.mp h]; rfl) (hr.mono (by decide)) (LamX.lamS_by (sc := defScope s_law) (by decide +kernel)) rfl (fun _ _ _ _ _ => rfl) (fun A outer s H E f c' hr2 => pe_callN (CX := L2.CX P w) (E := E) (ok_judged T) hr2 rfl T.g_judged T.D_judged.kp hkb (passes_call (takes_of rfl rfl rfl rfl) (fun _ _ _ _ h => h)) (pa_cons (pv 4) pa_nil) (pk_cons pe_int pk_nil))))
        (pss_cons (ps_if (PW.pt (pw_and (pt_cmpR op_eq (pe_ix ix_tup (pv 5) pe_int (fun _ _ => rfl)) pe_str (nomark _)) (pw_and1 (pt_cmpR op_eq (pe_alt (pe_prop (pe_ix ix_tup (pv 5) pe_int (fun _ _ => rfl)) T.cl_Safe T.pw_Safe (ok_Verdict_word T) (hr.mono (show 2 ≤ 12 by decide)) T.b_Verdict_word .nil pass0 rfl) (pe_prop (pe_ix ix_tup (pv 5) pe_int (fun _ _ => rfl)) T.cl_Astray T.pw_Astray (ok_Verdict_word T) (hr.mono (show 2 ≤ 12 by decide)) T.b_Verdict_word .nil pass0 rfl)) pe_str (nomark _))))) (pss_cons (ps_par (i := 6) (j := 7) rfl sc_law.nd rfl rfl (by decide) rfl rfl (pa_cons (pe_call (ok__law_begun T) (hr.mono (by decide)) (by rfl) T.g__law_begun T.D__law_begun.kp T.b__law_begun .nil pass0 (pa_cons (pv 3) pa_nil)) (pa_cons (pe_make T.mk_Run (ok_Run___init__ T) (hr.mono (by decide)) (by rfl) T.g_Run T.b_Run___init__ .nil pass0 (pa_cons (pv 4) pa_nil)) pa_nil)) (by rfl))
          (pss_cons (ps_for PassesOwn.never rfl (pi_list (pe_call (ok__law_walk T) (hr.mono (by decide)) (by rfl) T.g__law_walk T.D__law_walk.kp T.b__law_walk .nil pass0 (pa_cons (pv 1) (pa_cons (pv 3) (pa_cons (pv 6) (pa_cons pe_int pa_nil)))))) (pg_name (i := 8) sc_law.nd rfl (by first | exact .inl rfl | exact .inr rfl)) (pss_one (ps_expr (pe_methS (pv 7) T.cl_Run T.m_Run_do (okS_Run_do_1 T) (hr.mono (by decide)) pass0 (pa_cons (pv 8) pa_nil) (pk_cons (pe_op op_add pe_int (pe_call (ok__law_draw T) (hr.mono (by decide)) (by rfl) T.g__law_draw T.D__law_draw.kp T.b__law_draw .nil pass0 (pa_cons (pv 1) (pa_cons pe_int pa_nil)))) pk_nil)))))
          (pss_one (ps_if (pt_cmpR (op_neD hr.units) (pe_meth0 (pv 7) T.cl_Run T.m_Run_astray (ok_Run_astray T) (hr.mono (by decide)) T.b_Run_astray .nil pass0) (pe_lst pa_nil) (nomark _)) (pss_one (ps_ret pe_bl)) pss_nil)))) pss_nil)
        (pss_one (ps_if (PW.pt (pw_and (pt_cmpR op_eq (pe_ix ix_tup (pv 5) pe_int (fun _ _ => rfl)) pe_str (nomark _)) (pw_and1 (pt_cmpR op_eq (pe_alt (pe_prop (pe_ix ix_tup (pv 5) pe_int (fun _ _ => rfl)) T.cl_Safe T.pw_Safe (ok_Verdict_word T) (hr.mono (show 2 ≤ 12 by decide)) T.b_Verdict_word .nil pass0 rfl) (pe_prop (pe_ix ix_tup (pv 5) pe_int (fun _ _ => rfl)) T.cl_Astray T.pw_Astray (ok_Verdict_word T) (hr.mono (show 2 ≤ 12 by decide)) T.b_Verdict_word .nil pass0 rfl)) pe_str (nomark _))))) (pss_cons (ps_par3 (i := 9) (j := 6) (l := 7) rfl sc_law.nd rfl rfl rfl (by decide) (by decide) (by decide) rfl rfl rfl (pa_cons (pe_meth0 (pe_ix ix_tup (pv 5) pe_int (fun _ _ => rfl)) T.cl_Astray T.m_Astray_flow (ok_Astray_flow T) (hr.mono (by decide)) T.b_Astray_flow .nil pass0) (pa_cons (pe_call (ok__law_begun T) (hr.mono (by decide)) (by rfl) T.g__law_begun T.D__law_begun.kp T.b__law_begun .nil pass0 (pa_cons (pv 3) pa_nil)) (pa_cons (pe_make T.mk_Run (ok_Run___init__ T) (hr.mono (by decide)) (by rfl) T.g_Run T.b_Run___init__ .nil pass0 (pa_cons (pv 4) pa_nil)) pa_nil))) (by rfl))
          (pss_cons (ps_for PassesOwn.never rfl (pi_list (pv 9)) (pg_name (i := 8) sc_law.nd rfl (by first | exact .inl rfl | exact .inr rfl)) (pss_one (ps_expr (pe_call (ok__law_do T) (hr.mono (by decide)) (by rfl) T.g__law_do T.D__law_do.kp T.b__law_do .nil pass0 (pa_cons (pv 3) (pa_cons (pv 6) (pa_cons (pv 8) pa_nil)))))))
          (pss_cons (ps_asg (pe_ix ix_list (pe_dget (hu_of hr) (pv 6) pe_str (fun _ _ => rfl)) (pe_un un_neg pe_int) (fun _ _ => rfl)) (pg_tup rfl (pgs_cons (pg_name (i := 10) sc_law.nd rfl (by first | exact .inl rfl | exact .inr rfl)) (pgs_cons (pg_name (i := 11) sc_law.nd rfl (by first | exact .inl rfl | exact .inr rfl)) pgs_nil))))
          (pss_cons (ps_for PassesOwn.never rfl (pi_list (pv 9)) (pg_name (i := 8) sc_law.nd rfl (by first | exact .inl rfl | exact .inr rfl)) (pss_one (ps_expr (pe_methS (pv 7) T.cl_Run T.m_Run_do (okS_Run_do_1 T) (hr.mono (by decide)) pass0 (pa_cons (pv 8) pa_nil) (pk_cons (pe_ifExp (PW.pt (pw_and (pt_cmpR op_eq (pe_ix ix_tup (pv 8) pe_int (fun _ _ => rfl)) pe_str (nomark _)) (pw_and1 (pt_cmpR op_eq (pe_callB (cr_lenO T.m_Run___len__ (ok_Run___len__ T) (hr.mono (by decide)) T.b_Run___len__ pass0) (by rfl) T.f_len (by decide +kernel) (pa_cons (pv 7) pa_nil)) (pv 11) (nomark _))))) pe_int pe_int) pk_nil)))))
          (pss_cons (ps_if (PW.pt (pw_or (pt_not (pt_val (pe_call (ok__law_same_1 T) (hr.mono (by decide)) (by rfl) T.g__law_same T.D__law_same.kp T.b__law_same .nil pass0 (pa_cons (pe_meth0 (pv 7) T.cl_Run T.m_Run_astray (ok_Run_astray T) (hr.mono (by decide)) T.b_Run_astray .nil pass0) (pa_cons (pe_lst (pa_cons (pv 10) pa_nil)) pa_nil))))) (pw_or1 (pt_cmpR op_ne (pe_callB (cr_lenK (K := K)) (by rfl) T.f_len (by decide +kernel) (pa_cons (pv 9) pa_nil)) (pe_op op_add (pe_callB (cr_lenK (K := K)) (by rfl) T.f_len (by decide +kernel) (pa_cons (pe_dget (hu_of hr) (pv 6) pe_str (fun _ _ => rfl)) pa_nil)) (pe_bm PySem.F.plainAttrs_list PySem.F.slot_list_count PySem.F.type_list_count (mt_lcountD hr.units) (pv 9) (pa_cons (pe_tup (pa_cons pe_str pa_nil)) pa_nil))) (nomark _))))) (pss_one (ps_ret pe_bl)) pss_nil)
          (pss_one (ps_if (pt_not (pt_val (pe_call (ok__law_same_1 T) (hr.mono (by decide)) (by rfl) T.g__law_same T.D__law_same.kp T.b__law_same .nil pass0 (pa_cons (pe_ix ix_list (pe_lcG (own := [("_law_row", 12)]) rfl (pgen2_meth0 (pv 7) T.cl_Run T.m_Run_sendings (hr.mono (by decide)) (gen_sendings T)) (blkOk_by (N := ["_law_script", "_law_bag_here", "_law_turn", "_law_plan", "_law_plant", "_law_found", "_law_run", "_law_made", "_law_deed", "_law_flow", "_law_label", "_law_record", "_law_row"]) (sc := defScope s_law) (by decide +kernel)) rfl (hr.mono (by decide)) (by decide)) (pe_un un_neg pe_int) (fun _ _ => rfl)) (pa_cons (pe_tup (pa_cons (pv 10) (pa_cons (pv 11) (pa_cons pe_int pa_nil)))) pa_nil))))) (pss_one (ps_ret pe_bl)) pss_nil))))))) pss_nil)))))))
      (pss_one (ps_ret pe_bl)))), ?_⟩
  obtain ⟨a, xs, rfl, ha, htab, k⟩ := h
  refine ⟨_, rfl, a, xs, rfl, ha, fun b lc H1 z1 hb hlc g1 => ?_⟩
  dsimp only [gName]
  refine ⟨2, rfl, by decide, by decide, ?_⟩
  refine for_it walk_range (fun j σ' H' => BagAt K H' b lc ∧ LamX.Tabs [((lawTab K).2, lamQ)] H' ∧ ∃ u2 u3 u4 u5 u6 u7 u8 u9 u10 u11 u12 : Option V, σ' = [some (.ref a), some (.ref b), u2, u3, u4, u5, u6, u7, u8, u9, u10, u11, u12])
    ⟨g1, fun q hq => (by rw [List.mem_singleton.mp hq]; exact LamX.TabS.nil (z1 _ _ htab)), _, _, _, _, _, _, _, _, _, _, _, rfl⟩ (fun _ _ _ _ _ => trivial) ?_ ?_
  · rintro j y σ' H2 H3 hj ⟨g2, tb2, u2, u3, u4, u5, u6, u7, u8, u9, u10, u11, u12, rfl⟩ ⟨rfl, rfl⟩
    refine ⟨_, rfl, b, lc, rfl, g2, fun rp plb pls tp lw lrr p H3 x3 hr3 hP3 dp => ?_⟩
    have tb3 := tabsB tb2 g2 x3.e
    refine ⟨_, rfl, rp, plb, pls, tp, lw, lrr, p, rfl, hP3, dp, fun pl H4 z4 hn4 hp4 => ?_⟩
    have tb4 := tb3.ext z4
    show tSeq (tAsg (LamX.tLam _ _ _) _) _ _ _ H4
    refine seqE (M := fun σ' H' => BagAt K H' b lc ∧ LamX.Tabs [((lawTab K).2, lamQ)] H' ∧ LPlan K H' rp plb pls tp lw lrr p ∧ PlantAt K H' (.ref pl) p ∧ ∃ t, Fnd K H' p t ∧ ∃ v2, σ' = [some (.ref a), some (.ref b), v2, some (.ref rp), some (.ref pl), some (.ref t), u6, u7, u8, u9, u10, u11, u12]) (fun N kN => ?_) ?_
    · refine ⟨tb4, fun H5 e5 tb5 => ?_⟩
      have g5 := (x3.g.mono z4).en e5
      have hP5 := (hP3.mono z4).en e5
      have hp5 := hp4.en e5
      refine ⟨_, rfl, rfl, rfl, pl, p, rfl, hp5, dp.ok, dp.w3, fun x dx m ws H6 z6 hx hm hj => ?_, fun x dx m ws fl H6 z6 hx hm hws hz hj => ?_, fun d H6 z6 hd => ?_⟩
      · refine ⟨ok_le (by simp), fun t ht => ?_⟩
        have z7 := Same.up (o := .tup [V.str "told", V.ref x]) ht
        have z57 := z6.trans z7
        exact kN _ _ ⟨g5.mono z57, tb5.ext z57, hP5.mono z57, hp5.mono z57, t, .safe newT (z7 _ _ hx) hj, _, rfl⟩
      · refine ⟨ok_le (by simp), fun t ht => ?_⟩
        have z7 := Same.up (o := .tup [V.str "told", V.ref x]) ht
        have z57 := z6.trans z7
        exact kN _ _ ⟨g5.mono z57, tb5.ext z57, hP5.mono z57, hp5.mono z57, t, .astray newT (z7 _ _ hx) (z7 _ _ hm) (hws.imp fun _ _ => DeAt.mono z7) hz hj, _, rfl⟩
      · refine ⟨rfl, d, rfl, hd, fun t rest H7 z7 ht => ?_⟩
        have z57 := z6.trans z7
        exact kN _ _ ⟨g5.mono z57, tb5.ext z57, hP5.mono z57, hp5.mono z57, t, .too (.inl (.inl ht)), _, rfl⟩
    rintro σ5 H5 ⟨g5, tb5, hP5, hp5, t, hF, v2, rfl⟩
    refine ifs_run T g5 hP5 dp hp5 hF fun v6 v7 v8 v9 v10 v11 H6 x6 => ?_
    exact ⟨x6.g, tabsB tb5 g5 x6.e, _, _, _, _, _, _, _, _, _, _, _, rfl⟩
  · rintro σ' H2 _
    exact k H2
end
end Ow
set_option Elab.async false
set_option linter.all false
set_option maxRecDepth 100000
set_option maxHeartbeats 4000000
/-! the law keeps its promise -/
namespace Ow
open PySem PySem.Spec PyProof.Rows L2
section
variable {P : Program} {w : World} {K : PySem.W.Frag} {mg : Str → Option Value} {base : Heap}
theorem ok_law (T : Txt w K mg) (TB : LamX.TabB base mg (lawTab K).1 (lawTab K).2) : FnOk P w K mg base C8.CX0 13 (He.ga K "law") (fdA K (He.ga K "law")) ["_law_script"] (sp_law K) := by
  obtain ⟨oc, od, dV, kV, doc, pm, an, cdv, ct, osl, e, lk, hcd, _, _⟩ := T.D_law.ex
  rw [e] at lk ⊢
  have hc : cdv = .ref (lawTab K).1 := by
    obtain ⟨c, rfl⟩ := He.codeIn_ref hcd
    have z := He.codeOf_eq (K := K) (p := lawP) (c := c) lk rfl
    show Value.ref c = .ref (He.codeOf K lawP)
    rw [z]
  subst hc
  refine L2.fn_of lk hcd sc_law (fun vs H Q E h => ?_) fun A outer s H vs Q E hr h => ?_
  · obtain ⟨a, xs, rfl, _⟩ := h
    rfl
  · obtain ⟨t, ht, hh⟩ := law_pss T TB hr h
    exact ⟨t, ht.nox, hh⟩
theorem law_at {h : Heap} {fa : Addr} (KX : K.In h) (G : h.Ns mainGlobals mg) (c : SaysO w h K) (hmg : mg ("law" : Str) = some (.ref fa)) {n : Nat} : LamX.LawAtS PySem.Challenge.rw_ownchute_k26_whole_verdicts_against_runs w K C8.CX0 13 n "_law_script" mg fa h := by
  have T : Txt w K mg := ⟨h, KX, G, c⟩
  have e := hmg.symm.trans T.g_law
  cases e
  have b := FunD.bindsA (ps := ["_law_script"]) T.D_law fun _ _ _ _ _ _ us hl => match us, hl with | [_], _ => rfl
  refine ⟨fdA K (He.ga K "law"), [lawTab K], sp_law K, fun p hp => ?_, fun p hp => ?_, fun p hp => ?_, fun s u => b s [u] rfl, fun H a ns _ _ hT hS => ⟨a, ns, rfl, hS, hT _ (List.mem_singleton_self _), fun _ => rfl⟩, fun base _ _ TBs => ok_law T (TBs _ (List.mem_singleton_self _))⟩
  · rw [List.mem_singleton.mp hp]
    exact c.empty
  · rw [List.mem_singleton.mp hp]
    exact c.out
  · rw [List.mem_singleton.mp hp]
    exact PySem.W.codeHd_of_K KX c.hd
end
end Ow
set_option Elab.async false
set_option linter.all false
set_option maxRecDepth 100000
set_option maxHeartbeats 0
open PySem PySem.W PySem.Calls PyProof.Rows
theorem PySem.Challenge.cw_ownchute_k26_whole_verdicts_against_runs_holds : PySem.Challenge.rw_ownchute_k26_whole_verdicts_against_runs.Holds := by
  w_on; o_law
  refine HandSHeadRun.head_any (r := OpenLaw.row PySem.Challenge.rw_ownchute_k26_whole_verdicts_against_runs) (q := Ow.Hd.qv) (H := Ow.hookO) (ob := Ow.obO) (M := 30000) (loose := Ow.Hd.names) (d := HandSHeadRun.topDef (OpenLaw.row PySem.Challenge.rw_ownchute_k26_whole_verdicts_against_runs).prog 101) (kwd := []) Ow.obO_eq
    (by kernel_rfl) (fun s => by kernel_rfl) Ow.Hd.run (by kernel_rfl) (by kernel_rfl) (by kernel_rfl) (by rfl) (by first | assumption | decide +kernel) (by decide +kernel) ⟨rfl, rfl, rfl, rfl, rfl, by decide +kernel⟩ ?hw ?hc
  case hw => w_witness2
  case hc =>
    refine LamX.walk_ofTsE (l := PySem.Challenge.rw_ownchute_k26_whole_verdicts_against_runs) (k := 13) (x := "_law_script") (CX := fun w => C8.CX0) rfl (by decide) (by kernel_rfl) ⟨rfl, by decide, by decide⟩ ?F (fun _ _ _ _ _ z => z)
    intro w mg fa h Y G hmg0
    obtain ⟨K, KX, c⟩ := Y
    have hmg : mg ("law" : PySem.Str) = some (.ref fa) := by
      have e : (HandSHeadRun.topDef (OpenLaw.row PySem.Challenge.rw_ownchute_k26_whole_verdicts_against_runs).prog 101).name = ("law" : PySem.Str) := by kernel_rfl
      rw [← e]
      exact hmg0
    exact ⟨K, KX, Ow.law_at KX G c hmg⟩
