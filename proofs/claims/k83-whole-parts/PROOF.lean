import PyProof.Rows.All
import Wide.All
import OpenK.AllK
import Wide.FinOn
import KE.KStateDown
import Lean
import HandS.ForMost
import HandS.Exc
import HandS.TryOnly
import HandS.ExcOwn
import HandS.WordsExc
import HandS.Defaults
import HandS.More
import HandS.Codes
import HandS.IsInst
import HandS.ClsMeth
import HandS.HeadHook1
import HandS.HeadHook2
import HandS.HeadHook3
import HandS.HeadNt
import HandS.Head0
import HandS.Head1
import HandS.Head2
import HandS.HeadEnd
import HandS.Strs
import HandS.StrMore
import HandS.Star
import HandS.Flow
import HandS.FStr
import HandS.DictComp
import HandS.TupAny
import HandS.CallLocal
import HandS.Walk
import KE.KCallOwn
import PyProof.ReprHeadsTuple
import HandS.SetKeys
import KE.KDictKeyed
import KE.KDictWalk
import KE.KTupTabMore
import KE.KDictDisplayH
import HandS.Sort
import HandS.SortOrd
import KE.KDictSum
import KE.SortData
import HandS.NoneIn
import HandS.Deep
import HandS.Style
import HandS.FStrTup
import HandS.RaiseMore
import PySem.Challenge.RW_ledmarks_k83_whole_parts_that_are_kept
set_option Elab.async false
set_option linter.all false
set_option maxRecDepth 100000
set_option maxHeartbeats 4000000
/-! Ledmarks, law k83: the text by places, and what the walk asks of the top's heap. -/
namespace Lm
open PySem PySem.Spec PyProof.Rows L2
def top (i : Nat) : Stmt := PySem.Challenge.pw_ledmarks_k83_whole_parts_that_are_kept.main.body.getD i (.Pass ⟨0, 0, 0, 0⟩)
abbrev st_is_name : Stmt := top 14
abbrev st_is_sequence : Stmt := top 15
abbrev st_is_word : Stmt := top 16
abbrev st_are_unlike : Stmt := top 17
abbrev st_is_old_mark : Stmt := top 21
abbrev st_part_of : Stmt := top 22
abbrev st_are_tests : Stmt := top 23
abbrev st_names_among : Stmt := top 24
abbrev st_Row_read : Stmt := inClass (top 25) 0
abbrev st_Run_init : Stmt := inClass (top 26) 0
abbrev st_Run_str : Stmt := inClass (top 26) 1
abbrev st_Lead_init : Stmt := inClass (top 27) 0
abbrev st_Lead_str : Stmt := inClass (top 27) 1
abbrev st_Join_init : Stmt := inClass (top 28) 0
abbrev st_Join_str : Stmt := inClass (top 28) 1
abbrev st_row_in : Stmt := top 29
abbrev st_Single_init : Stmt := inClass (top 32) 0
abbrev st_Single_machine_steps : Stmt := inClass (top 32) 1
abbrev st_Single_led : Stmt := inClass (top 32) 2
abbrev st_Single_joined : Stmt := inClass (top 32) 3
abbrev st_machine_elders : Stmt := top 33
abbrev st_Ways_init : Stmt := inClass (top 34) 0
abbrev st_Ways_edited : Stmt := inClass (top 34) 1
abbrev st_Ways_heard : Stmt := inClass (top 34) 2
abbrev st_are_names : Stmt := top 37
abbrev st_are_parts : Stmt := top 38
abbrev st_fault_of : Stmt := top 39
abbrev st_holds : Stmt := top 40
abbrev st_heeding_row : Stmt := top 41
abbrev st_words_behind : Stmt := top 42
abbrev st_Tool_init : Stmt := inClass (top 43) 0
abbrev st_Tool_read : Stmt := inClass (top 43) 1
abbrev st_Tool_need_mark : Stmt := inClass (top 43) 2
abbrev st_Tool_is_told : Stmt := inClass (top 43) 3
abbrev st_Tool_ran : Stmt := inClass (top 43) 4
abbrev st_Tool_led : Stmt := inClass (top 43) 5
abbrev st_Tool_joined : Stmt := inClass (top 43) 6
abbrev st_Tool_keeps : Stmt := inClass (top 43) 7
abbrev st_Tool_need_row : Stmt := inClass (top 43) 8
abbrev st_Tool_but : Stmt := inClass (top 43) 9
abbrev st_Tool_without : Stmt := inClass (top 43) 10
abbrev st_Tool_heeding : Stmt := inClass (top 43) 11
abbrev st_Tool_len : Stmt := inClass (top 43) 12
abbrev st_Tool_eq : Stmt := inClass (top 43) 15
abbrev st_Tool_str : Stmt := inClass (top 43) 16
abbrev st_is_row : Stmt := top 44
abbrev st_is_fit : Stmt := top 45
abbrev st_fault_in : Stmt := top 46
abbrev st_Meeting_init : Stmt := inClass (top 48) 0
abbrev st_falls : Stmt := top 49
abbrev st_disordering : Stmt := top 50
abbrev st_doubling : Stmt := top 51
abbrev st_met_at : Stmt := top 52
abbrev st_least_meeting : Stmt := top 53
abbrev st_need_fault : Stmt := top 55
abbrev st_faults : Stmt := top 56
abbrev st_lists : Stmt := top 57
abbrev st_need_all : Stmt := top 59
abbrev st_happening : Stmt := top 60
abbrev st_choices : Stmt := top 61
abbrev st_least_parts : Stmt := top 62
abbrev st_needless : Stmt := top 63
abbrev st_repairs : Stmt := top 64
abbrev st_paper : Stmt := top 66
abbrev st_is_entry : Stmt := top 67
abbrev st_are_entries : Stmt := top 68
abbrev st_Told_init : Stmt := inClass (top 69) 0
abbrev st_Told_is_closed : Stmt := inClass (top 69) 1
abbrev st_paper_holds : Stmt := top 70
abbrev st_law_deal : Stmt := top 72
abbrev st_law_draw : Stmt := top 73
abbrev st_law_pick : Stmt := top 74
abbrev st_law_mixed : Stmt := top 75
abbrev st_law_words : Stmt := top 76
abbrev st_law_tool : Stmt := top 77
abbrev st_law_tool_text : Stmt := top 78
abbrev st_law_met : Stmt := top 79
abbrev st_law : Stmt := top 80
def d_is_name : He5.DefA := ⟨fun K => He.ga K "is_name", "is_name", "is_name", defArgs st_is_name, defBody st_is_name, defScope st_is_name, [], []⟩
def d_is_sequence : He5.DefA := ⟨fun K => He.ga K "is_sequence", "is_sequence", "is_sequence", defArgs st_is_sequence, defBody st_is_sequence, defScope st_is_sequence, [], []⟩
def d_is_word : He5.DefA := ⟨fun K => He.ga K "is_word", "is_word", "is_word", defArgs st_is_word, defBody st_is_word, defScope st_is_word, [], []⟩
def d_are_unlike : He5.DefA := ⟨fun K => He.ga K "are_unlike", "are_unlike", "are_unlike", defArgs st_are_unlike, defBody st_are_unlike, defScope st_are_unlike, [], []⟩
def d_is_old_mark : He5.DefA := ⟨fun K => He.ga K "is_old_mark", "is_old_mark", "is_old_mark", defArgs st_is_old_mark, defBody st_is_old_mark, defScope st_is_old_mark, [], []⟩
def d_part_of : He5.DefA := ⟨fun K => He.ga K "part_of", "part_of", "part_of", defArgs st_part_of, defBody st_part_of, defScope st_part_of, [], []⟩
def d_are_tests : He5.DefA := ⟨fun K => He.ga K "are_tests", "are_tests", "are_tests", defArgs st_are_tests, defBody st_are_tests, defScope st_are_tests, [], []⟩
def d_names_among : He5.DefA := ⟨fun K => He.ga K "names_among", "names_among", "names_among", defArgs st_names_among, defBody st_names_among, defScope st_names_among, [], []⟩
def d_Row_read : He5.DefA := ⟨fun K => He5.wf K (He.ga K "Row") "classmethod" "read", "read", "Row.read", defArgs st_Row_read, defBody st_Row_read, defScope st_Row_read, [], []⟩
def d_Run_init : He5.DefA := ⟨fun K => He.ma K (He.ga K "Run") "__init__", "__init__", "Run.__init__", defArgs st_Run_init, defBody st_Run_init, defScope st_Run_init, [], []⟩
def d_Run_str : He5.DefA := ⟨fun K => He.ma K (He.ga K "Run") "__str__", "__str__", "Run.__str__", defArgs st_Run_str, defBody st_Run_str, defScope st_Run_str, [], []⟩
def d_Lead_init : He5.DefA := ⟨fun K => He.ma K (He.ga K "Lead") "__init__", "__init__", "Lead.__init__", defArgs st_Lead_init, defBody st_Lead_init, defScope st_Lead_init, [], []⟩
def d_Lead_str : He5.DefA := ⟨fun K => He.ma K (He.ga K "Lead") "__str__", "__str__", "Lead.__str__", defArgs st_Lead_str, defBody st_Lead_str, defScope st_Lead_str, [], []⟩
def d_Join_init : He5.DefA := ⟨fun K => He.ma K (He.ga K "Join") "__init__", "__init__", "Join.__init__", defArgs st_Join_init, defBody st_Join_init, defScope st_Join_init, [], []⟩
def d_Join_str : He5.DefA := ⟨fun K => He.ma K (He.ga K "Join") "__str__", "__str__", "Join.__str__", defArgs st_Join_str, defBody st_Join_str, defScope st_Join_str, [], []⟩
def d_row_in : He5.DefA := ⟨fun K => He.ga K "row_in", "row_in", "row_in", defArgs st_row_in, defBody st_row_in, defScope st_row_in, [], []⟩
def d_Single_init : He5.DefA := ⟨fun K => He.ma K (He.ga K "Single") "__init__", "__init__", "Single.__init__", defArgs st_Single_init, defBody st_Single_init, defScope st_Single_init, [], []⟩
def d_Single_machine_steps : He5.DefA := ⟨fun K => He.ma K (He.ga K "Single") "machine_steps", "machine_steps", "Single.machine_steps", defArgs st_Single_machine_steps, defBody st_Single_machine_steps, defScope st_Single_machine_steps, [], []⟩
def d_Single_led : He5.DefA := ⟨fun K => He.ma K (He.ga K "Single") "led", "led", "Single.led", defArgs st_Single_led, defBody st_Single_led, defScope st_Single_led, [], []⟩
def d_Single_joined : He5.DefA := ⟨fun K => He.ma K (He.ga K "Single") "joined", "joined", "Single.joined", defArgs st_Single_joined, defBody st_Single_joined, defScope st_Single_joined, [], []⟩
def d_machine_elders : He5.DefA := ⟨fun K => He.ga K "machine_elders", "machine_elders", "machine_elders", defArgs st_machine_elders, defBody st_machine_elders, defScope st_machine_elders, [], []⟩
def d_Ways_init : He5.DefA := ⟨fun K => He.ma K (He.ga K "Ways") "__init__", "__init__", "Ways.__init__", defArgs st_Ways_init, defBody st_Ways_init, defScope st_Ways_init, [], []⟩
def d_Ways_edited : He5.DefA := ⟨fun K => He.ma K (He.ga K "Ways") "edited", "edited", "Ways.edited", defArgs st_Ways_edited, defBody st_Ways_edited, defScope st_Ways_edited, [], []⟩
def d_Ways_heard : He5.DefA := ⟨fun K => He.ma K (He.ga K "Ways") "heard", "heard", "Ways.heard", defArgs st_Ways_heard, defBody st_Ways_heard, defScope st_Ways_heard, [], []⟩
def d_are_names : He5.DefA := ⟨fun K => He.ga K "are_names", "are_names", "are_names", defArgs st_are_names, defBody st_are_names, defScope st_are_names, [], []⟩
def d_are_parts : He5.DefA := ⟨fun K => He.ga K "are_parts", "are_parts", "are_parts", defArgs st_are_parts, defBody st_are_parts, defScope st_are_parts, [], []⟩
def d_fault_of : He5.DefA := ⟨fun K => He.ga K "fault_of", "fault_of", "fault_of", defArgs st_fault_of, defBody st_fault_of, defScope st_fault_of, [], []⟩
def d_holds : He5.DefA := ⟨fun K => He.ga K "holds", "holds", "holds", defArgs st_holds, defBody st_holds, defScope st_holds, [], []⟩
def d_heeding_row : He5.DefA := ⟨fun K => He.ga K "heeding_row", "heeding_row", "heeding_row", defArgs st_heeding_row, defBody st_heeding_row, defScope st_heeding_row, [], []⟩
def d_words_behind : He5.DefA := ⟨fun K => He.ga K "words_behind", "words_behind", "words_behind", defArgs st_words_behind, defBody st_words_behind, defScope st_words_behind, [], []⟩
def d_Tool_init : He5.DefA := ⟨fun K => He.ma K (He.ga K "Tool") "__init__", "__init__", "Tool.__init__", defArgs st_Tool_init, defBody st_Tool_init, defScope st_Tool_init, [], []⟩
def d_Tool_read : He5.DefA := ⟨fun K => He5.wf K (He.ga K "Tool") "classmethod" "read", "read", "Tool.read", defArgs st_Tool_read, defBody st_Tool_read, defScope st_Tool_read, [], []⟩
def d_Tool_need_mark : He5.DefA := ⟨fun K => He.ma K (He.ga K "Tool") "need_mark", "need_mark", "Tool.need_mark", defArgs st_Tool_need_mark, defBody st_Tool_need_mark, defScope st_Tool_need_mark, [], []⟩
def d_Tool_is_told : He5.DefA := ⟨fun K => He.ma K (He.ga K "Tool") "is_told", "is_told", "Tool.is_told", defArgs st_Tool_is_told, defBody st_Tool_is_told, defScope st_Tool_is_told, [], []⟩
def d_Tool_ran : He5.DefA := ⟨fun K => He.ma K (He.ga K "Tool") "ran", "ran", "Tool.ran", defArgs st_Tool_ran, defBody st_Tool_ran, defScope st_Tool_ran, [], []⟩
def d_Tool_led : He5.DefA := ⟨fun K => He.ma K (He.ga K "Tool") "led", "led", "Tool.led", defArgs st_Tool_led, defBody st_Tool_led, defScope st_Tool_led, [], []⟩
def d_Tool_joined : He5.DefA := ⟨fun K => He.ma K (He.ga K "Tool") "joined", "joined", "Tool.joined", defArgs st_Tool_joined, defBody st_Tool_joined, defScope st_Tool_joined, [], []⟩
def d_Tool_keeps : He5.DefA := ⟨fun K => He.ma K (He.ga K "Tool") "keeps", "keeps", "Tool.keeps", defArgs st_Tool_keeps, defBody st_Tool_keeps, defScope st_Tool_keeps, [], []⟩
def d_Tool_need_row : He5.DefA := ⟨fun K => He.ma K (He.ga K "Tool") "need_row", "need_row", "Tool.need_row", defArgs st_Tool_need_row, defBody st_Tool_need_row, defScope st_Tool_need_row, [], []⟩
def d_Tool_but : He5.DefA := ⟨fun K => He.ma K (He.ga K "Tool") "but", "but", "Tool.but", defArgs st_Tool_but, defBody st_Tool_but, defScope st_Tool_but, [], []⟩
def d_Tool_without : He5.DefA := ⟨fun K => He.ma K (He.ga K "Tool") "without", "without", "Tool.without", defArgs st_Tool_without, defBody st_Tool_without, defScope st_Tool_without, [], []⟩
def d_Tool_heeding : He5.DefA := ⟨fun K => He.ma K (He.ga K "Tool") "heeding", "heeding", "Tool.heeding", defArgs st_Tool_heeding, defBody st_Tool_heeding, defScope st_Tool_heeding, [], []⟩
def d_Tool_len : He5.DefA := ⟨fun K => He.ma K (He.ga K "Tool") "__len__", "__len__", "Tool.__len__", defArgs st_Tool_len, defBody st_Tool_len, defScope st_Tool_len, [], []⟩
def d_Tool_eq : He5.DefA := ⟨fun K => He.ma K (He.ga K "Tool") "__eq__", "__eq__", "Tool.__eq__", defArgs st_Tool_eq, defBody st_Tool_eq, defScope st_Tool_eq, [], []⟩
def d_Tool_str : He5.DefA := ⟨fun K => He.ma K (He.ga K "Tool") "__str__", "__str__", "Tool.__str__", defArgs st_Tool_str, defBody st_Tool_str, defScope st_Tool_str, [], []⟩
def d_is_row : He5.DefA := ⟨fun K => He.ga K "is_row", "is_row", "is_row", defArgs st_is_row, defBody st_is_row, defScope st_is_row, [], []⟩
def d_is_fit : He5.DefA := ⟨fun K => He.ga K "is_fit", "is_fit", "is_fit", defArgs st_is_fit, defBody st_is_fit, defScope st_is_fit, [], []⟩
def d_fault_in : He5.DefA := ⟨fun K => He.ga K "fault_in", "fault_in", "fault_in", defArgs st_fault_in, defBody st_fault_in, defScope st_fault_in, [], []⟩
def d_Meeting_init : He5.DefA := ⟨fun K => He.ma K (He.ga K "Meeting") "__init__", "__init__", "Meeting.__init__", defArgs st_Meeting_init, defBody st_Meeting_init, defScope st_Meeting_init, [], []⟩
def d_falls : He5.DefA := ⟨fun K => He.ga K "falls", "falls", "falls", defArgs st_falls, defBody st_falls, defScope st_falls, [], []⟩
def d_disordering : He5.DefA := ⟨fun K => He.ga K "disordering", "disordering", "disordering", defArgs st_disordering, defBody st_disordering, defScope st_disordering, [], []⟩
def d_doubling : He5.DefA := ⟨fun K => He.ga K "doubling", "doubling", "doubling", defArgs st_doubling, defBody st_doubling, defScope st_doubling, [], []⟩
def d_met_at : He5.DefA := ⟨fun K => He.ga K "met_at", "met_at", "met_at", defArgs st_met_at, defBody st_met_at, defScope st_met_at, [], []⟩
def d_least_meeting : He5.DefA := ⟨fun K => He.ga K "least_meeting", "least_meeting", "least_meeting", defArgs st_least_meeting, defBody st_least_meeting, defScope st_least_meeting, [], []⟩
def d_need_fault : He5.DefA := ⟨fun K => He.ga K "need_fault", "need_fault", "need_fault", defArgs st_need_fault, defBody st_need_fault, defScope st_need_fault, [], []⟩
def d_faults : He5.DefA := ⟨fun K => He.ga K "faults", "faults", "faults", defArgs st_faults, defBody st_faults, defScope st_faults, [], []⟩
def d_lists : He5.DefA := ⟨fun K => He.ga K "lists", "lists", "lists", defArgs st_lists, defBody st_lists, defScope st_lists, [], []⟩
def d_need_all : He5.DefA := ⟨fun K => He.ga K "need_all", "need_all", "need_all", defArgs st_need_all, defBody st_need_all, defScope st_need_all, [], []⟩
def d_happening : He5.DefA := ⟨fun K => He.ga K "happening", "happening", "happening", defArgs st_happening, defBody st_happening, defScope st_happening, [], []⟩
def d_choices : He5.DefA := ⟨fun K => He.ga K "choices", "choices", "choices", defArgs st_choices, defBody st_choices, defScope st_choices, [], []⟩
def d_least_parts : He5.DefA := ⟨fun K => He.ga K "least_parts", "least_parts", "least_parts", defArgs st_least_parts, defBody st_least_parts, defScope st_least_parts, [], []⟩
def d_needless : He5.DefA := ⟨fun K => He.ga K "needless", "needless", "needless", defArgs st_needless, defBody st_needless, defScope st_needless, [], []⟩
def d_repairs : He5.DefA := ⟨fun K => He.ga K "repairs", "repairs", "repairs", defArgs st_repairs, defBody st_repairs, defScope st_repairs, [], []⟩
def d_paper : He5.DefA := ⟨fun K => He.ga K "paper", "paper", "paper", defArgs st_paper, defBody st_paper, defScope st_paper, [], []⟩
def d_is_entry : He5.DefA := ⟨fun K => He.ga K "is_entry", "is_entry", "is_entry", defArgs st_is_entry, defBody st_is_entry, defScope st_is_entry, [], []⟩
def d_are_entries : He5.DefA := ⟨fun K => He.ga K "are_entries", "are_entries", "are_entries", defArgs st_are_entries, defBody st_are_entries, defScope st_are_entries, [], []⟩
def d_Told_init : He5.DefA := ⟨fun K => He.ma K (He.ga K "Told") "__init__", "__init__", "Told.__init__", defArgs st_Told_init, defBody st_Told_init, defScope st_Told_init, [], []⟩
def d_Told_is_closed : He5.DefA := ⟨fun K => He.ma K (He.ga K "Told") "is_closed", "is_closed", "Told.is_closed", defArgs st_Told_is_closed, defBody st_Told_is_closed, defScope st_Told_is_closed, [], []⟩
def d_paper_holds : He5.DefA := ⟨fun K => He.ga K "paper_holds", "paper_holds", "paper_holds", defArgs st_paper_holds, defBody st_paper_holds, defScope st_paper_holds, [], []⟩
def d_law_deal : He5.DefA := ⟨fun K => He.ga K "_law_deal", "_law_deal", "_law_deal", defArgs st_law_deal, defBody st_law_deal, defScope st_law_deal, [], []⟩
def d_law_draw : He5.DefA := ⟨fun K => He.ga K "_law_draw", "_law_draw", "_law_draw", defArgs st_law_draw, defBody st_law_draw, defScope st_law_draw, [], []⟩
def d_law_pick : He5.DefA := ⟨fun K => He.ga K "_law_pick", "_law_pick", "_law_pick", defArgs st_law_pick, defBody st_law_pick, defScope st_law_pick, [], []⟩
def d_law_mixed : He5.DefA := ⟨fun K => He.ga K "_law_mixed", "_law_mixed", "_law_mixed", defArgs st_law_mixed, defBody st_law_mixed, defScope st_law_mixed, [], []⟩
def d_law_words : He5.DefA := ⟨fun K => He.ga K "_law_words", "_law_words", "_law_words", defArgs st_law_words, defBody st_law_words, defScope st_law_words, [], []⟩
def d_law_tool : He5.DefA := ⟨fun K => He.ga K "_law_tool", "_law_tool", "_law_tool", defArgs st_law_tool, defBody st_law_tool, defScope st_law_tool, [], []⟩
def d_law_tool_text : He5.DefA := ⟨fun K => He.ga K "_law_tool_text", "_law_tool_text", "_law_tool_text", defArgs st_law_tool_text, defBody st_law_tool_text, defScope st_law_tool_text, [], []⟩
def d_law_met : He5.DefA := ⟨fun K => He.ga K "_law_met", "_law_met", "_law_met", defArgs st_law_met, defBody st_law_met, defScope st_law_met, [], []⟩
def d_law : He5.DefA := ⟨fun K => He.ga K "law", "law", "law", defArgs st_law, defBody st_law, defScope st_law, [], []⟩
def fn : List He5.DefA := [d_is_name, d_is_sequence, d_is_word, d_are_unlike, d_is_old_mark, d_part_of, d_are_tests, d_names_among, d_Row_read, d_Run_init, d_Run_str, d_Lead_init, d_Lead_str, d_Join_init, d_Join_str, d_row_in, d_Single_init, d_Single_machine_steps, d_Single_led, d_Single_joined, d_machine_elders, d_Ways_init, d_Ways_edited, d_Ways_heard, d_are_names, d_are_parts, d_fault_of, d_holds, d_heeding_row, d_words_behind, d_Tool_init, d_Tool_read, d_Tool_need_mark, d_Tool_is_told, d_Tool_ran, d_Tool_led, d_Tool_joined, d_Tool_keeps, d_Tool_need_row, d_Tool_but, d_Tool_without, d_Tool_heeding, d_Tool_len, d_Tool_eq, d_Tool_str, d_is_row, d_is_fit, d_fault_in, d_Meeting_init, d_falls, d_disordering, d_doubling, d_met_at, d_least_meeting, d_need_fault, d_faults, d_lists, d_need_all, d_happening, d_choices, d_least_parts, d_needless, d_repairs, d_paper, d_is_entry, d_are_entries, d_Told_init, d_Told_is_closed, d_paper_holds, d_law_deal, d_law_draw, d_law_pick, d_law_mixed, d_law_words, d_law_tool, d_law_tool_text, d_law_met, d_law]
def fa : List He.Fa := [.glo "MarkError", .glo "InvalidRow", .glo "InvalidTool", .glo "InvalidText", .glo "InvalidFault", .glo "NoRow", .glo "NoMark", .glo "is_name", .glo "is_sequence", .glo "is_word", .glo "are_unlike", .glo "is_old_mark", .glo "part_of", .glo "are_tests", .glo "names_among", .glo "Row", .glo "Run", .glo "Lead", .glo "Join", .glo "row_in", .glo "Single", .glo "machine_elders", .glo "Ways", .glo "are_names", .glo "are_parts", .glo "fault_of", .glo "holds", .glo "heeding_row", .glo "words_behind", .glo "Tool", .glo "is_row", .glo "is_fit", .glo "fault_in", .glo "Meeting", .glo "falls", .glo "disordering", .glo "doubling", .glo "met_at", .glo "least_meeting", .glo "need_fault", .glo "faults", .glo "lists", .glo "need_all", .glo "happening", .glo "choices", .glo "least_parts", .glo "needless", .glo "repairs", .glo "paper", .glo "is_entry", .glo "are_entries", .glo "Told", .glo "paper_holds", .glo "_law_deal", .glo "_law_draw", .glo "_law_pick", .glo "_law_mixed", .glo "_law_words", .glo "_law_tool", .glo "_law_tool_text", .glo "_law_met", .glo "law", .glo "BARRED", .glo "PARTS", .glo "ORDER", .glo "FAULTS", .glo "ANY", .glo "SIDES", .glo "EIGHT", .glo "SENDS", .free "isinstance", .free "len", .free "all", .free "any", .free "range", .free "enumerate", .free "tuple", .free "list", .free "str", .free "int", .free "bool", .free "sorted", .free "repr", .free "min", .free "abs", .free "super", .free "TypeError", .str "SMALL" "abcdefghijklmnopqrstuvwxyz", .cls "Run", .mkr "Run", .noat "Run" "old", .noat "Run" "then", .noat "Run" "names", .cls "Lead", .mkr "Lead", .noat "Lead" "tests", .noat "Lead" "old", .noat "Lead" "then", .noat "Lead" "names", .cls "Join", .mkr "Join", .noat "Join" "here", .noat "Join" "came", .noat "Join" "then", .noat "Join" "names", .cls "Tool", .mkr "Tool", .noat "Tool" "marks", .noat "Tool" "told", .noat "Tool" "parts", .noat "Tool" "clears", .noat "Tool" "rows", .noat "Tool" "blank", .cls "Single", .mkr "Single", .noat "Single" "tool", .noat "Single" "begin", .cls "Ways", .mkr "Ways", .noat "Ways" "steps", .noat "Ways" "machine", .noat "Ways" "coming", .noat "Ways" "hearings", .noat "Ways" "elders", .cls "Meeting", .mkr "Meeting", .noat "Meeting" "hearings", .noat "Meeting" "item", .noat "Meeting" "deeds", .noat "Meeting" "waiting", .cls "Told", .mkr "Told", .noat "Told" "steps", .noat "Told" "machine", .noat "Told" "coming", .noat "Told" "hearings", .meth "Run" "__str__", .meth "Lead" "__str__", .meth "Join" "__str__", .meth "Single" "machine_steps", .meth "Single" "led", .meth "Single" "joined", .meth "Ways" "edited", .meth "Ways" "heard", .meth "Tool" "need_mark", .meth "Tool" "is_told", .meth "Tool" "ran", .meth "Tool" "led", .meth "Tool" "joined", .meth "Tool" "keeps", .meth "Tool" "need_row", .meth "Tool" "but", .meth "Tool" "without", .meth "Tool" "heeding", .meth "Tool" "__len__", .meth "Tool" "__eq__", .meth "Tool" "__str__", .meth "Told" "is_closed"]
/-- an own class whose instances isinstance knows -/
def isiB (K : PySem.W.Frag) (C : Addr) : Bool := He.eqO (PySem.W.findIn K (.ref C) "__class__") (some (some (.builtin "object.__class__"))) && decide (PySem.W.mroIn K C (.type "object") = some true)
def kitK (K : PySem.W.Frag) (x y : Str) (b : Bool) : Bool := decide (PySem.W.kitOne K (.ref (He.ga K x)) (.ref (He.ga K y)) = some b)
/-- a classmethod of a class of the top -/
def cmB (K : PySem.W.Frag) (x m : Str) : Bool := He5.wrapB K (He.ga K x) "classmethod" "classmethod.__get__" m && (PySem.W.readsIn K (He.ga K x) (.type "type") && (PySem.W.fnIn K (He5.wf K (He.ga K x) "classmethod" m) &&
  He.eqO (PySem.W.specialIn K (.ref (He.ga K x)) "__getattribute__") (some (some (.builtin "type.__getattribute__")))))
def stx (l : List Str) : List He.Dv := l.map He.Dv.str
def pats : List (List Bool) := [[false, false, false], [false, false, true], [false, true, false], [false, true, true], [true, false, false], [true, false, true], [true, true, false], [true, true, true]]
/-- a tuple of bools that stands in the written part -/
def bolB (K : PySem.W.Frag) (u : Value) (bs : List Bool) : Bool := match u with
  | .ref a => (match K.lookup a with
    | some ⟨.type c, _, .seq its _, _⟩ => decide (c = "tuple") && (decide (its.size ≤ sizeLine) && He.relAll (bs.map V.bl) its.toList)
    | _ => false)
  | _ => false
def bolsB (K : PySem.W.Frag) : List Value → List (List Bool) → Bool
  | [], [] => true
  | u :: us, b :: bs => bolB K u b && bolsB K us bs
  | _, _ => false
def eightB (K : PySem.W.Frag) : Bool := match K.lookup (He.ga K "EIGHT") with
  | some ⟨.type c, _, .seq its _, _⟩ => decide (c = "tuple") && (decide (its.size ≤ sizeLine) && bolsB K its.toList pats)
  | _ => false
/-- ORDER stands as a plain object -/
def ordB (K : PySem.W.Frag) : Bool := match K.lookup (He.ga K "ORDER") with
  | some ⟨.type c, .none, _, _⟩ => decide (c = "tuple")
  | _ => false
def ck (K : PySem.W.Frag) : Bool :=
  He.tupB K "BARRED" (stx ["and", "any", "came", "here", "not", "own", "to"]) && (He.tupB K "PARTS" (stx ["above", "below", "own"]) && (He.tupB K "ORDER" (stx ["above", "own", "below"]) &&
  (He.tupB K "FAULTS" (stx ["fallen", "false", "missed", "order", "twice"]) && (He.tupB K "ANY" (stx ["any"]) && (He.tupB K "SIDES" (stx ["here", "came"]) && (eightB K &&
  (He.valsB K (He.ga K "SENDS") [("send clear", .bl true), ("send keep", .bl false)] &&
  (cmB K "Row" "read" && (cmB K "Tool" "read" &&
  (isiB K (He.ga K "Run") && (isiB K (He.ga K "Lead") && (isiB K (He.ga K "Join") && (isiB K (He.ga K "Tool") &&
  (He.eqO (PySem.W.specialIn K (.builtin "object.__class__") "__get__") (some (some (.builtin "getset_descriptor.__get__"))) && (decide (PySem.W.takesIn K (.builtin "object.__class__") = some true) &&
  (kitK K "Run" "Run" true && (kitK K "Run" "Lead" false && (kitK K "Run" "Join" false && (kitK K "Run" "Row" true &&
  (kitK K "Lead" "Run" false && (kitK K "Lead" "Lead" true && (kitK K "Lead" "Join" false && (kitK K "Lead" "Row" true &&
  (kitK K "Join" "Run" false && (kitK K "Join" "Lead" false && (kitK K "Join" "Join" true && (kitK K "Join" "Row" true &&
  (kitK K "Tool" "Tool" true && (He.eqO (PySem.W.findIn K (.ref (He.ga K "Tool")) "__ne__") (some (some (.builtin "object.__ne__"))) &&
  (PySem.W.keepIn K (.ref (He.ga K "Tool")) && ordB K))))))))))))))))))))))))))))))
/-! ### the hook -/
def sKeys : List Str := ["send clear", "send keep"]
abbrev AlL : Type := He.AlD × Option (List (Option (Str × Int)))
def obsL (K : PySem.W.Frag) : AlL := ((ck K && ((fa.all fun f => f.ok K) && fn.all fun d => d.ok K), fn.map fun d => He5.fnA K (d.at_ K)), He.dicW K (He.ga K "SENDS"))
def valL (w : World) : AlL := ((true, fn.map He5.DefA.val), some (He.keysIn w.params sKeys))
def Says (w : World) (K : PySem.W.Frag) : Prop := obsL K = valL w
/-- the addresses that the module's names reach in n steps, each once: what is seen is kept as the bits of a number -/
def frN {α : Type} (n : Nat) (k : Nat → α) : α := match n with
  | 0 => k 0
  | m + 1 => k (m + 1)
def addNew {α : Type} : List Addr → Nat → List Addr → (Nat → List Addr → α) → α
  | [], seen, out, k => k seen out
  | a :: r, seen, out, k => match Nat.testBit seen a with
    | true => addNew r seen out k
    | false => frN (seen ||| (1 <<< a)) fun s => addNew r s (a :: out) k
def collect {α : Type} (g : Addr → Option Obj) : List Addr → Nat → List Addr → (Nat → List Addr → α) → α
  | [], seen, out, k => k seen out
  | a :: r, seen, out, k => match g a with
    | some o => addNew (He.refsD o) seen out fun s o2 => collect g r s o2 k
    | none => collect g r seen out k
def rounds (g : Addr → Option Obj) : Nat → List Addr → Nat → List Addr → List Addr
  | 0, fr, _, acc => acc ++ fr
  | n + 1, fr, seen, acc => collect g fr seen [] fun s out => rounds g n out s (acc ++ fr)
def asB (g : Addr → Option Obj) (n : Nat) : List Addr := rounds g n [mainGlobals] (1 <<< mainGlobals) [] ++ [PySem.cStatics]
def obsLG (n : Nat) (g : Addr → Option Obj) : AlL := obsL (He.frG g (asB g n))
def hookL (n : Nat) : PySem.W.Hook where
  α := AlL
  obs := fun s => obsLG n s.heap.get?
  val := fun w => valL w
  says := fun w h => ∃ K : PySem.W.Frag, K.In h ∧ Says w K
  of := fun _ _ e => ⟨_, He.frG_in, e⟩
  keeps := fun _ _ _ ⟨K, hK, c⟩ k => ⟨K, PySem.W.Frag.In.keeps hK k, c⟩
theorem obsLG_eq {n : Nat} {g : Addr → Option Obj} {s : Shared} (h : ∀ a, g a = s.heap.get? a) : obsLG n g = (hookL n).obs s := by
  have e : g = s.heap.get? := funext h
  rw [e] <;> rfl
end Lm
set_option Elab.async false
set_option linter.all false
set_option maxRecDepth 100000
set_option maxHeartbeats 0
namespace Lm
open PySem PySem.Spec PyProof.Rows L2
abbrev R : PySem.W.OpenRow := PySem.W.OpenLaw.row PySem.Challenge.rw_ledmarks_k83_whole_parts_that_are_kept
def obT (s : PySem.W.SharedT) : AlL := obsLG 5 (HandSHeadRun.getT s)
theorem obT_eq (s : PySem.W.SharedT) : obT s = (hookL 5).obs s.abs := obsLG_eq (HandSHeadRun.getT_eq s)
def loose0 : List PySem.Str := ["__name__", "MarkError", "InvalidRow", "InvalidTool", "InvalidText", "InvalidFault", "NoRow", "NoMark", "is_name", "is_sequence", "is_word", "are_unlike", "is_old_mark", "part_of", "are_tests", "names_among", "Row", "Run", "Lead", "Join", "row_in", "Single", "machine_elders", "Ways", "are_names", "are_parts", "fault_of", "holds", "heeding_row", "words_behind"]
def loose1 : List PySem.Str := ["Tool", "is_row", "is_fit", "fault_in", "Meeting", "falls", "disordering", "doubling", "met_at", "least_meeting", "need_fault", "faults", "lists", "need_all", "happening", "choices", "least_parts", "needless", "repairs", "paper", "is_entry", "are_entries", "Told", "paper_holds", "_law_deal", "_law_draw", "_law_pick", "_law_mixed", "_law_words", "_law_tool"]
def loose2 : List PySem.Str := ["_law_tool_text", "_law_met", "SMALL", "BARRED", "PARTS", "ORDER", "FAULTS", "ANY", "SIDES", "EIGHT", "SENDS"]
def loose : List PySem.Str := loose0 ++ loose1 ++ loose2
theorem run_f (w : World) : HandSHeadRun.RunEq R (PySem.W.view R.prog [80]) (hookL 5) obT 9000 loose (w.withFollow "special-get-raises" false) := by
  intro os
  kernel_rfl
theorem run_t (w : World) : HandSHeadRun.RunEq R (PySem.W.view R.prog [80]) (hookL 5) obT 9000 loose (w.withFollow "special-get-raises" true) := by
  intro os
  kernel_rfl
theorem run (w : World) : HandSHeadRun.RunEq R (PySem.W.view R.prog [80]) (hookL 5) obT 9000 loose w :=
  PySem.W.byRow2 "special-get-raises" (P := fun w => HandSHeadRun.RunEq R (PySem.W.view R.prog [80]) (hookL 5) obT 9000 loose w) run_f run_t w
end Lm
set_option Elab.async false
set_option linter.all false
set_option maxRecDepth 100000
set_option maxHeartbeats 4000000
/-! Ledmarks k83: what all walks share. -/
namespace Lm
open PySem PySem.Spec PyProof.Rows L2
/-! ### the facts of the top -/
structure Tx (w : World) (K : PySem.W.Frag) (mg : Str → Option Value) : Prop where
  c : Says w K
  g : ∀ x, (He.Fa.glo x).ok K = true → mg x = some (.ref (He.ga K x))
  f : ∀ x, (He.Fa.free x).ok K = true → mg x = none
  s : ∀ x z, (He.Fa.str x z).ok K = true → ∃ t, mg x = some (.str z t)
theorem Tx.of {w : World} {K : PySem.W.Frag} {h : Heap} {mg : Str → Option Value} (X : K.In h) (G : h.Ns mainGlobals mg) (c : Says w K) : Tx w K mg :=
  ⟨c, fun _ e => He.glo_ok X G e, fun _ e => He.free_ok X G e, fun _ _ e => He.str_ok X G e⟩
section
variable {w : World} {K : PySem.W.Frag} {mg : Str → Option Value}
theorem Says.all3 (c : Says w K) : (ck K && ((fa.all fun f => f.ok K) && fn.all fun d => d.ok K)) = true := congrArg (fun z : AlL => z.1.1) c
theorem Says.chk (c : Says w K) : ck K = true := (He.ba c.all3).1
theorem Says.fact (c : Says w K) (i : Nat) {f : He.Fa} (h : fa[i]? = some f) : f.ok K = true :=
  List.all_eq_true.mp (He.ba (He.ba c.all3).2).1 f (List.mem_of_getElem? h)
theorem Says.dfn (c : Says w K) (i : Nat) {d : He5.DefA} (h : fn[i]? = some d) : ∃ fd, FunD K d.name d.qual d.params d.body d.scope (d.dvs K) (d.kws K) (d.at_ K) fd := by
  have e : fn.map (fun d => He5.fnA K (d.at_ K)) = fn.map He5.DefA.val := congrArg (fun z : AlL => z.1.2) c
  have k2 := List.all_eq_true.mp (He.ba (He.ba c.all3).2).2 d (List.mem_of_getElem? h)
  have e2 : (fn.map fun d => He5.fnA K (d.at_ K))[i]? = (fn.map He5.DefA.val)[i]? := by rw [e]
  rw [List.getElem?_map, List.getElem?_map, h] at e2
  exact He5.DefA.funD (Option.some.inj e2) k2
end
/-! ### defs, methods, makers with their promises -/
section
variable (P : Program) (w : World) (K : PySem.W.Frag) (mg : Str → Option Value) (base : Heap)
/-- the module's def x keeps sp at level k -/
structure FX (k : Nat) (x : Str) (ps : List Str) (sp : Sp) : Prop where
  ex : ∃ f fd, mg x = some (.ref f) ∧ FnOk P w K mg base CX0 k f fd ps sp ∧ PySem.W.keepIn K (.ref f) = true ∧ Binds K fd ps []
/-- the method m of the class at C -/
structure MX (k : Nat) (C : Addr) (m : Str) (ps : List Str) (sp : Sp) : Prop where
  ex : ∃ f fd, Meth K C m f ∧ FnOk P w K mg base CX0 k f fd ps sp ∧ Binds K fd ps []
/-- the class x is made by an __init__ that keeps sp -/
structure CX1 (k : Nat) (x : Str) (ps : List Str) (sp : Sp) : Prop where
  ex : ∃ f fd, mg x = some (.ref (He.ga K x)) ∧ Mk K (He.ga K x) f ∧ FnOk P w K mg base CX0 k f fd ps sp ∧ Binds K fd ps []
/-- the classmethod m of the class x -/
structure KX (k : Nat) (x m : Str) (ps : List Str) (sp : Sp) : Prop where
  ex : ∃ p g, mg x = some (.ref (He.ga K x)) ∧ ClX.CRead K (He.ga K x) (.type "type") ∧ ClX.CMet K (He.ga K x) (.type "type") m p g ∧ FnR P w K mg base CX0 k g sp
end
section
variable {P : Program} {w : World} {K : PySem.W.Frag} {mg : Str → Option Value} {base : Heap} {k : Nat} {x qual : Str} {st : Stmt} {f : Addr} {fd : FuncData} {N ps : List Str} {sp : Sp}
abbrev BindsBy (x qual : Str) (st : Stmt) (ps : List Str) : Prop := ∀ (kV doc pm : Value) (an : Option Addr) (cdv ct : Value) (us : List Value), us.length = ps.length →
  bindArgs (PySem.W.fnOf x qual (defArgs st) (defBody st) (defScope st) .none kV doc pm an cdv ct) ⟨us, []⟩ = pure (ps.zip us)
abbrev BodyOk (P : Program) (w : World) (K : PySem.W.Frag) (mg : Str → Option Value) (base : Heap) (N : List Str) (qual : Str) (st : Stmt) (f : Addr) (k : Nat) (sp : Sp) : Prop :=
  ∀ (cdv : Value) (A : Around) (outer : List Env) (s : Shared) (H : Hp) (vs : List V) (Q : VK) (E : XK), Room k (A.deeper (envOfC qual (defScope st) s.heap.objs.size f cdv)) → sp vs H Q E →
    ∃ t, PSs (cxOf CX0 P w K mg base N qual (defScope st) f cdv A outer s H E).nox (defBody st) t ∧ t { nx := fun _ H' => Q .non H', rt := Q } (start N vs) H
theorem FX.of (F : Fun K x qual st f fd) (hm : mg x = some (.ref f)) (S : FnScope N ps (defScope st)) (hb : BindsBy x qual st ps) (len : ∀ vs H Q E, sp vs H Q E → vs.length = ps.length)
    (body : BodyOk P w K mg base N qual st f k sp) : FX P w K mg base (k + 1) x ps sp :=
  ⟨f, fd, hm, F.ok S len body, F.kp, F.binds hb⟩
theorem MX.of {C : Addr} (F : Fun K x qual st f fd) (hm : Meth K C x f) (S : FnScope N ps (defScope st)) (hb : BindsBy x qual st ps) (len : ∀ vs H Q E, sp vs H Q E → vs.length = ps.length)
    (body : BodyOk P w K mg base N qual st f k sp) : MX P w K mg base (k + 1) C x ps sp :=
  ⟨f, fd, hm, F.ok S len body, F.binds hb⟩
theorem CX1.of {c : Str} (F : Fun K x qual st f fd) (hm : mg c = some (.ref (He.ga K c))) (M : Mk K (He.ga K c) f) (S : FnScope N ps (defScope st)) (hb : BindsBy x qual st ps) (len : ∀ vs H Q E, sp vs H Q E → vs.length = ps.length)
    (body : BodyOk P w K mg base N qual st f k sp) : CX1 P w K mg base (k + 1) c ps sp :=
  ⟨f, fd, hm, M, F.ok S len body, F.binds hb⟩
end
section
variable {X : Cx} {k j : Nat} {x m : Str} {ps : List Str} {sp : Sp} {p pos apos : Pos} {e o : Expr} {es : List Expr} {t : TA} {ta : TE} {C : Addr}
/-- f(e, ..) -/
theorem pc (F : FX X.prog X.w X.K X.mg X.base k x ps sp) (hr : Room j X.A) (ha : PA X (e :: es) t) (hk : k ≤ j := by decide) (hg : Gl X x := by rfl) (hdb : (x == ("__debug__" : Str)) = false := by decide)
    (he : starEach (e :: es) X.env = (false, eval e X.env) :: starEach es X.env := by rfl) (hpl : (backTo pos (starEach es X.env)).any (·.1) = false := by rfl) :
    PE X (.Call (.Name x p) (e :: es) [] pos) (tCall sp [] E0 t) := by
  obtain ⟨f, fd, hm, G, kp, b⟩ := F.ex
  exact pe_call G (hr.mono hk) hg hm kp b .nil pass0 ha hdb he hpl
/-- o.m(e, ..) -/
theorem pm {pl : Sem Bool} (F : MX X.prog X.w X.K X.mg X.base k C m ps sp) (c : Cls X.K C) (hr : Room j X.A) (ho : PE X o ta) (ha : PA X (e :: es) t) (hk : k ≤ j := by decide)
    (hst : starEach (e :: es) X.env = (false, eval e X.env) :: starEach es X.env := by rfl) (hpl : (backTo pos (starEach es X.env)).any (·.1) = false := by rfl)
    (ht : eval (.Call (.Attribute o m apos) (e :: es) [] pos) X.env = (do
      let ov ← eval o X.env
      standAt apos.atName
      let (f, first) ← holding [ov] (getMethod ov m pl)
      callWith pos f first (backTo pos (starEach (e :: es) X.env)) (backToKw pos (keywordEach [] X.env))) := by rfl) :
    PE X (.Call (.Attribute o m apos) (e :: es) [] pos) (tMeth C m sp [] E0 ta t) := by
  obtain ⟨f, fd, hm, G, b⟩ := F.ex
  exact pe_meth (pl := pl) ho c hm G (hr.mono hk) b .nil pass0 ha hst hpl ht
theorem pm0 {pl : Sem Bool} (F : MX X.prog X.w X.K X.mg X.base k C m ps sp) (c : Cls X.K C) (hr : Room j X.A) (ho : PE X o ta) (hk : k ≤ j := by decide)
    (ht : eval (.Call (.Attribute o m apos) [] [] pos) X.env = (do
      let ov ← eval o X.env
      standAt apos.atName
      let (f, first) ← holding [ov] (getMethod ov m pl)
      callWith pos f first (backTo pos (starEach [] X.env)) (backToKw pos (keywordEach [] X.env))) := by rfl) :
    PE X (.Call (.Attribute o m apos) [] [] pos) (tMeth C m sp [] E0 ta tNil) := by
  obtain ⟨f, fd, hm, G, b⟩ := F.ex
  exact pe_meth0 (pl := pl) ho c hm G (hr.mono hk) b .nil pass0 ht
/-- X(e, ..) -/
theorem pk (F : CX1 X.prog X.w X.K X.mg X.base k x ps sp) (hr : Room j X.A) (ha : PA X (e :: es) t) (hk : k + 1 ≤ j := by decide) (hg : Gl X x := by rfl) (hdb : (x == ("__debug__" : Str)) = false := by decide)
    (he : starEach (e :: es) X.env = (false, eval e X.env) :: starEach es X.env := by rfl) (hpl : (backTo pos (starEach es X.env)).any (·.1) = false := by rfl) :
    PE X (.Call (.Name x p) (e :: es) [] pos) (tMake (He.ga X.K x) sp [] E0 t) := by
  obtain ⟨f, fd, hm, M, G, b⟩ := F.ex
  exact pe_make M G (hr.mono hk) hg hm b .nil pass0 ha hdb he hpl
/-- X.m(e, ..), a classmethod -/
theorem pcm {pl : Sem Bool} (F : KX X.prog X.w X.K X.mg X.base k x m ps sp) (hr : Room j X.A) (ha : PA X (e :: es) t) (hk : k ≤ j := by decide) (hg : Gl X x := by rfl)
    (hst : starEach (e :: es) X.env = (false, eval e X.env) :: starEach es X.env := by rfl) (hpl : (backTo pos (starEach es X.env)).any (·.1) = false := by rfl)
    (ht : eval (.Call (.Attribute (.Name x p) m apos) (e :: es) [] pos) X.env = (do
      let ov ← eval (.Name x p) X.env
      standAt apos.atName
      let (f, first) ← holding [ov] (getMethod ov m pl)
      callWith pos f first (backTo pos (starEach (e :: es) X.env)) (backToKw pos (keywordEach [] X.env))) := by rfl) (hdb : (x == ("__debug__" : Str)) = false := by decide) :
    PE X (.Call (.Attribute (.Name x p) m apos) (e :: es) [] pos) (ClX.tCMeth (He.ga X.K x) sp E0 (tC (.ref (He.ga X.K x))) t) := by
  obtain ⟨q, g, hm, r, c, G⟩ := F.ex
  exact ClX.pe_cmeth (pl := pl) (pe_glob hg hm rfl hdb) r c G (hr.mono hk) pass0 ha hst hpl ht
end
/-! ### heaps that grow -/
/-- all but the objects at S is as it was -/
def Ex (S : List Addr) (H H' : Hp) : Prop := ∀ b o, H b = some o → b ∉ S → H' b = some o
theorem Ex.of_same {S : List Addr} {H H' : Hp} (h : Same H H') : Ex S H H' := fun b o e _ => h b o e
theorem Ex.trans {S : List Addr} {H H1 H2 : Hp} (a : Ex S H H1) (b : Ex S H1 H2) : Ex S H H2 := fun c o h n => b c o (a c o h n) n
theorem Ex.put {S : List Addr} {H : Hp} {a : Addr} {o : HO} (h : a ∈ S) : Ex S H (upd H a o) := fun b u e n => by rw [upd_ne (fun z => n (by rw [z]; exact h))]; exact e
theorem Ex.mono {S S' : List Addr} {H H' : Hp} (a : Ex S H H') (h : ∀ x ∈ S, x ∈ S') : Ex S' H H' := fun b o e n => a b o e fun z => n (h b z)
theorem Ex.same {H H' : Hp} (a : Ex [] H H') : Same H H' := fun b o e => a b o e (by simp)
theorem same_new {H : Hp} {p : Addr} {o : HO} (h : H p = none) : Same H (upd H p o) := fun b u e => by rw [upd_ne (ne_of_none e h)]; exact e
theorem Same.new {H H1 : Hp} {p : Addr} {o : HO} (s : Same H H1) (h : H1 p = none) : Same H (upd H1 p o) := s.trans (same_new h)
/-- a thing that this text never changes once it stands: a tuple, an instance -/
def imm : HO → Bool
  | .tup _ => true
  | .ins _ _ _ => true
  | .frz _ _ => true
  | _ => false
def Imm (H H' : Hp) : Prop := ∀ b o, imm o = true → H b = some o → H' b = some o
theorem Imm.refl (H : Hp) : Imm H H := fun _ _ _ e => e
theorem Imm.trans {H H1 H2 : Hp} (a : Imm H H1) (b : Imm H1 H2) : Imm H H2 := fun c o h e => b c o h (a c o h e)
theorem Imm.of_same {H H' : Hp} (h : Same H H') : Imm H H' := fun b o _ e => h b o e
theorem Imm.of_ex {S : List Addr} {H H' : Hp} (h : Ex S H H') (n : ∀ a ∈ S, ∀ o, H a = some o → imm o = false) : Imm H H' := fun b o i e => h b o e fun z => by rw [n b z o e] at i; cases i
theorem imm_put {H : Hp} {a : Addr} {o o' : HO} (h : H a = some o') (i : imm o' = false) : Imm H (upd H a o) := fun b u j e => by
  have n : b ≠ a := fun z => by rw [z, h] at e; cases e; rw [i] at j; cases j
  rw [upd_ne n]; exact e
theorem imm_new {H : Hp} {p : Addr} {o : HO} (h : H p = none) : Imm H (upd H p o) := Imm.of_same (same_new h)
theorem Imm.made {H H1 : Hp} {x dx C : Addr} (nx : H x = Option.none) (nd : H dx = Option.none) (k : Ex [x] (upd (upd H dx (.own x)) x (.ins C dx [])) H1) : Same H H1 := fun b o e =>
  k b o (by rw [upd_ne (ne_of_none e nx), upd_ne (ne_of_none e nd)]; exact e) (by simpa using ne_of_none e nx)
theorem SqT.imm {K : PySem.W.Frag} {H H' : Hp} {a : Addr} {xs : List V} (h : SqT K H a xs) (i : Imm H H') (nf : ∀ o, H a ≠ some (.frz o (.tup xs))) : SqT K H' a xs := by
  rcases h with (h | ⟨o, h⟩) | h
  · exact .inl (.inl (i _ _ rfl h))
  · exact absurd h (nf o)
  · exact .inr h

theorem fun_is_name {w : World} {K : PySem.W.Frag} (c : Says w K) : ∃ fd, Fun K "is_name" "is_name" st_is_name (He.ga K "is_name") fd := let ⟨fd, F⟩ := c.dfn 0 (d := d_is_name) rfl; ⟨fd, He5.fun_of F⟩
theorem fun_is_sequence {w : World} {K : PySem.W.Frag} (c : Says w K) : ∃ fd, Fun K "is_sequence" "is_sequence" st_is_sequence (He.ga K "is_sequence") fd := let ⟨fd, F⟩ := c.dfn 1 (d := d_is_sequence) rfl; ⟨fd, He5.fun_of F⟩
theorem fun_is_word {w : World} {K : PySem.W.Frag} (c : Says w K) : ∃ fd, Fun K "is_word" "is_word" st_is_word (He.ga K "is_word") fd := let ⟨fd, F⟩ := c.dfn 2 (d := d_is_word) rfl; ⟨fd, He5.fun_of F⟩
theorem fun_are_unlike {w : World} {K : PySem.W.Frag} (c : Says w K) : ∃ fd, Fun K "are_unlike" "are_unlike" st_are_unlike (He.ga K "are_unlike") fd := let ⟨fd, F⟩ := c.dfn 3 (d := d_are_unlike) rfl; ⟨fd, He5.fun_of F⟩
theorem fun_is_old_mark {w : World} {K : PySem.W.Frag} (c : Says w K) : ∃ fd, Fun K "is_old_mark" "is_old_mark" st_is_old_mark (He.ga K "is_old_mark") fd := let ⟨fd, F⟩ := c.dfn 4 (d := d_is_old_mark) rfl; ⟨fd, He5.fun_of F⟩
theorem fun_part_of {w : World} {K : PySem.W.Frag} (c : Says w K) : ∃ fd, Fun K "part_of" "part_of" st_part_of (He.ga K "part_of") fd := let ⟨fd, F⟩ := c.dfn 5 (d := d_part_of) rfl; ⟨fd, He5.fun_of F⟩
theorem fun_are_tests {w : World} {K : PySem.W.Frag} (c : Says w K) : ∃ fd, Fun K "are_tests" "are_tests" st_are_tests (He.ga K "are_tests") fd := let ⟨fd, F⟩ := c.dfn 6 (d := d_are_tests) rfl; ⟨fd, He5.fun_of F⟩
theorem fun_names_among {w : World} {K : PySem.W.Frag} (c : Says w K) : ∃ fd, Fun K "names_among" "names_among" st_names_among (He.ga K "names_among") fd := let ⟨fd, F⟩ := c.dfn 7 (d := d_names_among) rfl; ⟨fd, He5.fun_of F⟩
theorem fun_Row_read {w : World} {K : PySem.W.Frag} (c : Says w K) : ∃ fd, Fun K "read" "Row.read" st_Row_read (He5.wf K (He.ga K "Row") "classmethod" "read") fd := let ⟨fd, F⟩ := c.dfn 8 (d := d_Row_read) rfl; ⟨fd, He5.fun_of F⟩
theorem fun_Run_init {w : World} {K : PySem.W.Frag} (c : Says w K) : ∃ fd, Fun K "__init__" "Run.__init__" st_Run_init (He.ma K (He.ga K "Run") "__init__") fd := let ⟨fd, F⟩ := c.dfn 9 (d := d_Run_init) rfl; ⟨fd, He5.fun_of F⟩
theorem fun_Run_str {w : World} {K : PySem.W.Frag} (c : Says w K) : ∃ fd, Fun K "__str__" "Run.__str__" st_Run_str (He.ma K (He.ga K "Run") "__str__") fd := let ⟨fd, F⟩ := c.dfn 10 (d := d_Run_str) rfl; ⟨fd, He5.fun_of F⟩
theorem fun_Lead_init {w : World} {K : PySem.W.Frag} (c : Says w K) : ∃ fd, Fun K "__init__" "Lead.__init__" st_Lead_init (He.ma K (He.ga K "Lead") "__init__") fd := let ⟨fd, F⟩ := c.dfn 11 (d := d_Lead_init) rfl; ⟨fd, He5.fun_of F⟩
theorem fun_Lead_str {w : World} {K : PySem.W.Frag} (c : Says w K) : ∃ fd, Fun K "__str__" "Lead.__str__" st_Lead_str (He.ma K (He.ga K "Lead") "__str__") fd := let ⟨fd, F⟩ := c.dfn 12 (d := d_Lead_str) rfl; ⟨fd, He5.fun_of F⟩
theorem fun_Join_init {w : World} {K : PySem.W.Frag} (c : Says w K) : ∃ fd, Fun K "__init__" "Join.__init__" st_Join_init (He.ma K (He.ga K "Join") "__init__") fd := let ⟨fd, F⟩ := c.dfn 13 (d := d_Join_init) rfl; ⟨fd, He5.fun_of F⟩
theorem fun_Join_str {w : World} {K : PySem.W.Frag} (c : Says w K) : ∃ fd, Fun K "__str__" "Join.__str__" st_Join_str (He.ma K (He.ga K "Join") "__str__") fd := let ⟨fd, F⟩ := c.dfn 14 (d := d_Join_str) rfl; ⟨fd, He5.fun_of F⟩
theorem fun_row_in {w : World} {K : PySem.W.Frag} (c : Says w K) : ∃ fd, Fun K "row_in" "row_in" st_row_in (He.ga K "row_in") fd := let ⟨fd, F⟩ := c.dfn 15 (d := d_row_in) rfl; ⟨fd, He5.fun_of F⟩
theorem fun_Single_init {w : World} {K : PySem.W.Frag} (c : Says w K) : ∃ fd, Fun K "__init__" "Single.__init__" st_Single_init (He.ma K (He.ga K "Single") "__init__") fd := let ⟨fd, F⟩ := c.dfn 16 (d := d_Single_init) rfl; ⟨fd, He5.fun_of F⟩
theorem fun_Single_machine_steps {w : World} {K : PySem.W.Frag} (c : Says w K) : ∃ fd, Fun K "machine_steps" "Single.machine_steps" st_Single_machine_steps (He.ma K (He.ga K "Single") "machine_steps") fd := let ⟨fd, F⟩ := c.dfn 17 (d := d_Single_machine_steps) rfl; ⟨fd, He5.fun_of F⟩
theorem fun_Single_led {w : World} {K : PySem.W.Frag} (c : Says w K) : ∃ fd, Fun K "led" "Single.led" st_Single_led (He.ma K (He.ga K "Single") "led") fd := let ⟨fd, F⟩ := c.dfn 18 (d := d_Single_led) rfl; ⟨fd, He5.fun_of F⟩
theorem fun_Single_joined {w : World} {K : PySem.W.Frag} (c : Says w K) : ∃ fd, Fun K "joined" "Single.joined" st_Single_joined (He.ma K (He.ga K "Single") "joined") fd := let ⟨fd, F⟩ := c.dfn 19 (d := d_Single_joined) rfl; ⟨fd, He5.fun_of F⟩
theorem fun_machine_elders {w : World} {K : PySem.W.Frag} (c : Says w K) : ∃ fd, Fun K "machine_elders" "machine_elders" st_machine_elders (He.ga K "machine_elders") fd := let ⟨fd, F⟩ := c.dfn 20 (d := d_machine_elders) rfl; ⟨fd, He5.fun_of F⟩
theorem fun_Ways_init {w : World} {K : PySem.W.Frag} (c : Says w K) : ∃ fd, Fun K "__init__" "Ways.__init__" st_Ways_init (He.ma K (He.ga K "Ways") "__init__") fd := let ⟨fd, F⟩ := c.dfn 21 (d := d_Ways_init) rfl; ⟨fd, He5.fun_of F⟩
theorem fun_Ways_edited {w : World} {K : PySem.W.Frag} (c : Says w K) : ∃ fd, Fun K "edited" "Ways.edited" st_Ways_edited (He.ma K (He.ga K "Ways") "edited") fd := let ⟨fd, F⟩ := c.dfn 22 (d := d_Ways_edited) rfl; ⟨fd, He5.fun_of F⟩
theorem fun_Ways_heard {w : World} {K : PySem.W.Frag} (c : Says w K) : ∃ fd, Fun K "heard" "Ways.heard" st_Ways_heard (He.ma K (He.ga K "Ways") "heard") fd := let ⟨fd, F⟩ := c.dfn 23 (d := d_Ways_heard) rfl; ⟨fd, He5.fun_of F⟩
theorem fun_are_names {w : World} {K : PySem.W.Frag} (c : Says w K) : ∃ fd, Fun K "are_names" "are_names" st_are_names (He.ga K "are_names") fd := let ⟨fd, F⟩ := c.dfn 24 (d := d_are_names) rfl; ⟨fd, He5.fun_of F⟩
theorem fun_are_parts {w : World} {K : PySem.W.Frag} (c : Says w K) : ∃ fd, Fun K "are_parts" "are_parts" st_are_parts (He.ga K "are_parts") fd := let ⟨fd, F⟩ := c.dfn 25 (d := d_are_parts) rfl; ⟨fd, He5.fun_of F⟩
theorem fun_fault_of {w : World} {K : PySem.W.Frag} (c : Says w K) : ∃ fd, Fun K "fault_of" "fault_of" st_fault_of (He.ga K "fault_of") fd := let ⟨fd, F⟩ := c.dfn 26 (d := d_fault_of) rfl; ⟨fd, He5.fun_of F⟩
theorem fun_holds {w : World} {K : PySem.W.Frag} (c : Says w K) : ∃ fd, Fun K "holds" "holds" st_holds (He.ga K "holds") fd := let ⟨fd, F⟩ := c.dfn 27 (d := d_holds) rfl; ⟨fd, He5.fun_of F⟩
theorem fun_heeding_row {w : World} {K : PySem.W.Frag} (c : Says w K) : ∃ fd, Fun K "heeding_row" "heeding_row" st_heeding_row (He.ga K "heeding_row") fd := let ⟨fd, F⟩ := c.dfn 28 (d := d_heeding_row) rfl; ⟨fd, He5.fun_of F⟩
theorem fun_words_behind {w : World} {K : PySem.W.Frag} (c : Says w K) : ∃ fd, Fun K "words_behind" "words_behind" st_words_behind (He.ga K "words_behind") fd := let ⟨fd, F⟩ := c.dfn 29 (d := d_words_behind) rfl; ⟨fd, He5.fun_of F⟩
theorem fun_Tool_init {w : World} {K : PySem.W.Frag} (c : Says w K) : ∃ fd, Fun K "__init__" "Tool.__init__" st_Tool_init (He.ma K (He.ga K "Tool") "__init__") fd := let ⟨fd, F⟩ := c.dfn 30 (d := d_Tool_init) rfl; ⟨fd, He5.fun_of F⟩
theorem fun_Tool_read {w : World} {K : PySem.W.Frag} (c : Says w K) : ∃ fd, Fun K "read" "Tool.read" st_Tool_read (He5.wf K (He.ga K "Tool") "classmethod" "read") fd := let ⟨fd, F⟩ := c.dfn 31 (d := d_Tool_read) rfl; ⟨fd, He5.fun_of F⟩
theorem fun_Tool_need_mark {w : World} {K : PySem.W.Frag} (c : Says w K) : ∃ fd, Fun K "need_mark" "Tool.need_mark" st_Tool_need_mark (He.ma K (He.ga K "Tool") "need_mark") fd := let ⟨fd, F⟩ := c.dfn 32 (d := d_Tool_need_mark) rfl; ⟨fd, He5.fun_of F⟩
theorem fun_Tool_is_told {w : World} {K : PySem.W.Frag} (c : Says w K) : ∃ fd, Fun K "is_told" "Tool.is_told" st_Tool_is_told (He.ma K (He.ga K "Tool") "is_told") fd := let ⟨fd, F⟩ := c.dfn 33 (d := d_Tool_is_told) rfl; ⟨fd, He5.fun_of F⟩
theorem fun_Tool_ran {w : World} {K : PySem.W.Frag} (c : Says w K) : ∃ fd, Fun K "ran" "Tool.ran" st_Tool_ran (He.ma K (He.ga K "Tool") "ran") fd := let ⟨fd, F⟩ := c.dfn 34 (d := d_Tool_ran) rfl; ⟨fd, He5.fun_of F⟩
theorem fun_Tool_led {w : World} {K : PySem.W.Frag} (c : Says w K) : ∃ fd, Fun K "led" "Tool.led" st_Tool_led (He.ma K (He.ga K "Tool") "led") fd := let ⟨fd, F⟩ := c.dfn 35 (d := d_Tool_led) rfl; ⟨fd, He5.fun_of F⟩
theorem fun_Tool_joined {w : World} {K : PySem.W.Frag} (c : Says w K) : ∃ fd, Fun K "joined" "Tool.joined" st_Tool_joined (He.ma K (He.ga K "Tool") "joined") fd := let ⟨fd, F⟩ := c.dfn 36 (d := d_Tool_joined) rfl; ⟨fd, He5.fun_of F⟩
theorem fun_Tool_keeps {w : World} {K : PySem.W.Frag} (c : Says w K) : ∃ fd, Fun K "keeps" "Tool.keeps" st_Tool_keeps (He.ma K (He.ga K "Tool") "keeps") fd := let ⟨fd, F⟩ := c.dfn 37 (d := d_Tool_keeps) rfl; ⟨fd, He5.fun_of F⟩
theorem fun_Tool_need_row {w : World} {K : PySem.W.Frag} (c : Says w K) : ∃ fd, Fun K "need_row" "Tool.need_row" st_Tool_need_row (He.ma K (He.ga K "Tool") "need_row") fd := let ⟨fd, F⟩ := c.dfn 38 (d := d_Tool_need_row) rfl; ⟨fd, He5.fun_of F⟩
theorem fun_Tool_but {w : World} {K : PySem.W.Frag} (c : Says w K) : ∃ fd, Fun K "but" "Tool.but" st_Tool_but (He.ma K (He.ga K "Tool") "but") fd := let ⟨fd, F⟩ := c.dfn 39 (d := d_Tool_but) rfl; ⟨fd, He5.fun_of F⟩
theorem fun_Tool_without {w : World} {K : PySem.W.Frag} (c : Says w K) : ∃ fd, Fun K "without" "Tool.without" st_Tool_without (He.ma K (He.ga K "Tool") "without") fd := let ⟨fd, F⟩ := c.dfn 40 (d := d_Tool_without) rfl; ⟨fd, He5.fun_of F⟩
theorem fun_Tool_heeding {w : World} {K : PySem.W.Frag} (c : Says w K) : ∃ fd, Fun K "heeding" "Tool.heeding" st_Tool_heeding (He.ma K (He.ga K "Tool") "heeding") fd := let ⟨fd, F⟩ := c.dfn 41 (d := d_Tool_heeding) rfl; ⟨fd, He5.fun_of F⟩
theorem fun_Tool_len {w : World} {K : PySem.W.Frag} (c : Says w K) : ∃ fd, Fun K "__len__" "Tool.__len__" st_Tool_len (He.ma K (He.ga K "Tool") "__len__") fd := let ⟨fd, F⟩ := c.dfn 42 (d := d_Tool_len) rfl; ⟨fd, He5.fun_of F⟩
theorem fun_Tool_eq {w : World} {K : PySem.W.Frag} (c : Says w K) : ∃ fd, Fun K "__eq__" "Tool.__eq__" st_Tool_eq (He.ma K (He.ga K "Tool") "__eq__") fd := let ⟨fd, F⟩ := c.dfn 43 (d := d_Tool_eq) rfl; ⟨fd, He5.fun_of F⟩
theorem fun_Tool_str {w : World} {K : PySem.W.Frag} (c : Says w K) : ∃ fd, Fun K "__str__" "Tool.__str__" st_Tool_str (He.ma K (He.ga K "Tool") "__str__") fd := let ⟨fd, F⟩ := c.dfn 44 (d := d_Tool_str) rfl; ⟨fd, He5.fun_of F⟩
theorem fun_is_row {w : World} {K : PySem.W.Frag} (c : Says w K) : ∃ fd, Fun K "is_row" "is_row" st_is_row (He.ga K "is_row") fd := let ⟨fd, F⟩ := c.dfn 45 (d := d_is_row) rfl; ⟨fd, He5.fun_of F⟩
theorem fun_is_fit {w : World} {K : PySem.W.Frag} (c : Says w K) : ∃ fd, Fun K "is_fit" "is_fit" st_is_fit (He.ga K "is_fit") fd := let ⟨fd, F⟩ := c.dfn 46 (d := d_is_fit) rfl; ⟨fd, He5.fun_of F⟩
theorem fun_fault_in {w : World} {K : PySem.W.Frag} (c : Says w K) : ∃ fd, Fun K "fault_in" "fault_in" st_fault_in (He.ga K "fault_in") fd := let ⟨fd, F⟩ := c.dfn 47 (d := d_fault_in) rfl; ⟨fd, He5.fun_of F⟩
theorem fun_Meeting_init {w : World} {K : PySem.W.Frag} (c : Says w K) : ∃ fd, Fun K "__init__" "Meeting.__init__" st_Meeting_init (He.ma K (He.ga K "Meeting") "__init__") fd := let ⟨fd, F⟩ := c.dfn 48 (d := d_Meeting_init) rfl; ⟨fd, He5.fun_of F⟩
theorem fun_falls {w : World} {K : PySem.W.Frag} (c : Says w K) : ∃ fd, Fun K "falls" "falls" st_falls (He.ga K "falls") fd := let ⟨fd, F⟩ := c.dfn 49 (d := d_falls) rfl; ⟨fd, He5.fun_of F⟩
theorem fun_disordering {w : World} {K : PySem.W.Frag} (c : Says w K) : ∃ fd, Fun K "disordering" "disordering" st_disordering (He.ga K "disordering") fd := let ⟨fd, F⟩ := c.dfn 50 (d := d_disordering) rfl; ⟨fd, He5.fun_of F⟩
theorem fun_doubling {w : World} {K : PySem.W.Frag} (c : Says w K) : ∃ fd, Fun K "doubling" "doubling" st_doubling (He.ga K "doubling") fd := let ⟨fd, F⟩ := c.dfn 51 (d := d_doubling) rfl; ⟨fd, He5.fun_of F⟩
theorem fun_met_at {w : World} {K : PySem.W.Frag} (c : Says w K) : ∃ fd, Fun K "met_at" "met_at" st_met_at (He.ga K "met_at") fd := let ⟨fd, F⟩ := c.dfn 52 (d := d_met_at) rfl; ⟨fd, He5.fun_of F⟩
theorem fun_least_meeting {w : World} {K : PySem.W.Frag} (c : Says w K) : ∃ fd, Fun K "least_meeting" "least_meeting" st_least_meeting (He.ga K "least_meeting") fd := let ⟨fd, F⟩ := c.dfn 53 (d := d_least_meeting) rfl; ⟨fd, He5.fun_of F⟩
theorem fun_need_fault {w : World} {K : PySem.W.Frag} (c : Says w K) : ∃ fd, Fun K "need_fault" "need_fault" st_need_fault (He.ga K "need_fault") fd := let ⟨fd, F⟩ := c.dfn 54 (d := d_need_fault) rfl; ⟨fd, He5.fun_of F⟩
theorem fun_faults {w : World} {K : PySem.W.Frag} (c : Says w K) : ∃ fd, Fun K "faults" "faults" st_faults (He.ga K "faults") fd := let ⟨fd, F⟩ := c.dfn 55 (d := d_faults) rfl; ⟨fd, He5.fun_of F⟩
theorem fun_lists {w : World} {K : PySem.W.Frag} (c : Says w K) : ∃ fd, Fun K "lists" "lists" st_lists (He.ga K "lists") fd := let ⟨fd, F⟩ := c.dfn 56 (d := d_lists) rfl; ⟨fd, He5.fun_of F⟩
theorem fun_need_all {w : World} {K : PySem.W.Frag} (c : Says w K) : ∃ fd, Fun K "need_all" "need_all" st_need_all (He.ga K "need_all") fd := let ⟨fd, F⟩ := c.dfn 57 (d := d_need_all) rfl; ⟨fd, He5.fun_of F⟩
theorem fun_happening {w : World} {K : PySem.W.Frag} (c : Says w K) : ∃ fd, Fun K "happening" "happening" st_happening (He.ga K "happening") fd := let ⟨fd, F⟩ := c.dfn 58 (d := d_happening) rfl; ⟨fd, He5.fun_of F⟩
theorem fun_choices {w : World} {K : PySem.W.Frag} (c : Says w K) : ∃ fd, Fun K "choices" "choices" st_choices (He.ga K "choices") fd := let ⟨fd, F⟩ := c.dfn 59 (d := d_choices) rfl; ⟨fd, He5.fun_of F⟩
theorem fun_least_parts {w : World} {K : PySem.W.Frag} (c : Says w K) : ∃ fd, Fun K "least_parts" "least_parts" st_least_parts (He.ga K "least_parts") fd := let ⟨fd, F⟩ := c.dfn 60 (d := d_least_parts) rfl; ⟨fd, He5.fun_of F⟩
theorem fun_needless {w : World} {K : PySem.W.Frag} (c : Says w K) : ∃ fd, Fun K "needless" "needless" st_needless (He.ga K "needless") fd := let ⟨fd, F⟩ := c.dfn 61 (d := d_needless) rfl; ⟨fd, He5.fun_of F⟩
theorem fun_repairs {w : World} {K : PySem.W.Frag} (c : Says w K) : ∃ fd, Fun K "repairs" "repairs" st_repairs (He.ga K "repairs") fd := let ⟨fd, F⟩ := c.dfn 62 (d := d_repairs) rfl; ⟨fd, He5.fun_of F⟩
theorem fun_paper {w : World} {K : PySem.W.Frag} (c : Says w K) : ∃ fd, Fun K "paper" "paper" st_paper (He.ga K "paper") fd := let ⟨fd, F⟩ := c.dfn 63 (d := d_paper) rfl; ⟨fd, He5.fun_of F⟩
theorem fun_is_entry {w : World} {K : PySem.W.Frag} (c : Says w K) : ∃ fd, Fun K "is_entry" "is_entry" st_is_entry (He.ga K "is_entry") fd := let ⟨fd, F⟩ := c.dfn 64 (d := d_is_entry) rfl; ⟨fd, He5.fun_of F⟩
theorem fun_are_entries {w : World} {K : PySem.W.Frag} (c : Says w K) : ∃ fd, Fun K "are_entries" "are_entries" st_are_entries (He.ga K "are_entries") fd := let ⟨fd, F⟩ := c.dfn 65 (d := d_are_entries) rfl; ⟨fd, He5.fun_of F⟩
theorem fun_Told_init {w : World} {K : PySem.W.Frag} (c : Says w K) : ∃ fd, Fun K "__init__" "Told.__init__" st_Told_init (He.ma K (He.ga K "Told") "__init__") fd := let ⟨fd, F⟩ := c.dfn 66 (d := d_Told_init) rfl; ⟨fd, He5.fun_of F⟩
theorem fun_Told_is_closed {w : World} {K : PySem.W.Frag} (c : Says w K) : ∃ fd, Fun K "is_closed" "Told.is_closed" st_Told_is_closed (He.ma K (He.ga K "Told") "is_closed") fd := let ⟨fd, F⟩ := c.dfn 67 (d := d_Told_is_closed) rfl; ⟨fd, He5.fun_of F⟩
theorem fun_paper_holds {w : World} {K : PySem.W.Frag} (c : Says w K) : ∃ fd, Fun K "paper_holds" "paper_holds" st_paper_holds (He.ga K "paper_holds") fd := let ⟨fd, F⟩ := c.dfn 68 (d := d_paper_holds) rfl; ⟨fd, He5.fun_of F⟩
theorem fun_law_deal {w : World} {K : PySem.W.Frag} (c : Says w K) : ∃ fd, Fun K "_law_deal" "_law_deal" st_law_deal (He.ga K "_law_deal") fd := let ⟨fd, F⟩ := c.dfn 69 (d := d_law_deal) rfl; ⟨fd, He5.fun_of F⟩
theorem fun_law_draw {w : World} {K : PySem.W.Frag} (c : Says w K) : ∃ fd, Fun K "_law_draw" "_law_draw" st_law_draw (He.ga K "_law_draw") fd := let ⟨fd, F⟩ := c.dfn 70 (d := d_law_draw) rfl; ⟨fd, He5.fun_of F⟩
theorem fun_law_pick {w : World} {K : PySem.W.Frag} (c : Says w K) : ∃ fd, Fun K "_law_pick" "_law_pick" st_law_pick (He.ga K "_law_pick") fd := let ⟨fd, F⟩ := c.dfn 71 (d := d_law_pick) rfl; ⟨fd, He5.fun_of F⟩
theorem fun_law_mixed {w : World} {K : PySem.W.Frag} (c : Says w K) : ∃ fd, Fun K "_law_mixed" "_law_mixed" st_law_mixed (He.ga K "_law_mixed") fd := let ⟨fd, F⟩ := c.dfn 72 (d := d_law_mixed) rfl; ⟨fd, He5.fun_of F⟩
theorem fun_law_words {w : World} {K : PySem.W.Frag} (c : Says w K) : ∃ fd, Fun K "_law_words" "_law_words" st_law_words (He.ga K "_law_words") fd := let ⟨fd, F⟩ := c.dfn 73 (d := d_law_words) rfl; ⟨fd, He5.fun_of F⟩
theorem fun_law_tool {w : World} {K : PySem.W.Frag} (c : Says w K) : ∃ fd, Fun K "_law_tool" "_law_tool" st_law_tool (He.ga K "_law_tool") fd := let ⟨fd, F⟩ := c.dfn 74 (d := d_law_tool) rfl; ⟨fd, He5.fun_of F⟩
theorem fun_law_tool_text {w : World} {K : PySem.W.Frag} (c : Says w K) : ∃ fd, Fun K "_law_tool_text" "_law_tool_text" st_law_tool_text (He.ga K "_law_tool_text") fd := let ⟨fd, F⟩ := c.dfn 75 (d := d_law_tool_text) rfl; ⟨fd, He5.fun_of F⟩
theorem fun_law_met {w : World} {K : PySem.W.Frag} (c : Says w K) : ∃ fd, Fun K "_law_met" "_law_met" st_law_met (He.ga K "_law_met") fd := let ⟨fd, F⟩ := c.dfn 76 (d := d_law_met) rfl; ⟨fd, He5.fun_of F⟩
theorem fun_law {w : World} {K : PySem.W.Frag} (c : Says w K) : ∃ fd, Fun K "law" "law" st_law (He.ga K "law") fd := let ⟨fd, F⟩ := c.dfn 77 (d := d_law) rfl; ⟨fd, He5.fun_of F⟩
theorem Tx.g_MarkError {w : World} {K : PySem.W.Frag} {mg : Str → Option Value} (T : Tx w K mg) : mg "MarkError" = some (.ref (He.ga K "MarkError")) := T.g _ (T.c.fact 0 rfl)
theorem Tx.g_InvalidRow {w : World} {K : PySem.W.Frag} {mg : Str → Option Value} (T : Tx w K mg) : mg "InvalidRow" = some (.ref (He.ga K "InvalidRow")) := T.g _ (T.c.fact 1 rfl)
theorem Tx.g_InvalidTool {w : World} {K : PySem.W.Frag} {mg : Str → Option Value} (T : Tx w K mg) : mg "InvalidTool" = some (.ref (He.ga K "InvalidTool")) := T.g _ (T.c.fact 2 rfl)
theorem Tx.g_InvalidText {w : World} {K : PySem.W.Frag} {mg : Str → Option Value} (T : Tx w K mg) : mg "InvalidText" = some (.ref (He.ga K "InvalidText")) := T.g _ (T.c.fact 3 rfl)
theorem Tx.g_InvalidFault {w : World} {K : PySem.W.Frag} {mg : Str → Option Value} (T : Tx w K mg) : mg "InvalidFault" = some (.ref (He.ga K "InvalidFault")) := T.g _ (T.c.fact 4 rfl)
theorem Tx.g_NoRow {w : World} {K : PySem.W.Frag} {mg : Str → Option Value} (T : Tx w K mg) : mg "NoRow" = some (.ref (He.ga K "NoRow")) := T.g _ (T.c.fact 5 rfl)
theorem Tx.g_NoMark {w : World} {K : PySem.W.Frag} {mg : Str → Option Value} (T : Tx w K mg) : mg "NoMark" = some (.ref (He.ga K "NoMark")) := T.g _ (T.c.fact 6 rfl)
theorem Tx.g_is_name {w : World} {K : PySem.W.Frag} {mg : Str → Option Value} (T : Tx w K mg) : mg "is_name" = some (.ref (He.ga K "is_name")) := T.g _ (T.c.fact 7 rfl)
theorem Tx.g_is_sequence {w : World} {K : PySem.W.Frag} {mg : Str → Option Value} (T : Tx w K mg) : mg "is_sequence" = some (.ref (He.ga K "is_sequence")) := T.g _ (T.c.fact 8 rfl)
theorem Tx.g_is_word {w : World} {K : PySem.W.Frag} {mg : Str → Option Value} (T : Tx w K mg) : mg "is_word" = some (.ref (He.ga K "is_word")) := T.g _ (T.c.fact 9 rfl)
theorem Tx.g_are_unlike {w : World} {K : PySem.W.Frag} {mg : Str → Option Value} (T : Tx w K mg) : mg "are_unlike" = some (.ref (He.ga K "are_unlike")) := T.g _ (T.c.fact 10 rfl)
theorem Tx.g_is_old_mark {w : World} {K : PySem.W.Frag} {mg : Str → Option Value} (T : Tx w K mg) : mg "is_old_mark" = some (.ref (He.ga K "is_old_mark")) := T.g _ (T.c.fact 11 rfl)
theorem Tx.g_part_of {w : World} {K : PySem.W.Frag} {mg : Str → Option Value} (T : Tx w K mg) : mg "part_of" = some (.ref (He.ga K "part_of")) := T.g _ (T.c.fact 12 rfl)
theorem Tx.g_are_tests {w : World} {K : PySem.W.Frag} {mg : Str → Option Value} (T : Tx w K mg) : mg "are_tests" = some (.ref (He.ga K "are_tests")) := T.g _ (T.c.fact 13 rfl)
theorem Tx.g_names_among {w : World} {K : PySem.W.Frag} {mg : Str → Option Value} (T : Tx w K mg) : mg "names_among" = some (.ref (He.ga K "names_among")) := T.g _ (T.c.fact 14 rfl)
theorem Tx.g_Row {w : World} {K : PySem.W.Frag} {mg : Str → Option Value} (T : Tx w K mg) : mg "Row" = some (.ref (He.ga K "Row")) := T.g _ (T.c.fact 15 rfl)
theorem Tx.g_Run {w : World} {K : PySem.W.Frag} {mg : Str → Option Value} (T : Tx w K mg) : mg "Run" = some (.ref (He.ga K "Run")) := T.g _ (T.c.fact 16 rfl)
theorem Tx.g_Lead {w : World} {K : PySem.W.Frag} {mg : Str → Option Value} (T : Tx w K mg) : mg "Lead" = some (.ref (He.ga K "Lead")) := T.g _ (T.c.fact 17 rfl)
theorem Tx.g_Join {w : World} {K : PySem.W.Frag} {mg : Str → Option Value} (T : Tx w K mg) : mg "Join" = some (.ref (He.ga K "Join")) := T.g _ (T.c.fact 18 rfl)
theorem Tx.g_row_in {w : World} {K : PySem.W.Frag} {mg : Str → Option Value} (T : Tx w K mg) : mg "row_in" = some (.ref (He.ga K "row_in")) := T.g _ (T.c.fact 19 rfl)
theorem Tx.g_Single {w : World} {K : PySem.W.Frag} {mg : Str → Option Value} (T : Tx w K mg) : mg "Single" = some (.ref (He.ga K "Single")) := T.g _ (T.c.fact 20 rfl)
theorem Tx.g_machine_elders {w : World} {K : PySem.W.Frag} {mg : Str → Option Value} (T : Tx w K mg) : mg "machine_elders" = some (.ref (He.ga K "machine_elders")) := T.g _ (T.c.fact 21 rfl)
theorem Tx.g_Ways {w : World} {K : PySem.W.Frag} {mg : Str → Option Value} (T : Tx w K mg) : mg "Ways" = some (.ref (He.ga K "Ways")) := T.g _ (T.c.fact 22 rfl)
theorem Tx.g_are_names {w : World} {K : PySem.W.Frag} {mg : Str → Option Value} (T : Tx w K mg) : mg "are_names" = some (.ref (He.ga K "are_names")) := T.g _ (T.c.fact 23 rfl)
theorem Tx.g_are_parts {w : World} {K : PySem.W.Frag} {mg : Str → Option Value} (T : Tx w K mg) : mg "are_parts" = some (.ref (He.ga K "are_parts")) := T.g _ (T.c.fact 24 rfl)
theorem Tx.g_fault_of {w : World} {K : PySem.W.Frag} {mg : Str → Option Value} (T : Tx w K mg) : mg "fault_of" = some (.ref (He.ga K "fault_of")) := T.g _ (T.c.fact 25 rfl)
theorem Tx.g_holds {w : World} {K : PySem.W.Frag} {mg : Str → Option Value} (T : Tx w K mg) : mg "holds" = some (.ref (He.ga K "holds")) := T.g _ (T.c.fact 26 rfl)
theorem Tx.g_heeding_row {w : World} {K : PySem.W.Frag} {mg : Str → Option Value} (T : Tx w K mg) : mg "heeding_row" = some (.ref (He.ga K "heeding_row")) := T.g _ (T.c.fact 27 rfl)
theorem Tx.g_words_behind {w : World} {K : PySem.W.Frag} {mg : Str → Option Value} (T : Tx w K mg) : mg "words_behind" = some (.ref (He.ga K "words_behind")) := T.g _ (T.c.fact 28 rfl)
theorem Tx.g_Tool {w : World} {K : PySem.W.Frag} {mg : Str → Option Value} (T : Tx w K mg) : mg "Tool" = some (.ref (He.ga K "Tool")) := T.g _ (T.c.fact 29 rfl)
theorem Tx.g_is_row {w : World} {K : PySem.W.Frag} {mg : Str → Option Value} (T : Tx w K mg) : mg "is_row" = some (.ref (He.ga K "is_row")) := T.g _ (T.c.fact 30 rfl)
theorem Tx.g_is_fit {w : World} {K : PySem.W.Frag} {mg : Str → Option Value} (T : Tx w K mg) : mg "is_fit" = some (.ref (He.ga K "is_fit")) := T.g _ (T.c.fact 31 rfl)
theorem Tx.g_fault_in {w : World} {K : PySem.W.Frag} {mg : Str → Option Value} (T : Tx w K mg) : mg "fault_in" = some (.ref (He.ga K "fault_in")) := T.g _ (T.c.fact 32 rfl)
theorem Tx.g_Meeting {w : World} {K : PySem.W.Frag} {mg : Str → Option Value} (T : Tx w K mg) : mg "Meeting" = some (.ref (He.ga K "Meeting")) := T.g _ (T.c.fact 33 rfl)
theorem Tx.g_falls {w : World} {K : PySem.W.Frag} {mg : Str → Option Value} (T : Tx w K mg) : mg "falls" = some (.ref (He.ga K "falls")) := T.g _ (T.c.fact 34 rfl)
theorem Tx.g_disordering {w : World} {K : PySem.W.Frag} {mg : Str → Option Value} (T : Tx w K mg) : mg "disordering" = some (.ref (He.ga K "disordering")) := T.g _ (T.c.fact 35 rfl)
theorem Tx.g_doubling {w : World} {K : PySem.W.Frag} {mg : Str → Option Value} (T : Tx w K mg) : mg "doubling" = some (.ref (He.ga K "doubling")) := T.g _ (T.c.fact 36 rfl)
theorem Tx.g_met_at {w : World} {K : PySem.W.Frag} {mg : Str → Option Value} (T : Tx w K mg) : mg "met_at" = some (.ref (He.ga K "met_at")) := T.g _ (T.c.fact 37 rfl)
theorem Tx.g_least_meeting {w : World} {K : PySem.W.Frag} {mg : Str → Option Value} (T : Tx w K mg) : mg "least_meeting" = some (.ref (He.ga K "least_meeting")) := T.g _ (T.c.fact 38 rfl)
theorem Tx.g_need_fault {w : World} {K : PySem.W.Frag} {mg : Str → Option Value} (T : Tx w K mg) : mg "need_fault" = some (.ref (He.ga K "need_fault")) := T.g _ (T.c.fact 39 rfl)
theorem Tx.g_faults {w : World} {K : PySem.W.Frag} {mg : Str → Option Value} (T : Tx w K mg) : mg "faults" = some (.ref (He.ga K "faults")) := T.g _ (T.c.fact 40 rfl)
theorem Tx.g_lists {w : World} {K : PySem.W.Frag} {mg : Str → Option Value} (T : Tx w K mg) : mg "lists" = some (.ref (He.ga K "lists")) := T.g _ (T.c.fact 41 rfl)
theorem Tx.g_need_all {w : World} {K : PySem.W.Frag} {mg : Str → Option Value} (T : Tx w K mg) : mg "need_all" = some (.ref (He.ga K "need_all")) := T.g _ (T.c.fact 42 rfl)
theorem Tx.g_happening {w : World} {K : PySem.W.Frag} {mg : Str → Option Value} (T : Tx w K mg) : mg "happening" = some (.ref (He.ga K "happening")) := T.g _ (T.c.fact 43 rfl)
theorem Tx.g_choices {w : World} {K : PySem.W.Frag} {mg : Str → Option Value} (T : Tx w K mg) : mg "choices" = some (.ref (He.ga K "choices")) := T.g _ (T.c.fact 44 rfl)
theorem Tx.g_least_parts {w : World} {K : PySem.W.Frag} {mg : Str → Option Value} (T : Tx w K mg) : mg "least_parts" = some (.ref (He.ga K "least_parts")) := T.g _ (T.c.fact 45 rfl)
theorem Tx.g_needless {w : World} {K : PySem.W.Frag} {mg : Str → Option Value} (T : Tx w K mg) : mg "needless" = some (.ref (He.ga K "needless")) := T.g _ (T.c.fact 46 rfl)
theorem Tx.g_repairs {w : World} {K : PySem.W.Frag} {mg : Str → Option Value} (T : Tx w K mg) : mg "repairs" = some (.ref (He.ga K "repairs")) := T.g _ (T.c.fact 47 rfl)
theorem Tx.g_paper {w : World} {K : PySem.W.Frag} {mg : Str → Option Value} (T : Tx w K mg) : mg "paper" = some (.ref (He.ga K "paper")) := T.g _ (T.c.fact 48 rfl)
theorem Tx.g_is_entry {w : World} {K : PySem.W.Frag} {mg : Str → Option Value} (T : Tx w K mg) : mg "is_entry" = some (.ref (He.ga K "is_entry")) := T.g _ (T.c.fact 49 rfl)
theorem Tx.g_are_entries {w : World} {K : PySem.W.Frag} {mg : Str → Option Value} (T : Tx w K mg) : mg "are_entries" = some (.ref (He.ga K "are_entries")) := T.g _ (T.c.fact 50 rfl)
theorem Tx.g_Told {w : World} {K : PySem.W.Frag} {mg : Str → Option Value} (T : Tx w K mg) : mg "Told" = some (.ref (He.ga K "Told")) := T.g _ (T.c.fact 51 rfl)
theorem Tx.g_paper_holds {w : World} {K : PySem.W.Frag} {mg : Str → Option Value} (T : Tx w K mg) : mg "paper_holds" = some (.ref (He.ga K "paper_holds")) := T.g _ (T.c.fact 52 rfl)
theorem Tx.g_law_deal {w : World} {K : PySem.W.Frag} {mg : Str → Option Value} (T : Tx w K mg) : mg "_law_deal" = some (.ref (He.ga K "_law_deal")) := T.g _ (T.c.fact 53 rfl)
theorem Tx.g_law_draw {w : World} {K : PySem.W.Frag} {mg : Str → Option Value} (T : Tx w K mg) : mg "_law_draw" = some (.ref (He.ga K "_law_draw")) := T.g _ (T.c.fact 54 rfl)
theorem Tx.g_law_pick {w : World} {K : PySem.W.Frag} {mg : Str → Option Value} (T : Tx w K mg) : mg "_law_pick" = some (.ref (He.ga K "_law_pick")) := T.g _ (T.c.fact 55 rfl)
theorem Tx.g_law_mixed {w : World} {K : PySem.W.Frag} {mg : Str → Option Value} (T : Tx w K mg) : mg "_law_mixed" = some (.ref (He.ga K "_law_mixed")) := T.g _ (T.c.fact 56 rfl)
theorem Tx.g_law_words {w : World} {K : PySem.W.Frag} {mg : Str → Option Value} (T : Tx w K mg) : mg "_law_words" = some (.ref (He.ga K "_law_words")) := T.g _ (T.c.fact 57 rfl)
theorem Tx.g_law_tool {w : World} {K : PySem.W.Frag} {mg : Str → Option Value} (T : Tx w K mg) : mg "_law_tool" = some (.ref (He.ga K "_law_tool")) := T.g _ (T.c.fact 58 rfl)
theorem Tx.g_law_tool_text {w : World} {K : PySem.W.Frag} {mg : Str → Option Value} (T : Tx w K mg) : mg "_law_tool_text" = some (.ref (He.ga K "_law_tool_text")) := T.g _ (T.c.fact 59 rfl)
theorem Tx.g_law_met {w : World} {K : PySem.W.Frag} {mg : Str → Option Value} (T : Tx w K mg) : mg "_law_met" = some (.ref (He.ga K "_law_met")) := T.g _ (T.c.fact 60 rfl)
theorem Tx.g_law {w : World} {K : PySem.W.Frag} {mg : Str → Option Value} (T : Tx w K mg) : mg "law" = some (.ref (He.ga K "law")) := T.g _ (T.c.fact 61 rfl)
theorem Tx.g_BARRED {w : World} {K : PySem.W.Frag} {mg : Str → Option Value} (T : Tx w K mg) : mg "BARRED" = some (.ref (He.ga K "BARRED")) := T.g _ (T.c.fact 62 rfl)
theorem Tx.g_PARTS {w : World} {K : PySem.W.Frag} {mg : Str → Option Value} (T : Tx w K mg) : mg "PARTS" = some (.ref (He.ga K "PARTS")) := T.g _ (T.c.fact 63 rfl)
theorem Tx.g_ORDER {w : World} {K : PySem.W.Frag} {mg : Str → Option Value} (T : Tx w K mg) : mg "ORDER" = some (.ref (He.ga K "ORDER")) := T.g _ (T.c.fact 64 rfl)
theorem Tx.g_FAULTS {w : World} {K : PySem.W.Frag} {mg : Str → Option Value} (T : Tx w K mg) : mg "FAULTS" = some (.ref (He.ga K "FAULTS")) := T.g _ (T.c.fact 65 rfl)
theorem Tx.g_ANY {w : World} {K : PySem.W.Frag} {mg : Str → Option Value} (T : Tx w K mg) : mg "ANY" = some (.ref (He.ga K "ANY")) := T.g _ (T.c.fact 66 rfl)
theorem Tx.g_SIDES {w : World} {K : PySem.W.Frag} {mg : Str → Option Value} (T : Tx w K mg) : mg "SIDES" = some (.ref (He.ga K "SIDES")) := T.g _ (T.c.fact 67 rfl)
theorem Tx.g_EIGHT {w : World} {K : PySem.W.Frag} {mg : Str → Option Value} (T : Tx w K mg) : mg "EIGHT" = some (.ref (He.ga K "EIGHT")) := T.g _ (T.c.fact 68 rfl)
theorem Tx.g_SENDS {w : World} {K : PySem.W.Frag} {mg : Str → Option Value} (T : Tx w K mg) : mg "SENDS" = some (.ref (He.ga K "SENDS")) := T.g _ (T.c.fact 69 rfl)
theorem Tx.n_isinstance {w : World} {K : PySem.W.Frag} {mg : Str → Option Value} (T : Tx w K mg) : mg "isinstance" = none := T.f _ (T.c.fact 70 rfl)
theorem Tx.n_len {w : World} {K : PySem.W.Frag} {mg : Str → Option Value} (T : Tx w K mg) : mg "len" = none := T.f _ (T.c.fact 71 rfl)
theorem Tx.n_all {w : World} {K : PySem.W.Frag} {mg : Str → Option Value} (T : Tx w K mg) : mg "all" = none := T.f _ (T.c.fact 72 rfl)
theorem Tx.n_any {w : World} {K : PySem.W.Frag} {mg : Str → Option Value} (T : Tx w K mg) : mg "any" = none := T.f _ (T.c.fact 73 rfl)
theorem Tx.n_range {w : World} {K : PySem.W.Frag} {mg : Str → Option Value} (T : Tx w K mg) : mg "range" = none := T.f _ (T.c.fact 74 rfl)
theorem Tx.n_enumerate {w : World} {K : PySem.W.Frag} {mg : Str → Option Value} (T : Tx w K mg) : mg "enumerate" = none := T.f _ (T.c.fact 75 rfl)
theorem Tx.n_tuple {w : World} {K : PySem.W.Frag} {mg : Str → Option Value} (T : Tx w K mg) : mg "tuple" = none := T.f _ (T.c.fact 76 rfl)
theorem Tx.n_list {w : World} {K : PySem.W.Frag} {mg : Str → Option Value} (T : Tx w K mg) : mg "list" = none := T.f _ (T.c.fact 77 rfl)
theorem Tx.n_str {w : World} {K : PySem.W.Frag} {mg : Str → Option Value} (T : Tx w K mg) : mg "str" = none := T.f _ (T.c.fact 78 rfl)
theorem Tx.n_int {w : World} {K : PySem.W.Frag} {mg : Str → Option Value} (T : Tx w K mg) : mg "int" = none := T.f _ (T.c.fact 79 rfl)
theorem Tx.n_bool {w : World} {K : PySem.W.Frag} {mg : Str → Option Value} (T : Tx w K mg) : mg "bool" = none := T.f _ (T.c.fact 80 rfl)
theorem Tx.n_sorted {w : World} {K : PySem.W.Frag} {mg : Str → Option Value} (T : Tx w K mg) : mg "sorted" = none := T.f _ (T.c.fact 81 rfl)
theorem Tx.n_repr {w : World} {K : PySem.W.Frag} {mg : Str → Option Value} (T : Tx w K mg) : mg "repr" = none := T.f _ (T.c.fact 82 rfl)
theorem Tx.n_min {w : World} {K : PySem.W.Frag} {mg : Str → Option Value} (T : Tx w K mg) : mg "min" = none := T.f _ (T.c.fact 83 rfl)
theorem Tx.n_abs {w : World} {K : PySem.W.Frag} {mg : Str → Option Value} (T : Tx w K mg) : mg "abs" = none := T.f _ (T.c.fact 84 rfl)
theorem Tx.n_super {w : World} {K : PySem.W.Frag} {mg : Str → Option Value} (T : Tx w K mg) : mg "super" = none := T.f _ (T.c.fact 85 rfl)
theorem Tx.n_TypeError {w : World} {K : PySem.W.Frag} {mg : Str → Option Value} (T : Tx w K mg) : mg "TypeError" = none := T.f _ (T.c.fact 86 rfl)
theorem Tx.s_SMALL {w : World} {K : PySem.W.Frag} {mg : Str → Option Value} (T : Tx w K mg) : ∃ t, mg "SMALL" = some (.str "abcdefghijklmnopqrstuvwxyz" t) := T.s _ _ (T.c.fact 87 rfl)
theorem Tx.cl_Run {w : World} {K : PySem.W.Frag} {mg : Str → Option Value} (T : Tx w K mg) : Cls K (He.ga K "Run") := He.cls_ok (T.c.fact 88 rfl)
theorem Tx.mk_Run {w : World} {K : PySem.W.Frag} {mg : Str → Option Value} (T : Tx w K mg) : Mk K (He.ga K "Run") (He.ma K (He.ga K "Run") "__init__") := He.mkr_ok (T.c.fact 89 rfl)
theorem Tx.na_Run_old {w : World} {K : PySem.W.Frag} {mg : Str → Option Value} (T : Tx w K mg) : NoAttr K (He.ga K "Run") "old" := He.noat_ok (T.c.fact 90 rfl)
theorem Tx.na_Run_then {w : World} {K : PySem.W.Frag} {mg : Str → Option Value} (T : Tx w K mg) : NoAttr K (He.ga K "Run") "then" := He.noat_ok (T.c.fact 91 rfl)
theorem Tx.na_Run_names {w : World} {K : PySem.W.Frag} {mg : Str → Option Value} (T : Tx w K mg) : NoAttr K (He.ga K "Run") "names" := He.noat_ok (T.c.fact 92 rfl)
theorem Tx.cl_Lead {w : World} {K : PySem.W.Frag} {mg : Str → Option Value} (T : Tx w K mg) : Cls K (He.ga K "Lead") := He.cls_ok (T.c.fact 93 rfl)
theorem Tx.mk_Lead {w : World} {K : PySem.W.Frag} {mg : Str → Option Value} (T : Tx w K mg) : Mk K (He.ga K "Lead") (He.ma K (He.ga K "Lead") "__init__") := He.mkr_ok (T.c.fact 94 rfl)
theorem Tx.na_Lead_tests {w : World} {K : PySem.W.Frag} {mg : Str → Option Value} (T : Tx w K mg) : NoAttr K (He.ga K "Lead") "tests" := He.noat_ok (T.c.fact 95 rfl)
theorem Tx.na_Lead_old {w : World} {K : PySem.W.Frag} {mg : Str → Option Value} (T : Tx w K mg) : NoAttr K (He.ga K "Lead") "old" := He.noat_ok (T.c.fact 96 rfl)
theorem Tx.na_Lead_then {w : World} {K : PySem.W.Frag} {mg : Str → Option Value} (T : Tx w K mg) : NoAttr K (He.ga K "Lead") "then" := He.noat_ok (T.c.fact 97 rfl)
theorem Tx.na_Lead_names {w : World} {K : PySem.W.Frag} {mg : Str → Option Value} (T : Tx w K mg) : NoAttr K (He.ga K "Lead") "names" := He.noat_ok (T.c.fact 98 rfl)
theorem Tx.cl_Join {w : World} {K : PySem.W.Frag} {mg : Str → Option Value} (T : Tx w K mg) : Cls K (He.ga K "Join") := He.cls_ok (T.c.fact 99 rfl)
theorem Tx.mk_Join {w : World} {K : PySem.W.Frag} {mg : Str → Option Value} (T : Tx w K mg) : Mk K (He.ga K "Join") (He.ma K (He.ga K "Join") "__init__") := He.mkr_ok (T.c.fact 100 rfl)
theorem Tx.na_Join_here {w : World} {K : PySem.W.Frag} {mg : Str → Option Value} (T : Tx w K mg) : NoAttr K (He.ga K "Join") "here" := He.noat_ok (T.c.fact 101 rfl)
theorem Tx.na_Join_came {w : World} {K : PySem.W.Frag} {mg : Str → Option Value} (T : Tx w K mg) : NoAttr K (He.ga K "Join") "came" := He.noat_ok (T.c.fact 102 rfl)
theorem Tx.na_Join_then {w : World} {K : PySem.W.Frag} {mg : Str → Option Value} (T : Tx w K mg) : NoAttr K (He.ga K "Join") "then" := He.noat_ok (T.c.fact 103 rfl)
theorem Tx.na_Join_names {w : World} {K : PySem.W.Frag} {mg : Str → Option Value} (T : Tx w K mg) : NoAttr K (He.ga K "Join") "names" := He.noat_ok (T.c.fact 104 rfl)
theorem Tx.cl_Tool {w : World} {K : PySem.W.Frag} {mg : Str → Option Value} (T : Tx w K mg) : Cls K (He.ga K "Tool") := He.cls_ok (T.c.fact 105 rfl)
theorem Tx.mk_Tool {w : World} {K : PySem.W.Frag} {mg : Str → Option Value} (T : Tx w K mg) : Mk K (He.ga K "Tool") (He.ma K (He.ga K "Tool") "__init__") := He.mkr_ok (T.c.fact 106 rfl)
theorem Tx.na_Tool_marks {w : World} {K : PySem.W.Frag} {mg : Str → Option Value} (T : Tx w K mg) : NoAttr K (He.ga K "Tool") "marks" := He.noat_ok (T.c.fact 107 rfl)
theorem Tx.na_Tool_told {w : World} {K : PySem.W.Frag} {mg : Str → Option Value} (T : Tx w K mg) : NoAttr K (He.ga K "Tool") "told" := He.noat_ok (T.c.fact 108 rfl)
theorem Tx.na_Tool_parts {w : World} {K : PySem.W.Frag} {mg : Str → Option Value} (T : Tx w K mg) : NoAttr K (He.ga K "Tool") "parts" := He.noat_ok (T.c.fact 109 rfl)
theorem Tx.na_Tool_clears {w : World} {K : PySem.W.Frag} {mg : Str → Option Value} (T : Tx w K mg) : NoAttr K (He.ga K "Tool") "clears" := He.noat_ok (T.c.fact 110 rfl)
theorem Tx.na_Tool_rows {w : World} {K : PySem.W.Frag} {mg : Str → Option Value} (T : Tx w K mg) : NoAttr K (He.ga K "Tool") "rows" := He.noat_ok (T.c.fact 111 rfl)
theorem Tx.na_Tool_blank {w : World} {K : PySem.W.Frag} {mg : Str → Option Value} (T : Tx w K mg) : NoAttr K (He.ga K "Tool") "blank" := He.noat_ok (T.c.fact 112 rfl)
theorem Tx.cl_Single {w : World} {K : PySem.W.Frag} {mg : Str → Option Value} (T : Tx w K mg) : Cls K (He.ga K "Single") := He.cls_ok (T.c.fact 113 rfl)
theorem Tx.mk_Single {w : World} {K : PySem.W.Frag} {mg : Str → Option Value} (T : Tx w K mg) : Mk K (He.ga K "Single") (He.ma K (He.ga K "Single") "__init__") := He.mkr_ok (T.c.fact 114 rfl)
theorem Tx.na_Single_tool {w : World} {K : PySem.W.Frag} {mg : Str → Option Value} (T : Tx w K mg) : NoAttr K (He.ga K "Single") "tool" := He.noat_ok (T.c.fact 115 rfl)
theorem Tx.na_Single_begin {w : World} {K : PySem.W.Frag} {mg : Str → Option Value} (T : Tx w K mg) : NoAttr K (He.ga K "Single") "begin" := He.noat_ok (T.c.fact 116 rfl)
theorem Tx.cl_Ways {w : World} {K : PySem.W.Frag} {mg : Str → Option Value} (T : Tx w K mg) : Cls K (He.ga K "Ways") := He.cls_ok (T.c.fact 117 rfl)
theorem Tx.mk_Ways {w : World} {K : PySem.W.Frag} {mg : Str → Option Value} (T : Tx w K mg) : Mk K (He.ga K "Ways") (He.ma K (He.ga K "Ways") "__init__") := He.mkr_ok (T.c.fact 118 rfl)
theorem Tx.na_Ways_steps {w : World} {K : PySem.W.Frag} {mg : Str → Option Value} (T : Tx w K mg) : NoAttr K (He.ga K "Ways") "steps" := He.noat_ok (T.c.fact 119 rfl)
theorem Tx.na_Ways_machine {w : World} {K : PySem.W.Frag} {mg : Str → Option Value} (T : Tx w K mg) : NoAttr K (He.ga K "Ways") "machine" := He.noat_ok (T.c.fact 120 rfl)
theorem Tx.na_Ways_coming {w : World} {K : PySem.W.Frag} {mg : Str → Option Value} (T : Tx w K mg) : NoAttr K (He.ga K "Ways") "coming" := He.noat_ok (T.c.fact 121 rfl)
theorem Tx.na_Ways_hearings {w : World} {K : PySem.W.Frag} {mg : Str → Option Value} (T : Tx w K mg) : NoAttr K (He.ga K "Ways") "hearings" := He.noat_ok (T.c.fact 122 rfl)
theorem Tx.na_Ways_elders {w : World} {K : PySem.W.Frag} {mg : Str → Option Value} (T : Tx w K mg) : NoAttr K (He.ga K "Ways") "elders" := He.noat_ok (T.c.fact 123 rfl)
theorem Tx.cl_Meeting {w : World} {K : PySem.W.Frag} {mg : Str → Option Value} (T : Tx w K mg) : Cls K (He.ga K "Meeting") := He.cls_ok (T.c.fact 124 rfl)
theorem Tx.mk_Meeting {w : World} {K : PySem.W.Frag} {mg : Str → Option Value} (T : Tx w K mg) : Mk K (He.ga K "Meeting") (He.ma K (He.ga K "Meeting") "__init__") := He.mkr_ok (T.c.fact 125 rfl)
theorem Tx.na_Meeting_hearings {w : World} {K : PySem.W.Frag} {mg : Str → Option Value} (T : Tx w K mg) : NoAttr K (He.ga K "Meeting") "hearings" := He.noat_ok (T.c.fact 126 rfl)
theorem Tx.na_Meeting_item {w : World} {K : PySem.W.Frag} {mg : Str → Option Value} (T : Tx w K mg) : NoAttr K (He.ga K "Meeting") "item" := He.noat_ok (T.c.fact 127 rfl)
theorem Tx.na_Meeting_deeds {w : World} {K : PySem.W.Frag} {mg : Str → Option Value} (T : Tx w K mg) : NoAttr K (He.ga K "Meeting") "deeds" := He.noat_ok (T.c.fact 128 rfl)
theorem Tx.na_Meeting_waiting {w : World} {K : PySem.W.Frag} {mg : Str → Option Value} (T : Tx w K mg) : NoAttr K (He.ga K "Meeting") "waiting" := He.noat_ok (T.c.fact 129 rfl)
theorem Tx.cl_Told {w : World} {K : PySem.W.Frag} {mg : Str → Option Value} (T : Tx w K mg) : Cls K (He.ga K "Told") := He.cls_ok (T.c.fact 130 rfl)
theorem Tx.mk_Told {w : World} {K : PySem.W.Frag} {mg : Str → Option Value} (T : Tx w K mg) : Mk K (He.ga K "Told") (He.ma K (He.ga K "Told") "__init__") := He.mkr_ok (T.c.fact 131 rfl)
theorem Tx.na_Told_steps {w : World} {K : PySem.W.Frag} {mg : Str → Option Value} (T : Tx w K mg) : NoAttr K (He.ga K "Told") "steps" := He.noat_ok (T.c.fact 132 rfl)
theorem Tx.na_Told_machine {w : World} {K : PySem.W.Frag} {mg : Str → Option Value} (T : Tx w K mg) : NoAttr K (He.ga K "Told") "machine" := He.noat_ok (T.c.fact 133 rfl)
theorem Tx.na_Told_coming {w : World} {K : PySem.W.Frag} {mg : Str → Option Value} (T : Tx w K mg) : NoAttr K (He.ga K "Told") "coming" := He.noat_ok (T.c.fact 134 rfl)
theorem Tx.na_Told_hearings {w : World} {K : PySem.W.Frag} {mg : Str → Option Value} (T : Tx w K mg) : NoAttr K (He.ga K "Told") "hearings" := He.noat_ok (T.c.fact 135 rfl)
theorem Tx.me_Run_str {w : World} {K : PySem.W.Frag} {mg : Str → Option Value} (T : Tx w K mg) : Meth K (He.ga K "Run") "__str__" (He.ma K (He.ga K "Run") "__str__") := He.meth_ok (T.c.fact 136 rfl)
theorem Tx.me_Lead_str {w : World} {K : PySem.W.Frag} {mg : Str → Option Value} (T : Tx w K mg) : Meth K (He.ga K "Lead") "__str__" (He.ma K (He.ga K "Lead") "__str__") := He.meth_ok (T.c.fact 137 rfl)
theorem Tx.me_Join_str {w : World} {K : PySem.W.Frag} {mg : Str → Option Value} (T : Tx w K mg) : Meth K (He.ga K "Join") "__str__" (He.ma K (He.ga K "Join") "__str__") := He.meth_ok (T.c.fact 138 rfl)
theorem Tx.me_Single_machine_steps {w : World} {K : PySem.W.Frag} {mg : Str → Option Value} (T : Tx w K mg) : Meth K (He.ga K "Single") "machine_steps" (He.ma K (He.ga K "Single") "machine_steps") := He.meth_ok (T.c.fact 139 rfl)
theorem Tx.me_Single_led {w : World} {K : PySem.W.Frag} {mg : Str → Option Value} (T : Tx w K mg) : Meth K (He.ga K "Single") "led" (He.ma K (He.ga K "Single") "led") := He.meth_ok (T.c.fact 140 rfl)
theorem Tx.me_Single_joined {w : World} {K : PySem.W.Frag} {mg : Str → Option Value} (T : Tx w K mg) : Meth K (He.ga K "Single") "joined" (He.ma K (He.ga K "Single") "joined") := He.meth_ok (T.c.fact 141 rfl)
theorem Tx.me_Ways_edited {w : World} {K : PySem.W.Frag} {mg : Str → Option Value} (T : Tx w K mg) : Meth K (He.ga K "Ways") "edited" (He.ma K (He.ga K "Ways") "edited") := He.meth_ok (T.c.fact 142 rfl)
theorem Tx.me_Ways_heard {w : World} {K : PySem.W.Frag} {mg : Str → Option Value} (T : Tx w K mg) : Meth K (He.ga K "Ways") "heard" (He.ma K (He.ga K "Ways") "heard") := He.meth_ok (T.c.fact 143 rfl)
theorem Tx.me_Tool_need_mark {w : World} {K : PySem.W.Frag} {mg : Str → Option Value} (T : Tx w K mg) : Meth K (He.ga K "Tool") "need_mark" (He.ma K (He.ga K "Tool") "need_mark") := He.meth_ok (T.c.fact 144 rfl)
theorem Tx.me_Tool_is_told {w : World} {K : PySem.W.Frag} {mg : Str → Option Value} (T : Tx w K mg) : Meth K (He.ga K "Tool") "is_told" (He.ma K (He.ga K "Tool") "is_told") := He.meth_ok (T.c.fact 145 rfl)
theorem Tx.me_Tool_ran {w : World} {K : PySem.W.Frag} {mg : Str → Option Value} (T : Tx w K mg) : Meth K (He.ga K "Tool") "ran" (He.ma K (He.ga K "Tool") "ran") := He.meth_ok (T.c.fact 146 rfl)
theorem Tx.me_Tool_led {w : World} {K : PySem.W.Frag} {mg : Str → Option Value} (T : Tx w K mg) : Meth K (He.ga K "Tool") "led" (He.ma K (He.ga K "Tool") "led") := He.meth_ok (T.c.fact 147 rfl)
theorem Tx.me_Tool_joined {w : World} {K : PySem.W.Frag} {mg : Str → Option Value} (T : Tx w K mg) : Meth K (He.ga K "Tool") "joined" (He.ma K (He.ga K "Tool") "joined") := He.meth_ok (T.c.fact 148 rfl)
theorem Tx.me_Tool_keeps {w : World} {K : PySem.W.Frag} {mg : Str → Option Value} (T : Tx w K mg) : Meth K (He.ga K "Tool") "keeps" (He.ma K (He.ga K "Tool") "keeps") := He.meth_ok (T.c.fact 149 rfl)
theorem Tx.me_Tool_need_row {w : World} {K : PySem.W.Frag} {mg : Str → Option Value} (T : Tx w K mg) : Meth K (He.ga K "Tool") "need_row" (He.ma K (He.ga K "Tool") "need_row") := He.meth_ok (T.c.fact 150 rfl)
theorem Tx.me_Tool_but {w : World} {K : PySem.W.Frag} {mg : Str → Option Value} (T : Tx w K mg) : Meth K (He.ga K "Tool") "but" (He.ma K (He.ga K "Tool") "but") := He.meth_ok (T.c.fact 151 rfl)
theorem Tx.me_Tool_without {w : World} {K : PySem.W.Frag} {mg : Str → Option Value} (T : Tx w K mg) : Meth K (He.ga K "Tool") "without" (He.ma K (He.ga K "Tool") "without") := He.meth_ok (T.c.fact 152 rfl)
theorem Tx.me_Tool_heeding {w : World} {K : PySem.W.Frag} {mg : Str → Option Value} (T : Tx w K mg) : Meth K (He.ga K "Tool") "heeding" (He.ma K (He.ga K "Tool") "heeding") := He.meth_ok (T.c.fact 153 rfl)
theorem Tx.me_Tool_len {w : World} {K : PySem.W.Frag} {mg : Str → Option Value} (T : Tx w K mg) : Meth K (He.ga K "Tool") "__len__" (He.ma K (He.ga K "Tool") "__len__") := He.meth_ok (T.c.fact 154 rfl)
theorem Tx.me_Tool_eq {w : World} {K : PySem.W.Frag} {mg : Str → Option Value} (T : Tx w K mg) : Meth K (He.ga K "Tool") "__eq__" (He.ma K (He.ga K "Tool") "__eq__") := He.meth_ok (T.c.fact 155 rfl)
theorem Tx.me_Tool_str {w : World} {K : PySem.W.Frag} {mg : Str → Option Value} (T : Tx w K mg) : Meth K (He.ga K "Tool") "__str__" (He.ma K (He.ga K "Tool") "__str__") := He.meth_ok (T.c.fact 156 rfl)
theorem Tx.me_Told_is_closed {w : World} {K : PySem.W.Frag} {mg : Str → Option Value} (T : Tx w K mg) : Meth K (He.ga K "Told") "is_closed" (He.ma K (He.ga K "Told") "is_closed") := He.meth_ok (T.c.fact 157 rfl)
end Lm
set_option Elab.async false
set_option linter.all false
set_option maxRecDepth 100000
set_option maxHeartbeats 4000000
/-! Ledmarks k83: rules of my own over the layer. -/
namespace Lm
open PySem PySem.Spec PyProof.Rows L2
section
variable {X : Cx}
/-! ### names of the module, of built-ins -/
theorem pgr {x : Str} {a : Addr} {pos : Pos} (hm : X.mg x = some (.ref a)) (hg : Gl X x := by rfl) (hd : (x == ("__debug__" : Str)) = false := by decide) : PE X (.Name x pos) (tC (.ref a)) := pe_glob (v := .ref a) hg hm rfl hd
theorem pgs {x z : Str} {t : Tok} {pos : Pos} (hm : X.mg x = some (.str z t)) (hg : Gl X x := by rfl) (hd : (x == ("__debug__" : Str)) = false := by decide) : PE X (.Name x pos) (tC (.str z)) := pe_glob (v := .str z) hg hm ⟨t, rfl⟩ hd
theorem pty {x : Str} {n : String} {pos : Pos} (hm : X.mg x = none) (hv : bootBuiltins x = some (.type n) := by decide +kernel) (hg : Gl X x := by rfl) (hn : x ≠ "__name__" := by decide) (hd : (x == ("__debug__" : Str)) = false := by decide) : PE X (.Name x pos) (tC (.ty n)) :=
  pe_bltn (v := .ty n) hg hm hv rfl hn hd
/-- a built-in function by its name -/
theorem pb {x : Str} {p pos : Pos} {e : Expr} {es : List Expr} {t : TA} {id : String} {r : List V → Hp → VK → Prop} (hc : CallR X (.builtin id) r) (hm : X.mg x = none) (ha : PA X (e :: es) t) (hv : bootBuiltins x = some (.builtin id) := by decide +kernel) (hg : Gl X x := by rfl) (hn : x ≠ "__name__" := by decide)
    (hdb : (x == ("__debug__" : Str)) = false := by decide) (he : starEach (e :: es) X.env = (false, eval e X.env) :: starEach es X.env := by rfl) (hpl : (backTo pos (starEach es X.env)).any (·.1) = false := by rfl) : PE X (.Call (.Name x p) (e :: es) [] pos) (tCB r t) :=
  pe_callB hc hg hm hv ha hn hdb he hpl
/-- a built-in type called -/
theorem pbt {x : Str} {p pos : Pos} {e : Expr} {es : List Expr} {t : TA} {T : String} {r : List V → Hp → VK → Prop} (hc : CallR X (.type T) r) (hm : X.mg x = none) (ha : PA X (e :: es) t) (hv : bootBuiltins x = some (.type T) := by decide +kernel) (hg : Gl X x := by rfl) (hn : x ≠ "__name__" := by decide)
    (hdb : (x == ("__debug__" : Str)) = false := by decide) (he : starEach (e :: es) X.env = (false, eval e X.env) :: starEach es X.env := by rfl) (hpl : (backTo pos (starEach es X.env)).any (·.1) = false := by rfl) : PE X (.Call (.Name x p) (e :: es) [] pos) (tCB r t) :=
  pe_callTy hc hg hm hv ha hn hdb he hpl
theorem pa1 {e : Expr} {te : TE} (h : PE X e te) (hs : starEach [e] X.env = (false, eval e X.env) :: starEach [] X.env := by rfl) : PA X [e] (tCons te tNil) := pa_cons h pa_nil hs
theorem pa2 {e f : Expr} {te tf : TE} (h : PE X e te) (h2 : PE X f tf) (hs : starEach [e, f] X.env = (false, eval e X.env) :: starEach [f] X.env := by rfl) (hs2 : starEach [f] X.env = (false, eval f X.env) :: starEach [] X.env := by rfl) : PA X [e, f] (tCons te (tCons tf tNil)) := pa_cons h (pa1 h2 hs2) hs
/-! ### isinstance -/
theorem tyx_seqT {K : PySem.W.Frag} {H : Hp} {a : Addr} {xs : List V} (h : SqT K H a xs) : TyX K H (.ref a) (.type "tuple") := by
  rcases h with (h | ⟨o, h⟩) | ⟨o, its, n, e, c, _⟩
  · exact .base (.tup h)
  · exact .fTuple h
  · exact .kTuple e c
theorem tyx_seqL {K : PySem.W.Frag} {H : Hp} {a : Addr} {xs : List V} (h : SqL K H a xs) : TyX K H (.ref a) (.type "list") := by
  rcases h with (h | ⟨o, h⟩) | ⟨o, its, n, e, c, _⟩
  · exact .base (.lst h)
  · exact .base (.frz h)
  · exact .kList e c
theorem isi_str : CallR X (.builtin "isinstance") (fun xs H Q => ∃ z, xs = [.str z, .ty "str"] ∧ Q (.bl true) H) := by
  intro pins s σ H xs us Q I r h
  obtain ⟨z, e, q⟩ := h
  exact call_isi pins s σ H xs us Q I r ⟨_, _, _, _, true, e, .ty _, .base (.str z), kit_ty (by decide +kernel), q⟩
theorem isi_bool : CallR X (.builtin "isinstance") (fun xs H Q => ∃ z, xs = [.bl z, .ty "bool"] ∧ Q (.bl true) H) := by
  intro pins s σ H xs us Q I r h
  obtain ⟨z, e, q⟩ := h
  exact call_isi pins s σ H xs us Q I r ⟨_, _, _, _, true, e, .ty _, .base (.bl z), kit_ty (by decide +kernel), q⟩
theorem isi_tup : CallR X (.builtin "isinstance") (fun xs H Q => ∃ a ys, xs = [.ref a, .ty "tuple"] ∧ SqT X.K H a ys ∧ Q (.bl true) H) := by
  intro pins s σ H xs us Q I r h
  obtain ⟨a, ys, e, hs, q⟩ := h
  exact call_isi pins s σ H xs us Q I r ⟨_, _, _, _, true, e, .ty _, tyx_seqT hs, kit_ty (by decide +kernel), q⟩
theorem kitAny2 {K : PySem.W.Frag} {a : String} (h : a = "list" ∨ a = "tuple") : PySem.W.kitAny K (.type a) [.type "list", .type "tuple"] = some true := by
  rcases h with rfl | rfl
  · have e : PySem.W.kitOne K (.type "list") (.type "list") = some true := kit_ty (by decide +kernel)
    unfold PySem.W.kitAny
    rw [e]
  · have e : PySem.W.kitOne K (.type "tuple") (.type "list") = some false := kit_ty (by decide +kernel)
    have e2 : PySem.W.kitOne K (.type "tuple") (.type "tuple") = some true := kit_ty (by decide +kernel)
    unfold PySem.W.kitAny
    rw [e]
    show PySem.W.kitAny K (.type "tuple") [.type "tuple"] = some true
    unfold PySem.W.kitAny
    rw [e2]
theorem isi_seq : CallR X (.builtin "isinstance") (fun xs H Q => ∃ a t ys, xs = [.ref a, .ref t] ∧ H t = some (.tup [.ty "list", .ty "tuple"]) ∧ (SqL X.K H a ys ∨ SqT X.K H a ys) ∧ Q (.bl true) H) := by
  intro pins s σ H xs us Q I r h
  obtain ⟨a, t, ys, e, ht, hs, q⟩ := h
  rcases hs with hs | hs
  · exact call_isiT pins s σ H xs us Q I r ⟨_, _, _, _, [.type "list", .type "tuple"], true, e, ht, .cons (.ty _) (.cons (.ty _) .nil), tyx_seqL hs, kitAny2 (.inl rfl), q⟩
  · exact call_isiT pins s σ H xs us Q I r ⟨_, _, _, _, [.type "list", .type "tuple"], true, e, ht, .cons (.ty _) (.cons (.ty _) .nil), tyx_seqT hs, kitAny2 (.inr rfl), q⟩
/-- own classes: the answer b of kitK -/
theorem isi_own {w : World} {mg : Str → Option Value} {C D : Str} {b : Bool} (cl : Cls X.K (He.ga X.K C)) (h1 : isiB X.K (He.ga X.K C) = true)
    (h2 : PySem.W.specialIn X.K (.builtin "object.__class__") "__get__" = some (some (.builtin "getset_descriptor.__get__"))) (h3 : PySem.W.takesIn X.K (.builtin "object.__class__") = some true) (h4 : kitK X.K C D b = true) :
    CallR X (.builtin "isinstance") (fun xs H Q => ∃ a dx fs, xs = [.ref a, .ref (He.ga X.K D)] ∧ H a = some (.ins (He.ga X.K C) dx fs) ∧ Q (.bl b) H) := by
  intro pins s σ H xs us Q I r h
  obtain ⟨a, dx, fs, e, ha, q⟩ := h
  obtain ⟨k1, k2⟩ := He.ba h1
  exact call_isi pins s σ H xs us Q I r ⟨_, _, _, _, b, e, .own _, .base (.ins ha cl (He.eqO_ok k1) h2 h3 (of_decide_eq_true k2)), of_decide_eq_true h4, q⟩
end
section
variable {w : World} {K : PySem.W.Frag} {mg : Str → Option Value}
theorem ck_split (c : Says w K) : He.tupB K "BARRED" (stx ["and", "any", "came", "here", "not", "own", "to"]) = true ∧ He.tupB K "PARTS" (stx ["above", "below", "own"]) = true ∧ He.tupB K "ORDER" (stx ["above", "own", "below"]) = true ∧
    He.tupB K "FAULTS" (stx ["fallen", "false", "missed", "order", "twice"]) = true ∧ He.tupB K "ANY" (stx ["any"]) = true ∧ He.tupB K "SIDES" (stx ["here", "came"]) = true ∧ eightB K = true ∧
    He.valsB K (He.ga K "SENDS") [("send clear", .bl true), ("send keep", .bl false)] = true ∧ cmB K "Row" "read" = true ∧ cmB K "Tool" "read" = true ∧
    isiB K (He.ga K "Run") = true ∧ isiB K (He.ga K "Lead") = true ∧ isiB K (He.ga K "Join") = true ∧ isiB K (He.ga K "Tool") = true ∧
    PySem.W.specialIn K (.builtin "object.__class__") "__get__" = some (some (.builtin "getset_descriptor.__get__")) ∧ PySem.W.takesIn K (.builtin "object.__class__") = some true ∧
    kitK K "Run" "Run" true = true ∧ kitK K "Run" "Lead" false = true ∧ kitK K "Run" "Join" false = true ∧ kitK K "Run" "Row" true = true ∧
    kitK K "Lead" "Run" false = true ∧ kitK K "Lead" "Lead" true = true ∧ kitK K "Lead" "Join" false = true ∧ kitK K "Lead" "Row" true = true ∧
    kitK K "Join" "Run" false = true ∧ kitK K "Join" "Lead" false = true ∧ kitK K "Join" "Join" true = true ∧ kitK K "Join" "Row" true = true ∧
    kitK K "Tool" "Tool" true = true ∧ PySem.W.findIn K (.ref (He.ga K "Tool")) "__ne__" = some (some (.builtin "object.__ne__")) ∧ PySem.W.keepIn K (.ref (He.ga K "Tool")) = true ∧ ordB K = true := by
  have h := c.chk
  unfold ck at h
  simp only [Bool.and_eq_true] at h
  obtain ⟨h1, h2, h3, h4, h5, h6, h7, h8, h9, h10, h11, h12, h13, h14, h15, h16, h⟩ := h
  obtain ⟨k1, k2, k3, k4, k5, k6, k7, k8, k9, k10, k11, k12, k13, h⟩ := h
  exact ⟨h1, h2, h3, h4, h5, h6, h7, h8, h9, h10, h11, h12, h13, h14, He.eqO_ok h15, of_decide_eq_true h16, k1, k2, k3, k4, k5, k6, k7, k8, k9, k10, k11, k12, k13, He.eqO_ok h.1, h.2.1, h.2.2⟩
def sv (l : List Str) : List V := l.map V.str
def barred : List Str := ["and", "any", "came", "here", "not", "own", "to"]
def partsL : List Str := ["above", "below", "own"]
def orderL : List Str := ["above", "own", "below"]
def faultsL : List Str := ["fallen", "false", "missed", "order", "twice"]
def anyL : List Str := ["any"]
def sidesL : List Str := ["here", "came"]
theorem stx_v (l : List Str) : (stx l).map (He.Dv.v K) = sv l := by
  unfold stx sv
  rw [List.map_map]
  rfl
theorem Tx.t_BARRED (T : Tx w K mg) (H : Hp) : SqT K H (He.ga K "BARRED") (sv barred) := by rw [← stx_v (K := K)]; exact He.tupB_ok (ck_split T.c).1 H
theorem Tx.t_PARTS (T : Tx w K mg) (H : Hp) : SqT K H (He.ga K "PARTS") (sv partsL) := by rw [← stx_v (K := K)]; exact He.tupB_ok (ck_split T.c).2.1 H
theorem Tx.t_ORDER (T : Tx w K mg) (H : Hp) : SqT K H (He.ga K "ORDER") (sv orderL) := by rw [← stx_v (K := K)]; exact He.tupB_ok (ck_split T.c).2.2.1 H
theorem Tx.t_FAULTS (T : Tx w K mg) (H : Hp) : SqT K H (He.ga K "FAULTS") (sv faultsL) := by rw [← stx_v (K := K)]; exact He.tupB_ok (ck_split T.c).2.2.2.1 H
theorem Tx.t_ANY (T : Tx w K mg) (H : Hp) : SqT K H (He.ga K "ANY") (sv anyL) := by rw [← stx_v (K := K)]; exact He.tupB_ok (ck_split T.c).2.2.2.2.1 H
theorem Tx.t_SIDES (T : Tx w K mg) (H : Hp) : SqT K H (He.ga K "SIDES") (sv sidesL) := by rw [← stx_v (K := K)]; exact He.tupB_ok (ck_split T.c).2.2.2.2.2.1 H
end
/-! ### loops and comprehensions, closed up for the walk -/
def LcW (J : It) (g : TG) (tt : TT) (te : TE) (vs : List Nat) (σ : L2.St) (H1 : Hp) (D : Addr) (Qd : Hp → Prop) : Prop :=
  ∃ W : Nat → Nat → Hp → Prop, (∃ m, W 0 m (upd H1 D (.lst []))) ∧ ∀ i m H, W i m H → (J.stop i H ∧ Qd H) ∨
    (J.go i H ∧ ∃ Nx : Hp → Prop, (∀ H', Nx H' → ∃ m', m' < m ∧ W (i + 1) m' H') ∧ ∀ x H', J.yld i H x H' → g x (wipe σ vs) H' fun σ2 H2 => wipe σ2 vs = wipe σ vs ∧ tt σ2 H2 fun b H3 =>
      if b = true then te σ2 H3 fun y H4 => ∃ acc, H4 D = some (.lst acc) ∧ acc.length < sizeLine ∧ Nx (upd H4 D (.lst (acc ++ [y]))) else Nx H3)
theorem r_tLc (wi : TI) (g : TG) (tt : TT) (te : TE) (vs : List Nat) (σ : L2.St) (H : Hp) (Q : VK) : tLc wi g tt te vs σ H Q = wi σ H fun J H1 => ∀ D, H1 D = none → LcW J g tt te vs σ H1 D fun H' => Q (.ref D) H' := rfl
def ForW (J : It) (g : TG) (tb : TS) (D : Ends) (σ : L2.St) (H1 : Hp) : Prop := ∃ W : Nat → Nat → L2.St → Hp → Prop, (∃ m, W 0 m σ H1) ∧ ∀ i m σ H, W i m σ H → (J.stop i H ∧ D.nx σ H) ∨
  (J.go i H ∧ ∃ N : L2.St → Hp → Prop, (∀ σ' H', N σ' H' → ∃ m', m' < m ∧ W (i + 1) m' σ' H') ∧ ∀ x H', J.yld i H x H' → g x σ H' fun σ2 H2 => tb { D with nx := N, ct := N, bk := D.nx } σ2 H2)
theorem r_tFor (wi : TI) (g : TG) (tb : TS) (D : Ends) (σ : L2.St) (H : Hp) : tFor wi g tb D σ H = wi σ H fun J H1 => ForW J g tb D σ H1 := rfl
theorem r_wipe0 (σ : L2.St) : wipe σ [] = σ := rfl
theorem r_wipe1 (σ : L2.St) (v : Nat) (vs : List Nat) : wipe σ (v :: vs) = (wipe σ vs).set v none := rfl
/-! ### comprehensions whose step makes things and changes nothing -/
theorem take_snoc {α : Type} {xs : List α} {i : Nat} {x : α} (h : xs[i]? = some x) : xs.take (i + 1) = xs.take i ++ [x] := by
  rw [List.take_add_one, h]
  rfl
section
variable {J : It} {n : Nat} {G : Hp → Prop} {xs : List V} {g : TG} {tt : TT} {te : TE} {vs : List Nat} {σ : L2.St} {H1 : Hp} {D : Addr} {Qd : Hp → Prop}
/-- items that meet Rl of the kept ones, in their order -/
theorem lcW (wk : Walk J n G (YAt xs)) (hn : n = xs.length) (hz : xs.length ≤ 1000) (hD : H1 D = none) (keep : V → Bool) (Rl : V → V → Hp → Prop)
    (mono : ∀ x y H H', Ex [D] H H' → Imm H H' → Rl x y H → Rl x y H') (hG : ∀ H, Same H1 H → G H)
    (hs : ∀ x ∈ xs, ∀ H, Same H1 H → H D ≠ none → ∀ (Ky : V → Hp → Prop) (Kn : Hp → Prop), (keep x = true → ∀ y H', Same H H' → Rl x y H' → Ky y H') → (keep x = false → ∀ H', Same H H' → Kn H') →
      g x (wipe σ vs) H fun σ2 H2 => wipe σ2 vs = wipe σ vs ∧ tt σ2 H2 fun b H3 => if b = true then te σ2 H3 Ky else Kn H3)
    (hd : ∀ H' ys, Same H1 H' → H' D = some (.lst ys) → Paired (fun x y => Rl x y H') (xs.filter keep) ys → Qd H') :
    LcW J g tt te vs σ H1 D Qd := by
  refine lc_it wk (fun i H => Same H1 H ∧ ∃ ys, H D = some (.lst ys) ∧ ys.length ≤ i ∧ Paired (fun x y => Rl x y H) ((xs.take i).filter keep) ys) ⟨same_new hD, [], upd_same, Nat.le_refl _, ?_⟩ (fun i H _ p => hG H p.1) ?_ ?_
  · rw [List.take_zero]
    exact .nil
  · rintro i x H H' hi ⟨s, ys, e, hl, p⟩ ⟨rfl, hx⟩
    refine hs x (List.mem_of_getElem? hx) _ s (by rw [e]; exact Option.some_ne_none _) _ _ (fun hk y H' s' r => ⟨ys, s' _ _ e, by have : ys.length < sizeLine := Nat.lt_of_le_of_lt hl (Nat.lt_trans (by omega : i < 1000) (by decide)); exact this, fun b o eb => ?_, ys ++ [y], upd_same, by rw [List.length_append]; exact Nat.add_le_add_right hl 1, ?_⟩) (fun hk H' s' => ⟨s.trans s', ys, s' _ _ e, Nat.le_succ_of_le hl, ?_⟩)
    · rw [upd_ne (ne_of_none eb hD)]
      exact s' _ _ (s _ _ eb)
    · have i2 : Imm H' (upd H' D (.lst (ys ++ [y]))) := imm_put (s' _ _ e) rfl
      have e2 : Ex [D] H' (upd H' D (.lst (ys ++ [y]))) := Ex.put (by simp)
      rw [take_snoc hx, List.filter_append, List.filter_cons_of_pos hk, List.filter_nil]
      exact Paired.snoc (L2.Paired.mapP p fun a b z => mono a b _ _ (Ex.trans (Ex.of_same s') e2) ((Imm.of_same s').trans i2) z) (mono _ _ _ _ e2 i2 r)
    · rw [take_snoc hx, List.filter_append, List.filter_cons_of_neg (by rw [hk]; exact Bool.false_ne_true), List.filter_nil, List.append_nil]
      exact L2.Paired.mapP p fun a b z => mono a b _ _ (Ex.of_same s') (Imm.of_same s') z
  · rintro H ⟨s, ys, e, hl, p⟩
    refine hd H ys s e ?_
    rw [hn, List.take_of_length_le (Nat.le_refl _)] at p
    exact p
theorem paired_map {α β : Type} {f : α → β} : ∀ {l : List α} {m : List β}, Paired (fun x y => y = f x) l m → m = l.map f
  | _, _, .nil => rfl
  | _, _, .cons e t => by rw [e, paired_map t, List.map_cons]
/-- items that are f of the kept ones -/
theorem lcF (wk : Walk J n G (YAt xs)) (hn : n = xs.length) (hz : xs.length ≤ 1000) (hD : H1 D = none) (keep : V → Bool) (f : V → V) (hG : ∀ H, Same H1 H → G H)
    (hs : ∀ x ∈ xs, ∀ H, Same H1 H → H D ≠ none → ∀ (Ky : V → Hp → Prop) (Kn : Hp → Prop), (keep x = true → ∀ H', Same H H' → Ky (f x) H') → (keep x = false → ∀ H', Same H H' → Kn H') →
      g x (wipe σ vs) H fun σ2 H2 => wipe σ2 vs = wipe σ vs ∧ tt σ2 H2 fun b H3 => if b = true then te σ2 H3 Ky else Kn H3)
    (hd : ∀ H', Same H1 H' → H' D = some (.lst ((xs.filter keep).map f)) → Qd H') :
    LcW J g tt te vs σ H1 D Qd :=
  lcW wk hn hz hD keep (fun x y _ => y = f x) (fun _ _ _ _ _ _ e => e) hG (fun x hx H s nd Ky Kn ky kn => hs x hx H s nd Ky Kn (fun hk H' s' => ky hk _ H' s' rfl) kn) fun H' ys s e p => hd H' s (by rw [e, paired_map p])
/-- .. all kept -/
theorem lcA (wk : Walk J n G (YAt xs)) (hn : n = xs.length) (hz : xs.length ≤ 1000) (hD : H1 D = none) (f : V → V) (hG : ∀ H, Same H1 H → G H)
    (hs : ∀ x ∈ xs, ∀ H, Same H1 H → H D ≠ none → ∀ (Ky : V → Hp → Prop), (∀ H', Same H H' → Ky (f x) H') → g x (wipe σ vs) H fun σ2 H2 => wipe σ2 vs = wipe σ vs ∧ te σ2 H2 Ky)
    (hd : ∀ H', Same H1 H' → H' D = some (.lst (xs.map f)) → Qd H') :
    LcW J g tYes te vs σ H1 D Qd :=
  lcF wk hn hz hD (fun _ => true) f hG (fun x hx H s nd Ky Kn ky _ => hs x hx H s nd Ky fun H' s' => ky rfl H' s') fun H' s e => hd H' s (by rw [e, List.filter_eq_self.mpr (fun _ _ => rfl)])
end
theorem walk_strA {z : Str} : Walk (Its z) z.cps.size (fun _ => True) (YAt (z.cps.toList.map fun c => V.str ⟨#[c]⟩)) :=
  walk_str.mono (fun _ h => h) fun i H x H' hi _ ⟨e, c, h1, h2⟩ => ⟨e, by rw [List.getElem?_map, h2, Array.getElem?_toList, h1]; rfl⟩
theorem Same.seqT {K : PySem.W.Frag} {H H' : Hp} {a : Addr} {xs : List V} (e : Same H H') (h : SqT K H a xs) : SqT K H' a xs := by
  rcases h with (h | ⟨o, h⟩) | h
  · exact .inl (.inl (e _ _ h))
  · exact .inl (.inr ⟨o, e _ _ h⟩)
  · exact .inr h
theorem cx_K {CX : CXT} {P : Program} {w : World} {K : PySem.W.Frag} {mg : Str → Option Value} {base : Heap} {N : List Str} {qual : Str} {scope : Scope} {f : Addr} {cd : Value} {A : Around} {outer : List Env} {s : Shared} {H : Hp} {E : XK} :
    (cxOf CX P w K mg base N qual scope f cd A outer s H E).K = K := rfl
theorem len_ok {n : Nat} (h : n ≤ 1000) : n ≤ sizeLine := Nat.le_trans h (by decide)
theorem len_lt {n : Nat} (h : n ≤ 1000) : n < sizeLine := Nat.lt_of_le_of_lt h (by decide)
/-- in, over texts -/
theorem inV_str (z : Str) (l : List Str) : inV (.str z) (sv l) = l.any fun y => decide (y = z) := by
  unfold inV sv
  rw [List.any_map]
  rfl
theorem flat_sv (l : List Str) : (sv l).all flatV = true := by
  unfold sv
  rw [List.all_map]
  exact List.all_eq_true.mpr fun _ _ => rfl
/-! ### terms in short -/
section
variable {X : Cx} {N ps : List Str} {sc : Scope} {iter elt c kx : Expr} {x : Str} {scope : Scope} {pos p1 : Pos} {wi w2 : TI} {te tk : TE} {tc : TT}
theorem pi_or {tg : Expr} (h : PI X tg iter wi) (h2 : PI X tg iter w2) : PI X tg iter (fun σ H R => wi σ H R ∨ w2 σ H R) :=
  ⟨fun pins s σ H R I q => q.elim (h.run pins s σ H R I) (h2.run pins s σ H R I)⟩
/-- a list or a tuple walked -/
def iSeq (K : PySem.W.Frag) (te : TE) : TI := fun σ H R => iList K te σ H R ∨ iTup K te σ H R
theorem pi_seq {tg : Expr} (h : PE X iter te) : PI X tg iter (iSeq X.K te) := pi_or (pi_list h) (pi_tup h)
abbrev BF (α : Type) : Type := Shared → Hp → Addr → List (Str × Addr) → List Addr → α
abbrev bf {α : Type} (X : Cx) (f : BF α) : α := f X.s_0 X.H_0 0 [] []
variable {tf kf : BF TE} {cf : BF TT}
theorem plc (S : FnScope N ps sc) (i : Nat) (hi : PI X (.Name x p1) iter wi) (he : ∀ (s : Shared) (H : Hp) (C : Addr) (cl : List (Str × Addr)) (fp : List Addr), PE (X.blk s H scope (compEnvC scope cl C X.env) fp) elt (tf s H C cl fp))
    (ok : blkC N sc scope [(x, i)] = true := by decide +kernel) (eN : X.N = N := by rfl) (eS : X.env.scope = sc := by rfl) (hx : X.N[i]? = some x := by rfl) (hc : X.calm = true := by rfl) (hf : ∀ s H C cl fp, tf s H C cl fp = bf X tf := by intros; rfl)
    (hL : ∀ (cl : List (Str × Addr)) (C : Addr), (compEnvC scope cl C X.env).scope.names.lookup x = some .local := by intro _ _; rfl) (hs : ∀ y, foldedSetIterable iter X.env y = pure y := by intro _; rfl) :
    PE X (.ListComp elt [⟨.Name x p1, iter, [], 0⟩] scope pos) (tLc wi (gName i) tYes (bf X tf) [i]) :=
  have hN : X.N.Nodup := eN ▸ S.nd
  pe_lc (own := [(x, i)]) hc hN hi (by rw [eN, eS]; exact blkOk_by ok) (fun s H C cl fp => pg_name (i := i) hN hx (.inl (hL cl C)) (.inr (hL cl C))) (fun _ _ _ _ _ => pts_nil) (fun s H C cl fp => by rw [← hf s H C cl fp]; exact he s H C cl fp) hs
theorem plcI (S : FnScope N ps sc) (i : Nat) (hi : PI X (.Name x p1) iter wi) (ht : ∀ (s : Shared) (H : Hp) (C : Addr) (cl : List (Str × Addr)) (fp : List Addr), PT (X.blk s H scope (compEnvC scope cl C X.env) fp) c (cf s H C cl fp))
    (he : ∀ (s : Shared) (H : Hp) (C : Addr) (cl : List (Str × Addr)) (fp : List Addr), PE (X.blk s H scope (compEnvC scope cl C X.env) fp) elt (tf s H C cl fp))
    (ok : blkC N sc scope [(x, i)] = true := by decide +kernel) (eN : X.N = N := by rfl) (eS : X.env.scope = sc := by rfl) (hx : X.N[i]? = some x := by rfl) (hc : X.calm = true := by rfl) (hf : ∀ s H C cl fp, tf s H C cl fp = bf X tf := by intros; rfl) (hf2 : ∀ s H C cl fp, cf s H C cl fp = bf X cf := by intros; rfl)
    (hL : ∀ (cl : List (Str × Addr)) (C : Addr), (compEnvC scope cl C X.env).scope.names.lookup x = some .local := by intro _ _; rfl) (hs : ∀ y, foldedSetIterable iter X.env y = pure y := by intro _; rfl) :
    PE X (.ListComp elt [⟨.Name x p1, iter, [c], 0⟩] scope pos) (tLc wi (gName i) (bf X cf) (bf X tf) [i]) :=
  have hN : X.N.Nodup := eN ▸ S.nd
  pe_lc (own := [(x, i)]) hc hN hi (by rw [eN, eS]; exact blkOk_by ok) (fun s H C cl fp => pg_name (i := i) hN hx (.inl (hL cl C)) (.inr (hL cl C))) (fun s H C cl fp => pts_one (by rw [← hf2 s H C cl fp]; exact ht s H C cl fp)) (fun s H C cl fp => by rw [← hf s H C cl fp]; exact he s H C cl fp) hs
theorem pdc (S : FnScope N ps sc) (i : Nat) (hi : PI X (.Name x p1) iter wi) (hk : ∀ (s : Shared) (H : Hp) (C : Addr) (cl : List (Str × Addr)) (fp : List Addr), PE (X.blk s H scope (compEnvC scope cl C X.env) fp) kx (kf s H C cl fp))
    (he : ∀ (s : Shared) (H : Hp) (C : Addr) (cl : List (Str × Addr)) (fp : List Addr), PE (X.blk s H scope (compEnvC scope cl C X.env) fp) elt (tf s H C cl fp))
    (ok : blkC N sc scope [(x, i)] = true := by decide +kernel) (eN : X.N = N := by rfl) (eS : X.env.scope = sc := by rfl) (hx : X.N[i]? = some x := by rfl) (hc : X.calm = true := by rfl) (hf : ∀ s H C cl fp, tf s H C cl fp = bf X tf := by intros; rfl) (hf2 : ∀ s H C cl fp, kf s H C cl fp = bf X kf := by intros; rfl)
    (hL : ∀ (cl : List (Str × Addr)) (C : Addr), (compEnvC scope cl C X.env).scope.names.lookup x = some .local := by intro _ _; rfl) (hs : ∀ y, foldedSetIterable iter X.env y = pure y := by intro _; rfl) :
    PE X (.DictComp kx elt [⟨.Name x p1, iter, [], 0⟩] scope pos) (tDc wi (gName i) tYes (bf X kf) (bf X tf) [i]) :=
  have hN : X.N.Nodup := eN ▸ S.nd
  pe_dc (own := [(x, i)]) hc hN hi (by rw [eN, eS]; exact blkOk_by ok) (fun s H C cl fp => pg_name (i := i) hN hx (.inl (hL cl C)) (.inr (hL cl C))) (fun _ _ _ _ _ => pts_nil) (fun s H C cl fp => by rw [← hf2 s H C cl fp]; exact hk s H C cl fp) (fun s H C cl fp => by rw [← hf s H C cl fp]; exact he s H C cl fp) hs
end
section
variable {J : It} {n : Nat} {G : Hp → Prop} {xs : List V} {g : TG} {tt : TT} {te : TE} {vs : List Nat} {σ : L2.St} {H1 : Hp} {D : Addr} {Qd : Hp → Prop} {K : PySem.W.Frag} {a : Addr}
def SqS (K : PySem.W.Frag) (H : Hp) (a : Addr) (xs : List V) : Prop := SqL K H a xs ∨ SqT K H a xs
theorem Same.seqS {H H' : Hp} (e : Same H H') (h : SqS K H a xs) : SqS K H' a xs := h.elim (fun h => .inl (e.seq h)) fun h => .inr (Same.seqT e h)
end
def DcW (J : It) (g : TG) (tt : TT) (tk tv : TE) (vs : List Nat) (σ : L2.St) (H1 : Hp) (D : Addr) (Qd : Hp → Prop) : Prop := ∃ W : Nat → Nat → Hp → Prop, (∃ m, W 0 m (upd H1 D (.dK []))) ∧ ∀ i m H, W i m H → (J.stop i H ∧ Qd H) ∨
  (J.go i H ∧ ∃ Nx : Hp → Prop, (∀ H', Nx H' → ∃ m', m' < m ∧ W (i + 1) m' H') ∧ ∀ x H', J.yld i H x H' → g x (wipe σ vs) H' fun σ2 H2 => wipe σ2 vs = wipe σ vs ∧ tt σ2 H2 fun b H3 =>
    if b = true then tk σ2 H3 fun y H4 => tv σ2 H4 fun z H5 => ∃ kvs k, y = kV k ∧ H5 D = some (.dK kvs) ∧ kvs.length < sizeLine ∧ Nx (upd H5 D (.dK (putK kvs k z))) else Nx H3)
theorem r_tDc (wi : TI) (g : TG) (tt : TT) (tk tv : TE) (vs : List Nat) (σ : L2.St) (H : Hp) (Q : VK) : tDc wi g tt tk tv vs σ H Q = wi σ H fun J H1 => ∀ D, H1 D = none → DcW J g tt tk tv vs σ H1 D fun H' => Q (.ref D) H' := rfl
section
variable {J : It} {n : Nat} {G : Hp → Prop} {g : TG} {tk tv : TE} {vs : List Nat} {σ : L2.St} {H1 : Hp} {D : Addr} {Qd : Hp → Prop}
/-- {z: True for z in l}, the texts l all unlike: its size is l's -/
theorem dcN {l : List Str} {p : Nat} (wk : Walk J n G (YAt (sv l))) (hn : n = l.length) (hz : l.length ≤ 1000) (nd : l.Nodup) (hD : H1 D = none) (hG : ∀ H, Same H1 H → G H) (hp : p < σ.length)
    (hd : ∀ H' kvs, Same H1 H' → H' D = some (.dK kvs) → kvs.length = l.length → Qd H') : DcW J (gName p) tYes (tVar p) (tC (.bl true)) [p] σ H1 D Qd := by
  refine ⟨fun i m H => m = n - i ∧ i ≤ n ∧ Same H1 H ∧ H D = some (.dK ((l.take i).map fun z => ((Sum.inr z : Key), V.bl true))), ⟨n, by simp, Nat.zero_le _, same_new hD, upd_same⟩, ?_⟩
  rintro i m H ⟨rfl, hi, s, e⟩
  by_cases hlt : i < n
  · refine .inr ⟨wk.goes i H hlt (hG H s), fun H' => Same H1 H' ∧ H' D = some (.dK ((l.take (i + 1)).map fun z => ((Sum.inr z : Key), V.bl true))), fun H' q => ⟨n - (i + 1), by omega, rfl, hlt, q⟩, fun x H' y => ?_⟩
    obtain ⟨rfl, hx⟩ := wk.yields i H x H' hlt (hG H s) y
    have hil : i < l.length := by omega
    have hx2 : x = .str l[i] := by
      have h3 : (sv l)[i]? = some (V.str l[i]) := by
        unfold sv
        rw [List.getElem?_map, List.getElem?_eq_getElem hil]
        rfl
      rw [h3] at hx
      exact (Option.some.inj hx).symm
    subst hx2
    have hlen : ((σ.set p none).set p (some (V.str l[i])))[p]? = some (some (V.str l[i])) := List.getElem?_set_self (by rw [List.length_set]; exact hp)
    refine ⟨by
      show (((σ.set p none).set p (some (V.str l[i]))).set p none) = σ.set p none
      rw [List.set_set, List.set_set], ?_⟩
    refine ⟨_, hlen, _, Sum.inr l[i], rfl, e, ?_, ?_, ?_⟩
    · rw [List.length_map, List.length_take]
      exact len_lt (Nat.le_trans (Nat.min_le_right _ _) hz)
    · intro b o eb
      rw [upd_ne (ne_of_none eb hD)]
      exact s _ _ eb
    · rw [upd_same, take_snoc (List.getElem?_eq_getElem hil), List.map_append]
      rw [putK_new]
      · rfl
      · have nm : ¬ l[i] ∈ l.take i := fun hm => by
          obtain ⟨j, hj, ej⟩ := List.getElem_of_mem hm
          rw [List.length_take] at hj
          rw [List.getElem_take] at ej
          have := (List.getElem_inj nd).mp ej
          omega
        cases q : valV ((l.take i).map fun z => ((Sum.inr z : Key), V.bl true)) (Sum.inr l[i]) with
        | none => rfl
        | some v =>
          have h5 := valV_in q
          rw [List.map_map] at h5
          obtain ⟨z, hz1, hz2⟩ := List.mem_map.mp h5
          have hz3 : z = l[i] := Sum.inr.inj hz2
          rw [hz3] at hz1
          exact absurd hz1 nm
  · have ei : i = n := by omega
    subst ei
    refine .inl ⟨wk.stops H (hG H s), hd H _ s e ?_⟩
    rw [List.length_map, List.length_take, hn, Nat.min_self]
end
section
variable {g : TG} {tt : TT} {te : TE} {vs : List Nat} {σ : L2.St} {H1 : Hp} {K : PySem.W.Frag} {a : Addr} {xs : List V} {Qd : Addr → Hp → Prop}
/-- a list or a tuple, the walk written once -/
theorem lcS (hs : SqS K H1 a xs) (h : ∀ {J : It} {G : Hp → Prop}, Walk J xs.length G (YAt xs) → (∀ H, Same H1 H → G H) → ∀ D, H1 D = none → LcW J g tt te vs σ H1 D (Qd D)) :
    ((∃ xs, SqL K H1 a xs) ∧ ∀ D, H1 D = none → LcW (Itl K a) g tt te vs σ H1 D (Qd D)) ∨ ((∃ xs, SqT K H1 a xs) ∧ ∀ D, H1 D = none → LcW (Itt K a) g tt te vs σ H1 D (Qd D)) := by
  rcases hs with hs | hs
  · exact .inl ⟨⟨_, hs⟩, h walk_list fun H s => s.seq hs⟩
  · exact .inr ⟨⟨_, hs⟩, h walk_tup fun H s => Same.seqT s hs⟩
end
theorem sv_len (l : List Str) : (sv l).length = l.length := List.length_map _
theorem mem_sv {l : List Str} {x : V} (h : x ∈ sv l) : ∃ z ∈ l, x = .str z := by
  obtain ⟨z, hz, e⟩ := List.mem_map.mp h
  exact ⟨z, hz, e.symm⟩
def vStr (v : V) : Str := match v with
  | .str y => y
  | _ => Str.empty
/-- all of a list of truth values -/
theorem all_sv {l : List Str} {f : Str → Bool} {D : Addr} {H : Hp} {K : PySem.W.Frag} (e : H D = some (.lst ((sv l).map fun v => V.bl (f (vStr v))))) : SqL K H D ((l.map f).map V.bl) := by
  refine SqL.of ?_
  rw [e]
  unfold sv
  rw [List.map_map, List.map_map]
  rfl
theorem strs_sv {l : List Str} {f : Str → Str} {D : Addr} {H : Hp} {K : PySem.W.Frag} (e : H D = some (.lst ((sv l).map fun v => V.str (f (vStr v))))) : SqL K H D (sv (l.map f)) := by
  refine SqL.of ?_
  rw [e]
  unfold sv
  rw [List.map_map, List.map_map]
  rfl
end Lm
set_option Elab.async false
set_option linter.all false
set_option maxRecDepth 100000
set_option maxHeartbeats 4000000
/-! Ledmarks k83: str(o), len(o), o != p of own classes; a class in a local name. -/
namespace Lm
open PySem PySem.Spec PyProof.Rows L2
section
variable {X : Cx} {pins : List (Addr × Obj)} {σ : L2.St} {H : Hp} {s : Shared}
/-- a def called from within a built-in: another around, the same frames -/
theorem call_at {A : Around} {k : Nat} {f : Addr} {fd : FuncData} {ps : List Str} {sp : Sp} {us : List Value} {vs : List V} {Q : VK} {E : Value → Shared → Prop} (F : FnOk X.prog X.w X.K X.mg X.base CX0 k f fd ps sp) (b : Binds X.K fd ps [])
    (hr : Room k A) (hf : A.frames = X.A.frames) (I : Inv X pins σ H s) (r : Vals vs us) (h : sp vs H Q E0) : wpAny (model X.prog X.w) A (call (.ref f) us) (EP X pins σ Q) E s := by
  have e0 : Env0 X.prog X.w X.K X.mg X.base A X.stack s H := by
    have e := I.env0
    exact ⟨by rw [hf]; exact e.frames, e.mod, e.bs, e.bsz, e.funs, e.frf, e.hok, e.bare⟩
  have hl : us.length = ps.length := by rw [← r.length]; exact F.len _ _ _ _ h
  refine wpAny_call (codeAny_mono (F.run A X.stack s H ⟨us, []⟩ us vs Q E0 hr e0 (by
    have := b s us I.kIn (by simpa using hl)
    simpa using this) r h) fun r s' hq => ?_)
  cases r with
  | error e => exact False.elim hq
  | ok fl =>
    cases fl with
    | ret u => exact I.after hq
    | next => exact False.elim hq
    | brk => exact False.elim hq
    | cont => exact False.elim hq
/-- an instance in the heap, as the library's rules ask it -/
theorem inst_of {a C dx : Addr} {fs : List (Str × V)} (I : Inv X pins σ H s) (e : H a = some (.ins C dx fs)) : ∃ od, PySem.W.InstAt s.heap a (PySem.W.instObj C dx) C (some od) := by
  obtain ⟨mA, O, _⟩ := ins_get I.hok e
  obtain ⟨od, J, _⟩ := O.look
  exact ⟨od, J⟩
end
section
variable {X : Cx} {k j : Nat} {C : Addr} {sp : Sp} {ps : List Str}
theorem in1_frames (A : Around) : A.in1.frames = A.frames := rfl
/-- str(o) by an own __str__ -/
theorem call_strO (F : MX X.prog X.w X.K X.mg X.base k C "__str__" ps sp) (hr : Room (k + 2) X.A) :
    CallR X (.type "str") (fun xs H Q => ∃ a dx fs, xs = [.ref a] ∧ H a = some (.ins C dx fs) ∧ sp [.ref a] H (fun v H' => ∃ z, v = .str z ∧ Q v H') E0) := by
  intro pins s σ H xs us Q I r h
  obtain ⟨a, dx, fs, rfl, ha, q⟩ := h
  obtain ⟨u, rfl, ru⟩ := vals1 r
  cases (show u = Value.ref a from ru)
  obtain ⟨f, fd, hm, G, b⟩ := F.ex
  obtain ⟨od, J⟩ := inst_of I ha
  have hr2 : Room k X.A.in1.in1 := (Room.in1 (Room.in1 hr))
  refine PySem.W.kso_call hr2.units0 I.kIn J hm.at_ hm.fn (thn (call_at (A := X.A.in1.in1) G b hr2 rfl I (vs := [.ref a]) (.cons rfl .nil) q) fun v s1 z => ?_)
  obtain ⟨x, H1, I1, rx, z, rfl, q1⟩ := z
  obtain ⟨t, rfl⟩ := rx
  exact ⟨.str z, H1, I1, ⟨t, rfl⟩, q1⟩
/-- len(o) by an own __len__ -/
theorem call_lenO (F : MX X.prog X.w X.K X.mg X.base k C "__len__" ps sp) (hr : Room (k + 1) X.A) :
    CallR X (.builtin "len") (fun xs H Q => ∃ a dx fs, xs = [.ref a] ∧ H a = some (.ins C dx fs) ∧ sp [.ref a] H (fun v H' => ∃ n : Int, v = .int n ∧ 0 ≤ n ∧ n < 2 ^ 63 ∧ Q v H') E0) := by
  intro pins s σ H xs us Q I r h
  obtain ⟨a, dx, fs, rfl, ha, q⟩ := h
  obtain ⟨u, rfl, ru⟩ := vals1 r
  cases (show u = Value.ref a from ru)
  obtain ⟨f, fd, hm, G, b⟩ := F.ex
  obtain ⟨od, J⟩ := inst_of I ha
  obtain ⟨m, hF⟩ := I.fr
  have hr2 : Room k X.A.in1 := Room.in1 hr
  refine PySem.W.len_K hF I.ok.mod.kin J hm.at_ hm.fn (thn (call_at (A := X.A.in1) G b hr2 rfl I (vs := [.ref a]) (.cons rfl .nil) q) fun v s1 z => ?_)
  obtain ⟨x, H1, I1, rx, n, rfl, h0, h1, q1⟩ := z
  obtain ⟨t, rfl⟩ := rx
  exact ⟨⟨h0, h1⟩, .int n, H1, I1.tok _, ⟨_, rfl⟩, q1⟩
end
section
variable {prog : Program} {w : World} {A : Around} {E : Value → Shared → Prop} {s : Shared} {K : PySem.W.Frag} {x y C f : Addr} {ox : Obj} {od : Option Obj}
open Builtin in
theorem objNe_own {Q : Fin → Shared → Prop} (hu : A.units < cLine) (X : K.In s.heap) (I : PySem.W.InstAt s.heap x ox C od) (hs : PySem.W.findIn K (.ref C) "__eq__" = some (some (.ref f))) (hf : PySem.W.isFn K (.ref f) = true)
    (h : wpAny (model prog w) A (call (.ref f) [.ref x, .ref y]) (fun v s' => ∃ b, v = .bool b ∧ Q (.done (.ret (.bool (!b)))) s') E s) :
    wpAny (model prog w) A (Builtin.«object.__ne__» ⟨[.ref x, .ref y], []⟩) Q E s := by
  obtain ⟨hp, g, d, t, os⟩ := s
  unfold Builtin.«object.__ne__»
  repeat (first
    | with_reducible refine wpAny_cRoomFor hu ?_
    | (refine wpAny_bind (m := callSpecialIfBound? (.ref x) (Str.ofString "__eq__") [.ref y])
        (PySem.W.ifBound_K X I hs hf (wpAny_mono h (fun r s' hr => by
          obtain ⟨b, rfl, hq⟩ := hr
          repeat (first | exact hq | exact wpAny_pure hq | exact wpAny_truthy_bool hq | (refine wpAny_bind (m := truthy (.bool _)) (wpAny_truthy_bool ?_)) | wp_step)) fun _ _ e => e)))
    | wp_step)
theorem ifBound_ne {args : List Value} {Q : Option Value → Shared → Prop} (X : K.In s.heap) (I : PySem.W.InstAt s.heap x ox C od) (hs : PySem.W.findIn K (.ref C) "__ne__" = some (some (.builtin "object.__ne__")))
    (h : wpAny (model prog w) A (call (.builtin "object.__ne__") (.ref x :: args)) (fun v => Q (some v)) E s) : wpAny (model prog w) A (callSpecialIfBound? (.ref x) "__ne__" args) Q E s := by
  unfold callSpecialIfBound? bindSpecialIfBound?
  refine wpAny_holding (wpAny_bind (wpAny_bind (wpAny_bind (I.type.here ((PySem.W.looks_findIn X hs).here ?_)))))
  refine wpAny_bind (wpAny_askSetting (wpAny_ite ?_))
  have done : wpAny (model prog w) A (call (.builtin "object.__ne__") ([.ref x] ++ args) >>= fun v => pure (some v)) Q E s := wpAny_bind (wpAny_mono h (fun v s' h' => wpAny_pure h') fun _ _ h' => h')
  split
  · exact wpAny_bind (wpAny_of_eq (PySem.F.cmp_object.ne.bind _) (wpAny_pure (by exact done)))
  · exact wpAny_tryCatch (wpAny_bind (wpAny_of_eq (PySem.F.cmp_object.ne.bind _) (wpAny_pure (by exact done))))
theorem rich_ne {Q : Value → Shared → Prop} {oy : Obj} {oe : Option Obj} (hu : A.units + 1 < cLine) (X : K.In s.heap) (I : PySem.W.InstAt s.heap x ox C od) (J : PySem.W.InstAt s.heap y oy C oe) (hm : PySem.W.mroIn K C (.type "object") = some true)
    (hn : PySem.W.findIn K (.ref C) "__ne__" = some (some (.builtin "object.__ne__"))) (hs : PySem.W.findIn K (.ref C) "__eq__" = some (some (.ref f))) (hf : PySem.W.isFn K (.ref f) = true)
    (h : wpAny (model prog w) A.in1 (call (.ref f) [.ref x, .ref y]) (fun v s' => ∃ b, v = .bool b ∧ Q (.bool (!b)) s') E s) :
    wpAny (model prog w) A (compareOp .NotEq (.ref x) (.ref y)) Q E s := by
  unfold compareOp
  show wpAny (model prog w) A (richCompare .NotEq (.ref x) (.ref y)) Q E s
  unfold richCompare
  simp only [oneThing_ref]
  refine wpAny_holding (wpAny_bind (wpAny_cRoomFor (Nat.lt_of_succ_lt hu) ?_))
  rw [cmpInfo_NotEq]
  dsimp only
  refine wpAny_bind (I.type.here (wpAny_bind (J.type.here ?_)))
  rw [show (Value.ref C != Value.ref C) = false from by simp]
  simp only [Bool.false_eq_true, if_false]
  refine wpAny_bind (wpAny_pure ?_)
  simp only [Bool.false_eq_true, if_false]
  have one : wpAny (model prog w) A (tryCompare (.ref x) "__ne__" (.ref y)) (fun r s' => ∃ b : Bool, r = some (.bool (!b)) ∧ Q (.bool (!b)) s') E s := by
    unfold tryCompare
    refine wpAny_bind (ifBound_ne X I hn (wpAny_call (codeAny_call_builtin PySem.F.cmp_object.ne.plain PySem.F.cmpEntry_ne
      (PySem.W.check_slot PySem.F.cmpKind_ne PySem.F.cmpSplit_ne (I.type.andThen (PySem.W.looks_mroIn X hm)) (PySem.F.cmpArgs_ne _ _) (objNe_own (A := A.in1) hu X I hs hf (wpAny_mono h (fun v s' hv => ?_) fun _ _ e => e))))))
    obtain ⟨b, rfl, hq⟩ := hv
    first
      | exact ⟨b, rfl, wpAny_pure ⟨b, rfl, hq⟩⟩
      | exact ⟨b, rfl, wpAny_pure (wpAny_pure ⟨b, rfl, hq⟩)⟩
  refine wpAny_bind (wpAny_mono one (fun r s' hv => ?_) fun _ _ e => e)
  obtain ⟨b, rfl, hq⟩ := hv
  first
    | exact wpAny_pure hq
    | exact wpAny_pure (wpAny_pure hq)
end
section
variable {X : Cx} {k : Nat} {C : Addr} {sp : Sp} {ps : List Str}
/-- o != p by an own __eq__ that gives a bool -/
theorem op_neO (F : MX X.prog X.w X.K X.mg X.base k C "__eq__" ps sp) (hr : Room (k + 1) X.A) (hm : PySem.W.mroIn X.K C (.type "object") = some true) (hn : PySem.W.findIn X.K (.ref C) "__ne__" = some (some (.builtin "object.__ne__"))) :
    OpR X (compareOp .NotEq) (fun x y H Q => ∃ a b dx dy fs gs, x = .ref a ∧ y = .ref b ∧ H a = some (.ins C dx fs) ∧ H b = some (.ins C dy gs) ∧ sp [.ref a, .ref b] H (fun v H' => ∃ c, v = .bl c ∧ Q (.bl (!c)) H') E0) := by
  intro pins s σ H x y v u Q I rx ry h
  obtain ⟨a, b, dx, dy, fs, gs, rfl, rfl, ha, hb, q⟩ := h
  cases (show v = Value.ref a from rx)
  cases (show u = Value.ref b from ry)
  obtain ⟨f, fd, hme, G, bd⟩ := F.ex
  obtain ⟨od, J⟩ := inst_of I ha
  obtain ⟨oe, J2⟩ := inst_of I hb
  have hr2 : Room k X.A.in1 := Room.in1 hr
  have hu : X.A.units + 1 < cLine := by have := hr.un; omega
  refine rich_ne hu I.kIn J J2 hm hn hme.at_ hme.fn (thn (call_at (A := X.A.in1) G bd hr2 rfl I (vs := [.ref a, .ref b]) (.cons rfl (.cons rfl .nil)) q) fun v s1 z => ?_)
  obtain ⟨z, H1, I1, rz, c, rfl, q1⟩ := z
  cases (show v = Value.bool c from rz)
  exact ⟨c, rfl, .bl (!c), H1, I1, rfl, q1⟩
end
/-! ### a class in a local name, called -/
section
variable {X : Cx} {k j i : Nat} {x c : Str} {ps : List Str} {sp : Sp} {p pos : Pos} {e : Expr} {es : List Expr} {t : TA}
def tMakeL (i : Nat) (C : Addr) (sp : Sp) (t : TA) : TE := fun σ H Q => σ[i]? = some (some (.ref C)) ∧ tMake C sp [] E0 t σ H Q
theorem pkL (i : Nat) (F : CX1 X.prog X.w X.K X.mg X.base k c ps sp) (hr : Room j X.A) (ha : PA X (e :: es) t) (hN : X.N[i]? = some x := by rfl) (hv : Vis X.env.scope x := by first | exact Or.inl rfl | exact Or.inr (Or.inl rfl)) (hk : k + 1 ≤ j := by decide)
    (hdb : (x == ("__debug__" : Str)) = false := by decide) (hcd : (x == ("__classdict__" : Str)) = false := by decide) (he : starEach (e :: es) X.env = (false, eval e X.env) :: starEach es X.env := by rfl) (hpl : (backTo pos (starEach es X.env)).any (·.1) = false := by rfl) :
    PE X (.Call (.Name x p) (e :: es) [] pos) (tMakeL i (He.ga X.K c) sp t) := by
  refine ⟨fun pins s σ H Q I h => ?_⟩
  obtain ⟨hs, ht⟩ := h
  obtain ⟨f, fd, hm, M, G, b⟩ := F.ex
  refine wpAny_Call_Name_kw (thn ((pe_var (pos := p) hN hv hdb hcd).run pins s σ H (fun v H1 => v = .ref (He.ga X.K c) ∧ H1 = H) I ⟨.ref (He.ga X.K c), hs, rfl, rfl⟩) fun u s1 ⟨v, H1, I1, r1, q1⟩ => ?_)
  obtain ⟨rfl, rfl⟩ := q1
  cases r1
  refine PySem.W.callWith_K (h₀ := X.base) I.ok.mod.kin M.kp (thn (ha.run pos pins s1 σ _ _ I1 ht) fun us s2 ⟨vs, H2, I2, r, q⟩ => ⟨I2.kIn, ?_⟩) he hpl
  exact run_make M G (hr.mono hk) b .nil pass0 I2 r q
end
theorem iteP {c A B : Prop} [Decidable c] (hc : c) (h : A) : if c then A else B := by rw [if_pos hc]; exact h
theorem iteN {c A B : Prop} [Decidable c] (hc : ¬ c) (h : B) : if c then A else B := by rw [if_neg hc]; exact h
end Lm
set_option Elab.async false
set_option linter.all false
set_option maxRecDepth 100000
set_option maxHeartbeats 4000000
/-! Ledmarks k83: the mirror, in plain Lean. -/
namespace Lm
open PySem L2
def smallC : List Nat := ("abcdefghijklmnopqrstuvwxyz" : Str).cps.toList
/-- is_name -/
def isNm (z : Str) : Bool := decide (1 ≤ z.length) && (decide (z.length ≤ 4) && (!(barred.any fun y => decide (y = z)) && z.cps.toList.all fun c => decide (c ∈ smallC)))
def isOld (z : Str) : Bool := isNm z || decide (z = "any")
/-- a test of a lead row: a part, or its contrary -/
def tests6 : List Str := ["above", "own", "below", "not above", "not own", "not below"]
def partOf (t : Str) : Str := Txt.removeprefix t "not "
inductive RowD where
  | run (old th : Str)
  | lead (tests : List Str) (old th : Str)
  | join (here came th : Str)
  deriving DecidableEq
structure ToolD where
  marks : List Str
  told : List Str
  parts : List Str
  clears : Bool
  rows : List RowD
  deriving DecidableEq
def RowD.words : RowD → List Str
  | .run old th => [old, th]
  | .lead _ old th => [old, th]
  | .join here came th => [here, came, th]
/-- names_among of its words -/
def RowD.names (r : RowD) : List Str := r.words.filter isNm
/-- what a lead row's text tells of its tests -/
def askedOf (ts : List Str) : Str := if 0 < ts.length then Txt.join " and " ts else "always"
/-- str(row) -/
def RowD.text : RowD → Str
  | .run old th => Str.empty ++ "run " ++ old ++ " to " ++ th
  | .lead ts old th => Str.empty ++ "lead " ++ askedOf ts ++ " " ++ old ++ " to " ++ th
  | .join here came th => Str.empty ++ "join " ++ here ++ " " ++ came ++ " to " ++ th
def isThen (z : Str) : Bool := isNm z || decide (z ∈ sidesL)
/-- a row that its maker takes -/
def RowD.fine : RowD → Prop
  | .run old th => isOld old = true ∧ isNm th = true
  | .lead ts old th => (∀ t ∈ ts, t ∈ tests6) ∧ (ts.map partOf).Nodup ∧ isOld old = true ∧ isNm th = true
  | .join here came th => isOld here = true ∧ isOld came = true ∧ isThen th = true
theorem isNm_len {z : Str} (h : isNm z = true) : z.length ≤ 4 := by
  unfold isNm at h
  simp only [Bool.and_eq_true, decide_eq_true_eq] at h
  exact h.2.1
theorem isOld_len {z : Str} (h : isOld z = true) : z.length ≤ 4 := by
  unfold isOld at h
  rcases Bool.or_eq_true_iff.mp h with h | h
  · exact isNm_len h
  · rw [of_decide_eq_true h]
    decide
theorem isThen_len {z : Str} (h : isThen z = true) : z.length ≤ 4 := by
  unfold isThen at h
  rcases Bool.or_eq_true_iff.mp h with h | h
  · exact isNm_len h
  · have h2 := of_decide_eq_true h
    unfold sidesL at h2
    rcases List.mem_cons.mp h2 with e | h2
    · rw [e]; decide
    · rw [List.mem_singleton.mp h2]; decide
theorem tests6_len : ∀ t ∈ tests6, t.length ≤ 9 := by decide +kernel
theorem tests6_part : ∀ t ∈ tests6, (partsL.any fun y => decide (y = partOf t)) = true := by decide +kernel
theorem tests6_partm : ∀ t ∈ tests6, partOf t ∈ partsL := by decide +kernel
/-- no two alike, all of l: at most as many -/
theorem nodup_le {α : Type} [DecidableEq α] : ∀ {l m : List α}, l.Nodup → (∀ x ∈ l, x ∈ m) → l.length ≤ m.length
  | [], _, _, _ => Nat.zero_le _
  | x :: l, m, nd, h => by
    obtain ⟨n1, n2⟩ := List.nodup_cons.mp nd
    have hx : x ∈ m := h x List.mem_cons_self
    have hl := nodup_le (l := l) (m := m.erase x) n2 fun y hy => (List.mem_erase_of_ne (fun e => n1 (by rw [← e]; exact hy))).mpr (h y (List.mem_cons_of_mem _ hy))
    rw [List.length_erase_of_mem hx] at hl
    have : 0 < m.length := List.length_pos_of_mem hx
    rw [List.length_cons]
    omega
theorem tests_le {ts : List Str} (h : ∀ t ∈ ts, t ∈ tests6) (nd : (ts.map partOf).Nodup) : ts.length ≤ 3 := by
  have := nodup_le (m := partsL) nd fun x hx => by
    obtain ⟨t, ht, e⟩ := List.mem_map.mp hx
    rw [← e]
    exact tests6_partm t (h t ht)
  rw [List.length_map] at this
  exact this
theorem sum_le {l : List Nat} {k : Nat} (h : ∀ x ∈ l, x ≤ k) : l.sum ≤ l.length * k := by
  induction l with
  | nil => simp
  | cons a r ih =>
    have h1 := h a List.mem_cons_self
    have h2 := ih fun x hx => h x (List.mem_cons_of_mem _ hx)
    rw [List.sum_cons, List.length_cons, Nat.succ_mul]
    omega
theorem asked_cost {ts : List Str} (h : ∀ t ∈ ts, t ∈ tests6) (nd : (ts.map partOf).Nodup) : (ts.map (·.length)).sum + ts.length * ("( and )" : Str).length ≤ 100 := by
  have h3 := tests_le h nd
  have h4 : (ts.map (·.length)).sum ≤ (ts.map (·.length)).length * 9 := sum_le fun x hx => by
    obtain ⟨t, ht, e⟩ := List.mem_map.mp hx
    rw [← e]
    exact tests6_len t (h t ht)
  rw [List.length_map] at h4
  have e7 : ("( and )" : Str).length = 7 := by decide
  rw [e7]
  omega
theorem asked_len {ts : List Str} (h : ∀ t ∈ ts, t ∈ tests6) (nd : (ts.map partOf).Nodup) : (askedOf ts).length ≤ 100 := by
  unfold askedOf
  split
  · have h1 := StrLaws.join_length_le " and " ts
    have h2 := asked_cost h nd
    rw [TL.join_eq]
    have e5 : (" and " : Str).length = 5 := by decide
    have e7 : ("( and )" : Str).length = 7 := by decide
    rw [e5] at h1
    rw [e7] at h2
    omega
  · decide
theorem lapp (a b : Str) : (a ++ b).length = a.length + b.length := Str.length_append a b
theorem RowD.text_len {d : RowD} (h : d.fine) : d.text.length ≤ 150 := by
  cases d with
  | run old th =>
    obtain ⟨h1, h2⟩ := h
    have l1 := isOld_len h1
    have l2 := isNm_len h2
    show (Str.empty ++ "run " ++ old ++ " to " ++ th : Str).length ≤ 150
    simp only [lapp]
    have a1 : (Str.empty : Str).length = 0 := rfl
    have a2 : ("run " : Str).length = 4 := by decide
    have a3 : (" to " : Str).length = 4 := by decide
    omega
  | lead ts old th =>
    obtain ⟨h1, h2, h3, h4⟩ := h
    have l1 := isOld_len h3
    have l2 := isNm_len h4
    have l3 := asked_len h1 h2
    show (Str.empty ++ "lead " ++ askedOf ts ++ " " ++ old ++ " to " ++ th : Str).length ≤ 150
    simp only [lapp]
    have a1 : (Str.empty : Str).length = 0 := rfl
    have a2 : ("lead " : Str).length = 5 := by decide
    have a3 : (" to " : Str).length = 4 := by decide
    have a4 : (" " : Str).length = 1 := by decide
    omega
  | join here came th =>
    obtain ⟨h1, h2, h3⟩ := h
    have l1 := isOld_len h1
    have l2 := isOld_len h2
    have l3 := isThen_len h3
    show (Str.empty ++ "join " ++ here ++ " " ++ came ++ " to " ++ th : Str).length ≤ 150
    simp only [lapp]
    have a1 : (Str.empty : Str).length = 0 := rfl
    have a2 : ("join " : Str).length = 5 := by decide
    have a3 : (" to " : Str).length = 4 := by decide
    have a4 : (" " : Str).length = 1 := by decide
    omega
end Lm
set_option Elab.async false
set_option linter.all false
set_option maxRecDepth 100000
set_option maxHeartbeats 4000000
/-! Ledmarks k83: what instances hold, rows and tools in a heap. -/
namespace Lm
open PySem PySem.Spec PyProof.Rows L2
def fRun (old : Str) (th : Str) (n : Addr) : List (Str × V) := [("old", .str old), ("then", .str th), ("names", .ref n)]
theorem lk_Run_old {old : Str} {th : Str} {n : Addr} : (fRun old th n).lookup ("old" : Str) = some (.str old) := rfl
theorem lk_Run_then {old : Str} {th : Str} {n : Addr} : (fRun old th n).lookup ("then" : Str) = some (.str th) := rfl
theorem lk_Run_names {old : Str} {th : Str} {n : Addr} : (fRun old th n).lookup ("names" : Str) = some (.ref n) := rfl
theorem lm_Run_str {old : Str} {th : Str} {n : Addr} : (fRun old th n).lookup ("__str__" : Str) = none := rfl
def fLead (ts : Addr) (old : Str) (th : Str) (n : Addr) : List (Str × V) := [("tests", .ref ts), ("old", .str old), ("then", .str th), ("names", .ref n)]
theorem lk_Lead_tests {ts : Addr} {old : Str} {th : Str} {n : Addr} : (fLead ts old th n).lookup ("tests" : Str) = some (.ref ts) := rfl
theorem lk_Lead_old {ts : Addr} {old : Str} {th : Str} {n : Addr} : (fLead ts old th n).lookup ("old" : Str) = some (.str old) := rfl
theorem lk_Lead_then {ts : Addr} {old : Str} {th : Str} {n : Addr} : (fLead ts old th n).lookup ("then" : Str) = some (.str th) := rfl
theorem lk_Lead_names {ts : Addr} {old : Str} {th : Str} {n : Addr} : (fLead ts old th n).lookup ("names" : Str) = some (.ref n) := rfl
theorem lm_Lead_str {ts : Addr} {old : Str} {th : Str} {n : Addr} : (fLead ts old th n).lookup ("__str__" : Str) = none := rfl
def fJoin (here : Str) (came : Str) (th : Str) (n : Addr) : List (Str × V) := [("here", .str here), ("came", .str came), ("then", .str th), ("names", .ref n)]
theorem lk_Join_here {here : Str} {came : Str} {th : Str} {n : Addr} : (fJoin here came th n).lookup ("here" : Str) = some (.str here) := rfl
theorem lk_Join_came {here : Str} {came : Str} {th : Str} {n : Addr} : (fJoin here came th n).lookup ("came" : Str) = some (.str came) := rfl
theorem lk_Join_then {here : Str} {came : Str} {th : Str} {n : Addr} : (fJoin here came th n).lookup ("then" : Str) = some (.str th) := rfl
theorem lk_Join_names {here : Str} {came : Str} {th : Str} {n : Addr} : (fJoin here came th n).lookup ("names" : Str) = some (.ref n) := rfl
theorem lm_Join_str {here : Str} {came : Str} {th : Str} {n : Addr} : (fJoin here came th n).lookup ("__str__" : Str) = none := rfl
def fTool (m : Addr) (t : Addr) (p : Addr) (c : Bool) (r : Addr) (b : Str) : List (Str × V) := [("marks", .ref m), ("told", .ref t), ("parts", .ref p), ("clears", .bl c), ("rows", .ref r), ("blank", .str b)]
theorem lk_Tool_marks {m : Addr} {t : Addr} {p : Addr} {c : Bool} {r : Addr} {b : Str} : (fTool m t p c r b).lookup ("marks" : Str) = some (.ref m) := rfl
theorem lk_Tool_told {m : Addr} {t : Addr} {p : Addr} {c : Bool} {r : Addr} {b : Str} : (fTool m t p c r b).lookup ("told" : Str) = some (.ref t) := rfl
theorem lk_Tool_parts {m : Addr} {t : Addr} {p : Addr} {c : Bool} {r : Addr} {b : Str} : (fTool m t p c r b).lookup ("parts" : Str) = some (.ref p) := rfl
theorem lk_Tool_clears {m : Addr} {t : Addr} {p : Addr} {c : Bool} {r : Addr} {b : Str} : (fTool m t p c r b).lookup ("clears" : Str) = some (.bl c) := rfl
theorem lk_Tool_rows {m : Addr} {t : Addr} {p : Addr} {c : Bool} {r : Addr} {b : Str} : (fTool m t p c r b).lookup ("rows" : Str) = some (.ref r) := rfl
theorem lk_Tool_blank {m : Addr} {t : Addr} {p : Addr} {c : Bool} {r : Addr} {b : Str} : (fTool m t p c r b).lookup ("blank" : Str) = some (.str b) := rfl
theorem lm_Tool_need_mark {m : Addr} {t : Addr} {p : Addr} {c : Bool} {r : Addr} {b : Str} : (fTool m t p c r b).lookup ("need_mark" : Str) = none := rfl
theorem lm_Tool_is_told {m : Addr} {t : Addr} {p : Addr} {c : Bool} {r : Addr} {b : Str} : (fTool m t p c r b).lookup ("is_told" : Str) = none := rfl
theorem lm_Tool_ran {m : Addr} {t : Addr} {p : Addr} {c : Bool} {r : Addr} {b : Str} : (fTool m t p c r b).lookup ("ran" : Str) = none := rfl
theorem lm_Tool_led {m : Addr} {t : Addr} {p : Addr} {c : Bool} {r : Addr} {b : Str} : (fTool m t p c r b).lookup ("led" : Str) = none := rfl
theorem lm_Tool_joined {m : Addr} {t : Addr} {p : Addr} {c : Bool} {r : Addr} {b : Str} : (fTool m t p c r b).lookup ("joined" : Str) = none := rfl
theorem lm_Tool_keeps {m : Addr} {t : Addr} {p : Addr} {c : Bool} {r : Addr} {b : Str} : (fTool m t p c r b).lookup ("keeps" : Str) = none := rfl
theorem lm_Tool_need_row {m : Addr} {t : Addr} {p : Addr} {c : Bool} {r : Addr} {b : Str} : (fTool m t p c r b).lookup ("need_row" : Str) = none := rfl
theorem lm_Tool_but {m : Addr} {t : Addr} {p : Addr} {c : Bool} {r : Addr} {b : Str} : (fTool m t p c r b).lookup ("but" : Str) = none := rfl
theorem lm_Tool_without {m : Addr} {t : Addr} {p : Addr} {c : Bool} {r : Addr} {b : Str} : (fTool m t p c r b).lookup ("without" : Str) = none := rfl
theorem lm_Tool_heeding {m : Addr} {t : Addr} {p : Addr} {c : Bool} {r : Addr} {b : Str} : (fTool m t p c r b).lookup ("heeding" : Str) = none := rfl
theorem lm_Tool_len {m : Addr} {t : Addr} {p : Addr} {c : Bool} {r : Addr} {b : Str} : (fTool m t p c r b).lookup ("__len__" : Str) = none := rfl
theorem lm_Tool_eq {m : Addr} {t : Addr} {p : Addr} {c : Bool} {r : Addr} {b : Str} : (fTool m t p c r b).lookup ("__eq__" : Str) = none := rfl
theorem lm_Tool_str {m : Addr} {t : Addr} {p : Addr} {c : Bool} {r : Addr} {b : Str} : (fTool m t p c r b).lookup ("__str__" : Str) = none := rfl
def fSingle (t : Addr) (b : Addr) : List (Str × V) := [("tool", .ref t), ("begin", .ref b)]
theorem lk_Single_tool {t : Addr} {b : Addr} : (fSingle t b).lookup ("tool" : Str) = some (.ref t) := rfl
theorem lk_Single_begin {t : Addr} {b : Addr} : (fSingle t b).lookup ("begin" : Str) = some (.ref b) := rfl
theorem lm_Single_machine_steps {t : Addr} {b : Addr} : (fSingle t b).lookup ("machine_steps" : Str) = none := rfl
theorem lm_Single_led {t : Addr} {b : Addr} : (fSingle t b).lookup ("led" : Str) = none := rfl
theorem lm_Single_joined {t : Addr} {b : Addr} : (fSingle t b).lookup ("joined" : Str) = none := rfl
def fWays (s : Addr) (m : Addr) (c : Addr) (h : Addr) (e : Addr) : List (Str × V) := [("steps", .ref s), ("machine", .ref m), ("coming", .ref c), ("hearings", .ref h), ("elders", .ref e)]
theorem lk_Ways_steps {s : Addr} {m : Addr} {c : Addr} {h : Addr} {e : Addr} : (fWays s m c h e).lookup ("steps" : Str) = some (.ref s) := rfl
theorem lk_Ways_machine {s : Addr} {m : Addr} {c : Addr} {h : Addr} {e : Addr} : (fWays s m c h e).lookup ("machine" : Str) = some (.ref m) := rfl
theorem lk_Ways_coming {s : Addr} {m : Addr} {c : Addr} {h : Addr} {e : Addr} : (fWays s m c h e).lookup ("coming" : Str) = some (.ref c) := rfl
theorem lk_Ways_hearings {s : Addr} {m : Addr} {c : Addr} {h : Addr} {e : Addr} : (fWays s m c h e).lookup ("hearings" : Str) = some (.ref h) := rfl
theorem lk_Ways_elders {s : Addr} {m : Addr} {c : Addr} {h : Addr} {e : Addr} : (fWays s m c h e).lookup ("elders" : Str) = some (.ref e) := rfl
theorem lm_Ways_edited {s : Addr} {m : Addr} {c : Addr} {h : Addr} {e : Addr} : (fWays s m c h e).lookup ("edited" : Str) = none := rfl
theorem lm_Ways_heard {s : Addr} {m : Addr} {c : Addr} {h : Addr} {e : Addr} : (fWays s m c h e).lookup ("heard" : Str) = none := rfl
def fMeeting (i : Int) (a : Addr) (d : Addr) (w : Addr) : List (Str × V) := [("hearings", .int i), ("item", .ref a), ("deeds", .ref d), ("waiting", .ref w)]
theorem lk_Meeting_hearings {i : Int} {a : Addr} {d : Addr} {w : Addr} : (fMeeting i a d w).lookup ("hearings" : Str) = some (.int i) := rfl
theorem lk_Meeting_item {i : Int} {a : Addr} {d : Addr} {w : Addr} : (fMeeting i a d w).lookup ("item" : Str) = some (.ref a) := rfl
theorem lk_Meeting_deeds {i : Int} {a : Addr} {d : Addr} {w : Addr} : (fMeeting i a d w).lookup ("deeds" : Str) = some (.ref d) := rfl
theorem lk_Meeting_waiting {i : Int} {a : Addr} {d : Addr} {w : Addr} : (fMeeting i a d w).lookup ("waiting" : Str) = some (.ref w) := rfl
def fTold (s : Addr) (m : Addr) (c : Addr) (h : Addr) : List (Str × V) := [("steps", .ref s), ("machine", .ref m), ("coming", .ref c), ("hearings", .ref h)]
theorem lk_Told_steps {s : Addr} {m : Addr} {c : Addr} {h : Addr} : (fTold s m c h).lookup ("steps" : Str) = some (.ref s) := rfl
theorem lk_Told_machine {s : Addr} {m : Addr} {c : Addr} {h : Addr} : (fTold s m c h).lookup ("machine" : Str) = some (.ref m) := rfl
theorem lk_Told_coming {s : Addr} {m : Addr} {c : Addr} {h : Addr} : (fTold s m c h).lookup ("coming" : Str) = some (.ref c) := rfl
theorem lk_Told_hearings {s : Addr} {m : Addr} {c : Addr} {h : Addr} : (fTold s m c h).lookup ("hearings" : Str) = some (.ref h) := rfl
theorem lm_Told_is_closed {s : Addr} {m : Addr} {c : Addr} {h : Addr} : (fTold s m c h).lookup ("is_closed" : Str) = none := rfl
section
variable {w : World} {K : PySem.W.Frag} {mg : Str → Option Value}
theorem Tx.fl (T : Tx w K mg) : Cls K (He.ga K "Run") ∧ NoAttr K (He.ga K "Run") "old" ∧ NoAttr K (He.ga K "Run") "then" ∧ NoAttr K (He.ga K "Run") "names" ∧ Cls K (He.ga K "Lead") ∧ NoAttr K (He.ga K "Lead") "tests" ∧ NoAttr K (He.ga K "Lead") "old" ∧ NoAttr K (He.ga K "Lead") "then" ∧ NoAttr K (He.ga K "Lead") "names" ∧ Cls K (He.ga K "Join") ∧ NoAttr K (He.ga K "Join") "here" ∧ NoAttr K (He.ga K "Join") "came" ∧ NoAttr K (He.ga K "Join") "then" ∧ NoAttr K (He.ga K "Join") "names" ∧ Cls K (He.ga K "Tool") ∧ NoAttr K (He.ga K "Tool") "marks" ∧ NoAttr K (He.ga K "Tool") "told" ∧ NoAttr K (He.ga K "Tool") "parts" ∧ NoAttr K (He.ga K "Tool") "clears" ∧ NoAttr K (He.ga K "Tool") "rows" ∧ NoAttr K (He.ga K "Tool") "blank" ∧ Cls K (He.ga K "Single") ∧ NoAttr K (He.ga K "Single") "tool" ∧ NoAttr K (He.ga K "Single") "begin" ∧ Cls K (He.ga K "Ways") ∧ NoAttr K (He.ga K "Ways") "steps" ∧ NoAttr K (He.ga K "Ways") "machine" ∧ NoAttr K (He.ga K "Ways") "coming" ∧ NoAttr K (He.ga K "Ways") "hearings" ∧ NoAttr K (He.ga K "Ways") "elders" ∧ Cls K (He.ga K "Meeting") ∧ NoAttr K (He.ga K "Meeting") "hearings" ∧ NoAttr K (He.ga K "Meeting") "item" ∧ NoAttr K (He.ga K "Meeting") "deeds" ∧ NoAttr K (He.ga K "Meeting") "waiting" ∧ Cls K (He.ga K "Told") ∧ NoAttr K (He.ga K "Told") "steps" ∧ NoAttr K (He.ga K "Told") "machine" ∧ NoAttr K (He.ga K "Told") "coming" ∧ NoAttr K (He.ga K "Told") "hearings" :=
  ⟨T.cl_Run, T.na_Run_old, T.na_Run_then, T.na_Run_names, T.cl_Lead, T.na_Lead_tests, T.na_Lead_old, T.na_Lead_then, T.na_Lead_names, T.cl_Join, T.na_Join_here, T.na_Join_came, T.na_Join_then, T.na_Join_names, T.cl_Tool, T.na_Tool_marks, T.na_Tool_told, T.na_Tool_parts, T.na_Tool_clears, T.na_Tool_rows, T.na_Tool_blank, T.cl_Single, T.na_Single_tool, T.na_Single_begin, T.cl_Ways, T.na_Ways_steps, T.na_Ways_machine, T.na_Ways_coming, T.na_Ways_hearings, T.na_Ways_elders, T.cl_Meeting, T.na_Meeting_hearings, T.na_Meeting_item, T.na_Meeting_deeds, T.na_Meeting_waiting, T.cl_Told, T.na_Told_steps, T.na_Told_machine, T.na_Told_coming, T.na_Told_hearings⟩
end
section
variable {K : PySem.W.Frag}
/-- the row d stands at a -/
def RowAt (K : PySem.W.Frag) (H : Hp) (a : Addr) : RowD → Prop
  | .run old th => ∃ dx n, H a = some (.ins (He.ga K "Run") dx (fRun old th n)) ∧ H n = some (.tup (sv (RowD.run old th).names))
  | .lead ts old th => ∃ dx t n, H a = some (.ins (He.ga K "Lead") dx (fLead t old th n)) ∧ H t = some (.tup (sv ts)) ∧ H n = some (.tup (sv (RowD.lead ts old th).names))
  | .join here came th => ∃ dx n, H a = some (.ins (He.ga K "Join") dx (fJoin here came th n)) ∧ H n = some (.tup (sv (RowD.join here came th).names))
theorem RowAt.imm {H H' : Hp} {a : Addr} {d : RowD} (h : RowAt K H a d) (i : Imm H H') : RowAt K H' a d := by
  cases d with
  | run old th => obtain ⟨dx, n, h1, h2⟩ := h; exact ⟨dx, n, i _ _ rfl h1, i _ _ rfl h2⟩
  | lead ts old th => obtain ⟨dx, t, n, h1, h2, h3⟩ := h; exact ⟨dx, t, n, i _ _ rfl h1, i _ _ rfl h2, i _ _ rfl h3⟩
  | join here came th => obtain ⟨dx, n, h1, h2⟩ := h; exact ⟨dx, n, i _ _ rfl h1, i _ _ rfl h2⟩
/-- rows at addresses -/
def RowsAt (K : PySem.W.Frag) (H : Hp) (vs : List V) (ds : List RowD) : Prop := Paired (fun d v => ∃ a, v = V.ref a ∧ RowAt K H a d) ds vs
theorem RowsAt.imm {H H' : Hp} {vs : List V} {ds : List RowD} (h : RowsAt K H vs ds) (i : Imm H H') : RowsAt K H' vs ds :=
  L2.Paired.mapP h fun _ _ ⟨a, e, r⟩ => ⟨a, e, r.imm i⟩
/-- the tool d stands at a -/
structure ToolAt (K : PySem.W.Frag) (H : Hp) (a : Addr) (d : ToolD) : Prop where
  ex : ∃ dx m t p r vs, H a = some (.ins (He.ga K "Tool") dx (fTool m t p d.clears r (d.marks.headD Str.empty))) ∧ H m = some (.tup (sv d.marks)) ∧ H t = some (.tup (sv d.told)) ∧ H p = some (.tup (sv d.parts)) ∧ H r = some (.tup vs) ∧ RowsAt K H vs d.rows
theorem ToolAt.imm {H H' : Hp} {a : Addr} {d : ToolD} (h : ToolAt K H a d) (i : Imm H H') : ToolAt K H' a d := by
  obtain ⟨dx, m, t, p, r, vs, h1, h2, h3, h4, h5, h6⟩ := h.ex
  exact ⟨dx, m, t, p, r, vs, i _ _ rfl h1, i _ _ rfl h2, i _ _ rfl h3, i _ _ rfl h4, i _ _ rfl h5, h6.imm i⟩
theorem RowAt.same {H H' : Hp} {a : Addr} {d : RowD} (h : RowAt K H a d) (s : Same H H') : RowAt K H' a d := h.imm (Imm.of_same s)
theorem RowsAt.same {H H' : Hp} {vs : List V} {ds : List RowD} (h : RowsAt K H vs ds) (s : Same H H') : RowsAt K H' vs ds := h.imm (Imm.of_same s)
theorem ToolAt.same {H H' : Hp} {a : Addr} {d : ToolD} (h : ToolAt K H a d) (s : Same H H') : ToolAt K H' a d := h.imm (Imm.of_same s)
end
end Lm
set_option Elab.async false
set_option linter.all false
set_option maxRecDepth 100000
set_option maxHeartbeats 4000000
namespace Lm
open PySem PySem.Spec PyProof.Rows L2
local macro_rules | `(tactic| walk_at "rd") => `(tactic| simp (config := {failIfUnchanged := false}) only [tVar, tC, tIsN, tNotN, tB, tAnd, tOr, tNot, tAndV, tOrV, tNotV, tIf, tNext, tSeq, tBreak, tCont, tDrop, tRet, tRetN, tIfS, gName, gNil, gCons, gTup, tAsg, tPar,
  iList, iTup, iRng1, iRng2, r_tFor, tFmt, tJs, or_false, false_or, exists_false, r_tLc, r_tDc, bf, iSeq, r_wipe0, r_wipe1, tOp, tUn, rI, rI0, rEq, rNe, tTest, tChain, tFld, sFld, tNil, tCons, tTup, tLst, tCall, tMeth, tMake, tCB, tNoPart, tPart, tSl, rIxL, rIxT, rSlL, rIn, tBM0, tBM, rAppend, rExtend, rPop, rPopAt, rAny, rAll, tYes, iStr, rNewStrs, tM0, tM1, StX.tStar,
  L2.start, List.map_cons, List.map_nil, List.length_cons, List.length_nil, Nat.zero_add, Nat.reduceAdd, Nat.reduceSub, List.replicate_succ, List.replicate_zero, List.cons_append, List.nil_append, List.append_nil, List.set_cons_zero, List.set_cons_succ,
  List.getElem?_cons_zero, List.getElem?_cons_succ, Option.some.injEq, exists_eq_left', exists_eq_left, exists_eq', exists_eq, exists_and_left, exists_and_right, and_assoc, List.cons.injEq, V.str.injEq, V.ref.injEq, V.bl.injEq, V.int.injEq, V.ty.injEq, and_true, true_and, reduceCtorEq, false_and, and_false,
  Bool.not_true, Bool.not_false, Bool.false_eq_true, reduceIte, Bool.not_eq_true', decide_eq_true_eq, upd_same, cx_K, HO.ins.injEq, HO.tup.injEq, HO.lst.injEq, HO.dK.injEq, lk_Run_old, lk_Run_then, lk_Run_names, lm_Run_str, lk_Lead_tests, lk_Lead_old, lk_Lead_then, lk_Lead_names, lm_Lead_str, lk_Join_here, lk_Join_came, lk_Join_then, lk_Join_names, lm_Join_str, lk_Tool_marks, lk_Tool_told, lk_Tool_parts, lk_Tool_clears, lk_Tool_rows, lk_Tool_blank, lm_Tool_need_mark, lm_Tool_is_told, lm_Tool_ran, lm_Tool_led, lm_Tool_joined, lm_Tool_keeps, lm_Tool_need_row, lm_Tool_but, lm_Tool_without, lm_Tool_heeding, lm_Tool_len, lm_Tool_eq, lm_Tool_str, lk_Single_tool, lk_Single_begin, lm_Single_machine_steps, lm_Single_led, lm_Single_joined, lk_Ways_steps, lk_Ways_machine, lk_Ways_coming, lk_Ways_hearings, lk_Ways_elders, lm_Ways_edited, lm_Ways_heard, lk_Meeting_hearings, lk_Meeting_item, lk_Meeting_deeds, lk_Meeting_waiting, lk_Told_steps, lk_Told_machine, lk_Told_coming, lk_Told_hearings, lm_Told_is_closed])
local macro_rules | `(tactic| walk_at "rd*") => `(tactic| simp (config := {failIfUnchanged := false}) only [tVar, tC, tIsN, tNotN, tB, tAnd, tOr, tNot, tAndV, tOrV, tNotV, tIf, tNext, tSeq, tBreak, tCont, tDrop, tRet, tRetN, tIfS, gName, gNil, gCons, gTup, tAsg, tPar,
  iList, iTup, iRng1, iRng2, r_tFor, tFmt, tJs, or_false, false_or, exists_false, r_tLc, r_tDc, bf, iSeq, r_wipe0, r_wipe1, tOp, tUn, rI, rI0, rEq, rNe, tTest, tChain, tFld, sFld, tNil, tCons, tTup, tLst, tCall, tMeth, tMake, tCB, tNoPart, tPart, tSl, rIxL, rIxT, rSlL, rIn, tBM0, tBM, rAppend, rExtend, rPop, rPopAt, rAny, rAll, tYes, iStr, rNewStrs, tM0, tM1, StX.tStar,
  L2.start, List.map_cons, List.map_nil, List.length_cons, List.length_nil, Nat.zero_add, Nat.reduceAdd, Nat.reduceSub, List.replicate_succ, List.replicate_zero, List.cons_append, List.nil_append, List.append_nil, List.set_cons_zero, List.set_cons_succ,
  List.getElem?_cons_zero, List.getElem?_cons_succ, Option.some.injEq, exists_eq_left', exists_eq_left, exists_eq', exists_eq, exists_and_left, exists_and_right, and_assoc, List.cons.injEq, V.str.injEq, V.ref.injEq, V.bl.injEq, V.int.injEq, V.ty.injEq, and_true, true_and, reduceCtorEq, false_and, and_false,
  Bool.not_true, Bool.not_false, Bool.false_eq_true, reduceIte, Bool.not_eq_true', decide_eq_true_eq, upd_same, cx_K, HO.ins.injEq, HO.tup.injEq, HO.lst.injEq, HO.dK.injEq, lk_Run_old, lk_Run_then, lk_Run_names, lm_Run_str, lk_Lead_tests, lk_Lead_old, lk_Lead_then, lk_Lead_names, lm_Lead_str, lk_Join_here, lk_Join_came, lk_Join_then, lk_Join_names, lm_Join_str, lk_Tool_marks, lk_Tool_told, lk_Tool_parts, lk_Tool_clears, lk_Tool_rows, lk_Tool_blank, lm_Tool_need_mark, lm_Tool_is_told, lm_Tool_ran, lm_Tool_led, lm_Tool_joined, lm_Tool_keeps, lm_Tool_need_row, lm_Tool_but, lm_Tool_without, lm_Tool_heeding, lm_Tool_len, lm_Tool_eq, lm_Tool_str, lk_Single_tool, lk_Single_begin, lm_Single_machine_steps, lm_Single_led, lm_Single_joined, lk_Ways_steps, lk_Ways_machine, lk_Ways_coming, lk_Ways_hearings, lk_Ways_elders, lm_Ways_edited, lm_Ways_heard, lk_Meeting_hearings, lk_Meeting_item, lk_Meeting_deeds, lk_Meeting_waiting, lk_Told_steps, lk_Told_machine, lk_Told_coming, lk_Told_hearings, lm_Told_is_closed, *])
section
variable {P : Program} {w : World} {K : PySem.W.Frag} {mg : Str → Option Value} {base : Heap}
/-! ### is_name -/
def spIsName : Sp := fun vs H Q _ => ∃ z : Str, vs = [.str z] ∧ z.length ≤ 1000 ∧ ∀ H', Same H H' → Q (.bl (isNm z)) H'
theorem sc_is_name : FnScope ["value", "sign"] ["value"] (defScope st_is_name) := ⟨rfl, rfl, rfl, by decide +kernel, rfl, by decide +kernel, by decide +kernel⟩
theorem x_is_name (T : Tx w K mg) : FX P w K mg base 1 "is_name" ["value"] spIsName := by
  obtain ⟨fd, F⟩ := fun_is_name T.c
  obtain ⟨tS, hS⟩ := T.s_SMALL
  refine FX.of F T.g_is_name sc_is_name (fun _ _ _ _ _ _ us hl => match us, hl with | [_], _ => rfl) (fun vs H Q E h => ?_) (fun cdv A outer s H vs Q E hr h => ?_)
  · obtain ⟨z, rfl, _⟩ := h
    rfl
  · obtain ⟨z, rfl, hz, k⟩ := h
    refine ⟨_, pss_cons (ps_if (PW.pt (pw_or (pt_not (pt_val (pb isi_str T.n_isinstance (pa2 (pv 0) (pty (n := "str") T.n_str)))))
        (pw_or (pt_not (pt_chain op_le op_le pe_int (pb call_len_str T.n_len (pa1 (pv 0))) pe_int))
        (pw_or1 (pt_cmpR op_in_seq (pv 0) (pgr T.g_BARRED) (by rfl))))))
        (pss_one (ps_ret pe_bl)) pss_nil)
      (pss_one (ps_ret (pb (cr_all rfl) T.n_all (pa1
        (pe_lc (own := [("sign", 1)]) (g := gName 1) rfl sc_is_name.nd (pi_str (pv 0)) (blkOk_by (own := [("sign", 1)]) (N := ["value", "sign"]) (sc := defScope st_is_name) (by decide +kernel))
          (fun _ _ _ _ _ => pg_name (i := 1) sc_is_name.nd rfl (Or.inl rfl)) (fun _ _ _ _ _ => pts_nil) (fun _ _ _ _ _ => pe_cmpR op_in_sign (pv 1) (pgs hS) rfl)))))), ?_⟩
    walk_at "rd"
    refine ⟨len_ok hz, ?_⟩
    have fin : isNm z = false → Q (V.bl false) H := fun e => by
      have q := k H (Same.refl H)
      rw [e] at q
      exact q
    by_cases h1 : 1 ≤ (z.length : Int)
    · rw [if_pos h1]
      by_cases h4 : (z.length : Int) ≤ 4
      · rw [decide_eq_true h4, if_neg (by decide)]
        refine ⟨_, .inr (T.t_BARRED H), rfl, flat_sv _, ?_⟩
        rw [inV_str]
        by_cases hb : (barred.any fun y => decide (y = z)) = true
        · rw [if_pos hb]
          refine fin ?_
          unfold isNm
          rw [hb]
          simp
        · rw [if_neg hb]
          intro D hD
          refine lcA walk_strA (by rw [List.length_map, Array.length_toList]) (by rw [List.length_map, Array.length_toList]; exact Nat.le_trans hz (Nat.le_refl _)) hD (fun v => match v with
            | .str y => .bl (decide (y.cps.getD 0 0 ∈ smallC))
            | _ => .non) (fun _ _ => trivial) (fun x hx H' s _ Ky ky => ?_) (fun H' s e => ?_)
          · obtain ⟨c, hc, rfl⟩ := List.mem_map.mp hx
            walk_at "rd"
            exact ⟨_, rfl, ky H' (Same.refl _)⟩
          · refine ⟨z.cps.toList.map (fun c => decide (c ∈ smallC)), SqL.of ?_, ?_⟩
            · rw [e, List.map_map, List.map_map]
              rfl
            · have q := k H' s
              have hi : isNm z = (z.cps.toList.map (fun c => decide (c ∈ smallC))).all id := by
                unfold isNm
                have h1' : 1 ≤ z.length := by omega
                have h4' : z.length ≤ 4 := by omega
                rw [decide_eq_true h1', decide_eq_true h4', Bool.eq_false_iff.mpr hb, List.all_map]
                rfl
              rw [← hi]
              exact q
      · rw [decide_eq_false h4, if_pos rfl]
        refine fin ?_
        unfold isNm
        rw [decide_eq_false (show ¬ z.length ≤ 4 by omega)]
        simp
    · rw [if_neg h1]
      refine fin ?_
      unfold isNm
      rw [decide_eq_false (show ¬ 1 ≤ z.length by omega)]
      simp
/-! ### is_sequence, is_word, are_unlike -/
def spIsSeq (K : PySem.W.Frag) : Sp := fun vs H Q _ => ∃ a xs, vs = [.ref a] ∧ SqS K H a xs ∧ ∀ H', Same H H' → Q (.bl true) H'
theorem sc_is_sequence : FnScope ["value"] ["value"] (defScope st_is_sequence) := ⟨rfl, rfl, rfl, by decide +kernel, rfl, by decide +kernel, by decide +kernel⟩
theorem x_is_sequence (T : Tx w K mg) : FX P w K mg base 1 "is_sequence" ["value"] (spIsSeq K) := by
  obtain ⟨fd, F⟩ := fun_is_sequence T.c
  refine FX.of F T.g_is_sequence sc_is_sequence (fun _ _ _ _ _ _ us hl => match us, hl with | [_], _ => rfl) (fun vs H Q E h => ?_) (fun cdv A outer s H vs Q E hr h => ?_)
  · obtain ⟨a, xs, rfl, _⟩ := h
    rfl
  · obtain ⟨a, xs, rfl, hs, k⟩ := h
    refine ⟨_, pss_one (ps_ret (pb isi_seq T.n_isinstance (pa2 (pv 0) (pe_tup (pa2 (pty (n := "list") T.n_list) (pty (n := "tuple") T.n_tuple)))))), ?_⟩
    walk_at "rd"
    refine ⟨by decide, fun p hp => ⟨⟨_, Same.seqS (same_new hp) hs⟩, k _ (same_new hp)⟩⟩
def spIsWord (K : PySem.W.Frag) : Sp := fun vs H Q _ => ∃ z a l, vs = [.str z, .ref a] ∧ SqS K H a (sv l) ∧ ∀ H', Same H H' → Q (.bl (l.any fun y => decide (y = z))) H'
theorem sc_is_word : FnScope ["value", "some"] ["value", "some"] (defScope st_is_word) := ⟨rfl, rfl, rfl, by decide +kernel, rfl, by decide +kernel, by decide +kernel⟩
theorem x_is_word (T : Tx w K mg) : FX P w K mg base 1 "is_word" ["value", "some"] (spIsWord K) := by
  obtain ⟨fd, F⟩ := fun_is_word T.c
  refine FX.of F T.g_is_word sc_is_word (fun _ _ _ _ _ _ us hl => match us, hl with | [_, _], _ => rfl) (fun vs H Q E h => ?_) (fun cdv A outer s H vs Q E hr h => ?_)
  · obtain ⟨z, a, l, rfl, _⟩ := h
    rfl
  · obtain ⟨z, a, l, rfl, hs, k⟩ := h
    refine ⟨_, pss_one (ps_ret (pe_and (pb isi_str T.n_isinstance (pa2 (pv 0) (pty (n := "str") T.n_str))) (pe_one (pe_cmpR op_in_seq (pv 0) (pv 1) (by rfl))))), ?_⟩
    walk_at "rd"
    refine ⟨_, hs, rfl, flat_sv _, ?_⟩
    rw [inV_str]
    exact k _ (Same.refl _)
def spUnlike (K : PySem.W.Frag) : Sp := fun vs H Q _ => ∃ a l, vs = [.ref a] ∧ SqS K H a (sv l) ∧ l.Nodup ∧ l.length ≤ 1000 ∧ ∀ H', Same H H' → Q (.bl true) H'
theorem sc_are_unlike : FnScope ["words", "word"] ["words"] (defScope st_are_unlike) := ⟨rfl, rfl, rfl, by decide +kernel, rfl, by decide +kernel, by decide +kernel⟩
theorem x_are_unlike (T : Tx w K mg) : FX P w K mg base 1 "are_unlike" ["words"] (spUnlike K) := by
  obtain ⟨fd, F⟩ := fun_are_unlike T.c
  refine FX.of F T.g_are_unlike sc_are_unlike (fun _ _ _ _ _ _ us hl => match us, hl with | [_], _ => rfl) (fun vs H Q E h => ?_) (fun cdv A outer s H vs Q E hr h => ?_)
  · obtain ⟨a, l, rfl, _⟩ := h
    rfl
  · obtain ⟨a, l, rfl, hs, nd, hz, k⟩ := h
    have hlv : (sv l).length = l.length := by unfold sv; rw [List.length_map]
    refine ⟨_, pss_one (ps_ret (pe_cmpR op_eq (pb call_lenD T.n_len (pa1 (pdc sc_are_unlike 1 (pi_seq (pv 0)) (fun _ _ _ _ _ => pv 1) (fun _ _ _ _ _ => pe_bl)))) (pb call_len_seq T.n_len (pa1 (pv 0))) (nomark _))), ?_⟩
    walk_at "rd"
    rcases hs with hs | hs
    · exact .inl ⟨⟨_, hs⟩, fun D hD => dcN walk_list hlv hz nd hD (fun H' s => s.seq hs) (by simp) fun H' kvs s e hl => ⟨kvs, e, _, .inl (s.seq hs), rfl, by rw [hl, hlv, decide_eq_true rfl]; exact k _ s⟩⟩
    · exact .inr ⟨⟨_, hs⟩, fun D hD => dcN walk_tup hlv hz nd hD (fun H' s => Same.seqT s hs) (by simp) fun H' kvs s e hl => ⟨kvs, e, _, .inr (Same.seqT s hs), rfl, by rw [hl, hlv, decide_eq_true rfl]; exact k _ s⟩⟩
end
end Lm
set_option Elab.async false
set_option linter.all false
set_option maxRecDepth 100000
set_option maxHeartbeats 4000000
namespace Lm
open PySem PySem.Spec PyProof.Rows L2
local macro_rules | `(tactic| walk_at "rd") => `(tactic| simp (config := {failIfUnchanged := false}) only [tVar, tC, tIsN, tNotN, tB, tAnd, tOr, tNot, tAndV, tOrV, tNotV, tIf, tNext, tSeq, tBreak, tCont, tDrop, tRet, tRetN, tIfS, gName, gNil, gCons, gTup, tAsg, tPar,
  iList, iTup, iRng1, iRng2, r_tFor, tFmt, tJs, or_false, false_or, exists_false, r_tLc, r_tDc, bf, iSeq, r_wipe0, r_wipe1, tOp, tUn, rI, rI0, rEq, rNe, tTest, tChain, tFld, sFld, tNil, tCons, tTup, tLst, tCall, tMeth, tMake, tCB, tNoPart, tPart, tSl, rIxL, rIxT, rSlL, rIn, tBM0, tBM, rAppend, rExtend, rPop, rPopAt, rAny, rAll, tYes, iStr, rNewStrs, tM0, tM1, StX.tStar,
  L2.start, List.map_cons, List.map_nil, List.length_cons, List.length_nil, Nat.zero_add, Nat.reduceAdd, Nat.reduceSub, List.replicate_succ, List.replicate_zero, List.cons_append, List.nil_append, List.append_nil, List.set_cons_zero, List.set_cons_succ,
  List.getElem?_cons_zero, List.getElem?_cons_succ, Option.some.injEq, exists_eq_left', exists_eq_left, exists_eq', exists_eq, exists_and_left, exists_and_right, and_assoc, List.cons.injEq, V.str.injEq, V.ref.injEq, V.bl.injEq, V.int.injEq, V.ty.injEq, and_true, true_and, reduceCtorEq, false_and, and_false,
  Bool.not_true, Bool.not_false, Bool.false_eq_true, reduceIte, Bool.not_eq_true', decide_eq_true_eq, upd_same, cx_K, HO.ins.injEq, HO.tup.injEq, HO.lst.injEq, HO.dK.injEq, lk_Run_old, lk_Run_then, lk_Run_names, lm_Run_str, lk_Lead_tests, lk_Lead_old, lk_Lead_then, lk_Lead_names, lm_Lead_str, lk_Join_here, lk_Join_came, lk_Join_then, lk_Join_names, lm_Join_str, lk_Tool_marks, lk_Tool_told, lk_Tool_parts, lk_Tool_clears, lk_Tool_rows, lk_Tool_blank, lm_Tool_need_mark, lm_Tool_is_told, lm_Tool_ran, lm_Tool_led, lm_Tool_joined, lm_Tool_keeps, lm_Tool_need_row, lm_Tool_but, lm_Tool_without, lm_Tool_heeding, lm_Tool_len, lm_Tool_eq, lm_Tool_str, lk_Single_tool, lk_Single_begin, lm_Single_machine_steps, lm_Single_led, lm_Single_joined, lk_Ways_steps, lk_Ways_machine, lk_Ways_coming, lk_Ways_hearings, lk_Ways_elders, lm_Ways_edited, lm_Ways_heard, lk_Meeting_hearings, lk_Meeting_item, lk_Meeting_deeds, lk_Meeting_waiting, lk_Told_steps, lk_Told_machine, lk_Told_coming, lk_Told_hearings, lm_Told_is_closed])
local macro_rules | `(tactic| walk_at "rd*") => `(tactic| simp (config := {failIfUnchanged := false}) only [tVar, tC, tIsN, tNotN, tB, tAnd, tOr, tNot, tAndV, tOrV, tNotV, tIf, tNext, tSeq, tBreak, tCont, tDrop, tRet, tRetN, tIfS, gName, gNil, gCons, gTup, tAsg, tPar,
  iList, iTup, iRng1, iRng2, r_tFor, tFmt, tJs, or_false, false_or, exists_false, r_tLc, r_tDc, bf, iSeq, r_wipe0, r_wipe1, tOp, tUn, rI, rI0, rEq, rNe, tTest, tChain, tFld, sFld, tNil, tCons, tTup, tLst, tCall, tMeth, tMake, tCB, tNoPart, tPart, tSl, rIxL, rIxT, rSlL, rIn, tBM0, tBM, rAppend, rExtend, rPop, rPopAt, rAny, rAll, tYes, iStr, rNewStrs, tM0, tM1, StX.tStar,
  L2.start, List.map_cons, List.map_nil, List.length_cons, List.length_nil, Nat.zero_add, Nat.reduceAdd, Nat.reduceSub, List.replicate_succ, List.replicate_zero, List.cons_append, List.nil_append, List.append_nil, List.set_cons_zero, List.set_cons_succ,
  List.getElem?_cons_zero, List.getElem?_cons_succ, Option.some.injEq, exists_eq_left', exists_eq_left, exists_eq', exists_eq, exists_and_left, exists_and_right, and_assoc, List.cons.injEq, V.str.injEq, V.ref.injEq, V.bl.injEq, V.int.injEq, V.ty.injEq, and_true, true_and, reduceCtorEq, false_and, and_false,
  Bool.not_true, Bool.not_false, Bool.false_eq_true, reduceIte, Bool.not_eq_true', decide_eq_true_eq, upd_same, cx_K, HO.ins.injEq, HO.tup.injEq, HO.lst.injEq, HO.dK.injEq, lk_Run_old, lk_Run_then, lk_Run_names, lm_Run_str, lk_Lead_tests, lk_Lead_old, lk_Lead_then, lk_Lead_names, lm_Lead_str, lk_Join_here, lk_Join_came, lk_Join_then, lk_Join_names, lm_Join_str, lk_Tool_marks, lk_Tool_told, lk_Tool_parts, lk_Tool_clears, lk_Tool_rows, lk_Tool_blank, lm_Tool_need_mark, lm_Tool_is_told, lm_Tool_ran, lm_Tool_led, lm_Tool_joined, lm_Tool_keeps, lm_Tool_need_row, lm_Tool_but, lm_Tool_without, lm_Tool_heeding, lm_Tool_len, lm_Tool_eq, lm_Tool_str, lk_Single_tool, lk_Single_begin, lm_Single_machine_steps, lm_Single_led, lm_Single_joined, lk_Ways_steps, lk_Ways_machine, lk_Ways_coming, lk_Ways_hearings, lk_Ways_elders, lm_Ways_edited, lm_Ways_heard, lk_Meeting_hearings, lk_Meeting_item, lk_Meeting_deeds, lk_Meeting_waiting, lk_Told_steps, lk_Told_machine, lk_Told_coming, lk_Told_hearings, lm_Told_is_closed, *])
section
variable {P : Program} {w : World} {K : PySem.W.Frag} {mg : Str → Option Value} {base : Heap}
/-! ### is_old_mark, part_of, are_tests, names_among -/
def spIsOld : Sp := fun vs H Q _ => ∃ z : Str, vs = [.str z] ∧ z.length ≤ 1000 ∧ ∀ H', Same H H' → Q (.bl (isOld z)) H'
theorem sc_is_old_mark : FnScope ["value"] ["value"] (defScope st_is_old_mark) := ⟨rfl, rfl, rfl, by decide +kernel, rfl, by decide +kernel, by decide +kernel⟩
theorem x_is_old_mark (T : Tx w K mg) : FX P w K mg base 2 "is_old_mark" ["value"] spIsOld := by
  obtain ⟨fd, F⟩ := fun_is_old_mark T.c
  have G1 : FX P w K mg base 1 "is_name" ["value"] spIsName := x_is_name T
  have G2 : FX P w K mg base 1 "is_word" ["value", "some"] (spIsWord K) := x_is_word T
  refine FX.of F T.g_is_old_mark sc_is_old_mark (fun _ _ _ _ _ _ us hl => match us, hl with | [_], _ => rfl) (fun vs H Q E h => ?_) (fun cdv A outer s H vs Q E hr h => ?_)
  · obtain ⟨z, rfl, _⟩ := h
    rfl
  · obtain ⟨z, rfl, hz, k⟩ := h
    refine ⟨_, pss_one (ps_ret (pe_or (pc G1 hr (pa1 (pv 0))) (pe_one (pc G2 hr (pa2 (pv 0) (pgr T.g_ANY)))))), ?_⟩
    walk_at "rd"
    refine ⟨z, rfl, hz, fun H1 s1 => ⟨_, rfl, ?_⟩⟩
    cases e : isNm z with
    | true =>
      refine iteT ?_
      have q := k H1 s1
      unfold isOld at q
      rw [e] at q
      exact q
    | false =>
      refine iteF ?_
      refine ⟨z, _, anyL, rfl, .inr (T.t_ANY H1), fun H2 s2 => ?_⟩
      have q := k H2 (s1.trans s2)
      unfold isOld at q
      rw [e] at q
      have e2 : (anyL.any fun y => decide (y = z)) = decide (z = "any") := by
        unfold anyL
        rw [List.any_cons, List.any_nil, Bool.or_false]
        exact decide_eq_decide.mpr eq_comm
      rw [e2]
      exact q
def spPartOf : Sp := fun vs H Q _ => ∃ z : Str, vs = [.str z] ∧ z.length ≤ 1000 ∧ ∀ H', Same H H' → Q (.str (partOf z)) H'
theorem sc_part_of : FnScope ["test"] ["test"] (defScope st_part_of) := ⟨rfl, rfl, rfl, by decide +kernel, rfl, by decide +kernel, by decide +kernel⟩
theorem x_part_of (T : Tx w K mg) : FX P w K mg base 1 "part_of" ["test"] spPartOf := by
  obtain ⟨fd, F⟩ := fun_part_of T.c
  refine FX.of F T.g_part_of sc_part_of (fun _ _ _ _ _ _ us hl => match us, hl with | [_], _ => rfl) (fun vs H Q E h => ?_) (fun cdv A outer s H vs Q E hr h => ?_)
  · obtain ⟨z, rfl, _⟩ := h
    rfl
  · obtain ⟨z, rfl, hz, k⟩ := h
    refine ⟨_, pss_one (ps_ret (pe_bm PySem.F.plainAttrs_str PySem.F.slot_str_removeprefix PySem.F.type_str_removeprefix mt_removeprefix (pv 0) (pa1 pe_str))), ?_⟩
    walk_at "rd"
    exact ⟨rfl, len_ok hz, k _ (Same.refl _)⟩
/-- tests of a lead row: of the six, each part at most once -/
def spAreTests (K : PySem.W.Frag) : Sp := fun vs H Q _ => ∃ a l, vs = [.ref a] ∧ SqS K H a (sv l) ∧ (∀ t ∈ l, t ∈ tests6) ∧ (l.map partOf).Nodup ∧ l.length ≤ 1000 ∧ ∀ H', Same H H' → Q (.bl true) H'
theorem sc_are_tests : FnScope ["value", "test"] ["value"] (defScope st_are_tests) := ⟨rfl, rfl, rfl, by decide +kernel, rfl, by decide +kernel, by decide +kernel⟩
theorem x_are_tests (T : Tx w K mg) : FX P w K mg base 2 "are_tests" ["value"] (spAreTests K) := by
  obtain ⟨fd, F⟩ := fun_are_tests T.c
  have G1 : FX P w K mg base 1 "is_sequence" ["value"] (spIsSeq K) := x_is_sequence T
  have G2 : FX P w K mg base 1 "part_of" ["test"] spPartOf := x_part_of T
  have G3 : FX P w K mg base 1 "are_unlike" ["words"] (spUnlike K) := x_are_unlike T
  refine FX.of F T.g_are_tests sc_are_tests (fun _ _ _ _ _ _ us hl => match us, hl with | [_], _ => rfl) (fun vs H Q E h => ?_) (fun cdv A outer s H vs Q E hr h => ?_)
  · obtain ⟨a, l, rfl, _⟩ := h
    rfl
  · obtain ⟨a, l, rfl, hs, h6, nd, hz, k⟩ := h
    have hz' : (sv l).length ≤ 1000 := by rw [sv_len]; exact hz
    refine ⟨_, pss_cons (ps_if (PW.pt (pw_or (pt_not (pt_val (pc G1 hr (pa1 (pv 0))))) (pw_or1 (pt_not (pt_val (pb (cr_all rfl) T.n_all (pa1 (plc sc_are_tests 1 (pi_seq (pv 0))
        (fun _ _ _ _ _ => pe_and (pb isi_str T.n_isinstance (pa2 (pv 1) (pty (n := "str") T.n_str))) (pe_one (pe_cmpR op_in_seq (pc G2 hr (pa1 (pv 1))) (pgr T.g_PARTS) (by rfl)))))))))))) (pss_one (ps_ret pe_bl)) pss_nil)
      (pss_one (ps_ret (pc G3 hr (pa1 (plc sc_are_tests 1 (pi_seq (pv 0)) (fun _ _ _ _ _ => pc G2 hr (pa1 (pv 1)))))))), ?_⟩
    walk_at "rd"
    refine ⟨a, _, rfl, hs, fun H1 s1 => ⟨_, rfl, ?_⟩⟩
    walk_at "rd"
    refine lcS (Same.seqS s1 hs) fun {J G} wk hG D hD => lcA wk rfl hz' hD (fun v => .bl true) hG (fun x hx H2 s2 _ Ky ky => ?_) fun H2 s2 e => ?_
    · obtain ⟨z, hzl, rfl⟩ := mem_sv hx
      walk_at "rd"
      refine ⟨_, rfl, Nat.le_trans (tests6_len z (h6 z hzl)) (by decide), fun H3 s3 => ⟨_, .inr (T.t_PARTS _), rfl, flat_sv _, ?_⟩⟩
      rw [inV_str, tests6_part z (h6 z hzl)]
      exact ky _ s3
    · refine ⟨l.map fun _ => true, all_sv (f := fun _ => true) e, ?_⟩
      have e3 : (l.map fun _ => true).all id = true := by rw [List.all_map]; exact List.all_eq_true.mpr fun _ _ => rfl
      rw [e3]
      walk_at "rd"
      have s12 := s1.trans s2
      refine lcS (Same.seqS s12 hs) fun {J G} wk hG D hD => lcA wk rfl hz' hD (fun v => .str (partOf (vStr v))) hG (fun x hx H3 s3 _ Ky ky => ?_) fun H3 s3 e => ?_
      · obtain ⟨z, hzl, rfl⟩ := mem_sv hx
        walk_at "rd"
        exact ⟨_, rfl, Nat.le_trans (tests6_len z (h6 z hzl)) (by decide), fun H4 s4 => ky _ s4⟩
      · exact ⟨_, l.map partOf, rfl, .inl (strs_sv e), nd, by rw [List.length_map]; exact hz, fun H4 s4 => k _ ((s12.trans s3).trans s4)⟩
def spNames (K : PySem.W.Frag) : Sp := fun vs H Q _ => ∃ a l, vs = [.ref a] ∧ SqT K H a (sv l) ∧ (∀ z ∈ l, z.length ≤ 1000) ∧ l.length ≤ 1000 ∧ ∀ p H', H p = none → Same H H' → H' p = some (.tup (sv (l.filter isNm))) → Q (.ref p) H'
theorem sc_names_among : FnScope ["words", "word"] ["words"] (defScope st_names_among) := ⟨rfl, rfl, rfl, by decide +kernel, rfl, by decide +kernel, by decide +kernel⟩
theorem x_names_among (T : Tx w K mg) : FX P w K mg base 2 "names_among" ["words"] (spNames K) := by
  obtain ⟨fd, F⟩ := fun_names_among T.c
  have G1 : FX P w K mg base 1 "is_name" ["value"] spIsName := x_is_name T
  refine FX.of F T.g_names_among sc_names_among (fun _ _ _ _ _ _ us hl => match us, hl with | [_], _ => rfl) (fun vs H Q E h => ?_) (fun cdv A outer s H vs Q E hr h => ?_)
  · obtain ⟨a, l, rfl, _⟩ := h
    rfl
  · obtain ⟨a, l, rfl, hs, hl, hz, k⟩ := h
    refine ⟨_, pss_one (ps_ret (pbt call_tuple_of T.n_tuple (pa1 (plcI sc_names_among 1 (pi_tup (pv 0)) (fun _ _ _ _ _ => pt_val (pc G1 hr (pa1 (pv 1)))) (fun _ _ _ _ _ => pv 1))))), ?_⟩
    walk_at "rd"
    refine ⟨⟨_, hs⟩, fun D hD => lcF walk_tup rfl (by rw [sv_len]; exact hz) hD (fun v => isNm (vStr v)) id (fun H2 s2 => Same.seqT s2 hs) (fun x hx H2 s2 _ Ky Kn ky kn => ?_) fun H2 s2 e => ?_⟩
    · obtain ⟨z, hzl, rfl⟩ := mem_sv hx
      walk_at "rd"
      refine ⟨z, rfl, hl z hzl, fun H3 s3 => ⟨_, rfl, ?_⟩⟩
      cases ez : isNm z with
      | true => exact iteT (ky ez H3 s3)
      | false => exact iteF (kn ez H3 s3)
    · refine ⟨_, .inl ⟨SqL.of e, fun p hp => ?_⟩⟩
      refine k p _ (s2.free hp) (Same.new s2 hp) ?_
      rw [upd_same]
      unfold sv
      rw [List.map_id, List.filter_map]
      rfl
end
end Lm
set_option Elab.async false
set_option linter.all false
set_option maxRecDepth 100000
set_option maxHeartbeats 4000000
namespace Lm
open PySem PySem.Spec PyProof.Rows L2
local macro_rules | `(tactic| walk_at "rd") => `(tactic| simp (config := {failIfUnchanged := false}) only [tVar, tC, tIsN, tNotN, tB, tAnd, tOr, tNot, tAndV, tOrV, tNotV, tIf, tNext, tSeq, tBreak, tCont, tDrop, tRet, tRetN, tIfS, gName, gNil, gCons, gTup, tAsg, tPar,
  iList, iTup, iRng1, iRng2, r_tFor, tFmt, tJs, or_false, false_or, exists_false, r_tLc, r_tDc, bf, iSeq, r_wipe0, r_wipe1, tOp, tUn, rI, rI0, rEq, rNe, tTest, tChain, tFld, sFld, tNil, tCons, tTup, tLst, tCall, tMeth, tMake, tCB, tNoPart, tPart, tSl, rIxL, rIxT, rSlL, rIn, tBM0, tBM, rAppend, rExtend, rPop, rPopAt, rAny, rAll, tYes, iStr, rNewStrs, tM0, tM1, StX.tStar,
  L2.start, List.map_cons, List.map_nil, List.length_cons, List.length_nil, Nat.zero_add, Nat.reduceAdd, Nat.reduceSub, List.replicate_succ, List.replicate_zero, List.cons_append, List.nil_append, List.append_nil, List.set_cons_zero, List.set_cons_succ,
  List.getElem?_cons_zero, List.getElem?_cons_succ, Option.some.injEq, exists_eq_left', exists_eq_left, exists_eq', exists_eq, exists_and_left, exists_and_right, and_assoc, List.cons.injEq, V.str.injEq, V.ref.injEq, V.bl.injEq, V.int.injEq, V.ty.injEq, and_true, true_and, reduceCtorEq, false_and, and_false,
  Bool.not_true, Bool.not_false, Bool.false_eq_true, reduceIte, Bool.not_eq_true', decide_eq_true_eq, upd_same, cx_K, HO.ins.injEq, HO.tup.injEq, HO.lst.injEq, HO.dK.injEq, lk_Run_old, lk_Run_then, lk_Run_names, lm_Run_str, lk_Lead_tests, lk_Lead_old, lk_Lead_then, lk_Lead_names, lm_Lead_str, lk_Join_here, lk_Join_came, lk_Join_then, lk_Join_names, lm_Join_str, lk_Tool_marks, lk_Tool_told, lk_Tool_parts, lk_Tool_clears, lk_Tool_rows, lk_Tool_blank, lm_Tool_need_mark, lm_Tool_is_told, lm_Tool_ran, lm_Tool_led, lm_Tool_joined, lm_Tool_keeps, lm_Tool_need_row, lm_Tool_but, lm_Tool_without, lm_Tool_heeding, lm_Tool_len, lm_Tool_eq, lm_Tool_str, lk_Single_tool, lk_Single_begin, lm_Single_machine_steps, lm_Single_led, lm_Single_joined, lk_Ways_steps, lk_Ways_machine, lk_Ways_coming, lk_Ways_hearings, lk_Ways_elders, lm_Ways_edited, lm_Ways_heard, lk_Meeting_hearings, lk_Meeting_item, lk_Meeting_deeds, lk_Meeting_waiting, lk_Told_steps, lk_Told_machine, lk_Told_coming, lk_Told_hearings, lm_Told_is_closed])
local macro_rules | `(tactic| walk_at "rd*") => `(tactic| simp (config := {failIfUnchanged := false}) only [tVar, tC, tIsN, tNotN, tB, tAnd, tOr, tNot, tAndV, tOrV, tNotV, tIf, tNext, tSeq, tBreak, tCont, tDrop, tRet, tRetN, tIfS, gName, gNil, gCons, gTup, tAsg, tPar,
  iList, iTup, iRng1, iRng2, r_tFor, tFmt, tJs, or_false, false_or, exists_false, r_tLc, r_tDc, bf, iSeq, r_wipe0, r_wipe1, tOp, tUn, rI, rI0, rEq, rNe, tTest, tChain, tFld, sFld, tNil, tCons, tTup, tLst, tCall, tMeth, tMake, tCB, tNoPart, tPart, tSl, rIxL, rIxT, rSlL, rIn, tBM0, tBM, rAppend, rExtend, rPop, rPopAt, rAny, rAll, tYes, iStr, rNewStrs, tM0, tM1, StX.tStar,
  L2.start, List.map_cons, List.map_nil, List.length_cons, List.length_nil, Nat.zero_add, Nat.reduceAdd, Nat.reduceSub, List.replicate_succ, List.replicate_zero, List.cons_append, List.nil_append, List.append_nil, List.set_cons_zero, List.set_cons_succ,
  List.getElem?_cons_zero, List.getElem?_cons_succ, Option.some.injEq, exists_eq_left', exists_eq_left, exists_eq', exists_eq, exists_and_left, exists_and_right, and_assoc, List.cons.injEq, V.str.injEq, V.ref.injEq, V.bl.injEq, V.int.injEq, V.ty.injEq, and_true, true_and, reduceCtorEq, false_and, and_false,
  Bool.not_true, Bool.not_false, Bool.false_eq_true, reduceIte, Bool.not_eq_true', decide_eq_true_eq, upd_same, cx_K, HO.ins.injEq, HO.tup.injEq, HO.lst.injEq, HO.dK.injEq, lk_Run_old, lk_Run_then, lk_Run_names, lm_Run_str, lk_Lead_tests, lk_Lead_old, lk_Lead_then, lk_Lead_names, lm_Lead_str, lk_Join_here, lk_Join_came, lk_Join_then, lk_Join_names, lm_Join_str, lk_Tool_marks, lk_Tool_told, lk_Tool_parts, lk_Tool_clears, lk_Tool_rows, lk_Tool_blank, lm_Tool_need_mark, lm_Tool_is_told, lm_Tool_ran, lm_Tool_led, lm_Tool_joined, lm_Tool_keeps, lm_Tool_need_row, lm_Tool_but, lm_Tool_without, lm_Tool_heeding, lm_Tool_len, lm_Tool_eq, lm_Tool_str, lk_Single_tool, lk_Single_begin, lm_Single_machine_steps, lm_Single_led, lm_Single_joined, lk_Ways_steps, lk_Ways_machine, lk_Ways_coming, lk_Ways_hearings, lk_Ways_elders, lm_Ways_edited, lm_Ways_heard, lk_Meeting_hearings, lk_Meeting_item, lk_Meeting_deeds, lk_Meeting_waiting, lk_Told_steps, lk_Told_machine, lk_Told_coming, lk_Told_hearings, lm_Told_is_closed, *])
section
variable {P : Program} {w : World} {K : PySem.W.Frag} {mg : Str → Option Value} {base : Heap}
/-! ### Run, Lead, Join -/
def spRunInit (K : PySem.W.Frag) : Sp := fun vs H Q _ => ∃ x dx old th, vs = [.ref x, .str old, .str th] ∧ H x = some (.ins (He.ga K "Run") dx []) ∧ (RowD.run old th).fine ∧
  ∀ H', Ex [x] H H' → RowAt K H' x (.run old th) → Q .non H'
theorem le1000 {n : Nat} (h : n ≤ 4) : n ≤ 1000 := Nat.le_trans h (by decide)
/-- names_among((a, b, ..)) where a new instance's fields are written -/
theorem sc_Run_init : FnScope ["self", "old", "then"] ["self", "old", "then"] (defScope st_Run_init) := ⟨rfl, rfl, rfl, by decide +kernel, rfl, by decide +kernel, by decide +kernel⟩
theorem x_Run_init (T : Tx w K mg) : CX1 P w K mg base 3 "Run" ["self", "old", "then"] (spRunInit K) := by
  obtain ⟨fd, F⟩ := fun_Run_init T.c
  have G1 : FX P w K mg base 2 "is_old_mark" ["value"] spIsOld := x_is_old_mark T
  have G2 : FX P w K mg base 1 "is_name" ["value"] spIsName := x_is_name T
  have G3 : FX P w K mg base 2 "names_among" ["words"] (spNames K) := x_names_among T
  refine CX1.of F T.g_Run T.mk_Run sc_Run_init (fun _ _ _ _ _ _ us hl => match us, hl with | [_, _, _], _ => rfl) (fun vs H Q E h => ?_) (fun cdv A outer s H vs Q E hr h => ?_)
  · obtain ⟨x, dx, old, th, rfl, _⟩ := h
    rfl
  · obtain ⟨x, dx, old, th, rfl, hx, ⟨ho, ht⟩, k⟩ := h
    have l1 := le1000 (isOld_len ho)
    have l2 := le1000 (isNm_len ht)
    refine ⟨_, pss_cons (ps_if (pt_not (pt_val (pc G1 hr (pa1 (pv 1))))) pss_never pss_nil)
      (pss_cons (ps_if (pt_not (pt_val (pc G2 hr (pa1 (pv 2))))) pss_never pss_nil)
      (pss_cons (ps_fld (pv 0) (pv 1) rfl) (pss_cons (ps_fld (pv 0) (pv 2) rfl) (pss_one (ps_fld (pv 0) (pc G3 hr (pa1 (pe_tup (pa2 (pv 1) (pv 2))))) rfl))))), ?_⟩
    have fl := T.fl
    walk_at "rd"
    refine ⟨old, rfl, l1, fun H1 s1 => ⟨_, rfl, ?_⟩⟩
    rw [ho]
    walk_at "rd"
    refine ⟨th, rfl, l2, fun H2 s2 => ⟨_, rfl, ?_⟩⟩
    rw [ht]
    have hx2 := s2 _ _ (s1 _ _ hx)
    walk_at "rd*"
    rw [upd_upd]
    refine ⟨by decide, by show 1 < 1000; decide, by decide, fun p hp => ?_⟩
    have npx : p ≠ x := fun z => by rw [z, upd_same] at hp; cases hp
    have hp0 : H2 p = none := by rw [upd_ne npx] at hp; exact hp
    refine ⟨p, [old, th], rfl, .inl (.inl upd_same), ?_, by simp, fun q H3 nq s3 e3 => ?_⟩
    · intro z hz
      rcases List.mem_cons.mp hz with e | hz
      · rw [e]; exact l1
      · rw [List.mem_singleton.mp hz]; exact l2
    · have hx3 := s3 x _ (Eq.trans (upd_ne npx.symm) upd_same)
      walk_at "rd*"
      refine ⟨by show 2 < 1000; decide, k _ (fun b o eb nb => ?_) ⟨dx, q, upd_same, ?_⟩⟩
      · have nbx : b ≠ x := by simpa using nb
        have e2 := s2 _ _ (s1 _ _ eb)
        rw [upd_ne nbx]
        refine s3 _ _ ?_
        rw [upd_ne (ne_of_none e2 hp0), upd_ne nbx]
        exact e2
      · have nqx : q ≠ x := fun z => by
          rw [z] at nq
          rw [upd_ne npx.symm, upd_same] at nq
          cases nq
        rw [upd_ne nqx]
        exact e3
def spJoinInit (K : PySem.W.Frag) : Sp := fun vs H Q _ => ∃ x dx here came th, vs = [.ref x, .str here, .str came, .str th] ∧ H x = some (.ins (He.ga K "Join") dx []) ∧ (RowD.join here came th).fine ∧
  ∀ H', Ex [x] H H' → RowAt K H' x (.join here came th) → Q .non H'
theorem sc_Join_init : FnScope ["self", "here", "came", "then"] ["self", "here", "came", "then"] (defScope st_Join_init) := ⟨rfl, rfl, rfl, by decide +kernel, rfl, by decide +kernel, by decide +kernel⟩
theorem x_Join_init (T : Tx w K mg) : CX1 P w K mg base 3 "Join" ["self", "here", "came", "then"] (spJoinInit K) := by
  obtain ⟨fd, F⟩ := fun_Join_init T.c
  have G1 : FX P w K mg base 2 "is_old_mark" ["value"] spIsOld := x_is_old_mark T
  have G2 : FX P w K mg base 1 "is_name" ["value"] spIsName := x_is_name T
  have G3 : FX P w K mg base 2 "names_among" ["words"] (spNames K) := x_names_among T
  have G4 : FX P w K mg base 1 "is_word" ["value", "some"] (spIsWord K) := x_is_word T
  refine CX1.of F T.g_Join T.mk_Join sc_Join_init (fun _ _ _ _ _ _ us hl => match us, hl with | [_, _, _, _], _ => rfl) (fun vs H Q E h => ?_) (fun cdv A outer s H vs Q E hr h => ?_)
  · obtain ⟨x, dx, here, came, th, rfl, _⟩ := h
    rfl
  · obtain ⟨x, dx, here, came, th, rfl, hx, ⟨ho, hc, ht⟩, k⟩ := h
    have l1 := le1000 (isOld_len ho)
    have l2 := le1000 (isOld_len hc)
    have l3 := le1000 (isThen_len ht)
    refine ⟨_, pss_cons (ps_if (pt_not (pt_val (pc G1 hr (pa1 (pv 1))))) pss_never pss_nil)
      (pss_cons (ps_if (pt_not (pt_val (pc G1 hr (pa1 (pv 2))))) pss_never pss_nil)
      (pss_cons (ps_if (PW.pt (pw_and (pt_not (pt_val (pc G2 hr (pa1 (pv 3))))) (pw_and1 (pt_not (pt_val (pc G4 hr (pa2 (pv 3) (pgr T.g_SIDES)))))))) pss_never pss_nil)
      (pss_cons (ps_fld (pv 0) (pv 1) rfl) (pss_cons (ps_fld (pv 0) (pv 2) rfl) (pss_cons (ps_fld (pv 0) (pv 3) rfl) (pss_one (ps_fld (pv 0) (pc G3 hr (pa1 (pe_tup (pa_cons (pv 1) (pa2 (pv 2) (pv 3)))))) rfl))))))), ?_⟩
    have fl := T.fl
    walk_at "rd"
    refine ⟨here, rfl, l1, fun H1 s1 => ⟨_, rfl, ?_⟩⟩
    rw [ho]
    walk_at "rd"
    refine ⟨came, rfl, l2, fun H2 s2 => ⟨_, rfl, ?_⟩⟩
    rw [hc]
    walk_at "rd"
    refine ⟨th, rfl, l3, fun H3 s3 => ⟨_, rfl, ?_⟩⟩
    have rest : ∀ H2, Same H H2 → tSeq (sFld K (tVar 0) (tVar 1) "here") (tSeq (sFld K (tVar 0) (tVar 2) "came") (tSeq (sFld K (tVar 0) (tVar 3) "then") (sFld K (tVar 0) (tCall (spNames K) [] E0 (tCons (tTup (tCons (tVar 1) (tCons (tVar 2) (tCons (tVar 3) tNil)))) tNil)) "names")))
        { nx := fun _ H' => Q .non H', rt := Q } [some (.ref x), some (.str here), some (.str came), some (.str th)] H2 := by
      intro H2 s2
      have hx2 := s2 _ _ hx
      walk_at "rd*"
      rw [upd_upd, upd_upd]
      refine ⟨by decide, by show 1 < 1000; decide, by show 2 < 1000; decide, by decide, fun p hp => ?_⟩
      have npx : p ≠ x := fun z => by rw [z, upd_same] at hp; cases hp
      have hp0 : H2 p = none := by rw [upd_ne npx] at hp; exact hp
      refine ⟨p, [here, came, th], rfl, .inl (.inl upd_same), ?_, by simp, fun q H3 nq s3 e3 => ?_⟩
      · intro z hz
        rcases List.mem_cons.mp hz with e | hz
        · rw [e]; exact l1
        · rcases List.mem_cons.mp hz with e | hz
          · rw [e]; exact l2
          · rw [List.mem_singleton.mp hz]; exact l3
      · have hx3 := s3 x _ (Eq.trans (upd_ne npx.symm) upd_same)
        walk_at "rd*"
        refine ⟨by show 3 < 1000; decide, k _ (fun b o eb nb => ?_) ⟨dx, q, upd_same, ?_⟩⟩
        · have nbx : b ≠ x := by simpa using nb
          have e2 := s2 _ _ eb
          rw [upd_ne nbx]
          refine s3 _ _ ?_
          rw [upd_ne (ne_of_none e2 hp0), upd_ne nbx]
          exact e2
        · have nqx : q ≠ x := fun z => by
            rw [z] at nq
            rw [upd_ne npx.symm, upd_same] at nq
            cases nq
          rw [upd_ne nqx]
          exact e3
    cases e : isNm th with
    | true =>
      have r := rest H3 ((s1.trans s2).trans s3)
      revert r
      walk_at "rd"
      exact id
    | false =>
      walk_at "rd"
      refine ⟨th, _, sidesL, rfl, .inr (T.t_SIDES _), fun H4 s4 => ⟨_, rfl, ?_⟩⟩
      have e2 : (sidesL.any fun y => decide (y = th)) = true := by
        unfold isThen at ht
        rw [e, Bool.false_or] at ht
        have hm := of_decide_eq_true ht
        exact List.any_eq_true.mpr ⟨th, hm, decide_eq_true rfl⟩
      rw [e2]
      have r := rest H4 (((s1.trans s2).trans s3).trans s4)
      revert r
      walk_at "rd"
      exact id
def spLeadInit (K : PySem.W.Frag) : Sp := fun vs H Q _ => ∃ x dx l ts old th, vs = [.ref x, .ref l, .str old, .str th] ∧ H x = some (.ins (He.ga K "Lead") dx []) ∧ H l = some (.lst (sv ts)) ∧ (RowD.lead ts old th).fine ∧
  ∀ H', Ex [x] H H' → RowAt K H' x (.lead ts old th) → Q .non H'
theorem sc_Lead_init : FnScope ["self", "tests", "old", "then"] ["self", "tests", "old", "then"] (defScope st_Lead_init) := ⟨rfl, rfl, rfl, by decide +kernel, rfl, by decide +kernel, by decide +kernel⟩
theorem x_Lead_init (T : Tx w K mg) : CX1 P w K mg base 3 "Lead" ["self", "tests", "old", "then"] (spLeadInit K) := by
  obtain ⟨fd, F⟩ := fun_Lead_init T.c
  have G1 : FX P w K mg base 2 "is_old_mark" ["value"] spIsOld := x_is_old_mark T
  have G2 : FX P w K mg base 1 "is_name" ["value"] spIsName := x_is_name T
  have G3 : FX P w K mg base 2 "names_among" ["words"] (spNames K) := x_names_among T
  have G4 : FX P w K mg base 2 "are_tests" ["value"] (spAreTests K) := x_are_tests T
  refine CX1.of F T.g_Lead T.mk_Lead sc_Lead_init (fun _ _ _ _ _ _ us hl => match us, hl with | [_, _, _, _], _ => rfl) (fun vs H Q E h => ?_) (fun cdv A outer s H vs Q E hr h => ?_)
  · obtain ⟨x, dx, l, ts, old, th, rfl, _⟩ := h
    rfl
  · obtain ⟨x, dx, l, ts, old, th, rfl, hx, hl, ⟨h6, nd, ho, ht⟩, k⟩ := h
    have l1 := le1000 (isOld_len ho)
    have l2 := le1000 (isNm_len ht)
    have l3 : ts.length ≤ 1000 := Nat.le_trans (tests_le h6 nd) (by decide)
    refine ⟨_, pss_cons (ps_if (pt_not (pt_val (pc G4 hr (pa1 (pv 1))))) pss_never pss_nil)
      (pss_cons (ps_if (pt_not (pt_val (pc G1 hr (pa1 (pv 2))))) pss_never pss_nil)
      (pss_cons (ps_if (pt_not (pt_val (pc G2 hr (pa1 (pv 3))))) pss_never pss_nil)
      (pss_cons (ps_fld (pv 0) (pbt call_tuple_of T.n_tuple (pa1 (pv 1))) rfl) (pss_cons (ps_fld (pv 0) (pv 2) rfl) (pss_cons (ps_fld (pv 0) (pv 3) rfl) (pss_one (ps_fld (pv 0) (pc G3 hr (pa1 (pe_tup (pa2 (pv 2) (pv 3))))) rfl))))))), ?_⟩
    have fl := T.fl
    walk_at "rd"
    refine ⟨l, ts, rfl, .inl (SqL.of hl), h6, nd, l3, fun H1 s1 => ⟨_, rfl, ?_⟩⟩
    walk_at "rd"
    refine ⟨old, rfl, l1, fun H2 s2 => ⟨_, rfl, ?_⟩⟩
    rw [ho]
    walk_at "rd"
    refine ⟨th, rfl, l2, fun H3 s3 => ⟨_, rfl, ?_⟩⟩
    rw [ht]
    have s13 := (s1.trans s2).trans s3
    have hx2 := s13 _ _ hx
    walk_at "rd"
    refine ⟨_, .inl ⟨SqL.of (s13 _ _ hl), fun t nt => ?_⟩⟩
    have ntx : x ≠ t := ne_of_none hx2 nt
    have hx3 : upd H3 t (.tup (sv ts)) x = some (.ins (He.ga K "Lead") dx []) := by rw [upd_ne ntx]; exact hx2
    walk_at "rd*"
    rw [upd_upd, upd_upd]
    refine ⟨by decide, by show 1 < 1000; decide, by show 2 < 1000; decide, by decide, fun p hp => ?_⟩
    have npx : p ≠ x := fun z => by rw [z, upd_same] at hp; cases hp
    have hp1 : upd H3 t (.tup (sv ts)) p = none := by rw [upd_ne npx] at hp; exact hp
    have npt : p ≠ t := fun z => by rw [z, upd_same] at hp1; cases hp1
    have hp0 : H3 p = none := by rw [upd_ne npt] at hp1; exact hp1
    refine ⟨p, [old, th], rfl, .inl (.inl upd_same), ?_, by simp, fun q H4 nq s4 e4 => ?_⟩
    · intro z hz
      rcases List.mem_cons.mp hz with e | hz
      · rw [e]; exact l1
      · rw [List.mem_singleton.mp hz]; exact l2
    · have hx4 := s4 x _ (Eq.trans (upd_ne npx.symm) upd_same)
      have ht4 := s4 t _ (Eq.trans (upd_ne npt.symm) (Eq.trans (upd_ne ntx.symm) upd_same))
      walk_at "rd*"
      have nqx : q ≠ x := fun z => by
        rw [z] at nq
        rw [upd_ne npx.symm, upd_same] at nq
        cases nq
      refine ⟨by show 3 < 1000; decide, k _ (fun b o eb nb => ?_) ⟨dx, t, q, upd_same, by rw [upd_ne ntx.symm]; exact ht4, by rw [upd_ne nqx]; exact e4⟩⟩
      have nbx : b ≠ x := by simpa using nb
      have e2 := s13 _ _ eb
      rw [upd_ne nbx]
      refine s4 _ _ ?_
      rw [upd_ne (ne_of_none e2 hp0), upd_ne nbx, upd_ne (ne_of_none e2 nt)]
      exact e2
/-! ### str of a row -/
theorem slen {n : Nat} (h : n ≤ 150) : n ≤ sizeLine := Nat.le_trans h (by decide)
def spRowStr (K : PySem.W.Frag) (p : RowD → Prop) : Sp := fun vs H Q _ => ∃ a d, vs = [.ref a] ∧ RowAt K H a d ∧ d.fine ∧ p d ∧ ∀ H', Same H H' → Q (.str d.text) H'
def isRun : RowD → Prop
  | .run .. => True
  | _ => False
def isLead : RowD → Prop
  | .lead .. => True
  | _ => False
def isJoin : RowD → Prop
  | .join .. => True
  | _ => False
theorem sc_Run_str : FnScope ["self"] ["self"] (defScope st_Run_str) := ⟨rfl, rfl, rfl, by decide +kernel, rfl, by decide +kernel, by decide +kernel⟩
theorem x_Run_str (T : Tx w K mg) : MX P w K mg base 1 (He.ga K "Run") "__str__" ["self"] (spRowStr K isRun) := by
  obtain ⟨fd, F⟩ := fun_Run_str T.c
  refine MX.of F T.me_Run_str sc_Run_str (fun _ _ _ _ _ _ us hl => match us, hl with | [_], _ => rfl) (fun vs H Q E h => ?_) (fun cdv A outer s H vs Q E hr h => ?_)
  · obtain ⟨a, d, rfl, _⟩ := h
    rfl
  · obtain ⟨a, d, rfl, hd, hf, hp, k⟩ := h
    match d, hd, hf, hp, k with
    | .run old th, ⟨dx, n, h1, h2⟩, hf, _, k =>
      have tl := RowD.text_len hf
      unfold RowD.text at tl
      simp only [lapp] at tl
      have l1 := slen (Nat.le_trans (isOld_len hf.1) (by decide))
      have l2 := slen (Nat.le_trans (isNm_len hf.2) (by decide))
      refine ⟨_, pss_one (ps_ret (pe_joined (.cons pe_str (.cons (pe_fmt (pe_fld (pv 0) rfl)) (.cons pe_str (.cons (pe_fmt (pe_fld (pv 0) rfl)) .nil)))))), ?_⟩
      have fl := T.fl
      walk_at "rd*"
      refine ⟨?_, ?_, ?_, ?_, k H (Same.refl _)⟩ <;> (simp only [lapp]; exact slen (by omega))
theorem sc_Join_str : FnScope ["self"] ["self"] (defScope st_Join_str) := ⟨rfl, rfl, rfl, by decide +kernel, rfl, by decide +kernel, by decide +kernel⟩
theorem x_Join_str (T : Tx w K mg) : MX P w K mg base 1 (He.ga K "Join") "__str__" ["self"] (spRowStr K isJoin) := by
  obtain ⟨fd, F⟩ := fun_Join_str T.c
  refine MX.of F T.me_Join_str sc_Join_str (fun _ _ _ _ _ _ us hl => match us, hl with | [_], _ => rfl) (fun vs H Q E h => ?_) (fun cdv A outer s H vs Q E hr h => ?_)
  · obtain ⟨a, d, rfl, _⟩ := h
    rfl
  · obtain ⟨a, d, rfl, hd, hf, hp, k⟩ := h
    match d, hd, hf, hp, k with
    | .join here came th, ⟨dx, n, h1, h2⟩, hf, _, k =>
      have tl := RowD.text_len hf
      unfold RowD.text at tl
      simp only [lapp] at tl
      have l1 := slen (Nat.le_trans (isOld_len hf.1) (by decide))
      have l2 := slen (Nat.le_trans (isOld_len hf.2.1) (by decide))
      have l3 := slen (Nat.le_trans (isThen_len hf.2.2) (by decide))
      refine ⟨_, pss_one (ps_ret (pe_joined (.cons pe_str (.cons (pe_fmt (pe_fld (pv 0) rfl)) (.cons pe_str (.cons (pe_fmt (pe_fld (pv 0) rfl)) (.cons pe_str (.cons (pe_fmt (pe_fld (pv 0) rfl)) .nil)))))))), ?_⟩
      have fl := T.fl
      walk_at "rd*"
      refine ⟨?_, ?_, ?_, ?_, ?_, ?_, k H (Same.refl _)⟩ <;> (simp only [lapp]; exact slen (by omega))
theorem sc_Lead_str : FnScope ["self", "asked"] ["self"] (defScope st_Lead_str) := ⟨rfl, rfl, rfl, by decide +kernel, rfl, by decide +kernel, by decide +kernel⟩
theorem x_Lead_str (T : Tx w K mg) : MX P w K mg base 1 (He.ga K "Lead") "__str__" ["self"] (spRowStr K isLead) := by
  obtain ⟨fd, F⟩ := fun_Lead_str T.c
  refine MX.of F T.me_Lead_str sc_Lead_str (fun _ _ _ _ _ _ us hl => match us, hl with | [_], _ => rfl) (fun vs H Q E h => ?_) (fun cdv A outer s H vs Q E hr h => ?_)
  · obtain ⟨a, d, rfl, _⟩ := h
    rfl
  · obtain ⟨a, d, rfl, hd, hf, hp, k⟩ := h
    match d, hd, hf, hp, k with
    | .lead ts old th, ⟨dx, t, n, h1, h2, h3⟩, hf, _, k =>
      have tl := RowD.text_len hf
      unfold RowD.text at tl
      simp only [lapp] at tl
      have l1 := slen (Nat.le_trans (isOld_len hf.2.2.1) (by decide))
      have l2 := slen (Nat.le_trans (isNm_len hf.2.2.2) (by decide))
      have l3 := slen (Nat.le_trans (asked_len hf.1 hf.2.1) (by decide))
      refine ⟨_, pss_cons (ps_set (i := 1) sc_Lead_str.nd rfl (Or.inl rfl) (pe_ifExp (pt_cmpR op_gt (pb call_len_seq T.n_len (pa1 (pe_fld (pv 0) rfl))) pe_int (nomark _)) (pe_join pe_str (pe_fld (pv 0) rfl)) pe_str))
        (pss_one (ps_ret (pe_joined (.cons pe_str (.cons (pe_fmt (pv 1)) (.cons pe_str (.cons (pe_fmt (pe_fld (pv 0) rfl)) (.cons pe_str (.cons (pe_fmt (pe_fld (pv 0) rfl)) .nil))))))))), ?_⟩
      have fl := T.fl
      walk_at "rd*"
      refine ⟨sv ts, .inr (SqT.of h2), ?_⟩
      rw [sv_len]
      have kk : Q (.str (Str.empty ++ "lead " ++ askedOf ts ++ " " ++ old ++ " to " ++ th)) H := k H (Same.refl _)
      by_cases h0 : (0 : Int) < (ts.length : Int)
      · have e0 : askedOf ts = Txt.join " and " ts := by unfold askedOf; rw [if_pos (by omega)]
        rw [if_pos h0]
        have c := asked_cost hf.1 hf.2.1
        have e5 : (" and " : Str).length = 5 := by decide
        have e7 : ("( and )" : Str).length = 7 := by decide
        rw [e0] at kk tl l3
        refine ⟨ts, .inr (SqT.of h2), by rw [e7] at c; rw [e5]; omega, ?_, l3, ?_, ?_, ?_, ?_, ?_, kk⟩ <;> (simp only [lapp]; exact slen (by omega))
      · have e0 : askedOf ts = "always" := by unfold askedOf; rw [if_neg (by omega)]
        rw [if_neg h0]
        rw [e0] at kk tl l3
        refine ⟨?_, l3, ?_, ?_, ?_, ?_, ?_, kk⟩ <;> (simp only [lapp]; exact slen (by omega))
end
end Lm
set_option Elab.async false
set_option linter.all false
set_option maxRecDepth 100000
set_option maxHeartbeats 4000000
/-! Ledmarks k83: rows as texts, written and cut at blanks. -/
namespace Lm
open PySem TL
/-! ### lead rows' tests: all there are, by decide -/
def testsAll : List (List Str) := [[]] ++ (tests6.map fun a => [a]) ++ (tests6.flatMap fun a => tests6.map fun b => [a, b]) ++ (tests6.flatMap fun a => tests6.flatMap fun b => tests6.map fun c => [a, b, c])
theorem testsAll_mem {ts : List Str} (h : ∀ t ∈ ts, t ∈ tests6) (hl : ts.length ≤ 3) : ts ∈ testsAll := by
  unfold testsAll
  match ts, h, hl with
  | [], _, _ => exact List.mem_append_left _ (List.mem_append_left _ (List.mem_append_left _ (List.mem_singleton.mpr rfl)))
  | [a], h, _ => exact List.mem_append_left _ (List.mem_append_left _ (List.mem_append_right _ (List.mem_map.mpr ⟨a, h a (by simp), rfl⟩)))
  | [a, b], h, _ => exact List.mem_append_left _ (List.mem_append_right _ (List.mem_flatMap.mpr ⟨a, h a (by simp), List.mem_map.mpr ⟨b, h b (by simp), rfl⟩⟩))
  | [a, b, c], h, _ => exact List.mem_append_right _ (List.mem_flatMap.mpr ⟨a, h a (by simp), List.mem_flatMap.mpr ⟨b, h b (by simp), List.mem_map.mpr ⟨c, h c (by simp), rfl⟩⟩⟩)
  | _ :: _ :: _ :: _ :: _, _, hl => exact absurd hl (by simp)
def asL (ts : List Str) : List Nat := if 0 < ts.length then joinL (tl " and ") (ts.map tl) else tl "always"
theorem asL_eq (ts : List Str) : tl (askedOf ts) = asL ts := by
  unfold askedOf asL
  split
  · rw [join_eq, tl_join]
  · rfl
def askedWL (ts : List Str) : List (List Nat) := spl [32] 0 [] (asL ts)
/-- the words of what a lead row asks -/
def askedW (ts : List Str) : List Str := (askedWL ts).map fun l => ⟨l.toArray⟩
theorem askedW_tl (ts : List Str) : (askedW ts).map tl = askedWL ts := by
  unfold askedW
  rw [List.map_map]
  exact (List.map_congr_left fun l _ => tl_mk l).trans (List.map_id _)
def askChk (ts : List Str) : Bool := decide (joinL [32] (askedWL ts) = asL ts) && ((decide (asL ts = tl "always") == decide (ts = [])) && ((decide (ts = []) || decide (spl (tl " and ") 0 [] (asL ts) = ts.map tl)) &&
  (decide (1 ≤ (askedWL ts).length) && (decide ((askedWL ts).length ≤ 10) && ((askedWL ts).all (fun p => decide ((32 : Nat) ∉ p) && (decide ((10 : Nat) ∉ p) && decide (p.length ≤ 9))) && decide ((10 : Nat) ∉ asL ts))))))
theorem askAll : testsAll.all askChk = true := by decide +kernel
theorem kind_sp (x : Str) : ¬ Builtin.Str.strKind x < Builtin.Str.strKind " " := kind_ok (by decide +kernel)
theorem kind_and (x : Str) : ¬ Builtin.Str.strKind x < Builtin.Str.strKind " and " := kind_ok (by decide +kernel)
theorem kind_nl (x : Str) : ¬ Builtin.Str.strKind x < Builtin.Str.strKind "\n" := kind_ok (by decide +kernel)
theorem ask_ok {ts : List Str} (h : ∀ t ∈ ts, t ∈ tests6) (hl : ts.length ≤ 3) : Txt.join " " (askedW ts) = askedOf ts ∧ (askedOf ts = "always" ↔ ts = []) ∧ (ts ≠ [] → Txt.split (askedOf ts) " and " = ts) ∧ 1 ≤ (askedW ts).length ∧ (askedW ts).length ≤ 10 ∧
    (∀ p ∈ askedW ts, (32 : Nat) ∉ tl p ∧ (10 : Nat) ∉ tl p ∧ (tl p).length ≤ 9) ∧ (10 : Nat) ∉ tl (askedOf ts) := by
  have h1 := List.all_eq_true.mp askAll ts (testsAll_mem h hl)
  unfold askChk at h1
  simp only [Bool.and_eq_true, Bool.or_eq_true, decide_eq_true_eq, List.all_eq_true, beq_iff_eq] at h1
  obtain ⟨k1, k2, k3, k4, k5, k6, k7⟩ := h1
  have lw : (askedW ts).length = (askedWL ts).length := List.length_map _
  refine ⟨?_, ?_, fun n => ?_, by rw [lw]; exact k4, by rw [lw]; exact k5, fun p hp => ?_, by rw [asL_eq]; exact k7⟩
  · refine ext_tl ?_
    rw [join_eq, tl_join, askedW_tl, asL_eq]
    exact k1
  · constructor
    · intro e
      have e2 : asL ts = tl "always" := by rw [← asL_eq, e]
      rw [decide_eq_true e2] at k2
      exact of_decide_eq_true k2.symm
    · intro e
      rw [e]
      rfl
  · refine map_tl_inj ?_
    rw [split_spl _ _ (by decide) (kind_and _), asL_eq]
    exact k3.resolve_left n
  · obtain ⟨l, hl2, e⟩ := List.mem_map.mp hp
    rw [← e, tl_mk]
    exact k6 l hl2
/-! ### a row's words -/
def RowD.pieces : RowD → List Str
  | .run old th => ["run", old, "to", th]
  | .lead ts old th => "lead" :: (askedW ts ++ [old, "to", th])
  | .join here came th => ["join", here, came, "to", th]
theorem small_no (c : Nat) (h : c ∈ smallC) : c ≠ 32 ∧ c ≠ 10 := by
  have all : ∀ c ∈ smallC, c ≠ 32 ∧ c ≠ 10 := by decide +kernel
  exact all c h
theorem isNm_no {z : Str} (h : isNm z = true) : (32 : Nat) ∉ tl z ∧ (10 : Nat) ∉ tl z := by
  unfold isNm at h
  simp only [Bool.and_eq_true, List.all_eq_true, decide_eq_true_eq] at h
  obtain ⟨_, _, _, h4⟩ := h
  exact ⟨fun m => (small_no _ (h4 _ m)).1 rfl, fun m => (small_no _ (h4 _ m)).2 rfl⟩
theorem isOld_no {z : Str} (h : isOld z = true) : (32 : Nat) ∉ tl z ∧ (10 : Nat) ∉ tl z := by
  unfold isOld at h
  rcases Bool.or_eq_true_iff.mp h with h | h
  · exact isNm_no h
  · rw [of_decide_eq_true h]
    decide +kernel
theorem isThen_no {z : Str} (h : isThen z = true) : (32 : Nat) ∉ tl z ∧ (10 : Nat) ∉ tl z := by
  unfold isThen at h
  rcases Bool.or_eq_true_iff.mp h with h | h
  · exact isNm_no h
  · have h2 := of_decide_eq_true h
    have all : ∀ z ∈ sidesL, (32 : Nat) ∉ tl z ∧ (10 : Nat) ∉ tl z := by decide +kernel
    exact all z h2
theorem joinL_snoc (S : List Nat) : ∀ {A B : List (List Nat)}, A ≠ [] → B ≠ [] → joinL S (A ++ B) = joinL S A ++ (S ++ joinL S B)
  | [], _, h, _ => absurd rfl h
  | [a], [], _, h => absurd rfl h
  | [a], b :: B, _, _ => rfl
  | a :: c :: A, B, _, h => by
    show a ++ (S ++ joinL S (c :: A ++ B)) = a ++ (S ++ joinL S (c :: A)) ++ (S ++ joinL S B)
    rw [joinL_snoc S (A := c :: A) (by simp) h]
    simp only [List.append_assoc]
theorem RowD.text_eq {d : RowD} (h : d.fine) : d.text = Txt.join " " d.pieces := by
  refine ext_tl ?_
  rw [join_eq, tl_join]
  cases d with
  | run old th =>
    show tl (Str.empty ++ "run " ++ old ++ " to " ++ th : Str) = tl "run" ++ (tl " " ++ (tl old ++ (tl " " ++ (tl "to" ++ (tl " " ++ tl th)))))
    simp only [tl_append, List.append_assoc]
    rfl
  | join here came th =>
    show tl (Str.empty ++ "join " ++ here ++ " " ++ came ++ " to " ++ th : Str) = tl "join" ++ (tl " " ++ (tl here ++ (tl " " ++ (tl came ++ (tl " " ++ (tl "to" ++ (tl " " ++ tl th)))))))
    simp only [tl_append, List.append_assoc]
    rfl
  | lead ts old th =>
    obtain ⟨h6, nd, ho, ht⟩ := h
    obtain ⟨k1, _, _, k4, _, _, _⟩ := ask_ok h6 (tests_le h6 nd)
    have k1' : joinL (tl " ") ((askedW ts).map tl) = tl (askedOf ts) := by rw [← k1, join_eq, tl_join]
    have ne : (askedW ts).map tl ≠ [] := fun e => by
      have := congrArg List.length e
      rw [List.length_map, List.length_nil] at this
      omega
    show tl (Str.empty ++ "lead " ++ askedOf ts ++ " " ++ old ++ " to " ++ th : Str) = joinL (tl " ") (([("lead" : Str)] ++ (askedW ts ++ [old, "to", th])).map tl)
    rw [List.map_append, List.map_append, joinL_snoc _ (by simp) (by simp [ne]), joinL_snoc _ ne (by simp), k1']
    show _ = tl "lead" ++ (tl " " ++ (tl (askedOf ts) ++ (tl " " ++ (tl old ++ (tl " " ++ (tl "to" ++ (tl " " ++ tl th)))))))
    simp only [tl_append, List.append_assoc]
    rfl
theorem RowD.pieces_no {d : RowD} (h : d.fine) : ∀ p ∈ d.pieces, (32 : Nat) ∉ tl p ∧ (10 : Nat) ∉ tl p := by
  have k0 : ∀ p ∈ (["run", "join", "lead", "to"] : List Str), (32 : Nat) ∉ tl p ∧ (10 : Nat) ∉ tl p := by decide +kernel
  intro p hp
  cases d with
  | run old th =>
    obtain ⟨h1, h2⟩ := h
    rcases List.mem_cons.mp hp with e | hp
    · rw [e]; exact k0 _ (by simp)
    rcases List.mem_cons.mp hp with e | hp
    · rw [e]; exact isOld_no h1
    rcases List.mem_cons.mp hp with e | hp
    · rw [e]; exact k0 _ (by simp)
    · rw [List.mem_singleton.mp hp]; exact isNm_no h2
  | join here came th =>
    obtain ⟨h1, h2, h3⟩ := h
    rcases List.mem_cons.mp hp with e | hp
    · rw [e]; exact k0 _ (by simp)
    rcases List.mem_cons.mp hp with e | hp
    · rw [e]; exact isOld_no h1
    rcases List.mem_cons.mp hp with e | hp
    · rw [e]; exact isOld_no h2
    rcases List.mem_cons.mp hp with e | hp
    · rw [e]; exact k0 _ (by simp)
    · rw [List.mem_singleton.mp hp]; exact isThen_no h3
  | lead ts old th =>
    obtain ⟨h6, nd, ho, ht⟩ := h
    rcases List.mem_cons.mp hp with e | hp
    · rw [e]; exact k0 _ (by simp)
    rcases List.mem_append.mp hp with hp | hp
    · have q := (ask_ok h6 (tests_le h6 nd)).2.2.2.2.2.1 p hp
      exact ⟨q.1, q.2.1⟩
    rcases List.mem_cons.mp hp with e | hp
    · rw [e]; exact isOld_no ho
    rcases List.mem_cons.mp hp with e | hp
    · rw [e]; exact k0 _ (by simp)
    · rw [List.mem_singleton.mp hp]; exact isNm_no ht
theorem RowD.pieces_ne (d : RowD) : d.pieces ≠ [] := by cases d <;> simp [RowD.pieces]
/-- a row's text, cut at blanks -/
theorem RowD.split_text {d : RowD} (h : d.fine) : Txt.split d.text " " = d.pieces := by
  rw [RowD.text_eq h]
  exact split_join (s := 32) (S := []) (by decide +kernel) (by decide +kernel) d.pieces_ne fun p hp => (RowD.pieces_no h p hp).1
theorem joinL_no {c : Nat} {S : List Nat} (hS : c ∉ S) : ∀ {L : List (List Nat)}, (∀ p ∈ L, c ∉ p) → c ∉ joinL S L
  | [], _ => by simp [joinL]
  | [a], h => h a (by simp)
  | a :: b :: L, h => by
    show c ∉ a ++ (S ++ joinL S (b :: L))
    simp only [List.mem_append, not_or]
    exact ⟨h a (by simp), hS, joinL_no hS fun p hp => h p (List.mem_cons_of_mem _ hp)⟩
/-- no line end in it -/
theorem RowD.text_no {d : RowD} (h : d.fine) : (10 : Nat) ∉ tl d.text := by
  rw [RowD.text_eq h, join_eq, tl_join]
  refine joinL_no (by decide +kernel) fun p hp => ?_
  obtain ⟨q, hq, e⟩ := List.mem_map.mp hp
  rw [← e]
  exact (RowD.pieces_no h q hq).2
end Lm
set_option Elab.async false
set_option linter.all false
set_option maxRecDepth 100000
set_option maxHeartbeats 4000000
namespace Lm
open PySem PySem.Spec PyProof.Rows L2
local macro_rules | `(tactic| walk_at "rd") => `(tactic| simp (config := {failIfUnchanged := false}) only [tVar, tC, tIsN, tNotN, tB, tAnd, tOr, tNot, tAndV, tOrV, tNotV, tIf, tNext, tSeq, tBreak, tCont, tDrop, tRet, tRetN, tIfS, gName, gNil, gCons, gTup, tAsg, tPar,
  iList, iTup, iRng1, iRng2, r_tFor, tFmt, tJs, or_false, false_or, exists_false, r_tLc, r_tDc, bf, iSeq, r_wipe0, r_wipe1, tOp, tUn, rI, rI0, rU, rEq, rNe, tTest, tChain, tFld, sFld, tNil, tCons, tTup, tLst, tCall, tMeth, tMake, tCB, tNoPart, tPart, tSl, rIxL, rIxT, rSlL, rIn, tBM0, tBM, rAppend, rExtend, rPop, rPopAt, rAny, rAll, tYes, iStr, rNewStrs, tM0, tM1, StX.tStar,
  L2.start, List.map_cons, List.map_nil, List.length_cons, List.length_nil, Nat.zero_add, Nat.reduceAdd, Nat.reduceSub, List.replicate_succ, List.replicate_zero, List.cons_append, List.nil_append, List.append_nil, List.set_cons_zero, List.set_cons_succ,
  List.getElem?_cons_zero, List.getElem?_cons_succ, Option.some.injEq, exists_eq_left', exists_eq_left, exists_eq', exists_eq, exists_and_left, exists_and_right, and_assoc, List.cons.injEq, V.str.injEq, V.ref.injEq, V.bl.injEq, V.int.injEq, V.ty.injEq, and_true, true_and, reduceCtorEq, false_and, and_false,
  Bool.not_true, Bool.not_false, Bool.false_eq_true, reduceIte, Bool.not_eq_true', decide_eq_true_eq, upd_same, cx_K, HO.ins.injEq, HO.tup.injEq, HO.lst.injEq, HO.dK.injEq, lk_Run_old, lk_Run_then, lk_Run_names, lm_Run_str, lk_Lead_tests, lk_Lead_old, lk_Lead_then, lk_Lead_names, lm_Lead_str, lk_Join_here, lk_Join_came, lk_Join_then, lk_Join_names, lm_Join_str, lk_Tool_marks, lk_Tool_told, lk_Tool_parts, lk_Tool_clears, lk_Tool_rows, lk_Tool_blank, lm_Tool_need_mark, lm_Tool_is_told, lm_Tool_ran, lm_Tool_led, lm_Tool_joined, lm_Tool_keeps, lm_Tool_need_row, lm_Tool_but, lm_Tool_without, lm_Tool_heeding, lm_Tool_len, lm_Tool_eq, lm_Tool_str, lk_Single_tool, lk_Single_begin, lm_Single_machine_steps, lm_Single_led, lm_Single_joined, lk_Ways_steps, lk_Ways_machine, lk_Ways_coming, lk_Ways_hearings, lk_Ways_elders, lm_Ways_edited, lm_Ways_heard, lk_Meeting_hearings, lk_Meeting_item, lk_Meeting_deeds, lk_Meeting_waiting, lk_Told_steps, lk_Told_machine, lk_Told_coming, lk_Told_hearings, lm_Told_is_closed])
local macro_rules | `(tactic| walk_at "rd*") => `(tactic| simp (config := {failIfUnchanged := false}) only [tVar, tC, tIsN, tNotN, tB, tAnd, tOr, tNot, tAndV, tOrV, tNotV, tIf, tNext, tSeq, tBreak, tCont, tDrop, tRet, tRetN, tIfS, gName, gNil, gCons, gTup, tAsg, tPar,
  iList, iTup, iRng1, iRng2, r_tFor, tFmt, tJs, or_false, false_or, exists_false, r_tLc, r_tDc, bf, iSeq, r_wipe0, r_wipe1, tOp, tUn, rI, rI0, rU, rEq, rNe, tTest, tChain, tFld, sFld, tNil, tCons, tTup, tLst, tCall, tMeth, tMake, tCB, tNoPart, tPart, tSl, rIxL, rIxT, rSlL, rIn, tBM0, tBM, rAppend, rExtend, rPop, rPopAt, rAny, rAll, tYes, iStr, rNewStrs, tM0, tM1, StX.tStar,
  L2.start, List.map_cons, List.map_nil, List.length_cons, List.length_nil, Nat.zero_add, Nat.reduceAdd, Nat.reduceSub, List.replicate_succ, List.replicate_zero, List.cons_append, List.nil_append, List.append_nil, List.set_cons_zero, List.set_cons_succ,
  List.getElem?_cons_zero, List.getElem?_cons_succ, Option.some.injEq, exists_eq_left', exists_eq_left, exists_eq', exists_eq, exists_and_left, exists_and_right, and_assoc, List.cons.injEq, V.str.injEq, V.ref.injEq, V.bl.injEq, V.int.injEq, V.ty.injEq, and_true, true_and, reduceCtorEq, false_and, and_false,
  Bool.not_true, Bool.not_false, Bool.false_eq_true, reduceIte, Bool.not_eq_true', decide_eq_true_eq, upd_same, cx_K, HO.ins.injEq, HO.tup.injEq, HO.lst.injEq, HO.dK.injEq, lk_Run_old, lk_Run_then, lk_Run_names, lm_Run_str, lk_Lead_tests, lk_Lead_old, lk_Lead_then, lk_Lead_names, lm_Lead_str, lk_Join_here, lk_Join_came, lk_Join_then, lk_Join_names, lm_Join_str, lk_Tool_marks, lk_Tool_told, lk_Tool_parts, lk_Tool_clears, lk_Tool_rows, lk_Tool_blank, lm_Tool_need_mark, lm_Tool_is_told, lm_Tool_ran, lm_Tool_led, lm_Tool_joined, lm_Tool_keeps, lm_Tool_need_row, lm_Tool_but, lm_Tool_without, lm_Tool_heeding, lm_Tool_len, lm_Tool_eq, lm_Tool_str, lk_Single_tool, lk_Single_begin, lm_Single_machine_steps, lm_Single_led, lm_Single_joined, lk_Ways_steps, lk_Ways_machine, lk_Ways_coming, lk_Ways_hearings, lk_Ways_elders, lm_Ways_edited, lm_Ways_heard, lk_Meeting_hearings, lk_Meeting_item, lk_Meeting_deeds, lk_Meeting_waiting, lk_Told_steps, lk_Told_machine, lk_Told_coming, lk_Told_hearings, lm_Told_is_closed, *])
section
variable {P : Program} {w : World} {K : PySem.W.Frag} {mg : Str → Option Value} {base : Heap}
/-! ### row_in -/
def spRowIn (K : PySem.W.Frag) : Sp := fun vs H Q _ => ∃ a d, vs = [.ref a] ∧ H a = some (.lst (sv d.pieces)) ∧ d.fine ∧ ∀ p H', Same H H' → RowAt K H' p d → Q (.ref p) H'
theorem sc_row_in : FnScope ["words", "asked"] ["words"] (defScope st_row_in) := ⟨rfl, rfl, rfl, by decide +kernel, rfl, by decide +kernel, by decide +kernel⟩
theorem cut_mid {W : List Str} {a b c d : Str} : cutV (sv (a :: (W ++ [b, c, d]))) (some 1) (some (-3)) = sv W := by
  unfold cutV
  have hl : (sv (a :: (W ++ [b, c, d]))).length = W.length + 4 := by rw [sv_len, List.length_cons, List.length_append]; rfl
  rw [hl]
  have e1 : HT.sIx (W.length + 4) 0 (some 1) = 1 := by
    show (if (1 : Int) < 0 then ((1 : Int) + ((W.length + 4 : Nat) : Int)).toNat else min (1 : Int).toNat (W.length + 4)) = 1
    rw [if_neg (by decide)]
    show min 1 (W.length + 4) = 1
    omega
  have e2 : HT.sIx (W.length + 4) (W.length + 4) (some (-3)) = W.length + 1 := by
    show (if (-3 : Int) < 0 then ((-3 : Int) + ((W.length + 4 : Nat) : Int)).toNat else min (-3 : Int).toNat (W.length + 4)) = W.length + 1
    rw [if_pos (by decide)]
    omega
  rw [e1, e2]
  show ((sv (W ++ [b, c, d])).take (W.length + 1 - 1)) = sv W
  unfold sv
  rw [List.map_append, Nat.add_sub_cancel]
  have e3 : W.length = (W.map V.str).length := (List.length_map _).symm
  rw [e3]
  exact List.take_left' rfl
theorem at_neg {W : List Str} {a b c d : Str} : atI (sv (a :: (W ++ [b, c, d]))) (-3) = some (.str b) ∧ atI (sv (a :: (W ++ [b, c, d]))) (-1) = some (.str d) := by
  have hl : (sv (a :: (W ++ [b, c, d]))).length = W.length + 4 := by rw [sv_len, List.length_cons, List.length_append]; rfl
  have g : ∀ (k : Nat), (sv (a :: (W ++ [b, c, d])))[W.length + 1 + k]? = (sv [b, c, d])[k]? := fun k => by
    unfold sv
    rw [List.map_cons, show W.length + 1 + k = (W.length + k) + 1 by omega, List.getElem?_cons_succ, List.map_append, List.getElem?_append_right (by rw [List.length_map]; omega), List.length_map, Nat.add_sub_cancel_left]
  unfold atI ixN
  rw [hl]
  constructor
  · rw [if_neg (by decide), if_pos (by omega)]
    show (sv (a :: (W ++ [b, c, d])))[((-3 : Int) + ((W.length + 4 : Nat) : Int)).toNat]? = _
    rw [show ((-3 : Int) + ((W.length + 4 : Nat) : Int)).toNat = W.length + 1 + 0 by omega, g 0]
    rfl
  · rw [if_neg (by decide), if_pos (by omega)]
    show (sv (a :: (W ++ [b, c, d])))[((-1 : Int) + ((W.length + 4 : Nat) : Int)).toNat]? = _
    rw [show ((-1 : Int) + ((W.length + 4 : Nat) : Int)).toNat = W.length + 1 + 2 by omega, g 2]
    rfl
theorem x_row_in (T : Tx w K mg) : FX P w K mg base 5 "row_in" ["words"] (spRowIn K) := by
  obtain ⟨fd, F⟩ := fun_row_in T.c
  have G1 : CX1 P w K mg base 3 "Run" ["self", "old", "then"] (spRunInit K) := x_Run_init T
  have G2 : CX1 P w K mg base 3 "Join" ["self", "here", "came", "then"] (spJoinInit K) := x_Join_init T
  have G3 : CX1 P w K mg base 3 "Lead" ["self", "tests", "old", "then"] (spLeadInit K) := x_Lead_init T
  refine FX.of F T.g_row_in sc_row_in (fun _ _ _ _ _ _ us hl => match us, hl with | [_], _ => rfl) (fun vs H Q E h => ?_) (fun cdv A outer s H vs Q E hr h => ?_)
  · obtain ⟨a, d, rfl, _⟩ := h
    rfl
  · obtain ⟨a, d, rfl, ha, hd, k⟩ := h
    refine ⟨_, pss_cons (ps_if (pt_cmpR op_lt (pb call_len_seq T.n_len (pa1 (pv 0))) pe_int (nomark _)) (pss_one (ps_ret pe_non)) pss_nil)
      (pss_cons (ps_if (PW.pt (pw_and (pt_cmpR op_eq (pe_ix ix_list (pv 0) pe_int (fun _ _ => rfl)) pe_str (nomark _)) (pw_and1 (pt_cmpR op_eq (pb call_len_seq T.n_len (pa1 (pv 0))) pe_int (nomark _)))))
        (pss_one (ps_ret (pk G1 hr (pa2 (pe_ix ix_list (pv 0) pe_int (fun _ _ => rfl)) (pe_ix ix_list (pv 0) pe_int (fun _ _ => rfl)))))) pss_nil)
      (pss_cons (ps_if (PW.pt (pw_and (pt_cmpR op_eq (pe_ix ix_list (pv 0) pe_int (fun _ _ => rfl)) pe_str (nomark _)) (pw_and1 (pt_cmpR op_eq (pb call_len_seq T.n_len (pa1 (pv 0))) pe_int (nomark _)))))
        (pss_one (ps_ret (pk G2 hr (pa_cons (pe_ix ix_list (pv 0) pe_int (fun _ _ => rfl)) (pa2 (pe_ix ix_list (pv 0) pe_int (fun _ _ => rfl)) (pe_ix ix_list (pv 0) pe_int (fun _ _ => rfl))))))) pss_nil)
      (pss_cons (ps_if (PW.pt (pw_and (pt_cmpR op_eq (pe_ix ix_list (pv 0) pe_int (fun _ _ => rfl)) pe_str (nomark _)) (pw_and1 (pt_cmpR op_gt (pb call_len_seq T.n_len (pa1 (pv 0))) pe_int (nomark _)))))
        (pss_cons (ps_set (i := 1) sc_row_in.nd rfl (Or.inl rfl) (pe_join pe_str (pe_slice sl_list (pv 0) (po_some pe_int) (po_some (pe_un un_neg pe_int)))))
        (pss_one (ps_ret (pk G3 hr (pa_cons (pe_ifExp (pt_cmpR op_eq (pv 1) pe_str (nomark _)) (pe_lst pa_nil) (pe_split (pv 1) pe_str)) (pa2 (pe_ix ix_list (pv 0) (pe_un un_neg pe_int) (fun _ _ => rfl)) (pe_ix ix_list (pv 0) (pe_un un_neg pe_int) (fun _ _ => rfl)))))))) pss_nil)
      (pss_one (ps_ret pe_non))))), ?_⟩
    walk_at "rd"
    refine ⟨sv d.pieces, .inl (SqL.of ha), ?_⟩
    rw [sv_len]
    match d, ha, hd, k with
    | .run old th, ha, hd, k =>
      have e4 : (RowD.run old th).pieces.length = 4 := rfl
      rw [e4]
      refine iteN (by decide) ?_
      refine ⟨_, SqL.of ha, _, rfl, rfl, ?_⟩
      refine iteP rfl ?_
      refine ⟨_, .inl (SqL.of ha), rfl, ?_⟩
      refine iteP rfl ?_
      refine ⟨_, SqL.of ha, _, rfl, _, SqL.of ha, _, rfl, fun x dx nx ndx ne => ?_⟩
      exact ⟨x, dx, old, th, rfl, upd_same, hd, fun H' e r => ⟨rfl, k x H' (Imm.made nx ndx e) r⟩⟩
    | .join here came th, ha, hd, k =>
      have e4 : (RowD.join here came th).pieces.length = 5 := rfl
      rw [e4]
      refine iteN (by decide) ?_
      refine ⟨_, SqL.of ha, _, rfl, rfl, ?_⟩
      refine iteN (fun e => absurd (V.str.inj e) (by decide +kernel)) ?_
      refine ⟨_, SqL.of ha, _, rfl, rfl, ?_⟩
      refine iteP rfl ?_
      refine ⟨_, .inl (SqL.of ha), rfl, ?_⟩
      refine iteP rfl ?_
      refine ⟨_, SqL.of ha, _, rfl, _, SqL.of ha, _, rfl, _, SqL.of ha, _, rfl, fun x dx nx ndx ne => ?_⟩
      exact ⟨x, dx, here, came, th, rfl, upd_same, hd, fun H' e r => ⟨rfl, k x H' (Imm.made nx ndx e) r⟩⟩
    | .lead ts old th, ha, hd, k =>
      have hf := hd
      obtain ⟨h6, nd, ho, ht⟩ := hd
      obtain ⟨k1, k2, k3, k4, k5, k6, _⟩ := ask_ok h6 (tests_le h6 nd)
      have e4 : (RowD.lead ts old th).pieces.length = (askedW ts).length + 4 := by
        show (("lead" : Str) :: (askedW ts ++ [old, "to", th])).length = _
        rw [List.length_cons, List.length_append]
        rfl
      have hz : (sv (RowD.lead ts old th).pieces).length = (askedW ts).length + 4 := by rw [sv_len, e4]
      rw [e4]
      refine iteN (by omega) ?_
      refine ⟨_, SqL.of ha, _, atI_nat (j := 0) rfl, rfl, ?_⟩
      refine iteN (fun e => absurd (V.str.inj e) (by decide +kernel)) ?_
      refine ⟨_, SqL.of ha, _, atI_nat (j := 0) rfl, rfl, ?_⟩
      refine iteN (fun e => absurd (V.str.inj e) (by decide +kernel)) ?_
      refine ⟨_, SqL.of ha, _, atI_nat (j := 0) rfl, rfl, ?_⟩
      refine iteP rfl ?_
      refine ⟨_, .inl (SqL.of ha), ?_⟩
      refine iteP (by rw [hz]; omega) ?_
      have tail : ∀ (H2 : Hp) (q : Addr), Same H H2 → H2 q = some (.lst (sv ts)) → (∃ x, SqL K H2 a x ∧ ∃ x3, atI x (-3) = some x3 ∧ ∃ x4, SqL K H2 a x4 ∧ ∃ x5, atI x4 (-1) = some x5 ∧ ∀ (x6 dx : Addr), H2 x6 = none → H2 dx = none → dx ≠ x6 →
          spLeadInit K [.ref x6, .ref q, x3, x5] (upd (upd H2 dx (.own x6)) x6 (.ins (He.ga K "Lead") dx [])) (fun v H3 => v = .non ∧ Q (.ref x6) H3) E0) := by
        intro H2 q s2 hq
        refine ⟨_, SqL.of (s2 _ _ ha), _, at_neg.1, _, SqL.of (s2 _ _ ha), _, at_neg.2, fun x dx nx ndx ne => ?_⟩
        refine ⟨x, dx, q, ts, old, th, rfl, upd_same, ?_, hf, fun H' e r => ⟨rfl, k x H' (s2.trans (Imm.made nx ndx e)) r⟩⟩
        rw [upd_ne (ne_of_none hq nx), upd_ne (ne_of_none hq ndx)]
        exact hq
      refine ⟨_, SqL.of ha, fun p hp => ?_⟩
      have ec : cutV (sv (RowD.lead ts old th).pieces) (some 1) (some (-3)) = sv (askedW ts) := cut_mid
      rw [ec]
      have cost : ((askedW ts).map (·.length)).sum + (askedW ts).length * (" " : Str).length ≤ 16777216 := by
        have h4 : ((askedW ts).map (·.length)).sum ≤ ((askedW ts).map (·.length)).length * 9 := sum_le fun x hx => by
          obtain ⟨t, ht, e⟩ := List.mem_map.mp hx
          rw [← e, TL.len_tl]
          exact (k6 t ht).2.2
        rw [List.length_map] at h4
        have e1 : (" " : Str).length = 1 := by decide
        rw [e1]
        omega
      refine ⟨askedW ts, .inl (SqL.of upd_same), cost, rfl, ?_⟩
      rw [k1]
      by_cases h0 : ts = []
      · refine iteP (k2.mpr h0) ⟨Nat.zero_le _, fun q hq => ?_⟩
        exact tail _ q ((same_new hp).trans (same_new hq)) (by rw [upd_same, h0]; rfl)
      · refine iteN (fun e => h0 (k2.mp e)) ⟨by decide, ?_, fun q hq => ?_⟩
        · have := asked_len h6 nd
          exact Nat.le_trans (Nat.add_le_add_right this 2) (by decide)
        · exact tail _ q ((same_new hp).trans (same_new hq)) (by rw [upd_same, k3 h0]; rfl)
end
end Lm
set_option Elab.async false
set_option linter.all false
set_option maxRecDepth 100000
set_option maxHeartbeats 4000000
namespace Lm
open PySem PySem.Spec PyProof.Rows L2
local macro_rules | `(tactic| walk_at "rd") => `(tactic| simp (config := {failIfUnchanged := false}) only [tVar, tC, tIsN, tNotN, tB, tAnd, tOr, tNot, tAndV, tOrV, tNotV, tIf, tNext, tSeq, tBreak, tCont, tDrop, tRet, tRetN, tIfS, gName, gNil, gCons, gTup, tAsg, tPar,
  iList, iTup, iRng1, iRng2, r_tFor, tFmt, tJs, or_false, false_or, exists_false, r_tLc, r_tDc, bf, iSeq, r_wipe0, r_wipe1, tOp, tUn, rI, rI0, rU, rEq, rNe, tTest, tChain, tFld, sFld, tNil, tCons, tTup, tLst, tCall, tMeth, tMake, tCB, tNoPart, tPart, tSl, rIxL, rIxT, rSlL, rIn, tBM0, tBM, rAppend, rExtend, rPop, rPopAt, rAny, rAll, tYes, iStr, rNewStrs, tM0, tM1, StX.tStar,
  L2.start, List.map_cons, List.map_nil, List.length_cons, List.length_nil, Nat.zero_add, Nat.reduceAdd, Nat.reduceSub, List.replicate_succ, List.replicate_zero, List.cons_append, List.nil_append, List.append_nil, List.set_cons_zero, List.set_cons_succ,
  List.getElem?_cons_zero, List.getElem?_cons_succ, Option.some.injEq, exists_eq_left', exists_eq_left, exists_eq', exists_eq, exists_and_left, exists_and_right, and_assoc, List.cons.injEq, V.str.injEq, V.ref.injEq, V.bl.injEq, V.int.injEq, V.ty.injEq, and_true, true_and, reduceCtorEq, false_and, and_false,
  Bool.not_true, Bool.not_false, Bool.false_eq_true, reduceIte, Bool.not_eq_true', decide_eq_true_eq, upd_same, cx_K, HO.ins.injEq, HO.tup.injEq, HO.lst.injEq, HO.dK.injEq, lk_Run_old, lk_Run_then, lk_Run_names, lm_Run_str, lk_Lead_tests, lk_Lead_old, lk_Lead_then, lk_Lead_names, lm_Lead_str, lk_Join_here, lk_Join_came, lk_Join_then, lk_Join_names, lm_Join_str, lk_Tool_marks, lk_Tool_told, lk_Tool_parts, lk_Tool_clears, lk_Tool_rows, lk_Tool_blank, lm_Tool_need_mark, lm_Tool_is_told, lm_Tool_ran, lm_Tool_led, lm_Tool_joined, lm_Tool_keeps, lm_Tool_need_row, lm_Tool_but, lm_Tool_without, lm_Tool_heeding, lm_Tool_len, lm_Tool_eq, lm_Tool_str, lk_Single_tool, lk_Single_begin, lm_Single_machine_steps, lm_Single_led, lm_Single_joined, lk_Ways_steps, lk_Ways_machine, lk_Ways_coming, lk_Ways_hearings, lk_Ways_elders, lm_Ways_edited, lm_Ways_heard, lk_Meeting_hearings, lk_Meeting_item, lk_Meeting_deeds, lk_Meeting_waiting, lk_Told_steps, lk_Told_machine, lk_Told_coming, lk_Told_hearings, lm_Told_is_closed])
local macro_rules | `(tactic| walk_at "rd*") => `(tactic| simp (config := {failIfUnchanged := false}) only [tVar, tC, tIsN, tNotN, tB, tAnd, tOr, tNot, tAndV, tOrV, tNotV, tIf, tNext, tSeq, tBreak, tCont, tDrop, tRet, tRetN, tIfS, gName, gNil, gCons, gTup, tAsg, tPar,
  iList, iTup, iRng1, iRng2, r_tFor, tFmt, tJs, or_false, false_or, exists_false, r_tLc, r_tDc, bf, iSeq, r_wipe0, r_wipe1, tOp, tUn, rI, rI0, rU, rEq, rNe, tTest, tChain, tFld, sFld, tNil, tCons, tTup, tLst, tCall, tMeth, tMake, tCB, tNoPart, tPart, tSl, rIxL, rIxT, rSlL, rIn, tBM0, tBM, rAppend, rExtend, rPop, rPopAt, rAny, rAll, tYes, iStr, rNewStrs, tM0, tM1, StX.tStar,
  L2.start, List.map_cons, List.map_nil, List.length_cons, List.length_nil, Nat.zero_add, Nat.reduceAdd, Nat.reduceSub, List.replicate_succ, List.replicate_zero, List.cons_append, List.nil_append, List.append_nil, List.set_cons_zero, List.set_cons_succ,
  List.getElem?_cons_zero, List.getElem?_cons_succ, Option.some.injEq, exists_eq_left', exists_eq_left, exists_eq', exists_eq, exists_and_left, exists_and_right, and_assoc, List.cons.injEq, V.str.injEq, V.ref.injEq, V.bl.injEq, V.int.injEq, V.ty.injEq, and_true, true_and, reduceCtorEq, false_and, and_false,
  Bool.not_true, Bool.not_false, Bool.false_eq_true, reduceIte, Bool.not_eq_true', decide_eq_true_eq, upd_same, cx_K, HO.ins.injEq, HO.tup.injEq, HO.lst.injEq, HO.dK.injEq, lk_Run_old, lk_Run_then, lk_Run_names, lm_Run_str, lk_Lead_tests, lk_Lead_old, lk_Lead_then, lk_Lead_names, lm_Lead_str, lk_Join_here, lk_Join_came, lk_Join_then, lk_Join_names, lm_Join_str, lk_Tool_marks, lk_Tool_told, lk_Tool_parts, lk_Tool_clears, lk_Tool_rows, lk_Tool_blank, lm_Tool_need_mark, lm_Tool_is_told, lm_Tool_ran, lm_Tool_led, lm_Tool_joined, lm_Tool_keeps, lm_Tool_need_row, lm_Tool_but, lm_Tool_without, lm_Tool_heeding, lm_Tool_len, lm_Tool_eq, lm_Tool_str, lk_Single_tool, lk_Single_begin, lm_Single_machine_steps, lm_Single_led, lm_Single_joined, lk_Ways_steps, lk_Ways_machine, lk_Ways_coming, lk_Ways_hearings, lk_Ways_elders, lm_Ways_edited, lm_Ways_heard, lk_Meeting_hearings, lk_Meeting_item, lk_Meeting_deeds, lk_Meeting_waiting, lk_Told_steps, lk_Told_machine, lk_Told_coming, lk_Told_hearings, lm_Told_is_closed, *])
section
variable {P : Program} {w : World} {K : PySem.W.Frag} {mg : Str → Option Value} {base : Heap}
theorem cm_of {x m : Str} (h : cmB K x m = true) : ClX.CRead K (He.ga K x) (.type "type") ∧ ClX.CMet K (He.ga K x) (.type "type") m (He.ma K (He.ga K x) m) (He5.wf K (He.ga K x) "classmethod" m) := by
  unfold cmB at h
  obtain ⟨h1, h⟩ := He.ba h
  obtain ⟨h2, h⟩ := He.ba h
  obtain ⟨h3, h4⟩ := He.ba h
  obtain ⟨k1, k2⟩ := He5.wrapB_ok h1
  exact ⟨⟨h2, He.eqO_ok h4⟩, k1, k2, h3⟩
theorem KX.of {k : Nat} {c x qual : Str} {st : Stmt} {fd : FuncData} {N ps : List Str} {sp : Sp} (h : cmB K c x = true) (hm : mg c = some (.ref (He.ga K c))) (F : Fun K x qual st (He5.wf K (He.ga K c) "classmethod" x) fd) (S : FnScope N ps (defScope st)) (hb : BindsBy x qual st ps)
    (len : ∀ vs H Q E, sp vs H Q E → vs.length = ps.length) (body : BodyOk P w K mg base N qual st (He5.wf K (He.ga K c) "classmethod" x) k sp) : KX P w K mg base (k + 1) c x ps sp := by
  obtain ⟨r, c1⟩ := cm_of h
  refine ⟨_, _, hm, r, c1, ?_⟩
  have G := FnOk.raw (F.ok (P := P) (w := w) (mg := mg) (base := base) S len body) (F.binds hb) .nil
  exact G.imp fun vs H Q E q => by rw [List.append_nil]; exact q
/-! ### Row.read, is_row -/
def spRowRead (K : PySem.W.Frag) : Sp := fun vs H Q _ => ∃ c d, vs = [c, .str d.text] ∧ d.fine ∧ ∀ p H', Same H H' → RowAt K H' p d → Q (.ref p) H'
theorem sc_Row_read : FnScope ["cls", "text", "found", "e"] ["cls", "text"] (defScope st_Row_read) := ⟨rfl, rfl, rfl, by decide +kernel, rfl, by decide +kernel, by decide +kernel⟩
/-- str of any row -/
theorem strRow {X : Cx} (T : Tx X.w X.K X.mg) (hr : Room 3 X.A) : CallR X (.type "str") (fun xs H Q => ∃ a d, xs = [.ref a] ∧ RowAt X.K H a d ∧ d.fine ∧ ∀ H', Same H H' → Q (.str d.text) H') := by
  intro pins s σ H xs us Q I r h
  obtain ⟨a, d, e, ha, hf, q⟩ := h
  match d, ha, hf, q with
  | .run old th, ⟨dx, n, h1, h2⟩, hf, q => exact call_strO (x_Run_str T) hr pins s σ H xs us Q I r ⟨a, _, _, e, h1, a, .run old th, rfl, ⟨dx, n, h1, h2⟩, hf, trivial, fun H' s' => ⟨_, rfl, q H' s'⟩⟩
  | .lead ts old th, ⟨dx, t, n, h1, h2⟩, hf, q => exact call_strO (x_Lead_str T) hr pins s σ H xs us Q I r ⟨a, _, _, e, h1, a, .lead ts old th, rfl, ⟨dx, t, n, h1, h2⟩, hf, trivial, fun H' s' => ⟨_, rfl, q H' s'⟩⟩
  | .join here came th, ⟨dx, n, h1, h2⟩, hf, q => exact call_strO (x_Join_str T) hr pins s σ H xs us Q I r ⟨a, _, _, e, h1, a, .join here came th, rfl, ⟨dx, n, h1, h2⟩, hf, trivial, fun H' s' => ⟨_, rfl, q H' s'⟩⟩
theorem x_Row_read (T : Tx w K mg) : KX P w K mg base 6 "Row" "read" ["cls", "text"] (spRowRead K) := by
  obtain ⟨fd, F⟩ := fun_Row_read T.c
  have G1 : FX P w K mg base 5 "row_in" ["words"] (spRowIn K) := x_row_in T
  refine KX.of (ck_split T.c).2.2.2.2.2.2.2.2.1 T.g_Row F sc_Row_read (fun _ _ _ _ _ _ us hl => match us, hl with | [_, _], _ => rfl) (fun vs H Q E h => ?_) (fun cdv A outer s H vs Q E hr h => ?_)
  · obtain ⟨c, d, rfl, _⟩ := h
    rfl
  · obtain ⟨c, d, rfl, hd, k⟩ := h
    refine ⟨_, pss_cons (ps_try_thru0 (pss_one (ps_set (i := 2) sc_Row_read.nd rfl (Or.inl rfl) (pc G1 hr (pa1 (pe_split (pv 1) pe_str))))))
      (pss_cons (ps_if (PW.pt (pw_or (pt_cmpR op_isN (pv 2) pe_non (nomark _)) (pw_or1 (pt_cmpR op_ne (pbt (strRow T (hr.mono (by decide))) T.n_str (pa1 (pv 2))) (pv 1) (nomark _))))) pss_never pss_nil)
      (pss_one (ps_ret (pv 2)))), ?_⟩
    walk_at "rd"
    refine ⟨by decide, Nat.le_trans (Nat.add_le_add_right (RowD.text_len hd) 2) (by decide), fun q hq => ?_⟩
    refine ⟨q, d, rfl, by rw [upd_same, RowD.split_text hd]; rfl, hd, fun p H1 s1 r1 => ?_⟩
    walk_at "rd"
    refine ⟨d, r1, hd, fun H2 s2 => ⟨rfl, iteN (by simp) (k p H2 ((same_new hq).trans (s1.trans s2)) (r1.same s2))⟩⟩
theorem x_is_row_dummy : True := trivial
end
end Lm
set_option Elab.async false
set_option linter.all false
set_option maxRecDepth 100000
set_option maxHeartbeats 4000000
/-! Ledmarks k83: dicts whose keys are pairs of a text and a bool. -/
namespace Lm
open PySem PySem.Spec PyProof.Rows L2
abbrev Kp : Type := Str × Bool
/-- key, the key's own tuple, value -/
abbrev XE : Type := Kp × Addr × V
def nb (b : Bool) : Int := if b then 1 else 0
def leafs (k : Kp) : List Leaf := [.text k.1, .num (nb k.2)]
theorem nb_inj {a b : Bool} (h : nb a = nb b) : a = b := by cases a <;> cases b <;> first | rfl | cases h
theorem leafs_inj {a b : Kp} (h : leafs a = leafs b) : a = b := by
  unfold leafs at h
  injection h with h1 h2
  injection h2 with h2 _
  injection h1 with h1
  injection h2 with h2
  exact Prod.ext h1 (nb_inj h2)
def XR (p : XE) (q : List Leaf × Addr × Value) : Prop := leafs p.1 = q.1 ∧ p.2.1 = q.2.1 ∧ RelV p.2.2 q.2.2
abbrev kdX (P : Program) (w : World) : HeapKind P w (List Leaf) := tupleKind (leafKind P w)
/-- a dict with the entries xs at a -/
def DX (P : Program) (w : World) (a : Addr) (xs : List XE) : HO := .ext fun h => xs.length ≤ sizeLine ∧ (a == sysModules) = false ∧ ∃ vs : List (List Leaf × Addr × Value), Paired XR xs vs ∧
  ∃ o es ep, h.get? a = some o ∧ o.ExactDict ∧ o.data = .dict es ep ∧ es.toList = vs.map (entryOfKey (kdX P w)) ∧ (vs.map (·.1)).Nodup
/-- the pair's tuple -/
def kT (k : Kp) : HO := .tup [.str k.1, .bl k.2]
/-- each entry's key stands -/
def KeysAt (H : Hp) (xs : List XE) : Prop := ∀ x ∈ xs, H x.2.1 = some (kT x.1)
def atX (xs : List XE) (k : Kp) : Option V := (xs.find? fun e => decide (e.1 = k)).map (·.2.2)
def hasX (xs : List XE) (k : Kp) : Bool := xs.any fun e => decide (e.1 = k)
def putX (xs : List XE) (k : Kp) (b : Addr) (v : V) : List XE := if hasX xs k = true then xs.map (fun e => if e.1 = k then (e.1, e.2.1, v) else e) else xs ++ [(k, b, v)]
theorem atX_has (k : Kp) : ∀ xs : List XE, (atX xs k).isSome = hasX xs k
  | [] => rfl
  | p :: r => by
    unfold atX hasX
    rw [List.find?_cons, List.any_cons]
    by_cases e : p.1 = k
    · rw [decide_eq_true e]
      rfl
    · rw [decide_eq_false e, Bool.false_or]
      exact atX_has k r
theorem putX_new {xs : List XE} {k : Kp} {b : Addr} {v : V} (h : hasX xs k = false) : putX xs k b v = xs ++ [(k, b, v)] := by
  unfold putX
  rw [h, if_neg Bool.false_ne_true]
theorem putX_len (xs : List XE) (k : Kp) (b : Addr) (v : V) : (putX xs k b v).length ≤ xs.length + 1 := by
  unfold putX
  split
  · rw [List.length_map]; exact Nat.le_succ _
  · rw [List.length_append]; exact Nat.le_refl _
theorem XR.at {xs : List XE} {vs : List (List Leaf × Addr × Value)} (r : Paired XR xs vs) (k : Kp) : RelO (atX xs k) ((atKey vs (leafs k)).map (·.2)) := by
  induction r with
  | nil => exact True.intro
  | @cons p q ps qs h t ih =>
    obtain ⟨h1, _, h2⟩ := h
    by_cases e : p.1 = k
    · have e' : q.1 = leafs k := by rw [← h1, e]
      have b : atKey (q :: qs) (leafs k) = some q.2 := by simp [atKey, List.find?_cons, e']
      have c : atX (p :: ps) k = some p.2.2 := by simp [atX, List.find?_cons, e]
      rw [c, b]
      exact h2
    · have e' : ¬ q.1 = leafs k := fun z => e (leafs_inj (h1.trans z))
      have b : atKey (q :: qs) (leafs k) = atKey qs (leafs k) := by simp [atKey, List.find?_cons, e']
      have c : atX (p :: ps) k = atX ps k := by simp [atX, List.find?_cons, e]
      rw [c, b]
      exact ih
theorem XR.has {xs : List XE} {vs : List (List Leaf × Addr × Value)} (r : Paired XR xs vs) (k : Kp) : (atKey vs (leafs k)).isSome = hasX xs k := by
  have q := (XR.at r k).isSome_eq
  rw [Option.isSome_map, atX_has] at q
  exact q.symm
theorem XR.repl {xs : List XE} {vs : List (List Leaf × Addr × Value)} (r : Paired XR xs vs) (k : Kp) {v : V} {u : Value} (rv : RelV v u) : Paired XR (xs.map fun e => if e.1 = k then (e.1, e.2.1, v) else e) (vs.map (putAt (leafs k) u)) := by
  induction r with
  | nil => exact .nil
  | @cons p q ps qs h t ih =>
    rw [List.map_cons, List.map_cons]
    refine .cons ?_ ih
    obtain ⟨h1, h2, h3⟩ := h
    unfold putAt
    by_cases e : p.1 = k
    · rw [if_pos e, if_pos (by rw [← h1, e])]; exact ⟨h1, h2, rv⟩
    · rw [if_neg e, if_neg (fun z => e (leafs_inj (h1.trans z)))]; exact ⟨h1, h2, h3⟩
theorem XR.put {xs : List XE} {vs : List (List Leaf × Addr × Value)} (r : Paired XR xs vs) (k : Kp) (b : Addr) {v : V} {u : Value} (rv : RelV v u) : Paired XR (putX xs k b v) (storedH vs (leafs k) b u) := by
  unfold putX storedH
  rw [XR.has r k]
  by_cases q : hasX xs k = true
  · rw [if_pos q, if_pos q]; exact XR.repl r k rv
  · rw [if_neg q, if_neg q]; exact Paired.snoc r ⟨rfl, rfl, rv⟩
theorem KeysAt.put {H : Hp} {xs : List XE} {k : Kp} {b : Addr} {v : V} (h : KeysAt H xs) (hb : H b = some (kT k)) : KeysAt H (putX xs k b v) := by
  unfold putX
  split
  · intro x hx
    obtain ⟨e, he, rfl⟩ := List.mem_map.mp hx
    by_cases z : e.1 = k
    · rw [if_pos z]; exact h e he
    · rw [if_neg z]; exact h e he
  · intro x hx
    rcases List.mem_append.mp hx with hx | hx
    · exact h x hx
    · rw [List.mem_singleton.mp hx]; exact hb
theorem KeysAt.imm {H H' : Hp} {xs : List XE} (h : KeysAt H xs) (i : Imm H H') : KeysAt H' xs := fun x hx => i _ _ rfl (h x hx)
theorem kT_inj {a b : Kp} (h : kT a = kT b) : a = b := by
  unfold kT at h
  injection h with h
  injection h with h1 h2
  injection h2 with h2 _
  injection h1 with h1
  injection h2 with h2
  exact Prod.ext h1 h2
section
variable {P : Program} {w : World} {H : Hp} {h : Heap} {a b : Addr} {xs : List XE} {k : Kp}
theorem keyX_of (ok : HOk P w H h) (e : H b = some (kT k)) : (kdX P w).is h (leafs k) b := by
  obtain ⟨_, its, r, o, h1, h2, n, h3⟩ := (show ObjOk P w H h b (.tup [.str k.1, .bl k.2]) from ok b _ e)
  refine ⟨o, its.toArray, n, h1, h2, h3, ?_⟩
  obtain ⟨u, v, rfl, ru, rv⟩ := vals2 r
  obtain ⟨t, rfl⟩ := ru
  cases (show v = Value.bool k.2 from rv)
  refine .cons (leaf_str _ _) (.cons ?_ .nil)
  cases k.2
  · exact leaf_false
  · exact leaf_true
theorem x_rd (ok : HOk P w H h) (e : Rd H a (DX P w a xs)) (ka : KeysAt H xs) : xs.length ≤ sizeLine ∧ (a == sysModules) = false ∧ ∃ vs, Paired XR xs vs ∧ h.DictOfH (kdX P w) a vs := by
  obtain ⟨⟨z, y, vs, r, o, es, ep, h1, h2, h3, h4, h5⟩, _⟩ := (show ObjOk P w H h a (DX P w a xs) from e.ok ok)
  refine ⟨z, y, vs, r, o, es, ep, h1, h2, h3, h4, fun x hx => ?_, h5⟩
  have all : ∀ {l : List XE} {m : List (List Leaf × Addr × Value)}, Paired XR l m → KeysAt H l → ∀ x ∈ m, (kdX P w).is h x.1 x.2.1 := by
    intro l m q
    induction q with
    | nil => intro _ x hx; exact nomatch hx
    | @cons p q ps qs hq t ih =>
      intro kk x hx
      rcases List.mem_cons.mp hx with e | hx
      · subst e
        rw [← hq.1, ← hq.2.1]
        exact keyX_of ok (kk p List.mem_cons_self)
      · exact ih (fun y hy => kk y (List.mem_cons_of_mem _ hy)) x hx
  exact all r ka x hx
theorem x_new {H' : Hp} {vs : List (List Leaf × Addr × Value)} (z : xs.length ≤ sizeLine) (y : (a == sysModules) = false) (r : Paired XR xs vs) (d : h.DictOfH (kdX P w) a vs) : ObjOk P w H' h a (DX P w a xs) := by
  obtain ⟨o, es, ep, h1, h2, h3, h4, _, h5⟩ := d
  exact ⟨⟨z, y, vs, r, o, es, ep, h1, h2, h3, h4, h5⟩, ⟨o, h1⟩, fun g1 g2 p k => by
    obtain ⟨z, y, vs, r, o, es, ep, h1, h2⟩ := p
    exact ⟨z, y, vs, r, o, es, ep, k _ h1, h2⟩⟩
theorem x_empty {H' : Hp} (h : Heap) (hb : sysModules < h.objs.size) : ObjOk P w H' (h.push { cls := .type "dict", data := .dict #[] }) h.objs.size (DX P w h.objs.size []) :=
  x_new (Nat.zero_le _) (beq_eq_false_iff_ne.mpr (Ne.symm (Nat.ne_of_lt hb))) .nil (Heap.DictOfH.new h)
end
/-- what is read of a dict -/
def DRd (P : Program) (w : World) (H : Hp) (a : Addr) (xs : List XE) : Prop := Rd H a (DX P w a xs) ∧ KeysAt H xs
section
variable {X : Cx} {pins : List (Addr × Obj)} {σ : L2.St} {H : Hp} {s : Shared} {a b : Addr} {xs : List XE} {k : Kp} {v d : V} {u r : Value} {A : Around} {E : Value → Shared → Prop}
theorem x_getItem {Q : Value → Shared → Prop} (hu : A.units + 1 < cLine) (I : Inv X pins σ H s) (g : DRd X.prog X.w H a xs) (eb : H b = some (kT k)) (l : atX xs k = some v) (h : ∀ w' s', Inv X pins σ H s' → RelV v w' → Q w' s') :
    wpAny (model X.prog X.w) A (getItem (.ref a) (.ref b)) Q E s := by
  obtain ⟨z, hd, vs, rel, dd⟩ := x_rd I.hok g.1 g.2
  obtain ⟨w', hw, rw'⟩ := RelO.some_of (v := v) (o := (atKey vs (leafs k)).map (·.2)) (by rw [← l]; exact XR.at rel k)
  obtain ⟨p, hp, hp2⟩ := Option.map_eq_some_iff.mp hw
  refine wpAny_getItem_heap (tupleKind_room_in1 hu) (keyX_of I.hok eb) dd hp ?_
  rw [hp2]
  exact h w' _ (I.tok _) rw'
theorem x_in {Q : Value → Shared → Prop} (hu : A.units + 1 < cLine) (I : Inv X pins σ H s) (g : DRd X.prog X.w H a xs) (eb : H b = some (kT k)) (h : ∀ s', Inv X pins σ H s' → Q (.bool (hasX xs k)) s') :
    wpAny (model X.prog X.w) A (compareOp .In (.ref b) (.ref a)) Q E s := by
  obtain ⟨z, hd, vs, rel, dd⟩ := x_rd I.hok g.1 g.2
  refine wpAny_in_heap (tupleKind_room_in1 hu) (keyX_of I.hok eb) hd dd ?_
  rw [XR.has rel k]
  exact h _ (I.tok _)
theorem x_notIn {Q : Value → Shared → Prop} (hu : A.units + 1 < cLine) (I : Inv X pins σ H s) (g : DRd X.prog X.w H a xs) (eb : H b = some (kT k)) (h : ∀ s', Inv X pins σ H s' → Q (.bool (!hasX xs k)) s') :
    wpAny (model X.prog X.w) A (compareOp .NotIn (.ref b) (.ref a)) Q E s := by
  obtain ⟨z, hd, vs, rel, dd⟩ := x_rd I.hok g.1 g.2
  refine wpAny_notIn_heap (tupleKind_room_in1 hu) (keyX_of I.hok eb) hd dd ?_
  rw [XR.has rel k]
  exact h _ (I.tok _)
theorem x_write {h' : Heap} {t' : Nat} {vs : List (List Leaf × Addr × Value)} (I : Inv X pins σ H s) (e : H a = some (DX X.prog X.w a xs)) {ys : List XE} (z : ys.length ≤ sizeLine) (hd : (a == sysModules) = false) (rel : Paired XR ys vs)
    (hs : Heap.SameBut a s.heap h') (dd : h'.DictOfH (kdX X.prog X.w) a vs) : Inv X pins σ (upd H a (DX X.prog X.w a ys)) { s with heap := h', toks := t' } :=
  d_write I (by rw [e]; exact True.intro) hs (let ⟨q, _, _, hq, _⟩ := dd; ⟨q, hq⟩) (x_new z hd rel dd)
theorem x_setItem {Q : Unit → Shared → Prop} (hu : A.units + 1 < cLine) (I : Inv X pins σ H s) (e : H a = some (DX X.prog X.w a xs)) (ka : KeysAt H xs) (eb : H b = some (kT k)) (hz : xs.length < sizeLine) (rv : RelV v r)
    (h : ∀ s', Inv X pins σ (upd H a (DX X.prog X.w a (putX xs k b v))) s' → Q () s') : wpAny (model X.prog X.w) A (setItem (.ref a) (.ref b) r) Q E s := by
  obtain ⟨z, hd, vs, rel, dd⟩ := x_rd I.hok (.inl e) ka
  have hz2 : vs.length ≤ sizeLine := by rw [← Paired.length rel]; exact z
  have hl : (putX xs k b v).length ≤ sizeLine := by have := putX_len xs k b v; omega
  exact wpAny_setItem_heap (hsz := hz2) (tupleKind_room_in1 hu) (keyX_of I.hok eb) dd fun h' dd' hs => h _ (x_write I e hl hd (XR.put rel k b rv) hs dd')
theorem x_dictSet {Q : Unit → Shared → Prop} (hu : X.A.units < cLine) (I : Inv X pins σ H s) (e : H a = some (DX X.prog X.w a xs)) (ka : KeysAt H xs) (eb : H b = some (kT k)) (hz : xs.length < sizeLine) (rv : RelV v r)
    (h : ∀ s', Inv X pins σ (upd H a (DX X.prog X.w a (putX xs k b v))) s' → Q () s') : wpAny (model X.prog X.w) X.A (dictSet a (.ref b) r) Q E s := by
  obtain ⟨z, hd, vs, rel, dd⟩ := x_rd I.hok (.inl e) ka
  have hz2 : vs.length ≤ sizeLine := by rw [← Paired.length rel]; exact z
  have hl : (putX xs k b v).length ≤ sizeLine := by have := putX_len xs k b v; omega
  exact wpAny_dictSet_heap (hsz := hz2) hu (keyX_of I.hok eb) dd fun h' dd' hs => h _ (x_write I e hl hd (XR.put rel k b rv) hs dd')
theorem keyed_of {vs : List (List Leaf × Addr × Value)} {h : Heap} {P : Program} {w : World} (dd : h.DictOfH (kdX P w) a vs) : h.DictKeyed (kdX P w) a (pairsH vs) := ⟨vs, dd, rfl⟩
end
end Lm
set_option Elab.async false
set_option linter.all false
set_option maxRecDepth 100000
set_option maxHeartbeats 4000000
/-! Ledmarks k83: dicts whose keys are pairs of a text and a bool: rules. -/
namespace Lm
open PySem PySem.Spec PyProof.Rows L2
section
variable {X : Cx} {pins : List (Addr × Obj)} {σ : L2.St} {H : Hp} {s : Shared} {a b : Addr} {xs : List XE} {k : Kp} {v d : V} {u r : Value} {A : Around} {E : Value → Shared → Prop}
theorem x_setd {Q : Value → Shared → Prop} (hu : A.units + 1 < cLine) (I : Inv X pins σ H s) (e : H a = some (DX X.prog X.w a xs)) (ka : KeysAt H xs) (eb : H b = some (kT k)) (hz : xs.length < sizeLine) (rd : RelV d r)
    (h1 : ∀ v, atX xs k = some v → ∀ (w' : Value) (s' : Shared), Inv X pins σ H s' → RelV v w' → Q w' s') (h2 : atX xs k = none → ∀ (s' : Shared), Inv X pins σ (upd H a (DX X.prog X.w a (putX xs k b d))) s' → Q r s') :
    wpAny (model X.prog X.w) A (call (.builtin "dict.setdefault") [.ref a, .ref b, r]) Q E s := by
  obtain ⟨z, hd, vs, rel, dd⟩ := x_rd I.hok (.inl e) ka
  have hz2 : vs.length ≤ sizeLine := by rw [← Paired.length rel]; exact z
  have hl : (putX xs k b d).length ≤ sizeLine := by have := putX_len xs k b d; omega
  refine call_setdefault_heap (hsz := hz2) (knd := kdX X.prog X.w) (tupleKind_room_in1 hu) (keyX_of I.hok eb) hd dd (fun p hp => ?_) fun hn h' dd' hs => ?_
  · have q := XR.at rel k
    rw [hp] at q
    cases q0 : atX xs k with
    | none =>
      rw [q0] at q
      exact (show False from q).elim
    | some v0 =>
      rw [q0] at q
      exact h1 v0 q0 _ _ (I.tok _) q
  · have q := XR.at rel k
    rw [hn] at q
    cases q0 : atX xs k with
    | some v0 =>
      rw [q0] at q
      exact (show False from q).elim
    | none => exact h2 q0 _ (x_write I e hl hd (XR.put rel k b rd) hs dd')
/-- an empty dict told as one of these -/
theorem x_retag (I : Inv X pins σ H s) (e : H a = some (.dK [])) : Inv X pins σ (upd H a (DX X.prog X.w a [])) s := by
  obtain ⟨z, hd, vs, rel, o, es, ep, h1, h2, h3, h4⟩ := dk_of I.hok e
  cases rel
  have he : es.toList = [] := by
    have l := h4.2.1.length
    have : es.toList.length = 0 := by simpa using l
    exact List.length_eq_zero_iff.mp this
  refine I.write (x := a) (e := a) (t' := s.toks) (h' := s.heap) (by rw [e]; exact True.intro) (.inl rfl) (fun b v _ q => q) ⟨o, h1⟩ ?_
  exact x_new (Nat.zero_le _) hd .nil ⟨o, es, ep, h1, h2, h3, he, (fun _ hx => nomatch hx), List.nodup_nil⟩
/-- .. told as one that never changes -/
theorem x_frz (I : Inv X pins σ H s) (e : H a = some (DX X.prog X.w a xs)) : ∃ o, Inv X pins σ (upd H a (.frz o (DX X.prog X.w a xs))) s := I.lock e True.intro
end
/-- the dict is told frozen from here on -/
def tFrz (P : Program) (w : World) (t : TS) : TS := fun D σ H => ∃ a xs, H a = some (DX P w a xs) ∧ ∀ o, t D σ (upd H a (.frz o (DX P w a xs)))
/-- an empty dict is told as one with pairs for keys -/
def tRetag (P : Program) (w : World) (t : TS) : TS := fun D σ H => ∃ a, H a = some (.dK []) ∧ t D σ (upd H a (DX P w a []))
def tXGet (P : Program) (w : World) (td ty : TE) : TE := fun σ H Q => td σ H fun x H1 => ty σ H1 fun y H2 => ∃ a b k xs v, x = .ref a ∧ y = .ref b ∧ DRd P w H2 a xs ∧ H2 b = some (kT k) ∧ atX xs k = some v ∧ Q v H2
def tXIn (P : Program) (w : World) (ty td : TE) : TE := fun σ H Q => ty σ H fun y H1 => td σ H1 fun x H2 => ∃ a b k xs, x = .ref a ∧ y = .ref b ∧ DRd P w H2 a xs ∧ H2 b = some (kT k) ∧ Q (.bl (hasX xs k)) H2
def tXNotIn (P : Program) (w : World) (ty td : TE) : TE := fun σ H Q => ty σ H fun y H1 => td σ H1 fun x H2 => ∃ a b k xs, x = .ref a ∧ y = .ref b ∧ DRd P w H2 a xs ∧ H2 b = some (kT k) ∧ Q (.bl (!hasX xs k)) H2
def sXPut (P : Program) (w : World) (td ty tv : TE) : TS := fun D σ H => tv σ H fun v H1 => td σ H1 fun x H2 => ty σ H2 fun y H3 => ∃ a b k xs, x = .ref a ∧ y = .ref b ∧ H3 a = some (DX P w a xs) ∧ KeysAt H3 xs ∧ H3 b = some (kT k) ∧ xs.length < sizeLine ∧
  D.nx σ (upd H3 a (DX P w a (putX xs k b v)))
def tXSetd (P : Program) (w : World) (td ty tx : TE) : TE := fun σ H Q => td σ H fun x H1 => ∃ a xs0, x = .ref a ∧ H1 a = some (DX P w a xs0) ∧ ty σ H1 fun y H2 => tx σ H2 fun z H3 => ∃ b k xs, y = .ref b ∧ H3 a = some (DX P w a xs) ∧ KeysAt H3 xs ∧ H3 b = some (kT k) ∧ xs.length < sizeLine ∧
  (∀ v, atX xs k = some v → Q v H3) ∧ (hasX xs k = false → Q z (upd H3 a (DX P w a (putX xs k b z))))
/-- {k: v} -/
def tXDisp1 (P : Program) (w : World) (tk tv : TE) : TE := fun σ H Q => ∀ p, H p = none → tk σ (upd H p (DX P w p [])) fun y H1 => tv σ H1 fun z H2 => ∃ b k, y = .ref b ∧ H2 p = some (DX P w p []) ∧ H2 b = some (kT k) ∧ Q (.ref p) (upd H2 p (DX P w p [(k, b, z)]))
/-- a statement (or loop) whose dict is locked while its value is made: for expressions -/
def tFrzE (P : Program) (w : World) (t : TE) : TE := fun σ H Q => ∃ a xs, H a = some (DX P w a xs) ∧ ∀ o, t σ (upd H a (.frz o (DX P w a xs))) Q
section
variable {X : Cx} {o i e f value k v : Expr} {pos pos' tpos apos cpos : Pos} {td ty tv tx tk : TE}
theorem ps_frz {st : Stmt} {t : TS} (h : PS X st t) : PS X st (tFrz X.prog X.w t) := ⟨fun pins s σ H D I ⟨a, xs, e, q⟩ => let ⟨o, I1⟩ := x_frz I e; h.run pins s σ _ D I1 (q o)⟩
theorem ps_retag {st : Stmt} {t : TS} (h : PS X st t) : PS X st (tRetag X.prog X.w t) := ⟨fun pins s σ H D I ⟨a, e, q⟩ => h.run pins s σ _ D (x_retag I e) q⟩
theorem pe_frz {e : Expr} {t : TE} (h : PE X e t) : PE X e (tFrzE X.prog X.w t) := ⟨fun pins s σ H Q I ⟨a, xs, e, q⟩ => let ⟨o, I1⟩ := x_frz I e; h.run pins s σ _ Q I1 (q o)⟩
theorem x_ty {pins : List (Addr × Obj)} {σ : L2.St} {H : Hp} {s : Shared} {a : Addr} {xs : List XE} (I : Inv X pins σ H s) (g : Rd H a (DX X.prog X.w a xs)) : s.TypeIs (.ref a) "dict" ∧ ∀ b, Value.ref a = .ref b → ∃ ob, s.heap.get? b = some ob ∧ ob.dict = none := by
  obtain ⟨⟨_, _, vs, r, ob, es, ep, h1, h2, _⟩, _⟩ := (show ObjOk X.prog X.w H s.heap a (DX X.prog X.w a xs) from g.ok I.hok)
  exact ⟨⟨ob, h1, h2.1⟩, fun b q => by cases q; exact ⟨ob, h1, h2.2.1⟩⟩
theorem pe_xget (hu : X.A.units + 1 < cLine) (ho : PE X o td) (hi : PE X i ty) (hs : NoSl i) : PE X (.Subscript o i pos) (tXGet X.prog X.w td ty) := by
  refine ⟨fun pins s σ H Q I h => ?_⟩
  refine subD_of PySem.F.slot_dict_getitem.lookup hs (thn (ho.run pins s σ H _ I h) fun u s1 ⟨x, H1, I1, rx, q1⟩ => thn (hi.run pins s1 σ H1 _ I1 q1) fun iv s2 ⟨y, H2, I2, ry, a, b, k, xs, v, ex, ey, g, eb, l, q2⟩ => ?_)
  subst ex ey
  obtain rfl : u = Value.ref a := rx
  obtain rfl : iv = Value.ref b := ry
  exact ⟨(x_ty I2 g.1).1, x_getItem hu I2 g eb l fun w' s3 I3 rw' => ⟨v, H2, I3, rw', q2⟩⟩
theorem pc_xin (hu : X.A.units + 1 < cLine) (hi : PE X i ty) (ho : PE X o td) : PC X .In i o (tXIn X.prog X.w ty td) := by
  refine ⟨fun pins s σ H Q I h => ?_⟩
  refine thn (hi.run pins s σ H _ I h) fun iv s1 ⟨y, H1, I1, ry, q1⟩ => thn (ho.run pins s1 σ H1 _ I1 q1) fun u s2 ⟨x, H2, I2, rx, a, b, k, xs, ex, ey, g, eb, q2⟩ => ?_
  subst ex ey
  obtain rfl : u = Value.ref a := rx
  obtain rfl : iv = Value.ref b := ry
  exact x_in hu I2 g eb fun s3 I3 => ⟨.bl (hasX xs k), H2, I3, rfl, q2⟩
theorem pc_xnotin (hu : X.A.units + 1 < cLine) (hi : PE X i ty) (ho : PE X o td) : PC X .NotIn i o (tXNotIn X.prog X.w ty td) := by
  refine ⟨fun pins s σ H Q I h => ?_⟩
  refine thn (hi.run pins s σ H _ I h) fun iv s1 ⟨y, H1, I1, ry, q1⟩ => thn (ho.run pins s1 σ H1 _ I1 q1) fun u s2 ⟨x, H2, I2, rx, a, b, k, xs, ex, ey, g, eb, q2⟩ => ?_
  subst ex ey
  obtain rfl : u = Value.ref a := rx
  obtain rfl : iv = Value.ref b := ry
  exact x_notIn hu I2 g eb fun s3 I3 => ⟨.bl (!hasX xs k), H2, I3, rfl, q2⟩
theorem ps_xput (hu : X.A.units + 1 < cLine) (ho : PE X o td) (hi : PE X i ty) (hv : PE X value tv) (hs : swapsWith value (some (.Subscript o i pos')) pos.line X.env = pure false) :
    PS X (.Assign [.Subscript o i pos'] value pos) (sXPut X.prog X.w td ty tv) := by
  refine ⟨fun pins s σ H D I h => ?_⟩
  refine wpAny_Assign_Subscript (thn (hv.run pins s σ H _ I h) fun r s1 ⟨v, H1, I1, rv, q1⟩ => thn (ho.run pins s1 σ H1 _ I1 q1) fun u s2 ⟨x, H2, I2, rx, q2⟩ => thn (hi.run pins s2 σ H2 _ I2 q2) fun iv s3 ⟨y, H3, I3, ry, a, b, k, xs, ex, ey, g, ka, eb, hz, q3⟩ => ?_) hs
  subst ex ey
  obtain rfl : u = Value.ref a := rx
  obtain rfl : iv = Value.ref b := ry
  exact x_setItem hu I3 g ka eb hz rv fun s4 I4 => ⟨σ, _, I4, q3⟩
theorem pe_xsetd (hu : X.A.units + 1 < cLine) (ho : PE X o td) (he : PE X e ty) (hf : PE X f tx) (m : M2 X o "setdefault" apos e f cpos) : PE X (.Call (.Attribute o "setdefault" apos) [e, f] [] cpos) (tXSetd X.prog X.w td ty tx) := by
  refine ⟨fun pins s σ H Q I h => ?_⟩
  refine wpAny_Call_method m.base m.few m.line PySem.F.plainAttrs_dict PySem.F.slot_dict_setdefault PySem.F.type_dict_setdefault (thn (ho.run pins s σ H _ I h) fun u s1 ⟨x, H1, I1, rx, a, xs0, ex, d, q1⟩ => ?_)
  subst ex
  obtain rfl : u = Value.ref a := rx
  obtain ⟨t1, t2⟩ := x_ty I1 (.inl d)
  refine ⟨t1, t2, ?_⟩
  rw [m.trees]
  refine Calls.callWith_builtin rfl (Calls.evalArgs_plain (Calls.spliced_cons (thn (he.run pins s1 σ H1 _ I1 q1) fun iv s2 ⟨y, H2, I2, ry, q2⟩ =>
    Calls.spliced_cons (thn (hf.run pins s2 σ H2 _ I2 q2) fun fv s3 ⟨z, H3, I3, rz, b, k, xs, ey, ea, ka, eb, hz, q3, q4⟩ => Calls.spliced_nil ?_))))
  subst ey
  obtain rfl : iv = Value.ref b := ry
  refine x_setd hu I3 ea ka eb hz rz (fun v hv w' s4 I4 rw' => ⟨v, _, I4, rw', q3 v hv⟩) fun hn s4 I4 => ⟨z, _, I4, rz, q4 ?_⟩
  rw [← atX_has, hn]
  rfl
theorem pe_xdisp1 (hu : X.A.units < cLine) (hk : PE X k tk) (hv : PE X v tv) : PE X (.Dict [some k] [v] pos) (tXDisp1 X.prog X.w tk tv) := by
  refine ⟨fun pins s σ H Q I q => ?_⟩
  have hn := I.hok.fresh (Nat.le_refl s.heap.objs.size)
  have I1 := I.laid (a := s.heap.objs.size) (o := DX X.prog X.w s.heap.objs.size []) (h' := s.heap.push { cls := .type "dict", data := .dict #[] }) (t' := s.toks) (fun _ _ q => Heap.get?_push_of_some _ q) (Nat.le_refl _) (x_empty s.heap I.big)
  have hn2 := pairTrees_length [some k] [v] X.env pos rfl rfl
  rw [arm_eval_Dict, zip_pairTrees [some k] [v] X.env pos rfl rfl, dictDisplay_pairs (pairTrees [some k] [v] X.env pos) (fun he => by rw [he] at hn2; cases hn2) (by rw [hn2]; show (1 : Nat) < 17; decide)]
  refine wpAny_bind (wpAny_standAt (wpAny_bind (wpAny_subDictH (knd := kdX X.prog X.w) hu (by rw [hn2]; show (1 : Nat) ≤ 15; decide) ?_)))
  refine pairTrees_cons_walk (thn (hk.run pins _ σ _ _ I1 (q _ hn)) fun u s1 ⟨y, H1, I2, ry, q1⟩ => thn (hv.run pins s1 σ H1 _ I2 q1) fun w2 s2 ⟨z, H2, I3, rz, b, kk, ey, hp, eb, q2⟩ => pairTrees_nil_walk ?_)
  subst ey
  obtain rfl : u = Value.ref b := ry
  obtain ⟨z0, hd, vs, rel, dd⟩ := x_rd I3.hok (.inl hp) (fun _ hx => nomatch hx)
  cases rel
  refine ⟨[(leafs kk, b, w2)], ⟨rfl, rfl, keyX_of I3.hok eb, trivial⟩, dd, fun h' tk dd' hs => wpAny_pure ⟨.ref s.heap.objs.size, _, ?_, rfl, q2⟩⟩
  exact x_write I3 hp (by show 1 ≤ sizeLine; decide) hd (.cons ⟨rfl, rfl, rz⟩ .nil) hs dd'
end
/-! ### walked -/
section
variable {X : Cx} {pins : List (Addr × Obj)} {σ : L2.St} {H : Hp} {s : Shared} {d : Addr} {o : Obj}
theorem frzX {xs : List XE} (I : Inv X pins σ H s) (h : H d = some (.frz o (DX X.prog X.w d xs))) :
    (d == sysModules) = false ∧ s.heap.get? d = some o ∧ o.ExactDict ∧ ∃ (es : Array DictEntry) (ep : Nat), o.data = .dict es ep ∧ es.size = xs.length ∧
      ∀ (i : Nat) (x : XE), xs[i]? = some x → ∃ (en : DictEntry), es[i]? = some en ∧ en.key = .ref x.2.1 ∧ RelV x.2.2 en.val := by
  obtain ⟨hd, ⟨z, hs, vs, pr, o', es, ep, ho, hx, hdt, he, _⟩, _⟩ := I.hok d _ h
  rw [hd] at ho
  cases ho
  refine ⟨hs, hd, hx, es, ep, hdt, ?_, fun i x e => ?_⟩
  · have l1 : es.size = vs.length := size_of_entries he
    have l2 : xs.length = vs.length := Paired.length pr
    omega
  · obtain ⟨b, hb, e1, e2, e3⟩ := paired_get pr e
    have q := entry_at he i
    rw [hb] at q
    exact ⟨_, q, by show Value.ref b.2.1 = _; rw [e2], e3⟩
end
/-- the keys' own tuples, in their order -/
def Itkx (P : Program) (w : World) (d : Addr) (o : Obj) (xs : List XE) : It :=
  ⟨fun i H => H d = some (.frz o (DX P w d xs)) ∧ i < xs.length, fun i H x H' => H' = H ∧ ∃ e, xs[i]? = some e ∧ x = .ref e.2.1, fun i H => H d = some (.frz o (DX P w d xs)) ∧ xs.length ≤ i⟩
/-- the items, each a new tuple -/
def Itix (P : Program) (w : World) (d : Addr) (o : Obj) (xs : List XE) : It :=
  ⟨fun i H => H d = some (.frz o (DX P w d xs)) ∧ i < xs.length, fun i H x H' => ∃ T e, xs[i]? = some e ∧ x = .ref T ∧ H T = none ∧ H' = upd H T (.tup [.ref e.2.1, e.2.2]), fun i H => H d = some (.frz o (DX P w d xs)) ∧ xs.length ≤ i⟩
section
variable {P : Program} {w : World} {K : PySem.W.Frag} {tg : Expr} {d : Addr} {o : Obj} {es : Array DictEntry} {ep : Nat} {xs : List XE}
theorem turn_keysX (it : Addr) (hod : o.data = .dict es ep) : Turn P w K tg (Itkx P w d o xs) [it] it (fun i h => h.IsKeyIter it d i xs.length ep) where
  mem := by simp
  obj := fun i h st b hb => by
    have e : b = it := by simpa using hb
    subst e
    obtain ⟨oi, e, c, dd⟩ := st
    exact ⟨oi, e, fun v z => by rw [dd] at z; cases z⟩
  keep := fun i h h' st k => st.at fun oi e => k it (by simp) oi e
  item := by
    intro X hP hw hK hc i pins s σ H E I hf st hg
    subst hP hw hK
    obtain ⟨hd, hi⟩ := hg
    obtain ⟨f0, f1, f2, f3, f4, f5⟩ := hf it (by simp)
    obtain ⟨hs, hgd, hx, es', ep', hdt, hsz, ent⟩ := frzX I hd
    obtain ⟨rfl, rfl⟩ := dict_ep hod hdt
    obtain ⟨x, hxi⟩ : ∃ p, xs[i]? = some p := ⟨xs[i], List.getElem?_eq_getElem hi⟩
    obtain ⟨en, hen, hkey, _⟩ := ent i x hxi
    refine next_key_item st hgd hdt hsz hen fun h' st' sb => ?_
    have I1 : Inv X pins σ H { s with heap := h' } := I.turned (t' := s.toks) (fun b ob hb e => (sb.2 b hb).trans e) f0 f1 f3 f4 f5
    obtain ⟨oi, e, c, dd⟩ := id st'
    exact ⟨en.key, rfl, go_of (s := { s with heap := h' }) e c dd (by decide) ⟨.ref x.2.1, H, I1, hkey, ⟨rfl, x, hxi, rfl⟩, st', fun b hb => (hf b hb).1⟩⟩
  done := by
    intro X hP hw hK hc i pins s σ H E I hf st hg
    subst hP hw hK
    obtain ⟨hd, hi⟩ := hg
    obtain ⟨f0, f1, f2, f3, f4, f5⟩ := hf it (by simp)
    obtain ⟨hs, hgd, hx, es', ep', hdt, hsz, ent⟩ := frzX I hd
    obtain ⟨rfl, rfl⟩ := dict_ep hod hdt
    exact next_key_end (I.ok.hd hc) st hgd hdt hsz hi fun h' eb => ⟨rfl, I.turned (t' := s.toks) (fun b ob hb e => eb b ob hb e) f0 f1 f3 f4 f5⟩
  self := fun A i s Q E st h => by
    refine wpAny_pyIter_slot st.typeIs F.slot_dict_keyiterator_iter (wpAny_call_entry F.slot_dict_keyiterator_iter st.typeIs F.entry_dict_keyiterator_iter ?_ (F.args_dict_keyiterator_iter_1 _))
    show wpAny _ _ (ret (.ref it)) _ _ s
    exact wpAny_pure ⟨_, rfl, "dict_keyiterator", _, st.typeIs, F.slot_dict_keyiterator_next.lookup, h⟩
theorem turn_itemsX {elts : List Expr} {kk : Nat} {tpos : Pos} (it : Addr) (hod : o.data = .dict es ep) :
    Turn P w K (.Tuple elts kk tpos) (Itix P w d o xs) [it] it (fun i h => ∃ ok ov, IsItemIter h it d i xs.length ep ok ov) where
  mem := by simp
  obj := fun i h st b hb => by
    have e : b = it := by simpa using hb
    subst e
    obtain ⟨ok, ov, e⟩ := st
    exact ⟨_, e, fun v z => nomatch z⟩
  keep := fun i h h' st k => let ⟨ok, ov, e⟩ := st; ⟨ok, ov, k it (by simp) _ e⟩
  item := by
    intro X hP hw hK hc i pins s σ H E I hf st hg
    subst hP hw hK
    obtain ⟨hd, hi⟩ := hg
    obtain ⟨hs, hgd, hx, es', ep', hdt, hsz, ent⟩ := frzX I hd
    obtain ⟨rfl, rfl⟩ := dict_ep hod hdt
    obtain ⟨x, hxi⟩ : ∃ p, xs[i]? = some p := ⟨xs[i], List.getElem?_eq_getElem hi⟩
    obtain ⟨en, hen, hkey, rv⟩ := ent i x hxi
    obtain ⟨ok, ov, he⟩ := st
    rw [← hsz] at he
    have hlt : it < s.heap.objs.size := Heap.lt_size he
    have hie : i < es'.size := by omega
    have hee : es'[i] = en := by
      have q := Array.getElem?_eq_getElem hie
      rw [hen] at q
      exact (Option.some.inj q).symm
    refine PySem.wpAny_pyNext_items_item_raw he ⟨o, hgd, hx, hdt⟩ hie fun h' ho hT hz hk => ?_
    rw [hee, hkey] at hT ho
    refine ⟨_, rfl, wpAny_letOwnedTupleGo_items (s := { s with heap := h' }) ho fun h'' he' sb => ?_⟩
    have hT2 : h''.get? s.heap.objs.size = some { cls := .type "tuple", data := .seq #[.ref x.2.1, en.val] } := (sb.2 _ (Nat.ne_of_gt hlt)).trans hT
    have new : ObjOk X.prog X.w (upd H s.heap.objs.size (.tup [.ref x.2.1, x.2.2])) h'' s.heap.objs.size (.tup [.ref x.2.1, x.2.2]) :=
      ⟨by show 2 ≤ sizeLine; decide, [.ref x.2.1, en.val], .cons rfl (.cons rv .nil), ⟨_, hT2, rfl, _, rfl⟩⟩
    have I1 : Inv X pins σ (upd H s.heap.objs.size (.tup [.ref x.2.1, x.2.2])) { s with heap := h'' } :=
      I.turnedNew (t' := s.toks) (ch := [it]) (fun b ob hb e => (sb.2 b (by simpa using hb)).trans (hk b ob (by simpa using hb) e)) hf (Nat.le_refl _) new
    refine ⟨.ref s.heap.objs.size, _, I1, rfl, ⟨_, x, hxi, rfl, I.hok.fresh (Nat.le_refl _), rfl⟩, ⟨.ref x.2.1, en.val, ?_⟩, fun b hb => ?_⟩
    · rw [← hsz]; exact he'
    · have e : b = it := by simpa using hb
      rw [e, upd_ne (Nat.ne_of_lt hlt)]
      exact (hf it (by simp)).1
  done := by
    intro X hP hw hK hc i pins s σ H E I hf st hg
    subst hP hw hK
    obtain ⟨hd, hi⟩ := hg
    obtain ⟨f0, f1, f2, f3, f4, f5⟩ := hf it (by simp)
    obtain ⟨hs, hgd, hx, es', ep', hdt, hsz, ent⟩ := frzX I hd
    obtain ⟨rfl, rfl⟩ := dict_ep hod hdt
    obtain ⟨ok, ov, he⟩ := st
    rw [← hsz] at he
    exact PySem.wpAny_pyNext_items_end_raw (I.ok.hd hc) he ⟨o, hgd, hx, hdt⟩ (by omega) fun h' eb => ⟨rfl, I.turned (t' := s.toks) (fun b ob hb e => eb b ob hb e) f0 f1 f3 f4 f5⟩
  self := fun A i s Q E st h => let ⟨_, _, e⟩ := st; PySem.W.kcp_self e h
end
def iKeysX (P : Program) (w : World) (td : TE) : TI := fun σ H R => td σ H fun x H1 => ∃ d o xs, x = .ref d ∧ H1 d = some (.frz o (DX P w d xs)) ∧ R (Itkx P w d o xs) H1
def iItemsX (P : Program) (w : World) (td : TE) : TI := fun σ H R => td σ H fun x H1 => ∃ d o xs, x = .ref d ∧ H1 d = some (.frz o (DX P w d xs)) ∧ R (Itix P w d o xs) H1
section
variable {X : Cx} {tg e : Expr} {td : TE} {apos cpos : Pos}
theorem pi_keysX (he : PE X e td) : PI X tg e (iKeysX X.prog X.w td) := by
  refine ⟨fun pins s σ H R I h => ?_⟩
  refine thn (he.run pins s σ H _ I h) fun u s1 ⟨x, H1, I1, rx, d, o, xs, ex, hd, q⟩ => ?_
  subst ex
  obtain rfl : u = Value.ref d := rx
  obtain ⟨hs, hgd, hx, es, ep, hdt, hsz, ent⟩ := frzX I1 hd
  refine iter_keys hs hgd hx hdt (pi_one (tk := s1.toks) I1 _ (turn_keysX _ hdt) ⟨_, Heap.get?_push_size _ rfl, rfl, ?_⟩ q)
  rw [hsz] <;> rfl
theorem pi_itemsX {elts : List Expr} {kk : Nat} {tpos : Pos} (he : PE X e td) (hbase : attributeBase e "items" X.env (eval e X.env) = eval e X.env := by rfl) (hline : (apos.endLine == cpos.line) = true := by rfl) :
    PI X (.Tuple elts kk tpos) (.Call (.Attribute e "items" apos) [] [] cpos) (iItemsX X.prog X.w td) := by
  refine ⟨fun pins s σ H R I h => ?_⟩
  refine wpAny_Call_method (T := "dict") (id := "dict.items") hbase rfl hline F.plainAttrs_dict F.slot_dict_items F.type_dict_items (thn (he.run pins s σ H _ I h) fun u s1 ⟨x, H1, I1, rx, d, o, xs, ex, hd, q⟩ => ?_)
  subst ex
  obtain rfl : u = Value.ref d := rx
  obtain ⟨hs, hgd, hx, es, ep, hdt, hsz, ent⟩ := frzX I1 hd
  have raw : s1.heap.DictRaw d es ep := ⟨o, hgd, hx, hdt⟩
  refine ⟨⟨o, hgd, hx.1⟩, fun b q => by cases q; exact ⟨o, hgd, hx.2.1⟩, ?_⟩
  have I2 : Inv X pins σ H1 { s1 with heap := s1.heap.push { cls := .type "dict_items", data := .fields #[.ref d] } } := I1.kept (t' := s1.toks) fun b ob q => Heap.get?_push_of_some _ q
  have fin : wpAny (model X.prog X.w) X.A (pyIter (.ref s1.heap.objs.size)) (PIE X pins σ (.Tuple elts kk tpos) R) X.xe { s1 with heap := s1.heap.push { cls := .type "dict_items", data := .fields #[.ref d] } } := by
    refine PySem.wpAny_pyIter_items_raw (d := d) ⟨_, Heap.get?_push_size _ rfl, rfl, rfl⟩ (raw.push _) (pi_one (tk := s1.toks) I2 _ (turn_itemsX _ hdt) ⟨.none, .none, ?_⟩ q)
    rw [hsz]
    exact Heap.get?_push_size _ rfl
  show wpAny _ _ (callWith cpos (.builtin "dict.items") [.ref d] [] []) _ X.xe s1
  exact method_meetsIn F.slot_dict_items F.entry_dict_items rfl (PySem.evalArgs_none ⟨rfl, ⟨o, hgd, hx.1⟩, F.args_dict_items_1 _, _, PySem.meets_dict_items_raw d hs, ⟨⟨es, ep, raw⟩, fin⟩⟩)
end
section
variable {P : Program} {w : World} {d : Addr} {o : Obj} {xs : List XE}
theorem walk_keysX : Walk (Itkx P w d o xs) xs.length (fun H => H d = some (.frz o (DX P w d xs))) (YAt (xs.map fun e => V.ref e.2.1)) :=
  ⟨fun i H h g => ⟨g, h⟩, fun H g => ⟨g, Nat.le_refl _⟩, fun i H x H' h g y => by
    obtain ⟨e, z, hz, rfl⟩ := y
    exact ⟨e, by rw [List.getElem?_map, hz]; rfl⟩⟩
def YItem (xs : List XE) : Nat → Hp → V → Hp → Prop := fun i H v H' => ∃ T e, v = .ref T ∧ H T = none ∧ H' = upd H T (.tup [.ref e.2.1, e.2.2]) ∧ xs[i]? = some e
theorem walk_itemsX : Walk (Itix P w d o xs) xs.length (fun H => H d = some (.frz o (DX P w d xs))) (YItem xs) :=
  ⟨fun i H h g => ⟨g, h⟩, fun H g => ⟨g, Nat.le_refl _⟩, fun i H x H' h g y => by
    obtain ⟨T, e, h1, h2, h3, h4⟩ := y
    exact ⟨T, e, h2, h3, h4, h1⟩⟩
end
end Lm
set_option Elab.async false
set_option linter.all false
set_option maxRecDepth 100000
set_option maxHeartbeats 4000000
/-! Ledmarks k83: dict comprehensions whose keys are pairs of a text and a bool. -/
namespace Lm
open PySem PySem.Spec PyProof.Rows L2
section
variable {X : Cx}
/-- {k: v for target in iter if ..}, keys pairs of a text and a bool: D the new dict -/
def tDcX (P : Program) (w : World) (wi : TI) (g : TG) (tt : TT) (tk tv : TE) (vs : List Nat) : TE := fun σ H Q => wi σ H fun J H1 => ∀ D, H1 D = none → ∃ W : Nat → Nat → Hp → Prop, (∃ m, W 0 m (upd H1 D (DX P w D []))) ∧ ∀ i m H, W i m H →
  (J.stop i H ∧ Q (.ref D) H) ∨ (J.go i H ∧ ∃ Nx : Hp → Prop, (∀ H', Nx H' → ∃ m', m' < m ∧ W (i + 1) m' H') ∧ ∀ x H', J.yld i H x H' → g x (wipe σ vs) H' fun σ2 H2 => wipe σ2 vs = wipe σ vs ∧ tt σ2 H2 fun b H3 =>
    if b = true then tk σ2 H3 fun y H4 => tv σ2 H4 fun z H5 => ∃ xs k b, y = .ref b ∧ H5 D = some (DX P w D xs) ∧ KeysAt H5 xs ∧ H5 b = some (kT k) ∧ xs.length < sizeLine ∧ Nx (upd H5 D (DX P w D (putX xs k b z))) else Nx H3)
theorem dcX_core {pins : List (Addr × Obj)} {s : Shared} {σ : L2.St} {H : Hp} {Q : VK} {kx vx tg iter : Expr} {ifs : List Expr} {scope : Scope} {own : List (Str × Nat)} {pos pos' : Pos} {wi : TI} {g : TG} {tt : TT} {tk tv : TE} {use : Option (Value → Sem Unit)} {Qf : Value → Shared → Prop}
    (hu : X.A.units < cLine) (hc : X.calm = true) (hN : X.N.Nodup) (I : Inv X pins σ H s) (hi : PI X tg iter wi) (ok : BlkOk X.N X.env.scope scope own)
    (hg : ∀ (s : Shared) (H : Hp) (C : Addr) (cl : List (Str × Addr)) (fp : List Addr), PG (X.blk s H scope (compEnvC scope cl C X.env) fp) tg g) (ht : ∀ (s : Shared) (H : Hp) (C : Addr) (cl : List (Str × Addr)) (fp : List Addr), PTs (X.blk s H scope (compEnvC scope cl C X.env) fp) ifs tt)
    (hk : ∀ (s : Shared) (H : Hp) (C : Addr) (cl : List (Str × Addr)) (fp : List Addr), PE (X.blk s H scope (compEnvC scope cl C X.env) fp) kx tk)
    (he : ∀ (s : Shared) (H : Hp) (C : Addr) (cl : List (Str × Addr)) (fp : List Addr), PE (X.blk s H scope (compEnvC scope cl C X.env) fp) vx tv) (hs : ∀ x, foldedSetIterable iter X.env x = pure x)
    (h : tDcX X.prog X.w wi g tt tk tv (own.map (·.2)) σ H Q)
    (hRR : ∀ D C s' m H', Inv X pins σ H' s' → Q (.ref D) H' → s'.heap.Ns C m → FpOk X pins H' C → compPost (model X.prog X.w) X.A X.xe use Qf (.ref D) C (.ok .next) s') :
    wpAny (model X.prog X.w) X.A (comprehension (.DictComp kx vx [⟨tg, iter, ifs, 0⟩] scope pos) scope X.env pos' newDict false (eval iter X.env) use) Qf X.xe s := by
  have hfree : ∀ y ∈ scope.names, y.2 = .free → ∃ c, X.env.cells.lookup y.1 = some c := fun y hy e => by
    rcases ok.free y hy e with k | k
    · exact I.ok.has _ (.inl k)
    · exact I.ok.has _ (.inr k)
  refine wpAny_comprehension_free (use := use) rfl hs (closure_ok hfree) ok.kind (fun y hy e => by rw [ok.uniq y hy, e])
    (thn (hi.run pins s σ H _ I h) fun xv s1 hx => thn hx fun itv s2 h2 => ?_)
  obtain ⟨it, fp, tn, J, H2, e, I2, T, st2, f2, q⟩ := h2
  subst e
  refine wpAny_newObj_type (newEnv_comp ?_)
  generalize hD : s2.heap.objs.size = D
  have hDn : H2 D = none := I2.hok.fresh (Nat.le_of_eq hD)
  obtain ⟨W, ⟨m0, w0⟩, turn⟩ := q D hDn
  -- the new list
  generalize hs3 : ({ s2 with heap := s2.heap.push { cls := .type "dict", data := .dict #[] } } : Shared) = s3
  have I3 : Inv X pins σ (upd H2 D (DX X.prog X.w D [])) s3 := by
    rw [← hs3]
    refine I2.laid (t' := s2.toks) (fun b o e => Heap.get?_push_of_some _ e) (Nat.le_of_eq hD) ?_
    rw [← hD]
    exact x_empty s2.heap I2.big
  have h3 : s3.heap = s2.heap.push { cls := .type "dict", data := .dict #[] } := by rw [← hs3]
  have sz : ∀ b ∈ fp, b < s2.heap.objs.size := fun b hb => by
    obtain ⟨o, e, _⟩ := T.obj _ _ st2 b hb
    exact Heap.lt_size e
  have f3 : ∀ b ∈ fp, FpOk X pins (upd H2 D (DX X.prog X.w D [])) b ∧ b < s3.heap.objs.size := fun b hb => by
    have hlt := sz b hb
    refine ⟨⟨?_, (f2 b hb).2⟩, by rw [h3, Heap.size_push]; exact Nat.lt_succ_of_lt hlt⟩
    rw [upd_ne (by rw [← hD]; exact Nat.ne_of_lt hlt)]
    exact (f2 b hb).1
  have st3 : tn 0 s3.heap := T.keep _ _ _ st2 fun b _ o e => by rw [h3]; exact Heap.get?_push_of_some _ e
  have I4 := block_start I3 ok hN f3
  have pg := hg s3 (upd H2 D (DX X.prog X.w D [])) s3.heap.objs.size (cellsFrom (s3.heap.objs.size + 1) scope.names (cloFrom X.env.cells scope.names [])) fp
  have pt := ht s3 (upd H2 D (DX X.prog X.w D [])) s3.heap.objs.size (cellsFrom (s3.heap.objs.size + 1) scope.names (cloFrom X.env.cells scope.names [])) fp
  have pk := hk s3 (upd H2 D (DX X.prog X.w D [])) s3.heap.objs.size (cellsFrom (s3.heap.objs.size + 1) scope.names (cloFrom X.env.cells scope.names [])) fp
  have pe := he s3 (upd H2 D (DX X.prog X.w D [])) s3.heap.objs.size (cellsFrom (s3.heap.objs.size + 1) scope.names (cloFrom X.env.cells scope.names [])) fp
  show codeAny _ _ (.compStart (.DictComp kx vx [⟨tg, iter, ifs, 0⟩] scope pos) 0 (.ref it) (.ref D) (compEnvC scope (cellsFrom (s3.heap.objs.size + 1) scope.names (cloFrom X.env.cells scope.names [])) s3.heap.objs.size X.env)) (compPost (model X.prog X.w) X.A X.xe use Qf (.ref D) s3.heap.objs.size) { s3 with heap := pushCells (s3.heap.push { cls := .type "dict", data := .dict #[] }) scope.names }
  have nfp : ∀ b ∈ fp, (upd H2 D (DX X.prog X.w D [])) b = none := fun b hb => (f3 b hb).1.1
  generalize hce : compEnvC scope (cellsFrom (s3.heap.objs.size + 1) scope.names (cloFrom X.env.cells scope.names [])) s3.heap.objs.size X.env = ce at I4 pg pt pk pe ⊢
  have cL : ce.locals = s3.heap.objs.size := by subst hce; rfl
  generalize hH3 : upd H2 D (DX X.prog X.w D []) = H3 at I3 I4 pg pt pk pe w0 nfp f3
  generalize hs4 : ({ s3 with heap := pushCells (s3.heap.push { cls := .type "dict", data := .dict #[] }) scope.names } : Shared) = s4 at I4 ⊢
  have st4 : tn 0 s4.heap := T.keep _ _ _ st3 fun b _ o e => by rw [← hs4]; exact pushCells_keeps _ _ _ _ (Heap.get?_push_of_some _ e)
  have stat : ∀ {σ' : L2.St} {H' : Hp} {s' : Shared}, Inv (X.blk s3 H3 scope ce fp) [] σ' H' s' → (∀ b ∈ fp, H' b = none) → ∀ b ∈ fp, FpOk (X.blk s3 H3 scope ce fp) [] H' b := fun {σ' H' s'} I' hn b hb =>
    ⟨hn b hb, (I'.ok.exf b hb).1, I'.ok.exfs b hb, .inl hb, fun x c e => (I'.ok.exf b hb).2 x c e, fun p hp => absurd (show p ∈ ([] : List (Addr × Obj)) ++ [] from hp) (by simp)⟩
  have loop : codeAny (model X.prog X.w) X.A (.compLoop (.DictComp kx vx [⟨tg, iter, ifs, 0⟩] scope pos) 0 (.ref it) (.ref D) ce) (compPost (model X.prog X.w) X.A X.xe use Qf (.ref D) s3.heap.objs.size) s4 := by
    refine compLoop_anyD (fun n s' => ∃ i H', Inv (X.blk s3 H3 scope ce fp) [] (wipe σ (own.map (·.2))) H' s' ∧ tn i s'.heap ∧ (∀ b ∈ fp, H' b = none) ∧ W i n H') ?_ m0 ⟨0, H3, I4, st4, nfp, w0⟩
    rintro n s5 ⟨i, H5, I5, st5, n5, w5⟩
    rcases turn i n H5 w5 with ⟨stop, qq⟩ | ⟨go, Nx, hNx, step⟩
    · have td := T.done (X.blk s3 H3 scope ce fp) rfl rfl rfl hc i [] s5 _ H5 (fun _ _ => False) I5 (stat I5 n5) st5 stop
      refine thnF td fun r s6 ⟨hr, I6⟩ => ?_
      subst hr
      -- back in the def's context
      have I7 : Inv X pins σ H5 s6 := I3.call' (ch := fp) I6.os I6.base I6.hok I6.bare fun b hb => ⟨(f3 b hb).1.2.2.2.1, (f3 b hb).1.2.1, (f3 b hb).1.2.2.2.2.1, (f3 b hb).1.2.2.2.2.2⟩
      have nC : H5 s3.heap.objs.size = none := by
        have z : H5 ce.locals = none := I6.free
        rw [cL] at z
        exact z
      obtain ⟨m, hn, _⟩ := I6.loc
      have hn : s6.heap.Ns ce.locals m := hn
      rw [cL] at hn
      exact hRR D s3.heap.objs.size s6 m H5 I7 qq hn (I3.fpOk (Nat.le_refl _) nC)
    · have ti := T.item (X.blk s3 H3 scope ce fp) rfl rfl rfl hc i [] s5 _ H5 (fun _ _ => False) I5 (stat I5 n5) st5 go
      refine thnF ti fun r s6 ⟨u, hr, h6⟩ => ?_
      subst hr
      refine thnF h6 fun _ s7 ⟨x, H7, I7, r7, y7, st7, n7⟩ => ?_
      have I7' := I7.pinned (stat I7 n7) (T.obj _ _ st7)
      refine thnF (pg.run _ s7 _ H7 x u _ I7' r7 (step x H7 y7)) fun _ s8 ⟨σ8, H8, I8, hw8, q8⟩ => ?_
      refine thnF (pt.run _ s8 σ8 H8 _ I8 q8) fun b s9 ⟨H9, I9, q9⟩ => ?_
      -- the turn's end
      have fin : ∀ {s' : Shared} {H' : Hp}, Inv (X.blk s3 H3 scope ce fp) ([] ++ pinsAt fp s7.heap) σ8 H' s' → Nx H' → ∃ m, m < n ∧ ∃ i H', Inv (X.blk s3 H3 scope ce fp) [] (wipe σ (own.map (·.2))) H' s' ∧ tn i s'.heap ∧ (∀ b ∈ fp, H' b = none) ∧ W i m H' := fun {s' H'} I' nx => by
        obtain ⟨m', hm, w'⟩ := hNx H' nx
        have pin' : ∀ b ∈ fp, ∀ o, s7.heap.get? b = some o → s'.heap.get? b = some o ∧ H' b = none := fun b hb o e =>
          let z := I'.pin (b, o) (List.mem_append_right _ (List.mem_append_right _ (mem_pinsAt hb e)))
          ⟨z.1, z.2.1⟩
        have hl : (wipe σ (own.map (·.2))).length = σ8.length := by rw [← hw8, wipe_length]
        refine ⟨m', hm, i + 1, H', (I'.unpinned (pins := [])).weak hl (fun j v e => ?_), T.keep _ _ _ st7 fun b hb o e => (pin' b hb o e).1, fun b hb => ?_, w'⟩
        · rw [← hw8] at e
          exact (wipe_some e).1
        · obtain ⟨o, e, _⟩ := T.obj _ _ st7 b hb
          exact (pin' b hb o e).2
      cases b with
      | false =>
        simp only [Bool.false_eq_true, if_false] at q9 ⊢
        exact fin I9 q9
      | true =>
        simp only [if_true] at q9 ⊢
        refine thnF (pk.run _ s9 σ8 H9 _ I9 q9) fun z s10 ⟨yk, H10, I10, r10, q10⟩ => ?_
        refine thnF (pe.run _ s10 σ8 H10 _ I10 q10) fun z2 s11 ⟨yv, H11, I11, r11, xs, k, b2, ek, hD11, ka11, eb11, hz11, nx⟩ => ?_
        subst ek
        obtain rfl : z = Value.ref b2 := r10
        exact x_dictSet (X := X.blk s3 H3 scope ce fp) hu I11 hD11 ka11 eb11 hz11 r11 fun s12 I12 => fin I12 nx
  exact codeAny_compStart_dict loop (T.self X.A 0 _ _ _ st4 loop)
/-- as a value -/
theorem pe_dcX {kx vx tg iter : Expr} {ifs : List Expr} {scope : Scope} {own : List (Str × Nat)} {pos : Pos} {wi : TI} {g : TG} {tt : TT} {tk tv : TE} (hu : X.A.units < cLine) (hc : X.calm = true) (hN : X.N.Nodup) (hi : PI X tg iter wi) (ok : BlkOk X.N X.env.scope scope own)
    (hg : ∀ (s : Shared) (H : Hp) (C : Addr) (cl : List (Str × Addr)) (fp : List Addr), PG (X.blk s H scope (compEnvC scope cl C X.env) fp) tg g) (ht : ∀ (s : Shared) (H : Hp) (C : Addr) (cl : List (Str × Addr)) (fp : List Addr), PTs (X.blk s H scope (compEnvC scope cl C X.env) fp) ifs tt)
    (hk : ∀ (s : Shared) (H : Hp) (C : Addr) (cl : List (Str × Addr)) (fp : List Addr), PE (X.blk s H scope (compEnvC scope cl C X.env) fp) kx tk)
    (he : ∀ (s : Shared) (H : Hp) (C : Addr) (cl : List (Str × Addr)) (fp : List Addr), PE (X.blk s H scope (compEnvC scope cl C X.env) fp) vx tv) (hs : ∀ x, foldedSetIterable iter X.env x = pure x := by intro _; rfl) :
    PE X (.DictComp kx vx [⟨tg, iter, ifs, 0⟩] scope pos) (tDcX X.prog X.w wi g tt tk tv (own.map (·.2))) := by
  refine ⟨fun pins s σ H Q I h => ?_⟩
  rw [arm_eval_DictComp]
  refine dcX_core hu hc hN I hi ok hg ht hk he hs h fun D C s' m H' I' q hn f => ⟨m, hn, fun h'' sb => ?_⟩
  obtain ⟨f0, f1, f2, f3, f4, f5⟩ := f
  exact ⟨.ref D, H', I'.turned (t' := s'.toks) (fun b o hb e => (sb.2 b hb).trans e) f0 f1 f3 f4 f5, rfl, q⟩
end
section
variable {prog : Program} {w : World} {d : Addr} {es : Array DictEntry} {ep : Nat}
/-- a dict as what sorted reads, whatever its keys -/
theorem src_raw (lo : (d == sysModules) = false) : PySem.W.KdlSrc prog w "dict" d d es.size (fun i v => ∃ hi : i < es.size, v = es[i].key) (fun h => h.DictRaw d es ep) where
  type := fun _ hm => let ⟨o, ho, hc, _⟩ := hm; ⟨o, ho, hc.1⟩
  there := fun _ hm => ⟨hm.lt_size, hm.lt_size⟩
  keep := fun _ _ hm hk => hm.at fun o e => hk d (.inl rfl) o e
  notList := by decide
  notTuple := by decide
  hint := fun _ _ _ _ hm hq => PySem.W.kdl_hint_dict (let ⟨o, ho, hc, _⟩ := hm; ⟨o, ho, hc.1⟩) hq
  iter := fun _ _ hh hm => ⟨_, _, (fun _ _ hq => wpAny_pyIter_dict_raw lo hm hq), Walks.rawKeys hh _ d (Nat.ne_of_lt hm.lt_size) es ep, ⟨⟨_, Heap.get?_push_size _ rfl, rfl, rfl⟩, hm.push _⟩⟩
end
def encX (e : XE) : PyData := .tuple [.str e.1.1, .bool e.1.2]
theorem encX_depth (e : XE) : (encX e).depth = 1 := by simp [encX, PyData.depth, PyData.depthAll]
theorem each_zip {α β : Type} {R : α → β → Prop} : ∀ {l : List α} {m : List β}, l.length = m.length → (∀ (j : Nat) (a : α) (b : β), l[j]? = some a → m[j]? = some b → R a b) → PySem.W.EachIs R l m
  | [], [], _, _ => .nil
  | [], _ :: _, h, _ => by cases h
  | _ :: _, [], h, _ => by cases h
  | a :: l, b :: m, h, f => .cons (f 0 a b rfl rfl) (each_zip (by simpa using h) fun j x y e1 e2 => f (j + 1) x y (by simpa using e1) (by simpa using e2))
theorem each_refs {R : Value → XE → Prop} (hR : ∀ v e, R v e → v = Value.ref e.2.1) : ∀ {l : List Value} {m : List XE}, PySem.W.EachIs R l m → l = m.map fun e => Value.ref e.2.1
  | _, _, .nil => rfl
  | _, _, .cons h t => by rw [hR _ _ h, each_refs hR t]; rfl
theorem vals_refs : ∀ (m : List XE), Vals (m.map fun e => V.ref e.2.1) (m.map fun e => Value.ref e.2.1)
  | [] => .nil
  | _ :: m => .cons rfl (vals_refs m)
section
variable {X : Cx}
theorem cr_sortedX (hcalm : X.calm = true) (hu : X.A.units + 64 < cLine) : CallR X (.builtin "sorted") (fun xs H Q => ∃ (a : Addr) (o : Obj) (es : List XE), xs = [.ref a] ∧ H a = some (.frz o (DX X.prog X.w a es)) ∧ KeysAt H es ∧ es.length ≤ 1000 ∧
    ∀ (bs : List XE) (p : Addr), bs.Perm es → H p = none → Q (.ref p) (upd H p (.lst (bs.map fun e => V.ref e.2.1)))) := by
  intro pins s σ H xs us Q I r q
  obtain ⟨a, o, es, ex, hd, ka, hl, q⟩ := q
  subst ex
  obtain ⟨u, eu, rx⟩ := vals1 r
  subst eu
  cases rx
  obtain ⟨lo, hgd, hx, en, ep, hdt, hsz, ent⟩ := frzX I hd
  have raw : s.heap.DictRaw a en ep := ⟨o, hgd, hx, hdt⟩
  have h16 : en.size ≤ sizeLine := by rw [hsz]; exact Nat.le_trans hl (by decide)
  refine Calls.call_function_entry PyProof.Rows.kind_sorted PyProof.Rows.plain_sorted PyProof.Rows.entry_sorted (PyProof.Rows.args_sorted1 _) ?_
  unfold Builtin.«sorted»
  refine wpAny_bind (m := checkCount "sorted" 1 1 _) (wpAny_pure ?_)
  refine wpAny_bind (PySem.W.kdu_collect (A := X.A.in1) (src_raw lo) (I.ok.hd hcalm) raw h16 fun h' tk acc hk hacc => ?_)
  have I1 : Inv X pins σ H { s with heap := h', toks := tk } := I.kept hk
  have hal : acc.toList.length = es.length := by rw [Array.length_toList, hacc.1, hsz]
  have each : PySem.W.EachIs (fun v (e : XE) => v = Value.ref e.2.1 ∧ e ∈ es) acc.toList es := each_zip hal fun j v e e1 e2 => by
    obtain ⟨hi, ev⟩ := hacc.2 j v (by rw [← Array.getElem?_toList]; exact e1)
    obtain ⟨en', h1, h2, _⟩ := ent j e e2
    have q := Array.getElem?_eq_getElem hi
    rw [h1] at q
    rw [ev, ← Option.some.inj q]
    exact ⟨h2, List.mem_of_getElem? e2⟩
  refine wpAny_bind (wpAny_newList ?_ (by rw [hal]; exact Nat.le_trans hl (by decide)))
  have hoL : (h'.push (seqObj "list" acc.toList.toArray 0)).get? h'.objs.size = some (seqObj "list" acc.toList.toArray 0) := Heap.get?_push_size _ rfl
  show wpAny _ _ _ _ _ { s with heap := h'.push (seqObj "list" acc.toList.toArray 0), toks := tk }
  refine wpAny_bind (wpAny_holding (PySem.W.list_sort_data (A := X.A.in1) (s := { s with heap := h'.push (seqObj "list" acc.toList.toArray 0), toks := tk }) (R := fun v (e : XE) => v = Value.ref e.2.1) (enc := encX) hoL (each.mono fun _ _ z => z.1)
    (each.mono fun v e z => ?_) (PySem.W.AllAlike.of fun _ _ => by simp [PySem.W.alike, PySem.W.alikeAll, encX]) (PySem.W.Sortable.tuples fun _ => ⟨_, _, rfl⟩) (Nat.le_trans hl (by decide)) (fun b _ => ?_) fun out ho eo => ?_))
  · obtain ⟨rfl, hm⟩ := z
    obtain ⟨_, its, rv, ob, h1, h2, n, h3⟩ := (show ObjOk X.prog X.w H h' e.2.1 (.tup [.str e.1.1, .bl e.1.2]) from I1.hok _ _ (ka e hm))
    obtain ⟨u, v, rfl, ru, rv2⟩ := vals2 rv
    obtain ⟨t, rfl⟩ := ru
    cases (show v = Value.bool e.1.2 from rv2)
    exact ⟨_, .tuple (Heap.get?_push_of_some _ h1) h2 h3 (.cons (.str _ _) (.cons (.bool _) .nil)), by simp⟩
  · rw [encX_depth]
    show X.A.units + 1 + 1 + 1 < cLine
    omega
  · have eo2 := each_refs (fun _ _ z => z) eo
    have perm : (es.mergeSort (PySem.W.dataLe false encX)).Perm es := List.mergeSort_perm _ _
    generalize es.mergeSort (PySem.W.dataLe false encX) = bs at eo2 perm
    subst eo2
    obtain ⟨e', he'⟩ := PyProof.Rows.sortedHeap_at (vs := acc.toList) (out := (bs.map fun e => Value.ref e.2.1).toArray) hoL
    refine wpAny_pure ⟨_, rfl, .ref h'.objs.size, upd H h'.objs.size (.lst (bs.map fun e => V.ref e.2.1)), I1.laid (t' := tk) (fun b u e => ?_) (Nat.le_refl _)
      (show ObjOk X.prog X.w _ _ _ (.lst (bs.map fun e => V.ref e.2.1)) from ⟨by rw [List.length_map, perm.length_eq]; exact Nat.le_trans hl (by decide), _, e', vals_refs bs, by simpa using he'⟩), rfl, q bs _ perm (I1.hok.fresh (Nat.le_refl _))⟩
    have hb : b < h'.objs.size := Heap.lt_size e
    rw [PyProof.Rows.sortedHeap_old (Nat.ne_of_lt hb) (by rw [Heap.size_push]; exact Nat.lt_succ_of_lt hb)]
    exact Heap.get?_push_of_some _ e
end
end Lm
set_option Elab.async false
set_option linter.all false
set_option maxRecDepth 100000
set_option maxHeartbeats 4000000
/-! Ledmarks k83: the tool, in plain Lean. -/
namespace Lm
open PySem L2
/-- where a part's place in a pattern is: above, own, below -/
def plc0 (part : Str) : Nat := if part = "above" then 0 else if part = "own" then 1 else 2
def sameAt (p : List Bool) (part : Str) : Bool := p.getD (plc0 part) false
def isBare (t : Str) : Bool := decide (t = partOf t)
def holdsT (t : Str) (p : List Bool) : Bool := sameAt p (partOf t) == isBare t
def hitO (old m : Str) : Bool := decide (old = "any") || decide (old = m)
def ranR (m : Str) : RowD → Option Str
  | .run old th => if hitO old m then some th else none
  | _ => none
def ledR (m : Str) (p : List Bool) : RowD → Option Str
  | .lead ts old th => if hitO old m && ts.all (fun t => holdsT t p) then some th else none
  | _ => none
def sideT (h c th : Str) : Str := if th = "here" then h else if th = "came" then c else th
def joinR (h c : Str) : RowD → Option Str
  | .join here came th => if hitO here h && hitO came c then some (sideT h c th) else none
  | _ => none
def ToolD.blank (d : ToolD) : Str := d.marks.headD Str.empty
def ToolD.ran (d : ToolD) (m : Str) : Str := (d.rows.findSome? (ranR m)).getD m
def ToolD.led (d : ToolD) (m : Str) (p : List Bool) : Str := if m = d.blank then d.blank else (d.rows.findSome? (ledR m p)).getD d.blank
def ToolD.joined (d : ToolD) (h c : Str) : Str := (d.rows.findSome? (joinR h c)).getD h
def ToolD.keeps (d : ToolD) (p : List Bool) : Bool := d.parts.all fun q => sameAt p q
def ToolD.isTold (d : ToolD) (m : Str) : Bool := d.told.any fun y => decide (y = m)
def RowD.badLead (b : Str) : RowD → Bool
  | .lead _ old _ => decide (old = b)
  | _ => false
/-- a tool that its maker takes, small -/
structure ToolD.ok (d : ToolD) : Prop where
  names : ∀ m ∈ d.marks, isNm m = true
  nd : d.marks.Nodup
  ne : d.marks ≠ []
  few : d.marks.length ≤ 4
  told : d.told = d.marks.filter fun m => d.told.any fun y => decide (y = m)
  told0 : ∀ m ∈ d.told, m ∈ d.marks.tail
  parts : d.parts = partsL.filter fun m => d.parts.any fun y => decide (y = m)
  own : ("own" : Str) ∈ d.parts
  fine : ∀ r ∈ d.rows, r.fine
  mine : ∀ r ∈ d.rows, ∀ n ∈ r.names, n ∈ d.marks
  lead : ∀ r ∈ d.rows, r.badLead d.blank = false
  short : d.rows.length ≤ 10
theorem findSome_take {α β : Type} {f : α → Option β} {l : List α} {i : Nat} {x : α} {y : β} (h : ∀ z ∈ l.take i, f z = none) (hx : l[i]? = some x) (hy : f x = some y) : l.findSome? f = some y := by
  induction l generalizing i with
  | nil => cases hx
  | cons a r ih =>
    cases i with
    | zero =>
      have e : a = x := by simpa using hx
      subst e
      rw [List.findSome?_cons, hy]
    | succ i =>
      have ha : f a = none := h a (by simp)
      rw [List.findSome?_cons, ha]
      exact ih (fun z hz => h z (by rw [List.take_succ_cons]; exact List.mem_cons_of_mem _ hz)) (by simpa using hx)
theorem findSome_none {α β : Type} {f : α → Option β} {l : List α} (h : ∀ z ∈ l, f z = none) : l.findSome? f = none := List.findSome?_eq_none_iff.mpr h
section
variable {d : ToolD}
theorem ToolD.ok.blank_mem (k : d.ok) : d.blank ∈ d.marks := by
  unfold ToolD.blank
  cases e : d.marks with
  | nil => exact absurd e k.ne
  | cons a r => exact List.mem_cons_self
theorem isNm_then {z : Str} (h : isNm z = true) : z ≠ "any" ∧ z ≠ "here" ∧ z ≠ "came" := by
  unfold isNm at h
  simp only [Bool.and_eq_true, Bool.not_eq_true', decide_eq_true_eq] at h
  obtain ⟨_, _, hb, _⟩ := h
  refine ⟨fun e => ?_, fun e => ?_, fun e => ?_⟩ <;> (subst e; revert hb; decide +kernel)
theorem ToolD.ok.ran_mem (k : d.ok) {m : Str} (hm : m ∈ d.marks) : d.ran m ∈ d.marks := by
  unfold ToolD.ran
  cases e : d.rows.findSome? (ranR m) with
  | none => exact hm
  | some t =>
    obtain ⟨r, hr, hf⟩ := List.exists_of_findSome?_eq_some e
    cases r with
    | run old th =>
      have hf2 : (if hitO old m then some th else none) = some t := hf
      split at hf2
      · rw [← Option.some.inj hf2]
        refine k.mine _ hr th ?_
        have := k.fine _ hr
        exact List.mem_filter.mpr ⟨by simp [RowD.words], this.2⟩
      · cases hf2
    | lead _ _ _ => cases hf
    | join _ _ _ => cases hf
theorem ToolD.ok.led_mem (k : d.ok) {m : Str} (p : List Bool) : d.led m p ∈ d.marks := by
  unfold ToolD.led
  split
  · exact k.blank_mem
  · cases e : d.rows.findSome? (ledR m p) with
    | none => exact k.blank_mem
    | some t =>
      obtain ⟨r, hr, hf⟩ := List.exists_of_findSome?_eq_some e
      cases r with
      | lead ts old th =>
        have hf2 : (if hitO old m && ts.all (fun t => holdsT t p) then some th else none) = some t := hf
        split at hf2
        · rw [← Option.some.inj hf2]
          refine k.mine _ hr th ?_
          have := k.fine _ hr
          exact List.mem_filter.mpr ⟨by simp [RowD.words], this.2.2.2⟩
        · cases hf2
      | run _ _ => cases hf
      | join _ _ _ => cases hf
theorem ToolD.ok.joined_mem (k : d.ok) {h c : Str} (hh : h ∈ d.marks) (hc : c ∈ d.marks) : d.joined h c ∈ d.marks := by
  unfold ToolD.joined
  cases e : d.rows.findSome? (joinR h c) with
  | none => exact hh
  | some t =>
    obtain ⟨r, hr, hf⟩ := List.exists_of_findSome?_eq_some e
    cases r with
    | join here came th =>
      have hf2 : (if hitO here h && hitO came c then some (sideT h c th) else none) = some t := hf
      split at hf2
      · rw [← Option.some.inj hf2]
        unfold sideT
        split
        · exact hh
        · split
          · exact hc
          · rename_i n1 n2
            refine k.mine _ hr th ?_
            have f := (k.fine _ hr).2.2
            unfold isThen at f
            refine List.mem_filter.mpr ⟨by simp [RowD.words], ?_⟩
            rcases Bool.or_eq_true_iff.mp f with f | f
            · exact f
            · have q := of_decide_eq_true f
              rcases List.mem_cons.mp q with e | q
              · exact absurd e n1
              · exact absurd (List.mem_singleton.mp q) n2
      · cases hf2
    | run _ _ => cases hf
    | lead _ _ _ => cases hf
theorem mem_any {l : List Str} {z : Str} (h : z ∈ l) : (l.any fun y => decide (y = z)) = true := List.any_eq_true.mpr ⟨z, h, decide_eq_true rfl⟩
theorem any_mem {l : List Str} {z : Str} (h : (l.any fun y => decide (y = z)) = true) : z ∈ l := by
  obtain ⟨y, hy, e⟩ := List.any_eq_true.mp h
  rw [← of_decide_eq_true e]
  exact hy
theorem plc0_at : ∀ q ∈ partsL, orderL[plc0 q]? = some q ∧ (∀ m, m < plc0 q → orderL[m]? ≠ some q) ∧ plc0 q < 3 := by decide +kernel
end
end Lm
set_option Elab.async false
set_option linter.all false
set_option maxRecDepth 100000
set_option maxHeartbeats 4000000
/-! Ledmarks k83: isinstance of a row; loops that return at the first hit; the eight patterns. -/
namespace Lm
open PySem PySem.Spec PyProof.Rows L2
def isC (D : Str) (r : RowD) : Bool := match r with
  | .run .. => D == "Run" || D == "Row"
  | .lead .. => D == "Lead" || D == "Row"
  | .join .. => D == "Join" || D == "Row"
section
variable {X : Cx}
/-- isinstance(row, D), D of the four classes -/
theorem isi_row (T : Tx X.w X.K X.mg) (D : Str) (hD : D = "Run" ∨ D = "Lead" ∨ D = "Join" ∨ D = "Row" := by simp) :
    CallR X (.builtin "isinstance") (fun xs H Q => ∃ a r, xs = [.ref a, .ref (He.ga X.K D)] ∧ RowAt X.K H a r ∧ Q (.bl (isC D r)) H) := by
  intro pins s σ H xs us Q I rr h
  obtain ⟨a, r, e, hr, q⟩ := h
  obtain ⟨_, _, _, _, _, _, _, _, _, _, i1, i2, i3, i4, g1, g2, k1, k2, k3, k4, k5, k6, k7, k8, k9, k10, k11, k12, _⟩ := ck_split T.c
  cases r with
  | run old th =>
    obtain ⟨dx, n, h1, _⟩ := hr
    rcases hD with rfl | rfl | rfl | rfl
    · exact isi_own (w := X.w) (mg := X.mg) T.cl_Run i1 g1 g2 k1 pins s σ H xs us Q I rr ⟨a, dx, _, e, h1, q⟩
    · exact isi_own (w := X.w) (mg := X.mg) T.cl_Run i1 g1 g2 k2 pins s σ H xs us Q I rr ⟨a, dx, _, e, h1, q⟩
    · exact isi_own (w := X.w) (mg := X.mg) T.cl_Run i1 g1 g2 k3 pins s σ H xs us Q I rr ⟨a, dx, _, e, h1, q⟩
    · exact isi_own (w := X.w) (mg := X.mg) T.cl_Run i1 g1 g2 k4 pins s σ H xs us Q I rr ⟨a, dx, _, e, h1, q⟩
  | lead ts old th =>
    obtain ⟨dx, t, n, h1, _⟩ := hr
    rcases hD with rfl | rfl | rfl | rfl
    · exact isi_own (w := X.w) (mg := X.mg) T.cl_Lead i2 g1 g2 k5 pins s σ H xs us Q I rr ⟨a, dx, _, e, h1, q⟩
    · exact isi_own (w := X.w) (mg := X.mg) T.cl_Lead i2 g1 g2 k6 pins s σ H xs us Q I rr ⟨a, dx, _, e, h1, q⟩
    · exact isi_own (w := X.w) (mg := X.mg) T.cl_Lead i2 g1 g2 k7 pins s σ H xs us Q I rr ⟨a, dx, _, e, h1, q⟩
    · exact isi_own (w := X.w) (mg := X.mg) T.cl_Lead i2 g1 g2 k8 pins s σ H xs us Q I rr ⟨a, dx, _, e, h1, q⟩
  | join here came th =>
    obtain ⟨dx, n, h1, _⟩ := hr
    rcases hD with rfl | rfl | rfl | rfl
    · exact isi_own (w := X.w) (mg := X.mg) T.cl_Join i3 g1 g2 k9 pins s σ H xs us Q I rr ⟨a, dx, _, e, h1, q⟩
    · exact isi_own (w := X.w) (mg := X.mg) T.cl_Join i3 g1 g2 k10 pins s σ H xs us Q I rr ⟨a, dx, _, e, h1, q⟩
    · exact isi_own (w := X.w) (mg := X.mg) T.cl_Join i3 g1 g2 k11 pins s σ H xs us Q I rr ⟨a, dx, _, e, h1, q⟩
    · exact isi_own (w := X.w) (mg := X.mg) T.cl_Join i3 g1 g2 k12 pins s σ H xs us Q I rr ⟨a, dx, _, e, h1, q⟩
end
/-! ### a loop that returns at the first hit; its body changes nothing else -/
section
variable {J : It} {n : Nat} {G : Hp → Prop} {xs : List V} {β γ : Type} {ds : List β} {Rl : β → V → Prop} {f : β → Option γ} {p : Nat} {tb : TS} {D : Ends} {σ : L2.St} {H1 : Hp}
theorem pair_at {α β : Type} {R : α → β → Prop} {l : List α} {m : List β} (h : Paired R l m) : ∀ {i : Nat} {y : β}, m[i]? = some y → ∃ x, l[i]? = some x ∧ R x y := by
  induction h with
  | nil => intro i y e; cases e
  | cons r t ih =>
    intro i y e
    cases i with
    | zero => exact ⟨_, rfl, by rw [← Option.some.inj (show some _ = some y from e)]; exact r⟩
    | succ i => exact ih (i := i) (by simpa using e)
theorem forRet (wk : Walk J n G (YAt xs)) (pr : Paired Rl ds xs) (hn : n = xs.length) (hG : ∀ H, Same H1 H → G H)
    (hs : ∀ (i : Nat) (d : β) (x : V), ds[i]? = some d → Rl d x → ∀ (H : Hp) (v : Option V), Same H1 H → (∀ y, f d = some y → ds.findSome? f = some y) → ∀ N : L2.St → Hp → Prop, (f d = none → ∀ H', Same H H' → N (σ.set p (some x)) H') →
      tb { D with nx := N, ct := N, bk := D.nx } ((σ.set p v).set p (some x)) H)
    (hd : ∀ (H' : Hp) (v : Option V), Same H1 H' → ds.findSome? f = none → D.nx (σ.set p v) H') (h0 : ∃ v, σ = σ.set p v) : ForW J (gName p) tb D σ H1 := by
  refine for_it wk (fun i σ' H => (∃ v, σ' = σ.set p v) ∧ Same H1 H ∧ ∀ z ∈ ds.take i, f z = none) ⟨h0, Same.refl _, fun z hz => by simp at hz⟩ (fun i σ' H _ q => hG H q.2.1) ?_ ?_
  · rintro i x σ' H H' hi ⟨⟨v, rfl⟩, s, ht⟩ ⟨rfl, hx⟩
    obtain ⟨d, hd2, r⟩ := pair_at pr hx
    refine hs i d x hd2 r H' v s (fun y hy => findSome_take ht hd2 hy) _ fun hf H2 s2 => ⟨⟨some x, rfl⟩, s.trans s2, fun z hz => ?_⟩
    rw [take_snoc hd2] at hz
    rcases List.mem_append.mp hz with hz | hz
    · exact ht z hz
    · rw [List.mem_singleton.mp hz]; exact hf
  · rintro σ' H ⟨⟨v, rfl⟩, s, ht⟩
    refine hd H v s (findSome_none fun z hz => ht z ?_)
    rw [hn, ← Paired.length pr, List.take_length]
    exact hz
end
/-! ### the eight patterns -/
theorem bolB_ok {K : PySem.W.Frag} {u : Value} {bs : List Bool} (h : bolB K u bs = true) (H : Hp) : ∃ a, u = Value.ref a ∧ SqT K H a (bs.map V.bl) := by
  unfold bolB at h
  split at h
  · rename_i a
    split at h
    · rename_i c its n hk
      obtain ⟨h1, h2⟩ := He.ba h
      obtain ⟨h2, h3⟩ := He.ba h2
      refine ⟨a, rfl, .inr ⟨_, _, _, hk, ?_, rfl, of_decide_eq_true h2, ?_⟩⟩
      · rw [of_decide_eq_true h1]
      · exact He.relAll_ok h3
    · cases h
  · cases h
/-- a pattern's tuple: written, there in every heap -/
def PatV (K : PySem.W.Frag) (p : List Bool) (v : V) : Prop := ∃ a, v = .ref a ∧ ∀ H, SqT K H a (p.map V.bl)
theorem bolsB_ok {K : PySem.W.Frag} : ∀ {us : List Value} {bs : List (List Bool)}, bolsB K us bs = true → ∃ vs, Vals vs us ∧ Paired (PatV K) bs vs
  | [], [], _ => ⟨[], .nil, .nil⟩
  | [], _ :: _, h => by cases h
  | _ :: _, [], h => by cases h
  | u :: us, b :: bs, h => by
    obtain ⟨h1, h2⟩ := He.ba (show (bolB K u b && bolsB K us bs) = true from h)
    obtain ⟨vs, r, q⟩ := bolsB_ok h2
    obtain ⟨a, e, _⟩ := bolB_ok h1 (fun _ => none)
    refine ⟨.ref a :: vs, .cons e r, .cons ⟨a, rfl, fun H => ?_⟩ q⟩
    obtain ⟨a', e', t⟩ := bolB_ok h1 H
    rw [e] at e'
    cases e'
    exact t
theorem Tx.t_EIGHT {w : World} {K : PySem.W.Frag} {mg : Str → Option Value} (T : Tx w K mg) : ∃ vs, (∀ H, SqT K H (He.ga K "EIGHT") vs) ∧ Paired (PatV K) pats vs := by
  have h := (ck_split T.c).2.2.2.2.2.2.1
  unfold eightB at h
  split at h
  · rename_i c dd its n sl hk
    obtain ⟨h1, h2⟩ := He.ba h
    obtain ⟨h2, h3⟩ := He.ba h2
    obtain ⟨vs, r, q⟩ := bolsB_ok h3
    exact ⟨vs, fun H => .inr ⟨_, _, _, hk, by show Value.type c = _; rw [of_decide_eq_true h1], rfl, of_decide_eq_true h2, r⟩, q⟩
  · cases h
end Lm
set_option Elab.async false
set_option linter.all false
set_option maxRecDepth 100000
set_option maxHeartbeats 4000000
/-! Ledmarks k83: lists and tuples alike, two fors in one comprehension. -/
namespace Lm
open PySem PySem.Spec PyProof.Rows L2
section
variable {X : Cx}
def rIxQ (K : PySem.W.Frag) : R2 := fun x y H Q => ∃ p xs i v, x = .ref p ∧ y = .int i ∧ SqS K H p xs ∧ atI xs i = some v ∧ Q v H
theorem ix_seq : IxR X (rIxQ X.K) := by
  intro value slice pins s σ H x y v u Q I rx ry h hs
  obtain ⟨p, xs, i, z, e1, e2, hq, he, q⟩ := h
  rcases hq with hq | hq
  · exact ix_list value slice pins s σ H x y v u Q I rx ry ⟨p, xs, i, z, e1, e2, hq, he, q⟩ hs
  · exact ix_tup value slice pins s σ H x y v u Q I rx ry ⟨p, xs, i, z, e1, e2, hq, he, q⟩ hs
def rSlQ (K : PySem.W.Frag) : V → Option Int → Option Int → Hp → VK → Prop := fun x lo hi H Q => ∃ a xs, x = .ref a ∧ SqS K H a xs ∧ ∀ p H', Same H H' → SqS K H' p (cutV xs lo hi) → Q (.ref p) H'
theorem cutV_all {xs : List V} {lo hi : Option Int} (h1 : HT.sIx xs.length 0 lo = 0) (h2 : HT.sIx xs.length xs.length hi = xs.length) : cutV xs lo hi = xs := by
  unfold cutV
  rw [h1, h2]
  simp
theorem sl_seq : SlR X (rSlQ X.K) := by
  intro pins s σ H x v vl vu lo hi sl Q I rx hs pl pu h
  obtain ⟨a, xs, e, hq, q⟩ := h
  rcases hq with hq | hq
  · exact sl_list pins s σ H x v vl vu lo hi sl Q I rx hs pl pu ⟨a, xs, e, hq, fun p hp => q p _ (same_new hp) (.inl (SqL.of upd_same))⟩
  · exact sl_tupA pins s σ H x v vl vu lo hi sl Q I rx hs pl pu ⟨a, xs, e, hq, fun hw => q a H (Same.refl _) (by rw [cutV_all hw.1 hw.2]; exact .inr hq), fun _ p hp => q p _ (same_new hp) (.inr (SqT.of upd_same))⟩
theorem call_tupQ : CallR X (.type "tuple") (fun xs H Q => ∃ p ys, xs = [.ref p] ∧ (H p = some (.lst ys) ∨ H p = some (.tup ys)) ∧ ∀ l H', Same H H' → H' l = some (.tup ys) → Q (.ref l) H') := by
  intro pins s σ H xs us Q I r h
  obtain ⟨p, ys, e, hp, q⟩ := h
  refine call_tuple_of pins s σ H xs us Q I r ⟨p, ys, e, ?_⟩
  rcases hp with hp | hp
  · exact .inl ⟨SqL.of hp, fun l hl => q l _ (same_new hl) upd_same⟩
  · exact .inr ⟨SqT.of hp, q p H (Same.refl _) hp⟩
end
def SqP (H : Hp) (a : Addr) (xs : List V) : Prop := H a = some (.lst xs) ∨ H a = some (.tup xs)
theorem SqP.s {K : PySem.W.Frag} {H : Hp} {a : Addr} {xs : List V} (h : SqP H a xs) : SqS K H a xs := h.elim (fun h => .inl (SqL.of h)) fun h => .inr (SqT.of h)
theorem SqP.same {H H' : Hp} {a : Addr} {xs : List V} (h : SqP H a xs) (s : Same H H') : SqP H' a xs := h.elim (fun h => .inl (s _ _ h)) fun h => .inr (s _ _ h)
section
variable {X : Cx} {N ps : List Str} {sc : Scope} {iter iter1 elt : Expr} {x x1 : Str} {scope : Scope} {pos p1 p2 : Pos} {wi : TI} {wf : BF TI} {tf : BF TE}
/-- [elt for x in iter for x1 in iter1] -/
theorem plc2 (S : FnScope N ps sc) (i j : Nat) (hi : PI X (.Name x p1) iter wi) (hi1 : ∀ (s : Shared) (H : Hp) (C : Addr) (cl : List (Str × Addr)) (fp : List Addr), PI (X.blk s H scope (compEnvC scope cl C X.env) fp) (.Name x1 p2) iter1 (wf s H C cl fp))
    (he : ∀ (s : Shared) (H : Hp) (C : Addr) (cl : List (Str × Addr)) (fp : List Addr), PE (X.blk s H scope (compEnvC scope cl C X.env) fp) elt (tf s H C cl fp))
    (ok : blkC N sc scope [(x, i), (x1, j)] = true := by decide +kernel) (eN : X.N = N := by rfl) (eS : X.env.scope = sc := by rfl) (hx : X.N[i]? = some x := by rfl) (hx1 : X.N[j]? = some x1 := by rfl) (hc : X.calm = true := by rfl) (hf : ∀ s H C cl fp, tf s H C cl fp = bf X tf := by intros; rfl) (hf2 : ∀ s H C cl fp, wf s H C cl fp = bf X wf := by intros; rfl)
    (hL : ∀ (cl : List (Str × Addr)) (C : Addr), (compEnvC scope cl C X.env).scope.names.lookup x = some .local := by intro _ _; rfl) (hL1 : ∀ (cl : List (Str × Addr)) (C : Addr), (compEnvC scope cl C X.env).scope.names.lookup x1 = some .local := by intro _ _; rfl) (hs : ∀ y, foldedSetIterable iter X.env y = pure y := by intro _; rfl) (hs1 : ∀ env y, foldedSetIterable iter1 env y = pure y := by intro _ _; rfl) :
    PE X (.ListComp elt [⟨.Name x p1, iter, [], 0⟩, ⟨.Name x1 p2, iter1, [], 0⟩] scope pos) (tLc2 wi (gName i) tYes (bf X wf) (gName j) tYes (bf X tf) [i, j] [j]) :=
  have hN : X.N.Nodup := eN ▸ S.nd
  pe_lc2 (own := [(x, i), (x1, j)]) (vs1 := [j]) hc hN hi (by rw [eN, eS]; exact blkOk_by ok) (by simp) (fun s H C cl fp => pg_name (i := i) hN hx (.inl (hL cl C)) (.inr (hL cl C))) (fun _ _ _ _ _ => pts_nil)
    (fun s H C cl fp => by rw [← hf2 s H C cl fp]; exact hi1 s H C cl fp) (fun s H C cl fp => pg_name (i := j) hN hx1 (.inl (hL1 cl C)) (.inr (hL1 cl C))) (fun _ _ _ _ _ => pts_nil) (fun s H C cl fp => by rw [← hf s H C cl fp]; exact he s H C cl fp) hs hs1
end
theorem r_wipe2 (σ : L2.St) (v w : Nat) : wipe σ [v, w] = (σ.set w none).set v none := rfl
def LcW2 (J : It) (g : TG) (tt : TT) (wi1 : TI) (g1 : TG) (tt1 : TT) (te : TE) (vs vs1 : List Nat) (σ : L2.St) (H1 : Hp) (D : Addr) (Qd : Hp → Prop) : Prop := ∃ W : Nat → Nat → Hp → Prop, (∃ m, W 0 m (upd H1 D (.lst []))) ∧ ∀ i m H, W i m H →
  (J.stop i H ∧ Qd H) ∨ (J.go i H ∧ ∃ Nx : Hp → Prop, (∀ H', Nx H' → ∃ m', m' < m ∧ W (i + 1) m' H') ∧ ∀ x H', J.yld i H x H' → g x (wipe σ vs) H' fun σ2 H2 => wipe σ2 vs = wipe σ vs ∧ tt σ2 H2 fun b H3 =>
    if b = true then wi1 σ2 H3 fun J1 H4 => ∃ W1 : Nat → Nat → Hp → Prop, (∃ m, W1 0 m H4) ∧ ∀ j k H, W1 j k H →
      (J1.stop j H ∧ Nx H) ∨ (J1.go j H ∧ ∃ Nx1 : Hp → Prop, (∀ H', Nx1 H' → ∃ k', k' < k ∧ W1 (j + 1) k' H') ∧ ∀ x H', J1.yld j H x H' → g1 x (wipe σ2 vs1) H' fun σ3 H5 => wipe σ3 vs1 = wipe σ2 vs1 ∧ tt1 σ3 H5 fun b H6 =>
        if b = true then te σ3 H6 fun y H7 => ∃ acc, H7 D = some (.lst acc) ∧ acc.length < sizeLine ∧ Nx1 (upd H7 D (.lst (acc ++ [y]))) else Nx1 H6)
    else Nx H3)
theorem r_tLc2 (wi : TI) (g : TG) (tt : TT) (wi1 : TI) (g1 : TG) (tt1 : TT) (te : TE) (vs vs1 : List Nat) (σ : L2.St) (H : Hp) (Q : VK) : tLc2 wi g tt wi1 g1 tt1 te vs vs1 σ H Q = wi σ H fun J H1 => ∀ D, H1 D = none → LcW2 J g tt wi1 g1 tt1 te vs vs1 σ H1 D fun H' => Q (.ref D) H' := rfl
section
variable {J : It} {n : Nat} {G : Hp → Prop} {xs : List V} {g : TG} {tt tt1 : TT} {wi1 : TI} {g1 : TG} {te : TE} {vs vs1 : List Nat} {σ : L2.St} {H1 : Hp} {D : Addr} {Qd : Hp → Prop} {B : Nat}
/-- both fors; the new list is F of what was walked: A x the inner items' results for x -/
theorem lc2W (wk : Walk J n G (YAt xs)) (hn : n = xs.length) (hz : xs.length * B ≤ 1000) (hD : H1 D = none) (hG : ∀ H, Same H1 H → G H) (A : V → List V) (hA : ∀ x ∈ xs, (A x).length ≤ B)
    (hs : ∀ x ∈ xs, ∀ H (acc : List V), Same H1 H → H D = some (.lst acc) → ∀ Nx : Hp → Prop, (∀ H', Same H1 H' → H' D = some (.lst (acc ++ A x)) → Nx H') → acc.length + (A x).length ≤ 1000 →
      g x (wipe σ vs) H fun σ2 H2 => wipe σ2 vs = wipe σ vs ∧ tt σ2 H2 fun b H3 => if b = true then wi1 σ2 H3 fun J1 H4 => ∃ W1 : Nat → Nat → Hp → Prop, (∃ m, W1 0 m H4) ∧ ∀ j k H, W1 j k H →
      (J1.stop j H ∧ Nx H) ∨ (J1.go j H ∧ ∃ Nx1 : Hp → Prop, (∀ H', Nx1 H' → ∃ k', k' < k ∧ W1 (j + 1) k' H') ∧ ∀ x H', J1.yld j H x H' → g1 x (wipe σ2 vs1) H' fun σ3 H5 => wipe σ3 vs1 = wipe σ2 vs1 ∧ tt1 σ3 H5 fun b H6 =>
        if b = true then te σ3 H6 fun y H7 => ∃ acc, H7 D = some (.lst acc) ∧ acc.length < sizeLine ∧ Nx1 (upd H7 D (.lst (acc ++ [y]))) else Nx1 H6) else Nx H3)
    (hd : ∀ H', Same H1 H' → H' D = some (.lst (xs.flatMap A)) → Qd H') : LcW2 J g tt wi1 g1 tt1 te vs vs1 σ H1 D Qd := by
  have fl : ∀ l : List V, (∀ x ∈ l, x ∈ xs) → (l.flatMap A).length ≤ l.length * B := by
    intro l
    induction l with
    | nil => intro _; simp
    | cons a r ih =>
      intro h
      rw [List.flatMap_cons, List.length_append, List.length_cons, Nat.succ_mul]
      have h1 := hA a (h a List.mem_cons_self)
      have h2 := ih fun x hx => h x (List.mem_cons_of_mem _ hx)
      omega
  refine ⟨fun i m H => m = n - i ∧ i ≤ n ∧ Same H1 H ∧ H D = some (.lst ((xs.take i).flatMap A)), ⟨n, by simp, Nat.zero_le _, same_new hD, upd_same⟩, ?_⟩
  rintro i m H ⟨rfl, hi, s, e⟩
  by_cases hlt : i < n
  · refine .inr ⟨wk.goes i H hlt (hG H s), fun H' => Same H1 H' ∧ H' D = some (.lst ((xs.take (i + 1)).flatMap A)), fun H' q => ⟨n - (i + 1), by omega, rfl, hlt, q⟩, fun x H' y => ?_⟩
    obtain ⟨rfl, hx⟩ := wk.yields i H x H' hlt (hG H s) y
    have tk := take_snoc hx
    refine hs x (List.mem_of_getElem? hx) _ _ s e _ (fun H2 s2 e2 => ⟨s2, ?_⟩) ?_
    · rw [tk, List.flatMap_append, List.flatMap_cons, List.flatMap_nil, List.append_nil]
      exact e2
    · have h3 := fl (xs.take (i + 1)) fun x hx => List.mem_of_mem_take hx
      rw [tk, List.flatMap_append, List.flatMap_cons, List.flatMap_nil, List.append_nil, List.length_append, List.length_append, List.length_singleton, List.length_take] at h3
      have h4 : (min i xs.length + 1) * B ≤ xs.length * B := Nat.mul_le_mul_right B (by omega)
      omega
  · have ei : i = n := by omega
    subst ei
    refine .inl ⟨wk.stops H (hG H s), hd H s ?_⟩
    rw [e, hn, List.take_length]
/-- the inner for over a tuple that stays, f of each -/
theorem lc2I {K : PySem.W.Frag} {a : Addr} {ns : List V} {H4 : Hp} {acc : List V} {Nx : Hp → Prop} {q : Nat} {σ2 : L2.St} {f : V → V} (ha : H4 a = some (.tup ns)) (sD : Same H1 H4) (hD : H1 D = none) (eD : H4 D = some (.lst acc)) (hl : acc.length + ns.length ≤ 1000)
    (hN : ∀ H', Same H1 H' → H' D = some (.lst (acc ++ ns.map f)) → Nx H') (ha1 : H1 a = some (.tup ns))
    (hs : ∀ x ∈ ns, ∀ H (Ky : V → Hp → Prop) (Kn : Hp → Prop), Same H1 H → (∀ H', Same H H' → Ky (f x) H') → g1 x (wipe σ2 vs1) H fun σ3 H5 => wipe σ3 vs1 = wipe σ2 vs1 ∧ tt1 σ3 H5 fun b H6 => if b = true then te σ3 H6 Ky else Kn H6) :
    ∃ W1 : Nat → Nat → Hp → Prop, (∃ m, W1 0 m H4) ∧ ∀ j k H, W1 j k H →
      ((Itt K a).stop j H ∧ Nx H) ∨ ((Itt K a).go j H ∧ ∃ Nx1 : Hp → Prop, (∀ H', Nx1 H' → ∃ k', k' < k ∧ W1 (j + 1) k' H') ∧ ∀ x H', (Itt K a).yld j H x H' → g1 x (wipe σ2 vs1) H' fun σ3 H5 => wipe σ3 vs1 = wipe σ2 vs1 ∧ tt1 σ3 H5 fun b H6 =>
        if b = true then te σ3 H6 fun y H7 => ∃ acc, H7 D = some (.lst acc) ∧ acc.length < sizeLine ∧ Nx1 (upd H7 D (.lst (acc ++ [y]))) else Nx1 H6) := by
  have wk : Walk (Itt K a) ns.length (fun H => SqT K H a ns) (YAt ns) := walk_tup
  refine ⟨fun j k H => k = ns.length - j ∧ j ≤ ns.length ∧ Same H1 H ∧ H D = some (.lst (acc ++ (ns.take j).map f)), ⟨ns.length, by simp, Nat.zero_le _, sD, by simpa using eD⟩, ?_⟩
  rintro j k H ⟨rfl, hj, s, e⟩
  have hG : SqT K H a ns := SqT.of (s _ _ ha1)
  by_cases hlt : j < ns.length
  · refine .inr ⟨wk.goes j H hlt hG, fun H' => Same H1 H' ∧ H' D = some (.lst (acc ++ (ns.take (j + 1)).map f)), fun H' q => ⟨ns.length - (j + 1), by omega, rfl, hlt, q⟩, fun x H' y => ?_⟩
    obtain ⟨rfl, hx⟩ := wk.yields j H x H' hlt hG y
    refine hs x (List.mem_of_getElem? hx) H' _ _ s fun H7 s7 => ⟨_, s7 _ _ e, ?_, fun b o eb => ?_, ?_⟩
    · rw [List.length_append, List.length_map, List.length_take]
      exact len_lt (by omega)
    · rw [upd_ne (ne_of_none eb hD)]
      exact s7 _ _ (s _ _ eb)
    · rw [upd_same, take_snoc hx, List.map_append, List.map_cons, List.map_nil, List.append_assoc]
  · have ej : j = ns.length := by omega
    subst ej
    refine .inl ⟨wk.stops H hG, hN H s ?_⟩
    rw [e, List.take_length]
end
end Lm
set_option Elab.async false
set_option linter.all false
set_option maxRecDepth 100000
set_option maxHeartbeats 4000000
/-! Ledmarks k83: comprehensions whose target is a pair. -/
namespace Lm
open PySem PySem.Spec PyProof.Rows L2
theorem cx_w {CX : CXT} {P : Program} {w : World} {K : PySem.W.Frag} {mg : Str → Option Value} {base : Heap} {N : List Str} {qual : Str} {scope : Scope} {f : Addr} {cd : Value} {A : Around} {outer : List Env} {s : Shared} {H : Hp} {E : XK} :
    (cxOf CX P w K mg base N qual scope f cd A outer s H E).w = w := rfl
theorem cx_P {CX : CXT} {P : Program} {w : World} {K : PySem.W.Frag} {mg : Str → Option Value} {base : Heap} {N : List Str} {qual : Str} {scope : Scope} {f : Addr} {cd : Value} {A : Around} {outer : List Env} {s : Shared} {H : Hp} {E : XK} :
    (cxOf CX P w K mg base N qual scope f cd A outer s H E).prog = P := rfl
section
variable {X : Cx} {N ps : List Str} {sc : Scope} {iter elt c : Expr} {x y : Str} {scope : Scope} {pos p1 p2 pt : Pos} {kk : Nat} {wi : TI} {tf : BF TE} {cf : BF TT}
abbrev gPr (K : PySem.W.Frag) (i j : Nat) : TG := gTup K 2 (gCons (gName i) (gCons (gName j) gNil))
/-- [elt for x, y in iter] -/
theorem plcU (S : FnScope N ps sc) (i j : Nat) (hi : PI X (.Tuple [.Name x p1, .Name y p2] kk pt) iter wi)
    (he : ∀ (s : Shared) (H : Hp) (C : Addr) (cl : List (Str × Addr)) (fp : List Addr), PE (X.blk s H scope (compEnvC scope cl C X.env) fp) elt (tf s H C cl fp))
    (ok : blkC N sc scope [(x, i), (y, j)] = true := by decide +kernel) (eN : X.N = N := by rfl) (eS : X.env.scope = sc := by rfl) (hx : X.N[i]? = some x := by rfl) (hy : X.N[j]? = some y := by rfl) (hc : X.calm = true := by rfl) (hf : ∀ s H C cl fp, tf s H C cl fp = bf X tf := by intros; rfl)
    (hL : ∀ (cl : List (Str × Addr)) (C : Addr), (compEnvC scope cl C X.env).scope.names.lookup x = some .local := by intro _ _; rfl) (hL1 : ∀ (cl : List (Str × Addr)) (C : Addr), (compEnvC scope cl C X.env).scope.names.lookup y = some .local := by intro _ _; rfl) (hs : ∀ y, foldedSetIterable iter X.env y = pure y := by intro _; rfl) :
    PE X (.ListComp elt [⟨.Tuple [.Name x p1, .Name y p2] kk pt, iter, [], 0⟩] scope pos) (tLc wi (gPr X.K i j) tYes (bf X tf) [i, j]) :=
  have hN : X.N.Nodup := eN ▸ S.nd
  pe_lc (own := [(x, i), (y, j)]) hc hN hi (by rw [eN, eS]; exact blkOk_by ok) (fun s H C cl fp => pg_tup hc (pgs_cons (pg_name (i := i) hN hx (.inl (hL cl C)) (.inr (hL cl C))) (pgs_cons (pg_name (i := j) hN hy (.inl (hL1 cl C)) (.inr (hL1 cl C))) pgs_nil))) (fun _ _ _ _ _ => pts_nil) (fun s H C cl fp => by rw [← hf s H C cl fp]; exact he s H C cl fp) hs
/-- [elt for x, y in iter if c] -/
theorem plcUI (S : FnScope N ps sc) (i j : Nat) (hi : PI X (.Tuple [.Name x p1, .Name y p2] kk pt) iter wi)
    (ht : ∀ (s : Shared) (H : Hp) (C : Addr) (cl : List (Str × Addr)) (fp : List Addr), PT (X.blk s H scope (compEnvC scope cl C X.env) fp) c (cf s H C cl fp))
    (he : ∀ (s : Shared) (H : Hp) (C : Addr) (cl : List (Str × Addr)) (fp : List Addr), PE (X.blk s H scope (compEnvC scope cl C X.env) fp) elt (tf s H C cl fp))
    (ok : blkC N sc scope [(x, i), (y, j)] = true := by decide +kernel) (eN : X.N = N := by rfl) (eS : X.env.scope = sc := by rfl) (hx : X.N[i]? = some x := by rfl) (hy : X.N[j]? = some y := by rfl) (hc : X.calm = true := by rfl) (hf : ∀ s H C cl fp, tf s H C cl fp = bf X tf := by intros; rfl) (hf2 : ∀ s H C cl fp, cf s H C cl fp = bf X cf := by intros; rfl)
    (hL : ∀ (cl : List (Str × Addr)) (C : Addr), (compEnvC scope cl C X.env).scope.names.lookup x = some .local := by intro _ _; rfl) (hL1 : ∀ (cl : List (Str × Addr)) (C : Addr), (compEnvC scope cl C X.env).scope.names.lookup y = some .local := by intro _ _; rfl) (hs : ∀ y, foldedSetIterable iter X.env y = pure y := by intro _; rfl) :
    PE X (.ListComp elt [⟨.Tuple [.Name x p1, .Name y p2] kk pt, iter, [c], 0⟩] scope pos) (tLc wi (gPr X.K i j) (bf X cf) (bf X tf) [i, j]) :=
  have hN : X.N.Nodup := eN ▸ S.nd
  pe_lc (own := [(x, i), (y, j)]) hc hN hi (by rw [eN, eS]; exact blkOk_by ok) (fun s H C cl fp => pg_tup hc (pgs_cons (pg_name (i := i) hN hx (.inl (hL cl C)) (.inr (hL cl C))) (pgs_cons (pg_name (i := j) hN hy (.inl (hL1 cl C)) (.inr (hL1 cl C))) pgs_nil))) (fun s H C cl fp => pts_one (by rw [← hf2 s H C cl fp]; exact ht s H C cl fp)) (fun s H C cl fp => by rw [← hf s H C cl fp]; exact he s H C cl fp) hs
end
section
variable {X : Cx} {N ps : List Str} {sc : Scope} {iter elt c : Expr} {x y z : Str} {scope : Scope} {pos p1 p2 pt pz spos : Pos} {kk : Nat} {wi : TI} {tf : BF TE} {cf : BF TT}
/-- z = [elt for x in iter] -/
theorem psl (S : FnScope N ps sc) (k i : Nat) (hi : PI X (.Name x p1) iter wi)
    (he : ∀ (s : Shared) (H : Hp) (C : Addr) (cl : List (Str × Addr)) (fp : List Addr), PE (X.blk s H scope (compEnvC scope cl C X.env) fp) elt (tf s H C cl fp))
    (ok : blkC N sc scope [(x, i)] = true := by decide +kernel) (eN : X.N = N := by rfl) (eS : X.env.scope = sc := by rfl) (hz : X.N[k]? = some z := by rfl) (hzl : X.env.scope.names.lookup z = some .local := by rfl) (hx : X.N[i]? = some x := by rfl) (hc : X.calm = true := by rfl) (hf : ∀ s H C cl fp, tf s H C cl fp = bf X tf := by intros; rfl)
    (hsw : swapsWith (.ListComp elt [⟨.Name x p1, iter, [], 0⟩] scope pos) (some (.Name z pz)) spos.line X.env = pure true := by rfl)
    (hL : ∀ (cl : List (Str × Addr)) (C : Addr), (compEnvC scope cl C X.env).scope.names.lookup x = some .local := by intro _ _; rfl) (hs : ∀ y, foldedSetIterable iter X.env y = pure y := by intro _; rfl) :
    PS X (.Assign [.Name z pz] (.ListComp elt [⟨.Name x p1, iter, [], 0⟩] scope pos) spos) (tAsg (tLc wi (gName i) tYes (bf X tf) [i]) (gName k)) :=
  have hN : X.N.Nodup := eN ▸ S.nd
  ps_setLc (own := [(x, i)]) hc hN hz hzl hsw hi (by rw [eN, eS]; exact blkOk_by ok) (fun s H C cl fp => pg_name (i := i) hN hx (.inl (hL cl C)) (.inr (hL cl C))) (fun _ _ _ _ _ => pts_nil) (fun s H C cl fp => by rw [← hf s H C cl fp]; exact he s H C cl fp) hs
/-- z = [elt for x in iter if c] -/
theorem pslI (S : FnScope N ps sc) (k i : Nat) (hi : PI X (.Name x p1) iter wi) (ht : ∀ (s : Shared) (H : Hp) (C : Addr) (cl : List (Str × Addr)) (fp : List Addr), PT (X.blk s H scope (compEnvC scope cl C X.env) fp) c (cf s H C cl fp))
    (he : ∀ (s : Shared) (H : Hp) (C : Addr) (cl : List (Str × Addr)) (fp : List Addr), PE (X.blk s H scope (compEnvC scope cl C X.env) fp) elt (tf s H C cl fp))
    (ok : blkC N sc scope [(x, i)] = true := by decide +kernel) (eN : X.N = N := by rfl) (eS : X.env.scope = sc := by rfl) (hz : X.N[k]? = some z := by rfl) (hzl : X.env.scope.names.lookup z = some .local := by rfl) (hx : X.N[i]? = some x := by rfl) (hc : X.calm = true := by rfl) (hf : ∀ s H C cl fp, tf s H C cl fp = bf X tf := by intros; rfl) (hf2 : ∀ s H C cl fp, cf s H C cl fp = bf X cf := by intros; rfl)
    (hsw : swapsWith (.ListComp elt [⟨.Name x p1, iter, [c], 0⟩] scope pos) (some (.Name z pz)) spos.line X.env = pure true := by rfl)
    (hL : ∀ (cl : List (Str × Addr)) (C : Addr), (compEnvC scope cl C X.env).scope.names.lookup x = some .local := by intro _ _; rfl) (hs : ∀ y, foldedSetIterable iter X.env y = pure y := by intro _; rfl) :
    PS X (.Assign [.Name z pz] (.ListComp elt [⟨.Name x p1, iter, [c], 0⟩] scope pos) spos) (tAsg (tLc wi (gName i) (bf X cf) (bf X tf) [i]) (gName k)) :=
  have hN : X.N.Nodup := eN ▸ S.nd
  ps_setLc (own := [(x, i)]) hc hN hz hzl hsw hi (by rw [eN, eS]; exact blkOk_by ok) (fun s H C cl fp => pg_name (i := i) hN hx (.inl (hL cl C)) (.inr (hL cl C))) (fun s H C cl fp => pts_one (by rw [← hf2 s H C cl fp]; exact ht s H C cl fp)) (fun s H C cl fp => by rw [← hf s H C cl fp]; exact he s H C cl fp) hs
/-- z = [elt for x, y in iter if c] -/
theorem psUI (S : FnScope N ps sc) (k i j : Nat) (hi : PI X (.Tuple [.Name x p1, .Name y p2] kk pt) iter wi)
    (ht : ∀ (s : Shared) (H : Hp) (C : Addr) (cl : List (Str × Addr)) (fp : List Addr), PT (X.blk s H scope (compEnvC scope cl C X.env) fp) c (cf s H C cl fp))
    (he : ∀ (s : Shared) (H : Hp) (C : Addr) (cl : List (Str × Addr)) (fp : List Addr), PE (X.blk s H scope (compEnvC scope cl C X.env) fp) elt (tf s H C cl fp))
    (ok : blkC N sc scope [(x, i), (y, j)] = true := by decide +kernel) (eN : X.N = N := by rfl) (eS : X.env.scope = sc := by rfl) (hz : X.N[k]? = some z := by rfl) (hzl : X.env.scope.names.lookup z = some .local := by rfl) (hx : X.N[i]? = some x := by rfl) (hy : X.N[j]? = some y := by rfl) (hc : X.calm = true := by rfl) (hf : ∀ s H C cl fp, tf s H C cl fp = bf X tf := by intros; rfl) (hf2 : ∀ s H C cl fp, cf s H C cl fp = bf X cf := by intros; rfl)
    (hsw : swapsWith (.ListComp elt [⟨.Tuple [.Name x p1, .Name y p2] kk pt, iter, [c], 0⟩] scope pos) (some (.Name z pz)) spos.line X.env = pure true := by rfl)
    (hL : ∀ (cl : List (Str × Addr)) (C : Addr), (compEnvC scope cl C X.env).scope.names.lookup x = some .local := by intro _ _; rfl) (hL1 : ∀ (cl : List (Str × Addr)) (C : Addr), (compEnvC scope cl C X.env).scope.names.lookup y = some .local := by intro _ _; rfl) (hs : ∀ y, foldedSetIterable iter X.env y = pure y := by intro _; rfl) :
    PS X (.Assign [.Name z pz] (.ListComp elt [⟨.Tuple [.Name x p1, .Name y p2] kk pt, iter, [c], 0⟩] scope pos) spos) (tAsg (tLc wi (gPr X.K i j) (bf X cf) (bf X tf) [i, j]) (gName k)) :=
  have hN : X.N.Nodup := eN ▸ S.nd
  ps_setLc (own := [(x, i), (y, j)]) hc hN hz hzl hsw hi (by rw [eN, eS]; exact blkOk_by ok) (fun s H C cl fp => pg_tup hc (pgs_cons (pg_name (i := i) hN hx (.inl (hL cl C)) (.inr (hL cl C))) (pgs_cons (pg_name (i := j) hN hy (.inl (hL1 cl C)) (.inr (hL1 cl C))) pgs_nil))) (fun s H C cl fp => pts_one (by rw [← hf2 s H C cl fp]; exact ht s H C cl fp)) (fun s H C cl fp => by rw [← hf s H C cl fp]; exact he s H C cl fp) hs
end
section
variable {J : It} {n : Nat} {G : Hp → Prop} {xs : List V} {g : TG} {tt : TT} {te : TE} {vs : List Nat} {σ : L2.St} {H1 : Hp} {D : Addr} {Qd : Hp → Prop} {β : Type} {ds : List β} {R0 : β → V → Prop}
/-- a comprehension over things that stand for data: the kept ones' results stand in Rl to the data -/
theorem lcWK (wk : Walk J n G (YAt xs)) (hn : n = xs.length) (hz : xs.length ≤ 1000) (hD : H1 D = none) (pr : Paired R0 ds xs) (keep : β → Bool) (Rl : β → V → Hp → Prop)
    (mono : ∀ x y H H', Ex [D] H H' → Imm H H' → Rl x y H → Rl x y H') (hG : ∀ H, Same H1 H → G H)
    (hs : ∀ (i : Nat) (d : β) (x : V), ds[i]? = some d → R0 d x → ∀ H, Same H1 H → H D ≠ none → ∀ (Ky : V → Hp → Prop) (Kn : Hp → Prop), (keep d = true → ∀ y H', Same H H' → Rl d y H' → Ky y H') → (keep d = false → ∀ H', Same H H' → Kn H') →
      g x (wipe σ vs) H fun σ2 H2 => wipe σ2 vs = wipe σ vs ∧ tt σ2 H2 fun b H3 => if b = true then te σ2 H3 Ky else Kn H3)
    (hd : ∀ H' ys, Same H1 H' → H' D = some (.lst ys) → Paired (fun x y => Rl x y H') (ds.filter keep) ys → Qd H') :
    LcW J g tt te vs σ H1 D Qd := by
  refine lc_it wk (fun i H => Same H1 H ∧ ∃ ys, H D = some (.lst ys) ∧ ys.length ≤ i ∧ Paired (fun x y => Rl x y H) ((ds.take i).filter keep) ys) ⟨same_new hD, [], upd_same, Nat.le_refl _, ?_⟩ (fun i H _ p => hG H p.1) ?_ ?_
  · rw [List.take_zero]
    exact .nil
  · rintro i x H H' hi ⟨s, ys, e, hl, p⟩ ⟨rfl, hx⟩
    obtain ⟨d, hd2, r0⟩ := pair_at pr hx
    refine hs i d x hd2 r0 _ s (by rw [e]; exact Option.some_ne_none _) _ _ (fun hk y H' s' r => ⟨ys, s' _ _ e, by have : ys.length < sizeLine := Nat.lt_of_le_of_lt hl (Nat.lt_trans (by omega : i < 1000) (by decide)); exact this, fun b o eb => ?_, ys ++ [y], upd_same, by rw [List.length_append]; exact Nat.add_le_add_right hl 1, ?_⟩) (fun hk H' s' => ⟨s.trans s', ys, s' _ _ e, Nat.le_succ_of_le hl, ?_⟩)
    · rw [upd_ne (ne_of_none eb hD)]
      exact s' _ _ (s _ _ eb)
    · have i2 : Imm H' (upd H' D (.lst (ys ++ [y]))) := imm_put (s' _ _ e) rfl
      have e2 : Ex [D] H' (upd H' D (.lst (ys ++ [y]))) := Ex.put (by simp)
      rw [take_snoc hd2, List.filter_append, List.filter_cons_of_pos hk, List.filter_nil]
      exact Paired.snoc (L2.Paired.mapP p fun a b z => mono a b _ _ (Ex.trans (Ex.of_same s') e2) ((Imm.of_same s').trans i2) z) (mono _ _ _ _ e2 i2 r)
    · rw [take_snoc hd2, List.filter_append, List.filter_cons_of_neg (by rw [hk]; exact Bool.false_ne_true), List.filter_nil, List.append_nil]
      exact L2.Paired.mapP p fun a b z => mono a b _ _ (Ex.of_same s') (Imm.of_same s') z
  · rintro H ⟨s, ys, e, hl, p⟩
    refine hd H ys s e ?_
    rw [hn, ← Paired.length pr, List.take_of_length_le (Nat.le_refl _)] at p
    exact p
theorem lcWD (wk : Walk J n G (YAt xs)) (hn : n = xs.length) (hz : xs.length ≤ 1000) (hD : H1 D = none) (pr : Paired R0 ds xs) (Rl : β → V → Hp → Prop)
    (mono : ∀ x y H H', Ex [D] H H' → Imm H H' → Rl x y H → Rl x y H') (hG : ∀ H, Same H1 H → G H)
    (hs : ∀ (i : Nat) (d : β) (x : V), ds[i]? = some d → R0 d x → ∀ H, Same H1 H → H D ≠ none → ∀ (Ky : V → Hp → Prop), (∀ y H', Same H H' → Rl d y H' → Ky y H') →
      g x (wipe σ vs) H fun σ2 H2 => wipe σ2 vs = wipe σ vs ∧ te σ2 H2 Ky)
    (hd : ∀ H' ys, Same H1 H' → H' D = some (.lst ys) → Paired (fun x y => Rl x y H') ds ys → Qd H') :
    LcW J g tYes te vs σ H1 D Qd :=
  lcWK wk hn hz hD pr (fun _ => true) Rl mono hG (fun i d x hi r H s nd Ky Kn ky _ => hs i d x hi r H s nd Ky fun y H' s' r => ky rfl y H' s' r) fun H' ys s e p => hd H' ys s e (by rw [List.filter_eq_self.mpr (fun _ _ => rfl)] at p; exact p)
end
end Lm
set_option Elab.async false
set_option linter.all false
set_option maxRecDepth 100000
set_option maxHeartbeats 4000000
namespace Lm
open PySem PySem.Spec PyProof.Rows L2
local macro_rules | `(tactic| walk_at "rd") => `(tactic| simp (config := {failIfUnchanged := false}) only [tVar, tC, tIsN, tNotN, tB, tAnd, tOr, tNot, tAndV, tOrV, tNotV, tIf, tNext, tSeq, tBreak, tCont, tDrop, tRet, tRetN, tIfS, gName, gNil, gCons, gTup, tAsg, tPar,
  iList, iTup, iRng1, iRng2, r_tFor, tFmt, tJs, or_false, false_or, exists_false, r_tLc, r_tDc, bf, iSeq, r_wipe0, r_wipe1, tOp, tUn, rI, rI0, rU, rEq, rNe, tTest, tChain, tFld, sFld, tNil, tCons, tTup, tLst, tCall, tMeth, tMake, tCB, tNoPart, tPart, tSl, rIxL, rIxT, rSlL, rIn, tBM0, tBM, rAppend, rExtend, rPop, rPopAt, rAny, rAll, tYes, iStr, rNewStrs, tM0, tM1, StX.tStar,
  L2.start, List.map_cons, List.map_nil, List.length_cons, List.length_nil, Nat.zero_add, Nat.reduceAdd, Nat.reduceSub, List.replicate_succ, List.replicate_zero, List.cons_append, List.nil_append, List.append_nil, List.set_cons_zero, List.set_cons_succ,
  List.getElem?_cons_zero, List.getElem?_cons_succ, Option.some.injEq, exists_eq_left', exists_eq_left, exists_eq', exists_eq, exists_and_left, exists_and_right, and_assoc, List.cons.injEq, V.str.injEq, V.ref.injEq, V.bl.injEq, V.int.injEq, V.ty.injEq, and_true, true_and, reduceCtorEq, false_and, and_false,
  Bool.not_true, Bool.not_false, Bool.false_eq_true, reduceIte, Bool.not_eq_true', decide_eq_true_eq, upd_same, cx_K, HO.ins.injEq, HO.tup.injEq, HO.lst.injEq, HO.dK.injEq, lk_Run_old, lk_Run_then, lk_Run_names, lm_Run_str, lk_Lead_tests, lk_Lead_old, lk_Lead_then, lk_Lead_names, lm_Lead_str, lk_Join_here, lk_Join_came, lk_Join_then, lk_Join_names, lm_Join_str, lk_Tool_marks, lk_Tool_told, lk_Tool_parts, lk_Tool_clears, lk_Tool_rows, lk_Tool_blank, lm_Tool_need_mark, lm_Tool_is_told, lm_Tool_ran, lm_Tool_led, lm_Tool_joined, lm_Tool_keeps, lm_Tool_need_row, lm_Tool_but, lm_Tool_without, lm_Tool_heeding, lm_Tool_len, lm_Tool_eq, lm_Tool_str, lk_Single_tool, lk_Single_begin, lm_Single_machine_steps, lm_Single_led, lm_Single_joined, lk_Ways_steps, lk_Ways_machine, lk_Ways_coming, lk_Ways_hearings, lk_Ways_elders, lm_Ways_edited, lm_Ways_heard, lk_Meeting_hearings, lk_Meeting_item, lk_Meeting_deeds, lk_Meeting_waiting, lk_Told_steps, lk_Told_machine, lk_Told_coming, lk_Told_hearings, lm_Told_is_closed])
local macro_rules | `(tactic| walk_at "rd*") => `(tactic| simp (config := {failIfUnchanged := false}) only [tVar, tC, tIsN, tNotN, tB, tAnd, tOr, tNot, tAndV, tOrV, tNotV, tIf, tNext, tSeq, tBreak, tCont, tDrop, tRet, tRetN, tIfS, gName, gNil, gCons, gTup, tAsg, tPar,
  iList, iTup, iRng1, iRng2, r_tFor, tFmt, tJs, or_false, false_or, exists_false, r_tLc, r_tDc, bf, iSeq, r_wipe0, r_wipe1, tOp, tUn, rI, rI0, rU, rEq, rNe, tTest, tChain, tFld, sFld, tNil, tCons, tTup, tLst, tCall, tMeth, tMake, tCB, tNoPart, tPart, tSl, rIxL, rIxT, rSlL, rIn, tBM0, tBM, rAppend, rExtend, rPop, rPopAt, rAny, rAll, tYes, iStr, rNewStrs, tM0, tM1, StX.tStar,
  L2.start, List.map_cons, List.map_nil, List.length_cons, List.length_nil, Nat.zero_add, Nat.reduceAdd, Nat.reduceSub, List.replicate_succ, List.replicate_zero, List.cons_append, List.nil_append, List.append_nil, List.set_cons_zero, List.set_cons_succ,
  List.getElem?_cons_zero, List.getElem?_cons_succ, Option.some.injEq, exists_eq_left', exists_eq_left, exists_eq', exists_eq, exists_and_left, exists_and_right, and_assoc, List.cons.injEq, V.str.injEq, V.ref.injEq, V.bl.injEq, V.int.injEq, V.ty.injEq, and_true, true_and, reduceCtorEq, false_and, and_false,
  Bool.not_true, Bool.not_false, Bool.false_eq_true, reduceIte, Bool.not_eq_true', decide_eq_true_eq, upd_same, cx_K, HO.ins.injEq, HO.tup.injEq, HO.lst.injEq, HO.dK.injEq, lk_Run_old, lk_Run_then, lk_Run_names, lm_Run_str, lk_Lead_tests, lk_Lead_old, lk_Lead_then, lk_Lead_names, lm_Lead_str, lk_Join_here, lk_Join_came, lk_Join_then, lk_Join_names, lm_Join_str, lk_Tool_marks, lk_Tool_told, lk_Tool_parts, lk_Tool_clears, lk_Tool_rows, lk_Tool_blank, lm_Tool_need_mark, lm_Tool_is_told, lm_Tool_ran, lm_Tool_led, lm_Tool_joined, lm_Tool_keeps, lm_Tool_need_row, lm_Tool_but, lm_Tool_without, lm_Tool_heeding, lm_Tool_len, lm_Tool_eq, lm_Tool_str, lk_Single_tool, lk_Single_begin, lm_Single_machine_steps, lm_Single_led, lm_Single_joined, lk_Ways_steps, lk_Ways_machine, lk_Ways_coming, lk_Ways_hearings, lk_Ways_elders, lm_Ways_edited, lm_Ways_heard, lk_Meeting_hearings, lk_Meeting_item, lk_Meeting_deeds, lk_Meeting_waiting, lk_Told_steps, lk_Told_machine, lk_Told_coming, lk_Told_hearings, lm_Told_is_closed, *])
section
variable {P : Program} {w : World} {K : PySem.W.Frag} {mg : Str → Option Value} {base : Heap}
theorem ty_ORDER (T : Tx w K mg) (H : Hp) : tyV K "tuple" (.ref (He.ga K "ORDER")) H := by
  have h := (ck_split T.c).2.2.2.2.2.2.2.2.2.2.2.2.2.2.2.2.2.2.2.2.2.2.2.2.2.2.2.2.2.2.2
  unfold ordB at h
  split at h
  · rename_i c dt sl hk
    exact .inr (.inl ⟨rfl, _, hk, by show Value.type c = _; rw [of_decide_eq_true h], rfl⟩)
  · cases h
/-! ### Tool: need_mark, is_told, holds, ran, led, joined, keeps -/
def spNeed (K : PySem.W.Frag) : Sp := fun vs H Q _ => ∃ a m d, vs = [.ref a, .str m] ∧ ToolAt K H a d ∧ m ∈ d.marks ∧ ∀ H', Same H H' → Q .non H'
theorem sc_need : FnScope ["self", "mark"] ["self", "mark"] (defScope st_Tool_need_mark) := ⟨rfl, rfl, rfl, by decide +kernel, rfl, by decide +kernel, by decide +kernel⟩
theorem x_need (T : Tx w K mg) : MX P w K mg base 2 (He.ga K "Tool") "need_mark" ["self", "mark"] (spNeed K) := by
  obtain ⟨fd, F⟩ := fun_Tool_need_mark T.c
  have G1 : FX P w K mg base 1 "is_word" ["value", "some"] (spIsWord K) := x_is_word T
  refine MX.of F T.me_Tool_need_mark sc_need (fun _ _ _ _ _ _ us hl => match us, hl with | [_, _], _ => rfl) (fun vs H Q E h => ?_) (fun cdv A outer s H vs Q E hr h => ?_)
  · obtain ⟨a, m, d, rfl, _⟩ := h
    rfl
  · obtain ⟨a, m, d, rfl, ha, hm, k⟩ := h
    obtain ⟨dx, ma, ta, pa, ra, vs, h1, h2, h3, h4, h5, h6⟩ := ha.ex
    refine ⟨_, pss_one (ps_if (pt_not (pt_val (pc G1 hr (pa2 (pv 1) (pe_fld (pv 0) rfl))))) pss_never pss_nil), ?_⟩
    have fl := T.fl
    walk_at "rd*"
    refine ⟨m, ma, d.marks, rfl, .inr (SqT.of h2), fun H' s' => ⟨_, rfl, ?_⟩⟩
    rw [mem_any hm]
    walk_at "rd"
    exact k H' s'
def spIsTold (K : PySem.W.Frag) : Sp := fun vs H Q _ => ∃ a m d, vs = [.ref a, .str m] ∧ ToolAt K H a d ∧ ∀ H', Same H H' → Q (.bl (d.isTold m)) H'
theorem sc_told : FnScope ["self", "mark"] ["self", "mark"] (defScope st_Tool_is_told) := ⟨rfl, rfl, rfl, by decide +kernel, rfl, by decide +kernel, by decide +kernel⟩
theorem x_told (T : Tx w K mg) : MX P w K mg base 1 (He.ga K "Tool") "is_told" ["self", "mark"] (spIsTold K) := by
  obtain ⟨fd, F⟩ := fun_Tool_is_told T.c
  refine MX.of F T.me_Tool_is_told sc_told (fun _ _ _ _ _ _ us hl => match us, hl with | [_, _], _ => rfl) (fun vs H Q E h => ?_) (fun cdv A outer s H vs Q E hr h => ?_)
  · obtain ⟨a, m, d, rfl, _⟩ := h
    rfl
  · obtain ⟨a, m, d, rfl, ha, k⟩ := h
    obtain ⟨dx, ma, ta, pa, ra, vs, h1, h2, h3, h4, h5, h6⟩ := ha.ex
    refine ⟨_, pss_one (ps_ret (pe_cmpR op_in_seq (pv 1) (pe_fld (pv 0) rfl) (by rfl))), ?_⟩
    have fl := T.fl
    walk_at "rd*"
    refine ⟨sv d.told, .inr (SqT.of h3), rfl, flat_sv _, ?_⟩
    rw [inV_str]
    exact k H (Same.refl _)
theorem ix_bools {p : List Bool} {n : Nat} (h : n < p.length) : atI (p.map V.bl) (n : Nat) = some (.bl (p.getD n false)) := by
  refine atI_nat ?_
  rw [List.getElem?_map, List.getElem?_eq_getElem h]
  show some (V.bl p[n]) = some (V.bl ((p[n]?).getD false))
  rw [List.getElem?_eq_getElem h]
  rfl
def spHolds (K : PySem.W.Frag) : Sp := fun vs H Q _ => ∃ t a p, vs = [.str t, .ref a] ∧ t ∈ tests6 ∧ SqT K H a (p.map V.bl) ∧ p.length = 3 ∧ ∀ H', Same H H' → Q (.bl (holdsT t p)) H'
theorem sc_holds : FnScope ["test", "same"] ["test", "same"] (defScope st_holds) := ⟨rfl, rfl, rfl, by decide +kernel, rfl, by decide +kernel, by decide +kernel⟩
theorem x_holds (T : Tx w K mg) : FX P w K mg base 2 "holds" ["test", "same"] (spHolds K) := by
  obtain ⟨fd, F⟩ := fun_holds T.c
  have G1 : FX P w K mg base 1 "part_of" ["test"] spPartOf := x_part_of T
  refine FX.of F T.g_holds sc_holds (fun _ _ _ _ _ _ us hl => match us, hl with | [_, _], _ => rfl) (fun vs H Q E h => ?_) (fun cdv A outer s H vs Q E hr h => ?_)
  · obtain ⟨t, a, p, rfl, _⟩ := h
    rfl
  · obtain ⟨t, a, p, rfl, ht, hp, hl, k⟩ := h
    refine ⟨_, pss_one (ps_ret (pe_cmpR op_eq (pe_ix ix_tup (pv 1) (pe_bm PySem.F.plainAttrs_tuple PySem.F.slot_tuple_index PySem.F.type_tuple_index mt_tup_index (pgr T.g_ORDER) (pa1 (pc G1 hr (pa1 (pv 0))))) (fun _ _ => rfl))
      (pe_cmpR op_eq (pv 0) (pc G1 hr (pa1 (pv 0))) (nomark _)) (nomark _))), ?_⟩
    walk_at "rd"
    have l9 := Nat.le_trans (tests6_len t ht) (show 9 ≤ 1000 by decide)
    obtain ⟨q1, q2, q3⟩ := plc0_at (partOf t) (tests6_partm t ht)
    refine ⟨ty_ORDER T H, t, rfl, l9, fun H1 s1 => ?_⟩
    refine ⟨orderL, partOf t, rfl, T.t_ORDER H1, plc0 (partOf t), q1, q2, p.map V.bl, Same.seqT s1 hp, .bl (sameAt p (partOf t)), ix_bools (by omega), ?_⟩
    refine ⟨t, rfl, l9, fun H2 s2 => ⟨rfl, rfl, ?_⟩⟩
    rw [dec_bl]
    have q := k H2 (s1.trans s2)
    have e : decide (V.str t = V.str (partOf t)) = isBare t := by
      rw [dec_str]
      unfold isBare
      rw [Bool.eq_iff_iff]
      simp
    rw [e]
    exact q
/-! ### the loops over rows -/
theorem isC_tab : (∀ o t, isC "Run" (.run o t) = true) ∧ (∀ ts o t, isC "Run" (.lead ts o t) = false) ∧ (∀ h c t, isC "Run" (.join h c t) = false) ∧
    (∀ o t, isC "Lead" (.run o t) = false) ∧ (∀ ts o t, isC "Lead" (.lead ts o t) = true) ∧ (∀ h c t, isC "Lead" (.join h c t) = false) ∧
    (∀ o t, isC "Join" (.run o t) = false) ∧ (∀ ts o t, isC "Join" (.lead ts o t) = false) ∧ (∀ h c t, isC "Join" (.join h c t) = true) := by
  have e : ((("Run" : Str) == "Run" || ("Run" : Str) == "Row") = true ∧ (("Run" : Str) == "Lead" || ("Run" : Str) == "Row") = false ∧ (("Run" : Str) == "Join" || ("Run" : Str) == "Row") = false ∧
    (("Lead" : Str) == "Run" || ("Lead" : Str) == "Row") = false ∧ (("Lead" : Str) == "Lead" || ("Lead" : Str) == "Row") = true ∧ (("Lead" : Str) == "Join" || ("Lead" : Str) == "Row") = false ∧
    (("Join" : Str) == "Run" || ("Join" : Str) == "Row") = false ∧ (("Join" : Str) == "Lead" || ("Join" : Str) == "Row") = false ∧ (("Join" : Str) == "Join" || ("Join" : Str) == "Row") = true) := by decide +kernel
  obtain ⟨e1, e2, e3, e4, e5, e6, e7, e8, e9⟩ := e
  exact ⟨fun _ _ => e1, fun _ _ _ => e2, fun _ _ _ => e3, fun _ _ => e4, fun _ _ _ => e5, fun _ _ _ => e6, fun _ _ => e7, fun _ _ _ => e8, fun _ _ _ => e9⟩
theorem hit_in (old m : Str) : inV (.str old) [.str "any", .str m] = hitO old m := by
  have e : inV (.str old) [.str "any", .str m] = (["any", m] : List Str).any fun y => decide (y = old) := inV_str old ["any", m]
  rw [e]
  unfold hitO
  rw [List.any_cons, List.any_cons, List.any_nil, Bool.or_false]
  congr 1 <;> exact decide_eq_decide.mpr eq_comm
theorem iteDF {p A B : Prop} [Decidable p] (hp : p) (h : B) : if decide p = false then A else B := iteN (by rw [decide_eq_true hp]; exact Bool.noConfusion) h
theorem iteDT {p A B : Prop} [Decidable p] (hp : ¬ p) (h : A) : if decide p = false then A else B := iteP (decide_eq_false hp) h
theorem iteBF {b : Bool} {A B : Prop} (hb : b = false) (h : B) : if b = true then A else B := by rw [hb]; exact h
theorem iteBT {b : Bool} {A B : Prop} (hb : b = true) (h : A) : if b = true then A else B := by rw [hb]; exact h
def spRan (K : PySem.W.Frag) : Sp := fun vs H Q _ => ∃ a m d, vs = [.ref a, .str m] ∧ ToolAt K H a d ∧ m ∈ d.marks ∧ ∀ H', Same H H' → Q (.str (d.ran m)) H'
theorem sc_ran : FnScope ["self", "mark", "row"] ["self", "mark"] (defScope st_Tool_ran) := ⟨rfl, rfl, rfl, by decide +kernel, rfl, by decide +kernel, by decide +kernel⟩
theorem x_ran (T : Tx w K mg) : MX P w K mg base 3 (He.ga K "Tool") "ran" ["self", "mark"] (spRan K) := by
  obtain ⟨fd, F⟩ := fun_Tool_ran T.c
  have G1 : MX P w K mg base 2 (He.ga K "Tool") "need_mark" ["self", "mark"] (spNeed K) := x_need T
  refine MX.of F T.me_Tool_ran sc_ran (fun _ _ _ _ _ _ us hl => match us, hl with | [_, _], _ => rfl) (fun vs H Q E h => ?_) (fun cdv A outer s H vs Q E hr h => ?_)
  · obtain ⟨a, m, d, rfl, _⟩ := h
    rfl
  · obtain ⟨a, m, d, rfl, ha, hm, k⟩ := h
    refine ⟨_, pss_cons (ps_expr (pm G1 T.cl_Tool hr (pv 0) (pa1 (pv 1))))
      (pss_cons (ps_for PassesOwn.never rfl (pi_tup (pe_fld (pv 0) rfl)) (pg_name (i := 2) sc_ran.nd rfl (Or.inl rfl))
        (pss_one (ps_if (PW.pt (pw_and (pt_val (pb (isi_row T "Run") T.n_isinstance (pa2 (pv 2) (pgr T.g_Run)))) (pw_and1 (pt_cmpR op_in_seq (pe_fld (pv 2) rfl) (pe_tup (pa2 pe_str (pv 1))) (by rfl)))))
          (pss_one (ps_ret (pe_fld (pv 2) rfl))) pss_nil)))
      (pss_one (ps_ret (pv 1)))), ?_⟩
    have fl := T.fl
    obtain ⟨dx, ma, ta, pa, ra, vs, h1, h2, h3, h4, h5, h6⟩ := ha.ex
    walk_at "rd*"
    refine ⟨a, m, d, rfl, ha, hm, fun H1 s1 => ?_⟩
    have h1' := s1 _ _ h1
    have h5' := s1 _ _ h5
    walk_at "rd*"
    refine ⟨⟨_, SqT.of h5'⟩, forRet (f := ranR m) walk_tup (h6.same s1) rfl (fun H s => Same.seqT s (SqT.of h5')) ?_ ?_ ⟨none, rfl⟩⟩
    · rintro i r x hi ⟨b, rfl, hrow⟩ H2 v s2 hf N hN
      have hrow2 := hrow.same s2
      walk_at "rd"
      refine ⟨r, hrow2, ?_⟩
      match r, hrow2, hf, hN with
      | .lead ts old th, _, hf, hN => exact iteBF (isC_tab.2.1 _ _ _) (hN rfl _ (Same.refl _))
      | .join x y th, _, hf, hN => exact iteBF (isC_tab.2.2.1 _ _ _) (hN rfl _ (Same.refl _))
      | .run old th, ⟨dx2, n, g1, g2⟩, hf, hN =>
        refine iteBT (isC_tab.1 _ _) ?_
        walk_at "rd*"
        refine ⟨by decide, fun p hp => ⟨_, .inr (SqT.of upd_same), rfl, rfl, ?_⟩⟩
        rw [hit_in]
        cases eh : hitO old m with
        | false => exact iteBF rfl (hN (by show (if hitO old m then some th else none) = none; rw [eh]; rfl) _ (same_new hp))
        | true =>
          refine iteBT rfl ?_
          have e : d.ran m = th := by
            have q := hf th (by show (if hitO old m then some th else none) = some th; rw [eh]; rfl)
            unfold ToolD.ran
            rw [q]
            rfl
          have g1' := same_new (o := HO.tup [.str "any", .str m]) hp _ _ g1
          walk_at "rd*"
          rw [← e]
          exact k _ ((s1.trans s2).trans (same_new hp))
    · intro H2 v s2 hn
      walk_at "rd"
      have e : d.ran m = m := by unfold ToolD.ran; rw [hn]; rfl
      rw [← e]
      exact k H2 (s1.trans s2)
def spLed (K : PySem.W.Frag) : Sp := fun vs H Q _ => ∃ a m b d p, vs = [.ref a, .str m, .ref b] ∧ ToolAt K H a d ∧ d.ok ∧ m ∈ d.marks ∧ SqT K H b (p.map V.bl) ∧ p.length = 3 ∧ ∀ H', Same H H' → Q (.str (d.led m p)) H'
theorem sc_led : FnScope ["self", "mark", "same", "row", "test"] ["self", "mark", "same"] (defScope st_Tool_led) := ⟨rfl, rfl, rfl, by decide +kernel, rfl, by decide +kernel, by decide +kernel⟩
theorem x_led (T : Tx w K mg) : MX P w K mg base 3 (He.ga K "Tool") "led" ["self", "mark", "same"] (spLed K) := by
  obtain ⟨fd, F⟩ := fun_Tool_led T.c
  have G1 : MX P w K mg base 2 (He.ga K "Tool") "need_mark" ["self", "mark"] (spNeed K) := x_need T
  have G2 : FX P w K mg base 2 "holds" ["test", "same"] (spHolds K) := x_holds T
  refine MX.of F T.me_Tool_led sc_led (fun _ _ _ _ _ _ us hl => match us, hl with | [_, _, _], _ => rfl) (fun vs H Q E h => ?_) (fun cdv A outer s H vs Q E hr h => ?_)
  · obtain ⟨a, m, b, d, p, rfl, _⟩ := h
    rfl
  · obtain ⟨a, m, b, d, p, rfl, ha, ok, hm, hp, hl, k⟩ := h
    refine ⟨_, pss_cons (ps_expr (pm G1 T.cl_Tool hr (pv 0) (pa1 (pv 1))))
      (pss_cons (ps_for PassesOwn.never rfl (pi_tup (pe_ifExp (pt_cmpR op_ne (pv 1) (pe_fld (pv 0) rfl) (nomark _)) (pe_fld (pv 0) rfl) (pe_tup pa_nil))) (pg_name (i := 3) sc_led.nd rfl (Or.inl rfl))
        (pss_one (ps_if (PW.pt (pw_and (pt_val (pb (isi_row T "Lead") T.n_isinstance (pa2 (pv 3) (pgr T.g_Lead)))) (pw_and (pt_cmpR op_in_seq (pe_fld (pv 3) rfl) (pe_tup (pa2 pe_str (pv 1))) (by rfl))
          (pw_and1 (pt_val (pb (cr_all rfl) T.n_all (pa1 (plc sc_led 4 (pi_tup (pe_fld (pv 3) rfl)) (fun _ _ _ _ _ => pc G2 hr (pa2 (pv 4) (pv 2)))))))))))
          (pss_one (ps_ret (pe_fld (pv 3) rfl))) pss_nil)))
      (pss_one (ps_ret (pe_fld (pv 0) rfl)))), ?_⟩
    have fl := T.fl
    obtain ⟨dx, ma, ta, pa, ra, vs, h1, h2, h3, h4, h5, h6⟩ := ha.ex
    walk_at "rd*"
    refine ⟨a, m, d, rfl, ha, hm, fun H1 s1 => ?_⟩
    have h1' := s1 _ _ h1
    have h5' := s1 _ _ h5
    walk_at "rd*"
    refine ⟨rfl, ?_⟩
    by_cases hb : m = d.blank
    · refine iteDF (show m = d.marks.headD Str.empty from hb) ?_
      refine ⟨by decide, fun q hq => ⟨⟨_, SqT.of upd_same⟩, ?_⟩⟩
      have sq : Same H (upd H1 q (.tup [])) := Same.new s1 hq
      refine forRet (Rl := fun (_ : RowD) (_ : V) => True) (ds := []) (f := ledR m p) walk_tup .nil rfl (fun H s => Same.seqT s (SqT.of upd_same)) (fun i r x hi => by cases hi) ?_ ⟨none, rfl⟩
      intro H2 v s2 hn
      have h1'' := s2 _ _ (sq _ _ h1)
      walk_at "rd*"
      have e : d.led m p = d.blank := by unfold ToolD.led; rw [if_pos hb]
      have z := k H2 (sq.trans s2)
      rw [e] at z
      exact z
    · refine iteDT (show ¬ m = d.marks.headD Str.empty from hb) ?_
      refine ⟨⟨_, SqT.of h5'⟩, forRet (f := ledR m p) walk_tup (h6.same s1) rfl (fun H s => Same.seqT s (SqT.of h5')) ?_ ?_ ⟨none, rfl⟩⟩
      · rintro i r x hi ⟨b2, rfl, hrow⟩ H2 v s2 hf N hN
        have hrow2 := hrow.same s2
        walk_at "rd"
        refine ⟨r, hrow2, ?_⟩
        match r, hrow2, hf, hN with
        | .run old th, _, hf, hN => exact iteBF (isC_tab.2.2.2.1 _ _) (hN rfl _ (Same.refl _))
        | .join x y th, _, hf, hN => exact iteBF (isC_tab.2.2.2.2.2.1 _ _ _) (hN rfl _ (Same.refl _))
        | .lead ts old th, ⟨dx2, t, n, g1, g2, g3⟩, hf, hN =>
          refine iteBT (isC_tab.2.2.2.2.1 _ _ _) ?_
          walk_at "rd*"
          refine ⟨by decide, fun q hq => ⟨_, .inr (SqT.of upd_same), rfl, rfl, ?_⟩⟩
          rw [hit_in]
          have sn := same_new (o := HO.tup [.str "any", .str m]) hq
          have fine := ok.fine _ (List.mem_of_getElem? hi)
          cases eh : hitO old m with
          | false => exact iteBF rfl (hN (by show (if hitO old m && ts.all (fun t => holdsT t p) then some th else none) = none; rw [eh]; rfl) _ sn)
          | true =>
            refine iteBT rfl ?_
            have g1' := sn _ _ g1
            have g2' := sn _ _ g2
            have l3 : ts.length ≤ 1000 := Nat.le_trans (tests_le fine.1 fine.2.1) (by decide)
            walk_at "rd*"
            refine ⟨⟨_, SqT.of g2'⟩, fun D hD => lcA walk_tup rfl (by rw [sv_len]; exact l3) hD (fun v => .bl (holdsT (vStr v) p)) (fun H s => Same.seqT s (SqT.of g2')) (fun x hx H3 s3 _ Ky ky => ?_) fun H3 s3 e3 => ?_⟩
            · obtain ⟨z, hzl, rfl⟩ := mem_sv hx
              walk_at "rd"
              exact ⟨z, b, p, rfl, fine.1 z hzl, Same.seqT ((s1.trans s2).trans (sn.trans s3)) hp, hl, fun H4 s4 => ky _ s4⟩
            · refine ⟨ts.map fun z => holdsT z p, all_sv (f := fun z => holdsT z p) e3, ?_⟩
              have ea : (ts.map fun z => holdsT z p).all id = ts.all fun z => holdsT z p := by rw [List.all_map]; rfl
              rw [ea]
              have hh : ledR m p (.lead ts old th) = if ts.all (fun z => holdsT z p) = true then some th else none := by
                show (if hitO old m && ts.all (fun t => holdsT t p) then some th else none) = _
                rw [eh, Bool.true_and]
              cases ev : ts.all (fun z => holdsT z p) with
              | false => exact iteBF rfl (hN (by rw [hh, ev]; rfl) _ (sn.trans s3))
              | true =>
                refine iteBT rfl ?_
                have g1'' := s3 _ _ g1'
                walk_at "rd*"
                have e : d.led m p = th := by
                  have q := hf th (by rw [hh, ev]; rfl)
                  unfold ToolD.led
                  rw [if_neg hb, q]
                  rfl
                have z := k _ ((s1.trans s2).trans (sn.trans s3))
                rw [e] at z
                exact z
      · intro H2 v s2 hn
        have h1'' := s2 _ _ h1'
        walk_at "rd*"
        have e : d.led m p = d.blank := by unfold ToolD.led; rw [if_neg hb, hn]; rfl
        have q := k H2 (s1.trans s2)
        rw [e] at q
        exact q
theorem room1 {k : Nat} {A : Around} (hr : Room k A) : A.units + 1 < cLine := by have := hr.un; omega
def spJoined (K : PySem.W.Frag) : Sp := fun vs H Q _ => ∃ a h c d, vs = [.ref a, .str h, .str c] ∧ ToolAt K H a d ∧ h ∈ d.marks ∧ c ∈ d.marks ∧ ∀ H', Same H H' → Q (.str (d.joined h c)) H'
theorem sc_joined : FnScope ["self", "here", "came", "row"] ["self", "here", "came"] (defScope st_Tool_joined) := ⟨rfl, rfl, rfl, by decide +kernel, rfl, by decide +kernel, by decide +kernel⟩
theorem side_val (h c th : Str) : ((valV (mergeK [] [((Sum.inr "here" : Key), V.str h), (Sum.inr "came", V.str c)]) (Sum.inr th)).getD (.str th)) = .str (sideT h c th) := by
  unfold sideT
  have e : mergeK [] [((Sum.inr "here" : Key), V.str h), (Sum.inr "came", V.str c)] = [((Sum.inr "here" : Key), V.str h), (Sum.inr "came", V.str c)] := by
    show putK (putK ([] : List (Key × V)) (Sum.inr "here" : Key) (V.str h)) (Sum.inr "came" : Key) (V.str c) = _
    rw [putK_new (kvs := ([] : List (Key × V))) (k := (Sum.inr "here" : Key)) _ rfl, putK_new]
    · rfl
    · rw [List.nil_append, valV_neg, valV_nil]
      intro e
      exact absurd (Sum.inr.inj e) (by decide +kernel)
  rw [e]
  by_cases h1 : th = "here"
  · rw [if_pos h1, valV_pos (by rw [h1])]
    rfl
  · rw [if_neg h1, valV_neg (fun e => h1 (Sum.inr.inj e).symm)]
    by_cases h2 : th = "came"
    · rw [if_pos h2, valV_pos (by rw [h2])]
      rfl
    · rw [if_neg h2, valV_neg (fun e => h2 (Sum.inr.inj e).symm), valV_nil]
      rfl
theorem x_joined (T : Tx w K mg) : MX P w K mg base 3 (He.ga K "Tool") "joined" ["self", "here", "came"] (spJoined K) := by
  obtain ⟨fd, F⟩ := fun_Tool_joined T.c
  have G1 : MX P w K mg base 2 (He.ga K "Tool") "need_mark" ["self", "mark"] (spNeed K) := x_need T
  refine MX.of F T.me_Tool_joined sc_joined (fun _ _ _ _ _ _ us hl => match us, hl with | [_, _, _], _ => rfl) (fun vs H Q E h => ?_) (fun cdv A outer s H vs Q E hr h => ?_)
  · obtain ⟨a, h, c, d, rfl, _⟩ := h
    rfl
  · obtain ⟨a, h, c, d, rfl, ha, hm, hc, k⟩ := h
    refine ⟨_, pss_cons (ps_expr (pm G1 T.cl_Tool hr (pv 0) (pa1 (pv 1)))) (pss_cons (ps_expr (pm G1 T.cl_Tool hr (pv 0) (pa1 (pv 2))))
      (pss_cons (ps_for PassesOwn.never rfl (pi_tup (pe_fld (pv 0) rfl)) (pg_name (i := 3) sc_joined.nd rfl (Or.inl rfl))
        (pss_one (ps_if (PW.pt (pw_and (pt_val (pb (isi_row T "Join") T.n_isinstance (pa2 (pv 3) (pgr T.g_Join)))) (pw_and (pt_cmpR op_in_seq (pe_fld (pv 3) rfl) (pe_tup (pa2 pe_str (pv 1))) (by rfl))
          (pw_and1 (pt_cmpR op_in_seq (pe_fld (pv 3) rfl) (pe_tup (pa2 pe_str (pv 2))) (by rfl))))))
          (pss_one (ps_ret (pe_dget2 (room1 hr) (pe_disp (pps_cons pe_str (pv 1) (pps_cons pe_str (pv 2) pps_nil)) rfl rfl (by simp) (by show (2 : Nat) ≤ 15; decide)) (pe_fld (pv 3) rfl) (pe_fld (pv 3) rfl) ⟨rfl, rfl, rfl, rfl⟩))) pss_nil)))
      (pss_one (ps_ret (pv 1))))), ?_⟩
    have fl := T.fl
    obtain ⟨dx, ma, ta, pa, ra, vs, h1, h2, h3, h4, h5, h6⟩ := ha.ex
    walk_at "rd*"
    refine ⟨a, h, d, rfl, ha, hm, fun H0 s0 => ?_⟩
    have h1' := s0 _ _ h1
    walk_at "rd*"
    refine ⟨a, c, d, rfl, ha.same s0, hc, fun H1 s01 => ?_⟩
    have s1 := s0.trans s01
    have h1' := s1 _ _ h1
    have h5' := s1 _ _ h5
    walk_at "rd*"
    refine ⟨⟨_, SqT.of h5'⟩, forRet (f := joinR h c) walk_tup (h6.same s1) rfl (fun H s => Same.seqT s (SqT.of h5')) ?_ ?_ ⟨none, rfl⟩⟩
    · rintro i r x hi ⟨b2, rfl, hrow⟩ H2 v s2 hf N hN
      have hrow2 := hrow.same s2
      walk_at "rd"
      refine ⟨r, hrow2, ?_⟩
      match r, hrow2, hf, hN with
      | .run old th, _, hf, hN => exact iteBF (isC_tab.2.2.2.2.2.2.1 _ _) (hN rfl _ (Same.refl _))
      | .lead ts old th, _, hf, hN => exact iteBF (isC_tab.2.2.2.2.2.2.2.1 _ _ _) (hN rfl _ (Same.refl _))
      | .join x y th, ⟨dx2, n, g1, g2⟩, hf, hN =>
        refine iteBT (isC_tab.2.2.2.2.2.2.2.2 _ _ _) ?_
        walk_at "rd*"
        refine ⟨by decide, fun q hq => ⟨_, .inr (SqT.of upd_same), rfl, rfl, ?_⟩⟩
        rw [hit_in]
        have sn := same_new (o := HO.tup [.str "any", .str h]) hq
        have jr : joinR h c (.join x y th) = if hitO x h && hitO y c then some (sideT h c th) else none := rfl
        cases eh : hitO x h with
        | false => exact iteBF rfl (hN (by rw [jr, eh]; rfl) _ sn)
        | true =>
          refine iteBT rfl ?_
          have g1' := sn _ _ g1
          walk_at "rd*"
          refine ⟨by decide, fun q2 hq2 => ⟨_, .inr (SqT.of upd_same), rfl, rfl, ?_⟩⟩
          rw [hit_in]
          have sn2 := sn.trans (same_new (o := HO.tup [.str "any", .str c]) hq2)
          cases eh2 : hitO y c with
          | false => exact iteBF rfl (hN (by rw [jr, eh, eh2]; rfl) _ sn2)
          | true =>
            refine iteBT rfl ?_
            have e : d.joined h c = sideT h c th := by
              have q := hf (sideT h c th) (by rw [jr, eh, eh2]; rfl)
              unfold ToolD.joined
              rw [q]
              rfl
            have g1'' := sn2 _ _ g1
            show ∀ p, upd (upd H2 q (HO.tup [.str "any", .str h])) q2 (HO.tup [.str "any", .str c]) p = none → _
            intro q3 hq3
            have sn3 := sn2.trans (same_new (o := HO.dK []) hq3)
            walk_at "rd"
            have gd : ∀ o, upd (upd (upd (upd H2 q (.tup [.str "any", .str h])) q2 (.tup [.str "any", .str c])) q3 (.dK [])) q3 o b2 = some (.ins (He.ga K "Join") dx2 (fJoin x y th n)) := fun o => by
              rw [upd_upd, upd_ne (ne_of_none g1'' hq3)]
              exact g1''
            simp only [tPairs]
            walk_at "rd"
            refine ⟨[((Sum.inr "here" : Key), V.str h), (Sum.inr "came", V.str c)], rfl, by show (2 : Nat) ≤ 15; decide, .inl ⟨_, .inl upd_same⟩, ?_⟩
            have g1d := gd (.dK (mergeK [] [((Sum.inr "here" : Key), V.str h), (Sum.inr "came", V.str c)]))
            walk_at "rd*"
            refine ⟨_, DGet.k (k := Sum.inr th) upd_same, ?_⟩
            rw [side_val, ← e, upd_upd]
            exact k _ ((s1.trans s2).trans (sn2.trans (same_new hq3)))
    · intro H2 v s2 hn
      walk_at "rd"
      have e : d.joined h c = h := by unfold ToolD.joined; rw [hn]; rfl
      rw [← e]
      exact k H2 (s1.trans s2)
def spKeeps (K : PySem.W.Frag) : Sp := fun vs H Q _ => ∃ a b d p, vs = [.ref a, .ref b] ∧ ToolAt K H a d ∧ d.ok ∧ SqT K H b (p.map V.bl) ∧ p.length = 3 ∧ ∀ H', Same H H' → Q (.bl (d.keeps p)) H'
theorem sc_keeps : FnScope ["self", "same", "part"] ["self", "same"] (defScope st_Tool_keeps) := ⟨rfl, rfl, rfl, by decide +kernel, rfl, by decide +kernel, by decide +kernel⟩
theorem x_keeps (T : Tx w K mg) : MX P w K mg base 1 (He.ga K "Tool") "keeps" ["self", "same"] (spKeeps K) := by
  obtain ⟨fd, F⟩ := fun_Tool_keeps T.c
  refine MX.of F T.me_Tool_keeps sc_keeps (fun _ _ _ _ _ _ us hl => match us, hl with | [_, _], _ => rfl) (fun vs H Q E h => ?_) (fun cdv A outer s H vs Q E hr h => ?_)
  · obtain ⟨a, b, d, p, rfl, _⟩ := h
    rfl
  · obtain ⟨a, b, d, p, rfl, ha, ok, hp, hl, k⟩ := h
    refine ⟨_, pss_one (ps_ret (pb (cr_all rfl) T.n_all (pa1 (plc sc_keeps 2 (pi_tup (pe_fld (pv 0) rfl)) (fun _ _ _ _ _ => pe_ix ix_tup (pv 1) (pe_bm PySem.F.plainAttrs_tuple PySem.F.slot_tuple_index PySem.F.type_tuple_index mt_tup_index (pgr T.g_ORDER) (pa1 (pv 2))) (fun _ _ => rfl)))))), ?_⟩
    have fl := T.fl
    obtain ⟨dx, ma, ta, pa, ra, vs, h1, h2, h3, h4, h5, h6⟩ := ha.ex
    walk_at "rd*"
    have hpm : ∀ z ∈ d.parts, z ∈ partsL := fun z hz => by rw [ok.parts] at hz; exact (List.mem_filter.mp hz).1
    have l3 : d.parts.length ≤ 1000 := by
      rw [ok.parts]
      exact Nat.le_trans (List.length_filter_le _ _) (by decide)
    refine ⟨⟨_, SqT.of h4⟩, fun D hD => lcA walk_tup rfl (by rw [sv_len]; exact l3) hD (fun v => .bl (sameAt p (vStr v))) (fun H s => Same.seqT s (SqT.of h4)) (fun x hx H3 s3 _ Ky ky => ?_) fun H3 s3 e3 => ?_⟩
    · obtain ⟨z, hzl, rfl⟩ := mem_sv hx
      walk_at "rd"
      obtain ⟨q1, q2, q3⟩ := plc0_at z (hpm z hzl)
      exact ⟨ty_ORDER T H3, orderL, T.t_ORDER H3, plc0 z, q1, q2, p.map V.bl, Same.seqT s3 hp, .bl (sameAt p z), ix_bools (by omega), ky H3 (Same.refl _)⟩
    · refine ⟨d.parts.map fun z => sameAt p z, all_sv (f := fun z => sameAt p z) e3, ?_⟩
      have ea : (d.parts.map fun z => sameAt p z).all id = d.keeps p := by rw [List.all_map]; rfl
      rw [ea]
      exact k _ s3
end
end Lm
set_option Elab.async false
set_option linter.all false
set_option maxRecDepth 100000
set_option maxHeartbeats 4000000
namespace Lm
open PySem PySem.Spec PyProof.Rows L2
local macro_rules | `(tactic| walk_at "rd") => `(tactic| simp (config := {failIfUnchanged := false}) only [tVar, tC, tIsN, tNotN, tB, tAnd, tOr, tNot, tAndV, tOrV, tNotV, tIf, tNext, tSeq, tBreak, tCont, tDrop, tRet, tRetN, tIfS, gName, gNil, gCons, gTup, tAsg, tPar,
  iList, iTup, iRng1, iRng2, r_tFor, tFmt, tJs, or_false, false_or, exists_false, r_tLc, r_tDc, bf, iSeq, r_wipe0, r_wipe1, tOp, tUn, rI, rI0, rU, rEq, rNe, tTest, tChain, tFld, sFld, tNil, tCons, tTup, tLst, tCall, tMeth, tMake, tCB, tNoPart, tPart, tSl, rIxL, rIxT, rIxQ, rSlQ, r_tLc2, tXGet, tXIn, tXNotIn, sXPut, tXSetd, tXDisp1, iKeysX, iItemsX, tFrz, tFrzE, tRetag, rSlL, rIn, tBM0, tBM, rAppend, rExtend, rPop, rPopAt, rAny, rAll, tYes, iStr, rNewStrs, tM0, tM1, StX.tStar,
  L2.start, List.map_cons, List.map_nil, List.length_cons, List.length_nil, Nat.zero_add, Nat.reduceAdd, Nat.reduceSub, List.replicate_succ, List.replicate_zero, List.cons_append, List.nil_append, List.append_nil, List.set_cons_zero, List.set_cons_succ,
  List.getElem?_cons_zero, List.getElem?_cons_succ, Option.some.injEq, exists_eq_left', exists_eq_left, exists_eq', exists_eq, exists_and_left, exists_and_right, and_assoc, List.cons.injEq, V.str.injEq, V.ref.injEq, V.bl.injEq, V.int.injEq, V.ty.injEq, and_true, true_and, reduceCtorEq, false_and, and_false,
  Bool.not_true, Bool.not_false, Bool.false_eq_true, reduceIte, Bool.not_eq_true', decide_eq_true_eq, upd_same, cx_K, HO.ins.injEq, HO.tup.injEq, HO.lst.injEq, HO.dK.injEq, lk_Run_old, lk_Run_then, lk_Run_names, lm_Run_str, lk_Lead_tests, lk_Lead_old, lk_Lead_then, lk_Lead_names, lm_Lead_str, lk_Join_here, lk_Join_came, lk_Join_then, lk_Join_names, lm_Join_str, lk_Tool_marks, lk_Tool_told, lk_Tool_parts, lk_Tool_clears, lk_Tool_rows, lk_Tool_blank, lm_Tool_need_mark, lm_Tool_is_told, lm_Tool_ran, lm_Tool_led, lm_Tool_joined, lm_Tool_keeps, lm_Tool_need_row, lm_Tool_but, lm_Tool_without, lm_Tool_heeding, lm_Tool_len, lm_Tool_eq, lm_Tool_str, lk_Single_tool, lk_Single_begin, lm_Single_machine_steps, lm_Single_led, lm_Single_joined, lk_Ways_steps, lk_Ways_machine, lk_Ways_coming, lk_Ways_hearings, lk_Ways_elders, lm_Ways_edited, lm_Ways_heard, lk_Meeting_hearings, lk_Meeting_item, lk_Meeting_deeds, lk_Meeting_waiting, lk_Told_steps, lk_Told_machine, lk_Told_coming, lk_Told_hearings, lm_Told_is_closed])
local macro_rules | `(tactic| walk_at "rd*") => `(tactic| simp (config := {failIfUnchanged := false}) only [tVar, tC, tIsN, tNotN, tB, tAnd, tOr, tNot, tAndV, tOrV, tNotV, tIf, tNext, tSeq, tBreak, tCont, tDrop, tRet, tRetN, tIfS, gName, gNil, gCons, gTup, tAsg, tPar,
  iList, iTup, iRng1, iRng2, r_tFor, tFmt, tJs, or_false, false_or, exists_false, r_tLc, r_tDc, bf, iSeq, r_wipe0, r_wipe1, tOp, tUn, rI, rI0, rU, rEq, rNe, tTest, tChain, tFld, sFld, tNil, tCons, tTup, tLst, tCall, tMeth, tMake, tCB, tNoPart, tPart, tSl, rIxL, rIxT, rIxQ, rSlQ, r_tLc2, tXGet, tXIn, tXNotIn, sXPut, tXSetd, tXDisp1, iKeysX, iItemsX, tFrz, tFrzE, tRetag, rSlL, rIn, tBM0, tBM, rAppend, rExtend, rPop, rPopAt, rAny, rAll, tYes, iStr, rNewStrs, tM0, tM1, StX.tStar,
  L2.start, List.map_cons, List.map_nil, List.length_cons, List.length_nil, Nat.zero_add, Nat.reduceAdd, Nat.reduceSub, List.replicate_succ, List.replicate_zero, List.cons_append, List.nil_append, List.append_nil, List.set_cons_zero, List.set_cons_succ,
  List.getElem?_cons_zero, List.getElem?_cons_succ, Option.some.injEq, exists_eq_left', exists_eq_left, exists_eq', exists_eq, exists_and_left, exists_and_right, and_assoc, List.cons.injEq, V.str.injEq, V.ref.injEq, V.bl.injEq, V.int.injEq, V.ty.injEq, and_true, true_and, reduceCtorEq, false_and, and_false,
  Bool.not_true, Bool.not_false, Bool.false_eq_true, reduceIte, Bool.not_eq_true', decide_eq_true_eq, upd_same, cx_K, HO.ins.injEq, HO.tup.injEq, HO.lst.injEq, HO.dK.injEq, lk_Run_old, lk_Run_then, lk_Run_names, lm_Run_str, lk_Lead_tests, lk_Lead_old, lk_Lead_then, lk_Lead_names, lm_Lead_str, lk_Join_here, lk_Join_came, lk_Join_then, lk_Join_names, lm_Join_str, lk_Tool_marks, lk_Tool_told, lk_Tool_parts, lk_Tool_clears, lk_Tool_rows, lk_Tool_blank, lm_Tool_need_mark, lm_Tool_is_told, lm_Tool_ran, lm_Tool_led, lm_Tool_joined, lm_Tool_keeps, lm_Tool_need_row, lm_Tool_but, lm_Tool_without, lm_Tool_heeding, lm_Tool_len, lm_Tool_eq, lm_Tool_str, lk_Single_tool, lk_Single_begin, lm_Single_machine_steps, lm_Single_led, lm_Single_joined, lk_Ways_steps, lk_Ways_machine, lk_Ways_coming, lk_Ways_hearings, lk_Ways_elders, lm_Ways_edited, lm_Ways_heard, lk_Meeting_hearings, lk_Meeting_item, lk_Meeting_deeds, lk_Meeting_waiting, lk_Told_steps, lk_Told_machine, lk_Told_coming, lk_Told_hearings, lm_Told_is_closed, *])
section
variable {P : Program} {w : World} {K : PySem.W.Frag} {mg : Str → Option Value} {base : Heap}
/-! ### are_names, are_parts, fault_of, Tool(..) -/
def spAreNames (K : PySem.W.Frag) : Sp := fun vs H Q _ => ∃ a l, vs = [.ref a] ∧ SqS K H a (sv l) ∧ (∀ z ∈ l, isNm z = true) ∧ l.Nodup ∧ l.length ≤ 100 ∧ ∀ H', Same H H' → Q (.bl true) H'
theorem sc_are_names : FnScope ["value", "one"] ["value"] (defScope st_are_names) := ⟨rfl, rfl, rfl, by decide +kernel, rfl, by decide +kernel, by decide +kernel⟩
theorem x_are_names (T : Tx w K mg) : FX P w K mg base 2 "are_names" ["value"] (spAreNames K) := by
  obtain ⟨fd, F⟩ := fun_are_names T.c
  have G1 : FX P w K mg base 1 "is_sequence" ["value"] (spIsSeq K) := x_is_sequence T
  have G2 : FX P w K mg base 1 "is_name" ["value"] spIsName := x_is_name T
  have G3 : FX P w K mg base 1 "are_unlike" ["words"] (spUnlike K) := x_are_unlike T
  refine FX.of F T.g_are_names sc_are_names (fun _ _ _ _ _ _ us hl => match us, hl with | [_], _ => rfl) (fun vs H Q E h => ?_) (fun cdv A outer s H vs Q E hr h => ?_)
  · obtain ⟨a, l, rfl, _⟩ := h
    rfl
  · obtain ⟨a, l, rfl, hs, hn, nd, hz, k⟩ := h
    have hz' : (sv l).length ≤ 1000 := by rw [sv_len]; exact Nat.le_trans hz (by decide)
    refine ⟨_, pss_one (ps_ret (pe_and (pc G1 hr (pa1 (pv 0))) (pe_and (pb (cr_all rfl) T.n_all (pa1 (plc sc_are_names 1 (pi_seq (pv 0)) (fun _ _ _ _ _ => pc G2 hr (pa1 (pv 1)))))) (pe_one (pc G3 hr (pa1 (pv 0))))))), ?_⟩
    walk_at "rd"
    refine ⟨a, _, rfl, hs, fun H1 s1 => ⟨_, rfl, ?_⟩⟩
    walk_at "rd"
    refine lcS (Same.seqS s1 hs) fun {J G} wk hG D hD => lcA wk rfl hz' hD (fun v => .bl (isNm (vStr v))) hG (fun x hx H2 s2 _ Ky ky => ?_) fun H2 s2 e => ?_
    · obtain ⟨z, hzl, rfl⟩ := mem_sv hx
      walk_at "rd"
      exact ⟨z, rfl, Nat.le_trans (isNm_len (hn z hzl)) (by decide), fun H3 s3 => ky _ s3⟩
    · refine ⟨l.map isNm, all_sv (f := isNm) e, ?_⟩
      have ea : (l.map isNm).all id = true := by
        rw [List.all_map]
        exact List.all_eq_true.mpr fun z hz => hn z hz
      rw [ea]
      walk_at "rd"
      exact ⟨a, l, rfl, Same.seqS (s1.trans s2) hs, nd, Nat.le_trans hz (by decide), fun H3 s3 => k _ ((s1.trans s2).trans s3)⟩
def spAreParts (K : PySem.W.Frag) : Sp := fun vs H Q _ => ∃ a l, vs = [.ref a] ∧ SqS K H a (sv l) ∧ (∀ z ∈ l, z ∈ partsL) ∧ l.Nodup ∧ ("own" : Str) ∈ l ∧ ∀ H', Same H H' → Q (.bl true) H'
theorem sc_are_parts : FnScope ["value", "part"] ["value"] (defScope st_are_parts) := ⟨rfl, rfl, rfl, by decide +kernel, rfl, by decide +kernel, by decide +kernel⟩
theorem x_are_parts (T : Tx w K mg) : FX P w K mg base 2 "are_parts" ["value"] (spAreParts K) := by
  obtain ⟨fd, F⟩ := fun_are_parts T.c
  have G1 : FX P w K mg base 1 "is_sequence" ["value"] (spIsSeq K) := x_is_sequence T
  have G2 : FX P w K mg base 1 "is_word" ["value", "some"] (spIsWord K) := x_is_word T
  have G3 : FX P w K mg base 1 "are_unlike" ["words"] (spUnlike K) := x_are_unlike T
  refine FX.of F T.g_are_parts sc_are_parts (fun _ _ _ _ _ _ us hl => match us, hl with | [_], _ => rfl) (fun vs H Q E h => ?_) (fun cdv A outer s H vs Q E hr h => ?_)
  · obtain ⟨a, l, rfl, _⟩ := h
    rfl
  · obtain ⟨a, l, rfl, hs, hn, nd, ho, k⟩ := h
    have hz0 : l.length ≤ 3 := nodup_le (m := partsL) nd hn
    have hz' : (sv l).length ≤ 1000 := by rw [sv_len]; exact Nat.le_trans hz0 (by decide)
    refine ⟨_, pss_cons (ps_if (PW.pt (pw_or (pt_not (pt_val (pc G1 hr (pa1 (pv 0))))) (pw_or1 (pt_not (pt_val (pb (cr_all rfl) T.n_all (pa1 (plc sc_are_parts 1 (pi_seq (pv 0)) (fun _ _ _ _ _ => pc G2 hr (pa2 (pv 1) (pgr T.g_PARTS))))))))))) (pss_one (ps_ret pe_bl)) pss_nil)
      (pss_one (ps_ret (pe_and (pc G3 hr (pa1 (pv 0))) (pe_one (pe_cmpR op_in_seq pe_str (pv 0) (by rfl)))))), ?_⟩
    walk_at "rd"
    refine ⟨a, _, rfl, hs, fun H1 s1 => ⟨_, rfl, ?_⟩⟩
    walk_at "rd"
    refine lcS (Same.seqS s1 hs) fun {J G} wk hG D hD => lcA wk rfl hz' hD (fun v => .bl (partsL.any fun y => decide (y = vStr v))) hG (fun x hx H2 s2 _ Ky ky => ?_) fun H2 s2 e => ?_
    · obtain ⟨z, hzl, rfl⟩ := mem_sv hx
      walk_at "rd"
      exact ⟨z, _, partsL, rfl, .inr (T.t_PARTS _), fun H3 s3 => ky _ s3⟩
    · refine ⟨l.map fun z => partsL.any fun y => decide (y = z), all_sv (f := fun z => partsL.any fun y => decide (y = z)) e, ?_⟩
      have ea : (l.map fun z => partsL.any fun y => decide (y = z)).all id = true := by
        rw [List.all_map]
        exact List.all_eq_true.mpr fun z hz => mem_any (hn z hz)
      rw [ea]
      walk_at "rd"
      refine ⟨a, l, rfl, Same.seqS (s1.trans s2) hs, nd, Nat.le_trans hz0 (by decide), fun H3 s3 => ?_⟩
      walk_at "rd"
      refine ⟨_, Same.seqS ((s1.trans s2).trans s3) hs, rfl, flat_sv _, ?_⟩
      rw [inV_str, mem_any ho]
      exact k _ ((s1.trans s2).trans s3)
theorem cut_tail {a : Str} {r : List Str} : cutV (sv (a :: r)) (some 1) none = sv r := by
  unfold cutV
  have e1 : HT.sIx (sv (a :: r)).length 0 (some 1) = 1 := by
    show (if (1 : Int) < 0 then ((1 : Int) + ((sv (a :: r)).length : Nat)).toNat else min (1 : Int).toNat (sv (a :: r)).length) = 1
    rw [if_neg (by decide), sv_len, List.length_cons]
    show min 1 (r.length + 1) = 1
    omega
  have e2 : HT.sIx (sv (a :: r)).length (sv (a :: r)).length none = (sv (a :: r)).length := rfl
  rw [e1, e2]
  show ((sv r).take _) = sv r
  rw [sv_len, List.length_cons]
  exact List.take_of_length_le (by rw [sv_len]; omega)
/-- arguments that a tool's maker takes -/
structure ArgsOk (m t p : List Str) (rows : List RowD) : Prop where
  names : ∀ z ∈ m, isNm z = true
  nd : m.Nodup
  ne : m ≠ []
  few : m.length ≤ 4
  tnames : ∀ z ∈ t, isNm z = true
  tnd : t.Nodup
  told : ∀ z ∈ t, z ∈ m.tail
  pin : ∀ z ∈ p, z ∈ partsL
  pnd : p.Nodup
  own : ("own" : Str) ∈ p
  fine : ∀ r ∈ rows, r.fine
  mine : ∀ r ∈ rows, ∀ n ∈ r.names, n ∈ m
  lead : ∀ r ∈ rows, r.badLead (m.headD Str.empty) = false
  short : rows.length ≤ 10
theorem rows_mem {H : Hp} {rs : List V} {ds : List RowD} (h : RowsAt K H rs ds) : ∀ v ∈ rs, ∃ d ∈ ds, ∃ a, v = .ref a ∧ RowAt K H a d := by
  unfold RowsAt at h
  induction h with
  | nil => intro v hv; cases hv
  | cons r t ih =>
    intro v hv
    rcases List.mem_cons.mp hv with e | hv
    · subst e
      exact ⟨_, List.mem_cons_self, r⟩
    · obtain ⟨d, hd, x⟩ := ih v hv
      exact ⟨d, List.mem_cons_of_mem _ hd, x⟩
theorem all_true {l : List V} (h : ∀ y ∈ l, y = .bl true) : l = (List.replicate l.length true).map V.bl := by
  induction l with
  | nil => rfl
  | cons a r ih =>
    rw [List.length_cons, List.replicate_succ, List.map_cons, ← ih fun y hy => h y (List.mem_cons_of_mem _ hy), h a List.mem_cons_self]
theorem rep_all {n : Nat} : (List.replicate n true).all id = true := List.all_eq_true.mpr fun b hb => by rw [(List.mem_replicate.mp hb).2]; rfl
theorem rep_any {n : Nat} : (List.replicate n false).any id = false := by
  induction n with
  | zero => rfl
  | succ n ih => rw [List.replicate_succ, List.any_cons, ih]; rfl
theorem map_const {α β : Type} {l : List α} {b : β} : (l.map fun _ => b) = List.replicate l.length b := by
  induction l with
  | nil => rfl
  | cons a r ih => rw [List.map_cons, ih]; rfl
theorem names_len (d : RowD) : d.names.length ≤ 3 := by
  unfold RowD.names
  refine Nat.le_trans (List.length_filter_le _ _) ?_
  cases d <;> simp [RowD.words]
theorem isC_row (d : RowD) : isC "Row" d = true := by
  have e : ((("Row" : Str) == "Run" || ("Row" : Str) == "Row") = true ∧ (("Row" : Str) == "Lead" || ("Row" : Str) == "Row") = true ∧ (("Row" : Str) == "Join" || ("Row" : Str) == "Row") = true) := by decide +kernel
  cases d
  · exact e.1
  · exact e.2.1
  · exact e.2.2
open Classical in
noncomputable def nmsOf (K : PySem.W.Frag) (H : Hp) (g : RowD → Prop) (v : V) : List V := if h : ∃ d, g d ∧ ∃ a, v = .ref a ∧ RowAt K H a d then List.replicate (choose h).names.length (.bl true) else []
theorem nms_len {H : Hp} {g : RowD → Prop} (v : V) : (nmsOf K H g v).length ≤ 3 := by
  unfold nmsOf
  split
  · rw [List.length_replicate]; exact names_len _
  · exact Nat.zero_le _
theorem nms_true {H : Hp} {g : RowD → Prop} {v y : V} (h : y ∈ nmsOf K H g v) : y = .bl true := by
  unfold nmsOf at h
  split at h
  · exact (List.mem_replicate.mp h).2
  · cases h
/-- where a row's names stand -/
theorem RowAt.nm {H : Hp} {a : Addr} {d : RowD} (T : Tx w K mg) (h : RowAt K H a d) : ∃ C dx fs n, H a = some (.ins C dx fs) ∧ Cls K C ∧ NoAttr K C "names" ∧ fs.lookup ("names" : Str) = some (.ref n) ∧ H n = some (.tup (sv d.names)) := by
  cases d with
  | run old th => obtain ⟨dx, n, h1, h2⟩ := h; exact ⟨_, dx, _, n, h1, T.cl_Run, T.na_Run_names, rfl, h2⟩
  | lead ts old th => obtain ⟨dx, t, n, h1, h2, h3⟩ := h; exact ⟨_, dx, _, n, h1, T.cl_Lead, T.na_Lead_names, rfl, h3⟩
  | join here came th => obtain ⟨dx, n, h1, h2⟩ := h; exact ⟨_, dx, _, n, h1, T.cl_Join, T.na_Join_names, rfl, h2⟩
theorem lcS2 {g : TG} {tt tt1 : TT} {wi1 : TI} {g1 : TG} {te : TE} {vs vs1 : List Nat} {σ : L2.St} {H1 : Hp} {a : Addr} {xs : List V} {Qd : Addr → Hp → Prop} (hs : SqS K H1 a xs) (h : ∀ {J : It} {G : Hp → Prop}, Walk J xs.length G (YAt xs) → (∀ H, Same H1 H → G H) → ∀ D, H1 D = none → LcW2 J g tt wi1 g1 tt1 te vs vs1 σ H1 D (Qd D)) :
    ((∃ xs, SqL K H1 a xs) ∧ ∀ D, H1 D = none → LcW2 (Itl K a) g tt wi1 g1 tt1 te vs vs1 σ H1 D (Qd D)) ∨ ((∃ xs, SqT K H1 a xs) ∧ ∀ D, H1 D = none → LcW2 (Itt K a) g tt wi1 g1 tt1 te vs vs1 σ H1 D (Qd D)) := by
  rcases hs with hs | hs
  · exact .inl ⟨⟨_, hs⟩, h walk_list fun H s => s.seq hs⟩
  · exact .inr ⟨⟨_, hs⟩, h walk_tup fun H s => Same.seqT s hs⟩
def spFaultOf (K : PySem.W.Frag) : Sp := fun vs H Q _ => ∃ m t p r c lm lt lp rs ds, vs = [.ref m, .ref t, .ref p, .bl c, .ref r] ∧ SqP H m (sv lm) ∧ SqP H t (sv lt) ∧ SqP H p (sv lp) ∧ SqP H r rs ∧ RowsAt K H rs ds ∧ ArgsOk lm lt lp ds ∧
  ∀ H', Same H H' → Q .non H'
theorem sc_fault_of : FnScope ["marks", "told", "parts", "clears", "rows", "mark", "row", "name"] ["marks", "told", "parts", "clears", "rows"] (defScope st_fault_of) := ⟨rfl, rfl, rfl, by decide +kernel, rfl, by decide +kernel, by decide +kernel⟩
theorem x_fault_of (T : Tx w K mg) : FX P w K mg base 3 "fault_of" ["marks", "told", "parts", "clears", "rows"] (spFaultOf K) := by
  obtain ⟨fd, F⟩ := fun_fault_of T.c
  have G1 : FX P w K mg base 2 "are_names" ["value"] (spAreNames K) := x_are_names T
  have G2 : FX P w K mg base 2 "are_parts" ["value"] (spAreParts K) := x_are_parts T
  have G3 : FX P w K mg base 1 "is_sequence" ["value"] (spIsSeq K) := x_is_sequence T
  refine FX.of F T.g_fault_of sc_fault_of (fun _ _ _ _ _ _ us hl => match us, hl with | [_, _, _, _, _], _ => rfl) (fun vs H Q E h => ?_) (fun cdv A outer s H vs Q E hr h => ?_)
  · obtain ⟨m, t, p, r, c, lm, lt, lp, rs, ds, rfl, _⟩ := h
    rfl
  · obtain ⟨m, t, p, r, c, lm, lt, lp, rs, ds, rfl, hm, ht, hp, hrr, hrows, ok, k⟩ := h
    refine ⟨_, pss_cons (ps_if (PW.pt (pw_or (pt_not (pt_val (pc G1 hr (pa1 (pv 0))))) (pw_or1 (pt_cmpR op_eq (pb call_len_seq T.n_len (pa1 (pv 0))) pe_int (nomark _))))) (pss_one (ps_ret pe_str)) pss_nil)
      (pss_cons (ps_if (PW.pt (pw_or (pt_not (pt_val (pc G1 hr (pa1 (pv 1))))) (pw_or1 (pt_not (pt_val (pb (cr_all rfl) T.n_all (pa1 (plc sc_fault_of 5 (pi_seq (pv 1)) (fun _ _ _ _ _ => pe_cmpR op_in_seq (pv 5) (pe_slice sl_seq (pv 0) (po_some pe_int) po_none) (by rfl)))))))))) (pss_one (ps_ret pe_str)) pss_nil)
      (pss_cons (ps_if (pt_not (pt_val (pc G2 hr (pa1 (pv 2))))) (pss_one (ps_ret pe_str)) pss_nil)
      (pss_cons (ps_if (pt_not (pt_val (pb isi_bool T.n_isinstance (pa2 (pv 3) (pty (n := "bool") T.n_bool))))) (pss_one (ps_ret pe_str)) pss_nil)
      (pss_cons (ps_if (PW.pt (pw_or (pt_not (pt_val (pc G3 hr (pa1 (pv 4))))) (pw_or1 (pt_not (pt_val (pb (cr_all rfl) T.n_all (pa1 (plc sc_fault_of 6 (pi_seq (pv 4)) (fun _ _ _ _ _ => pb (isi_row T "Row") T.n_isinstance (pa2 (pv 6) (pgr T.g_Row))))))))))) (pss_one (ps_ret pe_str)) pss_nil)
      (pss_cons (ps_if (pt_not (pt_val (pb (cr_all rfl) T.n_all (pa1 (plc2 sc_fault_of 6 7 (pi_seq (pv 4)) (fun _ _ _ _ _ => pi_tup (pe_fld (pv 6) rfl)) (fun _ _ _ _ _ => pe_cmpR op_in_seq (pv 7) (pv 0) (by rfl))))))) (pss_one (ps_ret pe_str)) pss_nil)
      (pss_one (ps_ret (pe_ifExp (pt_val (pb (cr_any rfl) T.n_any (pa1 (plc sc_fault_of 6 (pi_seq (pv 4)) (fun _ _ _ _ _ => pe_and (pb (isi_row T "Lead") T.n_isinstance (pa2 (pv 6) (pgr T.g_Lead))) (pe_one (pe_cmpR op_eq (pe_fld (pv 6) rfl) (pe_ix ix_seq (pv 0) pe_int (fun _ _ => rfl)) (nomark _)))))))) pe_str pe_non)))))))), ?_⟩
    have fl := T.fl
    walk_at "rd"
    refine ⟨m, lm, rfl, hm.s, ok.names, ok.nd, Nat.le_trans ok.few (by decide), fun H1 s1 => ⟨_, rfl, ?_⟩⟩
    walk_at "rd"
    refine ⟨sv lm, (hm.same s1).s, rfl, ?_⟩
    refine iteN (by rw [sv_len]; intro e; exact ok.ne (List.length_eq_zero_iff.mp (by omega))) ?_
    have tl : lt.length ≤ 4 := Nat.le_trans (nodup_le ok.tnd fun z hz => List.mem_of_mem_tail (ok.told z hz)) ok.few
    refine ⟨t, lt, rfl, (ht.same s1).s, ok.tnames, ok.tnd, Nat.le_trans tl (by decide), fun H2 s2 => ⟨_, rfl, ?_⟩⟩
    walk_at "rd"
    have s12 := s1.trans s2
    refine lcS (ht.same s12).s fun {J G} wk hG D hD => lcA wk rfl (by rw [sv_len]; omega) hD (fun _ => .bl true) hG (fun x hx H3 s3 _ Ky ky => ?_) fun H3 s3 e3 => ?_
    · obtain ⟨z, hzl, rfl⟩ := mem_sv hx
      walk_at "rd"
      refine ⟨_, ((hm.same s12).same s3).s, fun p2 H4 s4 q4 => ?_⟩
      have ec : cutV (sv lm) (some 1) none = sv lm.tail := by
        cases lm with
        | nil => rfl
        | cons a r => exact cut_tail
      rw [ec] at q4
      refine ⟨_, q4, rfl, flat_sv _, ?_⟩
      rw [inV_str, mem_any (ok.told z hzl)]
      exact ky _ s4
    refine ⟨List.replicate (sv lt).length true, SqL.of (by rw [e3, map_const, List.map_replicate]), ?_⟩
    rw [rep_all]
    walk_at "rd"
    have s13 := s12.trans s3
    refine ⟨p, lp, rfl, (hp.same s13).s, ok.pin, ok.pnd, ok.own, fun H4 s4 => ⟨_, rfl, ?_⟩⟩
    walk_at "rd"
    have s14 := s13.trans s4
    refine ⟨r, rs, rfl, (hrr.same s14).s, fun H5 s5 => ⟨_, rfl, ?_⟩⟩
    walk_at "rd"
    have s15 := s14.trans s5
    have rl : rs.length ≤ 10 := by rw [← Paired.length hrows]; exact ok.short
    refine lcS (hrr.same s15).s fun {J G} wk hG D2 hD2 => lcA wk rfl (by omega) hD2 (fun _ => .bl true) hG (fun x hx H6 s6 _ Ky ky => ?_) fun H6 s6 e6 => ?_
    · obtain ⟨d, hd, a, rfl, hra⟩ := rows_mem hrows x hx
      walk_at "rd"
      refine ⟨d, hra.same (s15.trans s6), ?_⟩
      rw [isC_row]
      exact ky _ (Same.refl _)
    refine ⟨List.replicate rs.length true, SqL.of (by rw [e6, map_const, List.map_replicate]), ?_⟩
    rw [rep_all]
    walk_at "rd"
    have s16 := s15.trans s6
    refine lcS2 (hrr.same s16).s fun {J G} wk hG D3 hD3 => lc2W (B := 3) wk rfl (by omega) hD3 hG (nmsOf K H fun d => d ∈ ds) (fun x _ => nms_len x) (fun x hx H7 acc s7 eD Nx hN hl => ?_) fun H7 s7 e7 => ?_
    · have hex : ∃ d, d ∈ ds ∧ ∃ a, x = .ref a ∧ RowAt K H a d := by
        obtain ⟨d, hd, a, e, h⟩ := rows_mem hrows x hx
        exact ⟨d, hd, a, e, h⟩
      have en : nmsOf K H (fun d => d ∈ ds) x = List.replicate (Classical.choose hex).names.length (.bl true) := dif_pos hex
      rw [en] at hN hl
      obtain ⟨hd, a, rfl, hra⟩ := Classical.choose_spec hex
      generalize Classical.choose hex = d at hd hra hN hl
      obtain ⟨C, dx, fs, n, q1, q2, q3, q4, q5⟩ := (hra.same (s16.trans s7)).nm T
      walk_at "rd*"
      refine ⟨⟨_, SqT.of q5⟩, ?_⟩
      have er : List.replicate d.names.length (V.bl true) = (sv d.names).map fun _ => V.bl true := by rw [map_const, sv_len]
      rw [er] at hN
      have nl : (sv d.names).length = d.names.length := sv_len _
      have wk2 : Walk (Itt K n) (sv d.names).length (fun H => SqT K H n (sv d.names)) (YAt (sv d.names)) := walk_tup
      refine ⟨fun j k H' => k = (sv d.names).length - j ∧ j ≤ (sv d.names).length ∧ Same H6 H' ∧ H' n = some (.tup (sv d.names)) ∧ H' D3 = some (.lst (acc ++ ((sv d.names).take j).map fun _ => V.bl true)), ⟨(sv d.names).length, by simp, Nat.zero_le _, s7, q5, by simpa using eD⟩, ?_⟩
      rintro j k H' ⟨rfl, hj, s8, en8, e8⟩
      by_cases hlt : j < (sv d.names).length
      · refine .inr ⟨wk2.goes j H' hlt (SqT.of en8), fun H'' => Same H6 H'' ∧ H'' n = some (.tup (sv d.names)) ∧ H'' D3 = some (.lst (acc ++ ((sv d.names).take (j + 1)).map fun _ => V.bl true)), fun H'' q => ⟨(sv d.names).length - (j + 1), by omega, rfl, hlt, q⟩, fun x H'' y => ?_⟩
        obtain ⟨rfl, hx⟩ := wk2.yields j H' x H'' hlt (SqT.of en8) y
        obtain ⟨z, hzl, rfl⟩ := mem_sv (List.mem_of_getElem? hx)
        refine ⟨_, ((hm.same s16).same s8).s, rfl, flat_sv _, _, e8, ?_, ?_⟩
        · rw [List.length_append, List.length_map, List.length_take]
          rw [List.length_replicate] at hl
          exact len_lt (by omega)
        · rw [inV_str, mem_any (ok.mine d hd z hzl)]
          refine ⟨fun b o eb => ?_, ?_, ?_⟩
          · rw [upd_ne (ne_of_none eb hD3)]
            exact s8 _ _ eb
          · rw [upd_ne (ne_of en8 e8 (fun z => nomatch z))]
            exact en8
          · rw [upd_same, take_snoc hx, List.map_append, List.map_cons, List.map_nil, List.append_assoc]
      · have ej : j = (sv d.names).length := by omega
        subst ej
        refine .inl ⟨wk2.stops H' (SqT.of en8), hN H' s8 ?_⟩
        rw [e8, List.take_length]
    have ea := all_true (l := rs.flatMap (nmsOf K H fun d => d ∈ ds)) fun y hy => by
      obtain ⟨v, _, hv⟩ := List.mem_flatMap.mp hy
      exact nms_true hv
    refine ⟨_, SqL.of (by rw [e7, ea]), ?_⟩
    rw [rep_all]
    walk_at "rd"
    have s17 := s16.trans s7
    refine lcS (hrr.same s17).s fun {J G} wk hG D4 hD4 => lcA wk rfl (by omega) hD4 (fun _ => .bl false) hG (fun x hx H8 s8 _ Ky ky => ?_) fun H8 s8 e8 => ?_
    · obtain ⟨d, hd, a, rfl, hra⟩ := rows_mem hrows x hx
      have hr2 := hra.same (s17.trans s8)
      walk_at "rd"
      refine ⟨d, hr2, ?_⟩
      match d, hr2, hd with
      | .run old th, _, _ => rw [isC_tab.2.2.2.1]; exact ky _ (Same.refl _)
      | .join x y th, _, _ => rw [isC_tab.2.2.2.2.2.1]; exact ky _ (Same.refl _)
      | .lead ts old th, ⟨dx, t2, n, g1, g2, g3⟩, hd =>
        rw [isC_tab.2.2.2.2.1]
        walk_at "rd*"
        have hb := ok.lead _ hd
        have ne : lm ≠ [] := ok.ne
        refine ⟨_, ((hm.same s17).same s8).s, .str (lm.headD Str.empty), ?_, rfl, ?_⟩
        · cases lm with
          | nil => exact absurd rfl ne
          | cons a r => exact atI_nat (j := 0) rfl
        · have ef : decide (V.str old = V.str (lm.headD Str.empty)) = false := decide_eq_false fun e => by
            have e2 := V.str.inj e
            have e3 : decide (old = lm.headD Str.empty) = false := hb
            rw [decide_eq_true e2] at e3
            cases e3
          rw [ef]
          exact ky _ (Same.refl _)
    refine ⟨List.replicate rs.length false, SqL.of (by rw [e8, map_const, List.map_replicate]), ?_⟩
    rw [rep_any]
    walk_at "rd"
    exact k _ (s17.trans s8)
/-- the tool that its maker makes -/
def mkTool (m t p : List Str) (c : Bool) (rows : List RowD) : ToolD := ⟨m, m.filter (fun z => t.any fun y => decide (y = z)), partsL.filter (fun z => p.any fun y => decide (y = z)), c, rows⟩
theorem ArgsOk.tool {m t p : List Str} {rows : List RowD} (k : ArgsOk m t p rows) (c : Bool) : (mkTool m t p c rows).ok := by
  have ft : ∀ z, z ∈ (mkTool m t p c rows).told ↔ z ∈ m ∧ z ∈ t := fun z => by
    show z ∈ m.filter _ ↔ _
    rw [List.mem_filter]
    exact ⟨fun h => ⟨h.1, any_mem h.2⟩, fun h => ⟨h.1, mem_any h.2⟩⟩
  have fp : ∀ z, z ∈ (mkTool m t p c rows).parts ↔ z ∈ partsL ∧ z ∈ p := fun z => by
    show z ∈ List.filter (fun z => p.any fun y => decide (y = z)) partsL ↔ _
    rw [List.mem_filter]
    exact ⟨fun h => ⟨h.1, any_mem h.2⟩, fun h => ⟨h.1, mem_any h.2⟩⟩
  refine ⟨k.names, k.nd, k.ne, k.few, ?_, fun z hz => k.told z ((ft z).mp hz).2, ?_, (fp _).mpr ⟨k.pin _ k.own, k.own⟩, k.fine, k.mine, k.lead, k.short⟩
  · show m.filter _ = m.filter _
    refine List.filter_congr fun z hz => ?_
    rw [Bool.eq_iff_iff]
    exact ⟨fun h => mem_any ((ft z).mpr ⟨hz, any_mem h⟩), fun h => mem_any ((ft z).mp (any_mem h)).2⟩
  · refine List.filter_congr (p := fun z => p.any fun y => decide (y = z)) fun z hz => ?_
    rw [Bool.eq_iff_iff]
    exact ⟨fun h => mem_any ((fp z).mpr ⟨hz, any_mem h⟩), fun h => mem_any ((fp z).mp (any_mem h)).2⟩
def spToolInit (K : PySem.W.Frag) : Sp := fun vs H Q _ => ∃ x dx m t p r c lm lt lp rs ds, vs = [.ref x, .ref m, .ref t, .ref p, .bl c, .ref r] ∧ H x = some (.ins (He.ga K "Tool") dx []) ∧ SqP H m (sv lm) ∧ SqP H t (sv lt) ∧ SqP H p (sv lp) ∧ SqP H r rs ∧ RowsAt K H rs ds ∧ ArgsOk lm lt lp ds ∧
  ∀ H', Ex [x] H H' → ToolAt K H' x (mkTool lm lt lp c ds) → Q .non H'
theorem sc_Tool_init : FnScope ["self", "marks", "told", "parts", "clears", "rows", "fault", "mark", "part"] ["self", "marks", "told", "parts", "clears", "rows"] (defScope st_Tool_init) := ⟨rfl, rfl, rfl, by decide +kernel, rfl, by decide +kernel, by decide +kernel⟩
theorem x_Tool_init (T : Tx w K mg) : CX1 P w K mg base 4 "Tool" ["self", "marks", "told", "parts", "clears", "rows"] (spToolInit K) := by
  obtain ⟨fd, F⟩ := fun_Tool_init T.c
  have G1 : FX P w K mg base 3 "fault_of" ["marks", "told", "parts", "clears", "rows"] (spFaultOf K) := x_fault_of T
  refine CX1.of F T.g_Tool T.mk_Tool sc_Tool_init (fun _ _ _ _ _ _ us hl => match us, hl with | [_, _, _, _, _, _], _ => rfl) (fun vs H Q E h => ?_) (fun cdv A outer s H vs Q E hr h => ?_)
  · obtain ⟨x, dx, m, t, p, r, c, lm, lt, lp, rs, ds, rfl, _⟩ := h
    rfl
  · obtain ⟨x, dx, m, t, p, r, c, lm, lt, lp, rs, ds, rfl, hx, hm, ht, hp, hrr, hrows, ok, k⟩ := h
    refine ⟨_, pss_cons (ps_set (i := 6) sc_Tool_init.nd rfl (Or.inl rfl) (pc G1 hr (pa_cons (pv 1) (pa_cons (pv 2) (pa_cons (pv 3) (pa2 (pv 4) (pv 5)))))))
      (pss_cons (ps_if (pt_cmpR op_notN (pv 6) pe_non (nomark _)) pss_never pss_nil)
      (pss_cons (ps_fld (pv 0) (pbt call_tupQ T.n_tuple (pa1 (pv 1))) rfl)
      (pss_cons (ps_fld (pv 0) (pbt call_tupQ T.n_tuple (pa1 (plcI sc_Tool_init 7 (pi_seq (pv 1)) (fun _ _ _ _ _ => pt_cmpR op_in_seq (pv 7) (pv 2) (by rfl)) (fun _ _ _ _ _ => pv 7)))) rfl)
      (pss_cons (ps_fld (pv 0) (pbt call_tupQ T.n_tuple (pa1 (plcI sc_Tool_init 8 (pi_seq (pgr T.g_PARTS)) (fun _ _ _ _ _ => pt_cmpR op_in_seq (pv 8) (pv 3) (by rfl)) (fun _ _ _ _ _ => pv 8)))) rfl)
      (pss_cons (ps_fld (pv 0) (pv 4) rfl)
      (pss_cons (ps_fld (pv 0) (pbt call_tupQ T.n_tuple (pa1 (pv 5))) rfl)
      (pss_one (ps_fld (pv 0) (pe_ix ix_tup (pe_fld (pv 0) rfl) pe_int (fun _ _ => rfl)) rfl)))))))), ?_⟩
    have fl := T.fl
    walk_at "rd"
    refine ⟨m, t, p, r, c, lm, lt, lp, rs, ds, rfl, hm, ht, hp, hrr, hrows, ok, fun H1 s1 => ?_⟩
    refine iteN (by decide) ?_
    refine ⟨_, hm.same s1, fun l1 H2 s2 e1 => ?_⟩
    have s12 := s1.trans s2
    have hx2 := s12 _ _ hx
    walk_at "rd*"
    refine ⟨by decide, ?_⟩
    have hxn : ∀ {b : Addr} {o : HO}, H b = some o → o ≠ .ins (He.ga K "Tool") dx [] → b ≠ x := fun e ne z => by
      rw [z, hx] at e
      exact ne (Option.some.inj e).symm
    have lx1 : ∀ {G : Hp} {o o' : HO} {b : Addr} {l : HO}, G b = some l → G x = some o → (∀ C d f, l ≠ .ins C d f) → (∃ C d f, o = .ins C d f) → upd G x o' b = some l := fun e ex ne ⟨C, d, f, eo⟩ => by
      rw [upd_ne (fun z => by rw [z, ex] at e; cases e; exact ne _ _ _ eo)]
      exact e
    have E1 : Ex [x] H (upd H2 x (HO.ins (He.ga K "Tool") dx (putF "marks" (V.ref l1) []))) := (Ex.of_same s12).trans (Ex.put (by simp))
    have mE : ∀ {G : Hp} {a : Addr} {l : List V}, Ex [x] H G → SqP H a l → SqP G a l := fun E h => by
      rcases h with h | h
      · exact .inl (E _ _ h (by simpa using hxn h (by simp)))
      · exact .inr (E _ _ h (by simpa using hxn h (by simp)))
    have l1x := lx1 (o' := .ins (He.ga K "Tool") dx (putF "marks" (V.ref l1) [])) e1 hx2 (by simp) ⟨_, _, _, rfl⟩
    have x1 : upd H2 x (HO.ins (He.ga K "Tool") dx (putF "marks" (V.ref l1) [])) x = some (.ins (He.ga K "Tool") dx (putF "marks" (V.ref l1) [])) := upd_same
    generalize hG1 : upd H2 x (HO.ins (He.ga K "Tool") dx (putF "marks" (V.ref l1) [])) = G1 at *
    refine lcS (mE E1 hm).s fun {J G} wk hG D hD => lcF wk rfl (by rw [sv_len]; exact Nat.le_trans ok.few (by decide)) hD (fun v => lt.any fun y => decide (y = vStr v)) id hG (fun z hz H3 s3 _ Ky Kn ky kn => ?_) fun H3 s3 e3 => ?_
    · obtain ⟨z, hzl, rfl⟩ := mem_sv hz
      walk_at "rd"
      refine ⟨_, ((mE E1 ht).same s3).s, rfl, flat_sv _, ?_⟩
      rw [inV_str]
      cases eb : lt.any fun y => decide (y = z) with
      | true => exact iteBT rfl (ky eb _ (Same.refl _))
      | false => exact iteBF rfl (kn eb _ (Same.refl _))
    have e3' : H3 D = some (.lst (sv (lm.filter fun z => lt.any fun y => decide (y = z)))) := by
      rw [e3, List.map_id]
      unfold sv
      rw [List.filter_map]
      rfl
    refine ⟨_, .inl e3', fun l2 H4 s4 e4 => ?_⟩
    have s34 := s3.trans s4
    have x4 := s34 _ _ x1
    have l14 := s34 _ _ l1x
    have E4 : Ex [x] H H4 := E1.trans (Ex.of_same s34)
    walk_at "rd*"
    refine ⟨by show 1 < 1000; decide, ?_⟩
    have E5 : Ex [x] H (upd H4 x (HO.ins (He.ga K "Tool") dx (putF "told" (V.ref l2) (putF "marks" (V.ref l1) [])))) := E4.trans (Ex.put (by simp))
    have l15 := lx1 (o' := .ins (He.ga K "Tool") dx (putF "told" (V.ref l2) (putF "marks" (V.ref l1) []))) l14 x4 (by simp) ⟨_, _, _, rfl⟩
    have l25 := lx1 (o' := .ins (He.ga K "Tool") dx (putF "told" (V.ref l2) (putF "marks" (V.ref l1) []))) e4 x4 (by simp) ⟨_, _, _, rfl⟩
    have x5 : upd H4 x (HO.ins (He.ga K "Tool") dx (putF "told" (V.ref l2) (putF "marks" (V.ref l1) []))) x = some (.ins (He.ga K "Tool") dx (putF "told" (V.ref l2) (putF "marks" (V.ref l1) []))) := upd_same
    generalize hG5 : upd H4 x (HO.ins (He.ga K "Tool") dx (putF "told" (V.ref l2) (putF "marks" (V.ref l1) []))) = G5 at *
    refine lcS (.inr (T.t_PARTS G5)) fun {J G} wk hG D2 hD2 => lcF wk rfl (by decide) hD2 (fun v => lp.any fun y => decide (y = vStr v)) id hG (fun z hz H6 s6 _ Ky Kn ky kn => ?_) fun H6 s6 e6 => ?_
    · obtain ⟨z, hzl, rfl⟩ := mem_sv hz
      walk_at "rd"
      refine ⟨_, ((mE E5 hp).same s6).s, rfl, flat_sv _, ?_⟩
      rw [inV_str]
      cases eb : lp.any fun y => decide (y = z) with
      | true => exact iteBT rfl (ky eb _ (Same.refl _))
      | false => exact iteBF rfl (kn eb _ (Same.refl _))
    have e6' : H6 D2 = some (.lst (sv (partsL.filter fun z => lp.any fun y => decide (y = z)))) := by
      rw [e6, List.map_id]
      unfold sv
      rw [List.filter_map]
      rfl
    refine ⟨_, .inl e6', fun l3 H7 s7 e7 => ?_⟩
    have s67 := s6.trans s7
    have x7 := s67 _ _ x5
    have l17 := s67 _ _ l15
    have l27 := s67 _ _ l25
    have E7 : Ex [x] H H7 := E5.trans (Ex.of_same s67)
    walk_at "rd*"
    refine ⟨by show 2 < 1000; decide, by show 3 < 1000; decide, ?_⟩
    rw [upd_upd]
    generalize hf4 : putF "clears" (V.bl c) (putF "parts" (V.ref l3) (putF "told" (V.ref l2) (putF "marks" (V.ref l1) []))) = f4 at *
    have E8 : Ex [x] H (upd H7 x (HO.ins (He.ga K "Tool") dx f4)) := E7.trans (Ex.put (by simp))
    have l18 := lx1 (o' := .ins (He.ga K "Tool") dx f4) l17 x7 (by simp) ⟨_, _, _, rfl⟩
    have l28 := lx1 (o' := .ins (He.ga K "Tool") dx f4) l27 x7 (by simp) ⟨_, _, _, rfl⟩
    have l38 := lx1 (o' := .ins (He.ga K "Tool") dx f4) e7 x7 (by simp) ⟨_, _, _, rfl⟩
    have x8 : upd H7 x (HO.ins (He.ga K "Tool") dx f4) x = some (.ins (He.ga K "Tool") dx f4) := upd_same
    generalize hG8 : upd H7 x (HO.ins (He.ga K "Tool") dx f4) = G8 at *
    refine ⟨rs, mE E8 hrr, fun l4 H9 s9 e9 => ?_⟩
    have x9 := s9 _ _ x8
    have l19 := s9 _ _ l18
    have l29 := s9 _ _ l28
    have l39 := s9 _ _ l38
    have E9 : Ex [x] H H9 := E8.trans (Ex.of_same s9)
    walk_at "rd*"
    have l1a := lx1 (o' := .ins (He.ga K "Tool") dx (putF "rows" (V.ref l4) f4)) l19 x9 (by simp) ⟨_, _, _, rfl⟩
    refine ⟨by rw [← hf4]; show 4 < 1000; decide, .ref l1, by rw [← hf4]; rfl, l1, rfl, sv lm, SqT.of l1a, .str (lm.headD Str.empty), ?_, by rw [← hf4]; show 5 < 1000; decide, ?_⟩
    · have ne : lm ≠ [] := ok.ne
      cases lm with
      | nil => exact absurd rfl ne
      | cons a r => exact atI_nat (j := 0) rfl
    rw [upd_upd]
    have ef : putF "blank" (V.str (lm.headD Str.empty)) (putF "rows" (V.ref l4) f4) = fTool l1 l2 l3 c l4 (lm.headD Str.empty) := by rw [← hf4]; rfl
    rw [ef]
    have EZ : Ex [x] H (upd H9 x (.ins (He.ga K "Tool") dx (fTool l1 l2 l3 c l4 (lm.headD Str.empty)))) := E9.trans (Ex.put (by simp))
    have lz : ∀ {b : Addr} {l : HO}, H9 b = some l → (∀ C d f, l ≠ .ins C d f) → upd H9 x (.ins (He.ga K "Tool") dx (fTool l1 l2 l3 c l4 (lm.headD Str.empty))) b = some l := fun e n => lx1 e x9 n ⟨_, _, _, rfl⟩
    refine k _ EZ ⟨dx, l1, l2, l3, l4, rs, upd_same, lz l19 (by simp), lz l29 (by simp), lz l39 (by simp), lz e9 (by simp), ?_⟩
    refine L2.Paired.mapP hrows fun d v ⟨a, e, hra⟩ => ⟨a, e, ?_⟩
    cases d with
    | run old th =>
      obtain ⟨dx2, n, g1, g2⟩ := hra
      exact ⟨dx2, n, EZ _ _ g1 (by simpa using hxn g1 (by simp [fRun])), EZ _ _ g2 (by simpa using hxn g2 (by simp))⟩
    | lead ts old th =>
      obtain ⟨dx2, t2, n, g1, g2, g3⟩ := hra
      exact ⟨dx2, t2, n, EZ _ _ g1 (by simpa using hxn g1 (by simp [fLead])), EZ _ _ g2 (by simpa using hxn g2 (by simp)), EZ _ _ g3 (by simpa using hxn g3 (by simp))⟩
    | join here came th =>
      obtain ⟨dx2, n, g1, g2⟩ := hra
      exact ⟨dx2, n, EZ _ _ g1 (by simpa using hxn g1 (by simp [fJoin])), EZ _ _ g2 (by simpa using hxn g2 (by simp))⟩
end
end Lm
set_option Elab.async false
set_option linter.all false
set_option maxRecDepth 100000
set_option maxHeartbeats 4000000
/-! Ledmarks k83: a tool's text. -/
namespace Lm
open PySem PySem.Spec PyProof.Rows L2 TL
section
def lineW (w : Str) (ws : List Str) : Str := Txt.join " " (w :: ws)
def sendT (c : Bool) : Str := if c then "send clear" else "send keep"
def linesT (m t p : List Str) (c : Bool) (rows : List RowD) : List Str := lineW "marks" m :: lineW "told" t :: lineW "parts" p :: sendT c :: rows.map RowD.text
def textT (m t p : List Str) (c : Bool) (rows : List RowD) : Str := Txt.join "\n" (linesT m t p c rows)
theorem parts_no : ∀ z ∈ partsL, (32 : Nat) ∉ tl z ∧ (10 : Nat) ∉ tl z ∧ z.length ≤ 5 := by decide +kernel
theorem heads_no : ∀ z ∈ (["marks", "told", "parts"] : List Str), (32 : Nat) ∉ tl z ∧ (10 : Nat) ∉ tl z ∧ z.length ≤ 5 := by decide +kernel
theorem sends_no (c : Bool) : (10 : Nat) ∉ tl (sendT c) ∧ (sendT c).length ≤ 10 := by cases c <;> decide +kernel
/-- a line's words -/
structure LineOk (w : Str) (ws : List Str) : Prop where
  no : ∀ p ∈ w :: ws, (32 : Nat) ∉ tl p ∧ (10 : Nat) ∉ tl p
  few : ws.length ≤ 4
  short : ∀ p ∈ w :: ws, p.length ≤ 5
theorem LineOk.split {w : Str} {ws : List Str} (h : LineOk w ws) : Txt.split (lineW w ws) " " = w :: ws :=
  split_join (s := 32) (S := []) (by decide +kernel) (by decide +kernel) (by simp) fun p hp => (h.no p hp).1
theorem LineOk.nl {w : Str} {ws : List Str} (h : LineOk w ws) : (10 : Nat) ∉ tl (lineW w ws) := by
  unfold lineW
  rw [join_eq, tl_join]
  refine joinL_no (by decide +kernel) fun p hp => ?_
  obtain ⟨q, hq, e⟩ := List.mem_map.mp hp
  rw [← e]
  exact (h.no q hq).2
theorem sum_map_le {l : List Str} {k : Nat} (h : ∀ p ∈ l, p.length ≤ k) : (l.map (·.length)).sum ≤ l.length * k := by
  have h1 := sum_le (l := l.map (·.length)) (k := k) fun x hx => by
    obtain ⟨p, hp, e⟩ := List.mem_map.mp hx
    rw [← e]
    exact h p hp
  rw [List.length_map] at h1
  exact h1
theorem LineOk.len {w : Str} {ws : List Str} (h : LineOk w ws) : (lineW w ws).length ≤ 50 := by
  unfold lineW
  rw [join_eq]
  have h1 := StrLaws.join_length_le " " (w :: ws)
  have h2 := sum_map_le h.short
  have h3 := h.few
  have e : (" " : Str).length = 1 := by decide
  rw [e] at h1
  rw [List.length_cons] at h1 h2
  omega
theorem LineOk.of {w : Str} {ws : List Str} (hw : w ∈ (["marks", "told", "parts"] : List Str)) (hn : ∀ z ∈ ws, isNm z = true) (hl : ws.length ≤ 4) : LineOk w ws := by
  refine ⟨fun p hp => ?_, hl, fun p hp => ?_⟩
  · rcases List.mem_cons.mp hp with e | hp
    · rw [e]; exact ⟨(heads_no w hw).1, (heads_no w hw).2.1⟩
    · exact isNm_no (hn p hp)
  · rcases List.mem_cons.mp hp with e | hp
    · rw [e]; exact (heads_no w hw).2.2
    · exact Nat.le_trans (isNm_len (hn p hp)) (by decide)
theorem LineOk.ofP {ws : List Str} (hn : ∀ z ∈ ws, z ∈ partsL) (hl : ws.length ≤ 4) : LineOk "parts" ws := by
  have hw : ("parts" : Str) ∈ (["marks", "told", "parts"] : List Str) := by simp
  refine ⟨fun p hp => ?_, hl, fun p hp => ?_⟩
  · rcases List.mem_cons.mp hp with e | hp
    · rw [e]; exact ⟨(heads_no _ hw).1, (heads_no _ hw).2.1⟩
    · exact ⟨(parts_no p (hn p hp)).1, (parts_no p (hn p hp)).2.1⟩
  · rcases List.mem_cons.mp hp with e | hp
    · rw [e]; exact (heads_no _ hw).2.2
    · exact (parts_no p (hn p hp)).2.2
section
variable {m t p : List Str} {rows : List RowD}
theorem ArgsOk.tl4 (k : ArgsOk m t p rows) : t.length ≤ 4 := Nat.le_trans (nodup_le k.tnd fun z hz => List.mem_of_mem_tail (k.told z hz)) k.few
theorem ArgsOk.pl4 (k : ArgsOk m t p rows) : p.length ≤ 4 := Nat.le_trans (nodup_le (m := partsL) k.pnd k.pin) (by decide)
theorem ArgsOk.lm (k : ArgsOk m t p rows) : LineOk "marks" m := .of (by simp) k.names k.few
theorem ArgsOk.lt (k : ArgsOk m t p rows) : LineOk "told" t := .of (by simp) k.tnames k.tl4
theorem ArgsOk.lp (k : ArgsOk m t p rows) : LineOk "parts" p := .ofP k.pin k.pl4
theorem ArgsOk.line (k : ArgsOk m t p rows) (c : Bool) : ∀ l ∈ linesT m t p c rows, (10 : Nat) ∉ tl l ∧ l.length ≤ 150 := by
  intro l hl
  unfold linesT at hl
  rcases List.mem_cons.mp hl with e | hl
  · rw [e]; exact ⟨k.lm.nl, Nat.le_trans k.lm.len (by decide)⟩
  rcases List.mem_cons.mp hl with e | hl
  · rw [e]; exact ⟨k.lt.nl, Nat.le_trans k.lt.len (by decide)⟩
  rcases List.mem_cons.mp hl with e | hl
  · rw [e]; exact ⟨k.lp.nl, Nat.le_trans k.lp.len (by decide)⟩
  rcases List.mem_cons.mp hl with e | hl
  · rw [e]; exact ⟨(sends_no c).1, Nat.le_trans (sends_no c).2 (by decide)⟩
  obtain ⟨d, hd, e⟩ := List.mem_map.mp hl
  rw [← e]
  exact ⟨RowD.text_no (k.fine d hd), RowD.text_len (k.fine d hd)⟩
theorem lines_len (c : Bool) : (linesT m t p c rows).length = rows.length + 4 := by
  unfold linesT
  simp only [List.length_cons, List.length_map]
theorem ArgsOk.split (k : ArgsOk m t p rows) (c : Bool) : Txt.split (textT m t p c rows) "\n" = linesT m t p c rows :=
  split_join (s := 10) (S := []) (by decide +kernel) (by decide +kernel) (by unfold linesT; simp) fun l hl => (k.line c l hl).1
theorem ArgsOk.text_len (k : ArgsOk m t p rows) (c : Bool) : (textT m t p c rows).length ≤ 3000 ∧ ((linesT m t p c rows).map (·.length)).sum + (linesT m t p c rows).length * ("\n" : Str).length ≤ 3000 := by
  have h2 := sum_map_le fun l hl => (k.line c l hl).2
  have h3 := k.short
  have e : ("\n" : Str).length = 1 := by decide
  rw [lines_len] at h2
  have h1 := StrLaws.join_length_le "\n" (linesT m t p c rows)
  rw [e, lines_len] at h1
  have h4 : (rows.length + 4) * 150 ≤ 14 * 150 := Nat.mul_le_mul_right _ (by omega)
  refine ⟨?_, ?_⟩
  · unfold textT
    rw [join_eq]
    omega
  · rw [e, lines_len]
    omega
end
end
end Lm
set_option Elab.async false
set_option linter.all false
set_option maxRecDepth 100000
set_option maxHeartbeats 4000000
namespace Lm
open PySem PySem.Spec PyProof.Rows L2
local macro_rules | `(tactic| walk_at "rd") => `(tactic| simp (config := {failIfUnchanged := false}) only [tVar, tC, tIsN, tNotN, tB, tAnd, tOr, tNot, tAndV, tOrV, tNotV, tIf, tNext, tSeq, tBreak, tCont, tDrop, tRet, tRetN, tIfS, gName, gNil, gCons, gTup, tAsg, tPar,
  iList, iTup, iRng1, iRng2, r_tFor, tFmt, tJs, or_false, false_or, exists_false, r_tLc, r_tDc, bf, iSeq, r_wipe0, r_wipe1, tOp, tUn, rI, rI0, rU, rEq, rNe, tTest, tChain, tFld, sFld, tNil, tCons, tTup, tLst, tCall, tMeth, tMake, tCB, tNoPart, tPart, tSl, rIxL, rIxT, rIxQ, rSlQ, r_tLc2, tXGet, tXIn, tXNotIn, sXPut, tXSetd, tXDisp1, iKeysX, iItemsX, tFrz, tFrzE, tRetag, ClX.tCMeth, iEnum, gPr, gUnl, tMakeL, rIxD, cx_w, cx_P, rSlL, rIn, tBM0, tBM, rAppend, rExtend, rPop, rPopAt, rAny, rAll, tYes, iStr, rNewStrs, tM0, tM1, StX.tStar,
  L2.start, List.map_cons, List.map_nil, List.length_cons, List.length_nil, Nat.zero_add, Nat.reduceAdd, Nat.reduceSub, List.replicate_succ, List.replicate_zero, List.cons_append, List.nil_append, List.append_nil, List.set_cons_zero, List.set_cons_succ,
  List.getElem?_cons_zero, List.getElem?_cons_succ, Option.some.injEq, exists_eq_left', exists_eq_left, exists_eq', exists_eq, exists_and_left, exists_and_right, and_assoc, List.cons.injEq, V.str.injEq, V.ref.injEq, V.bl.injEq, V.int.injEq, V.ty.injEq, and_true, true_and, reduceCtorEq, false_and, and_false,
  Bool.not_true, Bool.not_false, Bool.false_eq_true, reduceIte, Bool.not_eq_true', decide_eq_true_eq, upd_same, cx_K, HO.ins.injEq, HO.tup.injEq, HO.lst.injEq, HO.dK.injEq, lk_Run_old, lk_Run_then, lk_Run_names, lm_Run_str, lk_Lead_tests, lk_Lead_old, lk_Lead_then, lk_Lead_names, lm_Lead_str, lk_Join_here, lk_Join_came, lk_Join_then, lk_Join_names, lm_Join_str, lk_Tool_marks, lk_Tool_told, lk_Tool_parts, lk_Tool_clears, lk_Tool_rows, lk_Tool_blank, lm_Tool_need_mark, lm_Tool_is_told, lm_Tool_ran, lm_Tool_led, lm_Tool_joined, lm_Tool_keeps, lm_Tool_need_row, lm_Tool_but, lm_Tool_without, lm_Tool_heeding, lm_Tool_len, lm_Tool_eq, lm_Tool_str, lk_Single_tool, lk_Single_begin, lm_Single_machine_steps, lm_Single_led, lm_Single_joined, lk_Ways_steps, lk_Ways_machine, lk_Ways_coming, lk_Ways_hearings, lk_Ways_elders, lm_Ways_edited, lm_Ways_heard, lk_Meeting_hearings, lk_Meeting_item, lk_Meeting_deeds, lk_Meeting_waiting, lk_Told_steps, lk_Told_machine, lk_Told_coming, lk_Told_hearings, lm_Told_is_closed])
local macro_rules | `(tactic| walk_at "rd*") => `(tactic| simp (config := {failIfUnchanged := false}) only [tVar, tC, tIsN, tNotN, tB, tAnd, tOr, tNot, tAndV, tOrV, tNotV, tIf, tNext, tSeq, tBreak, tCont, tDrop, tRet, tRetN, tIfS, gName, gNil, gCons, gTup, tAsg, tPar,
  iList, iTup, iRng1, iRng2, r_tFor, tFmt, tJs, or_false, false_or, exists_false, r_tLc, r_tDc, bf, iSeq, r_wipe0, r_wipe1, tOp, tUn, rI, rI0, rU, rEq, rNe, tTest, tChain, tFld, sFld, tNil, tCons, tTup, tLst, tCall, tMeth, tMake, tCB, tNoPart, tPart, tSl, rIxL, rIxT, rIxQ, rSlQ, r_tLc2, tXGet, tXIn, tXNotIn, sXPut, tXSetd, tXDisp1, iKeysX, iItemsX, tFrz, tFrzE, tRetag, ClX.tCMeth, iEnum, gPr, gUnl, tMakeL, rIxD, cx_w, cx_P, rSlL, rIn, tBM0, tBM, rAppend, rExtend, rPop, rPopAt, rAny, rAll, tYes, iStr, rNewStrs, tM0, tM1, StX.tStar,
  L2.start, List.map_cons, List.map_nil, List.length_cons, List.length_nil, Nat.zero_add, Nat.reduceAdd, Nat.reduceSub, List.replicate_succ, List.replicate_zero, List.cons_append, List.nil_append, List.append_nil, List.set_cons_zero, List.set_cons_succ,
  List.getElem?_cons_zero, List.getElem?_cons_succ, Option.some.injEq, exists_eq_left', exists_eq_left, exists_eq', exists_eq, exists_and_left, exists_and_right, and_assoc, List.cons.injEq, V.str.injEq, V.ref.injEq, V.bl.injEq, V.int.injEq, V.ty.injEq, and_true, true_and, reduceCtorEq, false_and, and_false,
  Bool.not_true, Bool.not_false, Bool.false_eq_true, reduceIte, Bool.not_eq_true', decide_eq_true_eq, upd_same, cx_K, HO.ins.injEq, HO.tup.injEq, HO.lst.injEq, HO.dK.injEq, lk_Run_old, lk_Run_then, lk_Run_names, lm_Run_str, lk_Lead_tests, lk_Lead_old, lk_Lead_then, lk_Lead_names, lm_Lead_str, lk_Join_here, lk_Join_came, lk_Join_then, lk_Join_names, lm_Join_str, lk_Tool_marks, lk_Tool_told, lk_Tool_parts, lk_Tool_clears, lk_Tool_rows, lk_Tool_blank, lm_Tool_need_mark, lm_Tool_is_told, lm_Tool_ran, lm_Tool_led, lm_Tool_joined, lm_Tool_keeps, lm_Tool_need_row, lm_Tool_but, lm_Tool_without, lm_Tool_heeding, lm_Tool_len, lm_Tool_eq, lm_Tool_str, lk_Single_tool, lk_Single_begin, lm_Single_machine_steps, lm_Single_led, lm_Single_joined, lk_Ways_steps, lk_Ways_machine, lk_Ways_coming, lk_Ways_hearings, lk_Ways_elders, lm_Ways_edited, lm_Ways_heard, lk_Meeting_hearings, lk_Meeting_item, lk_Meeting_deeds, lk_Meeting_waiting, lk_Told_steps, lk_Told_machine, lk_Told_coming, lk_Told_hearings, lm_Told_is_closed, *])
section
variable {P : Program} {w : World} {K : PySem.W.Frag} {mg : Str → Option Value} {base : Heap}
/-! ### words_behind, is_row, is_fit, fault_in, Tool.read -/
theorem cut_tail2 {a : Str} {r : List Str} : cutV (sv (a :: r)) (some 1) none = sv r := cut_tail
def spWordsBehind (K : PySem.W.Frag) : Sp := fun vs H Q _ => ∃ word ws, vs = [.str (lineW word ws), .str word] ∧ LineOk word ws ∧ ∀ p H', Same H H' → H p = none → H' p = some (.lst (sv ws)) → Q (.ref p) H'
theorem sc_words_behind : FnScope ["line", "word", "words"] ["line", "word"] (defScope st_words_behind) := ⟨rfl, rfl, rfl, by decide +kernel, rfl, by decide +kernel, by decide +kernel⟩
theorem x_words_behind (T : Tx w K mg) : FX P w K mg base 1 "words_behind" ["line", "word"] (spWordsBehind K) := by
  obtain ⟨fd, F⟩ := fun_words_behind T.c
  refine FX.of F T.g_words_behind sc_words_behind (fun _ _ _ _ _ _ us hl => match us, hl with | [_, _], _ => rfl) (fun vs H Q E h => ?_) (fun cdv A outer s H vs Q E hr h => ?_)
  · obtain ⟨word, ws, rfl, _⟩ := h
    rfl
  · obtain ⟨word, ws, rfl, ok, k⟩ := h
    refine ⟨_, pss_cons (ps_set (i := 2) sc_words_behind.nd rfl (Or.inl rfl) (pe_split (pv 0) pe_str))
      (pss_one (ps_ret (pe_ifExp (pt_cmpR op_eq (pe_ix ix_list (pv 2) pe_int (fun _ _ => rfl)) (pv 1) (nomark _)) (pe_slice sl_list (pv 2) (po_some pe_int) po_none) pe_non))), ?_⟩
    walk_at "rd"
    refine ⟨by decide, Nat.le_trans (Nat.add_le_add_right ok.len 2) (by decide), fun q hq => ?_⟩
    have eq : upd H q (.lst (sv (Txt.split (lineW word ws) " "))) q = some (.lst (sv (word :: ws))) := by rw [upd_same, ok.split]
    refine ⟨_, SqL.of eq, .str word, atI_nat (j := 0) rfl, rfl, ?_⟩
    refine iteP rfl ?_
    refine ⟨_, SqL.of eq, fun p hp => ?_⟩
    rw [cut_tail2]
    exact k p _ ((same_new hq).trans (same_new hp)) ((same_new hq).free hp) upd_same
def spIsRow : Sp := fun vs H Q _ => ∃ d : RowD, vs = [.str d.text] ∧ d.fine ∧ ∀ H', Same H H' → Q (.bl true) H'
theorem sc_is_row : FnScope ["line"] ["line"] (defScope st_is_row) := ⟨rfl, rfl, rfl, by decide +kernel, rfl, by decide +kernel, by decide +kernel⟩
theorem x_is_row (T : Tx w K mg) : FX P w K mg base 7 "is_row" ["line"] spIsRow := by
  obtain ⟨fd, F⟩ := fun_is_row T.c
  have G1 : KX P w K mg base 6 "Row" "read" ["cls", "text"] (spRowRead K) := x_Row_read T
  refine FX.of F T.g_is_row sc_is_row (fun _ _ _ _ _ _ us hl => match us, hl with | [_], _ => rfl) (fun vs H Q E h => ?_) (fun cdv A outer s H vs Q E hr h => ?_)
  · obtain ⟨d, rfl, _⟩ := h
    rfl
  · obtain ⟨d, rfl, hd, k⟩ := h
    refine ⟨_, pss_cons (ps_try_thru0 (pss_one (ps_expr (pcm G1 hr (pa1 (pv 0)))))) (pss_one (ps_ret pe_bl)), ?_⟩
    walk_at "rd"
    exact ⟨_, d, rfl, hd, fun p H' s' _ => k H' s'⟩
inductive Fit : Nat → Str → Prop where
  | row {n : Nat} {d : RowD} (h : 3 < n) (f : d.fine) : Fit n d.text
  | send (c : Bool) : Fit 3 (sendT c)
  | marks {ws : List Str} (h : LineOk "marks" ws) (ne : ws ≠ []) (nm : ∀ z ∈ ws, isNm z = true) : Fit 0 (lineW "marks" ws)
  | told {ws : List Str} (h : LineOk "told" ws) (nm : ∀ z ∈ ws, isNm z = true) : Fit 1 (lineW "told" ws)
  | parts {ws : List Str} (h : LineOk "parts" ws) (nm : ∀ z ∈ ws, z ∈ partsL) : Fit 2 (lineW "parts" ws)
theorem Tx.kd_SENDS (T : Tx w K mg) : ∃ es n, KDict K w (He.ga K "SENDS") es n := He.dicW_ok (congrArg (fun z : AlL => z.2) T.c)
theorem Tx.v_SENDS (T : Tx w K mg) (c : Bool) : ∃ u, PySem.W.nsIn K (He.ga K "SENDS") (sendT c) = some (some u) ∧ RelV (.bl c) u := by
  have h := (ck_split T.c).2.2.2.2.2.2.2.1
  cases c
  · exact He.valsB_ok (q := ("send keep", .bl false)) h (by simp)
  · exact He.valsB_ok (q := ("send clear", .bl true)) h (by simp)
def spIsFit : Sp := fun vs H Q _ => ∃ (n : Nat) (line : Str), vs = [.int n, .str line] ∧ Fit n line ∧ ∀ H', Same H H' → Q (.bl true) H'
theorem sc_is_fit : FnScope ["at", "line", "words", "word"] ["at", "line"] (defScope st_is_fit) := ⟨rfl, rfl, rfl, by decide +kernel, rfl, by decide +kernel, by decide +kernel⟩
theorem x_is_fit (T : Tx w K mg) : FX P w K mg base 8 "is_fit" ["at", "line"] spIsFit := by
  obtain ⟨fd, F⟩ := fun_is_fit T.c
  have G1 : FX P w K mg base 7 "is_row" ["line"] spIsRow := x_is_row T
  have G2 : FX P w K mg base 1 "words_behind" ["line", "word"] (spWordsBehind K) := x_words_behind T
  have G3 : FX P w K mg base 1 "is_name" ["value"] spIsName := x_is_name T
  obtain ⟨es, n0, D⟩ := T.kd_SENDS
  refine FX.of F T.g_is_fit sc_is_fit (fun _ _ _ _ _ _ us hl => match us, hl with | [_, _], _ => rfl) (fun vs H Q E h => ?_) (fun cdv A outer s H vs Q E hr h => ?_)
  · obtain ⟨n, line, rfl, _⟩ := h
    rfl
  · obtain ⟨n, line, rfl, hf, k⟩ := h
    refine ⟨_, pss_cons (ps_if (pt_cmpR op_gt (pv 0) pe_int (nomark _)) (pss_one (ps_ret (pc G1 hr (pa1 (pv 1))))) pss_nil)
      (pss_cons (ps_if (pt_cmpR op_eq (pv 0) pe_int (nomark _)) (pss_one (ps_ret (pe_cmpR (op_in_kd D) (pv 1) (pgr T.g_SENDS) (by rfl)))) pss_nil)
      (pss_cons (ps_set (i := 2) sc_is_fit.nd rfl (Or.inl rfl) (pc G2 hr (pa2 (pv 1) (pe_ix ix_tup (pe_tup (pa_cons pe_str (pa2 pe_str pe_str))) (pv 0) (fun _ _ => rfl)))))
      (pss_cons (ps_if (PW.pt (pw_or (pt_cmpR op_isN (pv 2) pe_non (nomark _)) (pw_or1 (PW.pt (pw_and (pt_cmpR op_eq (pv 0) pe_int (nomark _)) (pw_and1 (pt_cmpR op_eq (pb call_len_seq T.n_len (pa1 (pv 2))) pe_int (nomark _)))))))) (pss_one (ps_ret pe_bl)) pss_nil)
      (pss_one (ps_ret (pb (cr_all rfl) T.n_all (pa1 (plc sc_is_fit 3 (pi_list (pv 2)) (fun _ _ _ _ _ => pe_ifExp (pt_cmpR op_eq (pv 0) pe_int (nomark _)) (pe_cmpR op_in_seq (pv 3) (pgr T.g_PARTS) (by rfl)) (pc G3 hr (pa1 (pv 3)))))))))))), ?_⟩
    walk_at "rd"
    have tail : ∀ (n : Nat) (line : Str) (ws : List Str) (p : Addr) (H1 : Hp), (∀ H', Same H H' → Q (.bl true) H') → Same H H1 → H1 p = some (.lst (sv ws)) → (∀ z ∈ ws, (n = 2 → z ∈ partsL) ∧ (n ≠ 2 → isNm z = true)) → ws.length ≤ 4 → ∀ D, H1 D = none →
        LcW (Itl K p) (gName 3) tYes (tIf (tTest (tOp rEq (tVar 0) (tC (V.int 2)))) (tOp (rIn K false) (tVar 3) (tC (V.ref (He.ga K "PARTS")))) (tCall spIsName [] E0 (tCons (tVar 3) tNil)))
          [3] [some (V.int n), some (V.str line), some (.ref p), none] H1 D fun H' => ∃ x : List Bool, SqL K H' D (List.map V.bl x) ∧ Q (V.bl (x.all id)) H' := by
      intro n line ws p H1 k s1 e1 hw hl D hD
      refine lcA walk_list rfl (by rw [sv_len]; omega) hD (fun _ => .bl true) (fun H s => s.seq (SqL.of e1)) (fun x hx H3 s3 _ Ky ky => ?_) fun H3 s3 e3 => ?_
      · obtain ⟨z, hzl, rfl⟩ := mem_sv hx
        walk_at "rd"
        refine ⟨rfl, ?_⟩
        by_cases h2 : n = 2
        · refine iteP (by rw [h2]; rfl) ⟨_, .inr (T.t_PARTS _), rfl, flat_sv _, ?_⟩
          rw [inV_str, mem_any ((hw z hzl).1 h2)]
          exact ky _ (Same.refl _)
        · have hn := (hw z hzl).2 h2
          refine iteN (by omega) ⟨z, rfl, Nat.le_trans (isNm_len hn) (by decide), fun H4 s4 => ?_⟩
          rw [hn]
          exact ky _ s4
      · refine ⟨List.replicate (sv ws).length true, SqL.of (by rw [e3, map_const, List.map_replicate]), ?_⟩
        rw [rep_all]
        exact k _ (s1.trans s3)
    have st : ∀ p : Addr, H p = none → SqT K (upd H p (.tup (sv ["marks", "told", "parts"]))) p (sv ["marks", "told", "parts"]) := fun p _ => SqT.of upd_same
    match n, line, hf with
    | n, _, .row (d := d) h f => exact iteP (by omega) ⟨d, rfl, f, k⟩
    | _, _, .send c =>
      refine iteN (by decide) ⟨rfl, iteP (by decide) ?_⟩
      obtain ⟨u, hu, _⟩ := T.v_SENDS c
      exact ⟨_, hu, k H (Same.refl _)⟩
    | _, _, .marks (ws := ws) h ne nm =>
      refine iteN (by decide) ⟨rfl, iteN (by decide) ⟨by decide, fun p hp => ⟨_, st p hp, .str "marks", atI_nat (j := 0) rfl, "marks", ws, rfl, h, fun q H1 s1 hq e1 => ?_⟩⟩⟩
      refine iteN (fun e => nomatch e) ⟨rfl, iteP (by decide) ⟨q, rfl, _, .inl (SqL.of e1), rfl, ?_⟩⟩
      refine iteN (by rw [sv_len]; intro e; exact ne (List.length_eq_zero_iff.mp (by omega))) ?_
      exact ⟨q, rfl, ⟨_, SqL.of e1⟩, fun D hD => tail 0 _ ws q H1 k ((same_new hp).trans s1) e1 (fun z hz => ⟨(fun e => by cases e), fun _ => nm z hz⟩) h.few D hD⟩
    | _, _, .told (ws := ws) h nm =>
      refine iteN (by decide) ⟨rfl, iteN (by decide) ⟨by decide, fun p hp => ⟨_, st p hp, .str "told", atI_nat (j := 1) rfl, "told", ws, rfl, h, fun q H1 s1 hq e1 => ?_⟩⟩⟩
      refine iteN (fun e => nomatch e) ⟨rfl, iteN (by decide) ?_⟩
      exact ⟨q, rfl, ⟨_, SqL.of e1⟩, fun D hD => tail 1 _ ws q H1 k ((same_new hp).trans s1) e1 (fun z hz => ⟨(fun e => by cases e), fun _ => nm z hz⟩) h.few D hD⟩
    | _, _, .parts (ws := ws) h nm =>
      refine iteN (by decide) ⟨rfl, iteN (by decide) ⟨by decide, fun p hp => ⟨_, st p hp, .str "parts", atI_nat (j := 2) rfl, "parts", ws, rfl, h, fun q H1 s1 hq e1 => ?_⟩⟩⟩
      refine iteN (fun e => nomatch e) ⟨rfl, iteN (by decide) ?_⟩
      exact ⟨q, rfl, ⟨_, SqL.of e1⟩, fun D hD => tail 2 _ ws q H1 k ((same_new hp).trans s1) e1 (fun z hz => ⟨fun _ => nm z hz, fun e => absurd rfl e⟩) h.few D hD⟩
/-! ### fault_in -/
def spFaultIn (K : PySem.W.Frag) : Sp := fun vs H Q _ => ∃ a ls, vs = [.ref a] ∧ H a = some (.lst (sv ls)) ∧ (∀ (i : Nat) (l : Str), ls[i]? = some l → Fit i l) ∧ 4 ≤ ls.length ∧ ls.length ≤ 100 ∧ ∀ H', Same H H' → Q .non H'
theorem sc_fault_in : FnScope ["lines", "wrong", "at", "line"] ["lines"] (defScope st_fault_in) := ⟨rfl, rfl, rfl, by decide +kernel, rfl, by decide +kernel, by decide +kernel⟩
theorem x_fault_in (T : Tx w K mg) : FX P w K mg base 9 "fault_in" ["lines"] (spFaultIn K) := by
  obtain ⟨fd, F⟩ := fun_fault_in T.c
  have G1 : FX P w K mg base 8 "is_fit" ["at", "line"] spIsFit := x_is_fit T
  refine FX.of F T.g_fault_in sc_fault_in (fun _ _ _ _ _ _ us hl => match us, hl with | [_], _ => rfl) (fun vs H Q E h => ?_) (fun cdv A outer s H vs Q E hr h => ?_)
  · obtain ⟨a, ls, rfl, _⟩ := h
    rfl
  · obtain ⟨a, ls, rfl, ha, hf, h4, hl, k⟩ := h
    refine ⟨_, pss_cons (psUI sc_fault_in 1 2 3 (pi_enum rfl T.n_enumerate (pa1 (pv 0))) (fun _ _ _ _ _ => pt_not (pt_val (pc G1 hr (pa2 (pv 2) (pv 3))))) (fun _ _ _ _ _ => pv 2))
      (pss_cons (ps_if (pt_cmpR op_gt (pb call_len_seq T.n_len (pa1 (pv 1))) pe_int (nomark _)) (pss_one (ps_ret (pe_ix ix_list (pv 1) pe_int (fun _ _ => rfl)))) pss_nil)
      (pss_one (ps_ret (pe_ifExp (pt_cmpR op_lt (pb call_len_seq T.n_len (pa1 (pv 0))) pe_int (nomark _)) (pb call_len_seq T.n_len (pa1 (pv 0))) pe_non)))), ?_⟩
    simp only [iEnum]
    walk_at "rd"
    refine ⟨⟨_, SqL.of ha⟩, ?_⟩
    intro D hD
    refine lc_it walk_enum (fun i H' => Same H H' ∧ H' D = some (.lst [])) ⟨same_new hD, upd_same⟩ (fun i H' _ q => SqL.of (q.1 _ _ ha)) ?_ ?_
    · rintro i x H1 H2 hi ⟨s1, e1⟩ ⟨T2, a2, b2, rfl, hT2, rfl, ea, eb⟩
      cases ea
      obtain ⟨z, hzl, rfl⟩ := mem_sv (List.mem_of_getElem? eb)
      have hz2 : ls[i]? = some z := by
        have eb : (ls.map V.str)[i]? = some (.str z) := eb
        rw [List.getElem?_map] at eb
        cases q : ls[i]? with
        | none => rw [q] at eb; cases eb
        | some z2 => rw [q] at eb; exact congrArg some (V.str.inj (Option.some.inj eb))
      have eD : upd H1 T2 (.tup [.int i, .str z]) D = some (.lst []) := by rw [upd_ne (ne_of_none e1 hT2)]; exact e1
      have s2 := Same.new (o := .tup [.int i, .str z]) s1 hT2
      walk_at "rd"
      refine ⟨_, SqT.of upd_same, rfl, _, _, rfl, _, _, rfl, rfl, i, z, rfl, hf i z hz2, fun H3 s3 => ⟨true, rfl, iteN (by decide) ⟨s2.trans s3, s3 _ _ eD⟩⟩⟩
    · rintro H1 ⟨s1, e1⟩
      refine ⟨_, .inl (SqL.of e1), ?_⟩
      refine iteN (by decide) ⟨_, .inl (SqL.of (s1 _ _ ha)), ?_⟩
      refine iteN (by rw [sv_len]; omega) (k H1 s1)
/-! ### Tool.read -/
def spToolRead (K : PySem.W.Frag) : Sp := fun vs H Q _ => ∃ m t p c ds, vs = [.ref (He.ga K "Tool"), .str (textT m t p c ds)] ∧ ArgsOk m t p ds ∧ ∀ x H', Same H H' → ToolAt K H' x (mkTool m t p c ds) → Q (.ref x) H'
theorem sc_Tool_read : FnScope ["cls", "text", "lines", "at", "marks", "told", "parts", "line"] ["cls", "text"] (defScope st_Tool_read) := ⟨rfl, rfl, rfl, by decide +kernel, rfl, by decide +kernel, by decide +kernel⟩
theorem fit_lines {m t p : List Str} {rows : List RowD} (k : ArgsOk m t p rows) (c : Bool) : ∀ (i : Nat) (l : Str), (linesT m t p c rows)[i]? = some l → Fit i l := by
  intro i l h
  unfold linesT at h
  match i, h with
  | 0, h => cases h; exact .marks k.lm k.ne k.names
  | 1, h => cases h; exact .told k.lt k.tnames
  | 2, h => cases h; exact .parts k.lp k.pin
  | 3, h => cases h; exact .send c
  | i + 4, h =>
    have h : (rows.map RowD.text)[i]? = some l := by simpa using h
    rw [List.getElem?_map] at h
    obtain ⟨d, hd, rfl⟩ := Option.map_eq_some_iff.mp h
    exact .row (by omega) (k.fine d (List.mem_of_getElem? hd))
theorem cut_first {a b c : Str} {r : List Str} : cutV (sv (a :: b :: c :: r)) none (some 3) = sv [a, b, c] := by
  unfold cutV
  have hl : (sv (a :: b :: c :: r)).length = r.length + 3 := by rw [sv_len]; rfl
  have e1 : HT.sIx (sv (a :: b :: c :: r)).length 0 none = 0 := rfl
  have e2 : HT.sIx (sv (a :: b :: c :: r)).length (sv (a :: b :: c :: r)).length (some 3) = 3 := by
    show (if (3 : Int) < 0 then ((3 : Int) + ((sv (a :: b :: c :: r)).length : Nat)).toNat else min (3 : Int).toNat (sv (a :: b :: c :: r)).length) = 3
    rw [if_neg (by decide), hl]
    show min 3 (r.length + 3) = 3
    omega
  rw [e1, e2]
  rfl
theorem cut_rest {a b c d : Str} {r : List Str} : cutV (sv (a :: b :: c :: d :: r)) (some 4) none = sv r := by
  unfold cutV
  have hl : (sv (a :: b :: c :: d :: r)).length = r.length + 4 := by rw [sv_len]; rfl
  have e1 : HT.sIx (sv (a :: b :: c :: d :: r)).length 0 (some 4) = 4 := by
    show (if (4 : Int) < 0 then ((4 : Int) + ((sv (a :: b :: c :: d :: r)).length : Nat)).toNat else min (4 : Int).toNat (sv (a :: b :: c :: d :: r)).length) = 4
    rw [if_neg (by decide), hl]
    show min 4 (r.length + 4) = 4
    omega
  have e2 : HT.sIx (sv (a :: b :: c :: d :: r)).length (sv (a :: b :: c :: d :: r)).length none = (sv (a :: b :: c :: d :: r)).length := rfl
  rw [e1, e2, hl]
  show (sv r).take (r.length + 4 - 4) = sv r
  exact List.take_of_length_le (by rw [sv_len]; omega)
theorem x_Tool_read (T : Tx w K mg) : KX P w K mg base 10 "Tool" "read" ["cls", "text"] (spToolRead K) := by
  obtain ⟨fd, F⟩ := fun_Tool_read T.c
  have G1 : FX P w K mg base 9 "fault_in" ["lines"] (spFaultIn K) := x_fault_in T
  have G2 : CX1 P w K mg base 4 "Tool" ["self", "marks", "told", "parts", "clears", "rows"] (spToolInit K) := x_Tool_init T
  have G3 : KX P w K mg base 6 "Row" "read" ["cls", "text"] (spRowRead K) := x_Row_read T
  obtain ⟨es, n0, D0⟩ := T.kd_SENDS
  refine KX.of (ck_split T.c).2.2.2.2.2.2.2.2.2.1 T.g_Tool F sc_Tool_read (fun _ _ _ _ _ _ us hl => match us, hl with | [_, _], _ => rfl) (fun vs H Q E h => ?_) (fun cdv A outer s H vs Q E hr h => ?_)
  · obtain ⟨m, t, p, c, ds, rfl, _⟩ := h
    rfl
  · obtain ⟨m, t, p, c, ds, rfl, ok, k⟩ := h
    refine ⟨_, pss_cons (ps_set (i := 2) sc_Tool_read.nd rfl (Or.inl rfl) (pe_split (pv 1) pe_str))
      (pss_cons (ps_set (i := 3) sc_Tool_read.nd rfl (Or.inl rfl) (pc G1 hr (pa1 (pv 2))))
      (pss_cons (ps_if (pt_cmpR op_notN (pv 3) pe_non (nomark _)) pss_never pss_nil)
      (pss_cons (ps_asg (plc sc_Tool_read 7 (pi_list (pe_slice sl_list (pv 2) po_none (po_some pe_int))) (fun _ _ _ _ _ => pe_slice sl_list (pe_split (pv 7) pe_str) (po_some pe_int) po_none))
        (pg_unl (n := 3) rfl (pgs_cons (pg_name (i := 4) sc_Tool_read.nd rfl (Or.inl rfl)) (pgs_cons (pg_name (i := 5) sc_Tool_read.nd rfl (Or.inl rfl)) (pgs_cons (pg_name (i := 6) sc_Tool_read.nd rfl (Or.inl rfl)) pgs_nil)))))
      (pss_one (ps_ret (pkL 0 G2 hr (pa_cons (pv 4) (pa_cons (pv 5) (pa_cons (pv 6) (pa2 (pe_ix ix_kdict (pgr T.g_SENDS) (pe_ix ix_list (pv 2) pe_int (fun _ _ => rfl)) (fun _ _ => rfl))
        (plc sc_Tool_read 7 (pi_list (pe_slice sl_list (pv 2) (po_some pe_int) po_none)) (fun _ _ _ _ _ => pcm G3 hr (pa1 (pv 7)))))))))))))), ?_⟩
    walk_at "rd"
    have tlen := ok.text_len c
    refine ⟨by decide, Nat.le_trans (Nat.add_le_add_right tlen.1 2) (by decide), fun q hq => ?_⟩
    have sq := same_new (o := .lst ((Txt.split (textT m t p c ds) "\n").map V.str)) hq
    have eq : upd H q (.lst ((Txt.split (textT m t p c ds) "\n").map V.str)) q = some (.lst (sv (linesT m t p c ds))) := by rw [upd_same, ok.split]; rfl
    have hs4 := ok.short
    refine ⟨q, linesT m t p c ds, rfl, eq, fit_lines ok c, by rw [lines_len]; omega, by rw [lines_len]; omega, fun H1 s1 => ?_⟩
    refine iteN (by decide) ?_
    have eq1 := s1 _ _ eq
    refine ⟨_, SqL.of eq1, fun p2 hp2 => ⟨⟨_, SqL.of upd_same⟩, fun D hD => ?_⟩⟩
    have ec : cutV (sv (linesT m t p c ds)) none (some 3) = sv [lineW "marks" m, lineW "told" t, lineW "parts" p] := cut_first
    rw [ec] at hD ⊢
    have s2 := sq.trans (s1.trans (same_new (o := .lst (sv [lineW "marks" m, lineW "told" t, lineW "parts" p])) hp2))
    refine lcW walk_list rfl (by rw [sv_len]; show (3 : Nat) ≤ 1000; decide) hD (fun _ => true) (fun x y H' => ∃ q, y = .ref q ∧ q ≠ D ∧ ∀ w ws, x = .str (lineW w ws) → LineOk w ws → H' q = some (.lst (sv ws))) (fun x y Ha Hb e _ ⟨q, e1, ne, h⟩ => ⟨q, e1, ne, fun w ws e2 l => e _ _ (h w ws e2 l) (by simpa using ne)⟩) (fun H s => s.seq (SqL.of upd_same)) (fun x hx H3 s3 nD Ky Kn ky _ => ?_) fun H3 ys s3 e3 pr => ?_
    · have hx3 : ∃ w ws, x = .str (lineW w ws) ∧ LineOk w ws := by
        rcases List.mem_cons.mp hx with e | hx
        · exact ⟨_, _, e, ok.lm⟩
        rcases List.mem_cons.mp hx with e | hx
        · exact ⟨_, _, e, ok.lt⟩
        · exact ⟨_, _, List.mem_singleton.mp hx, ok.lp⟩
      obtain ⟨w1, ws1, rfl, lo⟩ := hx3
      walk_at "rd"
      refine ⟨by decide, Nat.le_trans (Nat.add_le_add_right lo.len 2) (by decide), fun q1 hq1 => ?_⟩
      refine ⟨_, SqL.of upd_same, fun q2 hq2 => ?_⟩
      have e5 : (Txt.split (lineW w1 ws1) " ").map V.str = sv (w1 :: ws1) := by rw [lo.split]; rfl
      rw [e5, cut_tail2]
      rw [e5] at hq2
      refine ky rfl _ _ ((same_new hq1).trans (same_new hq2)) ⟨q2, rfl, fun z => ?_, fun w ws e l => ?_⟩
      · rw [z] at hq2
        exact nD ((same_new hq1).free hq2)
      · have e6 : w :: ws = w1 :: ws1 := by rw [← l.split, ← lo.split, V.str.inj e]
        rw [upd_same, (List.cons.inj e6).2]
    have ek : (sv [lineW "marks" m, lineW "told" t, lineW "parts" p]).filter (fun _ => true) = sv [lineW "marks" m, lineW "told" t, lineW "parts" p] := List.filter_eq_self.mpr fun _ _ => rfl
    rw [ek] at pr
    match ys, pr with
    | [_, _, _], .cons ⟨q1, rfl, _, r1⟩ (.cons ⟨q2, rfl, _, r2⟩ (.cons ⟨q3, rfl, _, r3⟩ .nil)) =>
      have r1 := r1 _ _ rfl ok.lm
      have r2 := r2 _ _ rfl ok.lt
      have r3 := r3 _ _ rfl ok.lp
      have s3' := s2.trans s3
      walk_at "rd"
      have eq3 := s3 _ _ ((s1.trans (same_new (o := .lst (sv [lineW "marks" m, lineW "told" t, lineW "parts" p])) hp2)) _ _ eq)
      refine ⟨_, SqL.of e3, rfl, _, _, rfl, _, _, rfl, _, _, rfl, rfl, ?_⟩
      obtain ⟨u, hu, ru⟩ := T.v_SENDS c
      obtain ⟨h1, h2, h3⟩ := D0
      refine ⟨_, SqL.of eq3, .str (sendT c), atI_nat (j := 3) rfl, sendT c, rfl, .bl c, ⟨_, _, _, h1, h2, hu, ru⟩, _, SqL.of eq3, fun p4 hp4 => ⟨⟨_, SqL.of upd_same⟩, fun D4 hD4 => ?_⟩⟩
      have ec4 : cutV (sv (linesT m t p c ds)) (some 4) none = sv (ds.map RowD.text) := cut_rest
      rw [ec4] at hD4 ⊢
      have prd : ∀ l : List RowD, Paired (fun (d : RowD) (x : V) => x = .str d.text) l (sv (l.map RowD.text)) := fun l => by
        induction l with
        | nil => exact .nil
        | cons a r ih => exact .cons rfl ih
      have s4 := same_new (o := .lst (sv (ds.map RowD.text))) hp4
      refine lcWD walk_list rfl (by rw [sv_len, List.length_map]; omega) hD4 (prd ds) (fun d y H' => ∃ a, y = .ref a ∧ RowAt K H' a d) (fun d y Ha Hb _ im ⟨a, e, h⟩ => ⟨a, e, h.imm im⟩) (fun H s => s.seq (SqL.of upd_same)) (fun i d x hi hx H5 s5 nD Ky ky => ?_) fun H5 ys5 s5 e5 pr5 => ?_
      · subst hx
        walk_at "rd"
        exact ⟨_, d, rfl, ok.fine d (List.mem_of_getElem? hi), fun p6 H6 s6 r6 => ky _ _ s6 ⟨p6, rfl, r6⟩⟩
      · intro x dx nx ndx ne
        have sM : Same H5 (upd (upd H5 dx (.own x)) x (.ins (He.ga K "Tool") dx [])) := fun b o eb => by
          rw [upd_ne (ne_of_none eb nx), upd_ne (ne_of_none eb ndx)]
          exact eb
        have s45 := s4.trans s5
        refine ⟨x, dx, q1, q2, q3, D4, c, m, t, p, ys5, ds, rfl, upd_same, .inl (sM _ _ (s45 _ _ r1)), .inl (sM _ _ (s45 _ _ r2)), .inl (sM _ _ (s45 _ _ r3)), .inl (sM _ _ e5), RowsAt.same pr5 sM, ok, fun H' E' ta => ⟨rfl, k x H' ?_ ta⟩⟩
        exact (s3'.trans s45).trans (Imm.made nx ndx E')
end
end Lm
set_option Elab.async false
set_option linter.all false
set_option maxRecDepth 100000
set_option maxHeartbeats 4000000
namespace Lm
open PySem PySem.Spec PyProof.Rows L2
local macro_rules | `(tactic| walk_at "rd") => `(tactic| simp (config := {failIfUnchanged := false}) only [tVar, tC, tIsN, tNotN, tB, tAnd, tOr, tNot, tAndV, tOrV, tNotV, tIf, tNext, tSeq, tBreak, tCont, tDrop, tRet, tRetN, tIfS, gName, gNil, gCons, gTup, tAsg, tPar,
  iList, iTup, iRng1, iRng2, r_tFor, tFmt, tJs, or_false, false_or, exists_false, r_tLc, r_tDc, bf, iSeq, r_wipe0, r_wipe1, tOp, tUn, rI, rI0, rU, rEq, rNe, tTest, tChain, tFld, sFld, tNil, tCons, tTup, tLst, tCall, tMeth, tMake, tCB, tNoPart, tPart, tSl, rIxL, rIxT, rIxQ, rSlQ, r_tLc2, tXGet, tXIn, tXNotIn, sXPut, tXSetd, tXDisp1, iKeysX, iItemsX, tFrz, tFrzE, tRetag, ClX.tCMeth, iEnum, gPr, gUnl, tMakeL, rIxD, cx_w, cx_P, rSlL, rIn, tBM0, tBM, rAppend, rExtend, rPop, rPopAt, rAny, rAll, tYes, iStr, rNewStrs, tM0, tM1, StX.tStar,
  L2.start, List.map_cons, List.map_nil, List.length_cons, List.length_nil, Nat.zero_add, Nat.reduceAdd, Nat.reduceSub, List.replicate_succ, List.replicate_zero, List.cons_append, List.nil_append, List.append_nil, List.set_cons_zero, List.set_cons_succ,
  List.getElem?_cons_zero, List.getElem?_cons_succ, Option.some.injEq, exists_eq_left', exists_eq_left, exists_eq', exists_eq, exists_and_left, exists_and_right, and_assoc, List.cons.injEq, V.str.injEq, V.ref.injEq, V.bl.injEq, V.int.injEq, V.ty.injEq, and_true, true_and, reduceCtorEq, false_and, and_false,
  Bool.not_true, Bool.not_false, Bool.false_eq_true, reduceIte, Bool.not_eq_true', decide_eq_true_eq, upd_same, cx_K, HO.ins.injEq, HO.tup.injEq, HO.lst.injEq, HO.dK.injEq, lk_Run_old, lk_Run_then, lk_Run_names, lm_Run_str, lk_Lead_tests, lk_Lead_old, lk_Lead_then, lk_Lead_names, lm_Lead_str, lk_Join_here, lk_Join_came, lk_Join_then, lk_Join_names, lm_Join_str, lk_Tool_marks, lk_Tool_told, lk_Tool_parts, lk_Tool_clears, lk_Tool_rows, lk_Tool_blank, lm_Tool_need_mark, lm_Tool_is_told, lm_Tool_ran, lm_Tool_led, lm_Tool_joined, lm_Tool_keeps, lm_Tool_need_row, lm_Tool_but, lm_Tool_without, lm_Tool_heeding, lm_Tool_len, lm_Tool_eq, lm_Tool_str, lk_Single_tool, lk_Single_begin, lm_Single_machine_steps, lm_Single_led, lm_Single_joined, lk_Ways_steps, lk_Ways_machine, lk_Ways_coming, lk_Ways_hearings, lk_Ways_elders, lm_Ways_edited, lm_Ways_heard, lk_Meeting_hearings, lk_Meeting_item, lk_Meeting_deeds, lk_Meeting_waiting, lk_Told_steps, lk_Told_machine, lk_Told_coming, lk_Told_hearings, lm_Told_is_closed])
local macro_rules | `(tactic| walk_at "rd*") => `(tactic| simp (config := {failIfUnchanged := false}) only [tVar, tC, tIsN, tNotN, tB, tAnd, tOr, tNot, tAndV, tOrV, tNotV, tIf, tNext, tSeq, tBreak, tCont, tDrop, tRet, tRetN, tIfS, gName, gNil, gCons, gTup, tAsg, tPar,
  iList, iTup, iRng1, iRng2, r_tFor, tFmt, tJs, or_false, false_or, exists_false, r_tLc, r_tDc, bf, iSeq, r_wipe0, r_wipe1, tOp, tUn, rI, rI0, rU, rEq, rNe, tTest, tChain, tFld, sFld, tNil, tCons, tTup, tLst, tCall, tMeth, tMake, tCB, tNoPart, tPart, tSl, rIxL, rIxT, rIxQ, rSlQ, r_tLc2, tXGet, tXIn, tXNotIn, sXPut, tXSetd, tXDisp1, iKeysX, iItemsX, tFrz, tFrzE, tRetag, ClX.tCMeth, iEnum, gPr, gUnl, tMakeL, rIxD, cx_w, cx_P, rSlL, rIn, tBM0, tBM, rAppend, rExtend, rPop, rPopAt, rAny, rAll, tYes, iStr, rNewStrs, tM0, tM1, StX.tStar,
  L2.start, List.map_cons, List.map_nil, List.length_cons, List.length_nil, Nat.zero_add, Nat.reduceAdd, Nat.reduceSub, List.replicate_succ, List.replicate_zero, List.cons_append, List.nil_append, List.append_nil, List.set_cons_zero, List.set_cons_succ,
  List.getElem?_cons_zero, List.getElem?_cons_succ, Option.some.injEq, exists_eq_left', exists_eq_left, exists_eq', exists_eq, exists_and_left, exists_and_right, and_assoc, List.cons.injEq, V.str.injEq, V.ref.injEq, V.bl.injEq, V.int.injEq, V.ty.injEq, and_true, true_and, reduceCtorEq, false_and, and_false,
  Bool.not_true, Bool.not_false, Bool.false_eq_true, reduceIte, Bool.not_eq_true', decide_eq_true_eq, upd_same, cx_K, HO.ins.injEq, HO.tup.injEq, HO.lst.injEq, HO.dK.injEq, lk_Run_old, lk_Run_then, lk_Run_names, lm_Run_str, lk_Lead_tests, lk_Lead_old, lk_Lead_then, lk_Lead_names, lm_Lead_str, lk_Join_here, lk_Join_came, lk_Join_then, lk_Join_names, lm_Join_str, lk_Tool_marks, lk_Tool_told, lk_Tool_parts, lk_Tool_clears, lk_Tool_rows, lk_Tool_blank, lm_Tool_need_mark, lm_Tool_is_told, lm_Tool_ran, lm_Tool_led, lm_Tool_joined, lm_Tool_keeps, lm_Tool_need_row, lm_Tool_but, lm_Tool_without, lm_Tool_heeding, lm_Tool_len, lm_Tool_eq, lm_Tool_str, lk_Single_tool, lk_Single_begin, lm_Single_machine_steps, lm_Single_led, lm_Single_joined, lk_Ways_steps, lk_Ways_machine, lk_Ways_coming, lk_Ways_hearings, lk_Ways_elders, lm_Ways_edited, lm_Ways_heard, lk_Meeting_hearings, lk_Meeting_item, lk_Meeting_deeds, lk_Meeting_waiting, lk_Told_steps, lk_Told_machine, lk_Told_coming, lk_Told_hearings, lm_Told_is_closed, *])
section
variable {P : Program} {w : World} {K : PySem.W.Frag} {mg : Str → Option Value} {base : Heap}
/-! ### need_row, but, without -/
def spNeedRow (K : PySem.W.Frag) : Sp := fun vs H Q _ => ∃ a d, ∃ n : Nat, vs = [.ref a, .int n] ∧ ToolAt K H a d ∧ n < d.rows.length ∧ d.rows.length ≤ 10 ∧ ∀ H', Same H H' → Q .non H'
theorem sc_need_row : FnScope ["self", "at"] ["self", "at"] (defScope st_Tool_need_row) := ⟨rfl, rfl, rfl, by decide +kernel, rfl, by decide +kernel, by decide +kernel⟩
theorem x_need_row (T : Tx w K mg) : MX P w K mg base 1 (He.ga K "Tool") "need_row" ["self", "at"] (spNeedRow K) := by
  obtain ⟨fd, F⟩ := fun_Tool_need_row T.c
  refine MX.of F T.me_Tool_need_row sc_need_row (fun _ _ _ _ _ _ us hl => match us, hl with | [_, _], _ => rfl) (fun vs H Q E h => ?_) (fun cdv A outer s H vs Q E hr h => ?_)
  · obtain ⟨a, d, n, rfl, _⟩ := h
    rfl
  · obtain ⟨a, d, n, rfl, ha, hn, hl, k⟩ := h
    obtain ⟨dx, ma, ta, pa, ra, vs, h1, h2, h3, h4, h5, h6⟩ := ha.ex
    have e : vs.length = d.rows.length := (Paired.length h6).symm
    refine ⟨_, pss_one (ps_if (pt_not (pt_chain op_le op_lt pe_int (pv 1) (pb call_len_seq T.n_len (pa1 (pe_fld (pv 0) rfl))))) pss_never pss_nil), ?_⟩
    have fl := T.fl
    walk_at "rd*"
    refine iteP (by omega) ⟨vs, .inr (SqT.of h5), ?_⟩
    exact iteN (by rw [decide_eq_true (by omega)]; exact Bool.noConfusion) (k H (Same.refl _))
theorem cut_to {xs : List V} {n : Nat} (h : n ≤ xs.length) : cutV xs none (some (n : Int)) = xs.take n := by
  unfold cutV
  have e1 : HT.sIx xs.length 0 none = 0 := rfl
  have e2 : HT.sIx xs.length xs.length (some (n : Int)) = n := by
    show (if (n : Int) < 0 then ((n : Int) + (xs.length : Nat)).toNat else min (n : Int).toNat xs.length) = n
    rw [if_neg (by omega)]
    omega
  rw [e1, e2, Nat.sub_zero]
  rfl
theorem cut_from {xs : List V} {n : Nat} (h : n ≤ xs.length) : cutV xs (some (n : Int)) none = xs.drop n := by
  unfold cutV
  have e1 : HT.sIx xs.length 0 (some (n : Int)) = n := by
    show (if (n : Int) < 0 then ((n : Int) + (xs.length : Nat)).toNat else min (n : Int).toNat xs.length) = n
    rw [if_neg (by omega)]
    omega
  have e2 : HT.sIx xs.length xs.length none = xs.length := rfl
  rw [e1, e2]
  exact List.take_of_length_le (by rw [List.length_drop]; omega)
theorem paired_take {α β : Type} {R : α → β → Prop} : ∀ {l : List α} {m : List β} (n : Nat), Paired R l m → Paired R (l.take n) (m.take n)
  | _, _, 0, _ => by rw [List.take_zero, List.take_zero]; exact .nil
  | _, _, _ + 1, .nil => .nil
  | _, _, n + 1, .cons r t => .cons r (paired_take n t)
theorem paired_drop {α β : Type} {R : α → β → Prop} : ∀ {l : List α} {m : List β} (n : Nat), Paired R l m → Paired R (l.drop n) (m.drop n)
  | _, _, 0, h => h
  | _, _, _ + 1, .nil => .nil
  | _, _, n + 1, .cons _ t => paired_drop n t
theorem paired_app {α β : Type} {R : α → β → Prop} : ∀ {l l2 : List α} {m m2 : List β}, Paired R l m → Paired R l2 m2 → Paired R (l ++ l2) (m ++ m2)
  | _, _, _, _, .nil, h => h
  | _, _, _, _, .cons r t, h => .cons r (paired_app t h)
/-- the tool with other rows -/
def ToolD.rowed (d : ToolD) (rs : List RowD) : ToolD := { d with rows := rs }
structure RowsOk (d : ToolD) (rs : List RowD) : Prop where
  fine : ∀ r ∈ rs, r.fine
  mine : ∀ r ∈ rs, ∀ n ∈ r.names, n ∈ d.marks
  lead : ∀ r ∈ rs, r.badLead d.blank = false
  short : rs.length ≤ 10
theorem ToolD.ok.args {d : ToolD} {rs : List RowD} (k : d.ok) (r : RowsOk d rs) : ArgsOk d.marks d.told d.parts rs where
  names := k.names
  nd := k.nd
  ne := k.ne
  few := k.few
  tnames := fun z hz => k.names z (List.mem_of_mem_tail (k.told0 z hz))
  tnd := by rw [k.told]; exact k.nd.sublist (List.filter_sublist)
  told := k.told0
  pin := fun z hz => by rw [k.parts] at hz; exact (List.mem_filter.mp hz).1
  pnd := by rw [k.parts]; exact (show partsL.Nodup by decide +kernel).sublist (List.filter_sublist)
  own := k.own
  fine := r.fine
  mine := r.mine
  lead := r.lead
  short := r.short
theorem ToolD.ok.mkE {d : ToolD} (k : d.ok) (rs : List RowD) : mkTool d.marks d.told d.parts d.clears rs = d.rowed rs := by
  unfold mkTool ToolD.rowed
  rw [← k.told, ← k.parts]
theorem ToolD.ok.rowed {d : ToolD} {rs : List RowD} (k : d.ok) (r : RowsOk d rs) : (d.rowed rs).ok := by
  rw [← k.mkE]
  exact (k.args r).tool d.clears
theorem ToolD.ok.rowsOk {d : ToolD} (k : d.ok) : RowsOk d d.rows := ⟨k.fine, k.mine, k.lead, k.short⟩
theorem RowsOk.sub {d : ToolD} {rs ls : List RowD} (k : RowsOk d rs) (h : ls.Sublist rs) : RowsOk d ls :=
  ⟨fun r hr => k.fine r (h.subset hr), fun r hr => k.mine r (h.subset hr), fun r hr => k.lead r (h.subset hr), Nat.le_trans h.length_le k.short⟩
def spBut (K : PySem.W.Frag) : Sp := fun vs H Q _ => ∃ a r d rs ds, vs = [.ref a, .ref r] ∧ ToolAt K H a d ∧ d.ok ∧ SqP H r rs ∧ RowsAt K H rs ds ∧ RowsOk d ds ∧ ∀ x H', Same H H' → ToolAt K H' x (d.rowed ds) → Q (.ref x) H'
theorem sc_but : FnScope ["self", "rows"] ["self", "rows"] (defScope st_Tool_but) := ⟨rfl, rfl, rfl, by decide +kernel, rfl, by decide +kernel, by decide +kernel⟩
theorem x_but (T : Tx w K mg) : MX P w K mg base 6 (He.ga K "Tool") "but" ["self", "rows"] (spBut K) := by
  obtain ⟨fd, F⟩ := fun_Tool_but T.c
  have G2 : CX1 P w K mg base 4 "Tool" ["self", "marks", "told", "parts", "clears", "rows"] (spToolInit K) := x_Tool_init T
  refine MX.of F T.me_Tool_but sc_but (fun _ _ _ _ _ _ us hl => match us, hl with | [_, _], _ => rfl) (fun vs H Q E h => ?_) (fun cdv A outer s H vs Q E hr h => ?_)
  · obtain ⟨a, r, d, rs, ds, rfl, _⟩ := h
    rfl
  · obtain ⟨a, r, d, rs, ds, rfl, ha, ok, hrr, hrows, ro, k⟩ := h
    obtain ⟨dx, ma, ta, pa, ra, vs, h1, h2, h3, h4, h5, h6⟩ := ha.ex
    refine ⟨_, pss_one (ps_ret (pk G2 hr (pa_cons (pe_fld (pv 0) rfl) (pa_cons (pe_fld (pv 0) rfl) (pa_cons (pe_fld (pv 0) rfl) (pa2 (pe_fld (pv 0) rfl) (pv 1))))))), ?_⟩
    have fl := T.fl
    walk_at "rd*"
    intro x dx2 nx ndx ne
    have sM : Same H (upd (upd H dx2 (.own x)) x (.ins (He.ga K "Tool") dx2 [])) := fun b o eb => by
      rw [upd_ne (ne_of_none eb nx), upd_ne (ne_of_none eb ndx)]
      exact eb
    refine ⟨x, dx2, ma, ta, pa, r, d.clears, d.marks, d.told, d.parts, rs, ds, rfl, upd_same, .inr (sM _ _ h2), .inr (sM _ _ h3), .inr (sM _ _ h4), hrr.same sM, RowsAt.same hrows sM, ok.args ro, fun H' E' ta2 => ⟨rfl, k x H' (Imm.made nx ndx E') ?_⟩⟩
    rw [← ok.mkE]
    exact ta2
/-- without the row at n -/
def ToolD.less (d : ToolD) (n : Nat) : ToolD := d.rowed (d.rows.take n ++ d.rows.drop (n + 1))
theorem less_ok {d : ToolD} (k : d.ok) (n : Nat) : RowsOk d (d.rows.take n ++ d.rows.drop (n + 1)) := by
  refine k.rowsOk.sub ?_
  have e : d.rows.take n ++ d.rows.drop n = d.rows := List.take_append_drop n _
  conv => rhs; rw [← e]
  refine List.Sublist.append (List.Sublist.refl _) ?_
  rw [← List.drop_drop]
  exact List.drop_sublist _ _
def spWithout (K : PySem.W.Frag) : Sp := fun vs H Q _ => ∃ a d, ∃ n : Nat, vs = [.ref a, .int n] ∧ ToolAt K H a d ∧ d.ok ∧ n < d.rows.length ∧ ∀ x H', Same H H' → ToolAt K H' x (d.less n) → Q (.ref x) H'
theorem sc_without : FnScope ["self", "at"] ["self", "at"] (defScope st_Tool_without) := ⟨rfl, rfl, rfl, by decide +kernel, rfl, by decide +kernel, by decide +kernel⟩
theorem x_without (T : Tx w K mg) : MX P w K mg base 7 (He.ga K "Tool") "without" ["self", "at"] (spWithout K) := by
  obtain ⟨fd, F⟩ := fun_Tool_without T.c
  have G1 : MX P w K mg base 1 (He.ga K "Tool") "need_row" ["self", "at"] (spNeedRow K) := x_need_row T
  have G2 : MX P w K mg base 6 (He.ga K "Tool") "but" ["self", "rows"] (spBut K) := x_but T
  refine MX.of F T.me_Tool_without sc_without (fun _ _ _ _ _ _ us hl => match us, hl with | [_, _], _ => rfl) (fun vs H Q E h => ?_) (fun cdv A outer s H vs Q E hr h => ?_)
  · obtain ⟨a, d, n, rfl, _⟩ := h
    rfl
  · obtain ⟨a, d, n, rfl, ha, ok, hn, k⟩ := h
    obtain ⟨dx, ma, ta, pa, ra, vs, h1, h2, h3, h4, h5, h6⟩ := ha.ex
    refine ⟨_, pss_cons (ps_expr (pm G1 T.cl_Tool hr (pv 0) (pa1 (pv 1))))
      (pss_one (ps_ret (pm G2 T.cl_Tool hr (pv 0) (pa1 (pe_tup (StX.pa_star (pe_slice sl_seq (pe_fld (pv 0) rfl) po_none (po_some (pv 1))) (StX.pa_star (pe_slice sl_seq (pe_fld (pv 0) rfl) (po_some (pe_op op_add (pv 1) pe_int)) po_none) pa_nil))))))), ?_⟩
    have fl := T.fl
    walk_at "rd*"
    have el : vs.length = d.rows.length := (Paired.length h6).symm
    refine ⟨a, d, n, rfl, ha, hn, ok.short, fun H1 s1 => ?_⟩
    have h1' := s1 _ _ h1
    have h5' := s1 _ _ h5
    walk_at "rd*"
    refine ⟨vs, .inr (SqT.of h5'), fun p2 H2 s2 q2 => ⟨_, q2.symm, ?_⟩⟩
    have h1'' := s2 _ _ h1'
    have h5'' := s2 _ _ h5'
    walk_at "rd*"
    have c1 : cutV vs none (some (n : Int)) = vs.take n := cut_to (by omega)
    have c2 : cutV vs (some ((n : Int) + 1)) none = vs.drop (n + 1) := cut_from (n := n + 1) (by omega)
    refine ⟨vs, .inr (SqT.of h5''), fun p3 H3 s3 q3 => ⟨_, q3.symm, ?_⟩⟩
    rw [c1, c2]
    have ll : (vs.take n ++ vs.drop (n + 1)).length ≤ 1000 := by
      rw [List.length_append, List.length_take, List.length_drop]
      have := ok.short
      omega
    refine ⟨len_ok ll, fun p4 hp4 => ?_⟩
    have s4 := ((s1.trans s2).trans s3).trans (same_new (o := .tup (vs.take n ++ vs.drop (n + 1))) hp4)
    exact ⟨a, p4, d, _, d.rows.take n ++ d.rows.drop (n + 1), rfl, ha.same s4, ok, .inr upd_same, RowsAt.same (paired_app (paired_take n h6) (paired_drop (n + 1) h6)) s4, less_ok ok n, fun x H' s5 r => k x H' (s4.trans s5) r⟩
/-! ### heeding -/
def hasP (ps : List Str) (z : Str) : Bool := ps.any fun y => decide (y = z)
def heedR (ps : List Str) : RowD → Option RowD
  | .lead ts old th => if ts.any (fun t => isBare t && !hasP ps t) then none else some (.lead (ts.filter fun t => hasP ps (partOf t)) old th)
  | r => some r
def ToolD.heed (d : ToolD) (ps : List Str) : ToolD := d.rowed (d.rows.filterMap (heedR ps))
theorem heed_fine {ps : List Str} {r r' : RowD} (h : heedR ps r = some r') (f : r.fine) : r'.fine ∧ r'.names = r.names ∧ ∀ b, r'.badLead b = r.badLead b := by
  cases r with
  | run old th => cases h; exact ⟨f, rfl, fun _ => rfl⟩
  | join x y th => cases h; exact ⟨f, rfl, fun _ => rfl⟩
  | lead ts old th =>
    have h2 : (if ts.any (fun t => isBare t && !hasP ps t) then none else some (RowD.lead (ts.filter fun t => hasP ps (partOf t)) old th)) = some r' := h
    split at h2
    · cases h2
    · cases h2
      obtain ⟨f1, f2, f3, f4⟩ := f
      exact ⟨⟨fun t ht => f1 t (List.mem_filter.mp ht).1, f2.sublist ((List.filter_sublist).map _), f3, f4⟩, rfl, fun _ => rfl⟩
theorem heed_ok {d : ToolD} (k : d.ok) (ps : List Str) : RowsOk d (d.rows.filterMap (heedR ps)) := by
  refine ⟨fun r hr => ?_, fun r hr => ?_, fun r hr => ?_, Nat.le_trans (List.length_filterMap_le _ _) k.short⟩
  · obtain ⟨r0, h0, e⟩ := List.mem_filterMap.mp hr
    exact (heed_fine e (k.fine r0 h0)).1
  · obtain ⟨r0, h0, e⟩ := List.mem_filterMap.mp hr
    rw [(heed_fine e (k.fine r0 h0)).2.1]
    exact k.mine r0 h0
  · obtain ⟨r0, h0, e⟩ := List.mem_filterMap.mp hr
    rw [(heed_fine e (k.fine r0 h0)).2.2]
    exact k.lead r0 h0
def HeedV (K : PySem.W.Frag) (ps : List Str) (H : Hp) (r : RowD) (v : V) : Prop := match heedR ps r with
  | none => v = .non
  | some r' => ∃ a, v = .ref a ∧ RowAt K H a r'
def spHeedRow (K : PySem.W.Frag) : Sp := fun vs H Q _ => ∃ a q r ps, vs = [.ref a, .ref q] ∧ RowAt K H a r ∧ r.fine ∧ SqS K H q (sv ps) ∧ ∀ v H', Same H H' → HeedV K ps H' r v → Q v H'
theorem sc_heeding_row : FnScope ["row", "parts", "test"] ["row", "parts"] (defScope st_heeding_row) := ⟨rfl, rfl, rfl, by decide +kernel, rfl, by decide +kernel, by decide +kernel⟩
theorem x_heeding_row (T : Tx w K mg) : FX P w K mg base 5 "heeding_row" ["row", "parts"] (spHeedRow K) := by
  obtain ⟨fd, F⟩ := fun_heeding_row T.c
  have G1 : FX P w K mg base 1 "part_of" ["test"] spPartOf := x_part_of T
  have G2 : CX1 P w K mg base 3 "Lead" ["self", "tests", "old", "then"] (spLeadInit K) := x_Lead_init T
  refine FX.of F T.g_heeding_row sc_heeding_row (fun _ _ _ _ _ _ us hl => match us, hl with | [_, _], _ => rfl) (fun vs H Q E h => ?_) (fun cdv A outer s H vs Q E hr h => ?_)
  · obtain ⟨a, q, r, ps, rfl, _⟩ := h
    rfl
  · obtain ⟨a, q, r, ps, rfl, ha, hf, hq, k⟩ := h
    refine ⟨_, pss_cons (ps_if (pt_not (pt_val (pb (isi_row T "Lead") T.n_isinstance (pa2 (pv 0) (pgr T.g_Lead))))) (pss_one (ps_ret (pv 0))) pss_nil)
      (pss_cons (ps_if (pt_val (pb (cr_any rfl) T.n_any (pa1 (plc sc_heeding_row 2 (pi_tup (pe_fld (pv 0) rfl)) (fun _ _ _ _ _ => pe_and (pe_cmpR op_eq (pv 2) (pc G1 hr (pa1 (pv 2))) (nomark _)) (pe_one (pe_cmpR op_notIn_seq (pv 2) (pv 1) (by rfl)))))))) (pss_one (ps_ret pe_non)) pss_nil)
      (pss_one (ps_ret (pk G2 hr (pa_cons (plcI sc_heeding_row 2 (pi_tup (pe_fld (pv 0) rfl)) (fun _ _ _ _ _ => pt_cmpR op_in_seq (pc G1 hr (pa1 (pv 2))) (pv 1) (by rfl)) (fun _ _ _ _ _ => pv 2)) (pa2 (pe_fld (pv 0) rfl) (pe_fld (pv 0) rfl))))))), ?_⟩
    have fl := T.fl
    walk_at "rd"
    refine ⟨r, ha, ?_⟩
    match r, ha, hf, k with
    | .run old th, ha, hf, k => exact iteP (isC_tab.2.2.2.1 _ _) (k _ H (Same.refl _) ⟨a, rfl, ha⟩)
    | .join x y th, ha, hf, k => exact iteP (isC_tab.2.2.2.2.2.1 _ _ _) (k _ H (Same.refl _) ⟨a, rfl, ha⟩)
    | .lead ts old th, ⟨dx, t, n, g1, g2, g3⟩, hf, k =>
      refine iteN (by rw [isC_tab.2.2.2.2.1]; exact Bool.noConfusion) ?_
      have l3 : (sv ts).length ≤ 1000 := by rw [sv_len]; exact Nat.le_trans (tests_le hf.1 hf.2.1) (by decide)
      walk_at "rd*"
      refine ⟨⟨_, SqT.of g2⟩, fun D hD => lcA walk_tup rfl l3 hD (fun v => .bl (isBare (vStr v) && !hasP ps (vStr v))) (fun H s => Same.seqT s (SqT.of g2)) (fun x hx H3 s3 _ Ky ky => ?_) fun H3 s3 e3 => ?_⟩
      · obtain ⟨z, hzl, rfl⟩ := mem_sv hx
        walk_at "rd"
        refine ⟨z, rfl, Nat.le_trans (tests6_len z (hf.1 z hzl)) (by decide), fun H4 s4 => ⟨rfl, ?_⟩⟩
        cases eb : isBare z with
        | false =>
          refine iteN (fun e => ?_) ?_
          · unfold isBare at eb
            exact of_decide_eq_false eb (V.str.inj e)
          · have q0 := ky H4 s4
            rw [show vStr (.str z) = z from rfl, eb] at q0
            exact q0
        | true =>
          refine iteP (by unfold isBare at eb; exact congrArg V.str (of_decide_eq_true eb)) ⟨_, Same.seqS ((s3.trans s4)) hq, rfl, flat_sv _, ?_⟩
          rw [inV_str]
          have q0 := ky H4 s4
          rw [show vStr (.str z) = z from rfl, eb] at q0
          exact q0
      · refine ⟨ts.map fun z => isBare z && !hasP ps z, all_sv (f := fun z => isBare z && !hasP ps z) e3, ?_⟩
        have ea : (ts.map fun z => isBare z && !hasP ps z).any id = ts.any fun z => isBare z && !hasP ps z := by rw [List.any_map]; rfl
        rw [ea]
        cases eb : ts.any fun z => isBare z && !hasP ps z with
        | true =>
          refine iteBT rfl (k _ H3 s3 ?_)
          unfold HeedV
          have e : heedR ps (.lead ts old th) = none := by
            show (if ts.any (fun t => isBare t && !hasP ps t) then none else some (RowD.lead (ts.filter fun t => hasP ps (partOf t)) old th)) = none
            rw [eb]; rfl
          rw [e]
        | false =>
          refine iteBF rfl ?_
          have g1' := s3 _ _ g1
          have g2' := s3 _ _ g2
          walk_at "rd*"
          refine ⟨⟨_, SqT.of g2'⟩, fun D2 hD2 => lcF walk_tup rfl l3 hD2 (fun v => hasP ps (partOf (vStr v))) id (fun H s => Same.seqT s (SqT.of g2')) (fun x hx H4 s4 _ Ky Kn ky kn => ?_) fun H4 s4 e4 => ?_⟩
          · obtain ⟨z, hzl, rfl⟩ := mem_sv hx
            walk_at "rd"
            refine ⟨z, rfl, Nat.le_trans (tests6_len z (hf.1 z hzl)) (by decide), fun H5 s5 => ⟨_, Same.seqS ((s3.trans s4).trans s5) hq, rfl, flat_sv _, ?_⟩⟩
            rw [inV_str]
            cases eh : hasP ps (partOf z) with
            | true => exact iteBT eh (ky eh _ s5)
            | false => exact iteBF eh (kn eh _ s5)
          · have g1'' := s4 _ _ g1'
            walk_at "rd*"
            intro x dx2 nx ndx ne
            have sM : Same H4 (upd (upd H4 dx2 (.own x)) x (.ins (He.ga K "Lead") dx2 [])) := fun b o eb => by
              rw [upd_ne (ne_of_none eb nx), upd_ne (ne_of_none eb ndx)]
              exact eb
            have e4' : H4 D2 = some (.lst (sv (ts.filter fun z => hasP ps (partOf z)))) := by
              rw [e4, List.map_id]
              unfold sv
              rw [List.filter_map]
              rfl
            have er : heedR ps (.lead ts old th) = some (.lead (ts.filter fun t => hasP ps (partOf t)) old th) := by
              show (if ts.any (fun t => isBare t && !hasP ps t) then none else some (RowD.lead (ts.filter fun t => hasP ps (partOf t)) old th)) = _
              rw [eb]; rfl
            refine ⟨x, dx2, D2, ts.filter fun z => hasP ps (partOf z), old, th, rfl, upd_same, sM _ _ e4', (heed_fine er hf).1, fun H' E' ra => ⟨rfl, k _ H' ((s3.trans s4).trans (Imm.made nx ndx E')) ?_⟩⟩
            unfold HeedV
            rw [er]
            exact ⟨x, rfl, ra⟩
/-! ### heeding, len, str, == -/
def spHeeding (K : PySem.W.Frag) : Sp := fun vs H Q _ => ∃ a q d ps, vs = [.ref a, .ref q] ∧ ToolAt K H a d ∧ d.ok ∧ SqS K H q (sv ps) ∧ ∀ x H', Same H H' → ToolAt K H' x (d.heed ps) → Q (.ref x) H'
theorem sc_heeding : FnScope ["self", "parts", "rows", "row"] ["self", "parts"] (defScope st_Tool_heeding) := ⟨rfl, rfl, rfl, by decide +kernel, rfl, by decide +kernel, by decide +kernel⟩
theorem x_heeding (T : Tx w K mg) : MX P w K mg base 7 (He.ga K "Tool") "heeding" ["self", "parts"] (spHeeding K) := by
  obtain ⟨fd, F⟩ := fun_Tool_heeding T.c
  have G1 : FX P w K mg base 5 "heeding_row" ["row", "parts"] (spHeedRow K) := x_heeding_row T
  have G2 : MX P w K mg base 6 (He.ga K "Tool") "but" ["self", "rows"] (spBut K) := x_but T
  refine MX.of F T.me_Tool_heeding sc_heeding (fun _ _ _ _ _ _ us hl => match us, hl with | [_, _], _ => rfl) (fun vs H Q E h => ?_) (fun cdv A outer s H vs Q E hr h => ?_)
  · obtain ⟨a, q, d, ps, rfl, _⟩ := h
    rfl
  · obtain ⟨a, q, d, ps, rfl, ha, ok, hq, k⟩ := h
    obtain ⟨dx, ma, ta, pa, ra, vs, h1, h2, h3, h4, h5, h6⟩ := ha.ex
    refine ⟨_, pss_cons (psl sc_heeding 2 3 (pi_tup (pe_fld (pv 0) rfl)) (fun _ _ _ _ _ => pc G1 hr (pa2 (pv 3) (pv 1))))
      (pss_one (ps_ret (pm G2 T.cl_Tool hr (pv 0) (pa1 (plcI sc_heeding 3 (pi_list (pv 2)) (fun _ _ _ _ _ => pt_cmpR op_notN (pv 3) pe_non (nomark _)) (fun _ _ _ _ _ => pv 3)))))), ?_⟩
    have fl := T.fl
    walk_at "rd*"
    have el : vs.length ≤ 1000 := by rw [← Paired.length h6]; have := ok.short; omega
    refine ⟨⟨_, SqT.of h5⟩, fun D hD => lcWD walk_tup rfl el hD h6 (fun r v H' => HeedV K ps H' r v) (fun r v Ha Hb _ im h => ?_) (fun H s => Same.seqT s (SqT.of h5)) (fun i r x hi hrx H3 s3 _ Ky ky => ?_) fun H3 ys s3 e3 pr => ?_⟩
    · unfold HeedV at h ⊢
      split at h
      · exact h
      · obtain ⟨b, e, h⟩ := h
        exact ⟨b, e, h.imm im⟩
    · obtain ⟨b, rfl, hrow⟩ := hrx
      walk_at "rd"
      exact ⟨b, q, r, ps, rfl, hrow.same s3, ok.fine r (List.mem_of_getElem? hi), Same.seqS s3 hq, fun v H4 s4 hv => ky v H4 s4 hv⟩
    · have h1' := s3 _ _ h1
      walk_at "rd*"
      have yl : ys.length ≤ 1000 := by rw [← Paired.length pr]; have := ok.short; omega
      refine ⟨⟨_, SqL.of e3⟩, fun D2 hD2 => lcWK walk_list rfl yl hD2 pr (fun r => (heedR ps r).isSome) (fun r y H' => ∃ r', heedR ps r = some r' ∧ ∃ a, y = .ref a ∧ RowAt K H' a r') (fun r v Ha Hb _ im ⟨r', e, a, e2, h⟩ => ⟨r', e, a, e2, h.imm im⟩) (fun H s => s.seq (SqL.of e3)) (fun i r x hi hrx H4 s4 _ Ky Kn ky kn => ?_) fun H4 zs s4 e4 pr4 => ?_⟩
      · unfold HeedV at hrx
        cases er : heedR ps r with
        | none =>
          rw [er] at hrx
          subst hrx
          walk_at "rd"
          exact kn (by rw [er]; rfl) _ (Same.refl _)
        | some r' =>
          rw [er] at hrx
          obtain ⟨b, rfl, hrow⟩ := hrx
          walk_at "rd"
          exact ky (by rw [er]; rfl) _ _ (Same.refl _) ⟨r', er, b, rfl, hrow.same s4⟩
      · have s34 := s3.trans s4
        refine ⟨a, D2, d, zs, _, rfl, ha.same s34, ok, .inl e4, ?_, heed_ok ok ps, fun x H' s5 r => k x H' (s34.trans s5) r⟩
        have conv : ∀ {l : List RowD} {m : List V}, Paired (fun r y => ∃ r', heedR ps r = some r' ∧ ∃ a, y = V.ref a ∧ RowAt K H4 a r') (l.filter fun r => (heedR ps r).isSome) m → RowsAt K H4 m (l.filterMap (heedR ps)) := by
          intro l
          induction l with
          | nil => intro m h; cases h; exact .nil
          | cons r l ih =>
            intro m h
            cases er : heedR ps r with
            | none =>
              rw [List.filter_cons_of_neg (by rw [er]; exact Bool.noConfusion)] at h
              rw [List.filterMap_cons, er]
              exact ih h
            | some r' =>
              rw [List.filter_cons_of_pos (by rw [er]; rfl)] at h
              rw [List.filterMap_cons, er]
              cases h with
              | cons h1 t =>
                obtain ⟨r2, e2, x2⟩ := h1
                rw [er] at e2
                cases e2
                exact .cons x2 (ih t)
        exact conv pr4
def spToolLen (K : PySem.W.Frag) : Sp := fun vs H Q _ => ∃ a d, vs = [.ref a] ∧ ToolAt K H a d ∧ ∀ H', Same H H' → Q (.int d.rows.length) H'
theorem sc_Tool_len : FnScope ["self"] ["self"] (defScope st_Tool_len) := ⟨rfl, rfl, rfl, by decide +kernel, rfl, by decide +kernel, by decide +kernel⟩
theorem x_Tool_len (T : Tx w K mg) : MX P w K mg base 1 (He.ga K "Tool") "__len__" ["self"] (spToolLen K) := by
  obtain ⟨fd, F⟩ := fun_Tool_len T.c
  refine MX.of F T.me_Tool_len sc_Tool_len (fun _ _ _ _ _ _ us hl => match us, hl with | [_], _ => rfl) (fun vs H Q E h => ?_) (fun cdv A outer s H vs Q E hr h => ?_)
  · obtain ⟨a, d, rfl, _⟩ := h
    rfl
  · obtain ⟨a, d, rfl, ha, k⟩ := h
    obtain ⟨dx, ma, ta, pa, ra, vs, h1, h2, h3, h4, h5, h6⟩ := ha.ex
    refine ⟨_, pss_one (ps_ret (pb call_len_seq T.n_len (pa1 (pe_fld (pv 0) rfl)))), ?_⟩
    have fl := T.fl
    walk_at "rd*"
    refine ⟨vs, .inr (SqT.of h5), ?_⟩
    rw [← Paired.length h6]
    exact k H (Same.refl _)
/-- str(tool) -/
def ToolD.text (d : ToolD) : Str := textT d.marks d.told d.parts d.clears d.rows
def spToolStr (K : PySem.W.Frag) : Sp := fun vs H Q _ => ∃ a d, vs = [.ref a] ∧ ToolAt K H a d ∧ d.ok ∧ ∀ H', Same H H' → Q (.str d.text) H'
theorem sc_Tool_str : FnScope ["self", "heads", "lines", "send", "words", "row"] ["self"] (defScope st_Tool_str) := ⟨rfl, rfl, rfl, by decide +kernel, rfl, by decide +kernel, by decide +kernel⟩
theorem x_Tool_str (T : Tx w K mg) : MX P w K mg base 4 (He.ga K "Tool") "__str__" ["self"] (spToolStr K) := by
  obtain ⟨fd, F⟩ := fun_Tool_str T.c
  refine MX.of F T.me_Tool_str sc_Tool_str (fun _ _ _ _ _ _ us hl => match us, hl with | [_], _ => rfl) (fun vs H Q E h => ?_) (fun cdv A outer s H vs Q E hr h => ?_)
  · obtain ⟨a, d, rfl, _⟩ := h
    rfl
  · obtain ⟨a, d, rfl, ha, ok, k⟩ := h
    obtain ⟨dx, ma, ta, pa, ra, vs, h1, h2, h3, h4, h5, h6⟩ := ha.ex
    refine ⟨_, pss_cons (ps_set (i := 1) sc_Tool_str.nd rfl (Or.inl rfl) (pe_lst (pa_cons (pe_lst (pa_cons pe_str (StX.pa_star (pe_fld (pv 0) rfl) pa_nil))) (pa2 (pe_lst (pa_cons pe_str (StX.pa_star (pe_fld (pv 0) rfl) pa_nil))) (pe_lst (pa_cons pe_str (StX.pa_star (pe_fld (pv 0) rfl) pa_nil)))))))
      (pss_cons (psl sc_Tool_str 2 4 (pi_list (pv 1)) (fun _ _ _ _ _ => pe_join pe_str (pv 4)))
      (pss_cons (ps_set (i := 3) sc_Tool_str.nd rfl (Or.inl rfl) (pe_ifExp (pt_val (pe_fld (pv 0) rfl)) pe_str pe_str))
      (pss_one (ps_ret (pe_join pe_str (pe_lst (StX.pa_star (pv 2) (pa_cons (pv 3) (StX.pa_star (plc sc_Tool_str 5 (pi_tup (pe_fld (pv 0) rfl)) (fun _ _ _ _ _ => pbt (strRow T (Room.mono hr (by decide))) T.n_str (pa1 (pv 5)))) pa_nil))))))))), ?_⟩
    have fl := T.fl
    walk_at "rd*"
    have lo := ok.args ok.rowsOk
    have few := ok.few
    have t4 := lo.tl4
    have p4 := lo.pl4
    refine ⟨_, .inl (SqT.of h2), by rw [sv_len]; exact len_ok (by omega), fun p1 hp1 => ?_⟩
    have s1 := same_new (o := .lst (V.str "marks" :: sv d.marks)) hp1
    have e1 : upd H p1 (.lst (V.str "marks" :: sv d.marks)) p1 = some (.lst (sv ("marks" :: d.marks))) := upd_same
    generalize upd H p1 (.lst (V.str "marks" :: sv d.marks)) = G1 at *
    have h11 := s1 _ _ h1
    walk_at "rd*"
    refine ⟨_, .inl (SqT.of (s1 _ _ h3)), by rw [sv_len]; exact len_ok (by omega), fun p2 hp2 => ?_⟩
    have s2 := s1.trans (same_new (o := .lst (V.str "told" :: sv d.told)) hp2)
    have e12 := same_new (o := .lst (V.str "told" :: sv d.told)) hp2 _ _ e1
    have e2 : upd G1 p2 (.lst (V.str "told" :: sv d.told)) p2 = some (.lst (sv ("told" :: d.told))) := upd_same
    generalize upd G1 p2 (.lst (V.str "told" :: sv d.told)) = G2 at *
    have h12 := s2 _ _ h1
    walk_at "rd*"
    refine ⟨_, .inl (SqT.of (s2 _ _ h4)), by rw [sv_len]; exact len_ok (by omega), fun p3 hp3 => ⟨by decide, fun q hq => ?_⟩⟩
    have sn3 := same_new (o := .lst (V.str "parts" :: sv d.parts)) hp3
    have e13 := same_new (o := .lst [.ref p1, .ref p2, .ref p3]) hq _ _ (sn3 _ _ e12)
    have e23 := same_new (o := .lst [.ref p1, .ref p2, .ref p3]) hq _ _ (sn3 _ _ e2)
    have e33 : upd (upd G2 p3 (.lst (V.str "parts" :: sv d.parts))) q (.lst [.ref p1, .ref p2, .ref p3]) p3 = some (.lst (sv ("parts" :: d.parts))) := same_new hq _ _ upd_same
    have s3 := (s2.trans sn3).trans (same_new (o := .lst [.ref p1, .ref p2, .ref p3]) hq)
    have eq : upd (upd G2 p3 (.lst (V.str "parts" :: sv d.parts))) q (.lst [.ref p1, .ref p2, .ref p3]) q = some (.lst [.ref p1, .ref p2, .ref p3]) := upd_same
    generalize upd (upd G2 p3 (.lst (V.str "parts" :: sv d.parts))) q (.lst [.ref p1, .ref p2, .ref p3]) = G3 at *
    walk_at "rd"
    have lw : ∀ p ∈ ([("marks", d.marks), ("told", d.told), ("parts", d.parts)] : List (Str × List Str)), LineOk p.1 p.2 := fun p hp => by
      rcases List.mem_cons.mp hp with e | hp
      · rw [e]; exact lo.lm
      rcases List.mem_cons.mp hp with e | hp
      · rw [e]; exact lo.lt
      · rw [List.mem_singleton.mp hp]; exact lo.lp
    refine ⟨⟨_, SqL.of eq⟩, fun D hD => lcWD (ds := ([("marks", d.marks), ("told", d.told), ("parts", d.parts)] : List (Str × List Str))) (R0 := fun p x => ∃ b, x = V.ref b ∧ G3 b = some (.lst (sv (p.1 :: p.2)))) walk_list rfl (by show (3 : Nat) ≤ 1000; decide) hD
      (.cons ⟨p1, rfl, e13⟩ (.cons ⟨p2, rfl, e23⟩ (.cons ⟨p3, rfl, e33⟩ .nil))) (fun p y _ => y = .str (lineW p.1 p.2)) (fun _ _ _ _ _ _ e => e) (fun H s => s.seq (SqL.of eq)) (fun i p x hi hx H4 s4 _ Ky ky => ?_) fun H4 ys s4 e4 pr => ?_⟩
    · obtain ⟨b, rfl, hb⟩ := hx
      walk_at "rd"
      have l := lw p (List.mem_of_getElem? hi)
      have cost := sum_map_le l.short
      have fw := l.few
      have e1 : (" " : Str).length = 1 := by decide
      refine ⟨p.1 :: p.2, .inl (SqL.of (s4 _ _ hb)), ?_, ky _ _ (Same.refl _) rfl⟩
      rw [e1]
      rw [List.length_cons] at cost ⊢
      omega
    match ys, pr with
    | [_, _, _], .cons rfl (.cons rfl (.cons rfl .nil)) =>
      have s5 := s3.trans s4
      have h14 := s5 _ _ h1
      have h54 := s5 _ _ h5
      walk_at "rd*"
      have el : vs.length ≤ 1000 := by rw [← Paired.length h6]; have := ok.short; omega
      cases hc : d.clears
      · refine iteBF rfl ?_
        refine ⟨_, .inr (SqL.of e4), ⟨_, SqT.of h54⟩, fun D4 hD4 => lcWD walk_tup rfl el hD4 (h6.same s5) (fun r y _ => y = .str r.text) (fun _ _ _ _ _ _ e => e) (fun H s => Same.seqT s (SqT.of h54)) (fun i r x hi hx H6 s6 _ Ky ky => ?_) fun H6 zs s6 e6 pr6 => ?_⟩
        · obtain ⟨b, rfl, hrow⟩ := hx
          walk_at "rd"
          exact ⟨r, hrow.same s6, ok.fine r (List.mem_of_getElem? hi), fun H7 s7 => ky _ _ s7 rfl⟩
        · have ez : zs = sv (d.rows.map RowD.text) := by
            have pm := paired_map (f := fun r : RowD => V.str r.text) pr6
            rw [pm]
            unfold sv
            rw [List.map_map]
            rfl
          subst ez
          have sl : (linesT d.marks d.told d.parts d.clears d.rows).length = d.rows.length + 4 := lines_len _
          have sh := ok.short
          refine ⟨_, .inr (SqL.of e6), ?_, fun p6 hp6 => ⟨linesT d.marks d.told d.parts d.clears d.rows, .inl (SqL.of ?_), ?_, ?_⟩⟩
          · simp only [List.length_append, List.length_cons, List.length_nil, sv_len, List.length_map]
            exact len_ok (by omega)
          · rw [upd_same]
            unfold linesT
            rw [hc]
            rfl
          · have := (lo.text_len d.clears).2
            exact Nat.le_trans this (by decide)
          · exact k _ ((s5.trans s6).trans (same_new hp6))
      · refine iteBT rfl ?_
        refine ⟨_, .inr (SqL.of e4), ⟨_, SqT.of h54⟩, fun D4 hD4 => lcWD walk_tup rfl el hD4 (h6.same s5) (fun r y _ => y = .str r.text) (fun _ _ _ _ _ _ e => e) (fun H s => Same.seqT s (SqT.of h54)) (fun i r x hi hx H6 s6 _ Ky ky => ?_) fun H6 zs s6 e6 pr6 => ?_⟩
        · obtain ⟨b, rfl, hrow⟩ := hx
          walk_at "rd"
          exact ⟨r, hrow.same s6, ok.fine r (List.mem_of_getElem? hi), fun H7 s7 => ky _ _ s7 rfl⟩
        · have ez : zs = sv (d.rows.map RowD.text) := by
            have pm := paired_map (f := fun r : RowD => V.str r.text) pr6
            rw [pm]
            unfold sv
            rw [List.map_map]
            rfl
          subst ez
          have sl : (linesT d.marks d.told d.parts d.clears d.rows).length = d.rows.length + 4 := lines_len _
          have sh := ok.short
          refine ⟨_, .inr (SqL.of e6), ?_, fun p6 hp6 => ⟨linesT d.marks d.told d.parts d.clears d.rows, .inl (SqL.of ?_), ?_, ?_⟩⟩
          · simp only [List.length_append, List.length_cons, List.length_nil, sv_len, List.length_map]
            exact len_ok (by omega)
          · rw [upd_same]
            unfold linesT
            rw [hc]
            rfl
          · have := (lo.text_len d.clears).2
            exact Nat.le_trans this (by decide)
          · exact k _ ((s5.trans s6).trans (same_new hp6))
def spToolEq (K : PySem.W.Frag) : Sp := fun vs H Q _ => ∃ a b d e, vs = [.ref a, .ref b] ∧ ToolAt K H a d ∧ d.ok ∧ ToolAt K H b e ∧ e.ok ∧ ∀ H', Same H H' → Q (.bl (decide (d.text = e.text))) H'
theorem sc_Tool_eq : FnScope ["self", "other"] ["self", "other"] (defScope st_Tool_eq) := ⟨rfl, rfl, rfl, by decide +kernel, rfl, by decide +kernel, by decide +kernel⟩
theorem x_Tool_eq (T : Tx w K mg) : MX P w K mg base 7 (He.ga K "Tool") "__eq__" ["self", "other"] (spToolEq K) := by
  obtain ⟨fd, F⟩ := fun_Tool_eq T.c
  have G1 : MX P w K mg base 4 (He.ga K "Tool") "__str__" ["self"] (spToolStr K) := x_Tool_str T
  have cs := ck_split T.c
  refine MX.of F T.me_Tool_eq sc_Tool_eq (fun _ _ _ _ _ _ us hl => match us, hl with | [_, _], _ => rfl) (fun vs H Q E h => ?_) (fun cdv A outer s H vs Q E hr h => ?_)
  · obtain ⟨a, b, d, e, rfl, _⟩ := h
    rfl
  · obtain ⟨a, b, d, e, rfl, ha, od, hb, oe, k⟩ := h
    obtain ⟨dx, ma, ta, pa, ra, vs, h1, h2, h3, h4, h5, h6⟩ := ha.ex
    obtain ⟨dx', ma', ta', pa', ra', vs', g1, g2, g3, g4, g5, g6⟩ := hb.ex
    refine ⟨_, pss_one (ps_ret (pe_and (pb (isi_own (w := w) (mg := mg) (C := "Tool") (D := "Tool") (b := true) T.cl_Tool cs.2.2.2.2.2.2.2.2.2.2.2.2.2.1 cs.2.2.2.2.2.2.2.2.2.2.2.2.2.2.1 cs.2.2.2.2.2.2.2.2.2.2.2.2.2.2.2.1 cs.2.2.2.2.2.2.2.2.2.2.2.2.2.2.2.2.2.2.2.2.2.2.2.2.2.2.2.2.1) T.n_isinstance (pa2 (pv 1) (pgr T.g_Tool)))
      (pe_one (pe_cmpR op_eq (pbt (call_strO G1 hr) T.n_str (pa1 (pv 0))) (pbt (call_strO G1 hr) T.n_str (pa1 (pv 1))) (nomark _))))), ?_⟩
    have fl := T.fl
    walk_at "rd*"
    have ed : ∀ x y : Str, decide (V.str x = V.str y) = decide (x = y) := fun x y => decide_eq_decide.mpr ⟨V.str.inj, congrArg V.str⟩
    refine ⟨a, d, rfl, ha, od, fun H1 s1 => ⟨⟨_, rfl⟩, ⟨dx', _, s1 _ _ g1⟩, b, e, rfl, hb.same s1, oe, fun H2 s2 => ⟨⟨_, rfl⟩, rfl, ?_⟩⟩⟩
    rw [ed]
    exact k H2 (s1.trans s2)
end
end Lm
set_option Elab.async false
set_option linter.all false
set_option maxRecDepth 100000
set_option maxHeartbeats 4000000
/-! Ledmarks k83: what can come about, in plain Lean: as sets. -/
namespace Lm
open PySem L2
abbrev Kq : Type := Str × Bool
def pats8 : List (List Bool) := [[false, false, false], [false, false, true], [false, true, false], [false, true, true], [true, false, false], [true, false, true], [true, true, false], [true, true, true]]
section
variable (d : ToolD)
def kBegin : Kq := (d.blank, false)
def kRan (k : Kq) : Kq := (d.ran k.1, true)
def kLed (k : Kq) (p : List Bool) : Kq := (d.led k.1 p, k.2 && d.keeps p)
def kJoined (k c : Kq) : Kq := (d.joined k.1 c.1, k.2 || c.2)
/-- what a machine can come to -/
inductive MR : Kq → Prop where
  | begin : MR (kBegin d)
  | ran {k : Kq} : MR k → MR (kRan d k)
  | led {k : Kq} {p : List Bool} : MR k → p ∈ pats8 → MR (kLed d k p)
/-- what can come to the head -/
def CR (k : Kq) : Prop := ∃ i, MR d i ∧ (k = i ∨ ∃ p ∈ pats8, k = kLed d i p)
/-- what the head can come to -/
inductive HR : Kq → Prop where
  | begin : HR (kBegin d)
  | led {k : Kq} {p : List Bool} : HR k → p ∈ pats8 → HR (kLed d k p)
  | joined {k c : Kq} : HR k → CR d c → HR (kJoined d k c)
/-- a fault is met at an item -/
def Met (f : Str) (k : Kq) : Prop :=
  if f = "false" then d.isTold k.1 = true ∧ k.2 = false
  else if f = "missed" then k.2 = true ∧ d.isTold k.1 = false
  else if f = "fallen" then d.isTold k.1 = true ∧ ((∃ p ∈ pats8, d.keeps p = true ∧ d.isTold (d.led k.1 p) = false) ∨ ∃ c, CR d c ∧ d.isTold (d.joined k.1 c.1) = false)
  else if f = "order" then ∃ a b, CR d a ∧ CR d b ∧ d.joined (d.joined k.1 a.1) b.1 ≠ d.joined (d.joined k.1 b.1) a.1
  else ∃ c, CR d c ∧ d.joined (d.joined k.1 c.1) c.1 ≠ d.joined k.1 c.1
open Classical in
/-- a fault happens -/
noncomputable def hap (f : Str) : Bool := decide (∃ k, HR d k ∧ Met d f k)
end
section
variable {d : ToolD}
def inK (d : ToolD) (k : Kq) : Prop := k.1 ∈ d.marks
theorem begin_in (ok : d.ok) : inK d (kBegin d) := ok.blank_mem
theorem ran_in (ok : d.ok) {k : Kq} (h : inK d k) : inK d (kRan d k) := ok.ran_mem h
theorem led_in (ok : d.ok) {k : Kq} (p : List Bool) : inK d (kLed d k p) := ok.led_mem p
theorem joined_in (ok : d.ok) {k c : Kq} (h : inK d k) (hc : inK d c) : inK d (kJoined d k c) := ok.joined_mem h hc
theorem MR.mem (ok : d.ok) {k : Kq} (h : MR d k) : inK d k := by
  induction h with
  | begin => exact begin_in ok
  | ran _ ih => exact ran_in ok ih
  | led _ _ _ => exact led_in ok _
theorem CR.mem (ok : d.ok) {k : Kq} (h : CR d k) : inK d k := by
  obtain ⟨i, hi, rfl | ⟨p, _, rfl⟩⟩ := h
  · exact hi.mem ok
  · exact led_in ok _
theorem HR.mem (ok : d.ok) {k : Kq} (h : HR d k) : inK d k := by
  induction h with
  | begin => exact begin_in ok
  | led _ _ _ => exact led_in ok _
  | joined _ hc ih => exact joined_in ok ih (hc.mem ok)
/-- no more than eight items -/
theorem few_items (ok : d.ok) {l : List Kq} (nd : l.Nodup) (h : ∀ k ∈ l, inK d k) : l.length ≤ 8 := by
  have e : ∀ k ∈ l, k ∈ d.marks.flatMap fun m => [(m, false), (m, true)] := fun k hk => List.mem_flatMap.mpr ⟨k.1, h k hk, by
    obtain ⟨m, b⟩ := k
    cases b <;> simp⟩
  have q := nodup_le nd e
  have l8 : (d.marks.flatMap fun m => [((m, false) : Kq), (m, true)]).length = d.marks.length * 2 := by
    generalize d.marks = ms
    induction ms with
    | nil => rfl
    | cons a r ih =>
      rw [List.flatMap_cons, List.length_append, ih]
      show 2 + r.length * 2 = (r.length + 1) * 2
      omega
  rw [l8] at q
  have := ok.few
  omega
/-- a set that holds the beginning and is closed holds all -/
theorem MR.least {S : Kq → Prop} (h0 : S (kBegin d)) (h1 : ∀ k, S k → S (kRan d k)) (h2 : ∀ k, S k → ∀ p ∈ pats8, S (kLed d k p)) {k : Kq} (h : MR d k) : S k := by
  induction h with
  | begin => exact h0
  | ran _ ih => exact h1 _ ih
  | led _ hp ih => exact h2 _ ih _ hp
theorem HR.least {S : Kq → Prop} (h0 : S (kBegin d)) (h1 : ∀ k, S k → ∀ p ∈ pats8, S (kLed d k p)) (h2 : ∀ k, S k → ∀ c, CR d c → S (kJoined d k c)) {k : Kq} (h : HR d k) : S k := by
  induction h with
  | begin => exact h0
  | led _ hp ih => exact h1 _ ih _ hp
  | joined _ hc ih => exact h2 _ ih _ hc
open Classical in
theorem hap_iff {f : Str} : hap d f = true ↔ ∃ k, HR d k ∧ Met d f k := by
  unfold hap
  exact ⟨fun h => of_decide_eq_true h, fun h => decide_eq_true h⟩
theorem hap_not {f : Str} : hap d f = false ↔ ∀ k, HR d k → ¬ Met d f k := by
  rw [← Bool.not_eq_true, hap_iff]
  exact ⟨fun h k a b => h ⟨k, a, b⟩, fun h ⟨k, a, b⟩ => h k a b⟩
end
end Lm
set_option Elab.async false
set_option linter.all false
set_option maxRecDepth 100000
set_option maxHeartbeats 4000000
namespace Lm
open PySem PySem.Spec PyProof.Rows L2
local macro_rules | `(tactic| walk_at "rd") => `(tactic| simp (config := {failIfUnchanged := false}) only [tVar, tC, tIsN, tNotN, tB, tAnd, tOr, tNot, tAndV, tOrV, tNotV, tIf, tNext, tSeq, tBreak, tCont, tDrop, tRet, tRetN, tIfS, gName, gNil, gCons, gTup, tAsg, tPar,
  iList, iTup, iRng1, iRng2, r_tFor, tFmt, tJs, or_false, false_or, exists_false, r_tLc, r_tDc, bf, iSeq, r_wipe0, r_wipe1, tOp, tUn, rI, rI0, rU, rEq, rNe, tTest, tChain, tFld, sFld, tNil, tCons, tTup, tLst, tCall, tMeth, tMake, tCB, tNoPart, tPart, tSl, rIxL, rIxT, rIxQ, rSlQ, r_tLc2, tXGet, tXIn, tXNotIn, sXPut, tXSetd, tXDisp1, iKeysX, iItemsX, tFrz, tFrzE, tRetag, ClX.tCMeth, iEnum, gPr, gUnl, tMakeL, rIxD, cx_w, cx_P, rSlL, rIn, tBM0, tBM, rAppend, rExtend, rPop, rPopAt, rAny, rAll, tYes, iStr, rNewStrs, tM0, tM1, StX.tStar,
  L2.start, List.map_cons, List.map_nil, List.length_cons, List.length_nil, Nat.zero_add, Nat.reduceAdd, Nat.reduceSub, List.replicate_succ, List.replicate_zero, List.cons_append, List.nil_append, List.append_nil, List.set_cons_zero, List.set_cons_succ,
  List.getElem?_cons_zero, List.getElem?_cons_succ, Option.some.injEq, exists_eq_left', exists_eq_left, exists_eq', exists_eq, exists_and_left, exists_and_right, and_assoc, List.cons.injEq, V.str.injEq, V.ref.injEq, V.bl.injEq, V.int.injEq, V.ty.injEq, and_true, true_and, reduceCtorEq, false_and, and_false,
  Bool.not_true, Bool.not_false, Bool.false_eq_true, reduceIte, Bool.not_eq_true', decide_eq_true_eq, upd_same, cx_K, HO.ins.injEq, HO.tup.injEq, HO.lst.injEq, HO.dK.injEq, lk_Run_old, lk_Run_then, lk_Run_names, lm_Run_str, lk_Lead_tests, lk_Lead_old, lk_Lead_then, lk_Lead_names, lm_Lead_str, lk_Join_here, lk_Join_came, lk_Join_then, lk_Join_names, lm_Join_str, lk_Tool_marks, lk_Tool_told, lk_Tool_parts, lk_Tool_clears, lk_Tool_rows, lk_Tool_blank, lm_Tool_need_mark, lm_Tool_is_told, lm_Tool_ran, lm_Tool_led, lm_Tool_joined, lm_Tool_keeps, lm_Tool_need_row, lm_Tool_but, lm_Tool_without, lm_Tool_heeding, lm_Tool_len, lm_Tool_eq, lm_Tool_str, lk_Single_tool, lk_Single_begin, lm_Single_machine_steps, lm_Single_led, lm_Single_joined, lk_Ways_steps, lk_Ways_machine, lk_Ways_coming, lk_Ways_hearings, lk_Ways_elders, lm_Ways_edited, lm_Ways_heard, lk_Meeting_hearings, lk_Meeting_item, lk_Meeting_deeds, lk_Meeting_waiting, lk_Told_steps, lk_Told_machine, lk_Told_coming, lk_Told_hearings, lm_Told_is_closed])
local macro_rules | `(tactic| walk_at "rd*") => `(tactic| simp (config := {failIfUnchanged := false}) only [tVar, tC, tIsN, tNotN, tB, tAnd, tOr, tNot, tAndV, tOrV, tNotV, tIf, tNext, tSeq, tBreak, tCont, tDrop, tRet, tRetN, tIfS, gName, gNil, gCons, gTup, tAsg, tPar,
  iList, iTup, iRng1, iRng2, r_tFor, tFmt, tJs, or_false, false_or, exists_false, r_tLc, r_tDc, bf, iSeq, r_wipe0, r_wipe1, tOp, tUn, rI, rI0, rU, rEq, rNe, tTest, tChain, tFld, sFld, tNil, tCons, tTup, tLst, tCall, tMeth, tMake, tCB, tNoPart, tPart, tSl, rIxL, rIxT, rIxQ, rSlQ, r_tLc2, tXGet, tXIn, tXNotIn, sXPut, tXSetd, tXDisp1, iKeysX, iItemsX, tFrz, tFrzE, tRetag, ClX.tCMeth, iEnum, gPr, gUnl, tMakeL, rIxD, cx_w, cx_P, rSlL, rIn, tBM0, tBM, rAppend, rExtend, rPop, rPopAt, rAny, rAll, tYes, iStr, rNewStrs, tM0, tM1, StX.tStar,
  L2.start, List.map_cons, List.map_nil, List.length_cons, List.length_nil, Nat.zero_add, Nat.reduceAdd, Nat.reduceSub, List.replicate_succ, List.replicate_zero, List.cons_append, List.nil_append, List.append_nil, List.set_cons_zero, List.set_cons_succ,
  List.getElem?_cons_zero, List.getElem?_cons_succ, Option.some.injEq, exists_eq_left', exists_eq_left, exists_eq', exists_eq, exists_and_left, exists_and_right, and_assoc, List.cons.injEq, V.str.injEq, V.ref.injEq, V.bl.injEq, V.int.injEq, V.ty.injEq, and_true, true_and, reduceCtorEq, false_and, and_false,
  Bool.not_true, Bool.not_false, Bool.false_eq_true, reduceIte, Bool.not_eq_true', decide_eq_true_eq, upd_same, cx_K, HO.ins.injEq, HO.tup.injEq, HO.lst.injEq, HO.dK.injEq, lk_Run_old, lk_Run_then, lk_Run_names, lm_Run_str, lk_Lead_tests, lk_Lead_old, lk_Lead_then, lk_Lead_names, lm_Lead_str, lk_Join_here, lk_Join_came, lk_Join_then, lk_Join_names, lm_Join_str, lk_Tool_marks, lk_Tool_told, lk_Tool_parts, lk_Tool_clears, lk_Tool_rows, lk_Tool_blank, lm_Tool_need_mark, lm_Tool_is_told, lm_Tool_ran, lm_Tool_led, lm_Tool_joined, lm_Tool_keeps, lm_Tool_need_row, lm_Tool_but, lm_Tool_without, lm_Tool_heeding, lm_Tool_len, lm_Tool_eq, lm_Tool_str, lk_Single_tool, lk_Single_begin, lm_Single_machine_steps, lm_Single_led, lm_Single_joined, lk_Ways_steps, lk_Ways_machine, lk_Ways_coming, lk_Ways_hearings, lk_Ways_elders, lm_Ways_edited, lm_Ways_heard, lk_Meeting_hearings, lk_Meeting_item, lk_Meeting_deeds, lk_Meeting_waiting, lk_Told_steps, lk_Told_machine, lk_Told_coming, lk_Told_hearings, lm_Told_is_closed, *])
section
variable {P : Program} {w : World} {K : PySem.W.Frag} {mg : Str → Option Value} {base : Heap}
/-! ### Single -/
structure SingleAt (K : PySem.W.Frag) (H : Hp) (s : Addr) (d : ToolD) : Prop where
  ex : ∃ t b dx, H s = some (.ins (He.ga K "Single") dx (fSingle t b)) ∧ ToolAt K H t d ∧ H b = some (kT (kBegin d))
theorem SingleAt.imm {H H' : Hp} {s : Addr} {d : ToolD} (h : SingleAt K H s d) (i : Imm H H') : SingleAt K H' s d := by
  obtain ⟨t, b, dx, h1, h2, h3⟩ := h.ex
  exact ⟨t, b, dx, i _ _ rfl h1, h2.imm i, i _ _ rfl h3⟩
theorem SingleAt.same {H H' : Hp} {s : Addr} {d : ToolD} (h : SingleAt K H s d) (i : Same H H') : SingleAt K H' s d := h.imm (Imm.of_same i)
def spSingleInit (K : PySem.W.Frag) : Sp := fun vs H Q _ => ∃ x dx t d, vs = [.ref x, .ref t] ∧ H x = some (.ins (He.ga K "Single") dx []) ∧ ToolAt K H t d ∧ ∀ H', Ex [x] H H' → SingleAt K H' x d → Q .non H'
theorem sc_Single_init : FnScope ["self", "tool"] ["self", "tool"] (defScope st_Single_init) := ⟨rfl, rfl, rfl, by decide +kernel, rfl, by decide +kernel, by decide +kernel⟩
theorem ToolAt.ex' {H H' : Hp} {x t : Addr} {C dx : Addr} {d : ToolD} (hx : H x = some (.ins C dx [])) (E : Ex [x] H H') (h : ToolAt K H t d) : ToolAt K H' t d := by
  have nx : ∀ {b : Addr} {o : HO}, H b = some o → o ≠ .ins C dx [] → H' b = some o := fun e ne => E _ _ e (by
    rw [List.mem_singleton]
    intro z
    rw [z, hx] at e
    exact ne (Option.some.inj e).symm)
  obtain ⟨dx2, m, t2, p, r, vs, h1, h2, h3, h4, h5, h6⟩ := h.ex
  refine ⟨dx2, m, t2, p, r, vs, nx h1 (by simp [fTool]), nx h2 (by simp), nx h3 (by simp), nx h4 (by simp), nx h5 (by simp), ?_⟩
  refine L2.Paired.mapP h6 fun d v ⟨a, e, hra⟩ => ⟨a, e, ?_⟩
  cases d with
  | run old th =>
    obtain ⟨dx2, n, g1, g2⟩ := hra
    exact ⟨dx2, n, nx g1 (by simp [fRun]), nx g2 (by simp)⟩
  | lead ts old th =>
    obtain ⟨dx2, t2, n, g1, g2, g3⟩ := hra
    exact ⟨dx2, t2, n, nx g1 (by simp [fLead]), nx g2 (by simp), nx g3 (by simp)⟩
  | join here came th =>
    obtain ⟨dx2, n, g1, g2⟩ := hra
    exact ⟨dx2, n, nx g1 (by simp [fJoin]), nx g2 (by simp)⟩
theorem x_Single_init (T : Tx w K mg) : CX1 P w K mg base 1 "Single" ["self", "tool"] (spSingleInit K) := by
  obtain ⟨fd, F⟩ := fun_Single_init T.c
  refine CX1.of F T.g_Single T.mk_Single sc_Single_init (fun _ _ _ _ _ _ us hl => match us, hl with | [_, _], _ => rfl) (fun vs H Q E h => ?_) (fun cdv A outer s H vs Q E hr h => ?_)
  · obtain ⟨x, dx, t, d, rfl, _⟩ := h
    rfl
  · obtain ⟨x, dx, t, d, rfl, hx, ht, k⟩ := h
    obtain ⟨dxt, ma, ta, pa, ra, vs, h1, h2, h3, h4, h5, h6⟩ := ht.ex
    refine ⟨_, pss_cons (ps_fld (pv 0) (pv 1) rfl) (pss_one (ps_fld (pv 0) (pe_tup (pa2 (pe_fld (pv 1) rfl) pe_bl)) rfl)), ?_⟩
    have fl := T.fl
    have ntx : t ≠ x := ne_of h1 hx (by simp [fTool])
    walk_at "rd*"
    have h1' : upd H x (.ins (He.ga K "Single") dx (putF "tool" (V.ref t) [])) t = some (.ins (He.ga K "Tool") dxt (fTool ma ta pa d.clears ra (d.marks.headD Str.empty))) := by rw [upd_ne ntx]; exact h1
    walk_at "rd*"
    refine ⟨by show (0 : Nat) < 1000; decide, by decide, fun p hp => ?_⟩
    have npx : p ≠ x := fun z => by rw [z, upd_same] at hp; cases hp
    have hp0 : H p = none := by rw [upd_ne npx] at hp; exact hp
    have hx2 : upd (upd H x (.ins (He.ga K "Single") dx (putF "tool" (V.ref t) []))) p (.tup [.str (d.marks.headD Str.empty), .bl false]) x = some (.ins (He.ga K "Single") dx (putF "tool" (V.ref t) [])) := by rw [upd_ne npx.symm, upd_same]
    walk_at "rd*"
    refine ⟨by show (1 : Nat) < 1000; decide, ?_⟩
    have E' : Ex [x] H (upd (upd (upd H x (.ins (He.ga K "Single") dx (putF "tool" (V.ref t) []))) p (.tup [.str (d.marks.headD Str.empty), .bl false])) x (.ins (He.ga K "Single") dx (putF "begin" (V.ref p) (putF "tool" (V.ref t) [])))) := by
      have q1 : Ex [x] H (upd H x (.ins (He.ga K "Single") dx (putF "tool" (V.ref t) []))) := Ex.put (List.mem_singleton.mpr rfl)
      exact (q1.trans (Ex.of_same (same_new hp))).trans (Ex.put (List.mem_singleton.mpr rfl))
    refine k _ E' ⟨t, p, dx, upd_same, ht.ex' hx E', ?_⟩
    rw [upd_ne npx, upd_same]
    rfl
def spSLed (K : PySem.W.Frag) : Sp := fun vs H Q _ => ∃ s i q d k p, vs = [.ref s, .ref i, .ref q] ∧ SingleAt K H s d ∧ d.ok ∧ H i = some (kT k) ∧ inK d k ∧ SqT K H q (p.map V.bl) ∧ p.length = 3 ∧ ∀ b H', Same H H' → H' b = some (kT (kLed d k p)) → Q (.ref b) H'
theorem sc_SLed : FnScope ["self", "item", "pattern"] ["self", "item", "pattern"] (defScope st_Single_led) := ⟨rfl, rfl, rfl, by decide +kernel, rfl, by decide +kernel, by decide +kernel⟩
theorem x_SLed (T : Tx w K mg) : MX P w K mg base 4 (He.ga K "Single") "led" ["self", "item", "pattern"] (spSLed K) := by
  obtain ⟨fd, F⟩ := fun_Single_led T.c
  have G1 : MX P w K mg base 3 (He.ga K "Tool") "led" ["self", "mark", "same"] (spLed K) := x_led T
  have G2 : MX P w K mg base 1 (He.ga K "Tool") "keeps" ["self", "same"] (spKeeps K) := x_keeps T
  refine MX.of F T.me_Single_led sc_SLed (fun _ _ _ _ _ _ us hl => match us, hl with | [_, _, _], _ => rfl) (fun vs H Q E h => ?_) (fun cdv A outer s H vs Q E hr h => ?_)
  · obtain ⟨s, i, q, d, k, p, rfl, _⟩ := h
    rfl
  · obtain ⟨s, i, q, d, k, p, rfl, hs, ok, hi, hk, hq, hl, kk⟩ := h
    obtain ⟨t, b, dx, h1, h2, h3⟩ := hs.ex
    obtain ⟨dxt, ma, ta, pa, ra, vs, g1, _⟩ := h2.ex
    refine ⟨_, pss_one (ps_ret (pe_tup (pa2 (pm G1 T.cl_Tool hr (pe_fld (pv 0) rfl) (pa2 (pe_ix ix_tup (pv 1) pe_int (fun _ _ => rfl)) (pv 2)))
      (pe_and (pe_ix ix_tup (pv 1) pe_int (fun _ _ => rfl)) (pe_one (pm G2 T.cl_Tool hr (pe_fld (pv 0) rfl) (pa1 (pv 2)))))))), ?_⟩
    have fl := T.fl
    walk_at "rd*"
    have hi2 : H i = some (.tup [.str k.1, .bl k.2]) := hi
    refine ⟨_, SqT.of hi2, .str k.1, atI_nat (j := 0) rfl, t, k.1, q, d, p, rfl, h2, ok, hk, hq, hl, fun H1 s1 => ?_⟩
    refine ⟨_, SqT.of (s1 _ _ hi2), .bl k.2, atI_nat (j := 1) rfl, k.2, rfl, ?_⟩
    cases e : k.2 with
    | false =>
      refine iteBF rfl ⟨by decide, fun p2 hp2 => kk p2 _ (s1.trans (same_new hp2)) ?_⟩
      rw [upd_same]
      unfold kT kLed
      rw [e]
      rfl
    | true =>
      refine iteBT rfl ?_
      have h1' := s1 _ _ h1
      have g1' := s1 _ _ g1
      walk_at "rd*"
      refine ⟨t, q, d, p, rfl, h2.same s1, ok, Same.seqT s1 hq, hl, fun H2 s2 => ⟨by decide, fun p2 hp2 => kk p2 _ ((s1.trans s2).trans (same_new hp2)) ?_⟩⟩
      rw [upd_same]
      unfold kT kLed
      rw [e, Bool.true_and]
def spSJoined (K : PySem.W.Frag) : Sp := fun vs H Q _ => ∃ s i c d k l, vs = [.ref s, .ref i, .ref c] ∧ SingleAt K H s d ∧ H i = some (kT k) ∧ H c = some (kT l) ∧ inK d k ∧ inK d l ∧ ∀ b H', Same H H' → H' b = some (kT (kJoined d k l)) → Q (.ref b) H'
theorem sc_SJoined : FnScope ["self", "here", "came"] ["self", "here", "came"] (defScope st_Single_joined) := ⟨rfl, rfl, rfl, by decide +kernel, rfl, by decide +kernel, by decide +kernel⟩
theorem x_SJoined (T : Tx w K mg) : MX P w K mg base 4 (He.ga K "Single") "joined" ["self", "here", "came"] (spSJoined K) := by
  obtain ⟨fd, F⟩ := fun_Single_joined T.c
  have G1 : MX P w K mg base 3 (He.ga K "Tool") "joined" ["self", "here", "came"] (spJoined K) := x_joined T
  refine MX.of F T.me_Single_joined sc_SJoined (fun _ _ _ _ _ _ us hl => match us, hl with | [_, _, _], _ => rfl) (fun vs H Q E h => ?_) (fun cdv A outer s H vs Q E hr h => ?_)
  · obtain ⟨s, i, c, d, k, l, rfl, _⟩ := h
    rfl
  · obtain ⟨s, i, c, d, k, l, rfl, hs, hi, hc, hk, hl, kk⟩ := h
    obtain ⟨t, b, dx, h1, h2, h3⟩ := hs.ex
    obtain ⟨dxt, ma, ta, pa, ra, vs, g1, _⟩ := h2.ex
    refine ⟨_, pss_one (ps_ret (pe_tup (pa2 (pm G1 T.cl_Tool hr (pe_fld (pv 0) rfl) (pa2 (pe_ix ix_tup (pv 1) pe_int (fun _ _ => rfl)) (pe_ix ix_tup (pv 2) pe_int (fun _ _ => rfl))))
      (pe_or (pe_ix ix_tup (pv 1) pe_int (fun _ _ => rfl)) (pe_one (pe_ix ix_tup (pv 2) pe_int (fun _ _ => rfl))))))), ?_⟩
    have fl := T.fl
    walk_at "rd*"
    have hi2 : H i = some (.tup [.str k.1, .bl k.2]) := hi
    have hc2 : H c = some (.tup [.str l.1, .bl l.2]) := hc
    refine ⟨_, SqT.of hi2, .str k.1, atI_nat (j := 0) rfl, _, SqT.of hc2, .str l.1, atI_nat (j := 0) rfl, t, k.1, l.1, d, rfl, h2, hk, hl, fun H1 s1 => ?_⟩
    refine ⟨_, SqT.of (s1 _ _ hi2), .bl k.2, atI_nat (j := 1) rfl, k.2, rfl, ?_⟩
    cases e : k.2 with
    | true =>
      refine iteBT rfl ⟨by decide, fun p2 hp2 => kk p2 _ (s1.trans (same_new hp2)) ?_⟩
      rw [upd_same]
      unfold kT kJoined
      rw [e]
      rfl
    | false =>
      refine iteBF rfl ⟨_, SqT.of (s1 _ _ hc2), .bl l.2, atI_nat (j := 1) rfl, by decide, fun p2 hp2 => kk p2 _ (s1.trans (same_new hp2)) ?_⟩
      rw [upd_same]
      unfold kT kJoined
      rw [e, Bool.false_or]
/-- the machine's steps: pairs of a deed and the item behind it -/
def nexts (d : ToolD) (k : Kq) : List Kq := kRan d k :: pats8.map (kLed d k)
def StepV (H : Hp) (k : Kq) (v : V) : Prop := ∃ t de b, v = .ref t ∧ H t = some (.tup [de, .ref b]) ∧ H b = some (kT k)
theorem StepV.same {H H' : Hp} {k : Kq} {v : V} (h : StepV H k v) (s : Same H H') : StepV H' k v := by
  obtain ⟨t, de, b, e, h1, h2⟩ := h
  exact ⟨t, de, b, e, s _ _ h1, s _ _ h2⟩
theorem StepV.imm {H H' : Hp} {k : Kq} {v : V} (h : StepV H k v) (s : Imm H H') : StepV H' k v := by
  obtain ⟨t, de, b, e, h1, h2⟩ := h
  exact ⟨t, de, b, e, s _ _ rfl h1, s _ _ rfl h2⟩
def spSteps (K : PySem.W.Frag) : Sp := fun vs H Q _ => ∃ s i d k, vs = [.ref s, .ref i] ∧ SingleAt K H s d ∧ d.ok ∧ H i = some (kT k) ∧ inK d k ∧ ∀ l H' ws, Same H H' → H l = none → H' l = some (.lst ws) → Paired (StepV H') (nexts d k) ws → Q (.ref l) H'
theorem sc_Steps : FnScope ["self", "item", "found", "pattern"] ["self", "item"] (defScope st_Single_machine_steps) := ⟨rfl, rfl, rfl, by decide +kernel, rfl, by decide +kernel, by decide +kernel⟩
theorem pats8_len : ∀ p ∈ pats8, p.length = 3 := by decide +kernel
theorem x_Steps (T : Tx w K mg) : MX P w K mg base 5 (He.ga K "Single") "machine_steps" ["self", "item"] (spSteps K) := by
  obtain ⟨fd, F⟩ := fun_Single_machine_steps T.c
  have G1 : MX P w K mg base 3 (He.ga K "Tool") "ran" ["self", "mark"] (spRan K) := x_ran T
  have G2 : MX P w K mg base 4 (He.ga K "Single") "led" ["self", "item", "pattern"] (spSLed K) := x_SLed T
  obtain ⟨es, h8, p8⟩ := T.t_EIGHT
  refine MX.of F T.me_Single_machine_steps sc_Steps (fun _ _ _ _ _ _ us hl => match us, hl with | [_, _], _ => rfl) (fun vs H Q E h => ?_) (fun cdv A outer s H vs Q E hr h => ?_)
  · obtain ⟨s, i, d, k, rfl, _⟩ := h
    rfl
  · obtain ⟨s, i, d, k, rfl, hs, ok, hi, hk, kk⟩ := h
    obtain ⟨t, b, dx, h1, h2, h3⟩ := hs.ex
    obtain ⟨dxt, ma, ta, pa, ra, vs, g1, _⟩ := h2.ex
    refine ⟨_, pss_cons (ps_set (i := 2) sc_Steps.nd rfl (Or.inl rfl) (pe_lst (pa1 (pe_tup (pa2 (pe_tup (pa1 pe_str)) (pe_tup (pa2 (pm G1 T.cl_Tool hr (pe_fld (pv 0) rfl) (pa1 (pe_ix ix_tup (pv 1) pe_int (fun _ _ => rfl)))) pe_bl)))))))
      (pss_cons (ps_expr (pe_bm PySem.F.plainAttrs_list PySem.F.slot_list_extend PySem.F.type_list_extend mt_extend (pv 2) (pa1 (plc sc_Steps 3 (pi_tup (pgr T.g_EIGHT)) (fun _ _ _ _ _ => pe_tup (pa2 (pe_tup (pa2 pe_str (pv 3))) (pm G2 T.cl_Single hr (pv 0) (pa2 (pv 1) (pv 3)))))))))
      (pss_one (ps_ret (pv 2)))), ?_⟩
    have fl := T.fl
    have hi2 : H i = some (.tup [.str k.1, .bl k.2]) := hi
    walk_at "rd*"
    refine ⟨by decide, fun p1 hp1 => ?_⟩
    have s1 := same_new (o := .tup [.str "run"]) hp1
    have e1 : upd H p1 (.tup [.str "run"]) p1 = some (.tup [.str "run"]) := upd_same
    generalize upd H p1 (.tup [.str "run"]) = G1' at *
    have h1' := s1 _ _ h1
    have g1' := s1 _ _ g1
    walk_at "rd*"
    refine ⟨_, SqT.of (s1 _ _ hi2), .str k.1, atI_nat (j := 0) rfl, t, k.1, d, rfl, h2.same s1, hk, fun H2 s2 => ⟨by decide, fun p2 hp2 => ⟨by decide, fun p3 hp3 => ⟨by decide, fun p4 hp4 => ?_⟩⟩⟩⟩
    have s3 := same_new (o := .tup [.str (d.ran k.1), .bl true]) hp2
    have s4 := same_new (o := .tup [.ref p1, .ref p2]) hp3
    have s5 := same_new (o := .lst [.ref p3]) hp4
    have st0 : StepV (upd (upd (upd H2 p2 (.tup [.str (d.ran k.1), .bl true])) p3 (.tup [.ref p1, .ref p2])) p4 (.lst [.ref p3])) (kRan d k) (.ref p3) := ⟨p3, .ref p1, p2, rfl, s5 _ _ upd_same, s5 _ _ (s4 _ _ upd_same)⟩
    have eL : upd (upd (upd H2 p2 (.tup [.str (d.ran k.1), .bl true])) p3 (.tup [.ref p1, .ref p2])) p4 (.lst [.ref p3]) p4 = some (.lst [.ref p3]) := upd_same
    have s15 := (s1.trans s2).trans ((s3.trans s4).trans s5)
    have nL : H p4 = none := ((s1.trans s2).trans (s3.trans s4)).free hp4
    generalize upd (upd (upd H2 p2 (.tup [.str (d.ran k.1), .bl true])) p3 (.tup [.ref p1, .ref p2])) p4 (.lst [.ref p3]) = G5 at *
    refine ⟨.inl ⟨rfl, _, SqL.of eL⟩, ⟨_, h8 G5⟩, fun D hD => ?_⟩
    have pl : es.length ≤ 1000 := by rw [← Paired.length p8]; decide
    refine lcWD walk_tup rfl pl hD p8 (fun p v H' => StepV H' (kLed d k p) v) (fun p v Ha Hb _ im h => h.imm im) (fun H s => h8 H) (fun j p x hj hx H6 s6 _ Ky ky => ?_) fun H6 ys s6 e6 pr => ?_
    · obtain ⟨a, rfl, ha⟩ := hx
      walk_at "rd"
      refine ⟨by decide, fun p7 hp7 => ?_⟩
      have s7 := (s15.trans s6).trans (same_new (o := .tup [.str "fetch", .ref a]) hp7)
      refine ⟨_, _, s7 _ _ h1, rfl, s, i, a, d, k, p, rfl, hs.same s7, ok, s7 _ _ hi, hk, ha _, pats8_len p (List.mem_of_getElem? hj), fun b8 H8 s8 e8 => ⟨by decide, fun p9 hp9 => ?_⟩⟩
      exact ky _ _ ((same_new hp7).trans (s8.trans (same_new hp9))) ⟨p9, .ref p7, b8, rfl, upd_same, same_new hp9 _ _ e8⟩
    · have eL6 := s6 _ _ eL
      have yl : ys.length = 8 := by rw [← Paired.length pr]; rfl
      refine ⟨[.ref p3], eL6, ys, e6, by rw [yl]; show (9 : Nat) ≤ sizeLine; decide, ?_⟩
      refine kk p4 _ (.ref p3 :: ys) (fun b o eb => ?_) nL upd_same (.cons ((st0.same s6).imm (imm_put eL6 rfl)) ?_)
      · rw [upd_ne (ne_of_none eb nL)]
        exact s6 _ _ (s15 _ _ eb)
      · have conv : ∀ {l : List (List Bool)} {m : List V}, Paired (fun p v => StepV H6 (kLed d k p) v) l m → Paired (StepV (upd H6 p4 (.lst (.ref p3 :: ys)))) (l.map (kLed d k)) m := by
          intro l m h
          induction h with
          | nil => exact .nil
          | cons r t ih => exact .cons (r.imm (imm_put eL6 rfl)) ih
        exact conv pr
end
end Lm
set_option Elab.async false
set_option linter.all false
set_option maxRecDepth 100000
set_option maxHeartbeats 4000000
/-! Ledmarks k83: lists and tuples of data, compared. -/
namespace Lm
open PySem PySem.Spec PyProof.Rows L2
/-- a way to tell things as data -/
structure Enc {α : Type} [DecidableEq α] (enc : α → PyData) (ok : α → Prop) : Prop where
  lay : ∀ a, ok a → (enc a).canLay0 = true
  dep : ∀ a, (enc a).depth ≤ 2
  eqv : ∀ a b, PyData.eqv (enc a) (enc b) = decide (a = b)
section
variable {α : Type} [DecidableEq α] {enc : α → PyData} {ok : α → Prop}
theorem Enc.all (E : Enc enc ok) : ∀ l m : List α, PyData.eqvAll (l.map enc) (m.map enc) = decide (l = m)
  | [], [] => by simp [PyData.eqvAll]
  | [], _ :: _ => by simp [PyData.eqvAll]
  | _ :: _, [] => by simp [PyData.eqvAll]
  | a :: l, b :: m => by
    rw [List.map_cons, List.map_cons]
    show (PyData.eqv (enc a) (enc b) && PyData.eqvAll (l.map enc) (m.map enc)) = _
    rw [E.eqv, E.all l m, Bool.eq_iff_iff]
    simp
theorem Enc.layAll (E : Enc enc ok) : ∀ {l : List α}, (∀ a ∈ l, ok a) → PyData.canLayAll0 (l.map enc) = true
  | [], _ => rfl
  | a :: l, h => by
    rw [List.map_cons]
    show ((enc a).canLay0 && PyData.canLayAll0 (l.map enc)) = true
    rw [E.lay a (h a List.mem_cons_self), E.layAll fun x hx => h x (List.mem_cons_of_mem _ hx)]
    rfl
theorem Enc.depAll (E : Enc enc ok) : ∀ l : List α, PyData.depthAll (l.map enc) ≤ 2
  | [] => by simp [PyData.depthAll]
  | a :: l => by
    have h1 := E.dep a
    have h2 := E.depAll l
    rw [List.map_cons]
    simp only [PyData.depthAll]
    omega
theorem Enc.shL (E : Enc enc ok) {l : List α} (h : ∀ a ∈ l, ok a) : SeqAt.shaped (.list (l.map enc)) = true := by
  unfold SeqAt.shaped
  have h2 := E.depAll l
  have e1 : (PyData.list (l.map enc)).canLay0 = true := E.layAll h
  have e2 : (PyData.list (l.map enc)).depth ≤ 64 := by
    simp only [PyData.depth]
    omega
  rw [e1, decide_eq_true e2]
  rfl
theorem Enc.shT (E : Enc enc ok) {l : List α} (h : ∀ a ∈ l, ok a) : SeqAt.shaped (.tuple (l.map enc)) = true := by
  unfold SeqAt.shaped
  have h2 := E.depAll l
  have e1 : (PyData.tuple (l.map enc)).canLay0 = true := E.layAll h
  have e2 : (PyData.tuple (l.map enc)).depth ≤ 64 := by
    simp only [PyData.depth]
    omega
  rw [e1, decide_eq_true e2]
  rfl
variable {K : PySem.W.Frag} {H : Hp} {a b : Addr} {vs ws : List V} {l m : List α} {Q : VK}
/-- two lists of data, != -/
theorem ne_lists (E : Enc enc ok) (h1 : SqL K H a vs) (d1 : DpAll K H vs (l.map enc)) (o1 : ∀ x ∈ l, ok x) (h2 : SqL K H b ws) (d2 : DpAll K H ws (m.map enc)) (o2 : ∀ x ∈ m, ok x) (q : Q (.bl (!decide (l = m))) H) : rNeD K (.ref a) (.ref b) H Q :=
  ⟨.list (l.map enc), .list (m.map enc), .lst h1 d1, .lst h2 d2, E.shL o1, E.shL o2, by
    have e : PyData.eqv (.list (l.map enc)) (.list (m.map enc)) = decide (l = m) := E.all l m
    rw [e]
    exact q⟩
theorem eq_lists (E : Enc enc ok) (h1 : SqL K H a vs) (d1 : DpAll K H vs (l.map enc)) (o1 : ∀ x ∈ l, ok x) (h2 : SqL K H b ws) (d2 : DpAll K H ws (m.map enc)) (o2 : ∀ x ∈ m, ok x) (q : Q (.bl (decide (l = m))) H) : rEqD K (.ref a) (.ref b) H Q :=
  ⟨.list (l.map enc), .list (m.map enc), .lst h1 d1, .lst h2 d2, E.shL o1, E.shL o2, by
    have e : PyData.eqv (.list (l.map enc)) (.list (m.map enc)) = decide (l = m) := E.all l m
    rw [e]
    exact q⟩
theorem ne_tuples (E : Enc enc ok) (h1 : SqT K H a vs) (d1 : DpAll K H vs (l.map enc)) (o1 : ∀ x ∈ l, ok x) (h2 : SqT K H b ws) (d2 : DpAll K H ws (m.map enc)) (o2 : ∀ x ∈ m, ok x) (q : Q (.bl (!decide (l = m))) H) : rNeD K (.ref a) (.ref b) H Q :=
  ⟨.tuple (l.map enc), .tuple (m.map enc), .tup h1 d1, .tup h2 d2, E.shT o1, E.shT o2, by
    have e : PyData.eqv (.tuple (l.map enc)) (.tuple (m.map enc)) = decide (l = m) := E.all l m
    rw [e]
    exact q⟩
end
/-! ### texts, whole numbers, items -/
def okS (z : Str) : Prop := PyData.strOk z = true
theorem encS : Enc (fun z : Str => PyData.str z) okS where
  lay := fun a h => by
    show PyData.strOk a = true
    exact h
  dep := fun a => by simp [PyData.depth]
  eqv := fun a b => by
    show (a == b) = decide (a = b)
    rw [Bool.eq_iff_iff]
    simp
theorem encI : Enc (fun i : Int => PyData.int i) (fun _ => True) where
  lay := fun a h => rfl
  dep := fun a => by simp [PyData.depth]
  eqv := fun a b => by
    show (a == b) = decide (a = b)
    rw [Bool.eq_iff_iff]
    simp
def kD (k : Kq) : PyData := .tuple [.str k.1, .bool k.2]
theorem encK : Enc kD (fun k => okS k.1) where
  lay := fun a h => by
    show (PyData.strOk a.1 && (true && true)) = true
    rw [show PyData.strOk a.1 = true from h]
    rfl
  dep := fun a => by simp [kD, PyData.depth, PyData.depthAll]
  eqv := fun a b => by
    obtain ⟨x, c⟩ := a
    obtain ⟨y, e⟩ := b
    show ((x == y) && ((c == e) && true)) = decide ((x, c) = (y, e))
    rw [Bool.eq_iff_iff]
    simp
theorem isNm_ok {z : Str} (h : isNm z = true) : okS z := by
  unfold isNm at h
  simp only [Bool.and_eq_true] at h
  have hs := h.2.2.2
  unfold okS PyData.strOk
  have e : z.cps.all (· < 0x110000) = z.cps.toList.all (· < 0x110000) := by rw [Array.all_toList]
  rw [e]
  refine List.all_eq_true.mpr fun c hc => decide_eq_true ?_
  have := of_decide_eq_true (List.all_eq_true.mp hs c hc)
  have lt : ∀ c ∈ smallC, c < 0x110000 := by decide +kernel
  exact lt c this
section
variable {K : PySem.W.Frag} {H : Hp}
theorem dp_strs : ∀ l : List Str, DpAll K H (sv l) (l.map fun z => PyData.str z)
  | [] => .nil
  | a :: l => .cons (.str a) (dp_strs l)
theorem dp_ints : ∀ l : List Int, DpAll K H (l.map V.int) (l.map fun i => PyData.int i)
  | [] => .nil
  | a :: l => .cons (.int a) (dp_ints l)
end
end Lm
set_option Elab.async false
set_option linter.all false
set_option maxRecDepth 100000
set_option maxHeartbeats 4000000
namespace Lm
open PySem PySem.Spec PyProof.Rows L2
local macro_rules | `(tactic| walk_at "rd") => `(tactic| simp (config := {failIfUnchanged := false}) only [tVar, tC, tIsN, tNotN, tB, tAnd, tOr, tNot, tAndV, tOrV, tNotV, tIf, tNext, tSeq, tBreak, tCont, tDrop, tRet, tRetN, tIfS, gName, gNil, gCons, gTup, tAsg, tPar,
  iList, iTup, iRng1, iRng2, r_tFor, tFmt, tJs, or_false, false_or, exists_false, r_tLc, r_tDc, bf, iSeq, r_wipe0, r_wipe1, tOp, tUn, rI, rI0, rU, rEq, rNe, tTest, tChain, tFld, sFld, tNil, tCons, tTup, tLst, tCall, tMeth, tMake, tCB, tNoPart, tPart, tSl, rIxL, rIxT, rIxQ, rSlQ, r_tLc2, tXGet, tXIn, tXNotIn, sXPut, tXSetd, tXDisp1, iKeysX, iItemsX, tFrz, tFrzE, tRetag, ClX.tCMeth, iEnum, gPr, gUnl, tMakeL, rIxD, cx_w, cx_P, rSlL, rIn, tBM0, tBM, rAppend, rExtend, rPop, rPopAt, rAny, rAll, tYes, iStr, rNewStrs, tM0, tM1, StX.tStar,
  L2.start, List.map_cons, List.map_nil, List.length_cons, List.length_nil, Nat.zero_add, Nat.reduceAdd, Nat.reduceSub, List.replicate_succ, List.replicate_zero, List.cons_append, List.nil_append, List.append_nil, List.set_cons_zero, List.set_cons_succ,
  List.getElem?_cons_zero, List.getElem?_cons_succ, Option.some.injEq, exists_eq_left', exists_eq_left, exists_eq', exists_eq, exists_and_left, exists_and_right, and_assoc, List.cons.injEq, V.str.injEq, V.ref.injEq, V.bl.injEq, V.int.injEq, V.ty.injEq, and_true, true_and, reduceCtorEq, false_and, and_false,
  Bool.not_true, Bool.not_false, Bool.false_eq_true, reduceIte, Bool.not_eq_true', decide_eq_true_eq, upd_same, cx_K, HO.ins.injEq, HO.tup.injEq, HO.lst.injEq, HO.dK.injEq, lk_Run_old, lk_Run_then, lk_Run_names, lm_Run_str, lk_Lead_tests, lk_Lead_old, lk_Lead_then, lk_Lead_names, lm_Lead_str, lk_Join_here, lk_Join_came, lk_Join_then, lk_Join_names, lm_Join_str, lk_Tool_marks, lk_Tool_told, lk_Tool_parts, lk_Tool_clears, lk_Tool_rows, lk_Tool_blank, lm_Tool_need_mark, lm_Tool_is_told, lm_Tool_ran, lm_Tool_led, lm_Tool_joined, lm_Tool_keeps, lm_Tool_need_row, lm_Tool_but, lm_Tool_without, lm_Tool_heeding, lm_Tool_len, lm_Tool_eq, lm_Tool_str, lk_Single_tool, lk_Single_begin, lm_Single_machine_steps, lm_Single_led, lm_Single_joined, lk_Ways_steps, lk_Ways_machine, lk_Ways_coming, lk_Ways_hearings, lk_Ways_elders, lm_Ways_edited, lm_Ways_heard, lk_Meeting_hearings, lk_Meeting_item, lk_Meeting_deeds, lk_Meeting_waiting, lk_Told_steps, lk_Told_machine, lk_Told_coming, lk_Told_hearings, lm_Told_is_closed])
local macro_rules | `(tactic| walk_at "rd*") => `(tactic| simp (config := {failIfUnchanged := false}) only [tVar, tC, tIsN, tNotN, tB, tAnd, tOr, tNot, tAndV, tOrV, tNotV, tIf, tNext, tSeq, tBreak, tCont, tDrop, tRet, tRetN, tIfS, gName, gNil, gCons, gTup, tAsg, tPar,
  iList, iTup, iRng1, iRng2, r_tFor, tFmt, tJs, or_false, false_or, exists_false, r_tLc, r_tDc, bf, iSeq, r_wipe0, r_wipe1, tOp, tUn, rI, rI0, rU, rEq, rNe, tTest, tChain, tFld, sFld, tNil, tCons, tTup, tLst, tCall, tMeth, tMake, tCB, tNoPart, tPart, tSl, rIxL, rIxT, rIxQ, rSlQ, r_tLc2, tXGet, tXIn, tXNotIn, sXPut, tXSetd, tXDisp1, iKeysX, iItemsX, tFrz, tFrzE, tRetag, ClX.tCMeth, iEnum, gPr, gUnl, tMakeL, rIxD, cx_w, cx_P, rSlL, rIn, tBM0, tBM, rAppend, rExtend, rPop, rPopAt, rAny, rAll, tYes, iStr, rNewStrs, tM0, tM1, StX.tStar,
  L2.start, List.map_cons, List.map_nil, List.length_cons, List.length_nil, Nat.zero_add, Nat.reduceAdd, Nat.reduceSub, List.replicate_succ, List.replicate_zero, List.cons_append, List.nil_append, List.append_nil, List.set_cons_zero, List.set_cons_succ,
  List.getElem?_cons_zero, List.getElem?_cons_succ, Option.some.injEq, exists_eq_left', exists_eq_left, exists_eq', exists_eq, exists_and_left, exists_and_right, and_assoc, List.cons.injEq, V.str.injEq, V.ref.injEq, V.bl.injEq, V.int.injEq, V.ty.injEq, and_true, true_and, reduceCtorEq, false_and, and_false,
  Bool.not_true, Bool.not_false, Bool.false_eq_true, reduceIte, Bool.not_eq_true', decide_eq_true_eq, upd_same, cx_K, HO.ins.injEq, HO.tup.injEq, HO.lst.injEq, HO.dK.injEq, lk_Run_old, lk_Run_then, lk_Run_names, lm_Run_str, lk_Lead_tests, lk_Lead_old, lk_Lead_then, lk_Lead_names, lm_Lead_str, lk_Join_here, lk_Join_came, lk_Join_then, lk_Join_names, lm_Join_str, lk_Tool_marks, lk_Tool_told, lk_Tool_parts, lk_Tool_clears, lk_Tool_rows, lk_Tool_blank, lm_Tool_need_mark, lm_Tool_is_told, lm_Tool_ran, lm_Tool_led, lm_Tool_joined, lm_Tool_keeps, lm_Tool_need_row, lm_Tool_but, lm_Tool_without, lm_Tool_heeding, lm_Tool_len, lm_Tool_eq, lm_Tool_str, lk_Single_tool, lk_Single_begin, lm_Single_machine_steps, lm_Single_led, lm_Single_joined, lk_Ways_steps, lk_Ways_machine, lk_Ways_coming, lk_Ways_hearings, lk_Ways_elders, lm_Ways_edited, lm_Ways_heard, lk_Meeting_hearings, lk_Meeting_item, lk_Meeting_deeds, lk_Meeting_waiting, lk_Told_steps, lk_Told_machine, lk_Told_coming, lk_Told_hearings, lm_Told_is_closed, *])
section
variable {P : Program} {w : World} {K : PySem.W.Frag} {mg : Str → Option Value} {base : Heap}
/-! ### machine_elders -/
def keysX (xs : List XE) : List Kq := xs.map (·.1)
theorem hasX_keys (xs : List XE) (k : Kq) : hasX xs k = true ↔ k ∈ keysX xs := by
  unfold hasX keysX
  rw [List.any_eq_true, List.mem_map]
  exact ⟨fun ⟨e, h, q⟩ => ⟨e, h, of_decide_eq_true q⟩, fun ⟨e, h, q⟩ => ⟨e, h, decide_eq_true q⟩⟩
theorem hasX_no {xs : List XE} {k : Kq} : hasX xs k = false ↔ k ∉ keysX xs := by
  rw [← hasX_keys, Bool.not_eq_true]
/-- a list of items -/
abbrev ItemsAt (H : Hp) (ks : List Kq) (vs : List V) : Prop := Paired (fun k v => ∃ b, v = V.ref b ∧ H b = some (kT k)) ks vs
theorem ItemsAt.imm {H H' : Hp} {ks : List Kq} {vs : List V} (h : ItemsAt H ks vs) (i : Imm H H') : ItemsAt H' ks vs := L2.Paired.mapP h fun _ _ ⟨b, e, q⟩ => ⟨b, e, i _ _ rfl q⟩
/-- what is known of the machine's elders while the search goes on: E the keys, L those that wait -/
structure MSt (d : ToolD) (E L : List Kq) : Prop where
  nd : E.Nodup
  all : ∀ k ∈ E, MR d k
  begin : kBegin d ∈ E
  sub : ∀ k ∈ L, k ∈ E
  done : ∀ k ∈ E, k ∉ L → ∀ l ∈ nexts d k, l ∈ E
theorem nexts_mr {d : ToolD} {k l : Kq} (h : MR d k) (hl : l ∈ nexts d k) : MR d l := by
  rcases List.mem_cons.mp hl with e | hl
  · rw [e]; exact .ran h
  · obtain ⟨p, hp, e⟩ := List.mem_map.mp hl
    rw [← e]
    exact .led h hp
theorem MSt.few {d : ToolD} {E L : List Kq} (h : MSt d E L) (ok : d.ok) : E.length ≤ 8 := few_items ok h.nd fun k hk => (h.all k hk).mem ok
/-- when none waits, E is all -/
theorem MSt.full {d : ToolD} {E : List Kq} (h : MSt d E []) (k : Kq) : k ∈ E ↔ MR d k := by
  refine ⟨h.all k, fun m => ?_⟩
  refine MR.least (S := fun k => k ∈ E) h.begin (fun k hk => h.done k hk (by simp) _ List.mem_cons_self) (fun k hk p hp => h.done k hk (by simp) _ (List.mem_cons_of_mem _ (List.mem_map.mpr ⟨p, hp, rfl⟩))) m
theorem MSt.add {d : ToolD} {E L : List Kq} {k l : Kq} (h : MSt d E (k :: L)) (hl : l ∈ nexts d k) (n : l ∉ E) : MSt d (E ++ [l]) (k :: (L ++ [l])) := by
  have hk := h.all k (h.sub k List.mem_cons_self)
  refine ⟨List.nodup_append.mpr ⟨h.nd, by simp, fun a ha b hb => by rw [List.mem_singleton.mp hb]; exact fun e => n (e ▸ ha)⟩, fun x hx => ?_, List.mem_append_left _ h.begin, fun x hx => ?_, fun x hx hn y hy => ?_⟩
  · rcases List.mem_append.mp hx with hx | hx
    · exact h.all x hx
    · rw [List.mem_singleton.mp hx]; exact nexts_mr hk hl
  · rcases List.mem_cons.mp hx with e | hx
    · rw [e]; exact List.mem_append_left _ (h.sub k List.mem_cons_self)
    · rcases List.mem_append.mp hx with hx | hx
      · exact List.mem_append_left _ (h.sub x (List.mem_cons_of_mem _ hx))
      · exact List.mem_append_right _ hx
  · rcases List.mem_append.mp hx with hx | hx
    · refine List.mem_append_left _ (h.done x hx (fun hm => hn ?_) y hy)
      rcases List.mem_cons.mp hm with e | hm
      · rw [e]; exact List.mem_cons_self
      · exact List.mem_cons_of_mem _ (List.mem_append_left _ hm)
    · exact absurd (List.mem_cons_of_mem _ (List.mem_append_right _ hx)) hn
theorem MSt.close {d : ToolD} {E L : List Kq} {k : Kq} (h : MSt d E (k :: L)) (a : ∀ l ∈ nexts d k, l ∈ E) : MSt d E L :=
  ⟨h.nd, h.all, h.begin, fun x hx => h.sub x (List.mem_cons_of_mem _ hx), fun x hx hn y hy => by
    by_cases e : x = k
    · subst e; exact a y hy
    · exact h.done x hx (fun hm => by
        rcases List.mem_cons.mp hm with e2 | hm
        · exact e e2
        · exact hn hm) y hy⟩
theorem keysX_put {xs : List XE} {k : Kq} {b : Addr} {v : V} (h : k ∉ keysX xs) : keysX (putX xs k b v) = keysX xs ++ [k] := by
  rw [putX_new (hasX_no.mpr h)]
  unfold keysX
  rw [List.map_append]
  rfl
theorem dp_items {K : PySem.W.Frag} {H : Hp} {ks : List Kq} {vs : List V} (h : ItemsAt H ks vs) : DpAll K H vs (ks.map kD) := by
  induction h with
  | nil => exact .nil
  | cons r t ih =>
    obtain ⟨b, rfl, e⟩ := r
    refine .cons (.tup (SqT.of e) (.cons (.str _) (.cons (.bl _) .nil))) ih
theorem items_ok {d : ToolD} (ok : d.ok) {L : List Kq} (h : ∀ k ∈ L, inK d k) : ∀ k ∈ L, okS k.1 := fun k hk => isNm_ok (ok.names _ (h k hk))
theorem six0 (n : Nat) : seqIndex? 0 (n + 1) = some 0 := by
  unfold seqIndex?
  simp
  try omega
def MFr (K : PySem.W.Frag) (P : Program) (w : World) (H0 H : Hp) (el pd : Addr) (E L : List Kq) : Prop := Same H0 H ∧ H0 el = none ∧ H0 pd = none ∧ el ≠ pd ∧ ∃ xs vs, H el = some (DX P w el xs) ∧ KeysAt H xs ∧ keysX xs = E ∧ H pd = some (.lst vs) ∧ ItemsAt H L vs
def MInv (K : PySem.W.Frag) (P : Program) (w : World) (d : ToolD) (H0 : Hp) (s el pd : Addr) (n : Nat) (σ : L2.St) (H' : Hp) : Prop := ∃ E L v3 v4 v5, σ = [some (.ref s), some (.ref el), some (.ref pd), v3, v4, v5] ∧ n = L.length + (8 - E.length) ∧ n ≤ 8 ∧ MSt d E L ∧ MFr K P w H0 H' el pd E L
def MLt (K : PySem.W.Frag) (P : Program) (w : World) (d : ToolD) (H0 : Hp) (s el pd : Addr) (n : Nat) (σ : L2.St) (H' : Hp) : Prop := ∃ m, m < n ∧ MInv K P w d H0 s el pd m σ H'
def FInv (K : PySem.W.Frag) (P : Program) (w : World) (d : ToolD) (H0 H7 : Hp) (s el pd bk l : Addr) (k : Kq) (ws : List V) (n : Nat) (i : Nat) (σ : L2.St) (H' : Hp) : Prop := ∃ E L v4 v5, σ = [some (.ref s), some (.ref el), some (.ref pd), some (.ref bk), v4, v5] ∧ L.length + (8 - E.length) = n ∧ MSt d E (k :: L) ∧
  (∀ x ∈ (nexts d k).take i, x ∈ E) ∧ MFr K P w H0 H' el pd E L ∧ H' l = some (.lst ws) ∧ Imm H7 H'
theorem Imm.upd_lst {H0 H H' : Hp} {a : Addr} {xs ys : List V} (i : Imm H0 H) (e : H a = some (.lst xs)) : Imm H0 (upd H a (.lst ys)) := i.trans (imm_put e rfl)
theorem Imm.upd_dx {H0 H : Hp} {P : Program} {w : World} {a : Addr} {xs ys : List XE} (i : Imm H0 H) (e : H a = some (DX P w a xs)) : Imm H0 (upd H a (DX P w a ys)) := i.trans (imm_put e rfl)
def spElders (K : PySem.W.Frag) (P : Program) (w : World) : Sp := fun vs H Q _ => ∃ s d, vs = [.ref s] ∧ SingleAt K H s d ∧ d.ok ∧ ∀ el H' xs o, Same H H' → H el = none → H' el = some (.frz o (DX P w el xs)) → KeysAt H' xs → (keysX xs).Nodup → (∀ k, k ∈ keysX xs ↔ MR d k) → Q (.ref el) H'
theorem sc_elders : FnScope ["steps", "elders", "pending", "item", "deed", "later"] ["steps"] (defScope st_machine_elders) := ⟨rfl, rfl, rfl, by decide +kernel, rfl, by decide +kernel, by decide +kernel⟩
theorem room64 {k : Nat} {A : Around} (hr : Room k A) : A.units + 64 < cLine := by have := hr.un; omega
theorem room0 {k : Nat} {A : Around} (hr : Room k A) : A.units < cLine := by have := hr.un; omega
theorem x_elders (T : Tx w K mg) : FX P w K mg base 6 "machine_elders" ["steps"] (spElders K P w) := by
  obtain ⟨fd, F⟩ := fun_machine_elders T.c
  have G1 : MX P w K mg base 5 (He.ga K "Single") "machine_steps" ["self", "item"] (spSteps K) := x_Steps T
  refine FX.of F T.g_machine_elders sc_elders (fun _ _ _ _ _ _ us hl => match us, hl with | [_], _ => rfl) (fun vs H Q E h => ?_) (fun cdv A outer s H vs Q E hr h => ?_)
  · obtain ⟨s, d, rfl, _⟩ := h
    rfl
  · obtain ⟨s, d, rfl, hs, ok, kk⟩ := h
    refine ⟨_, pss_cons (ps_par (i := 1) (j := 2) rfl sc_elders.nd rfl rfl (by decide) rfl rfl (pa2 (pe_xdisp1 (room0 hr) (pe_fld (pv 0) rfl) pe_non) (pe_lst (pa1 (pe_fld (pv 0) rfl)))) rfl)
      (pss_cons (ps_while PassesOwn.never (pt_cmpR (op_neD (room64 hr)) (pv 2) (pe_lst pa_nil) (nomark _))
        (pss_cons (ps_set (i := 3) sc_elders.nd rfl (Or.inl rfl) (pe_bm PySem.F.plainAttrs_list PySem.F.slot_list_pop PySem.F.type_list_pop mt_popAt (pv 2) (pa1 pe_int)))
        (pss_one (ps_for PassesOwn.never rfl (pi_list (pm G1 T.cl_Single hr (pv 0) (pa1 (pv 3)))) (pg_tup (n := 2) rfl (pgs_cons (pg_name (i := 4) sc_elders.nd rfl (Or.inl rfl)) (pgs_cons (pg_name (i := 5) sc_elders.nd rfl (Or.inl rfl)) pgs_nil)))
          (pss_one (ps_if (pt_cmp (pc_xnotin (room1 hr) (pv 5) (pv 1)) rfl)
            (pss_cons (ps_xput (room1 hr) (pv 1) (pv 5) (pe_tup (pa2 (pv 3) (pv 4))) rfl)
              (pss_one (ps_expr (pe_bm PySem.F.plainAttrs_list PySem.F.slot_list_append PySem.F.type_list_append mt_append (pv 2) (pa1 (pv 5)))))) pss_nil))))))
      (pss_one (ps_frz (ps_ret (pv 1))))), ?_⟩
    have fl := T.fl
    obtain ⟨t, b, dx, h1, h2, h3⟩ := hs.ex
    walk_at "rd*"
    intro el hel
    have h1' := same_new (o := DX P w el []) hel _ _ h1
    have h3' := same_new (o := DX P w el []) hel _ _ h3
    walk_at "rd*"
    refine ⟨kBegin d, rfl, ?_⟩
    rw [upd_upd]
    have s2 := same_new (o := DX P w el [(kBegin d, b, .non)]) hel
    have h1'' := s2 _ _ h1
    walk_at "rd*"
    refine ⟨by decide, fun pd hpd => ?_⟩
    have ne : el ≠ pd := fun z => by rw [← z, upd_same] at hpd; cases hpd
    have hpd0 : H pd = none := s2.free hpd
    have s3 := s2.trans (same_new (o := .lst [.ref b]) hpd)
    refine ⟨MInv K P w d H s el pd, ⟨_, [kBegin d], [kBegin d], none, none, none, rfl, rfl, by show 1 + (8 - 1) ≤ 8; decide, ?_, ?_⟩, ?_⟩
    · refine ⟨by simp, fun k hk => by rw [List.mem_singleton.mp hk]; exact .begin, by simp, fun k hk => hk, fun k hk hn => absurd hk hn⟩
    · refine ⟨s3, hel, hpd0, ne, [(kBegin d, b, .non)], [.ref b], ?_, fun x hx => ?_, rfl, upd_same, .cons ⟨b, rfl, s3 _ _ h3⟩ .nil⟩
      · rw [upd_ne ne, upd_same]
      · rw [List.mem_singleton.mp hx]
        exact s3 _ _ h3
    · rintro n σ H4 ⟨E1, L, v3, v4, v5, rfl, rfl, n8, ms, fr⟩
      obtain ⟨s4, _, _, _, xs, vs, f1, f2, f3, f4, f5⟩ := fr
      walk_at "rd"
      refine ⟨by decide, fun q hq => ?_⟩
      have s5 := same_new (o := .lst []) hq
      refine ne_lists (l := L) (m := []) encK (SqL.of (s5 _ _ f4)) (dp_items (ItemsAt.imm f5 (Imm.of_same s5))) (items_ok ok fun k hk => (ms.all k (ms.sub k hk)).mem ok) (SqL.of upd_same) .nil (fun _ h => nomatch h) ?_
      refine ⟨_, rfl, ?_⟩
      cases L with
      | nil =>
        refine iteBF rfl ?_
        walk_at "rd"
        have f1' := s5 _ _ f1
        refine ⟨el, xs, f1', fun o => ?_⟩
        refine kk el _ xs o (fun b2 o2 eb => ?_) hel upd_same (fun x hx => ?_) (by rw [f3]; exact ms.nd) (by rw [f3]; exact ms.full)
        · rw [upd_ne (ne_of_none eb hel)]
          exact s5 _ _ (s4 _ _ eb)
        · rw [upd_ne (ne_of (s5 _ _ (f2 x hx)) f1' (fun z => nomatch z))]
          exact s5 _ _ (f2 x hx)
      | cons k L0 =>
        refine iteBT rfl ⟨MLt K P w d H s el pd ((k :: L0).length + (8 - E1.length)), fun _ _ h => h, ?_⟩
        obtain ⟨v, vs0, rfl, r0, t0⟩ : ∃ v vs0, vs = v :: vs0 ∧ (∃ b, v = V.ref b ∧ H4 b = some (kT k)) ∧ ItemsAt H4 L0 vs0 := by
          cases f5 with
          | cons r t => exact ⟨_, _, rfl, r, t⟩
        obtain ⟨bk, rfl, hbk⟩ := r0
        walk_at "rd"
        have e4 := s5 _ _ f4
        refine ⟨.inl ⟨rfl, _, SqL.of e4⟩, _, e4, by decide, by decide, 0, six0 _, .ref bk, rfl, ?_⟩
        have hel4 : H4 el ≠ none := by rw [f1]; exact Option.some_ne_none _
        have qne : q ≠ el := fun z => hel4 (by rw [← z]; exact hq)
        have sP : Same H (upd (upd H4 q (.lst [])) pd (.lst ((V.ref bk :: vs0).eraseIdx 0))) := fun b2 o2 eb => by
          rw [upd_ne (ne_of_none eb hpd0)]
          exact s5 _ _ (s4 _ _ eb)
        have imP : Imm H4 (upd (upd H4 q (.lst [])) pd (.lst ((V.ref bk :: vs0).eraseIdx 0))) := (Imm.of_same s5).trans (imm_put e4 rfl)
        have fP : upd (upd H4 q (.lst [])) pd (.lst ((V.ref bk :: vs0).eraseIdx 0)) pd = some (.lst vs0) := upd_same
        have f1P : upd (upd H4 q (.lst [])) pd (.lst ((V.ref bk :: vs0).eraseIdx 0)) el = some (DX P w el xs) := by rw [upd_ne ne]; exact s5 _ _ f1
        generalize upd (upd H4 q (.lst [])) pd (.lst ((V.ref bk :: vs0).eraseIdx 0)) = H6 at *
        have kin := (ms.all k (ms.sub k List.mem_cons_self)).mem ok
        have hs6 := hs.same sP
        obtain ⟨t6, b6, dx6, h16, _, _⟩ := hs6.ex
        refine ⟨dx6, _, h16, rfl, s, bk, d, k, rfl, hs6, ok, imP _ _ rfl hbk, kin, fun l H7 ws s7 nl el7 pr => ⟨l, rfl, ⟨_, SqL.of el7⟩, ?_⟩⟩
        have s7P := sP.trans s7
        have f17 := s7 _ _ f1P
        have f47 := s7 _ _ fP
        rw [List.length_cons] at n8
        have lel : l ≠ el := fun z => by rw [z, f1P] at nl; cases nl
        have lpd : l ≠ pd := fun z => by rw [z, fP] at nl; cases nl
        have im7 : Imm H4 H7 := imP.trans (Imm.of_same s7)
        refine for_it walk_list (FInv K P w d H H7 s el pd bk l k ws (L0.length + (8 - E1.length))) ⟨E1, L0, v4, v5, rfl, rfl, ms, fun x hx => by simp at hx, ⟨s7P, hel, hpd0, ne, xs, vs0, f17, f2.imm im7, f3, f47, ItemsAt.imm t0 im7⟩, el7, Imm.refl _⟩ (fun i σ H' _ h => by obtain ⟨E, L, _, _, _, _, _, _, _, e, _⟩ := h; exact SqL.of e) ?_ ?_
        · rintro i x σ8 H8 H9 hi ⟨E, L, u4, u5, rfl, hm, ms8, tk, fr8, el8, im8⟩ ⟨rfl, hx⟩
          obtain ⟨k2, hk2, t2, de, b2, rfl, q1, q2⟩ := pair_at pr hx
          have q1' := im8 _ _ rfl q1
          have q2' := im8 _ _ rfl q2
          obtain ⟨s8, _, _, _, xs8, vs8, g1, g2, g3, g4, g5⟩ := fr8
          have hl8 := ms8.few ok
          have tk2 : ∀ E' : List Kq, (∀ x ∈ E, x ∈ E') → k2 ∈ E' → ∀ x ∈ (nexts d k).take (i + 1), x ∈ E' := fun E' sub h x hx2 => by
            rw [take_snoc hk2] at hx2
            rcases List.mem_append.mp hx2 with hx2 | hx2
            · exact sub x (tk x hx2)
            · rw [List.mem_singleton.mp hx2]; exact h
          walk_at "rd"
          refine ⟨_, SqT.of q1', rfl, de, _, rfl, _, _, rfl, rfl, ?_⟩
          refine ⟨b2, rfl, k2, xs8, ⟨.inl g1, g2⟩, q2', ?_⟩
          cases hh : hasX xs8 k2 with
          | true =>
            refine iteN (by decide) ⟨E, L, _, _, rfl, hm, ms8, tk2 E (fun _ h => h) (by rw [← g3]; exact (hasX_keys xs8 k2).mp hh), ⟨s8, hel, hpd0, ne, xs8, vs8, g1, g2, g3, g4, g5⟩, el8, im8⟩
          | false =>
            have nin := hasX_no.mp hh
            rw [g3] at nin
            have k2n : k2 ∈ nexts d k := List.mem_of_getElem? hk2
            have ms9 := ms8.add k2n nin
            have hl9 := ms9.few ok
            rw [List.length_append, List.length_singleton] at hl9
            refine iteP rfl ⟨by decide, fun p hp => ?_⟩
            have sp := same_new (o := .tup [.ref bk, de]) hp
            have hpl : xs8.length < sizeLine := by
              have : xs8.length = E.length := by rw [← g3]; unfold keysX; rw [List.length_map]
              exact len_lt (by omega)
            have vl : vs8.length < sizeLine := by
              have h1 : vs8.length = L.length := (Paired.length g5).symm
              exact len_lt (by omega)
            have pel : p ≠ el := fun z => by rw [z, g1] at hp; cases hp
            have g4p := sp _ _ g4
            have g1p := sp _ _ g1
            refine ⟨b2, rfl, k2, xs8, g1p, fun x hx => sp _ _ (g2 x hx), sp _ _ q2', hpl, ?_⟩
            have e9 : upd (upd H9 p (.tup [.ref bk, de])) el (DX P w el (putX xs8 k2 b2 (.ref p))) pd = some (.lst vs8) := by rw [upd_ne ne.symm]; exact g4p
            refine ⟨.inl ⟨rfl, _, SqL.of e9⟩, _, e9, vl, E ++ [k2], L ++ [k2], _, _, rfl, ?_, ms9, tk2 _ (fun _ h => List.mem_append_left _ h) (by simp), ⟨?_, hel, hpd0, ne, putX xs8 k2 b2 (.ref p), vs8 ++ [.ref b2], ?_, ?_, ?_, upd_same, ?_⟩, ?_, ?_⟩
            · simp only [List.length_append, List.length_singleton]
              omega
            · intro b3 o3 eb
              rw [upd_ne (ne_of_none eb hpd0), upd_ne (ne_of_none eb hel)]
              exact sp _ _ (s8 _ _ eb)
            · rw [upd_ne ne, upd_same]
            · exact (KeysAt.put (fun x hx => sp _ _ (g2 x hx)) (sp _ _ q2')).imm ((imm_put g1p rfl).trans (imm_put e9 rfl))
            · rw [keysX_put (by rw [g3]; exact nin), g3]
            · refine paired_app (ItemsAt.imm g5 (((Imm.of_same sp).trans (imm_put g1p rfl)).trans (imm_put e9 rfl))) (.cons ⟨b2, rfl, ?_⟩ .nil)
              exact (((Imm.of_same sp).trans (imm_put g1p rfl)).trans (imm_put e9 rfl)) _ _ rfl q2'
            · rw [upd_ne lpd, upd_ne lel]
              exact sp _ _ el8
            · exact im8.trans (((Imm.of_same sp).trans (imm_put g1p rfl)).trans (imm_put e9 rfl))
        · rintro σ8 H8 ⟨E, L, u4, u5, rfl, hm, ms8, tk, fr8, el8, im8⟩
          have wl : ws.length = (nexts d k).length := (Paired.length pr).symm
          rw [wl, List.take_length] at tk
          refine ⟨L.length + (8 - E.length), ?_, E, L, _, _, _, rfl, rfl, ?_, ms8.close tk, fr8⟩ <;> (rw [hm]; omega)
end
end Lm
set_option Elab.async false
set_option linter.all false
set_option maxRecDepth 100000
set_option maxHeartbeats 4000000
/-! Ledmarks k83: the search at the head, as sets. -/
namespace Lm
open PySem L2
section
variable {d : ToolD}
/-- between two rounds: E what is known, Hd what is heard, L the layer -/
structure WSt (d : ToolD) (E Hd L : List Kq) : Prop where
  nd : E.Nodup
  all : ∀ k ∈ E, HR d k
  begin : kBegin d ∈ E
  hsub : ∀ k ∈ Hd, k ∈ E
  lsub : ∀ k ∈ L, k ∈ E
  cover : ∀ k ∈ E, k ∈ Hd ∨ k ∈ L
  led : ∀ k ∈ Hd, ∀ p ∈ pats8, kLed d k p ∈ E
  joined : ∀ k ∈ Hd, ∀ c, CR d c → kJoined d k c ∈ E
/-- within edited: F found, W waiting -/
structure ESt (d : ToolD) (E Hd F W : List Kq) : Prop where
  nd : E.Nodup
  all : ∀ k ∈ E, HR d k
  begin : kBegin d ∈ E
  hsub : ∀ k ∈ Hd, k ∈ E
  fsub : ∀ k ∈ F, k ∈ E
  wsub : ∀ k ∈ W, k ∈ E
  cover : ∀ k ∈ E, k ∈ Hd ∨ k ∈ F ∨ k ∈ W
  led : ∀ k ∈ Hd, ∀ p ∈ pats8, kLed d k p ∈ E
  joined : ∀ k ∈ Hd, ∀ c, CR d c → kJoined d k c ∈ E
  fled : ∀ k ∈ F, k ∉ W → ∀ p ∈ pats8, kLed d k p ∈ E
theorem WSt.edit {E Hd L : List Kq} (h : WSt d E Hd L) : ESt d E Hd [] L :=
  ⟨h.nd, h.all, h.begin, h.hsub, (fun k hk => nomatch hk), h.lsub, (fun k hk => (h.cover k hk).elim Or.inl fun q => Or.inr (Or.inr q)), h.led, h.joined, (fun k hk => nomatch hk)⟩
/-- a waiting one is found; it still waits while its edits are looked at -/
theorem ESt.find {E Hd F W : List Kq} {k : Kq} (h : ESt d E Hd F (k :: W)) : ESt d E Hd (F ++ [k]) (k :: W) :=
  ⟨h.nd, h.all, h.begin, h.hsub, fun x hx => by
    rcases List.mem_append.mp hx with hx | hx
    · exact h.fsub x hx
    · rw [List.mem_singleton.mp hx]; exact h.wsub k List.mem_cons_self, h.wsub, fun x hx => by
    rcases h.cover x hx with q | q | q
    · exact .inl q
    · exact .inr (.inl (List.mem_append_left _ q))
    · exact .inr (.inr q), h.led, h.joined, fun x hx hn p hp => by
    rcases List.mem_append.mp hx with hx | hx
    · exact h.fled x hx hn p hp
    · exact absurd (by rw [List.mem_singleton.mp hx]; exact List.mem_cons_self) hn⟩
theorem mem_sn {E : List Kq} {l x : Kq} (h : x ∈ E) : x ∈ E ++ [l] := List.mem_append_left _ h
theorem ESt.add {E Hd F W : List Kq} {k l : Kq} (h : ESt d E Hd F (k :: W)) (hl : HR d l) (n : l ∉ E) : ESt d (E ++ [l]) Hd F (k :: (W ++ [l])) := by
  refine ⟨List.nodup_append.mpr ⟨h.nd, by simp, fun a ha b hb => by rw [List.mem_singleton.mp hb]; exact fun e => n (e ▸ ha)⟩, fun x hx => ?_, mem_sn h.begin, fun x hx => mem_sn (h.hsub x hx), fun x hx => mem_sn (h.fsub x hx), fun x hx => ?_, fun x hx => ?_, fun x hx p hp => mem_sn (h.led x hx p hp), fun x hx c hc => mem_sn (h.joined x hx c hc), fun x hx hn p hp => mem_sn (h.fled x hx (fun hm => hn ?_) p hp)⟩
  · rcases List.mem_append.mp hx with hx | hx
    · exact h.all x hx
    · rw [List.mem_singleton.mp hx]; exact hl
  · rcases List.mem_cons.mp hx with e | hx
    · rw [e]; exact mem_sn (h.wsub k List.mem_cons_self)
    · rcases List.mem_append.mp hx with hx | hx
      · exact mem_sn (h.wsub x (List.mem_cons_of_mem _ hx))
      · exact List.mem_append_right _ hx
  · rcases List.mem_append.mp hx with hx | hx
    · rcases h.cover x hx with q | q | q
      · exact .inl q
      · exact .inr (.inl q)
      · refine .inr (.inr ?_)
        rcases List.mem_cons.mp q with e | q
        · rw [e]; exact List.mem_cons_self
        · exact List.mem_cons_of_mem _ (List.mem_append_left _ q)
    · exact .inr (.inr (List.mem_cons_of_mem _ (List.mem_append_right _ hx)))
  · rcases List.mem_cons.mp hm with e | hm
    · rw [e]; exact List.mem_cons_self
    · exact List.mem_cons_of_mem _ (List.mem_append_left _ hm)
theorem ESt.close {E Hd F W : List Kq} {k : Kq} (h : ESt d E Hd F (k :: W)) (hf : k ∈ F) (a : ∀ p ∈ pats8, kLed d k p ∈ E) : ESt d E Hd F W :=
  ⟨h.nd, h.all, h.begin, h.hsub, h.fsub, fun x hx => h.wsub x (List.mem_cons_of_mem _ hx), fun x hx => by
    rcases h.cover x hx with q | q | q
    · exact .inl q
    · exact .inr (.inl q)
    · rcases List.mem_cons.mp q with e | q
      · rw [e]; exact .inr (.inl hf)
      · exact .inr (.inr q), h.led, h.joined, fun x hx hn p hp => by
    by_cases e : x = k
    · subst e; exact a p hp
    · exact h.fled x hx (fun hm => by
        rcases List.mem_cons.mp hm with e2 | hm
        · exact e e2
        · exact hn hm) p hp⟩
/-- within heard: L the new ones -/
structure JSt (d : ToolD) (E Hd F L : List Kq) : Prop where
  nd : E.Nodup
  all : ∀ k ∈ E, HR d k
  begin : kBegin d ∈ E
  hsub : ∀ k ∈ Hd, k ∈ E
  fsub : ∀ k ∈ F, k ∈ E
  lsub : ∀ k ∈ L, k ∈ E
  cover : ∀ k ∈ E, k ∈ Hd ∨ k ∈ F ∨ k ∈ L
  led : ∀ k ∈ Hd, ∀ p ∈ pats8, kLed d k p ∈ E
  joined : ∀ k ∈ Hd, ∀ c, CR d c → kJoined d k c ∈ E
  fled : ∀ k ∈ F, ∀ p ∈ pats8, kLed d k p ∈ E
theorem ESt.hear {E Hd F : List Kq} (h : ESt d E Hd F []) : JSt d E Hd F [] :=
  ⟨h.nd, h.all, h.begin, h.hsub, h.fsub, (fun k hk => nomatch hk), h.cover, h.led, h.joined, (fun k hk => h.fled k hk (fun z => nomatch z))⟩
theorem JSt.add {E Hd F L : List Kq} {l : Kq} (h : JSt d E Hd F L) (hl : HR d l) (n : l ∉ E) : JSt d (E ++ [l]) Hd F (L ++ [l]) := by
  refine ⟨List.nodup_append.mpr ⟨h.nd, by simp, fun a ha b hb => by rw [List.mem_singleton.mp hb]; exact fun e => n (e ▸ ha)⟩, fun x hx => ?_, mem_sn h.begin, fun x hx => mem_sn (h.hsub x hx), fun x hx => mem_sn (h.fsub x hx), fun x hx => ?_, fun x hx => ?_, fun x hx p hp => mem_sn (h.led x hx p hp), fun x hx c hc => mem_sn (h.joined x hx c hc), fun x hx p hp => mem_sn (h.fled x hx p hp)⟩
  · rcases List.mem_append.mp hx with hx | hx
    · exact h.all x hx
    · rw [List.mem_singleton.mp hx]; exact hl
  · rcases List.mem_append.mp hx with hx | hx
    · exact mem_sn (h.lsub x hx)
    · exact List.mem_append_right _ hx
  · rcases List.mem_append.mp hx with hx | hx
    · rcases h.cover x hx with q | q | q
      · exact .inl q
      · exact .inr (.inl q)
      · exact .inr (.inr (List.mem_append_left _ q))
    · exact .inr (.inr (List.mem_append_right _ hx))
/-- the round's end -/
theorem JSt.next {E Hd Hd' F L : List Kq} (h : JSt d E Hd F L) (hh : ∀ k, k ∈ Hd' ↔ k ∈ Hd ∨ k ∈ F) (fj : ∀ k ∈ F, ∀ c, CR d c → kJoined d k c ∈ E) : WSt d E Hd' L :=
  ⟨h.nd, h.all, h.begin, fun k hk => ((hh k).mp hk).elim (h.hsub k) (h.fsub k), h.lsub, fun k hk => by
    rcases h.cover k hk with q | q | q
    · exact .inl ((hh k).mpr (.inl q))
    · exact .inl ((hh k).mpr (.inr q))
    · exact .inr q, fun k hk p hp => ((hh k).mp hk).elim (fun q => h.led k q p hp) (fun q => h.fled k q p hp), fun k hk c hc => ((hh k).mp hk).elim (fun q => h.joined k q c hc) (fun q => fj k q c hc)⟩
/-- no layer left: all is heard -/
theorem WSt.full {E Hd : List Kq} (h : WSt d E Hd []) (k : Kq) : k ∈ Hd ↔ HR d k := by
  have c : ∀ k, k ∈ E → k ∈ Hd := fun k hk => (h.cover k hk).elim id fun z => nomatch z
  refine ⟨fun hk => h.all k (h.hsub k hk), fun m => ?_⟩
  exact HR.least (S := fun k => k ∈ Hd) (c _ h.begin) (fun k hk p hp => c _ (h.led k hk p hp)) (fun k hk x hx => c _ (h.joined k hk x hx)) m
theorem WSt.few {E Hd L : List Kq} (h : WSt d E Hd L) (ok : d.ok) : E.length ≤ 8 := few_items ok h.nd fun k hk => (h.all k hk).mem ok
theorem ESt.few {E Hd F W : List Kq} (h : ESt d E Hd F W) (ok : d.ok) : E.length ≤ 8 := few_items ok h.nd fun k hk => (h.all k hk).mem ok
theorem JSt.few {E Hd F L : List Kq} (h : JSt d E Hd F L) (ok : d.ok) : E.length ≤ 8 := few_items ok h.nd fun k hk => (h.all k hk).mem ok
theorem begin_st : WSt d [kBegin d] [] [kBegin d] :=
  ⟨by simp, fun k hk => by rw [List.mem_singleton.mp hk]; exact .begin, by simp, fun k hk => (nomatch hk), fun k hk => hk, fun k hk => .inr hk, fun k hk => (nomatch hk), fun k hk => (nomatch hk)⟩
end
end Lm
set_option Elab.async false
set_option linter.all false
set_option maxRecDepth 100000
set_option maxHeartbeats 4000000
namespace Lm
open PySem PySem.Spec PyProof.Rows L2
local macro_rules | `(tactic| walk_at "rd") => `(tactic| simp (config := {failIfUnchanged := false}) only [tVar, tC, tIsN, tNotN, tB, tAnd, tOr, tNot, tAndV, tOrV, tNotV, tIf, tNext, tSeq, tBreak, tCont, tDrop, tRet, tRetN, tIfS, gName, gNil, gCons, gTup, tAsg, tPar,
  iList, iTup, iRng1, iRng2, r_tFor, tFmt, tJs, or_false, false_or, exists_false, r_tLc, r_tDc, bf, iSeq, r_wipe0, r_wipe1, tOp, tUn, rI, rI0, rU, rEq, rNe, tTest, tChain, tFld, sFld, tNil, tCons, tTup, tLst, tCall, tMeth, tMake, tCB, tNoPart, tPart, tSl, rIxL, rIxT, rIxQ, rSlQ, r_tLc2, tXGet, tXIn, tXNotIn, sXPut, tXSetd, tXDisp1, iKeysX, iItemsX, tFrz, tFrzE, tRetag, ClX.tCMeth, iEnum, gPr, gUnl, tMakeL, rIxD, cx_w, cx_P, rSlL, rIn, tBM0, tBM, rAppend, rExtend, rPop, rPopAt, rAny, rAll, tYes, iStr, rNewStrs, tM0, tM1, StX.tStar,
  L2.start, List.map_cons, List.map_nil, List.length_cons, List.length_nil, Nat.zero_add, Nat.reduceAdd, Nat.reduceSub, List.replicate_succ, List.replicate_zero, List.cons_append, List.nil_append, List.append_nil, List.set_cons_zero, List.set_cons_succ,
  List.getElem?_cons_zero, List.getElem?_cons_succ, Option.some.injEq, exists_eq_left', exists_eq_left, exists_eq', exists_eq, exists_and_left, exists_and_right, and_assoc, List.cons.injEq, V.str.injEq, V.ref.injEq, V.bl.injEq, V.int.injEq, V.ty.injEq, and_true, true_and, reduceCtorEq, false_and, and_false,
  Bool.not_true, Bool.not_false, Bool.false_eq_true, reduceIte, Bool.not_eq_true', decide_eq_true_eq, upd_same, cx_K, HO.ins.injEq, HO.tup.injEq, HO.lst.injEq, HO.dK.injEq, lk_Run_old, lk_Run_then, lk_Run_names, lm_Run_str, lk_Lead_tests, lk_Lead_old, lk_Lead_then, lk_Lead_names, lm_Lead_str, lk_Join_here, lk_Join_came, lk_Join_then, lk_Join_names, lm_Join_str, lk_Tool_marks, lk_Tool_told, lk_Tool_parts, lk_Tool_clears, lk_Tool_rows, lk_Tool_blank, lm_Tool_need_mark, lm_Tool_is_told, lm_Tool_ran, lm_Tool_led, lm_Tool_joined, lm_Tool_keeps, lm_Tool_need_row, lm_Tool_but, lm_Tool_without, lm_Tool_heeding, lm_Tool_len, lm_Tool_eq, lm_Tool_str, lk_Single_tool, lk_Single_begin, lm_Single_machine_steps, lm_Single_led, lm_Single_joined, lk_Ways_steps, lk_Ways_machine, lk_Ways_coming, lk_Ways_hearings, lk_Ways_elders, lm_Ways_edited, lm_Ways_heard, lk_Meeting_hearings, lk_Meeting_item, lk_Meeting_deeds, lk_Meeting_waiting, lk_Told_steps, lk_Told_machine, lk_Told_coming, lk_Told_hearings, lm_Told_is_closed])
local macro_rules | `(tactic| walk_at "rd*") => `(tactic| simp (config := {failIfUnchanged := false}) only [tVar, tC, tIsN, tNotN, tB, tAnd, tOr, tNot, tAndV, tOrV, tNotV, tIf, tNext, tSeq, tBreak, tCont, tDrop, tRet, tRetN, tIfS, gName, gNil, gCons, gTup, tAsg, tPar,
  iList, iTup, iRng1, iRng2, r_tFor, tFmt, tJs, or_false, false_or, exists_false, r_tLc, r_tDc, bf, iSeq, r_wipe0, r_wipe1, tOp, tUn, rI, rI0, rU, rEq, rNe, tTest, tChain, tFld, sFld, tNil, tCons, tTup, tLst, tCall, tMeth, tMake, tCB, tNoPart, tPart, tSl, rIxL, rIxT, rIxQ, rSlQ, r_tLc2, tXGet, tXIn, tXNotIn, sXPut, tXSetd, tXDisp1, iKeysX, iItemsX, tFrz, tFrzE, tRetag, ClX.tCMeth, iEnum, gPr, gUnl, tMakeL, rIxD, cx_w, cx_P, rSlL, rIn, tBM0, tBM, rAppend, rExtend, rPop, rPopAt, rAny, rAll, tYes, iStr, rNewStrs, tM0, tM1, StX.tStar,
  L2.start, List.map_cons, List.map_nil, List.length_cons, List.length_nil, Nat.zero_add, Nat.reduceAdd, Nat.reduceSub, List.replicate_succ, List.replicate_zero, List.cons_append, List.nil_append, List.append_nil, List.set_cons_zero, List.set_cons_succ,
  List.getElem?_cons_zero, List.getElem?_cons_succ, Option.some.injEq, exists_eq_left', exists_eq_left, exists_eq', exists_eq, exists_and_left, exists_and_right, and_assoc, List.cons.injEq, V.str.injEq, V.ref.injEq, V.bl.injEq, V.int.injEq, V.ty.injEq, and_true, true_and, reduceCtorEq, false_and, and_false,
  Bool.not_true, Bool.not_false, Bool.false_eq_true, reduceIte, Bool.not_eq_true', decide_eq_true_eq, upd_same, cx_K, HO.ins.injEq, HO.tup.injEq, HO.lst.injEq, HO.dK.injEq, lk_Run_old, lk_Run_then, lk_Run_names, lm_Run_str, lk_Lead_tests, lk_Lead_old, lk_Lead_then, lk_Lead_names, lm_Lead_str, lk_Join_here, lk_Join_came, lk_Join_then, lk_Join_names, lm_Join_str, lk_Tool_marks, lk_Tool_told, lk_Tool_parts, lk_Tool_clears, lk_Tool_rows, lk_Tool_blank, lm_Tool_need_mark, lm_Tool_is_told, lm_Tool_ran, lm_Tool_led, lm_Tool_joined, lm_Tool_keeps, lm_Tool_need_row, lm_Tool_but, lm_Tool_without, lm_Tool_heeding, lm_Tool_len, lm_Tool_eq, lm_Tool_str, lk_Single_tool, lk_Single_begin, lm_Single_machine_steps, lm_Single_led, lm_Single_joined, lk_Ways_steps, lk_Ways_machine, lk_Ways_coming, lk_Ways_hearings, lk_Ways_elders, lm_Ways_edited, lm_Ways_heard, lk_Meeting_hearings, lk_Meeting_item, lk_Meeting_deeds, lk_Meeting_waiting, lk_Told_steps, lk_Told_machine, lk_Told_coming, lk_Told_hearings, lm_Told_is_closed, *])
section
variable {P : Program} {w : World} {K : PySem.W.Frag} {mg : Str → Option Value} {base : Heap}
/-! ### Ways: its heap -/
structure WayH (K : PySem.W.Frag) (P : Program) (w : World) (H : Hp) (x s m c h e : Addr) (d : ToolD) (xm xc hs es : List XE) : Prop where
  ins : ∃ dx, H x = some (.ins (He.ga K "Ways") dx (fWays s m c h e))
  st : SingleAt K H s d
  mf : ∃ o, H m = some (.frz o (DX P w m xm))
  mkk : KeysAt H xm
  cf : ∃ o, H c = some (.frz o (DX P w c xc))
  ck : KeysAt H xc
  cv : ∀ y ∈ xc, ∃ b v1 v2, y.2.2 = .ref b ∧ H b = some (.tup [v1, v2])
  hd : H h = some (DX P w h hs)
  hk : KeysAt H hs
  hv : ∀ y ∈ hs, ∃ i, y.2.2 = .int i
  ed : H e = some (DX P w e es)
  ek : KeysAt H es
  ne : h ≠ e
section
variable {H H' : Hp} {x s m c h e : Addr} {d : ToolD} {xm xc hs es : List XE}
theorem WayH.imm (W : WayH K P w H x s m c h e d xm xc hs es) (i : Imm H H') (h1 : H' h = some (DX P w h hs)) (h2 : H' e = some (DX P w e es)) : WayH K P w H' x s m c h e d xm xc hs es := by
  obtain ⟨dx, a1⟩ := W.ins
  obtain ⟨o1, a2⟩ := W.mf
  obtain ⟨o2, a3⟩ := W.cf
  exact ⟨⟨dx, i _ _ rfl a1⟩, W.st.imm i, ⟨o1, i _ _ rfl a2⟩, W.mkk.imm i, ⟨o2, i _ _ rfl a3⟩, W.ck.imm i, fun y hy => let ⟨b, v1, v2, q1, q2⟩ := W.cv y hy; ⟨b, v1, v2, q1, i _ _ rfl q2⟩, h1, W.hk.imm i, W.hv, h2, W.ek.imm i, W.ne⟩
theorem WayH.same (W : WayH K P w H x s m c h e d xm xc hs es) (i : Same H H') : WayH K P w H' x s m c h e d xm xc hs es := W.imm (Imm.of_same i) (i _ _ W.hd) (i _ _ W.ed)
theorem putX_vals {xs : List XE} {k : Kq} {b : Addr} {v : V} {R : V → Prop} (h : ∀ y ∈ xs, R y.2.2) (hv : R v) : ∀ y ∈ putX xs k b v, R y.2.2 := by
  unfold putX
  split
  · intro y hy
    obtain ⟨z, hz, rfl⟩ := List.mem_map.mp hy
    split
    · exact hv
    · exact h z hz
  · intro y hy
    rcases List.mem_append.mp hy with hy | hy
    · exact h y hy
    · rw [List.mem_singleton.mp hy]; exact hv
theorem WayH.putH (W : WayH K P w H x s m c h e d xm xc hs es) {k : Kq} {b : Addr} {i : Int} (hb : H b = some (kT k)) : WayH K P w (upd H h (DX P w h (putX hs k b (.int i)))) x s m c h e d xm xc (putX hs k b (.int i)) es := by
  have im : Imm H (upd H h (DX P w h (putX hs k b (.int i)))) := imm_put W.hd rfl
  obtain ⟨dx, a1⟩ := W.ins
  obtain ⟨o1, a2⟩ := W.mf
  obtain ⟨o2, a3⟩ := W.cf
  exact ⟨⟨dx, im _ _ rfl a1⟩, W.st.imm im, ⟨o1, im _ _ rfl a2⟩, W.mkk.imm im, ⟨o2, im _ _ rfl a3⟩, W.ck.imm im, fun y hy => let ⟨b, v1, v2, q1, q2⟩ := W.cv y hy; ⟨b, v1, v2, q1, im _ _ rfl q2⟩, upd_same, (W.hk.put hb).imm im, putX_vals (R := fun v => ∃ i, v = .int i) W.hv ⟨i, rfl⟩, by rw [upd_ne W.ne.symm]; exact W.ed, W.ek.imm im, W.ne⟩
theorem WayH.putE (W : WayH K P w H x s m c h e d xm xc hs es) {k : Kq} {b : Addr} {v : V} (hb : H b = some (kT k)) : WayH K P w (upd H e (DX P w e (putX es k b v))) x s m c h e d xm xc hs (putX es k b v) := by
  have im : Imm H (upd H e (DX P w e (putX es k b v))) := imm_put W.ed rfl
  obtain ⟨dx, a1⟩ := W.ins
  obtain ⟨o1, a2⟩ := W.mf
  obtain ⟨o2, a3⟩ := W.cf
  exact ⟨⟨dx, im _ _ rfl a1⟩, W.st.imm im, ⟨o1, im _ _ rfl a2⟩, W.mkk.imm im, ⟨o2, im _ _ rfl a3⟩, W.ck.imm im, fun y hy => let ⟨b, v1, v2, q1, q2⟩ := W.cv y hy; ⟨b, v1, v2, q1, im _ _ rfl q2⟩, by rw [upd_ne W.ne]; exact W.hd, W.hk.imm im, W.hv, upd_same, (W.ek.put hb).imm im, W.ne⟩
end
theorem WayH.lst {H : Hp} {x s m c h e : Addr} {d : ToolD} {xm xc hs es : List XE} (W : WayH K P w H x s m c h e d xm xc hs es) {a : Addr} {xs ys : List V} (q : H a = some (.lst xs)) : WayH K P w (upd H a (.lst ys)) x s m c h e d xm xc hs es :=
  W.imm (imm_put q rfl) (by rw [upd_ne (ne_of W.hd q (fun z => nomatch z))]; exact W.hd) (by rw [upd_ne (ne_of W.ed q (fun z => nomatch z))]; exact W.ed)
theorem Ex.fresh {S : List Addr} {H0 H' : Hp} {a : Addr} {o : HO} (E : Ex S H0 H') (n : H0 a = none) : Ex S H0 (upd H' a o) := fun b u e nb => by
  rw [upd_ne (ne_of_none e n)]
  exact E _ _ e nb
theorem Ex.in {S : List Addr} {H0 H' : Hp} {a : Addr} {o : HO} (E : Ex S H0 H') (n : a ∈ S) : Ex S H0 (upd H' a o) := E.trans (Ex.put n)
theorem keysX_len (xs : List XE) : (keysX xs).length = xs.length := by unfold keysX; rw [List.length_map]
theorem keysX_mem {xs : List XE} {k l : Kq} {b : Addr} {v : V} : l ∈ keysX (putX xs k b v) ↔ l ∈ keysX xs ∨ l = k := by
  by_cases h : k ∈ keysX xs
  · have e : keysX (putX xs k b v) = keysX xs := by
      unfold putX
      rw [if_pos ((hasX_keys xs k).mpr h)]
      unfold keysX
      rw [List.map_map]
      refine List.map_congr_left fun y _ => ?_
      show (if y.1 = k then (y.1, y.2.1, v) else y).1 = y.1
      split <;> rfl
    rw [e]
    exact ⟨.inl, fun q => q.elim id fun z => z ▸ h⟩
  · rw [keysX_put h]
    simp
/-! ### edited -/
def spEdited (K : PySem.W.Frag) (P : Program) (w : World) : Sp := fun vs H Q _ => ∃ (x s m c h e lay : Addr) (many : Int) (d : ToolD) (xm xc hs es : List XE) (L : List Kq) (lvs : List V), vs = [.ref x, .ref lay, .int many] ∧ WayH K P w H x s m c h e d xm xc hs es ∧ d.ok ∧ H lay = some (.lst lvs) ∧ ItemsAt H L lvs ∧
  WSt d (keysX es) (keysX hs) L ∧ L.length ≤ 8 ∧ hs.length ≤ 100 ∧ ∀ (f : Addr) (H' : Hp) (F : List Kq) (fvs : List V) (hs' es' : List XE), Ex [h, e] H H' → Imm H H' → H' f = some (.lst fvs) → ItemsAt H' F fvs → WayH K P w H' x s m c h e d xm xc hs' es' →
    ESt d (keysX es') (keysX hs) F [] → (∀ k, k ∈ keysX hs' ↔ k ∈ keysX hs ∨ k ∈ F) → es.length ≤ es'.length → F.length ≤ 16 → F.length + es.length ≤ L.length + es'.length → hs'.length ≤ hs.length + F.length → Q (.ref f) H'
theorem sc_edited : FnScope ["self", "layer", "many", "found", "pending", "item", "pattern", "later"] ["self", "layer", "many"] (defScope st_Ways_edited) := ⟨rfl, rfl, rfl, by decide +kernel, rfl, by decide +kernel, by decide +kernel⟩
def EdH (K : PySem.W.Frag) (P : Program) (w : World) (H0 H' : Hp) (x s m c h e fo pd : Addr) (d : ToolD) (xm xc hs0 : List XE) (F W : List Kq) (es : List XE) : Prop :=
  Ex [h, e] H0 H' ∧ Imm H0 H' ∧ ∃ fvs wvs hs, H' fo = some (.lst fvs) ∧ ItemsAt H' F fvs ∧ H' pd = some (.lst wvs) ∧ ItemsAt H' W wvs ∧ WayH K P w H' x s m c h e d xm xc hs es ∧ (∀ k, k ∈ keysX hs ↔ k ∈ keysX hs0 ∨ k ∈ F) ∧ hs.length ≤ hs0.length + F.length
theorem EdH.same {H0 H1 H2 : Hp} {x s m c h e fo pd : Addr} {d : ToolD} {xm xc hs0 es : List XE} {F W : List Kq} (a : EdH K P w H0 H1 x s m c h e fo pd d xm xc hs0 F W es) (i : Same H1 H2) : EdH K P w H0 H2 x s m c h e fo pd d xm xc hs0 F W es := by
  obtain ⟨q1, q2, fvs, wvs, hs, a1, a2, a3, a4, a5, a6, a7⟩ := a
  exact ⟨q1.trans (Ex.of_same i), q2.trans (Imm.of_same i), fvs, wvs, hs, i _ _ a1, a2.imm (Imm.of_same i), i _ _ a3, a4.imm (Imm.of_same i), a5.same i, a6, a7⟩
def EdInv (K : PySem.W.Frag) (P : Program) (w : World) (H0 : Hp) (x s m c h e lay fo pd : Addr) (many : Int) (C : Nat) (d : ToolD) (xm xc hs0 es0 : List XE) (n : Nat) (σ : L2.St) (H' : Hp) : Prop := ∃ (F W : List Kq) (v5 v6 v7 : Option V) (es : List XE), σ = [some (.ref x), some (.ref lay), some (.int many), some (.ref fo), some (.ref pd), v5, v6, v7] ∧
  n = W.length + (8 - es.length) ∧ F.length + n ≤ C ∧ es0.length ≤ es.length ∧ ESt d (keysX es) (keysX hs0) F W ∧ EdH K P w H0 H' x s m c h e fo pd d xm xc hs0 F W es
def EdLt (K : PySem.W.Frag) (P : Program) (w : World) (H0 : Hp) (x s m c h e lay fo pd : Addr) (many : Int) (C : Nat) (d : ToolD) (xm xc hs0 es0 : List XE) (n : Nat) (σ : L2.St) (H' : Hp) : Prop := ∃ k, k < n ∧ EdInv K P w H0 x s m c h e lay fo pd many C d xm xc hs0 es0 k σ H'
def EdFor (K : PySem.W.Frag) (P : Program) (w : World) (H0 : Hp) (x s m c h e lay fo pd bk : Addr) (many : Int) (d : ToolD) (xm xc hs0 es0 : List XE) (k : Kq) (F : List Kq) (n : Nat) (i : Nat) (σ : L2.St) (H' : Hp) : Prop := ∃ (W : List Kq) (v6 v7 : Option V) (es : List XE), σ = [some (.ref x), some (.ref lay), some (.int many), some (.ref fo), some (.ref pd), some (.ref bk), v6, v7] ∧
  W.length + (8 - es.length) = n ∧ es0.length ≤ es.length ∧ ESt d (keysX es) (keysX hs0) F (k :: W) ∧ (∀ p ∈ pats8.take i, kLed d k p ∈ keysX es) ∧ EdH K P w H0 H' x s m c h e fo pd d xm xc hs0 F W es ∧ H' bk = some (kT k)
theorem x_edited (T : Tx w K mg) : MX P w K mg base 5 (He.ga K "Ways") "edited" ["self", "layer", "many"] (spEdited K P w) := by
  obtain ⟨fd, F⟩ := fun_Ways_edited T.c
  have G1 : MX P w K mg base 4 (He.ga K "Single") "led" ["self", "item", "pattern"] (spSLed K) := x_SLed T
  obtain ⟨e8, h8, p8⟩ := T.t_EIGHT
  refine MX.of F T.me_Ways_edited sc_edited (fun _ _ _ _ _ _ us hl => match us, hl with | [_, _, _], _ => rfl) (fun vs H Q E h => ?_) (fun cdv A outer s H vs Q E hr h => ?_)
  · obtain ⟨x, s, m, c, h, e, lay, many, d, xm, xc, hs, es, L, lvs, rfl, _⟩ := h
    rfl
  · obtain ⟨x, s, m, c, h, e, lay, many, d, xm, xc, hs, es, L, lvs, rfl, WH, ok, hlay, hL, ws, l8, hs8, kk⟩ := h
    refine ⟨_, pss_cons (ps_par (i := 3) (j := 4) rfl sc_edited.nd rfl rfl (by decide) rfl rfl (pa2 (pe_lst pa_nil) (pbt call_list_of T.n_list (pa1 (pv 1)))) rfl)
      (pss_cons (ps_while PassesOwn.never (pt_cmpR (op_neD (room64 hr)) (pv 4) (pe_lst pa_nil) (nomark _))
        (pss_cons (ps_set (i := 5) sc_edited.nd rfl (Or.inl rfl) (pe_bm PySem.F.plainAttrs_list PySem.F.slot_list_pop PySem.F.type_list_pop mt_popAt (pv 4) (pa1 pe_int)))
        (pss_cons (ps_expr (pe_bm PySem.F.plainAttrs_list PySem.F.slot_list_append PySem.F.type_list_append mt_append (pv 3) (pa1 (pv 5))))
        (pss_cons (ps_xput (room1 hr) (pe_fld (pv 0) rfl) (pv 5) (pv 2) rfl)
        (pss_one (ps_for PassesOwn.never rfl (pi_tup (pgr T.g_EIGHT)) (pg_name (i := 6) sc_edited.nd rfl (Or.inl rfl))
          (pss_cons (ps_set (i := 7) sc_edited.nd rfl (Or.inl rfl) (pm G1 T.cl_Single hr (pe_fld (pv 0) rfl) (pa2 (pv 5) (pv 6))))
          (pss_one (ps_if (pt_cmp (pc_xnotin (room1 hr) (pv 7) (pe_fld (pv 0) rfl)) rfl)
            (pss_cons (ps_xput (room1 hr) (pe_fld (pv 0) rfl) (pv 7) (pe_tup (pa2 (pv 5) (pe_tup (pa2 pe_str (pv 6))))) rfl)
              (pss_one (ps_expr (pe_bm PySem.F.plainAttrs_list PySem.F.slot_list_append PySem.F.type_list_append mt_append (pv 4) (pa1 (pv 7)))))) pss_nil)))))))))
      (pss_one (ps_ret (pv 3)))), ?_⟩
    have fl := T.fl
    obtain ⟨dxw, hins⟩ := WH.ins
    walk_at "rd*"
    refine ⟨by decide, fun fo hfo => ?_⟩
    have s1 := same_new (o := .lst []) hfo
    refine ⟨_, .inl (SqL.of (s1 _ _ hlay)), fun pd hpd => ?_⟩
    have s2 := s1.trans (same_new (o := .lst lvs) hpd)
    have hpd0 : H pd = none := s1.free hpd
    have nfp : fo ≠ pd := fun z => by rw [← z, upd_same] at hpd; cases hpd
    refine ⟨EdInv K P w H x s m c h e lay fo pd many (L.length + (8 - es.length)) d xm xc hs es, ⟨_, [], L, none, none, none, es, rfl, rfl, ?_, Nat.le_refl _, ws.edit, Ex.of_same s2, Imm.of_same s2, [], lvs, hs, ?_, .nil, upd_same, hL.imm (Imm.of_same s2), WH.same s2, by simp, Nat.le_refl _⟩, ?_⟩
    · rw [List.length_nil]
      omega
    · rw [upd_ne nfp, upd_same]
    · rintro n σ H4 ⟨F, W, v5, v6, v7, es1, rfl, rfl, f16, ge, es4, eh⟩
      walk_at "rd"
      refine ⟨by decide, fun q hq => ?_⟩
      have s5 := same_new (o := .lst []) hq
      have eh5 := eh.same s5
      obtain ⟨ex5, im5, fvs, wvs, hs5, a1, a2, a3, a4, a5, a6, a7⟩ := eh5
      refine ne_lists (l := W) (m := []) encK (SqL.of a3) (dp_items a4) (items_ok ok fun k hk => (es4.all k (es4.wsub k hk)).mem ok) (SqL.of upd_same) .nil (fun _ h => nomatch h) ?_
      refine ⟨_, rfl, ?_⟩
      cases W with
      | nil =>
        refine iteBF rfl ?_
        walk_at "rd"
        have e18 := es4.few ok
        have e08 := ws.few ok
        rw [keysX_len] at e18 e08
        rw [List.length_nil] at f16
        refine kk fo _ F fvs hs5 es1 ex5 im5 a1 a2 a5 es4 a6 ge (by omega) (by omega) a7
      | cons k W0 =>
        rw [List.length_cons] at f16
        refine iteBT rfl ⟨EdLt K P w H x s m c h e lay fo pd many (L.length + (8 - es.length)) d xm xc hs es ((k :: W0).length + (8 - es1.length)), fun _ _ h => h, ?_⟩
        obtain ⟨v, wv0, rfl, r0, t0⟩ : ∃ v vs0, wvs = v :: vs0 ∧ (∃ b, v = V.ref b ∧ (upd H4 q (.lst [])) b = some (kT k)) ∧ ItemsAt (upd H4 q (.lst [])) W0 vs0 := by
          cases a4 with
          | cons r t => exact ⟨_, _, rfl, r, t⟩
        obtain ⟨bk, rfl, hbk⟩ := r0
        generalize upd H4 q (.lst []) = H5 at *
        walk_at "rd"
        have kin := (es4.all k (es4.wsub k List.mem_cons_self)).mem ok
        have p1 : upd H5 pd (.lst wv0) fo = some (.lst fvs) := by rw [upd_ne nfp]; exact a1
        refine ⟨.inl ⟨rfl, _, SqL.of a3⟩, _, a3, by decide, by decide, 0, six0 _, .ref bk, rfl, .inl ⟨rfl, _, SqL.of p1⟩, _, p1, ?_, ?_⟩
        · have : fvs.length = F.length := (Paired.length a2).symm
          exact len_lt (by omega)
        have W6 := a5.lst (ys := wv0) a3
        have W7 := W6.lst (ys := fvs ++ [.ref bk]) p1
        have i7 : Imm H5 (upd (upd H5 pd (.lst wv0)) fo (.lst (fvs ++ [.ref bk]))) := (imm_put a3 rfl).trans (imm_put p1 rfl)
        have e7 : Ex [h, e] H (upd (upd H5 pd (.lst wv0)) fo (.lst (fvs ++ [.ref bk]))) := (ex5.fresh hpd0).fresh hfo
        have b1 : upd (upd H5 pd (.lst wv0)) fo (.lst (fvs ++ [.ref bk])) fo = some (.lst (fvs ++ [.ref bk])) := upd_same
        have b3 : upd (upd H5 pd (.lst wv0)) fo (.lst (fvs ++ [.ref bk])) pd = some (.lst wv0) := by rw [upd_ne nfp.symm, upd_same]
        simp only [List.eraseIdx_cons_zero]
        generalize upd (upd H5 pd (.lst wv0)) fo (.lst (fvs ++ [.ref bk])) = H7 at *
        obtain ⟨dx7, ins7⟩ := W7.ins
        have hbk7 := i7 _ _ rfl hbk
        walk_at "rd*"
        have hl5 : hs5.length < sizeLine := len_lt (by omega)
        refine ⟨k, hs5, W7.hd, W7.hk, rfl, hl5, ⟨_, h8 _⟩, ?_⟩
        have W8 := W7.putH (i := many) hbk7
        have i8 : Imm H5 (upd H7 h (DX P w h (putX hs5 k bk (.int many)))) := i7.trans (imm_put W7.hd rfl)
        have e8' : Ex [h, e] H (upd H7 h (DX P w h (putX hs5 k bk (.int many)))) := e7.in (by simp)
        have c1 : upd H7 h (DX P w h (putX hs5 k bk (.int many))) fo = some (.lst (fvs ++ [.ref bk])) := by rw [upd_ne (ne_of b1 W7.hd (fun z => nomatch z))]; exact b1
        have c3 : upd H7 h (DX P w h (putX hs5 k bk (.int many))) pd = some (.lst wv0) := by rw [upd_ne (ne_of b3 W7.hd (fun z => nomatch z))]; exact b3
        have hkeys : ∀ l, l ∈ keysX (putX hs5 k bk (.int many)) ↔ l ∈ keysX hs ∨ l ∈ F ++ [k] := fun l => by
          rw [keysX_mem, a6 l, List.mem_append, List.mem_singleton, or_assoc]
        have hlen : (putX hs5 k bk (.int many)).length ≤ hs.length + (F ++ [k]).length := by
          have := putX_len hs5 k bk (.int many)
          rw [List.length_append, List.length_singleton]
          omega
        generalize upd H7 h (DX P w h (putX hs5 k bk (.int many))) = H8 at *
        have hbk8 := i8 _ _ rfl hbk
        refine for_it walk_tup (EdFor K P w H x s m c h e lay fo pd bk many d xm xc hs es k (F ++ [k]) (W0.length + (8 - es1.length))) ⟨W0, v6, v7, es1, rfl, rfl, ge, es4.find, fun p hp => by simp at hp, ⟨e8', im5.trans i8, fvs ++ [.ref bk], wv0, _, c1, paired_app (ItemsAt.imm a2 i8) (.cons ⟨bk, rfl, hbk8⟩ .nil), c3, ItemsAt.imm t0 i8, W8, hkeys, hlen⟩, hbk8⟩ (fun i σ H' _ _ => h8 H') ?_ ?_
        · rintro i y σ9 H9 H9' hi ⟨W, u6, u7, es9, rfl, hm, ge9, st9, tk, eh9, hb9⟩ ⟨rfl, hy⟩
          obtain ⟨p, hp, pa, rfl, hpa⟩ := pair_at p8 hy
          have hp8 : pats8[i]? = some p := hp
          have hpm : p ∈ pats8 := List.mem_of_getElem? hp8
          obtain ⟨ex9, im9, fvs9, wvs9, hs9, q1, q2, q3, q4, W9, q6, q7⟩ := eh9
          obtain ⟨dx9, ins9⟩ := W9.ins
          have st9' := W9.st
          obtain ⟨t9, b9, dxs9, ss9, _, _⟩ := st9'.ex
          walk_at "rd*"
          have kHR : HR d k := st9.all k (st9.wsub k List.mem_cons_self)
          refine ⟨s, bk, pa, d, k, p, rfl, st9', ok, hb9, kin, hpa _, pats8_len p hpm, fun b1 H10 s10 e10 => ?_⟩
          have W10 := W9.same s10
          obtain ⟨dx10, ins10⟩ := W10.ins
          have tk2 : ∀ E' : List Kq, (∀ x ∈ keysX es9, x ∈ E') → kLed d k p ∈ E' → ∀ q ∈ pats8.take (i + 1), kLed d k q ∈ E' := fun E' sub h q hq2 => by
            rw [take_snoc hp8] at hq2
            rcases List.mem_append.mp hq2 with hq2 | hq2
            · exact sub _ (tk q hq2)
            · rw [List.mem_singleton.mp hq2]; exact h
          walk_at "rd*"
          refine ⟨kLed d k p, es9, ⟨.inl W10.ed, W10.ek⟩, rfl, ?_⟩
          cases hh : hasX es9 (kLed d k p) with
          | true =>
            refine iteN (by decide) ⟨W, _, _, es9, rfl, hm, ge9, st9, tk2 _ (fun _ h => h) ((hasX_keys _ _).mp hh), ⟨ex9.trans (Ex.of_same s10), im9.trans (Imm.of_same s10), fvs9, wvs9, hs9, s10 _ _ q1, ItemsAt.imm q2 (Imm.of_same s10), s10 _ _ q3, ItemsAt.imm q4 (Imm.of_same s10), W10, q6, q7⟩, s10 _ _ hb9⟩
          | false =>
            have nin := hasX_no.mp hh
            have st11 := st9.add (.led kHR hpm) nin
            have f11 := st11.few ok
            have f9 := st9.few ok
            rw [List.length_append, List.length_singleton, keysX_len] at f11
            refine iteP rfl ⟨by decide, fun n1 hn1 => ⟨by decide, fun n2 hn2 => ?_⟩⟩
            have sn := (same_new (o := .tup [.str "edit", .ref pa]) hn1).trans (same_new (o := .tup [.ref bk, .ref n1]) hn2)
            have W11 := W10.same sn
            have r1 := sn _ _ (s10 _ _ q1)
            have r3 := sn _ _ (s10 _ _ q3)
            have eb1 := sn _ _ e10
            have sA := s10.trans sn
            obtain ⟨dx11, ins11⟩ := W11.ins
            generalize upd (upd H10 n1 (.tup [.str "edit", .ref pa])) n2 (.tup [.ref bk, .ref n1]) = H11 at *
            walk_at "rd*"
            have W12 := W11.putE (v := .ref n2) eb1
            have i12 : Imm H11 (upd H11 e (DX P w e (putX es9 (kLed d k p) b1 (.ref n2)))) := imm_put W11.ed rfl
            have z1 : upd H11 e (DX P w e (putX es9 (kLed d k p) b1 (.ref n2))) fo = some (.lst fvs9) := by rw [upd_ne (ne_of r1 W11.ed (fun z => nomatch z))]; exact r1
            have z3 : upd H11 e (DX P w e (putX es9 (kLed d k p) b1 (.ref n2))) pd = some (.lst wvs9) := by rw [upd_ne (ne_of r3 W11.ed (fun z => nomatch z))]; exact r3
            have x12 : Ex [h, e] H (upd H11 e (DX P w e (putX es9 (kLed d k p) b1 (.ref n2)))) := (ex9.trans (Ex.of_same sA)).in (by simp)
            have wl9 : wvs9.length = W.length := (Paired.length q4).symm
            have ke : keysX (putX es9 (kLed d k p) b1 (.ref n2)) = keysX es9 ++ [kLed d k p] := keysX_put nin
            refine ⟨kLed d k p, es9, W11.ed, W11.ek, rfl, len_lt (by omega), .inl ⟨rfl, _, SqL.of z3⟩, _, z3, len_lt (by omega), ?_⟩
            have iA : Imm H9' (upd (upd H11 e (DX P w e (putX es9 (kLed d k p) b1 (.ref n2)))) pd (.lst (wvs9 ++ [.ref b1]))) := ((Imm.of_same sA).trans i12).trans (imm_put z3 rfl)
            have le12 : (putX es9 (kLed d k p) b1 (.ref n2)).length = es9.length + 1 := by rw [← keysX_len, ke, List.length_append, keysX_len]; rfl
            refine ⟨W ++ [kLed d k p], _, _, putX es9 (kLed d k p) b1 (.ref n2), rfl, ?_, by omega, by rw [ke]; exact st11, ?_, ⟨x12.fresh hpd0, im9.trans iA, fvs9, wvs9 ++ [.ref b1], hs9, ?_, ItemsAt.imm q2 iA, upd_same, ?_, W12.lst z3, q6, q7⟩, iA _ _ rfl hb9⟩
            · rw [le12, List.length_append, List.length_singleton]
              omega
            · rw [ke]
              exact tk2 _ (fun _ h => List.mem_append_left _ h) (by simp)
            · rw [upd_ne nfp]
              exact z1
            · exact paired_app (ItemsAt.imm q4 iA) (.cons ⟨b1, rfl, (i12.trans (imm_put z3 rfl)) _ _ rfl eb1⟩ .nil)
        · rintro σ9 H9 ⟨W, u6, u7, es9, rfl, hm, ge9, st9, tk, eh9, hb9⟩
          have wl : e8.length = pats8.length := (Paired.length p8).symm
          rw [wl, List.take_length] at tk
          refine ⟨W.length + (8 - es9.length), ?_, F ++ [k], W, _, _, _, es9, rfl, rfl, ?_, ge9, st9.close (by simp) tk, eh9⟩
          · rw [hm]; omega
          · rw [hm, List.length_append, List.length_singleton]; omega
end
end Lm
set_option Elab.async false
set_option linter.all false
set_option maxRecDepth 100000
set_option maxHeartbeats 4000000
namespace Lm
open PySem PySem.Spec PyProof.Rows L2
local macro_rules | `(tactic| walk_at "rd") => `(tactic| simp (config := {failIfUnchanged := false}) only [tVar, tC, tIsN, tNotN, tB, tAnd, tOr, tNot, tAndV, tOrV, tNotV, tIf, tNext, tSeq, tBreak, tCont, tDrop, tRet, tRetN, tIfS, gName, gNil, gCons, gTup, tAsg, tPar,
  iList, iTup, iRng1, iRng2, r_tFor, tFmt, tJs, or_false, false_or, exists_false, r_tLc, r_tDc, bf, iSeq, r_wipe0, r_wipe1, tOp, tUn, rI, rI0, rU, rEq, rNe, tTest, tChain, tFld, sFld, tNil, tCons, tTup, tLst, tCall, tMeth, tMake, tCB, tNoPart, tPart, tSl, rIxL, rIxT, rIxQ, rSlQ, r_tLc2, tXGet, tXIn, tXNotIn, sXPut, tXSetd, tXDisp1, iKeysX, iItemsX, tFrz, tFrzE, tRetag, ClX.tCMeth, iEnum, gPr, gUnl, tMakeL, rIxD, cx_w, cx_P, rSlL, rIn, tBM0, tBM, rAppend, rExtend, rPop, rPopAt, rAny, rAll, tYes, iStr, rNewStrs, tM0, tM1, StX.tStar,
  L2.start, List.map_cons, List.map_nil, List.length_cons, List.length_nil, Nat.zero_add, Nat.reduceAdd, Nat.reduceSub, List.replicate_succ, List.replicate_zero, List.cons_append, List.nil_append, List.append_nil, List.set_cons_zero, List.set_cons_succ,
  List.getElem?_cons_zero, List.getElem?_cons_succ, Option.some.injEq, exists_eq_left', exists_eq_left, exists_eq', exists_eq, exists_and_left, exists_and_right, and_assoc, List.cons.injEq, V.str.injEq, V.ref.injEq, V.bl.injEq, V.int.injEq, V.ty.injEq, and_true, true_and, reduceCtorEq, false_and, and_false,
  Bool.not_true, Bool.not_false, Bool.false_eq_true, reduceIte, Bool.not_eq_true', decide_eq_true_eq, upd_same, cx_K, HO.ins.injEq, HO.tup.injEq, HO.lst.injEq, HO.dK.injEq, lk_Run_old, lk_Run_then, lk_Run_names, lm_Run_str, lk_Lead_tests, lk_Lead_old, lk_Lead_then, lk_Lead_names, lm_Lead_str, lk_Join_here, lk_Join_came, lk_Join_then, lk_Join_names, lm_Join_str, lk_Tool_marks, lk_Tool_told, lk_Tool_parts, lk_Tool_clears, lk_Tool_rows, lk_Tool_blank, lm_Tool_need_mark, lm_Tool_is_told, lm_Tool_ran, lm_Tool_led, lm_Tool_joined, lm_Tool_keeps, lm_Tool_need_row, lm_Tool_but, lm_Tool_without, lm_Tool_heeding, lm_Tool_len, lm_Tool_eq, lm_Tool_str, lk_Single_tool, lk_Single_begin, lm_Single_machine_steps, lm_Single_led, lm_Single_joined, lk_Ways_steps, lk_Ways_machine, lk_Ways_coming, lk_Ways_hearings, lk_Ways_elders, lm_Ways_edited, lm_Ways_heard, lk_Meeting_hearings, lk_Meeting_item, lk_Meeting_deeds, lk_Meeting_waiting, lk_Told_steps, lk_Told_machine, lk_Told_coming, lk_Told_hearings, lm_Told_is_closed])
local macro_rules | `(tactic| walk_at "rd*") => `(tactic| simp (config := {failIfUnchanged := false}) only [tVar, tC, tIsN, tNotN, tB, tAnd, tOr, tNot, tAndV, tOrV, tNotV, tIf, tNext, tSeq, tBreak, tCont, tDrop, tRet, tRetN, tIfS, gName, gNil, gCons, gTup, tAsg, tPar,
  iList, iTup, iRng1, iRng2, r_tFor, tFmt, tJs, or_false, false_or, exists_false, r_tLc, r_tDc, bf, iSeq, r_wipe0, r_wipe1, tOp, tUn, rI, rI0, rU, rEq, rNe, tTest, tChain, tFld, sFld, tNil, tCons, tTup, tLst, tCall, tMeth, tMake, tCB, tNoPart, tPart, tSl, rIxL, rIxT, rIxQ, rSlQ, r_tLc2, tXGet, tXIn, tXNotIn, sXPut, tXSetd, tXDisp1, iKeysX, iItemsX, tFrz, tFrzE, tRetag, ClX.tCMeth, iEnum, gPr, gUnl, tMakeL, rIxD, cx_w, cx_P, rSlL, rIn, tBM0, tBM, rAppend, rExtend, rPop, rPopAt, rAny, rAll, tYes, iStr, rNewStrs, tM0, tM1, StX.tStar,
  L2.start, List.map_cons, List.map_nil, List.length_cons, List.length_nil, Nat.zero_add, Nat.reduceAdd, Nat.reduceSub, List.replicate_succ, List.replicate_zero, List.cons_append, List.nil_append, List.append_nil, List.set_cons_zero, List.set_cons_succ,
  List.getElem?_cons_zero, List.getElem?_cons_succ, Option.some.injEq, exists_eq_left', exists_eq_left, exists_eq', exists_eq, exists_and_left, exists_and_right, and_assoc, List.cons.injEq, V.str.injEq, V.ref.injEq, V.bl.injEq, V.int.injEq, V.ty.injEq, and_true, true_and, reduceCtorEq, false_and, and_false,
  Bool.not_true, Bool.not_false, Bool.false_eq_true, reduceIte, Bool.not_eq_true', decide_eq_true_eq, upd_same, cx_K, HO.ins.injEq, HO.tup.injEq, HO.lst.injEq, HO.dK.injEq, lk_Run_old, lk_Run_then, lk_Run_names, lm_Run_str, lk_Lead_tests, lk_Lead_old, lk_Lead_then, lk_Lead_names, lm_Lead_str, lk_Join_here, lk_Join_came, lk_Join_then, lk_Join_names, lm_Join_str, lk_Tool_marks, lk_Tool_told, lk_Tool_parts, lk_Tool_clears, lk_Tool_rows, lk_Tool_blank, lm_Tool_need_mark, lm_Tool_is_told, lm_Tool_ran, lm_Tool_led, lm_Tool_joined, lm_Tool_keeps, lm_Tool_need_row, lm_Tool_but, lm_Tool_without, lm_Tool_heeding, lm_Tool_len, lm_Tool_eq, lm_Tool_str, lk_Single_tool, lk_Single_begin, lm_Single_machine_steps, lm_Single_led, lm_Single_joined, lk_Ways_steps, lk_Ways_machine, lk_Ways_coming, lk_Ways_hearings, lk_Ways_elders, lm_Ways_edited, lm_Ways_heard, lk_Meeting_hearings, lk_Meeting_item, lk_Meeting_deeds, lk_Meeting_waiting, lk_Told_steps, lk_Told_machine, lk_Told_coming, lk_Told_hearings, lm_Told_is_closed, *])
section
variable {P : Program} {w : World} {K : PySem.W.Frag} {mg : Str → Option Value} {base : Heap}
/-! ### heard -/
def spHeard (K : PySem.W.Frag) (P : Program) (w : World) : Sp := fun vs H Q _ => ∃ (x s m c h e lay : Addr) (d : ToolD) (xm xc hs es : List XE) (Hd F : List Kq) (fvs : List V), vs = [.ref x, .ref lay] ∧ WayH K P w H x s m c h e d xm xc hs es ∧ d.ok ∧ H lay = some (.lst fvs) ∧ ItemsAt H F fvs ∧
  JSt d (keysX es) Hd F [] ∧ F.length ≤ 16 ∧ xc.length ≤ 100 ∧ (∀ k, k ∈ keysX xc ↔ CR d k) ∧ ∀ (l : Addr) (H' : Hp) (L : List Kq) (lvs : List V) (es' : List XE), Ex [h, e] H H' → Imm H H' → H' l = some (.lst lvs) → ItemsAt H' L lvs → WayH K P w H' x s m c h e d xm xc hs es' →
    JSt d (keysX es') Hd F L → (∀ k ∈ F, ∀ c, CR d c → kJoined d k c ∈ keysX es') → es'.length = es.length + L.length → Q (.ref l) H'
theorem sc_heard : FnScope ["self", "layer", "found", "item", "came", "sent", "pattern", "later"] ["self", "layer"] (defScope st_Ways_heard) := ⟨rfl, rfl, rfl, by decide +kernel, rfl, by decide +kernel, by decide +kernel⟩
def HeH (K : PySem.W.Frag) (P : Program) (w : World) (H0 H' : Hp) (x s m c h e fo : Addr) (d : ToolD) (xm xc hs : List XE) (L : List Kq) (es : List XE) : Prop :=
  Ex [h, e] H0 H' ∧ Imm H0 H' ∧ ∃ lvs, H' fo = some (.lst lvs) ∧ ItemsAt H' L lvs ∧ WayH K P w H' x s m c h e d xm xc hs es
theorem HeH.same {H0 H1 H2 : Hp} {x s m c h e fo : Addr} {d : ToolD} {xm xc hs es : List XE} {L : List Kq} (a : HeH K P w H0 H1 x s m c h e fo d xm xc hs L es) (i : Same H1 H2) : HeH K P w H0 H2 x s m c h e fo d xm xc hs L es := by
  obtain ⟨q1, q2, lvs, a1, a2, a3⟩ := a
  exact ⟨q1.trans (Ex.of_same i), q2.trans (Imm.of_same i), lvs, i _ _ a1, a2.imm (Imm.of_same i), a3.same i⟩
/-- the outer for: i items of F done -/
def HeInv (K : PySem.W.Frag) (P : Program) (w : World) (H0 : Hp) (x s m c h e lay fo : Addr) (d : ToolD) (xm xc hs es0 : List XE) (Hd F : List Kq) (i : Nat) (σ : L2.St) (H' : Hp) : Prop := ∃ (L : List Kq) (v3 v4 v5 v6 v7 : Option V) (es : List XE), σ = [some (.ref x), some (.ref lay), some (.ref fo), v3, v4, v5, v6, v7] ∧
  es.length = es0.length + L.length ∧ JSt d (keysX es) Hd F L ∧ (∀ k ∈ F.take i, ∀ c, CR d c → kJoined d k c ∈ keysX es) ∧ HeH K P w H0 H' x s m c h e fo d xm xc hs L es
/-- the inner for: j messages done with the item k -/
def HeFor (K : PySem.W.Frag) (P : Program) (w : World) (H0 : Hp) (x s m c h e lay fo bk : Addr) (d : ToolD) (xm xc hs es0 : List XE) (Hd F : List Kq) (k : Kq) (i : Nat) (j : Nat) (σ : L2.St) (H' : Hp) : Prop := ∃ (L : List Kq) (v4 v5 v6 v7 : Option V) (es : List XE), σ = [some (.ref x), some (.ref lay), some (.ref fo), some (.ref bk), v4, v5, v6, v7] ∧
  es.length = es0.length + L.length ∧ JSt d (keysX es) Hd F L ∧ (∀ k ∈ F.take i, ∀ c, CR d c → kJoined d k c ∈ keysX es) ∧ (∀ y ∈ xc.take j, kJoined d k y.1 ∈ keysX es) ∧ HeH K P w H0 H' x s m c h e fo d xm xc hs L es ∧ H' bk = some (kT k)
theorem x_heard (T : Tx w K mg) : MX P w K mg base 5 (He.ga K "Ways") "heard" ["self", "layer"] (spHeard K P w) := by
  obtain ⟨fd, F⟩ := fun_Ways_heard T.c
  have G1 : MX P w K mg base 4 (He.ga K "Single") "joined" ["self", "here", "came"] (spSJoined K) := x_SJoined T
  refine MX.of F T.me_Ways_heard sc_heard (fun _ _ _ _ _ _ us hl => match us, hl with | [_, _], _ => rfl) (fun vs H Q E h => ?_) (fun cdv A outer s H vs Q E hr h => ?_)
  · obtain ⟨x, s, m, c, h, e, lay, d, xm, xc, hs, es, Hd, F, fvs, rfl, _⟩ := h
    rfl
  · obtain ⟨x, s, m, c, h, e, lay, d, xm, xc, hs, es, Hd, F, fvs, rfl, WH, ok, hlay, hF, js, f16, c8, hcr, kk⟩ := h
    refine ⟨_, pss_cons (ps_set (i := 2) sc_heard.nd rfl (Or.inl rfl) (pe_lst pa_nil))
      (pss_cons (ps_for PassesOwn.never rfl (pi_list (pv 1)) (pg_name (i := 3) sc_heard.nd rfl (Or.inl rfl))
        (pss_one (ps_for PassesOwn.never rfl (pi_itemsX (pe_fld (pv 0) rfl)) (pg_tup (n := 2) rfl (pgs_cons (pg_name (i := 4) sc_heard.nd rfl (Or.inl rfl)) (pgs_cons (pg_tup (n := 2) rfl (pgs_cons (pg_name (i := 5) sc_heard.nd rfl (Or.inl rfl)) (pgs_cons (pg_name (i := 6) sc_heard.nd rfl (Or.inl rfl)) pgs_nil))) pgs_nil)))
          (pss_cons (ps_set (i := 7) sc_heard.nd rfl (Or.inl rfl) (pm G1 T.cl_Single hr (pe_fld (pv 0) rfl) (pa2 (pv 3) (pv 4))))
          (pss_one (ps_if (pt_cmp (pc_xnotin (room1 hr) (pv 7) (pe_fld (pv 0) rfl)) rfl)
            (pss_cons (ps_xput (room1 hr) (pe_fld (pv 0) rfl) (pv 7) (pe_tup (pa2 (pv 3) (pe_tup (pa_cons pe_str (pa2 (pv 6) (pv 5)))))) rfl)
              (pss_one (ps_expr (pe_bm PySem.F.plainAttrs_list PySem.F.slot_list_append PySem.F.type_list_append mt_append (pv 2) (pa1 (pv 7)))))) pss_nil))))))
      (pss_one (ps_ret (pv 2)))), ?_⟩
    have fl := T.fl
    walk_at "rd*"
    refine ⟨by decide, fun fo hfo => ?_⟩
    have s1 := same_new (o := .lst []) hfo
    have hl1 := s1 _ _ hlay
    have fl16 : fvs.length = F.length := (Paired.length hF).symm
    refine ⟨⟨_, SqL.of hl1⟩, for_it (walk_list (xs := fvs)) (HeInv K P w H x s m c h e lay fo d xm xc hs es Hd F) ⟨[], none, none, none, none, none, es, rfl, rfl, js, fun k hk => by simp at hk, Ex.of_same s1, Imm.of_same s1, [], upd_same, .nil, WH.same s1⟩ (fun i σ H' _ q => ?_) ?_ ?_⟩
    · obtain ⟨L, _, _, _, _, _, es1, _, _, _, _, ex, im, lvs, _, _, W1⟩ := q
      refine SqL.of (ex _ _ hlay ?_)
      have n1 : lay ≠ h := ne_of hlay WH.hd (fun z => nomatch z)
      have n2 : lay ≠ e := ne_of hlay WH.ed (fun z => nomatch z)
      simp [n1, n2]
    · rintro i y σ3 H3 H3' hi ⟨L, v3, v4, v5, v6, v7, es3, rfl, le3, js3, tk3, hh3⟩ ⟨rfl, hy⟩
      obtain ⟨k, hk, bk, rfl, hbk⟩ := pair_at hF hy
      obtain ⟨ex3, im3, lvs3, a1, a2, W3⟩ := hh3
      have hbk3 := im3 _ _ rfl hbk
      obtain ⟨dx3, ins3⟩ := W3.ins
      obtain ⟨oc, hc3⟩ := W3.cf
      walk_at "rd*"
      refine ⟨oc, xc, rfl, for_it (walk_itemsX (P := P) (w := w) (d := c) (o := oc) (xs := xc)) (HeFor K P w H x s m c h e lay fo bk d xm xc hs es Hd F k i) ⟨L, v4, v5, v6, v7, es3, rfl, le3, js3, tk3, fun y hy => by simp at hy, ⟨ex3, im3, lvs3, a1, a2, W3⟩, hbk3⟩ (fun j σ H' _ q => ?_) ?_ ?_⟩
      · obtain ⟨L, _, _, _, _, es1, _, _, _, _, _, ⟨ex, im, lvs, _, _, W1⟩, _⟩ := q
        obtain ⟨o0, h0⟩ := WH.cf
        have e1 := im3 _ _ rfl h0
        rw [hc3] at e1
        have e2 := im _ _ rfl h0
        rw [e2, ← e1]
      · rintro j y σ4 H4 H4' hj ⟨L, u4, u5, u6, u7, es4, rfl, le4, js4, tk4, tj4, ⟨ex4, im4, lvs4, q1, q2, W4⟩, hb4⟩ ⟨T2, ye, rfl, hT2, rfl, hye⟩
        have hym := List.mem_of_getElem? hye
        obtain ⟨vb, v1, v2, ev, hvb⟩ := W4.cv ye hym
        have hck := W4.ck ye hym
        have s5 := same_new (o := .tup [.ref ye.2.1, ye.2.2]) hT2
        have eT : upd H4 T2 (.tup [.ref ye.2.1, ye.2.2]) T2 = some (.tup [.ref ye.2.1, ye.2.2]) := upd_same
        generalize upd H4 T2 (.tup [.ref ye.2.1, ye.2.2]) = H5 at *
        have W5 := W4.same s5
        obtain ⟨dx5, ins5⟩ := W5.ins
        have st5 := W5.st
        obtain ⟨t5, b5, dxs5, ss5, _, _⟩ := st5.ex
        have cin : CR d ye.1 := (hcr ye.1).mp (List.mem_map.mpr ⟨ye, hym, rfl⟩)
        have kHR : HR d k := js4.all k (js4.fsub k (List.mem_of_getElem? hk))
        walk_at "rd*"
        have kin := kHR.mem ok
        refine ⟨_, SqT.of eT, rfl, _, _, rfl, _, _, rfl, vb, ev, _, SqT.of (s5 _ _ hvb), rfl, _, _, rfl, _, _, rfl, rfl, rfl, ?_⟩
        refine ⟨s, bk, ye.2.1, d, k, ye.1, rfl, st5, s5 _ _ hb4, s5 _ _ hck, kin, cin.mem ok, fun b1 H10 s10 e10 => ?_⟩
        have W10 := W5.same s10
        have sB := s5.trans s10
        obtain ⟨dx10, ins10⟩ := W10.ins
        have tj2 : ∀ E' : List Kq, (∀ x ∈ keysX es4, x ∈ E') → kJoined d k ye.1 ∈ E' → ∀ q ∈ xc.take (j + 1), kJoined d k q.1 ∈ E' := fun E' sub h q hq2 => by
          rw [take_snoc hye] at hq2
          rcases List.mem_append.mp hq2 with hq2 | hq2
          · exact sub _ (tj4 q hq2)
          · rw [List.mem_singleton.mp hq2]; exact h
        walk_at "rd*"
        refine ⟨kJoined d k ye.1, es4, ⟨.inl W10.ed, W10.ek⟩, rfl, ?_⟩
        cases hh : hasX es4 (kJoined d k ye.1) with
        | true =>
          refine iteN (by decide) ⟨L, _, _, _, _, es4, rfl, le4, js4, tk4, tj2 _ (fun _ h => h) ((hasX_keys _ _).mp hh), ⟨ex4.trans (Ex.of_same sB), im4.trans (Imm.of_same sB), lvs4, sB _ _ q1, ItemsAt.imm q2 (Imm.of_same sB), W10⟩, sB _ _ hb4⟩
        | false =>
          have nin := hasX_no.mp hh
          have js11 := js4.add (.joined kHR cin) nin
          have f11 := js11.few ok
          rw [List.length_append, List.length_singleton, keysX_len] at f11
          refine iteP rfl ⟨by decide, fun n1 hn1 => ⟨by decide, fun n2 hn2 => ?_⟩⟩
          have sn := (same_new (o := .tup [.str "hear", v2, v1]) hn1).trans (same_new (o := .tup [.ref bk, .ref n1]) hn2)
          have W11 := W10.same sn
          have sA := sB.trans sn
          have r1 := sA _ _ q1
          have eb1 := sn _ _ e10
          obtain ⟨dx11, ins11⟩ := W11.ins
          generalize upd (upd H10 n1 (.tup [.str "hear", v2, v1])) n2 (.tup [.ref bk, .ref n1]) = H11 at *
          walk_at "rd*"
          have W12 := W11.putE (v := .ref n2) eb1
          have i12 : Imm H11 (upd H11 e (DX P w e (putX es4 (kJoined d k ye.1) b1 (.ref n2)))) := imm_put W11.ed rfl
          have z1 : upd H11 e (DX P w e (putX es4 (kJoined d k ye.1) b1 (.ref n2))) fo = some (.lst lvs4) := by rw [upd_ne (ne_of r1 W11.ed (fun z => nomatch z))]; exact r1
          have x12 : Ex [h, e] H (upd H11 e (DX P w e (putX es4 (kJoined d k ye.1) b1 (.ref n2)))) := (ex4.trans (Ex.of_same sA)).in (by simp)
          have ke : keysX (putX es4 (kJoined d k ye.1) b1 (.ref n2)) = keysX es4 ++ [kJoined d k ye.1] := keysX_put nin
          have ll : lvs4.length = L.length := (Paired.length q2).symm
          have iA : Imm H4 (upd (upd H11 e (DX P w e (putX es4 (kJoined d k ye.1) b1 (.ref n2)))) fo (.lst (lvs4 ++ [.ref b1]))) := ((Imm.of_same sA).trans i12).trans (imm_put z1 rfl)
          have le12 : (putX es4 (kJoined d k ye.1) b1 (.ref n2)).length = es4.length + 1 := by rw [← keysX_len, ke, List.length_append, keysX_len]; rfl
          refine ⟨kJoined d k ye.1, es4, W11.ed, W11.ek, rfl, len_lt (by omega), .inl ⟨rfl, _, SqL.of z1⟩, _, z1, len_lt (by omega), ?_⟩
          refine ⟨L ++ [kJoined d k ye.1], _, _, _, _, putX es4 (kJoined d k ye.1) b1 (.ref n2), rfl, ?_, by rw [ke]; exact js11, fun k2 h2 c2 hc2 => ?_, ?_, ⟨x12.fresh hfo, im4.trans iA, lvs4 ++ [.ref b1], upd_same, ?_, W12.lst z1⟩, iA _ _ rfl hb4⟩
          · rw [le12, List.length_append, List.length_singleton]
            omega
          · rw [ke]
            exact List.mem_append_left _ (tk4 k2 h2 c2 hc2)
          · rw [ke]
            exact tj2 _ (fun _ h => List.mem_append_left _ h) (by simp)
          · exact paired_app (ItemsAt.imm q2 iA) (.cons ⟨b1, rfl, (i12.trans (imm_put z1 rfl)) _ _ rfl eb1⟩ .nil)
      · rintro σ4 H4 ⟨L, u4, u5, u6, u7, es4, rfl, le4, js4, tk4, tj4, hh4, hb4⟩
        rw [List.take_length] at tj4
        refine ⟨L, _, _, _, _, _, es4, rfl, le4, js4, fun k2 hk2 c2 hc2 => ?_, hh4⟩
        rw [take_snoc hk] at hk2
        rcases List.mem_append.mp hk2 with hk2 | hk2
        · exact tk4 k2 hk2 c2 hc2
        · rw [List.mem_singleton.mp hk2]
          obtain ⟨y, hy, e1⟩ := List.mem_map.mp ((hcr c2).mpr hc2)
          rw [← e1]
          exact tj4 y hy
    · rintro σ3 H3 ⟨L, v3, v4, v5, v6, v7, es3, rfl, le3, js3, tk3, hh3⟩
      obtain ⟨ex3, im3, lvs3, a1, a2, W3⟩ := hh3
      rw [fl16, List.take_length] at tk3
      walk_at "rd"
      exact kk fo H3 L lvs3 es3 ex3 im3 a1 a2 W3 js3 tk3 le3
end
end Lm
set_option Elab.async false
set_option linter.all false
set_option maxRecDepth 100000
set_option maxHeartbeats 4000000
namespace Lm
open PySem PySem.Spec PyProof.Rows L2
local macro_rules | `(tactic| walk_at "rd") => `(tactic| simp (config := {failIfUnchanged := false}) only [tVar, tC, tIsN, tNotN, tB, tAnd, tOr, tNot, tAndV, tOrV, tNotV, tIf, tNext, tSeq, tBreak, tCont, tDrop, tRet, tRetN, tIfS, gName, gNil, gCons, gTup, tAsg, tPar,
  iList, iTup, iRng1, iRng2, r_tFor, tFmt, tJs, or_false, false_or, exists_false, r_tLc, r_tDc, bf, iSeq, r_wipe0, r_wipe1, tOp, tUn, rI, rI0, rU, rEq, rNe, tTest, tChain, tFld, sFld, tNil, tCons, tTup, tLst, tCall, tMeth, tMake, tCB, tNoPart, tPart, tSl, rIxL, rIxT, rIxQ, rSlQ, r_tLc2, tXGet, tXIn, tXNotIn, sXPut, tXSetd, tXDisp1, iKeysX, iItemsX, tFrz, tFrzE, tRetag, ClX.tCMeth, iEnum, gPr, gUnl, tDNewK, tMakeL, rIxD, cx_w, cx_P, rSlL, rIn, tBM0, tBM, rAppend, rExtend, rPop, rPopAt, rAny, rAll, tYes, iStr, rNewStrs, tM0, tM1, StX.tStar,
  L2.start, List.map_cons, List.map_nil, List.length_cons, List.length_nil, Nat.zero_add, Nat.reduceAdd, Nat.reduceSub, List.replicate_succ, List.replicate_zero, List.cons_append, List.nil_append, List.append_nil, List.set_cons_zero, List.set_cons_succ,
  List.getElem?_cons_zero, List.getElem?_cons_succ, Option.some.injEq, exists_eq_left', exists_eq_left, exists_eq', exists_eq, exists_and_left, exists_and_right, and_assoc, List.cons.injEq, V.str.injEq, V.ref.injEq, V.bl.injEq, V.int.injEq, V.ty.injEq, and_true, true_and, reduceCtorEq, false_and, and_false,
  Bool.not_true, Bool.not_false, Bool.false_eq_true, reduceIte, Bool.not_eq_true', decide_eq_true_eq, upd_same, cx_K, HO.ins.injEq, HO.tup.injEq, HO.lst.injEq, HO.dK.injEq, lk_Run_old, lk_Run_then, lk_Run_names, lm_Run_str, lk_Lead_tests, lk_Lead_old, lk_Lead_then, lk_Lead_names, lm_Lead_str, lk_Join_here, lk_Join_came, lk_Join_then, lk_Join_names, lm_Join_str, lk_Tool_marks, lk_Tool_told, lk_Tool_parts, lk_Tool_clears, lk_Tool_rows, lk_Tool_blank, lm_Tool_need_mark, lm_Tool_is_told, lm_Tool_ran, lm_Tool_led, lm_Tool_joined, lm_Tool_keeps, lm_Tool_need_row, lm_Tool_but, lm_Tool_without, lm_Tool_heeding, lm_Tool_len, lm_Tool_eq, lm_Tool_str, lk_Single_tool, lk_Single_begin, lm_Single_machine_steps, lm_Single_led, lm_Single_joined, lk_Ways_steps, lk_Ways_machine, lk_Ways_coming, lk_Ways_hearings, lk_Ways_elders, lm_Ways_edited, lm_Ways_heard, lk_Meeting_hearings, lk_Meeting_item, lk_Meeting_deeds, lk_Meeting_waiting, lk_Told_steps, lk_Told_machine, lk_Told_coming, lk_Told_hearings, lm_Told_is_closed])
local macro_rules | `(tactic| walk_at "rd*") => `(tactic| simp (config := {failIfUnchanged := false}) only [tVar, tC, tIsN, tNotN, tB, tAnd, tOr, tNot, tAndV, tOrV, tNotV, tIf, tNext, tSeq, tBreak, tCont, tDrop, tRet, tRetN, tIfS, gName, gNil, gCons, gTup, tAsg, tPar,
  iList, iTup, iRng1, iRng2, r_tFor, tFmt, tJs, or_false, false_or, exists_false, r_tLc, r_tDc, bf, iSeq, r_wipe0, r_wipe1, tOp, tUn, rI, rI0, rU, rEq, rNe, tTest, tChain, tFld, sFld, tNil, tCons, tTup, tLst, tCall, tMeth, tMake, tCB, tNoPart, tPart, tSl, rIxL, rIxT, rIxQ, rSlQ, r_tLc2, tXGet, tXIn, tXNotIn, sXPut, tXSetd, tXDisp1, iKeysX, iItemsX, tFrz, tFrzE, tRetag, ClX.tCMeth, iEnum, gPr, gUnl, tDNewK, tMakeL, rIxD, cx_w, cx_P, rSlL, rIn, tBM0, tBM, rAppend, rExtend, rPop, rPopAt, rAny, rAll, tYes, iStr, rNewStrs, tM0, tM1, StX.tStar,
  L2.start, List.map_cons, List.map_nil, List.length_cons, List.length_nil, Nat.zero_add, Nat.reduceAdd, Nat.reduceSub, List.replicate_succ, List.replicate_zero, List.cons_append, List.nil_append, List.append_nil, List.set_cons_zero, List.set_cons_succ,
  List.getElem?_cons_zero, List.getElem?_cons_succ, Option.some.injEq, exists_eq_left', exists_eq_left, exists_eq', exists_eq, exists_and_left, exists_and_right, and_assoc, List.cons.injEq, V.str.injEq, V.ref.injEq, V.bl.injEq, V.int.injEq, V.ty.injEq, and_true, true_and, reduceCtorEq, false_and, and_false,
  Bool.not_true, Bool.not_false, Bool.false_eq_true, reduceIte, Bool.not_eq_true', decide_eq_true_eq, upd_same, cx_K, HO.ins.injEq, HO.tup.injEq, HO.lst.injEq, HO.dK.injEq, lk_Run_old, lk_Run_then, lk_Run_names, lm_Run_str, lk_Lead_tests, lk_Lead_old, lk_Lead_then, lk_Lead_names, lm_Lead_str, lk_Join_here, lk_Join_came, lk_Join_then, lk_Join_names, lm_Join_str, lk_Tool_marks, lk_Tool_told, lk_Tool_parts, lk_Tool_clears, lk_Tool_rows, lk_Tool_blank, lm_Tool_need_mark, lm_Tool_is_told, lm_Tool_ran, lm_Tool_led, lm_Tool_joined, lm_Tool_keeps, lm_Tool_need_row, lm_Tool_but, lm_Tool_without, lm_Tool_heeding, lm_Tool_len, lm_Tool_eq, lm_Tool_str, lk_Single_tool, lk_Single_begin, lm_Single_machine_steps, lm_Single_led, lm_Single_joined, lk_Ways_steps, lk_Ways_machine, lk_Ways_coming, lk_Ways_hearings, lk_Ways_elders, lm_Ways_edited, lm_Ways_heard, lk_Meeting_hearings, lk_Meeting_item, lk_Meeting_deeds, lk_Meeting_waiting, lk_Told_steps, lk_Told_machine, lk_Told_coming, lk_Told_hearings, lm_Told_is_closed, *])
section
variable {P : Program} {w : World} {K : PySem.W.Frag} {mg : Str → Option Value} {base : Heap}
/-! ### Ways(..) -/
/-- behind the statement a dict is told frozen -/
def tFrzN (P : Program) (w : World) (t : TS) : TS := fun D σ H => t { D with nx := fun σ' H' => ∃ a xs, H' a = some (DX P w a xs) ∧ ∀ o, D.nx σ' (upd H' a (.frz o (DX P w a xs))) } σ H
theorem ps_frzN {X : Cx} {st : Stmt} {t : TS} (h : PS X st t) : PS X st (tFrzN X.prog X.w t) := by
  refine ⟨fun pins s σ H D I hw => thn (h.run pins s σ H _ I hw) fun f s1 q => ?_⟩
  cases f with
  | next =>
    obtain ⟨σ', H', I2, a, xs, e, q⟩ := q
    obtain ⟨o, I3⟩ := x_frz I2 e
    exact ⟨σ', _, I3, q o⟩
  | brk => exact q
  | cont => exact q
  | ret v => exact q
structure WaysAt (K : PySem.W.Frag) (P : Program) (w : World) (H : Hp) (x : Addr) (d : ToolD) : Prop where
  ex : ∃ dx s m c h e xm xc hs om oc oh, H x = some (.ins (He.ga K "Ways") dx (fWays s m c h e)) ∧ SingleAt K H s d ∧
    (H m = some (.frz om (DX P w m xm)) ∧ KeysAt H xm ∧ xm.length ≤ 8 ∧ ∀ k, k ∈ keysX xm ↔ MR d k) ∧
    (H c = some (.frz oc (DX P w c xc)) ∧ KeysAt H xc ∧ xc.length ≤ 8 ∧ (∀ y ∈ xc, ∃ b v1 v2, y.2.2 = .ref b ∧ H b = some (.tup [v1, v2])) ∧ ∀ k, k ∈ keysX xc ↔ CR d k) ∧
    (H h = some (.frz oh (DX P w h hs)) ∧ KeysAt H hs ∧ hs.length ≤ 100 ∧ (∀ y ∈ hs, ∃ i, y.2.2 = .int i) ∧ ∀ k, k ∈ keysX hs ↔ HR d k)
theorem WaysAt.imm {H H' : Hp} {x : Addr} {d : ToolD} (W : WaysAt K P w H x d) (i : Imm H H') : WaysAt K P w H' x d := by
  obtain ⟨dx, s, m, c, h, e, xm, xc, hs, om, oc, oh, a1, a2, ⟨b1, b2, b3, b4⟩, ⟨c1, c2, c3, c4, c5⟩, d1, d2, d3, d4, d5⟩ := W.ex
  exact ⟨dx, s, m, c, h, e, xm, xc, hs, om, oc, oh, i _ _ rfl a1, a2.imm i, ⟨i _ _ rfl b1, b2.imm i, b3, b4⟩, ⟨i _ _ rfl c1, c2.imm i, c3, fun y hy => let ⟨b, v1, v2, q1, q2⟩ := c4 y hy; ⟨b, v1, v2, q1, i _ _ rfl q2⟩, c5⟩, i _ _ rfl d1, d2.imm i, d3, d4, d5⟩
/-- what is known of the coming ones while they are gathered -/
structure CSt (d : ToolD) (xs : List XE) : Prop where
  nd : (keysX xs).Nodup
  all : ∀ k ∈ keysX xs, CR d k
theorem CSt.put {d : ToolD} {xs : List XE} {k : Kq} {b : Addr} {v : V} (h : CSt d xs) (hk : CR d k) (n : k ∉ keysX xs) : CSt d (putX xs k b v) := by
  have e : keysX (putX xs k b v) = keysX xs ++ [k] := keysX_put n
  refine ⟨?_, fun l hl => ?_⟩
  · rw [e]
    exact List.nodup_append.mpr ⟨h.nd, by simp, fun a ha b hb => by rw [List.mem_singleton.mp hb]; exact fun z => n (z ▸ ha)⟩
  · rw [e] at hl
    rcases List.mem_append.mp hl with hl | hl
    · exact h.all l hl
    · rw [List.mem_singleton.mp hl]; exact hk
theorem CSt.few {d : ToolD} {xs : List XE} (h : CSt d xs) (ok : d.ok) : xs.length ≤ 8 := by
  rw [← keysX_len]
  exact few_items ok h.nd fun k hk => (h.all k hk).mem ok
/-- the heap while they are gathered: c the dict -/
def CoH (P : Program) (w : World) (d : ToolD) (G0 H' : Hp) (c : Addr) (xs : List XE) : Prop := Ex [c] G0 H' ∧ Imm G0 H' ∧ H' c = some (DX P w c xs) ∧ KeysAt H' xs ∧ (∀ y ∈ xs, ∃ b v1 v2, y.2.2 = .ref b ∧ H' b = some (.tup [v1, v2])) ∧ CSt d xs
theorem CoH.same {d : ToolD} {G0 H1 H2 : Hp} {c : Addr} {xs : List XE} (h : CoH P w d G0 H1 c xs) (s : Same H1 H2) : CoH P w d G0 H2 c xs := by
  obtain ⟨a1, a2, a3, a4, a5, a6⟩ := h
  exact ⟨a1.trans (Ex.of_same s), a2.trans (Imm.of_same s), s _ _ a3, a4.imm (Imm.of_same s), fun y hy => let ⟨b, v1, v2, q1, q2⟩ := a5 y hy; ⟨b, v1, v2, q1, s _ _ q2⟩, a6⟩
theorem CoH.put {d : ToolD} {G0 H1 : Hp} {c b t : Addr} {xs : List XE} {k : Kq} {v1 v2 : V} (h : CoH P w d G0 H1 c xs) (hb : H1 b = some (kT k)) (ht : H1 t = some (.tup [v1, v2])) (hk : CR d k) (n : k ∉ keysX xs) : CoH P w d G0 (upd H1 c (DX P w c (putX xs k b (.ref t)))) c (putX xs k b (.ref t)) := by
  obtain ⟨a1, a2, a3, a4, a5, a6⟩ := h
  have i : Imm H1 (upd H1 c (DX P w c (putX xs k b (.ref t)))) := imm_put a3 rfl
  refine ⟨a1.trans (Ex.put (by simp)), a2.trans i, upd_same, (a4.put hb).imm i, putX_vals (R := fun v => ∃ b2 u1 u2, v = .ref b2 ∧ upd H1 c (DX P w c (putX xs k b (.ref t))) b2 = some (.tup [u1, u2])) (fun y hy => ?_) ⟨t, v1, v2, rfl, i _ _ rfl ht⟩, a6.put hk n⟩
  obtain ⟨b2, u1, u2, q1, q2⟩ := a5 y hy
  exact ⟨b2, u1, u2, q1, i _ _ rfl q2⟩
def CoOut (P : Program) (w : World) (d : ToolD) (G0 : Hp) (x s c : Addr) (xm : List XE) (i : Nat) (σ : L2.St) (H' : Hp) : Prop := ∃ (xs : List XE) (v2 v3 : Option V), σ = [some (.ref x), some (.ref s), v2, v3, none, none] ∧ CoH P w d G0 H' c xs ∧ (∀ y ∈ xm.take i, y.1 ∈ keysX xs ∧ ∀ p ∈ pats8, kLed d y.1 p ∈ keysX xs)
def CoIn (P : Program) (w : World) (d : ToolD) (G0 : Hp) (x s c bk : Addr) (xm : List XE) (i : Nat) (k : Kq) (j : Nat) (σ : L2.St) (H' : Hp) : Prop := ∃ (xs : List XE) (v3 : Option V), σ = [some (.ref x), some (.ref s), some (.ref bk), v3, none, none] ∧ CoH P w d G0 H' c xs ∧ (∀ y ∈ xm.take i, y.1 ∈ keysX xs ∧ ∀ p ∈ pats8, kLed d y.1 p ∈ keysX xs) ∧ k ∈ keysX xs ∧ (∀ p ∈ pats8.take j, kLed d k p ∈ keysX xs)
theorem atX_mem {xs : List XE} {k : Kq} {v : V} (h : atX xs k = some v) : k ∈ keysX xs := by
  rw [← hasX_keys, ← atX_has, h]
  rfl
def WaInv (K : PySem.W.Frag) (P : Program) (w : World) (H0 : Hp) (x s m c h e : Addr) (d : ToolD) (xm xc : List XE) (n : Nat) (σ : L2.St) (H' : Hp) : Prop := ∃ (L : List Kq) (lay : Addr) (i : Int) (hs es : List XE) (lvs : List V) (v2 v3 : Option V), σ = [some (.ref x), some (.ref s), v2, v3, some (.ref lay), some (.int i)] ∧
  n = 9 - es.length + (if L = [] then 0 else 1) ∧ hs.length + L.length ≤ es.length ∧ WSt d (keysX es) (keysX hs) L ∧ Ex [x] H0 H' ∧ WayH K P w H' x s m c h e d xm xc hs es ∧ H' lay = some (.lst lvs) ∧ ItemsAt H' L lvs
def WaLt (K : PySem.W.Frag) (P : Program) (w : World) (H0 : Hp) (x s m c h e : Addr) (d : ToolD) (xm xc : List XE) (n : Nat) (σ : L2.St) (H' : Hp) : Prop := ∃ k, k < n ∧ WaInv K P w H0 x s m c h e d xm xc k σ H'
def spWaysInit (K : PySem.W.Frag) (P : Program) (w : World) : Sp := fun vs H Q _ => ∃ x dx s d, vs = [.ref x, .ref s] ∧ H x = some (.ins (He.ga K "Ways") dx []) ∧ SingleAt K H s d ∧ d.ok ∧ ∀ H', Ex [x] H H' → WaysAt K P w H' x d → Q .non H'
theorem sc_Ways_init : FnScope ["self", "steps", "item", "pattern", "layer", "many"] ["self", "steps"] (defScope st_Ways_init) := ⟨rfl, rfl, rfl, by decide +kernel, rfl, by decide +kernel, by decide +kernel⟩
theorem x_Ways_init (T : Tx w K mg) : CX1 P w K mg base 7 "Ways" ["self", "steps"] (spWaysInit K P w) := by
  obtain ⟨fd, F⟩ := fun_Ways_init T.c
  have G1 : FX P w K mg base 6 "machine_elders" ["steps"] (spElders K P w) := x_elders T
  have G2 : MX P w K mg base 5 (He.ga K "Ways") "edited" ["self", "layer", "many"] (spEdited K P w) := x_edited T
  have G3 : MX P w K mg base 5 (He.ga K "Ways") "heard" ["self", "layer"] (spHeard K P w) := x_heard T
  have G4 : MX P w K mg base 4 (He.ga K "Single") "led" ["self", "item", "pattern"] (spSLed K) := x_SLed T
  obtain ⟨e8, h8, p8⟩ := T.t_EIGHT
  refine CX1.of F T.g_Ways T.mk_Ways sc_Ways_init (fun _ _ _ _ _ _ us hl => match us, hl with | [_, _], _ => rfl) (fun vs H Q E h => ?_) (fun cdv A outer s H vs Q E hr h => ?_)
  · obtain ⟨x, dx, s, d, rfl, _⟩ := h
    rfl
  · obtain ⟨x, dx, s, d, rfl, hx, hs, ok, kk⟩ := h
    refine ⟨_, pss_cons (ps_fld (pv 0) (pv 1) rfl) (pss_cons (ps_fld (pv 0) (pc G1 hr (pa1 (pv 1))) rfl) (pss_cons (ps_fld (pv 0) pe_dnewK rfl)
      (pss_cons (ps_retag (ps_for PassesOwn.never rfl (pi_keysX (pe_fld (pv 0) rfl)) (pg_name (i := 2) sc_Ways_init.nd rfl (Or.inl rfl))
        (pss_cons (ps_expr (pe_xsetd (room1 hr) (pe_fld (pv 0) rfl) (pv 2) (pe_tup (pa2 (pv 2) pe_non)) ⟨rfl, rfl, rfl, rfl⟩))
        (pss_one (ps_for PassesOwn.never rfl (pi_tup (pgr T.g_EIGHT)) (pg_name (i := 3) sc_Ways_init.nd rfl (Or.inl rfl))
          (pss_one (ps_expr (pe_xsetd (room1 hr) (pe_fld (pv 0) rfl) (pm G4 T.cl_Single hr (pv 1) (pa2 (pv 2) (pv 3))) (pe_tup (pa2 (pv 2) (pv 3))) ⟨rfl, rfl, rfl, rfl⟩))))))))
      (pss_cons (ps_frz (ps_fld (pv 0) pe_dnewK rfl))
      (pss_cons (ps_retag (ps_fld (pv 0) (pe_xdisp1 (room0 hr) (pe_fld (pv 1) rfl) pe_non) rfl))
      (pss_cons (ps_par (i := 4) (j := 5) rfl sc_Ways_init.nd rfl rfl (by decide) rfl rfl (pa2 (pe_lst (pa1 (pe_fld (pv 1) rfl))) pe_int) rfl)
      (pss_one (ps_frzN (ps_while PassesOwn.never (pt_cmpR (op_neD (room64 hr)) (pv 4) (pe_lst pa_nil) (nomark _))
        (pss_one (ps_par (i := 4) (j := 5) rfl sc_Ways_init.nd rfl rfl (by decide) rfl rfl (pa2 (pm G3 T.cl_Ways hr (pv 0) (pa1 (pm G2 T.cl_Ways hr (pv 0) (pa2 (pv 4) (pv 5))))) (pe_op op_add (pv 5) pe_int)) rfl))))))))))), ?_⟩
    have fl := T.fl
    obtain ⟨t, b, dxs, h1, h2, h3⟩ := hs.ex
    walk_at "rd*"
    refine ⟨by decide, ?_⟩
    have keepx : ∀ {G : Hp} {o : HO} {b : Addr} {l : HO}, H b = some l → l ≠ .ins (He.ga K "Ways") dx [] → Ex [x] H G → G b = some l := fun e ne E => E _ _ e (by
      rw [List.mem_singleton]
      intro z
      rw [z, hx] at e
      exact ne (Option.some.inj e).symm)
    have sEx : ∀ {G : Hp}, Ex [x] H G → SingleAt K G s d := fun E => ⟨t, b, dxs, keepx (o := .lst []) h1 (by simp [fSingle]) E, h2.ex' hx E, keepx (o := .lst []) h3 (by simp [kT]) E⟩
    have E1 : Ex [x] H (upd H x (.ins (He.ga K "Ways") dx (putF "steps" (V.ref s) []))) := Ex.put (by simp)
    have x1 : upd H x (.ins (He.ga K "Ways") dx (putF "steps" (V.ref s) [])) x = some (.ins (He.ga K "Ways") dx (putF "steps" (V.ref s) [])) := upd_same
    generalize upd H x (.ins (He.ga K "Ways") dx (putF "steps" (V.ref s) [])) = G1 at *
    refine ⟨s, d, rfl, sEx E1, ok, fun m H2 xm om s2 nm em km ndm hm => ?_⟩
    have E2 := E1.trans (Ex.of_same s2)
    have x2 := s2 _ _ x1
    walk_at "rd*"
    have fm8 : xm.length ≤ 8 := by
      rw [← keysX_len]
      exact few_items ok ndm fun k hk => ((hm k).mp hk).mem ok
    have mx : m ≠ x := fun z => by rw [z, x2] at em; cases em
    have E3 : Ex [x] H (upd H2 x (.ins (He.ga K "Ways") dx (putF "machine" (V.ref m) (putF "steps" (V.ref s) [])))) := E2.trans (Ex.put (by simp))
    have x3 : upd H2 x (.ins (He.ga K "Ways") dx (putF "machine" (V.ref m) (putF "steps" (V.ref s) []))) x = some (.ins (He.ga K "Ways") dx (putF "machine" (V.ref m) (putF "steps" (V.ref s) []))) := upd_same
    have em3 : upd H2 x (.ins (He.ga K "Ways") dx (putF "machine" (V.ref m) (putF "steps" (V.ref s) []))) m = some (.frz om (DX P w m xm)) := by rw [upd_ne mx]; exact em
    have km3 : KeysAt (upd H2 x (.ins (He.ga K "Ways") dx (putF "machine" (V.ref m) (putF "steps" (V.ref s) [])))) xm := fun y hy => by
      have q := km y hy
      rw [upd_ne (ne_of q x2 (fun z => nomatch z))]
      exact q
    generalize upd H2 x (.ins (He.ga K "Ways") dx (putF "machine" (V.ref m) (putF "steps" (V.ref s) []))) = G3 at *
    refine ⟨by show 1 < 1000; decide, fun c hc => ?_⟩
    have s4 := same_new (o := .dK []) hc
    have x4 := s4 _ _ x3
    have cx : c ≠ x := fun z => by rw [z, x3] at hc; cases hc
    walk_at "rd*"
    refine ⟨by show 2 < 1000; decide, c, by rw [upd_ne cx, upd_same], ?_⟩
    generalize hf3 : putF "coming" (V.ref c) (putF "machine" (V.ref m) (putF "steps" (V.ref s) [])) = f3 at *
    have hcn : H c = none := by
      cases hcn : H c with
      | none => rfl
      | some u =>
        have := E3 _ _ hcn (by simpa using cx)
        rw [hc] at this
        cases this
    have E5 : Ex [x] H (upd (upd (upd G3 c (.dK [])) x (.ins (He.ga K "Ways") dx f3)) c (DX P w c [])) := ((E3.trans (Ex.of_same s4)).trans (Ex.put (by simp))).fresh hcn
    have x5 : upd (upd (upd G3 c (.dK [])) x (.ins (He.ga K "Ways") dx f3)) c (DX P w c []) x = some (.ins (He.ga K "Ways") dx f3) := by rw [upd_ne cx.symm, upd_same]
    have c5 : upd (upd (upd G3 c (.dK [])) x (.ins (He.ga K "Ways") dx f3)) c (DX P w c []) c = some (DX P w c []) := upd_same
    have nx3 : ∀ {b : Addr} {l : HO}, G3 b = some l → b ≠ x → upd (upd (upd G3 c (.dK [])) x (.ins (He.ga K "Ways") dx f3)) c (DX P w c []) b = some l := fun e nb => by
      rw [upd_ne (ne_of_none e hc), upd_ne nb, upd_ne (ne_of_none e hc)]
      exact e
    have em5 := nx3 em3 mx
    have km5 : KeysAt (upd (upd (upd G3 c (.dK [])) x (.ins (He.ga K "Ways") dx f3)) c (DX P w c [])) xm := fun y hy => nx3 (km3 y hy) (ne_of (km3 y hy) x3 (fun z => nomatch z))
    generalize upd (upd (upd G3 c (.dK [])) x (.ins (He.ga K "Ways") dx f3)) c (DX P w c []) = G5 at *
    walk_at "rd*"
    have lf3 : f3.lookup ("machine" : Str) = some (.ref m) ∧ f3.lookup ("coming" : Str) = some (.ref c) ∧ f3.length = 3 := by rw [← hf3]; exact ⟨rfl, rfl, rfl⟩
    refine ⟨_, lf3.1, m, rfl, om, xm, em5, for_it (walk_keysX (P := P) (w := w) (d := m) (o := om) (xs := xm)) (CoOut P w d G5 x s c xm) ⟨[], none, none, rfl, ⟨Ex.of_same (Same.refl _), Imm.refl _, c5, fun y hy => (nomatch hy), fun y hy => (nomatch hy), ⟨List.nodup_nil, fun k hk => (nomatch hk)⟩⟩, fun y hy => by simp at hy⟩ (fun i σ H' _ q => ?_) ?_ ?_⟩
    · obtain ⟨xs, _, _, _, ⟨_, im, _⟩, _⟩ := q
      exact im _ _ rfl em5
    · rintro i y σ6 H6 H6' hi ⟨xs, v2, v3, rfl, co, tk⟩ ⟨rfl, hy⟩
      rw [List.getElem?_map] at hy
      obtain ⟨ye, hye, rfl⟩ := Option.map_eq_some_iff.mp hy
      have hym := List.mem_of_getElem? hye
      have hmr : MR d ye.1 := (hm ye.1).mp (List.mem_map.mpr ⟨ye, hym, rfl⟩)
      obtain ⟨cex, cim, ced, cka, cva, cst⟩ := id co
      have x6 := cim _ _ rfl x5
      have hk6 := cim _ _ rfl (km5 ye hym)
      walk_at "rd*"
      have inner : ∀ (D : Ends), D.nx = CoOut P w d G5 x s c xm (i + 1) → ∀ (xs' : List XE) (H8 : Hp), CoH P w d G5 H8 c xs' → (∀ q ∈ keysX xs, q ∈ keysX xs') → ye.1 ∈ keysX xs' →
          (∃ zs, SqT K H8 (He.ga K "EIGHT") zs) ∧ ForW (Itt K (He.ga K "EIGHT")) (gName 3) (tDrop (tXSetd P w (tFld K (tVar 0) "coming") (tMeth (He.ga K "Single") "led" (spSLed K) [] E0 (tVar 1) (tCons (tVar 2) (tCons (tVar 3) tNil))) (tTup (tCons (tVar 2) (tCons (tVar 3) tNil))))) D [some (.ref x), some (.ref s), some (.ref ye.2.1), v3, none, none] H8 := by
        intro D eD xs' H8 co8 sub8 k8
        refine ⟨⟨_, h8 _⟩, for_it walk_tup (CoIn P w d G5 x s c ye.2.1 xm i ye.1) ⟨xs', v3, rfl, co8, fun y hy => ⟨sub8 _ (tk y hy).1, fun p hp => sub8 _ ((tk y hy).2 p hp)⟩, k8, fun p hp => by simp at hp⟩ (fun j σ H' _ _ => h8 H') ?_ ?_⟩
        · rintro j z σ9 H9 H9' hj ⟨xs9, u3, rfl, co9, tk9, k9, tj9⟩ ⟨rfl, hz⟩
          obtain ⟨p, hp, pa, rfl, hpa⟩ := pair_at p8 hz
          have hp8 : pats8[j]? = some p := hp
          have hpm : p ∈ pats8 := List.mem_of_getElem? hp8
          obtain ⟨cex9, cim9, ced9, cka9, cva9, cst9⟩ := id co9
          have x9 := cim9 _ _ rfl x5
          have hk9 := cim9 _ _ rfl (km5 ye hym)
          have st9 := (sEx E5).imm cim9
          obtain ⟨t9, b9, dxs9, ss9, _, _⟩ := st9.ex
          walk_at "rd*"
          have kin := hmr.mem ok
          refine ⟨⟨xs9, rfl⟩, s, ye.2.1, pa, d, ye.1, p, rfl, st9, ok, hk9, kin, hpa _, pats8_len p hpm, fun b1 H10 s10 e10 => ⟨by decide, fun n2 hn2 => ⟨b1, rfl, kLed d ye.1 p, ?_⟩⟩⟩
          have s11 := s10.trans (same_new (o := .tup [.ref ye.2.1, .ref pa]) hn2)
          have co11 := co9.same s11
          have e11 := same_new (o := .tup [.ref ye.2.1, .ref pa]) hn2 _ _ e10
          have t11 : upd H10 n2 (.tup [.ref ye.2.1, .ref pa]) n2 = some (.tup [.ref ye.2.1, .ref pa]) := upd_same
          generalize upd H10 n2 (.tup [.ref ye.2.1, .ref pa]) = H11 at *
          obtain ⟨_, _, ced11, cka11, _, cst11⟩ := id co11
          have c11 := cst11.few ok
          have hcr : CR d (kLed d ye.1 p) := ⟨ye.1, hmr, .inr ⟨p, hpm, rfl⟩⟩
          have tj2 : ∀ E' : List Kq, (∀ x ∈ keysX xs9, x ∈ E') → kLed d ye.1 p ∈ E' → ∀ q ∈ pats8.take (j + 1), kLed d ye.1 q ∈ E' := fun E' sub h q hq2 => by
            rw [take_snoc hp8] at hq2
            rcases List.mem_append.mp hq2 with hq2 | hq2
            · exact sub _ (tj9 q hq2)
            · rw [List.mem_singleton.mp hq2]; exact h
          refine ⟨xs9, ced11, cka11, e11, len_lt (by omega), fun v hv => ⟨xs9, _, rfl, co11, tk9, k9, tj2 _ (fun _ h => h) (atX_mem hv)⟩, fun hh => ?_⟩
          have nin := hasX_no.mp hh
          have up : ∀ q ∈ keysX xs9, q ∈ keysX (putX xs9 (kLed d ye.1 p) b1 (.ref n2)) := fun q hq => keysX_mem.mpr (.inl hq)
          exact ⟨_, _, rfl, co11.put e11 t11 hcr nin, fun y hy => ⟨up _ (tk9 y hy).1, fun p hp => up _ ((tk9 y hy).2 p hp)⟩, up _ k9, tj2 _ up (keysX_mem.mpr (.inr rfl))⟩
        · rintro σ9 H9 ⟨xs9, u3, rfl, co9, tk9, k9, tj9⟩
          have wl : e8.length = pats8.length := (Paired.length p8).symm
          rw [wl, List.take_length] at tj9
          rw [eD]
          refine ⟨xs9, _, _, rfl, co9, fun y hy => ?_⟩
          rw [take_snoc hye] at hy
          rcases List.mem_append.mp hy with hy | hy
          · exact tk9 y hy
          · rw [List.mem_singleton.mp hy]
            exact ⟨k9, tj9⟩
      refine ⟨⟨xs, rfl⟩, by decide, fun n1 hn1 => ?_⟩
      have s7 := same_new (o := .tup [.ref ye.2.1, .non]) hn1
      have e7 : upd H6' n1 (.tup [.ref ye.2.1, .non]) n1 = some (.tup [.ref ye.2.1, .non]) := upd_same
      have co7 := co.same s7
      have hk7 := s7 _ _ hk6
      generalize upd H6' n1 (.tup [.ref ye.2.1, .non]) = H7 at *
      have hcr : CR d ye.1 := ⟨ye.1, hmr, .inl rfl⟩
      obtain ⟨_, _, ced7, cka7, _, cst7⟩ := id co7
      have c7 := cst7.few ok
      refine ⟨ye.1, xs, ced7, cka7, hk7, len_lt (by omega), fun v hv => inner _ rfl xs H7 co7 (fun _ h => h) (atX_mem hv), fun hh => ?_⟩
      have nin := hasX_no.mp hh
      exact inner _ rfl _ _ (co7.put hk7 e7 hcr nin) (fun q hq => keysX_mem.mpr (.inl hq)) (keysX_mem.mpr (.inr rfl))
    · rintro σ6 H6 ⟨xs, v2, v3, rfl, co, tk⟩
      rw [List.take_length] at tk
      obtain ⟨cex, cim, ced, cka, cva, cst⟩ := id co
      have hcr : ∀ k, k ∈ keysX xs ↔ CR d k := fun k => ⟨cst.all k, fun hk => by
        obtain ⟨i, hi, q⟩ := hk
        obtain ⟨y, hy, e1⟩ := List.mem_map.mp ((hm i).mpr hi)
        rcases q with e | ⟨p, hp, e⟩
        · rw [e, ← e1]; exact (tk y hy).1
        · rw [e, ← e1]; exact (tk y hy).2 p hp⟩
      have xc8 := cst.few ok
      have x6 := cim _ _ rfl x5
      have m6 := cim _ _ rfl em5
      have km6 := km5.imm cim
      have E6 : Ex [x] H H6 := fun b o e nb => cex _ _ (E5 _ _ e nb) (by simpa using ne_of_none e hcn)
      show tSeq _ _ _ _ _
      walk_at "rd*"
      refine ⟨c, xs, ced, fun oc h hh => ?_⟩
      have ncx : c ≠ x := cx
      have im7 : Imm H6 (upd H6 c (.frz oc (DX P w c xs))) := imm_put ced rfl
      have c7 : upd H6 c (.frz oc (DX P w c xs)) c = some (.frz oc (DX P w c xs)) := upd_same
      have E7 : Ex [x] H (upd H6 c (.frz oc (DX P w c xs))) := E6.fresh hcn
      generalize upd H6 c (.frz oc (DX P w c xs)) = H7 at *
      have s8 := same_new (o := .dK []) hh
      have x8 := (im7.trans (Imm.of_same s8)) _ _ rfl x6
      walk_at "rd*"
      have x7 := im7 _ _ rfl x6
      have nhx : h ≠ x := fun z => by rw [z, x7] at hh; cases hh
      have hhn : H h = none := by
        cases q : H h with
        | none => rfl
        | some u =>
          have := E7 _ _ q (by simpa using nhx)
          rw [hh] at this
          cases this
      refine ⟨by decide, h, by rw [upd_ne nhx, upd_same], fun e he => ?_⟩
      have E9 : Ex [x] H (upd (upd (upd H7 h (.dK [])) x (.ins (He.ga K "Ways") dx (putF "hearings" (V.ref h) f3))) h (DX P w h [])) := (((E7.trans (Ex.of_same s8)).trans (Ex.put (by simp)))).fresh hhn
      have i9 : ∀ {b : Addr} {o : HO}, imm o = true → H7 b = some o → b ≠ x → upd (upd (upd H7 h (.dK [])) x (.ins (He.ga K "Ways") dx (putF "hearings" (V.ref h) f3))) h (DX P w h []) b = some o := fun io q nb => by
        rw [upd_ne (ne_of_none q hh), upd_ne nb, upd_ne (ne_of_none q hh)]
        exact q
      have ks9 : ∀ {zs : List XE}, KeysAt H7 zs → KeysAt (upd (upd (upd H7 h (.dK [])) x (.ins (He.ga K "Ways") dx (putF "hearings" (V.ref h) f3))) h (DX P w h [])) zs := fun q y hy => i9 rfl (q y hy) (ne_of (q y hy) x7 (fun z => nomatch z))
      have km9 := ks9 (km6.imm im7)
      have kc9 := ks9 (cka.imm im7)
      have mx6 : m ≠ x := mx
      have m9 := i9 rfl (im7 _ _ rfl m6) mx6
      have c9 := i9 rfl c7 cx
      have cv9 : ∀ y ∈ xs, ∃ b v1 v2, y.2.2 = .ref b ∧ upd (upd (upd H7 h (.dK [])) x (.ins (He.ga K "Ways") dx (putF "hearings" (V.ref h) f3))) h (DX P w h []) b = some (.tup [v1, v2]) := fun y hy => by
        obtain ⟨b2, v1, v2, q1, q2⟩ := cva y hy
        have q3 := im7 _ _ rfl q2
        exact ⟨b2, v1, v2, q1, i9 rfl q3 (ne_of q3 x7 (fun z => nomatch z))⟩
      have x9 : upd (upd (upd H7 h (.dK [])) x (.ins (He.ga K "Ways") dx (putF "hearings" (V.ref h) f3))) h (DX P w h []) x = some (.ins (He.ga K "Ways") dx (putF "hearings" (V.ref h) f3)) := by rw [upd_ne nhx.symm, upd_same]
      have h9 : upd (upd (upd H7 h (.dK [])) x (.ins (He.ga K "Ways") dx (putF "hearings" (V.ref h) f3))) h (DX P w h []) h = some (DX P w h []) := upd_same
      generalize upd (upd (upd H7 h (.dK [])) x (.ins (He.ga K "Ways") dx (putF "hearings" (V.ref h) f3))) h (DX P w h []) = G9 at *
      obtain ⟨t9, b9, dx9, ss9, _, sb9⟩ := sEx E9
      have s10 := same_new (o := DX P w e []) he
      have ss10 := s10 _ _ ss9
      have sb10 := s10 _ _ sb9
      walk_at "rd*"
      refine ⟨kBegin d, rfl, ?_⟩
      rw [upd_upd]
      have s11 := same_new (o := DX P w e [(kBegin d, b9, .non)]) he
      have x11 := s11 _ _ x9
      have sb11 := s11 _ _ sb9
      have ex11 : Ex [x] H (upd G9 e (DX P w e [(kBegin d, b9, .non)])) := E9.trans (Ex.of_same s11)
      have e11 : upd G9 e (DX P w e [(kBegin d, b9, .non)]) e = some (DX P w e [(kBegin d, b9, .non)]) := upd_same
      have nex : e ≠ x := fun z => by rw [z, x9] at he; cases he
      have neh : h ≠ e := fun z => by rw [← z, h9] at he; cases he
      have h11 := s11 _ _ h9
      have m11 := s11 _ _ m9
      have c11 := s11 _ _ c9
      have km11 := km9.imm (Imm.of_same s11)
      have kc11 := kc9.imm (Imm.of_same s11)
      have cv11 : ∀ y ∈ xs, ∃ b v1 v2, y.2.2 = .ref b ∧ upd G9 e (DX P w e [(kBegin d, b9, .non)]) b = some (.tup [v1, v2]) := fun y hy => let ⟨b2, v1, v2, q1, q2⟩ := cv9 y hy; ⟨b2, v1, v2, q1, s11 _ _ q2⟩
      generalize upd G9 e (DX P w e [(kBegin d, b9, .non)]) = G11 at *
      walk_at "rd*"
      refine ⟨by rw [← hf3]; show 4 < 1000; decide, ?_⟩
      have ef : putF "elders" (V.ref e) (putF "hearings" (V.ref h) f3) = fWays s m c h e := by rw [← hf3]; rfl
      rw [ef]
      have E12 : Ex [x] H (upd G11 x (.ins (He.ga K "Ways") dx (fWays s m c h e))) := ex11.trans (Ex.put (by simp))
      have x12 : upd G11 x (.ins (He.ga K "Ways") dx (fWays s m c h e)) x = some (.ins (He.ga K "Ways") dx (fWays s m c h e)) := upd_same
      have n12 : ∀ {b : Addr} {o : HO}, G11 b = some o → b ≠ x → upd G11 x (.ins (He.ga K "Ways") dx (fWays s m c h e)) b = some o := fun q nb => by rw [upd_ne nb]; exact q
      have nk : ∀ {zs : List XE}, KeysAt G11 zs → KeysAt (upd G11 x (.ins (He.ga K "Ways") dx (fWays s m c h e))) zs := fun q y hy => n12 (q y hy) (ne_of (q y hy) x11 (fun z => nomatch z))
      have W12 : WayH K P w (upd G11 x (.ins (He.ga K "Ways") dx (fWays s m c h e))) x s m c h e d xm xs [] [(kBegin d, b9, .non)] :=
        ⟨⟨dx, x12⟩, sEx E12, ⟨om, n12 m11 mx⟩, nk km11, ⟨oc, n12 c11 cx⟩, nk kc11, fun y hy => (let ⟨b2, v1, v2, q1, q2⟩ := cv11 y hy; ⟨b2, v1, v2, q1, n12 q2 (ne_of q2 x11 (fun z => nomatch z))⟩), n12 h11 nhx, fun y hy => (nomatch hy), fun y hy => (nomatch hy), n12 e11 nex, fun y hy => by rw [List.mem_singleton.mp hy]; exact n12 sb11 (ne_of sb11 x11 (fun z => nomatch z)), neh⟩
      have sb12 := n12 sb11 (ne_of sb11 x11 (fun z => nomatch z))
      generalize upd G11 x (.ins (He.ga K "Ways") dx (fWays s m c h e)) = G12 at *
      obtain ⟨t12, b12, dx12, ss12, _, sb12'⟩ := W12.st.ex
      walk_at "rd*"
      have hen : H e = none := by
        cases q : H e with
        | none => rfl
        | some u =>
          have := E9 _ _ q (by simpa using nex)
          rw [he] at this
          cases this
      refine ⟨by decide, fun l0 hl0 => ?_⟩
      have s13 := same_new (o := .lst [.ref b12]) hl0
      refine ⟨WaInv K P w H x s m c h e d xm xs, ⟨_, [kBegin d], l0, 0, [], [(kBegin d, b9, .non)], [.ref b12], v2, v3, rfl, rfl, by show 0 + 1 ≤ 1; decide, begin_st, E12.trans (Ex.of_same s13), W12.same s13, upd_same, .cons ⟨b12, rfl, s13 _ _ sb12'⟩ .nil⟩, ?_⟩
      rintro n σ H4 ⟨L, lay, i, hs, es, lvs, u2, u3, rfl, rfl, hb, ws, ex4, W4, hlay, hL⟩
      walk_at "rd"
      refine ⟨by decide, fun q hq => ?_⟩
      have s5 := same_new (o := .lst []) hq
      refine ne_lists (l := L) (m := []) encK (SqL.of (s5 _ _ hlay)) (dp_items (ItemsAt.imm hL (Imm.of_same s5))) (items_ok ok fun k hk => (ws.all k (ws.lsub k hk)).mem ok) (SqL.of upd_same) .nil (fun _ h => nomatch h) ?_
      refine ⟨_, rfl, ?_⟩
      have W5 := W4.same s5
      have hlay5 := s5 _ _ hlay
      have ex5 := ex4.trans (Ex.of_same s5)
      have hL5 := ItemsAt.imm hL (Imm.of_same s5)
      have es8 := ws.few ok
      rw [keysX_len] at es8
      generalize upd H4 q (.lst []) = H5 at *
      by_cases hLn : L = []
      · refine iteBF (by rw [hLn]; rfl) ?_
        subst hLn
        obtain ⟨dxz, z1⟩ := W5.ins
        obtain ⟨o1, z2⟩ := W5.mf
        obtain ⟨o2, z3⟩ := W5.cf
        refine ⟨h, hs, W5.hd, fun oh => ?_⟩
        have iz : Imm H5 (upd H5 h (.frz oh (DX P w h hs))) := imm_put W5.hd rfl
        refine kk _ (ex5.fresh hhn) ⟨dxz, s, m, c, h, e, xm, xs, hs, o1, o2, oh, iz _ _ rfl z1, W5.st.imm iz, ⟨iz _ _ rfl z2, W5.mkk.imm iz, fm8, hm⟩, ⟨iz _ _ rfl z3, W5.ck.imm iz, xc8, fun y hy => (let ⟨b2, v1, v2, q1, q2⟩ := W5.cv y hy; ⟨b2, v1, v2, q1, iz _ _ rfl q2⟩), hcr⟩, upd_same, W5.hk.imm iz, by omega, W5.hv, ws.full⟩
      · refine iteBT (by rw [decide_eq_false hLn]; rfl) ⟨WaLt K P w H x s m c h e d xm xs (9 - es.length + (if L = [] then 0 else 1)), fun _ _ h => h, ?_⟩
        obtain ⟨dxz, z1⟩ := W5.ins
        walk_at "rd*"
        refine ⟨x, s, m, c, h, e, lay, i, d, xm, xs, hs, es, L, lvs, rfl, W5, ok, hlay5, hL5, ws, by omega, by omega, fun f H6 F fvs hs' es' exf imf ef iF W6 est hk ge f16 fl1 bl => ?_⟩
        refine ⟨x, s, m, c, h, e, f, d, xm, xs, hs', es', keysX hs, F, fvs, rfl, W6, ok, ef, iF, est.hear, f16, by omega, hcr, fun l H7 L' lvs' es2 ex7 im7 el il W7 js tj le => ?_⟩
        have exz : ∀ {Ga Gb : Hp}, Ex [x] H Ga → Ex [h, e] Ga Gb → Ex [x] H Gb := fun Ea Eb b o q nb => Eb _ _ (Ea _ _ q nb) (by
          have n1 := ne_of_none q hhn
          have n2 := ne_of_none q hen
          simp [n1, n2])
        have e28 := js.few ok
        rw [keysX_len] at e28
        refine ⟨9 - es2.length + (if L' = [] then 0 else 1), ?_, L', l, i + 1, hs', es2, lvs', u2, u3, rfl, rfl, by omega, js.next hk tj, exz (exz ex5 exf) ex7, W7, el, il⟩
        by_cases hL' : L' = []
        · rw [if_pos hL']
          omega
        · rw [if_neg hL']
          have : 0 < L'.length := List.length_pos_iff.mpr hL'
          omega
end
end Lm
set_option Elab.async false
set_option linter.all false
set_option maxRecDepth 100000
set_option maxHeartbeats 4000000
namespace Lm
open PySem PySem.Spec PyProof.Rows L2
local macro_rules | `(tactic| walk_at "rd") => `(tactic| simp (config := {failIfUnchanged := false}) only [tVar, tC, tIsN, tNotN, tB, tAnd, tOr, tNot, tAndV, tOrV, tNotV, tIf, tNext, tSeq, tBreak, tCont, tDrop, tRet, tRetN, tIfS, gName, gNil, gCons, gTup, tAsg, tPar,
  iList, iTup, iRng1, iRng2, r_tFor, tFmt, tJs, or_false, false_or, exists_false, r_tLc, r_tDc, bf, iSeq, r_wipe0, r_wipe1, tOp, tUn, rI, rI0, rU, rEq, rNe, tTest, tChain, tFld, sFld, tNil, tCons, tTup, tLst, tCall, tMeth, tMake, tCB, tNoPart, tPart, tSl, rIxL, rIxT, rIxQ, rSlQ, r_tLc2, tXGet, tXIn, tXNotIn, sXPut, tXSetd, tXDisp1, iKeysX, iItemsX, tFrz, tFrzE, tRetag, ClX.tCMeth, iEnum, gPr, gUnl, tDNewK, tMakeL, rIxD, cx_w, cx_P, rSlL, rIn, tBM0, tBM, rAppend, rExtend, rPop, rPopAt, rAny, rAll, tYes, iStr, rNewStrs, tM0, tM1, StX.tStar,
  L2.start, List.map_cons, List.map_nil, List.length_cons, List.length_nil, Nat.zero_add, Nat.reduceAdd, Nat.reduceSub, List.replicate_succ, List.replicate_zero, List.cons_append, List.nil_append, List.append_nil, List.set_cons_zero, List.set_cons_succ,
  List.getElem?_cons_zero, List.getElem?_cons_succ, Option.some.injEq, exists_eq_left', exists_eq_left, exists_eq', exists_eq, exists_and_left, exists_and_right, and_assoc, List.cons.injEq, V.str.injEq, V.ref.injEq, V.bl.injEq, V.int.injEq, V.ty.injEq, and_true, true_and, reduceCtorEq, false_and, and_false,
  Bool.not_true, Bool.not_false, Bool.false_eq_true, reduceIte, Bool.not_eq_true', decide_eq_true_eq, upd_same, cx_K, HO.ins.injEq, HO.tup.injEq, HO.lst.injEq, HO.dK.injEq, lk_Run_old, lk_Run_then, lk_Run_names, lm_Run_str, lk_Lead_tests, lk_Lead_old, lk_Lead_then, lk_Lead_names, lm_Lead_str, lk_Join_here, lk_Join_came, lk_Join_then, lk_Join_names, lm_Join_str, lk_Tool_marks, lk_Tool_told, lk_Tool_parts, lk_Tool_clears, lk_Tool_rows, lk_Tool_blank, lm_Tool_need_mark, lm_Tool_is_told, lm_Tool_ran, lm_Tool_led, lm_Tool_joined, lm_Tool_keeps, lm_Tool_need_row, lm_Tool_but, lm_Tool_without, lm_Tool_heeding, lm_Tool_len, lm_Tool_eq, lm_Tool_str, lk_Single_tool, lk_Single_begin, lm_Single_machine_steps, lm_Single_led, lm_Single_joined, lk_Ways_steps, lk_Ways_machine, lk_Ways_coming, lk_Ways_hearings, lk_Ways_elders, lm_Ways_edited, lm_Ways_heard, lk_Meeting_hearings, lk_Meeting_item, lk_Meeting_deeds, lk_Meeting_waiting, lk_Told_steps, lk_Told_machine, lk_Told_coming, lk_Told_hearings, lm_Told_is_closed])
local macro_rules | `(tactic| walk_at "rd*") => `(tactic| simp (config := {failIfUnchanged := false}) only [tVar, tC, tIsN, tNotN, tB, tAnd, tOr, tNot, tAndV, tOrV, tNotV, tIf, tNext, tSeq, tBreak, tCont, tDrop, tRet, tRetN, tIfS, gName, gNil, gCons, gTup, tAsg, tPar,
  iList, iTup, iRng1, iRng2, r_tFor, tFmt, tJs, or_false, false_or, exists_false, r_tLc, r_tDc, bf, iSeq, r_wipe0, r_wipe1, tOp, tUn, rI, rI0, rU, rEq, rNe, tTest, tChain, tFld, sFld, tNil, tCons, tTup, tLst, tCall, tMeth, tMake, tCB, tNoPart, tPart, tSl, rIxL, rIxT, rIxQ, rSlQ, r_tLc2, tXGet, tXIn, tXNotIn, sXPut, tXSetd, tXDisp1, iKeysX, iItemsX, tFrz, tFrzE, tRetag, ClX.tCMeth, iEnum, gPr, gUnl, tDNewK, tMakeL, rIxD, cx_w, cx_P, rSlL, rIn, tBM0, tBM, rAppend, rExtend, rPop, rPopAt, rAny, rAll, tYes, iStr, rNewStrs, tM0, tM1, StX.tStar,
  L2.start, List.map_cons, List.map_nil, List.length_cons, List.length_nil, Nat.zero_add, Nat.reduceAdd, Nat.reduceSub, List.replicate_succ, List.replicate_zero, List.cons_append, List.nil_append, List.append_nil, List.set_cons_zero, List.set_cons_succ,
  List.getElem?_cons_zero, List.getElem?_cons_succ, Option.some.injEq, exists_eq_left', exists_eq_left, exists_eq', exists_eq, exists_and_left, exists_and_right, and_assoc, List.cons.injEq, V.str.injEq, V.ref.injEq, V.bl.injEq, V.int.injEq, V.ty.injEq, and_true, true_and, reduceCtorEq, false_and, and_false,
  Bool.not_true, Bool.not_false, Bool.false_eq_true, reduceIte, Bool.not_eq_true', decide_eq_true_eq, upd_same, cx_K, HO.ins.injEq, HO.tup.injEq, HO.lst.injEq, HO.dK.injEq, lk_Run_old, lk_Run_then, lk_Run_names, lm_Run_str, lk_Lead_tests, lk_Lead_old, lk_Lead_then, lk_Lead_names, lm_Lead_str, lk_Join_here, lk_Join_came, lk_Join_then, lk_Join_names, lm_Join_str, lk_Tool_marks, lk_Tool_told, lk_Tool_parts, lk_Tool_clears, lk_Tool_rows, lk_Tool_blank, lm_Tool_need_mark, lm_Tool_is_told, lm_Tool_ran, lm_Tool_led, lm_Tool_joined, lm_Tool_keeps, lm_Tool_need_row, lm_Tool_but, lm_Tool_without, lm_Tool_heeding, lm_Tool_len, lm_Tool_eq, lm_Tool_str, lk_Single_tool, lk_Single_begin, lm_Single_machine_steps, lm_Single_led, lm_Single_joined, lk_Ways_steps, lk_Ways_machine, lk_Ways_coming, lk_Ways_hearings, lk_Ways_elders, lm_Ways_edited, lm_Ways_heard, lk_Meeting_hearings, lk_Meeting_item, lk_Meeting_deeds, lk_Meeting_waiting, lk_Told_steps, lk_Told_machine, lk_Told_coming, lk_Told_hearings, lm_Told_is_closed, *])
section
variable {P : Program} {w : World} {K : PySem.W.Frag} {mg : Str → Option Value} {base : Heap}
/-! ### where faults are met -/
/-- a thing that tells what can come and what is heard: Ways, Told -/
structure HeadAt (K : PySem.W.Frag) (P : Program) (w : World) (H : Hp) (x : Addr) (d : ToolD) (c h : Addr) (xc hs : List XE) : Prop where
  ins : ∃ C dx fs, H x = some (.ins C dx fs) ∧ Cls K C ∧ NoAttr K C "coming" ∧ NoAttr K C "hearings" ∧ fs.lookup ("coming" : Str) = some (.ref c) ∧ fs.lookup ("hearings" : Str) = some (.ref h)
  cf : ∃ o, H c = some (.frz o (DX P w c xc))
  ck : KeysAt H xc
  c8 : xc.length ≤ 100
  cv : ∀ y ∈ xc, ∃ b v1 v2, y.2.2 = .ref b ∧ H b = some (.tup [v1, v2])
  cr : ∀ k, k ∈ keysX xc ↔ CR d k
  hf : ∃ o, H h = some (.frz o (DX P w h hs))
  hk : KeysAt H hs
  h8 : hs.length ≤ 100
  hv : ∀ y ∈ hs, ∃ i, y.2.2 = .int i
  hr : ∀ k, k ∈ keysX hs ↔ HR d k
theorem HeadAt.imm {H H' : Hp} {x : Addr} {d : ToolD} {c h : Addr} {xc hs : List XE} (a : HeadAt K P w H x d c h xc hs) (i : Imm H H') : HeadAt K P w H' x d c h xc hs := by
  obtain ⟨C, dx, fs, q1, q2⟩ := a.ins
  obtain ⟨o1, q3⟩ := a.cf
  obtain ⟨o2, q4⟩ := a.hf
  exact ⟨⟨C, dx, fs, i _ _ rfl q1, q2⟩, ⟨o1, i _ _ rfl q3⟩, a.ck.imm i, a.c8, fun y hy => (let ⟨b, v1, v2, z1, z2⟩ := a.cv y hy; ⟨b, v1, v2, z1, i _ _ rfl z2⟩), a.cr, ⟨o2, i _ _ rfl q4⟩, a.hk.imm i, a.h8, a.hv, a.hr⟩
theorem HeadAt.same {H H' : Hp} {x : Addr} {d : ToolD} {c h : Addr} {xc hs : List XE} (a : HeadAt K P w H x d c h xc hs) (i : Same H H') : HeadAt K P w H' x d c h xc hs := a.imm (Imm.of_same i)
theorem WaysAt.head {H : Hp} {x : Addr} {d : ToolD} (T : Tx w K mg) (W : WaysAt K P w H x d) : ∃ c h xc hs, HeadAt K P w H x d c h xc hs := by
  obtain ⟨dx, s, m, c, h, e, xm, xc, hs, om, oc, oh, a1, a2, ⟨b1, b2, b3, b4⟩, ⟨c1, c2, c3, c4, c5⟩, d1, d2, d3, d4, d5⟩ := W.ex
  exact ⟨c, h, xc, hs, ⟨_, dx, _, a1, T.cl_Ways, T.na_Ways_coming, T.na_Ways_hearings, rfl, rfl⟩, ⟨oc, c1⟩, c2, by omega, c4, c5, ⟨oh, d1⟩, d2, d3, d4, d5⟩
def spMeetInit (K : PySem.W.Frag) : Sp := fun vs H Q _ => ∃ x dx i a b c, vs = [.ref x, .int i, .ref a, .ref b, .ref c] ∧ H x = some (.ins (He.ga K "Meeting") dx []) ∧ ∀ H', Ex [x] H H' → H' x = some (.ins (He.ga K "Meeting") dx (fMeeting i a b c)) → Q .non H'
theorem sc_Meet_init : FnScope ["self", "hearings", "item", "deeds", "waiting"] ["self", "hearings", "item", "deeds", "waiting"] (defScope st_Meeting_init) := ⟨rfl, rfl, rfl, by decide +kernel, rfl, by decide +kernel, by decide +kernel⟩
theorem x_Meet_init (T : Tx w K mg) : CX1 P w K mg base 1 "Meeting" ["self", "hearings", "item", "deeds", "waiting"] (spMeetInit K) := by
  obtain ⟨fd, F⟩ := fun_Meeting_init T.c
  refine CX1.of F T.g_Meeting T.mk_Meeting sc_Meet_init (fun _ _ _ _ _ _ us hl => match us, hl with | [_, _, _, _, _], _ => rfl) (fun vs H Q E h => ?_) (fun cdv A outer s H vs Q E hr h => ?_)
  · obtain ⟨x, dx, i, a, b, c, rfl, _⟩ := h
    rfl
  · obtain ⟨x, dx, i, a, b, c, rfl, hx, k⟩ := h
    refine ⟨_, pss_cons (ps_fld (pv 0) (pv 1) rfl) (pss_cons (ps_fld (pv 0) (pv 2) rfl) (pss_cons (ps_fld (pv 0) (pv 3) rfl) (pss_one (ps_fld (pv 0) (pv 4) rfl)))), ?_⟩
    have fl := T.fl
    walk_at "rd*"
    rw [upd_upd, upd_upd, upd_upd]
    exact ⟨by decide, by show 1 < 1000; decide, by show 2 < 1000; decide, by show 3 < 1000; decide, k _ (Ex.put (by simp)) upd_same⟩
/-- a told item is told no more -/
def Fal (d : ToolD) (k : Kq) : Prop := d.isTold k.1 = true ∧ ((∃ p ∈ pats8, d.keeps p = true ∧ d.isTold (d.led k.1 p) = false) ∨ ∃ c, CR d c ∧ d.isTold (d.joined k.1 c.1) = false)
def spFalls (K : PySem.W.Frag) (P : Program) (w : World) : Sp := fun vs H Q _ => ∃ (t x i : Addr) (d : ToolD) (k : Kq) (c h : Addr) (xc hs : List XE), vs = [.ref t, .ref x, .ref i] ∧ ToolAt K H t d ∧ d.ok ∧ HeadAt K P w H x d c h xc hs ∧ H i = some (kT k) ∧ inK d k ∧
  (¬ Fal d k → ∀ H', Same H H' → Q .non H') ∧ (Fal d k → ∀ p H' z r, Same H H' → H' p = some (.tup (.str z :: r)) → Q (.ref p) H')
theorem sc_falls : FnScope ["tool", "ways", "item", "pattern", "came", "sent"] ["tool", "ways", "item"] (defScope st_falls) := ⟨rfl, rfl, rfl, by decide +kernel, rfl, by decide +kernel, by decide +kernel⟩
def Fa1 (d : ToolD) (H0 : Hp) (t x i : Addr) (k : Kq) (j : Nat) (σ : L2.St) (H' : Hp) : Prop := ∃ v, σ = [some (.ref t), some (.ref x), some (.ref i), v, none, none] ∧ Same H0 H' ∧ ∀ p ∈ pats8.take j, ¬ (d.keeps p = true ∧ d.isTold (d.led k.1 p) = false)
def Fa2 (d : ToolD) (H0 : Hp) (t x i : Addr) (k : Kq) (xc : List XE) (j : Nat) (σ : L2.St) (H' : Hp) : Prop := ∃ v3 v4 v5, σ = [some (.ref t), some (.ref x), some (.ref i), v3, v4, v5] ∧ Same H0 H' ∧ (∀ y ∈ xc.take j, d.isTold (d.joined k.1 y.1.1) = true)
theorem x_falls (T : Tx w K mg) : FX P w K mg base 4 "falls" ["tool", "ways", "item"] (spFalls K P w) := by
  obtain ⟨fd, F⟩ := fun_falls T.c
  have G1 : MX P w K mg base 1 (He.ga K "Tool") "is_told" ["self", "mark"] (spIsTold K) := x_told T
  have G2 : MX P w K mg base 1 (He.ga K "Tool") "keeps" ["self", "same"] (spKeeps K) := x_keeps T
  have G3 : MX P w K mg base 3 (He.ga K "Tool") "led" ["self", "mark", "same"] (spLed K) := x_led T
  have G4 : MX P w K mg base 3 (He.ga K "Tool") "joined" ["self", "here", "came"] (spJoined K) := x_joined T
  obtain ⟨e8, h8, p8⟩ := T.t_EIGHT
  refine FX.of F T.g_falls sc_falls (fun _ _ _ _ _ _ us hl => match us, hl with | [_, _, _], _ => rfl) (fun vs H Q E h => ?_) (fun cdv A outer s H vs Q E hr h => ?_)
  · obtain ⟨t, x, i, d, k, c, h, xc, hs, rfl, _⟩ := h
    rfl
  · obtain ⟨t, x, i, d, k, c, h, xc, hs, rfl, ht, ok, hd, hi, hin, k0, k1⟩ := h
    obtain ⟨dxt, ma, ta, pa, ra, vst, g1, _⟩ := ht.ex
    refine ⟨_, pss_cons (ps_if (pt_not (pt_val (pm G1 T.cl_Tool hr (pv 0) (pa1 (pe_ix ix_tup (pv 2) pe_int (fun _ _ => rfl)))))) (pss_one (ps_ret pe_non)) pss_nil)
      (pss_cons (ps_for PassesOwn.never rfl (pi_tup (pgr T.g_EIGHT)) (pg_name (i := 3) sc_falls.nd rfl (Or.inl rfl))
        (pss_one (ps_if (PW.pt (pw_and (pt_val (pm G2 T.cl_Tool hr (pv 0) (pa1 (pv 3)))) (pw_and1 (pt_not (pt_val (pm G1 T.cl_Tool hr (pv 0) (pa1 (pm G3 T.cl_Tool hr (pv 0) (pa2 (pe_ix ix_tup (pv 2) pe_int (fun _ _ => rfl)) (pv 3)))))))))) (pss_one (ps_ret (pe_tup (pa2 pe_str (pv 3))))) pss_nil)))
      (pss_cons (ps_for PassesOwn.never rfl (pi_itemsX (pe_fld (pv 1) rfl)) (pg_tup (n := 2) rfl (pgs_cons (pg_name (i := 4) sc_falls.nd rfl (Or.inl rfl)) (pgs_cons (pg_tup (n := 2) rfl (pgs_cons (pg_name (i := 5) sc_falls.nd rfl (Or.inl rfl)) (pgs_cons (pg_name (i := 3) sc_falls.nd rfl (Or.inl rfl)) pgs_nil))) pgs_nil)))
        (pss_one (ps_if (pt_not (pt_val (pm G1 T.cl_Tool hr (pv 0) (pa1 (pm G4 T.cl_Tool hr (pv 0) (pa2 (pe_ix ix_tup (pv 2) pe_int (fun _ _ => rfl)) (pe_ix ix_tup (pv 4) pe_int (fun _ _ => rfl)))))))) (pss_one (ps_ret (pe_tup (pa_cons pe_str (pa2 (pv 3) (pv 5)))))) pss_nil)))
      (pss_one (ps_ret pe_non)))), ?_⟩
    have fl := T.fl
    walk_at "rd*"
    have hi2 : H i = some (.tup [.str k.1, .bl k.2]) := hi
    refine ⟨_, SqT.of hi2, .str k.1, atI_nat (j := 0) rfl, t, k.1, d, rfl, ht, fun H1 s1 => ⟨_, rfl, ?_⟩⟩
    cases et : d.isTold k.1 with
    | false => exact iteP rfl (k0 (fun f => by rw [f.1] at et; cases et) H1 s1)
    | true =>
      refine iteN (by decide) ⟨⟨_, h8 _⟩, for_it walk_tup (Fa1 d H t x i k) ⟨none, rfl, s1, fun p hp => by simp at hp⟩ (fun j σ H' _ _ => h8 H') ?_ ?_⟩
      · rintro j y σ2 H2 H2' hj ⟨v, rfl, s2, tk⟩ ⟨rfl, hy⟩
        obtain ⟨p, hp, pa, rfl, hpa⟩ := pair_at p8 hy
        have hp8 : pats8[j]? = some p := hp
        have hpm : p ∈ pats8 := List.mem_of_getElem? hp8
        have g2 := s2 _ _ g1
        have hl3 := pats8_len p hpm
        walk_at "rd*"
        refine ⟨t, pa, d, p, rfl, ht.same s2, ok, hpa _, hl3, fun H3 s3 => ⟨_, rfl, ?_⟩⟩
        have s23 := s2.trans s3
        have nx : ∀ H', Same H H' → ¬ (d.keeps p = true ∧ d.isTold (d.led k.1 p) = false) → Fa1 d H t x i k (j + 1) [some (.ref t), some (.ref x), some (.ref i), some (.ref pa), none, none] H' := fun H' s' nf => ⟨_, rfl, s', fun q hq => by
          rw [take_snoc hp8] at hq
          rcases List.mem_append.mp hq with hq | hq
          · exact tk q hq
          · rw [List.mem_singleton.mp hq]; exact nf⟩
        cases ek : d.keeps p with
        | false => exact iteBF rfl (nx _ s23 (fun z => by rw [z.1] at ek; cases ek))
        | true =>
          refine iteBT rfl ?_
          have g3 := s23 _ _ g1
          walk_at "rd*"
          refine ⟨_, SqT.of (s23 _ _ hi2), .str k.1, atI_nat (j := 0) rfl, t, k.1, pa, d, p, rfl, ht.same s23, ok, hin, hpa _, hl3, fun H4 s4 => ?_⟩
          have s24 := s23.trans s4
          have g4 := s24 _ _ g1
          walk_at "rd*"
          refine ⟨t, d.led k.1 p, d, rfl, ht.same s24, fun H5 s5 => ⟨_, rfl, ?_⟩⟩
          have s25 := s24.trans s5
          cases el : d.isTold (d.led k.1 p) with
          | true => exact iteN (by decide) (nx _ s25 (fun z => by rw [z.2] at el; cases el))
          | false => exact iteP rfl ⟨by decide, fun p2 hp2 => k1 ⟨et, .inl ⟨p, hpm, ek, el⟩⟩ p2 _ _ _ (s25.trans (same_new hp2)) upd_same⟩
      · rintro σ2 H2 ⟨v, rfl, s2, tk⟩
        have wl : e8.length = pats8.length := (Paired.length p8).symm
        rw [wl, List.take_length] at tk
        have hd2 := hd.same s2
        obtain ⟨C, dxc, fsc, i1, i2, i3, i4, i5, i6⟩ := hd2.ins
        obtain ⟨oc, hc2⟩ := hd2.cf
        show tSeq _ _ _ _ _
        walk_at "rd*"
        refine ⟨oc, xc, rfl, for_it (walk_itemsX (P := P) (w := w) (d := c) (o := oc) (xs := xc)) (Fa2 d H t x i k xc) ⟨v, none, none, rfl, s2, fun y hy => by simp at hy⟩ (fun j σ H' _ q => ?_) ?_ ?_⟩
        · obtain ⟨_, _, _, _, sq, _⟩ := q
          obtain ⟨o2, q2⟩ := hd.cf
          have q3 := s2 _ _ q2
          rw [hc2] at q3
          rw [sq _ _ q2, ← q3]
        · rintro j y σ3 H3 H3' hj ⟨v3, v4, v5, rfl, s3, tk3⟩ ⟨T2, ye, rfl, hT2, rfl, hye⟩
          have hym := List.mem_of_getElem? hye
          have hd3 := hd.same s3
          obtain ⟨vb, u1, u2, ev, hvb⟩ := hd3.cv ye hym
          have hck : H3 ye.2.1 = some (.tup [.str ye.1.1, .bl ye.1.2]) := hd3.ck ye hym
          have s5 := same_new (o := .tup [.ref ye.2.1, ye.2.2]) hT2
          have eT : upd H3 T2 (.tup [.ref ye.2.1, ye.2.2]) T2 = some (.tup [.ref ye.2.1, ye.2.2]) := upd_same
          generalize upd H3 T2 (.tup [.ref ye.2.1, ye.2.2]) = H5 at *
          have s35 := s3.trans s5
          have g5 := s35 _ _ g1
          have hcr : CR d ye.1 := (hd.cr ye.1).mp (List.mem_map.mpr ⟨ye, hym, rfl⟩)
          walk_at "rd*"
          refine ⟨_, SqT.of eT, rfl, _, _, rfl, _, _, rfl, vb, ev, _, SqT.of (s5 _ _ hvb), rfl, _, _, rfl, _, _, rfl, rfl, rfl, ?_⟩
          refine ⟨_, SqT.of (s35 _ _ hi2), .str k.1, atI_nat (j := 0) rfl, ye.2.1, rfl, _, SqT.of (s5 _ _ hck), .str ye.1.1, atI_nat (j := 0) rfl, t, k.1, ye.1.1, d, rfl, ht.same s35, hin, hcr.mem ok, fun H6 s6 => ?_⟩
          have s36 := s35.trans s6
          refine ⟨t, d.joined k.1 ye.1.1, d, rfl, ht.same s36, fun H7 s7 => ⟨_, rfl, ?_⟩⟩
          have s37 := s36.trans s7
          cases ej : d.isTold (d.joined k.1 ye.1.1) with
          | true =>
            refine iteN (by decide) ⟨_, _, _, rfl, s37, fun q hq => ?_⟩
            rw [take_snoc hye] at hq
            rcases List.mem_append.mp hq with hq | hq
            · exact tk3 q hq
            · rw [List.mem_singleton.mp hq]; exact ej
          | false => exact iteP rfl ⟨by decide, fun p2 hp2 => k1 ⟨et, .inr ⟨ye.1, hcr, ej⟩⟩ p2 _ _ _ (s37.trans (same_new hp2)) upd_same⟩
        · rintro σ3 H3 ⟨v3, v4, v5, rfl, s3, tk3⟩
          rw [List.take_length] at tk3
          walk_at "rd"
          refine k0 (fun f => ?_) H3 s3
          rcases f.2 with ⟨p, hp, e1, e2⟩ | ⟨cc, hcc, e⟩
          · exact tk p hp ⟨e1, e2⟩
          · obtain ⟨y, hy, e1⟩ := List.mem_map.mp ((hd.cr cc).mpr hcc)
            have := tk3 y hy
            rw [e1, e] at this
            cases this
/-! ### disordering, doubling -/
def Dis (d : ToolD) (k : Kq) : Prop := ∃ a b, CR d a ∧ CR d b ∧ d.joined (d.joined k.1 a.1) b.1 ≠ d.joined (d.joined k.1 b.1) a.1
def Dou (d : ToolD) (k : Kq) : Prop := ∃ c, CR d c ∧ d.joined (d.joined k.1 c.1) c.1 ≠ d.joined k.1 c.1
def spDis (K : PySem.W.Frag) (P : Program) (w : World) (F : ToolD → Kq → Prop) : Sp := fun vs H Q _ => ∃ (t x i : Addr) (d : ToolD) (k : Kq) (c h : Addr) (xc hs : List XE), vs = [.ref t, .ref x, .ref i] ∧ ToolAt K H t d ∧ d.ok ∧ HeadAt K P w H x d c h xc hs ∧ H i = some (kT k) ∧ inK d k ∧
  (¬ F d k → ∀ H', Same H H' → Q .non H') ∧ (F d k → ∀ p H', Same H H' → Q (.ref p) H')
theorem sc_dou : FnScope ["tool", "ways", "item", "came", "how", "once"] ["tool", "ways", "item"] (defScope st_doubling) := ⟨rfl, rfl, rfl, by decide +kernel, rfl, by decide +kernel, by decide +kernel⟩
def Do2 (d : ToolD) (H0 : Hp) (t x i : Addr) (k : Kq) (xc : List XE) (j : Nat) (σ : L2.St) (H' : Hp) : Prop := ∃ v3 v4 v5, σ = [some (.ref t), some (.ref x), some (.ref i), v3, v4, v5] ∧ Same H0 H' ∧ (∀ y ∈ xc.take j, d.joined (d.joined k.1 y.1.1) y.1.1 = d.joined k.1 y.1.1)
theorem x_dou (T : Tx w K mg) : FX P w K mg base 4 "doubling" ["tool", "ways", "item"] (spDis K P w Dou) := by
  obtain ⟨fd, F⟩ := fun_doubling T.c
  have G4 : MX P w K mg base 3 (He.ga K "Tool") "joined" ["self", "here", "came"] (spJoined K) := x_joined T
  refine FX.of F T.g_doubling sc_dou (fun _ _ _ _ _ _ us hl => match us, hl with | [_, _, _], _ => rfl) (fun vs H Q E h => ?_) (fun cdv A outer s H vs Q E hr h => ?_)
  · obtain ⟨t, x, i, d, k, c, h, xc, hs, rfl, _⟩ := h
    rfl
  · obtain ⟨t, x, i, d, k, c, h, xc, hs, rfl, ht, ok, hd, hi, hin, k0, k1⟩ := h
    obtain ⟨dxt, ma, ta, pa, ra, vst, g1, _⟩ := ht.ex
    refine ⟨_, pss_cons (ps_for PassesOwn.never rfl (pi_itemsX (pe_fld (pv 1) rfl)) (pg_tup (n := 2) rfl (pgs_cons (pg_name (i := 3) sc_dou.nd rfl (Or.inl rfl)) (pgs_cons (pg_name (i := 4) sc_dou.nd rfl (Or.inl rfl)) pgs_nil)))
        (pss_cons (ps_set (i := 5) sc_dou.nd rfl (Or.inl rfl) (pm G4 T.cl_Tool hr (pv 0) (pa2 (pe_ix ix_tup (pv 2) pe_int (fun _ _ => rfl)) (pe_ix ix_tup (pv 3) pe_int (fun _ _ => rfl)))))
        (pss_one (ps_if (pt_cmpR op_ne (pm G4 T.cl_Tool hr (pv 0) (pa2 (pv 5) (pe_ix ix_tup (pv 3) pe_int (fun _ _ => rfl)))) (pv 5) (nomark _)) (pss_one (ps_ret (pe_lst (pa1 (pv 4))))) pss_nil))))
      (pss_one (ps_ret pe_non)), ?_⟩
    have fl := T.fl
    have hi2 : H i = some (.tup [.str k.1, .bl k.2]) := hi
    obtain ⟨C, dxc, fsc, i1, i2, i3, i4, i5, i6⟩ := hd.ins
    obtain ⟨oc, hc2⟩ := hd.cf
    walk_at "rd*"
    refine ⟨oc, xc, rfl, for_it (walk_itemsX (P := P) (w := w) (d := c) (o := oc) (xs := xc)) (Do2 d H t x i k xc) ⟨none, none, none, rfl, Same.refl _, fun y hy => by simp at hy⟩ (fun j σ H' _ q => ?_) ?_ ?_⟩
    · obtain ⟨_, _, _, _, sq, _⟩ := q
      exact sq _ _ hc2
    · rintro j y σ3 H3 H3' hj ⟨v3, v4, v5, rfl, s3, tk3⟩ ⟨T2, ye, rfl, hT2, rfl, hye⟩
      have hym := List.mem_of_getElem? hye
      have hd3 := hd.same s3
      have hck : H3 ye.2.1 = some (.tup [.str ye.1.1, .bl ye.1.2]) := hd3.ck ye hym
      have s5 := same_new (o := .tup [.ref ye.2.1, ye.2.2]) hT2
      have eT : upd H3 T2 (.tup [.ref ye.2.1, ye.2.2]) T2 = some (.tup [.ref ye.2.1, ye.2.2]) := upd_same
      generalize upd H3 T2 (.tup [.ref ye.2.1, ye.2.2]) = H5 at *
      have s35 := s3.trans s5
      have g5 := s35 _ _ g1
      have hcr : CR d ye.1 := (hd.cr ye.1).mp (List.mem_map.mpr ⟨ye, hym, rfl⟩)
      walk_at "rd*"
      refine ⟨_, SqT.of eT, rfl, _, _, rfl, _, _, rfl, rfl, ?_⟩
      have cin := hcr.mem ok
      refine ⟨_, SqT.of (s35 _ _ hi2), .str k.1, atI_nat (j := 0) rfl, ye.2.1, rfl, _, SqT.of (s5 _ _ hck), .str ye.1.1, atI_nat (j := 0) rfl, t, k.1, ye.1.1, d, rfl, ht.same s35, hin, cin, fun H6 s6 => ?_⟩
      have s36 := s35.trans s6
      refine ⟨_, _, s36 _ _ g1, rfl, ye.2.1, rfl, _, SqT.of (s6 _ _ (s5 _ _ hck)), .str ye.1.1, atI_nat (j := 0) rfl, t, d.joined k.1 ye.1.1, ye.1.1, d, rfl, ht.same s36, ok.joined_mem hin cin, cin, fun H7 s7 => ⟨rfl, ?_⟩⟩
      have s37 := s36.trans s7
      by_cases e : d.joined (d.joined k.1 ye.1.1) ye.1.1 = d.joined k.1 ye.1.1
      · refine iteN (by rw [decide_eq_true (congrArg V.str e)]; exact Bool.noConfusion) ⟨_, _, _, rfl, s37, fun q hq => ?_⟩
        rw [take_snoc hye] at hq
        rcases List.mem_append.mp hq with hq | hq
        · exact tk3 q hq
        · rw [List.mem_singleton.mp hq]; exact e
      · exact iteP (decide_eq_false fun z => e (V.str.inj z)) ⟨by decide, fun p2 hp2 => k1 ⟨ye.1, hcr, e⟩ p2 _ (s37.trans (same_new hp2))⟩
    · rintro σ3 H3 ⟨v3, v4, v5, rfl, s3, tk3⟩
      rw [List.take_length] at tk3
      walk_at "rd"
      refine k0 (fun f => ?_) H3 s3
      obtain ⟨cc, hcc, e⟩ := f
      obtain ⟨y, hy, e1⟩ := List.mem_map.mp ((hd.cr cc).mpr hcc)
      have := tk3 y hy
      rw [e1] at this
      exact e this
theorem sc_dis : FnScope ["tool", "ways", "item", "one", "how", "two", "other", "first"] ["tool", "ways", "item"] (defScope st_disordering) := ⟨rfl, rfl, rfl, by decide +kernel, rfl, by decide +kernel, by decide +kernel⟩
def Di1 (d : ToolD) (H0 : Hp) (t x i : Addr) (k : Kq) (xc : List XE) (j : Nat) (σ : L2.St) (H' : Hp) : Prop := ∃ v3 v4 v5 v6 v7, σ = [some (.ref t), some (.ref x), some (.ref i), v3, v4, v5, v6, v7] ∧ Same H0 H' ∧ (∀ y ∈ xc.take j, ∀ z ∈ xc, d.joined (d.joined k.1 y.1.1) z.1.1 = d.joined (d.joined k.1 z.1.1) y.1.1)
def Di2 (d : ToolD) (H0 : Hp) (t x i a : Addr) (hv : V) (k : Kq) (ye : XE) (xc : List XE) (j m : Nat) (σ : L2.St) (H' : Hp) : Prop := ∃ v5 v6 v7, σ = [some (.ref t), some (.ref x), some (.ref i), some (.ref a), some hv, v5, v6, v7] ∧ Same H0 H' ∧ (∀ y ∈ xc.take j, ∀ z ∈ xc, d.joined (d.joined k.1 y.1.1) z.1.1 = d.joined (d.joined k.1 z.1.1) y.1.1) ∧
  (∀ z ∈ xc.take m, d.joined (d.joined k.1 ye.1.1) z.1.1 = d.joined (d.joined k.1 z.1.1) ye.1.1)
theorem x_dis (T : Tx w K mg) : FX P w K mg base 4 "disordering" ["tool", "ways", "item"] (spDis K P w Dis) := by
  obtain ⟨fd, F⟩ := fun_disordering T.c
  have G4 : MX P w K mg base 3 (He.ga K "Tool") "joined" ["self", "here", "came"] (spJoined K) := x_joined T
  refine FX.of F T.g_disordering sc_dis (fun _ _ _ _ _ _ us hl => match us, hl with | [_, _, _], _ => rfl) (fun vs H Q E h => ?_) (fun cdv A outer s H vs Q E hr h => ?_)
  · obtain ⟨t, x, i, d, k, c, h, xc, hs, rfl, _⟩ := h
    rfl
  · obtain ⟨t, x, i, d, k, c, h, xc, hs, rfl, ht, ok, hd, hi, hin, k0, k1⟩ := h
    obtain ⟨dxt, ma, ta, pa, ra, vst, g1, _⟩ := ht.ex
    refine ⟨_, pss_cons (ps_for PassesOwn.never rfl (pi_itemsX (pe_fld (pv 1) rfl)) (pg_tup (n := 2) rfl (pgs_cons (pg_name (i := 3) sc_dis.nd rfl (Or.inl rfl)) (pgs_cons (pg_name (i := 4) sc_dis.nd rfl (Or.inl rfl)) pgs_nil)))
        (pss_one (ps_for PassesOwn.never rfl (pi_itemsX (pe_fld (pv 1) rfl)) (pg_tup (n := 2) rfl (pgs_cons (pg_name (i := 5) sc_dis.nd rfl (Or.inl rfl)) (pgs_cons (pg_name (i := 6) sc_dis.nd rfl (Or.inl rfl)) pgs_nil)))
          (pss_cons (ps_set (i := 7) sc_dis.nd rfl (Or.inl rfl) (pm G4 T.cl_Tool hr (pv 0) (pa2 (pm G4 T.cl_Tool hr (pv 0) (pa2 (pe_ix ix_tup (pv 2) pe_int (fun _ _ => rfl)) (pe_ix ix_tup (pv 3) pe_int (fun _ _ => rfl)))) (pe_ix ix_tup (pv 5) pe_int (fun _ _ => rfl)))))
          (pss_one (ps_if (pt_cmpR op_ne (pv 7) (pm G4 T.cl_Tool hr (pv 0) (pa2 (pm G4 T.cl_Tool hr (pv 0) (pa2 (pe_ix ix_tup (pv 2) pe_int (fun _ _ => rfl)) (pe_ix ix_tup (pv 5) pe_int (fun _ _ => rfl)))) (pe_ix ix_tup (pv 3) pe_int (fun _ _ => rfl)))) (nomark _)) (pss_one (ps_ret (pe_lst (pa2 (pv 4) (pv 6))))) pss_nil))))))
      (pss_one (ps_ret pe_non)), ?_⟩
    have fl := T.fl
    have hi2 : H i = some (.tup [.str k.1, .bl k.2]) := hi
    obtain ⟨C, dxc, fsc, i1, i2, i3, i4, i5, i6⟩ := hd.ins
    obtain ⟨oc, hc2⟩ := hd.cf
    walk_at "rd*"
    refine ⟨oc, xc, rfl, for_it (walk_itemsX (P := P) (w := w) (d := c) (o := oc) (xs := xc)) (Di1 d H t x i k xc) ⟨none, none, none, none, none, rfl, Same.refl _, fun y hy => by simp at hy⟩ (fun j σ H' _ q => ?_) ?_ ?_⟩
    · obtain ⟨_, _, _, _, _, _, sq, _⟩ := q
      exact sq _ _ hc2
    · rintro j y σ3 H3 H3' hj ⟨v3, v4, v5, v6, v7, rfl, s3, tk3⟩ ⟨T2, ye, rfl, hT2, rfl, hye⟩
      have hym := List.mem_of_getElem? hye
      have hd3 := hd.same s3
      have hck : H3 ye.2.1 = some (.tup [.str ye.1.1, .bl ye.1.2]) := hd3.ck ye hym
      have s5 := same_new (o := .tup [.ref ye.2.1, ye.2.2]) hT2
      have eT : upd H3 T2 (.tup [.ref ye.2.1, ye.2.2]) T2 = some (.tup [.ref ye.2.1, ye.2.2]) := upd_same
      generalize upd H3 T2 (.tup [.ref ye.2.1, ye.2.2]) = H5 at *
      have s35 := s3.trans s5
      have x5 := s35 _ _ i1
      have c5 := s35 _ _ hc2
      have hcr : CR d ye.1 := (hd.cr ye.1).mp (List.mem_map.mpr ⟨ye, hym, rfl⟩)
      have cin := hcr.mem ok
      walk_at "rd*"
      refine ⟨_, SqT.of eT, rfl, _, _, rfl, _, _, rfl, rfl, ?_⟩
      refine ⟨oc, xc, rfl, for_it (walk_itemsX (P := P) (w := w) (d := c) (o := oc) (xs := xc)) (Di2 d H t x i ye.2.1 ye.2.2 k ye xc j) ⟨v5, v6, v7, rfl, s35, tk3, fun y hy => by simp at hy⟩ (fun j σ H' _ q => ?_) ?_ ?_⟩
      · obtain ⟨_, _, _, _, sq, _⟩ := q
        exact sq _ _ hc2
      · rintro m y σ6 H6 H6' hm ⟨u5, u6, u7, rfl, s6, tk6, tm6⟩ ⟨T3, ze, rfl, hT3, rfl, hze⟩
        have hzm := List.mem_of_getElem? hze
        have s7 := same_new (o := .tup [.ref ze.2.1, ze.2.2]) hT3
        have eT3 : upd H6 T3 (.tup [.ref ze.2.1, ze.2.2]) T3 = some (.tup [.ref ze.2.1, ze.2.2]) := upd_same
        generalize upd H6 T3 (.tup [.ref ze.2.1, ze.2.2]) = H7 at *
        have s67 := s6.trans s7
        have hck7 : H7 ye.2.1 = some (.tup [.str ye.1.1, .bl ye.1.2]) := s67 _ _ (hd.ck ye hym)
        have hzk7 : H7 ze.2.1 = some (.tup [.str ze.1.1, .bl ze.1.2]) := s67 _ _ (hd.ck ze hzm)
        have g7 := s67 _ _ g1
        have zcr : CR d ze.1 := (hd.cr ze.1).mp (List.mem_map.mpr ⟨ze, hzm, rfl⟩)
        have zin := zcr.mem ok
        walk_at "rd*"
        refine ⟨_, SqT.of eT3, rfl, _, _, rfl, _, _, rfl, rfl, ?_⟩
        refine ⟨_, SqT.of (s67 _ _ hi2), .str k.1, atI_nat (j := 0) rfl, _, SqT.of hck7, .str ye.1.1, atI_nat (j := 0) rfl, t, k.1, ye.1.1, d, rfl, ht.same s67, hin, cin, fun H8 s8 => ?_⟩
        have s68 := s67.trans s8
        refine ⟨ze.2.1, rfl, _, SqT.of (s8 _ _ hzk7), .str ze.1.1, atI_nat (j := 0) rfl, t, d.joined k.1 ye.1.1, ze.1.1, d, rfl, ht.same s68, ok.joined_mem hin cin, zin, fun H9 s9 => ?_⟩
        have s69 := s68.trans s9
        refine ⟨_, _, s69 _ _ g1, rfl, _, _, s69 _ _ g1, rfl, _, SqT.of (s69 _ _ hi2), .str k.1, atI_nat (j := 0) rfl, ze.2.1, rfl, _, SqT.of (s9 _ _ (s8 _ _ hzk7)), .str ze.1.1, atI_nat (j := 0) rfl, t, k.1, ze.1.1, d, rfl, ht.same s69, hin, zin, fun Ha sa => ?_⟩
        have s6a := s69.trans sa
        refine ⟨_, SqT.of (sa _ _ (s9 _ _ (s8 _ _ hck7))), .str ye.1.1, atI_nat (j := 0) rfl, t, d.joined k.1 ze.1.1, ye.1.1, d, rfl, ht.same s6a, ok.joined_mem hin zin, cin, fun Hb sb => ⟨rfl, ?_⟩⟩
        have s6b := s6a.trans sb
        by_cases e : d.joined (d.joined k.1 ye.1.1) ze.1.1 = d.joined (d.joined k.1 ze.1.1) ye.1.1
        · refine iteN (by rw [decide_eq_true (congrArg V.str e)]; exact Bool.noConfusion) ⟨_, _, _, rfl, s6b, tk6, fun q hq => ?_⟩
          rw [take_snoc hze] at hq
          rcases List.mem_append.mp hq with hq | hq
          · exact tm6 q hq
          · rw [List.mem_singleton.mp hq]; exact e
        · exact iteP (decide_eq_false fun z => e (V.str.inj z)) ⟨by decide, fun p2 hp2 => k1 ⟨ye.1, ze.1, hcr, zcr, e⟩ p2 _ (s6b.trans (same_new hp2))⟩
      · rintro σ6 H6 ⟨u5, u6, u7, rfl, s6, tk6, tm6⟩
        rw [List.take_length] at tm6
        refine ⟨_, _, _, _, _, rfl, s6, fun y hy => ?_⟩
        rw [take_snoc hye] at hy
        rcases List.mem_append.mp hy with hy | hy
        · exact tk6 y hy
        · rw [List.mem_singleton.mp hy]; exact tm6
    · rintro σ3 H3 ⟨v3, v4, v5, v6, v7, rfl, s3, tk3⟩
      rw [List.take_length] at tk3
      walk_at "rd"
      refine k0 (fun f => ?_) H3 s3
      obtain ⟨a, b, ha, hb, e⟩ := f
      obtain ⟨y, hy, e1⟩ := List.mem_map.mp ((hd.cr a).mpr ha)
      obtain ⟨z, hz, e2⟩ := List.mem_map.mp ((hd.cr b).mpr hb)
      have := tk3 y hy z hz
      rw [e1, e2] at this
      exact e this
end
end Lm
set_option Elab.async false
set_option linter.all false
set_option maxRecDepth 100000
set_option maxHeartbeats 4000000
namespace Lm
open PySem PySem.Spec PyProof.Rows L2
local macro_rules | `(tactic| walk_at "rd") => `(tactic| simp (config := {failIfUnchanged := false}) only [tVar, tC, tIsN, tNotN, tB, tAnd, tOr, tNot, tAndV, tOrV, tNotV, tIf, tNext, tSeq, tBreak, tCont, tDrop, tRet, tRetN, tIfS, gName, gNil, gCons, gTup, tAsg, tPar,
  iList, iTup, iRng1, iRng2, r_tFor, tFmt, tJs, or_false, false_or, exists_false, r_tLc, r_tDc, bf, iSeq, r_wipe0, r_wipe1, tOp, tUn, rI, rI0, rU, rEq, rNe, tTest, tChain, tFld, sFld, tNil, tCons, tTup, tLst, tCall, tMeth, tMake, tCB, tNoPart, tPart, tSl, rIxL, rIxT, rIxQ, rSlQ, r_tLc2, tXGet, tXIn, tXNotIn, sXPut, tXSetd, tXDisp1, iKeysX, iItemsX, tFrz, tFrzE, tRetag, ClX.tCMeth, iEnum, gPr, gUnl, tDNewK, tMakeL, rIxD, cx_w, cx_P, rSlL, rIn, tBM0, tBM, rAppend, rExtend, rPop, rPopAt, rAny, rAll, tYes, iStr, rNewStrs, tM0, tM1, StX.tStar,
  L2.start, List.map_cons, List.map_nil, List.length_cons, List.length_nil, Nat.zero_add, Nat.reduceAdd, Nat.reduceSub, List.replicate_succ, List.replicate_zero, List.cons_append, List.nil_append, List.append_nil, List.set_cons_zero, List.set_cons_succ,
  List.getElem?_cons_zero, List.getElem?_cons_succ, Option.some.injEq, exists_eq_left', exists_eq_left, exists_eq', exists_eq, exists_and_left, exists_and_right, and_assoc, List.cons.injEq, V.str.injEq, V.ref.injEq, V.bl.injEq, V.int.injEq, V.ty.injEq, and_true, true_and, reduceCtorEq, false_and, and_false,
  Bool.not_true, Bool.not_false, Bool.false_eq_true, reduceIte, Bool.not_eq_true', decide_eq_true_eq, upd_same, cx_K, HO.ins.injEq, HO.tup.injEq, HO.lst.injEq, HO.dK.injEq, lk_Run_old, lk_Run_then, lk_Run_names, lm_Run_str, lk_Lead_tests, lk_Lead_old, lk_Lead_then, lk_Lead_names, lm_Lead_str, lk_Join_here, lk_Join_came, lk_Join_then, lk_Join_names, lm_Join_str, lk_Tool_marks, lk_Tool_told, lk_Tool_parts, lk_Tool_clears, lk_Tool_rows, lk_Tool_blank, lm_Tool_need_mark, lm_Tool_is_told, lm_Tool_ran, lm_Tool_led, lm_Tool_joined, lm_Tool_keeps, lm_Tool_need_row, lm_Tool_but, lm_Tool_without, lm_Tool_heeding, lm_Tool_len, lm_Tool_eq, lm_Tool_str, lk_Single_tool, lk_Single_begin, lm_Single_machine_steps, lm_Single_led, lm_Single_joined, lk_Ways_steps, lk_Ways_machine, lk_Ways_coming, lk_Ways_hearings, lk_Ways_elders, lm_Ways_edited, lm_Ways_heard, lk_Meeting_hearings, lk_Meeting_item, lk_Meeting_deeds, lk_Meeting_waiting, lk_Told_steps, lk_Told_machine, lk_Told_coming, lk_Told_hearings, lm_Told_is_closed])
local macro_rules | `(tactic| walk_at "rd*") => `(tactic| simp (config := {failIfUnchanged := false}) only [tVar, tC, tIsN, tNotN, tB, tAnd, tOr, tNot, tAndV, tOrV, tNotV, tIf, tNext, tSeq, tBreak, tCont, tDrop, tRet, tRetN, tIfS, gName, gNil, gCons, gTup, tAsg, tPar,
  iList, iTup, iRng1, iRng2, r_tFor, tFmt, tJs, or_false, false_or, exists_false, r_tLc, r_tDc, bf, iSeq, r_wipe0, r_wipe1, tOp, tUn, rI, rI0, rU, rEq, rNe, tTest, tChain, tFld, sFld, tNil, tCons, tTup, tLst, tCall, tMeth, tMake, tCB, tNoPart, tPart, tSl, rIxL, rIxT, rIxQ, rSlQ, r_tLc2, tXGet, tXIn, tXNotIn, sXPut, tXSetd, tXDisp1, iKeysX, iItemsX, tFrz, tFrzE, tRetag, ClX.tCMeth, iEnum, gPr, gUnl, tDNewK, tMakeL, rIxD, cx_w, cx_P, rSlL, rIn, tBM0, tBM, rAppend, rExtend, rPop, rPopAt, rAny, rAll, tYes, iStr, rNewStrs, tM0, tM1, StX.tStar,
  L2.start, List.map_cons, List.map_nil, List.length_cons, List.length_nil, Nat.zero_add, Nat.reduceAdd, Nat.reduceSub, List.replicate_succ, List.replicate_zero, List.cons_append, List.nil_append, List.append_nil, List.set_cons_zero, List.set_cons_succ,
  List.getElem?_cons_zero, List.getElem?_cons_succ, Option.some.injEq, exists_eq_left', exists_eq_left, exists_eq', exists_eq, exists_and_left, exists_and_right, and_assoc, List.cons.injEq, V.str.injEq, V.ref.injEq, V.bl.injEq, V.int.injEq, V.ty.injEq, and_true, true_and, reduceCtorEq, false_and, and_false,
  Bool.not_true, Bool.not_false, Bool.false_eq_true, reduceIte, Bool.not_eq_true', decide_eq_true_eq, upd_same, cx_K, HO.ins.injEq, HO.tup.injEq, HO.lst.injEq, HO.dK.injEq, lk_Run_old, lk_Run_then, lk_Run_names, lm_Run_str, lk_Lead_tests, lk_Lead_old, lk_Lead_then, lk_Lead_names, lm_Lead_str, lk_Join_here, lk_Join_came, lk_Join_then, lk_Join_names, lm_Join_str, lk_Tool_marks, lk_Tool_told, lk_Tool_parts, lk_Tool_clears, lk_Tool_rows, lk_Tool_blank, lm_Tool_need_mark, lm_Tool_is_told, lm_Tool_ran, lm_Tool_led, lm_Tool_joined, lm_Tool_keeps, lm_Tool_need_row, lm_Tool_but, lm_Tool_without, lm_Tool_heeding, lm_Tool_len, lm_Tool_eq, lm_Tool_str, lk_Single_tool, lk_Single_begin, lm_Single_machine_steps, lm_Single_led, lm_Single_joined, lk_Ways_steps, lk_Ways_machine, lk_Ways_coming, lk_Ways_hearings, lk_Ways_elders, lm_Ways_edited, lm_Ways_heard, lk_Meeting_hearings, lk_Meeting_item, lk_Meeting_deeds, lk_Meeting_waiting, lk_Told_steps, lk_Told_machine, lk_Told_coming, lk_Told_hearings, lm_Told_is_closed, *])
section
variable {P : Program} {w : World} {K : PySem.W.Frag} {mg : Str → Option Value} {base : Heap}
/-! ### met_at, least_meeting -/
theorem met_fal {d : ToolD} {k : Kq} : Met d "fallen" k ↔ Fal d k := by
  unfold Met Fal
  rw [if_neg (by decide +kernel), if_neg (by decide +kernel), if_pos rfl]
theorem met_false {d : ToolD} {k : Kq} : Met d "false" k ↔ d.isTold k.1 = true ∧ k.2 = false := by
  unfold Met
  rw [if_pos rfl]
theorem met_missed {d : ToolD} {k : Kq} : Met d "missed" k ↔ k.2 = true ∧ d.isTold k.1 = false := by
  unfold Met
  rw [if_neg (by decide +kernel), if_pos rfl]
theorem met_order {d : ToolD} {k : Kq} : Met d "order" k ↔ Dis d k := by
  unfold Met Dis
  rw [if_neg (by decide +kernel), if_neg (by decide +kernel), if_neg (by decide +kernel), if_pos rfl]
theorem met_twice {d : ToolD} {k : Kq} : Met d "twice" k ↔ Dou d k := by
  unfold Met Dou
  rw [if_neg (by decide +kernel), if_neg (by decide +kernel), if_neg (by decide +kernel), if_neg (by decide +kernel)]
theorem atX_got {xs : List XE} {k : Kq} (h : k ∈ keysX xs) : ∃ v, atX xs k = some v := Option.isSome_iff_exists.mp (by rw [atX_has]; exact (hasX_keys xs k).mpr h)
theorem atX_in {xs : List XE} {k : Kq} {v : V} (h : atX xs k = some v) : ∃ y ∈ xs, y.1 = k ∧ y.2.2 = v := by
  unfold atX at h
  obtain ⟨y, e, rfl⟩ := Option.map_eq_some_iff.mp h
  exact ⟨y, List.mem_of_find?_eq_some e, of_decide_eq_true (List.find?_some (p := fun e : XE => decide (e.1 = k)) e), rfl⟩
/-- a meeting -/
def MeetV (K : PySem.W.Frag) (H : Hp) (v : V) : Prop := ∃ x dx i a b c, v = .ref x ∧ H x = some (.ins (He.ga K "Meeting") dx (fMeeting i a b c))
def spMetAt (K : PySem.W.Frag) (P : Program) (w : World) : Sp := fun vs H Q _ => ∃ (t x i : Addr) (f : Str) (d : ToolD) (k : Kq) (c h : Addr) (xc hs : List XE), vs = [.ref t, .ref x, .ref i, .str f] ∧ f ∈ faultsL ∧ ToolAt K H t d ∧ d.ok ∧ HeadAt K P w H x d c h xc hs ∧ H i = some (kT k) ∧ HR d k ∧
  (¬ Met d f k → ∀ H', Same H H' → Q .non H') ∧ (Met d f k → ∀ v H', Same H H' → MeetV K H' v → Q v H')
theorem sc_met_at : FnScope ["tool", "ways", "item", "fault", "many", "is_told", "deed", "waiting"] ["tool", "ways", "item", "fault"] (defScope st_met_at) := ⟨rfl, rfl, rfl, by decide +kernel, rfl, by decide +kernel, by decide +kernel⟩
theorem x_met_at (T : Tx w K mg) : FX P w K mg base 5 "met_at" ["tool", "ways", "item", "fault"] (spMetAt K P w) := by
  obtain ⟨fd, F⟩ := fun_met_at T.c
  have G1 : MX P w K mg base 1 (He.ga K "Tool") "is_told" ["self", "mark"] (spIsTold K) := x_told T
  have G2 : CX1 P w K mg base 1 "Meeting" ["self", "hearings", "item", "deeds", "waiting"] (spMeetInit K) := x_Meet_init T
  have G3 : FX P w K mg base 4 "falls" ["tool", "ways", "item"] (spFalls K P w) := x_falls T
  have G4 : FX P w K mg base 4 "disordering" ["tool", "ways", "item"] (spDis K P w Dis) := x_dis T
  have G5 : FX P w K mg base 4 "doubling" ["tool", "ways", "item"] (spDis K P w Dou) := x_dou T
  refine FX.of F T.g_met_at sc_met_at (fun _ _ _ _ _ _ us hl => match us, hl with | [_, _, _, _], _ => rfl) (fun vs H Q E h => ?_) (fun cdv A outer s H vs Q E hr h => ?_)
  · obtain ⟨t, x, i, f, d, k, c, h, xc, hs, rfl, _⟩ := h
    rfl
  · obtain ⟨t, x, i, f, d, k, c, h, xc, hs, rfl, hf, ht, ok, hd, hi, hk, k0, k1⟩ := h
    obtain ⟨dxt, ma, ta, pa, ra, vst, g1, _⟩ := ht.ex
    refine ⟨_, pss_cons (ps_par (i := 4) (j := 5) rfl sc_met_at.nd rfl rfl (by decide) rfl rfl (pa2 (pe_xget (room1 hr) (pe_fld (pv 1) rfl) (pv 2) (fun _ _ => rfl)) (pm G1 T.cl_Tool hr (pv 0) (pa1 (pe_ix ix_tup (pv 2) pe_int (fun _ _ => rfl))))) rfl)
      (pss_cons (ps_if (pt_cmpR op_eq (pv 3) pe_str (nomark _)) (pss_one (ps_ret (pe_ifExp (PW.pt (pw_and (pt_val (pv 5)) (pw_and1 (pt_not (pt_val (pe_ix ix_tup (pv 2) pe_int (fun _ _ => rfl))))))) (pk G2 hr (pa_cons (pv 4) (pa_cons (pv 2) (pa2 (pe_lst pa_nil) (pe_lst pa_nil))))) pe_non))) pss_nil)
      (pss_cons (ps_if (pt_cmpR op_eq (pv 3) pe_str (nomark _)) (pss_one (ps_ret (pe_ifExp (PW.pt (pw_and (pt_val (pe_ix ix_tup (pv 2) pe_int (fun _ _ => rfl))) (pw_and1 (pt_not (pt_val (pv 5)))))) (pk G2 hr (pa_cons (pv 4) (pa_cons (pv 2) (pa2 (pe_lst pa_nil) (pe_lst pa_nil))))) pe_non))) pss_nil)
      (pss_cons (ps_if (pt_cmpR op_eq (pv 3) pe_str (nomark _)) (pss_cons (ps_set (i := 6) sc_met_at.nd rfl (Or.inl rfl) (pc G3 hr (pa_cons (pv 0) (pa2 (pv 1) (pv 2)))))
        (pss_one (ps_ret (pe_ifExp (pt_cmpR op_isN (pv 6) pe_non (nomark _)) pe_non (pk G2 hr (pa_cons (pe_op op_add (pv 4) (pbt call_int1 T.n_int (pa1 (pe_cmpR op_eq (pe_ix ix_tup (pv 6) pe_int (fun _ _ => rfl)) pe_str (nomark _))))) (pa_cons (pv 2) (pa2 (pe_lst (pa1 (pv 6))) (pe_lst pa_nil))))))))) pss_nil)
      (pss_cons (ps_set (i := 7) sc_met_at.nd rfl (Or.inl rfl) (pe_ifExp (pt_cmpR op_eq (pv 3) pe_str (nomark _)) (pc G4 hr (pa_cons (pv 0) (pa2 (pv 1) (pv 2)))) (pc G5 hr (pa_cons (pv 0) (pa2 (pv 1) (pv 2))))))
      (pss_one (ps_ret (pe_ifExp (pt_cmpR op_isN (pv 7) pe_non (nomark _)) pe_non (pk G2 hr (pa_cons (pv 4) (pa_cons (pv 2) (pa2 (pe_lst pa_nil) (pv 7)))))))))))), ?_⟩
    have fl := T.fl
    have hi2 : H i = some (.tup [.str k.1, .bl k.2]) := hi
    obtain ⟨C, dxc, fsc, i1, i2, i3, i4, i5, i6⟩ := hd.ins
    obtain ⟨oh, hh2⟩ := hd.hf
    have hkm : k ∈ keysX hs := (hd.hr k).mpr hk
    obtain ⟨v, hv⟩ := atX_got hkm
    obtain ⟨m, em⟩ : ∃ m, v = .int m := by
      obtain ⟨y, hy, e1, e2⟩ := atX_in hv
      obtain ⟨m, em⟩ := hd.hv y hy
      exact ⟨m, by rw [← e2]; exact em⟩
    subst em
    have mk : ∀ (G : Hp) (n : Int) (a b : Addr), Same H G → Met d f k → ∀ x' dx, G x' = none → G dx = none → dx ≠ x' → spMeetInit K [.ref x', .int n, .ref i, .ref a, .ref b] (upd (upd G dx (.own x')) x' (.ins (He.ga K "Meeting") dx [])) (fun v H2 => v = .non ∧ Q (.ref x') H2) E0 := fun G n a b sG mt x' dx nx nd ne =>
      ⟨x', dx, n, i, a, b, rfl, upd_same, fun H' e' h' => ⟨rfl, k1 mt _ _ (sG.trans (Imm.made nx nd e')) ⟨x', dx, n, i, a, b, rfl, h'⟩⟩⟩
    walk_at "rd*"
    refine ⟨k, hs, ⟨.inr ⟨oh, hh2⟩, hd.hk⟩, rfl, _, hv, _, SqT.of hi2, .str k.1, atI_nat (j := 0) rfl, t, k.1, d, rfl, ht, fun H1 s1 => ⟨rfl, ?_⟩⟩
    have hi3 := s1 _ _ hi2
    have hin := hk.mem ok
    by_cases f1 : f = "false"
    · subst f1
      refine iteP rfl ⟨_, rfl, ?_⟩
      cases et : d.isTold k.1 with
      | false => exact iteBF rfl (k0 (fun z => by rw [(met_false.mp z).1] at et; cases et) _ s1)
      | true =>
        refine iteBT rfl ⟨_, SqT.of hi3, .bl k.2, atI_nat (j := 1) rfl, _, rfl, ?_⟩
        cases e2 : k.2 with
        | true => exact iteN (by decide) (k0 (fun z => by rw [(met_false.mp z).2] at e2; cases e2) _ s1)
        | false => exact iteP rfl ⟨by decide, fun p hp => ⟨by decide, fun p1 hp1 => mk _ m p p1 (Same.new (Same.new s1 hp) hp1) (met_false.mpr ⟨et, e2⟩)⟩⟩
    refine iteN f1 ⟨rfl, ?_⟩
    by_cases f2 : f = "missed"
    · subst f2
      refine iteP rfl ⟨_, SqT.of hi3, .bl k.2, atI_nat (j := 1) rfl, _, rfl, ?_⟩
      cases e2 : k.2 with
      | false => exact iteBF rfl (k0 (fun z => by rw [(met_missed.mp z).1] at e2; cases e2) _ s1)
      | true =>
        refine iteBT rfl ⟨_, rfl, ?_⟩
        cases et : d.isTold k.1 with
        | true => exact iteN (by decide) (k0 (fun z => by rw [(met_missed.mp z).2] at et; cases et) _ s1)
        | false => exact iteP rfl ⟨by decide, fun p hp => ⟨by decide, fun p1 hp1 => mk _ m p p1 (Same.new (Same.new s1 hp) hp1) (met_missed.mpr ⟨e2, et⟩)⟩⟩
    refine iteN f2 ⟨rfl, ?_⟩
    by_cases f3 : f = "fallen"
    · subst f3
      refine iteP rfl ⟨t, x, i, d, k, c, h, xc, hs, rfl, ht.same s1, ok, hd.same s1, s1 _ _ hi, hin, fun nf H2 s2 => ?_, fun yf p H2 z r s2 hp => ?_⟩
      · exact iteP rfl (k0 (fun z => nf (met_fal.mp z)) _ (s1.trans s2))
      · exact iteN (fun e => nomatch e) ⟨p, rfl, _, SqT.of hp, .str z, atI_nat (j := 0) rfl, rfl, m, rfl, by decide, fun p1 hp1 => ⟨by decide, fun p2 hp2 => mk _ _ p1 p2 (Same.new (Same.new (s1.trans s2) hp1) hp2) (met_fal.mpr yf)⟩⟩
    refine iteN f3 ⟨rfl, ?_⟩
    by_cases f4 : f = "order"
    · subst f4
      refine iteP rfl ⟨t, x, i, d, k, c, h, xc, hs, rfl, ht.same s1, ok, hd.same s1, s1 _ _ hi, hin, fun nf H2 s2 => ?_, fun yf p H2 s2 => ?_⟩
      · exact iteP rfl (k0 (fun z => nf (met_order.mp z)) _ (s1.trans s2))
      · exact iteN (fun e => nomatch e) ⟨by decide, fun p1 hp1 => mk _ _ p1 p (Same.new (s1.trans s2) hp1) (met_order.mpr yf)⟩
    have f5 : f = "twice" := by
      simp only [faultsL, List.mem_cons, List.not_mem_nil, or_false] at hf
      rcases hf with e | e | e | e | e
      · exact absurd e f3
      · exact absurd e f1
      · exact absurd e f2
      · exact absurd e f4
      · exact e
    subst f5
    refine iteN (by decide) ⟨t, x, i, d, k, c, h, xc, hs, rfl, ht.same s1, ok, hd.same s1, s1 _ _ hi, hin, fun nf H2 s2 => ?_, fun yf p H2 s2 => ?_⟩
    · exact iteP rfl (k0 (fun z => nf (met_twice.mp z)) _ (s1.trans s2))
    · exact iteN (fun e => nomatch e) ⟨by decide, fun p1 hp1 => mk _ _ p1 p (Same.new (s1.trans s2) hp1) (met_twice.mpr yf)⟩
def spLeast (K : PySem.W.Frag) (P : Program) (w : World) : Sp := fun vs H Q _ => ∃ (t x : Addr) (f : Str) (d : ToolD) (c h : Addr) (xc hs : List XE), vs = [.ref t, .ref x, .str f] ∧ f ∈ faultsL ∧ ToolAt K H t d ∧ d.ok ∧ HeadAt K P w H x d c h xc hs ∧
  (hap d f = false → ∀ H', Same H H' → Q .non H') ∧ (hap d f = true → ∀ a H', Same H H' → Q (.ref a) H')
theorem sc_least : FnScope ["tool", "ways", "fault", "least", "item", "found"] ["tool", "ways", "fault"] (defScope st_least_meeting) := ⟨rfl, rfl, rfl, by decide +kernel, rfl, by decide +kernel, by decide +kernel⟩
def LeI (K : PySem.W.Frag) (d : ToolD) (H0 : Hp) (t x : Addr) (f : Str) (hs : List XE) (j : Nat) (σ : L2.St) (H' : Hp) : Prop := ∃ v v4 v5, σ = [some (.ref t), some (.ref x), some (.str f), some v, v4, v5] ∧ Same H0 H' ∧ ((v = .non ∧ ∀ y ∈ hs.take j, ¬ Met d f y.1) ∨ (MeetV K H' v ∧ ∃ y ∈ hs, Met d f y.1))
theorem MeetV.same {H H' : Hp} {v : V} (h : MeetV K H v) (s : Same H H') : MeetV K H' v := by
  obtain ⟨x, dx, i, a, b, c, e, q⟩ := h
  exact ⟨x, dx, i, a, b, c, e, s _ _ q⟩
theorem x_least (T : Tx w K mg) : FX P w K mg base 6 "least_meeting" ["tool", "ways", "fault"] (spLeast K P w) := by
  obtain ⟨fd, F⟩ := fun_least_meeting T.c
  have G1 : FX P w K mg base 5 "met_at" ["tool", "ways", "item", "fault"] (spMetAt K P w) := x_met_at T
  refine FX.of F T.g_least_meeting sc_least (fun _ _ _ _ _ _ us hl => match us, hl with | [_, _, _], _ => rfl) (fun vs H Q E h => ?_) (fun cdv A outer s H vs Q E hr h => ?_)
  · obtain ⟨t, x, f, d, c, h, xc, hs, rfl, _⟩ := h
    rfl
  · obtain ⟨t, x, f, d, c, h, xc, hs, rfl, hf, ht, ok, hd, k0, k1⟩ := h
    refine ⟨_, pss_cons (ps_set (i := 3) sc_least.nd rfl (Or.inl rfl) pe_non)
      (pss_cons (ps_for PassesOwn.never rfl (pi_keysX (pe_fld (pv 1) rfl)) (pg_name (i := 4) sc_least.nd rfl (Or.inl rfl))
        (pss_cons (ps_set (i := 5) sc_least.nd rfl (Or.inl rfl) (pc G1 hr (pa_cons (pv 0) (pa_cons (pv 1) (pa2 (pv 4) (pv 2))))))
        (pss_one (ps_if (PW.pt (pw_and (pt_cmpR op_notN (pv 5) pe_non (nomark _)) (pw_and1 (PW.pt (pw_or (pt_cmpR op_isN (pv 3) pe_non (nomark _)) (pw_or1 (pt_cmpR op_lt (pe_fld (pv 5) rfl) (pe_fld (pv 3) rfl) (nomark _)))))))) (pss_one (ps_set (i := 3) sc_least.nd rfl (Or.inl rfl) (pv 5))) pss_nil))))
      (pss_one (ps_ret (pv 3)))), ?_⟩
    have fl := T.fl
    obtain ⟨C, dxc, fsc, i1, i2, i3, i4, i5, i6⟩ := hd.ins
    obtain ⟨oh, hh2⟩ := hd.hf
    walk_at "rd*"
    refine ⟨oh, hs, rfl, for_it (walk_keysX (P := P) (w := w) (d := h) (o := oh) (xs := hs)) (LeI K d H t x f hs) ⟨.non, none, none, rfl, Same.refl _, .inl ⟨rfl, fun y hy => by simp at hy⟩⟩ (fun j σ H' _ q => ?_) ?_ ?_⟩
    · obtain ⟨_, _, _, _, sq, _⟩ := q
      exact sq _ _ hh2
    · rintro j y σ3 H3 H3' hj ⟨v, v4, v5, rfl, s3, q3⟩ ⟨rfl, hy⟩
      rw [List.getElem?_map] at hy
      obtain ⟨ye, hye, rfl⟩ := Option.map_eq_some_iff.mp hy
      have hym := List.mem_of_getElem? hye
      have hd3 := hd.same s3
      have hkk : HR d ye.1 := (hd.hr ye.1).mp (List.mem_map.mpr ⟨ye, hym, rfl⟩)
      walk_at "rd*"
      refine ⟨t, x, ye.2.1, f, d, ye.1, c, h, xc, hs, rfl, hf, ht.same s3, ok, hd3, hd3.hk ye hym, hkk, fun nm H4 s4 => ?_, fun ym v2 H4 s4 mv => ?_⟩
      · have s34 := s3.trans s4
        walk_at "rd*"
        refine ⟨_, _, _, rfl, s34, ?_⟩
        rcases q3 with ⟨e, q⟩ | ⟨mv, q⟩
        · refine .inl ⟨e, fun z hz => ?_⟩
          rw [take_snoc hye] at hz
          rcases List.mem_append.mp hz with hz | hz
          · exact q z hz
          · rw [List.mem_singleton.mp hz]; exact nm
        · exact .inr ⟨mv.same s4, q⟩
      · have s34 := s3.trans s4
        obtain ⟨z, dx, i, a1, a2, a3, rfl, hz⟩ := id mv
        walk_at "rd*"
        have fin : LeI K d H t x f hs (j + 1) [some (.ref t), some (.ref x), some (.str f), some (.ref z), some (.ref ye.2.1), some (.ref z)] H4 := ⟨_, _, _, rfl, s34, .inr ⟨mv, ye, hym, ym⟩⟩
        rcases q3 with ⟨rfl, q⟩ | ⟨mv3, q⟩
        · exact iteP (by decide) (iteP rfl fin)
        · obtain ⟨z3, dx3, i3', b1, b2, b3, rfl, hz3⟩ := mv3.same s4
          refine iteP (by decide) (iteN (fun e => nomatch e) ?_)
          walk_at "rd*"
          by_cases lt : i < i3'
          · exact iteP lt trivial
          · exact iteN lt ⟨_, _, _, rfl, s34, .inr ⟨⟨z3, dx3, i3', b1, b2, b3, rfl, hz3⟩, ye, hym, ym⟩⟩
    · rintro σ3 H3 ⟨v, v4, v5, rfl, s3, q3⟩
      rw [List.take_length] at q3
      walk_at "rd"
      rcases q3 with ⟨rfl, q⟩ | ⟨mv, q⟩
      · refine k0 (hap_not.mpr fun k hk mt => ?_) H3 s3
        obtain ⟨y, hy, e⟩ := List.mem_map.mp ((hd.hr k).mpr hk)
        exact q y hy (by rw [e]; exact mt)
      · obtain ⟨z, dx, i, a1, a2, a3, rfl, hz⟩ := mv
        obtain ⟨y, hy, mt⟩ := q
        exact k1 (hap_iff.mpr ⟨y.1, (hd.hr y.1).mp (List.mem_map.mpr ⟨y, hy, rfl⟩), mt⟩) _ _ s3
end
end Lm
set_option Elab.async false
set_option linter.all false
set_option maxRecDepth 100000
set_option maxHeartbeats 4000000
namespace Lm
open PySem PySem.Spec PyProof.Rows L2
local macro_rules | `(tactic| walk_at "rd") => `(tactic| simp (config := {failIfUnchanged := false}) only [tVar, tC, tIsN, tNotN, tB, tAnd, tOr, tNot, tAndV, tOrV, tNotV, tIf, tNext, tSeq, tBreak, tCont, tDrop, tRet, tRetN, tIfS, gName, gNil, gCons, gTup, tAsg, tPar,
  iList, iTup, iRng1, iRng2, r_tFor, tFmt, tJs, or_false, false_or, exists_false, r_tLc, r_tDc, bf, iSeq, r_wipe0, r_wipe1, tOp, tUn, rI, rI0, rU, rEq, rNe, tTest, tChain, tFld, sFld, tNil, tCons, tTup, tLst, tCall, tMeth, tMake, tCB, tNoPart, tPart, tSl, rIxL, rIxT, rIxQ, rSlQ, r_tLc2, tXGet, tXIn, tXNotIn, sXPut, tXSetd, tXDisp1, iKeysX, iItemsX, tFrz, tFrzE, tRetag, ClX.tCMeth, iEnum, gPr, gUnl, tDNewK, tMakeL, rIxD, cx_w, cx_P, rSlL, rIn, tBM0, tBM, rAppend, rExtend, rPop, rPopAt, rAny, rAll, tYes, iStr, rNewStrs, tM0, tM1, StX.tStar,
  L2.start, List.map_cons, List.map_nil, List.length_cons, List.length_nil, Nat.zero_add, Nat.reduceAdd, Nat.reduceSub, List.replicate_succ, List.replicate_zero, List.cons_append, List.nil_append, List.append_nil, List.set_cons_zero, List.set_cons_succ,
  List.getElem?_cons_zero, List.getElem?_cons_succ, Option.some.injEq, exists_eq_left', exists_eq_left, exists_eq', exists_eq, exists_and_left, exists_and_right, and_assoc, List.cons.injEq, V.str.injEq, V.ref.injEq, V.bl.injEq, V.int.injEq, V.ty.injEq, and_true, true_and, reduceCtorEq, false_and, and_false,
  Bool.not_true, Bool.not_false, Bool.false_eq_true, reduceIte, Bool.not_eq_true', decide_eq_true_eq, upd_same, cx_K, HO.ins.injEq, HO.tup.injEq, HO.lst.injEq, HO.dK.injEq, lk_Run_old, lk_Run_then, lk_Run_names, lm_Run_str, lk_Lead_tests, lk_Lead_old, lk_Lead_then, lk_Lead_names, lm_Lead_str, lk_Join_here, lk_Join_came, lk_Join_then, lk_Join_names, lm_Join_str, lk_Tool_marks, lk_Tool_told, lk_Tool_parts, lk_Tool_clears, lk_Tool_rows, lk_Tool_blank, lm_Tool_need_mark, lm_Tool_is_told, lm_Tool_ran, lm_Tool_led, lm_Tool_joined, lm_Tool_keeps, lm_Tool_need_row, lm_Tool_but, lm_Tool_without, lm_Tool_heeding, lm_Tool_len, lm_Tool_eq, lm_Tool_str, lk_Single_tool, lk_Single_begin, lm_Single_machine_steps, lm_Single_led, lm_Single_joined, lk_Ways_steps, lk_Ways_machine, lk_Ways_coming, lk_Ways_hearings, lk_Ways_elders, lm_Ways_edited, lm_Ways_heard, lk_Meeting_hearings, lk_Meeting_item, lk_Meeting_deeds, lk_Meeting_waiting, lk_Told_steps, lk_Told_machine, lk_Told_coming, lk_Told_hearings, lm_Told_is_closed])
local macro_rules | `(tactic| walk_at "rd*") => `(tactic| simp (config := {failIfUnchanged := false}) only [tVar, tC, tIsN, tNotN, tB, tAnd, tOr, tNot, tAndV, tOrV, tNotV, tIf, tNext, tSeq, tBreak, tCont, tDrop, tRet, tRetN, tIfS, gName, gNil, gCons, gTup, tAsg, tPar,
  iList, iTup, iRng1, iRng2, r_tFor, tFmt, tJs, or_false, false_or, exists_false, r_tLc, r_tDc, bf, iSeq, r_wipe0, r_wipe1, tOp, tUn, rI, rI0, rU, rEq, rNe, tTest, tChain, tFld, sFld, tNil, tCons, tTup, tLst, tCall, tMeth, tMake, tCB, tNoPart, tPart, tSl, rIxL, rIxT, rIxQ, rSlQ, r_tLc2, tXGet, tXIn, tXNotIn, sXPut, tXSetd, tXDisp1, iKeysX, iItemsX, tFrz, tFrzE, tRetag, ClX.tCMeth, iEnum, gPr, gUnl, tDNewK, tMakeL, rIxD, cx_w, cx_P, rSlL, rIn, tBM0, tBM, rAppend, rExtend, rPop, rPopAt, rAny, rAll, tYes, iStr, rNewStrs, tM0, tM1, StX.tStar,
  L2.start, List.map_cons, List.map_nil, List.length_cons, List.length_nil, Nat.zero_add, Nat.reduceAdd, Nat.reduceSub, List.replicate_succ, List.replicate_zero, List.cons_append, List.nil_append, List.append_nil, List.set_cons_zero, List.set_cons_succ,
  List.getElem?_cons_zero, List.getElem?_cons_succ, Option.some.injEq, exists_eq_left', exists_eq_left, exists_eq', exists_eq, exists_and_left, exists_and_right, and_assoc, List.cons.injEq, V.str.injEq, V.ref.injEq, V.bl.injEq, V.int.injEq, V.ty.injEq, and_true, true_and, reduceCtorEq, false_and, and_false,
  Bool.not_true, Bool.not_false, Bool.false_eq_true, reduceIte, Bool.not_eq_true', decide_eq_true_eq, upd_same, cx_K, HO.ins.injEq, HO.tup.injEq, HO.lst.injEq, HO.dK.injEq, lk_Run_old, lk_Run_then, lk_Run_names, lm_Run_str, lk_Lead_tests, lk_Lead_old, lk_Lead_then, lk_Lead_names, lm_Lead_str, lk_Join_here, lk_Join_came, lk_Join_then, lk_Join_names, lm_Join_str, lk_Tool_marks, lk_Tool_told, lk_Tool_parts, lk_Tool_clears, lk_Tool_rows, lk_Tool_blank, lm_Tool_need_mark, lm_Tool_is_told, lm_Tool_ran, lm_Tool_led, lm_Tool_joined, lm_Tool_keeps, lm_Tool_need_row, lm_Tool_but, lm_Tool_without, lm_Tool_heeding, lm_Tool_len, lm_Tool_eq, lm_Tool_str, lk_Single_tool, lk_Single_begin, lm_Single_machine_steps, lm_Single_led, lm_Single_joined, lk_Ways_steps, lk_Ways_machine, lk_Ways_coming, lk_Ways_hearings, lk_Ways_elders, lm_Ways_edited, lm_Ways_heard, lk_Meeting_hearings, lk_Meeting_item, lk_Meeting_deeds, lk_Meeting_waiting, lk_Told_steps, lk_Told_machine, lk_Told_coming, lk_Told_hearings, lm_Told_is_closed, *])
section
variable {P : Program} {w : World} {K : PySem.W.Frag} {mg : Str → Option Value} {base : Heap}
/-! ### need_fault, faults -/
def spNeedFault : Sp := fun vs H Q _ => ∃ f, vs = [.str f] ∧ f ∈ faultsL ∧ ∀ H', Same H H' → Q .non H'
theorem sc_need_fault : FnScope ["fault"] ["fault"] (defScope st_need_fault) := ⟨rfl, rfl, rfl, by decide +kernel, rfl, by decide +kernel, by decide +kernel⟩
theorem x_need_fault (T : Tx w K mg) : FX P w K mg base 1 "need_fault" ["fault"] spNeedFault := by
  obtain ⟨fd, F⟩ := fun_need_fault T.c
  refine FX.of F T.g_need_fault sc_need_fault (fun _ _ _ _ _ _ us hl => match us, hl with | [_], _ => rfl) (fun vs H Q E h => ?_) (fun cdv A outer s H vs Q E hr h => ?_)
  · obtain ⟨f, rfl, _⟩ := h
    rfl
  · obtain ⟨f, rfl, hf, k⟩ := h
    refine ⟨_, pss_one (ps_if (PW.pt (pw_or (pt_not (pt_val (pb isi_str T.n_isinstance (pa2 (pv 0) (pty (n := "str") T.n_str))))) (pw_or1 (pt_cmpR op_notIn_seq (pv 0) (pgr T.g_FAULTS) (by rfl))))) pss_never pss_nil), ?_⟩
    walk_at "rd*"
    refine ⟨sv faultsL, .inr (T.t_FAULTS H), rfl, flat_sv _, ?_⟩
    rw [inV_str, mem_any hf]
    exact iteN (by decide) (k H (Same.refl _))
theorem two_new {H : Hp} {x dx : Addr} {o1 o2 : HO} (nx : H x = none) (nd : H dx = none) (ne : dx ≠ x) : Same H (upd (upd H dx o1) x o2) :=
  (same_new nd).trans (same_new (by rw [upd_ne (fun e => ne e.symm)]; exact nx))
/-- Ways(Single(tool)) -/
theorem mk_ways {H : Hp} {t : Addr} {d : ToolD} {R : Addr → Hp → Prop} (ht : ToolAt K H t d) (ok : d.ok) (k : ∀ x H', Same H H' → WaysAt K P w H' x d → R x H') (x dx : Addr) (nx : H x = none) (nd : H dx = none) (ne : dx ≠ x) :
    spSingleInit K [.ref x, .ref t] (upd (upd H dx (.own x)) x (.ins (He.ga K "Single") dx [])) (fun v H2 => v = .non ∧ ∀ x1 dx, H2 x1 = none → H2 dx = none → dx ≠ x1 →
      spWaysInit K P w [.ref x1, .ref x] (upd (upd H2 dx (.own x1)) x1 (.ins (He.ga K "Ways") dx [])) (fun v H2 => v = .non ∧ R x1 H2) E0) E0 :=
  ⟨x, dx, t, d, rfl, upd_same, ht.same (two_new nx nd ne), fun H1 e1 S => ⟨rfl, fun x1 dx1 nx1 nd1 ne1 => ⟨x1, dx1, x, d, rfl, upd_same, S.imm (Imm.of_same (two_new nx1 nd1 ne1)), ok, fun H2 e2 W => ⟨rfl, k x1 H2 ((Imm.made nx nd e1).trans (Imm.made nx1 nd1 e2)) W⟩⟩⟩⟩
def spFaults (K : PySem.W.Frag) : Sp := fun vs H Q _ => ∃ (t : Addr) (d : ToolD), vs = [.ref t] ∧ ToolAt K H t d ∧ d.ok ∧ ∀ p H', Same H H' → H' p = some (.tup (sv (faultsL.filter (hap d)))) → Q (.ref p) H'
theorem sc_faults : FnScope ["tool", "ways", "fault"] ["tool"] (defScope st_faults) := ⟨rfl, rfl, rfl, by decide +kernel, rfl, by decide +kernel, by decide +kernel⟩
theorem x_faults (T : Tx w K mg) : FX P w K mg base 9 "faults" ["tool"] (spFaults K) := by
  obtain ⟨fd, F⟩ := fun_faults T.c
  have G1 : CX1 P w K mg base 1 "Single" ["self", "tool"] (spSingleInit K) := x_Single_init T
  have G2 : CX1 P w K mg base 7 "Ways" ["self", "steps"] (spWaysInit K P w) := x_Ways_init T
  have G3 : FX P w K mg base 6 "least_meeting" ["tool", "ways", "fault"] (spLeast K P w) := x_least T
  refine FX.of F T.g_faults sc_faults (fun _ _ _ _ _ _ us hl => match us, hl with | [_], _ => rfl) (fun vs H Q E h => ?_) (fun cdv A outer s H vs Q E hr h => ?_)
  · obtain ⟨t, d, rfl, _⟩ := h
    rfl
  · obtain ⟨t, d, rfl, ht, ok, k⟩ := h
    refine ⟨_, pss_cons (ps_set (i := 1) sc_faults.nd rfl (Or.inr rfl) (pk G2 hr (pa1 (pk G1 hr (pa1 (pv 0))))))
      (pss_one (ps_ret (pbt call_tuple_of T.n_tuple (pa1 (plcI sc_faults 2 (pi_tup (pgr T.g_FAULTS)) (fun _ _ _ _ _ => pt_cmpR op_notN (pc G3 hr (pa_cons (pv 0) (pa2 (pv 1) (pv 2)))) pe_non (nomark _)) (fun _ _ _ _ _ => pv 2)))))), ?_⟩
    have fl := T.fl
    walk_at "rd*"
    refine mk_ways ht ok fun x H1 s1 W => ⟨⟨_, T.t_FAULTS H1⟩, fun D hD => ?_⟩
    obtain ⟨c, h, xc, hs, hd⟩ := W.head T
    refine lcF walk_tup rfl (by decide) hD (fun v => hap d (vStr v)) id (fun H2 s2 => Same.seqT s2 (T.t_FAULTS H1)) (fun x2 hx H2 s2 _ Ky Kn ky kn => ?_) fun H2 s2 e => ?_
    · obtain ⟨z, hzl, rfl⟩ := mem_sv hx
      walk_at "rd"
      refine ⟨t, x, z, d, c, h, xc, hs, rfl, hzl, ht.same (s1.trans s2), ok, hd.same s2, fun nf H3 s3 => kn nf _ s3, fun yf a H3 s3 => ky yf _ s3⟩
    · refine ⟨_, .inl ⟨SqL.of e, fun p hp => ?_⟩⟩
      refine k p _ (Same.new (s1.trans s2) hp) ?_
      rw [upd_same]
      unfold sv
      rw [List.map_id, List.filter_map]
      rfl
end
end Lm
set_option Elab.async false
set_option linter.all false
set_option maxRecDepth 100000
set_option maxHeartbeats 4000000
namespace Lm
open PySem PySem.Spec PyProof.Rows L2
local macro_rules | `(tactic| walk_at "rd") => `(tactic| simp (config := {failIfUnchanged := false}) only [tVar, tC, tIsN, tNotN, tB, tAnd, tOr, tNot, tAndV, tOrV, tNotV, tIf, tNext, tSeq, tBreak, tCont, tDrop, tRet, tRetN, tIfS, gName, gNil, gCons, gTup, tAsg, tPar,
  iList, iTup, iRng1, iRng2, r_tFor, tFmt, tJs, or_false, false_or, exists_false, r_tLc, r_tDc, bf, iSeq, r_wipe0, r_wipe1, tOp, tUn, rI, rI0, rU, rEq, rNe, tTest, tChain, tFld, sFld, tNil, tCons, tTup, tLst, tCall, tMeth, tMake, tCB, tNoPart, tPart, tSl, rIxL, rIxT, rIxQ, rSlQ, r_tLc2, tXGet, tXIn, tXNotIn, sXPut, tXSetd, tXDisp1, iKeysX, iItemsX, tFrz, tFrzE, tRetag, ClX.tCMeth, iEnum, gPr, gUnl, tDNewK, tMakeL, rIxD, cx_w, cx_P, rSlL, rIn, tBM0, tBM, rAppend, rExtend, rPop, rPopAt, rAny, rAll, tYes, iStr, rNewStrs, tM0, tM1, StX.tStar,
  L2.start, List.map_cons, List.map_nil, List.length_cons, List.length_nil, Nat.zero_add, Nat.reduceAdd, Nat.reduceSub, List.replicate_succ, List.replicate_zero, List.cons_append, List.nil_append, List.append_nil, List.set_cons_zero, List.set_cons_succ,
  List.getElem?_cons_zero, List.getElem?_cons_succ, Option.some.injEq, exists_eq_left', exists_eq_left, exists_eq', exists_eq, exists_and_left, exists_and_right, and_assoc, List.cons.injEq, V.str.injEq, V.ref.injEq, V.bl.injEq, V.int.injEq, V.ty.injEq, and_true, true_and, reduceCtorEq, false_and, and_false,
  Bool.not_true, Bool.not_false, Bool.false_eq_true, reduceIte, Bool.not_eq_true', decide_eq_true_eq, upd_same, cx_K, HO.ins.injEq, HO.tup.injEq, HO.lst.injEq, HO.dK.injEq, lk_Run_old, lk_Run_then, lk_Run_names, lm_Run_str, lk_Lead_tests, lk_Lead_old, lk_Lead_then, lk_Lead_names, lm_Lead_str, lk_Join_here, lk_Join_came, lk_Join_then, lk_Join_names, lm_Join_str, lk_Tool_marks, lk_Tool_told, lk_Tool_parts, lk_Tool_clears, lk_Tool_rows, lk_Tool_blank, lm_Tool_need_mark, lm_Tool_is_told, lm_Tool_ran, lm_Tool_led, lm_Tool_joined, lm_Tool_keeps, lm_Tool_need_row, lm_Tool_but, lm_Tool_without, lm_Tool_heeding, lm_Tool_len, lm_Tool_eq, lm_Tool_str, lk_Single_tool, lk_Single_begin, lm_Single_machine_steps, lm_Single_led, lm_Single_joined, lk_Ways_steps, lk_Ways_machine, lk_Ways_coming, lk_Ways_hearings, lk_Ways_elders, lm_Ways_edited, lm_Ways_heard, lk_Meeting_hearings, lk_Meeting_item, lk_Meeting_deeds, lk_Meeting_waiting, lk_Told_steps, lk_Told_machine, lk_Told_coming, lk_Told_hearings, lm_Told_is_closed])
local macro_rules | `(tactic| walk_at "rd*") => `(tactic| simp (config := {failIfUnchanged := false}) only [tVar, tC, tIsN, tNotN, tB, tAnd, tOr, tNot, tAndV, tOrV, tNotV, tIf, tNext, tSeq, tBreak, tCont, tDrop, tRet, tRetN, tIfS, gName, gNil, gCons, gTup, tAsg, tPar,
  iList, iTup, iRng1, iRng2, r_tFor, tFmt, tJs, or_false, false_or, exists_false, r_tLc, r_tDc, bf, iSeq, r_wipe0, r_wipe1, tOp, tUn, rI, rI0, rU, rEq, rNe, tTest, tChain, tFld, sFld, tNil, tCons, tTup, tLst, tCall, tMeth, tMake, tCB, tNoPart, tPart, tSl, rIxL, rIxT, rIxQ, rSlQ, r_tLc2, tXGet, tXIn, tXNotIn, sXPut, tXSetd, tXDisp1, iKeysX, iItemsX, tFrz, tFrzE, tRetag, ClX.tCMeth, iEnum, gPr, gUnl, tDNewK, tMakeL, rIxD, cx_w, cx_P, rSlL, rIn, tBM0, tBM, rAppend, rExtend, rPop, rPopAt, rAny, rAll, tYes, iStr, rNewStrs, tM0, tM1, StX.tStar,
  L2.start, List.map_cons, List.map_nil, List.length_cons, List.length_nil, Nat.zero_add, Nat.reduceAdd, Nat.reduceSub, List.replicate_succ, List.replicate_zero, List.cons_append, List.nil_append, List.append_nil, List.set_cons_zero, List.set_cons_succ,
  List.getElem?_cons_zero, List.getElem?_cons_succ, Option.some.injEq, exists_eq_left', exists_eq_left, exists_eq', exists_eq, exists_and_left, exists_and_right, and_assoc, List.cons.injEq, V.str.injEq, V.ref.injEq, V.bl.injEq, V.int.injEq, V.ty.injEq, and_true, true_and, reduceCtorEq, false_and, and_false,
  Bool.not_true, Bool.not_false, Bool.false_eq_true, reduceIte, Bool.not_eq_true', decide_eq_true_eq, upd_same, cx_K, HO.ins.injEq, HO.tup.injEq, HO.lst.injEq, HO.dK.injEq, lk_Run_old, lk_Run_then, lk_Run_names, lm_Run_str, lk_Lead_tests, lk_Lead_old, lk_Lead_then, lk_Lead_names, lm_Lead_str, lk_Join_here, lk_Join_came, lk_Join_then, lk_Join_names, lm_Join_str, lk_Tool_marks, lk_Tool_told, lk_Tool_parts, lk_Tool_clears, lk_Tool_rows, lk_Tool_blank, lm_Tool_need_mark, lm_Tool_is_told, lm_Tool_ran, lm_Tool_led, lm_Tool_joined, lm_Tool_keeps, lm_Tool_need_row, lm_Tool_but, lm_Tool_without, lm_Tool_heeding, lm_Tool_len, lm_Tool_eq, lm_Tool_str, lk_Single_tool, lk_Single_begin, lm_Single_machine_steps, lm_Single_led, lm_Single_joined, lk_Ways_steps, lk_Ways_machine, lk_Ways_coming, lk_Ways_hearings, lk_Ways_elders, lm_Ways_edited, lm_Ways_heard, lk_Meeting_hearings, lk_Meeting_item, lk_Meeting_deeds, lk_Meeting_waiting, lk_Told_steps, lk_Told_machine, lk_Told_coming, lk_Told_hearings, lm_Told_is_closed, *])
section
variable {P : Program} {w : World} {K : PySem.W.Frag} {mg : Str → Option Value} {base : Heap}
/-! ### lists -/
/-- a paper's value: all items of the machine and of the head -/
def PaperV (H : Hp) (d : ToolD) (p : Addr) : Prop := ∃ a b ka kb va vb, H p = some (.tup [.ref a, .ref b]) ∧ H a = some (.tup va) ∧ H b = some (.tup vb) ∧ ItemsAt H ka va ∧ ItemsAt H kb vb ∧ (∀ k, k ∈ ka ↔ MR d k) ∧ (∀ k, k ∈ kb ↔ HR d k) ∧ ka.length ≤ 100 ∧ kb.length ≤ 100
theorem items_keys {H : Hp} : ∀ {xs : List XE}, KeysAt H xs → ItemsAt H (keysX xs) (xs.map fun e => V.ref e.2.1)
  | [], _ => .nil
  | x :: _, h => .cons ⟨x.2.1, rfl, h x List.mem_cons_self⟩ (items_keys fun y hy => h y (List.mem_cons_of_mem _ hy))
def spLists (K : PySem.W.Frag) : Sp := fun vs H Q _ => ∃ (t : Addr) (d : ToolD), vs = [.ref t] ∧ ToolAt K H t d ∧ d.ok ∧ ∀ p H', Same H H' → PaperV H' d p → Q (.ref p) H'
theorem sc_lists : FnScope ["tool", "ways"] ["tool"] (defScope st_lists) := ⟨rfl, rfl, rfl, by decide +kernel, rfl, by decide +kernel, by decide +kernel⟩
theorem x_lists (T : Tx w K mg) : FX P w K mg base 9 "lists" ["tool"] (spLists K) := by
  obtain ⟨fd, F⟩ := fun_lists T.c
  have G1 : CX1 P w K mg base 1 "Single" ["self", "tool"] (spSingleInit K) := x_Single_init T
  have G2 : CX1 P w K mg base 7 "Ways" ["self", "steps"] (spWaysInit K P w) := x_Ways_init T
  refine FX.of F T.g_lists sc_lists (fun _ _ _ _ _ _ us hl => match us, hl with | [_], _ => rfl) (fun vs H Q E h => ?_) (fun cdv A outer s H vs Q E hr h => ?_)
  · obtain ⟨t, d, rfl, _⟩ := h
    rfl
  · obtain ⟨t, d, rfl, ht, ok, k⟩ := h
    refine ⟨_, pss_cons (ps_set (i := 1) sc_lists.nd rfl (Or.inl rfl) (pk G2 hr (pa1 (pk G1 hr (pa1 (pv 0))))))
      (pss_one (ps_ret (pe_tup (pa2 (pbt call_tuple_of T.n_tuple (pa1 (pb (cr_sortedX rfl (room64 hr)) T.n_sorted (pa1 (pe_fld (pv 1) rfl))))) (pbt call_tuple_of T.n_tuple (pa1 (pb (cr_sortedX rfl (room64 hr)) T.n_sorted (pa1 (pe_fld (pv 1) rfl))))))))), ?_⟩
    have fl := T.fl
    walk_at "rd*"
    refine mk_ways ht ok fun x H1 s1 W => ?_
    obtain ⟨dx, s9, m, c, h, e, xm, xc, hs, om, oc, oh, a1, a2, ⟨b1, b2, b3, b4⟩, _, d1, d2, d3, d4, d5⟩ := W.ex
    have fl := T.fl
    walk_at "rd*"
    refine ⟨om, xm, rfl, b2, by omega, fun bs p pm hp => ⟨_, .inl ⟨SqL.of upd_same, fun l hl => ?_⟩⟩⟩
    have s3 := (same_new (o := .lst (bs.map fun e => V.ref e.2.1)) hp).trans (same_new (o := .tup (bs.map fun e => V.ref e.2.1)) hl)
    have el : upd (upd H1 p (.lst (bs.map fun e => V.ref e.2.1))) l (.tup (bs.map fun e => V.ref e.2.1)) l = some (.tup (bs.map fun e => V.ref e.2.1)) := upd_same
    generalize upd (upd H1 p (.lst (bs.map fun e => V.ref e.2.1))) l (.tup (bs.map fun e => V.ref e.2.1)) = H3 at *
    have a3 := s3 _ _ a1
    have d13 := s3 _ _ d1
    walk_at "rd*"
    refine ⟨oh, hs, rfl, d2.imm (Imm.of_same s3), by omega, fun bs2 p2 pm2 hp2 => ⟨_, .inl ⟨SqL.of upd_same, fun l2 hl2 => ?_⟩⟩⟩
    have s5 := (same_new (o := .lst (bs2.map fun e => V.ref e.2.1)) hp2).trans (same_new (o := .tup (bs2.map fun e => V.ref e.2.1)) hl2)
    have el2 : upd (upd H3 p2 (.lst (bs2.map fun e => V.ref e.2.1))) l2 (.tup (bs2.map fun e => V.ref e.2.1)) l2 = some (.tup (bs2.map fun e => V.ref e.2.1)) := upd_same
    generalize upd (upd H3 p2 (.lst (bs2.map fun e => V.ref e.2.1))) l2 (.tup (bs2.map fun e => V.ref e.2.1)) = H5 at *
    walk_at "rd"
    refine ⟨by decide, fun p6 hp6 => ?_⟩
    have s6 := same_new (o := .tup [.ref l, .ref l2]) hp6
    have k6 : KeysAt (upd H5 p6 (.tup [.ref l, .ref l2])) bs := fun y hy => (s5.trans s6) _ _ (s3 _ _ (b2 y (pm.mem_iff.mp hy)))
    have k7 : KeysAt (upd H5 p6 (.tup [.ref l, .ref l2])) bs2 := fun y hy => (s5.trans s6) _ _ (s3 _ _ (d2 y (pm2.mem_iff.mp hy)))
    refine k p6 _ (((s1.trans s3).trans s5).trans s6) ⟨l, l2, keysX bs, keysX bs2, _, _, upd_same, (s5.trans s6) _ _ el, s6 _ _ el2, items_keys k6, items_keys k7, fun q => ?_, fun q => ?_, ?_, ?_⟩
    · rw [← b4 q]
      exact (pm.map (·.1)).mem_iff
    · rw [← d5 q]
      exact (pm2.map (·.1)).mem_iff
    · rw [keysX_len, pm.length_eq]
      omega
    · rw [keysX_len, pm2.length_eq]
      omega
end
end Lm
set_option Elab.async false
set_option linter.all false
set_option maxRecDepth 100000
set_option maxHeartbeats 4000000
namespace Lm
open PySem PySem.Spec PyProof.Rows L2
local macro_rules | `(tactic| walk_at "rd") => `(tactic| simp (config := {failIfUnchanged := false}) only [tVar, tC, tIsN, tNotN, tB, tAnd, tOr, tNot, tAndV, tOrV, tNotV, tIf, tNext, tSeq, tBreak, tCont, tDrop, tRet, tRetN, tIfS, gName, gNil, gCons, gTup, tAsg, tPar,
  iList, iTup, iRng1, iRng2, r_tFor, tFmt, tJs, or_false, false_or, exists_false, r_tLc, r_tDc, bf, iSeq, r_wipe0, r_wipe1, tOp, tUn, rI, rI0, rU, rEq, rNe, tTest, tChain, tFld, sFld, tNil, tCons, tTup, tLst, tCall, tMeth, tMake, tCB, tNoPart, tPart, tSl, rIxL, rIxT, rIxQ, rSlQ, r_tLc2, tXGet, tXIn, tXNotIn, sXPut, tXSetd, tXDisp1, iKeysX, iItemsX, tFrz, tFrzE, tRetag, ClX.tCMeth, iEnum, gPr, gUnl, tDNewK, tMakeL, rIxD, cx_w, cx_P, rSlL, rIn, tBM0, tBM, rAppend, rExtend, rPop, rPopAt, rAny, rAll, tYes, iStr, rNewStrs, tM0, tM1, StX.tStar,
  L2.start, List.map_cons, List.map_nil, List.length_cons, List.length_nil, Nat.zero_add, Nat.reduceAdd, Nat.reduceSub, List.replicate_succ, List.replicate_zero, List.cons_append, List.nil_append, List.append_nil, List.set_cons_zero, List.set_cons_succ,
  List.getElem?_cons_zero, List.getElem?_cons_succ, Option.some.injEq, exists_eq_left', exists_eq_left, exists_eq', exists_eq, exists_and_left, exists_and_right, and_assoc, List.cons.injEq, V.str.injEq, V.ref.injEq, V.bl.injEq, V.int.injEq, V.ty.injEq, and_true, true_and, reduceCtorEq, false_and, and_false,
  Bool.not_true, Bool.not_false, Bool.false_eq_true, reduceIte, Bool.not_eq_true', decide_eq_true_eq, upd_same, cx_K, HO.ins.injEq, HO.tup.injEq, HO.lst.injEq, HO.dK.injEq, lk_Run_old, lk_Run_then, lk_Run_names, lm_Run_str, lk_Lead_tests, lk_Lead_old, lk_Lead_then, lk_Lead_names, lm_Lead_str, lk_Join_here, lk_Join_came, lk_Join_then, lk_Join_names, lm_Join_str, lk_Tool_marks, lk_Tool_told, lk_Tool_parts, lk_Tool_clears, lk_Tool_rows, lk_Tool_blank, lm_Tool_need_mark, lm_Tool_is_told, lm_Tool_ran, lm_Tool_led, lm_Tool_joined, lm_Tool_keeps, lm_Tool_need_row, lm_Tool_but, lm_Tool_without, lm_Tool_heeding, lm_Tool_len, lm_Tool_eq, lm_Tool_str, lk_Single_tool, lk_Single_begin, lm_Single_machine_steps, lm_Single_led, lm_Single_joined, lk_Ways_steps, lk_Ways_machine, lk_Ways_coming, lk_Ways_hearings, lk_Ways_elders, lm_Ways_edited, lm_Ways_heard, lk_Meeting_hearings, lk_Meeting_item, lk_Meeting_deeds, lk_Meeting_waiting, lk_Told_steps, lk_Told_machine, lk_Told_coming, lk_Told_hearings, lm_Told_is_closed])
local macro_rules | `(tactic| walk_at "rd*") => `(tactic| simp (config := {failIfUnchanged := false}) only [tVar, tC, tIsN, tNotN, tB, tAnd, tOr, tNot, tAndV, tOrV, tNotV, tIf, tNext, tSeq, tBreak, tCont, tDrop, tRet, tRetN, tIfS, gName, gNil, gCons, gTup, tAsg, tPar,
  iList, iTup, iRng1, iRng2, r_tFor, tFmt, tJs, or_false, false_or, exists_false, r_tLc, r_tDc, bf, iSeq, r_wipe0, r_wipe1, tOp, tUn, rI, rI0, rU, rEq, rNe, tTest, tChain, tFld, sFld, tNil, tCons, tTup, tLst, tCall, tMeth, tMake, tCB, tNoPart, tPart, tSl, rIxL, rIxT, rIxQ, rSlQ, r_tLc2, tXGet, tXIn, tXNotIn, sXPut, tXSetd, tXDisp1, iKeysX, iItemsX, tFrz, tFrzE, tRetag, ClX.tCMeth, iEnum, gPr, gUnl, tDNewK, tMakeL, rIxD, cx_w, cx_P, rSlL, rIn, tBM0, tBM, rAppend, rExtend, rPop, rPopAt, rAny, rAll, tYes, iStr, rNewStrs, tM0, tM1, StX.tStar,
  L2.start, List.map_cons, List.map_nil, List.length_cons, List.length_nil, Nat.zero_add, Nat.reduceAdd, Nat.reduceSub, List.replicate_succ, List.replicate_zero, List.cons_append, List.nil_append, List.append_nil, List.set_cons_zero, List.set_cons_succ,
  List.getElem?_cons_zero, List.getElem?_cons_succ, Option.some.injEq, exists_eq_left', exists_eq_left, exists_eq', exists_eq, exists_and_left, exists_and_right, and_assoc, List.cons.injEq, V.str.injEq, V.ref.injEq, V.bl.injEq, V.int.injEq, V.ty.injEq, and_true, true_and, reduceCtorEq, false_and, and_false,
  Bool.not_true, Bool.not_false, Bool.false_eq_true, reduceIte, Bool.not_eq_true', decide_eq_true_eq, upd_same, cx_K, HO.ins.injEq, HO.tup.injEq, HO.lst.injEq, HO.dK.injEq, lk_Run_old, lk_Run_then, lk_Run_names, lm_Run_str, lk_Lead_tests, lk_Lead_old, lk_Lead_then, lk_Lead_names, lm_Lead_str, lk_Join_here, lk_Join_came, lk_Join_then, lk_Join_names, lm_Join_str, lk_Tool_marks, lk_Tool_told, lk_Tool_parts, lk_Tool_clears, lk_Tool_rows, lk_Tool_blank, lm_Tool_need_mark, lm_Tool_is_told, lm_Tool_ran, lm_Tool_led, lm_Tool_joined, lm_Tool_keeps, lm_Tool_need_row, lm_Tool_but, lm_Tool_without, lm_Tool_heeding, lm_Tool_len, lm_Tool_eq, lm_Tool_str, lk_Single_tool, lk_Single_begin, lm_Single_machine_steps, lm_Single_led, lm_Single_joined, lk_Ways_steps, lk_Ways_machine, lk_Ways_coming, lk_Ways_hearings, lk_Ways_elders, lm_Ways_edited, lm_Ways_heard, lk_Meeting_hearings, lk_Meeting_item, lk_Meeting_deeds, lk_Meeting_waiting, lk_Told_steps, lk_Told_machine, lk_Told_coming, lk_Told_hearings, lm_Told_is_closed, *])
section
variable {X : Cx} {N ps : List Str} {sc : Scope} {iter elt kx : Expr} {x : Str} {scope : Scope} {pos p1 : Pos} {wi : TI} {tf kf : BF TE}
theorem pdX (hu : X.A.units < cLine) (S : FnScope N ps sc) (i : Nat) (hi : PI X (.Name x p1) iter wi) (hk : ∀ (s : Shared) (H : Hp) (C : Addr) (cl : List (Str × Addr)) (fp : List Addr), PE (X.blk s H scope (compEnvC scope cl C X.env) fp) kx (kf s H C cl fp))
    (he : ∀ (s : Shared) (H : Hp) (C : Addr) (cl : List (Str × Addr)) (fp : List Addr), PE (X.blk s H scope (compEnvC scope cl C X.env) fp) elt (tf s H C cl fp))
    (ok : blkC N sc scope [(x, i)] = true := by decide +kernel) (eN : X.N = N := by rfl) (eS : X.env.scope = sc := by rfl) (hx : X.N[i]? = some x := by rfl) (hc : X.calm = true := by rfl) (hf : ∀ s H C cl fp, tf s H C cl fp = bf X tf := by intros; rfl) (hf2 : ∀ s H C cl fp, kf s H C cl fp = bf X kf := by intros; rfl)
    (hL : ∀ (cl : List (Str × Addr)) (C : Addr), (compEnvC scope cl C X.env).scope.names.lookup x = some .local := by intro _ _; rfl) (hs : ∀ y, foldedSetIterable iter X.env y = pure y := by intro _; rfl) :
    PE X (.DictComp kx elt [⟨.Name x p1, iter, [], 0⟩] scope pos) (tDcX X.prog X.w wi (gName i) tYes (bf X kf) (bf X tf) [i]) :=
  have hN : X.N.Nodup := eN ▸ S.nd
  pe_dcX (own := [(x, i)]) hu hc hN hi (by rw [eN, eS]; exact blkOk_by ok) (fun s H C cl fp => pg_name (i := i) hN hx (.inl (hL cl C)) (.inr (hL cl C))) (fun _ _ _ _ _ => pts_nil) (fun s H C cl fp => by rw [← hf2 s H C cl fp]; exact hk s H C cl fp) (fun s H C cl fp => by rw [← hf s H C cl fp]; exact he s H C cl fp) hs
end
section
variable {P : Program} {w : World} {K : PySem.W.Frag} {mg : Str → Option Value} {base : Heap}
/-! ### Told(..) -/
structure ToldAt (K : PySem.W.Frag) (P : Program) (w : World) (H : Hp) (x : Addr) (d : ToolD) : Prop where
  ex : ∃ dx s m c h xc hs oc oh km vm, H x = some (.ins (He.ga K "Told") dx (fTold s m c h)) ∧ SingleAt K H s d ∧
    (H m = some (.tup vm) ∧ ItemsAt H km vm ∧ km.length ≤ 100 ∧ ∀ k, k ∈ km ↔ MR d k) ∧
    (H c = some (.frz oc (DX P w c xc)) ∧ KeysAt H xc ∧ xc.length ≤ 8 ∧ (∀ y ∈ xc, ∃ b v1 v2, y.2.2 = .ref b ∧ H b = some (.tup [v1, v2])) ∧ ∀ k, k ∈ keysX xc ↔ CR d k) ∧
    (H h = some (.frz oh (DX P w h hs)) ∧ KeysAt H hs ∧ hs.length ≤ 100 ∧ (∀ y ∈ hs, ∃ i, y.2.2 = .int i) ∧ ∀ k, k ∈ keysX hs ↔ HR d k)
theorem ToldAt.imm {H H' : Hp} {x : Addr} {d : ToolD} (W : ToldAt K P w H x d) (i : Imm H H') : ToldAt K P w H' x d := by
  obtain ⟨dx, s, m, c, h, xc, hs, oc, oh, km, vm, a1, a2, ⟨b1, b2, b3, b4⟩, ⟨c1, c2, c3, c4, c5⟩, d1, d2, d3, d4, d5⟩ := W.ex
  exact ⟨dx, s, m, c, h, xc, hs, oc, oh, km, vm, i _ _ rfl a1, a2.imm i, ⟨i _ _ rfl b1, b2.imm i, b3, b4⟩, ⟨i _ _ rfl c1, c2.imm i, c3, fun y hy => let ⟨b, v1, v2, q1, q2⟩ := c4 y hy; ⟨b, v1, v2, q1, i _ _ rfl q2⟩, c5⟩, i _ _ rfl d1, d2.imm i, d3, d4, d5⟩
theorem ToldAt.head {H : Hp} {x : Addr} {d : ToolD} (T : Tx w K mg) (W : ToldAt K P w H x d) : ∃ c h xc hs, HeadAt K P w H x d c h xc hs := by
  obtain ⟨dx, s, m, c, h, xc, hs, oc, oh, km, vm, a1, a2, _, ⟨c1, c2, c3, c4, c5⟩, d1, d2, d3, d4, d5⟩ := W.ex
  exact ⟨c, h, xc, hs, ⟨_, dx, _, a1, T.cl_Told, T.na_Told_coming, T.na_Told_hearings, rfl, rfl⟩, ⟨oc, c1⟩, c2, by omega, c4, c5, ⟨oh, d1⟩, d2, d3, d4, d5⟩
def spToldInit (K : PySem.W.Frag) (P : Program) (w : World) : Sp := fun vs H Q _ => ∃ x dx s d m b km vm kb vb, vs = [.ref x, .ref s, .ref m, .ref b] ∧ H x = some (.ins (He.ga K "Told") dx []) ∧ SingleAt K H s d ∧ d.ok ∧
  (H m = some (.tup vm) ∧ ItemsAt H km vm ∧ km.length ≤ 100 ∧ ∀ k, k ∈ km ↔ MR d k) ∧ (H b = some (.tup vb) ∧ ItemsAt H kb vb ∧ kb.length ≤ 100 ∧ ∀ k, k ∈ kb ↔ HR d k) ∧ ∀ H', Ex [x] H H' → ToldAt K P w H' x d → Q .non H'
theorem keysX_put_old {xs : List XE} {k : Kq} {b : Addr} {v : V} (h : hasX xs k = true) : keysX (putX xs k b v) = keysX xs := by
  unfold putX keysX
  rw [if_pos h, List.map_map]
  refine List.map_congr_left fun e _ => ?_
  show (if e.1 = k then (e.1, e.2.1, v) else e).1 = e.1
  by_cases q : e.1 = k
  · rw [if_pos q]
  · rw [if_neg q]
theorem CSt.put' {d : ToolD} {xs : List XE} {k : Kq} {b : Addr} {v : V} (h : CSt d xs) (hk : CR d k) : CSt d (putX xs k b v) := by
  cases e : hasX xs k with
  | false => exact h.put hk (hasX_no.mp e)
  | true =>
    have q : keysX (putX xs k b v) = keysX xs := keysX_put_old e
    exact ⟨by rw [q]; exact h.nd, fun l hl => h.all l (by rw [q] at hl; exact hl)⟩
theorem CoH.put' {d : ToolD} {G0 H1 : Hp} {c b t : Addr} {xs : List XE} {k : Kq} {v1 v2 : V} (h : CoH P w d G0 H1 c xs) (hb : H1 b = some (kT k)) (ht : H1 t = some (.tup [v1, v2])) (hk : CR d k) : CoH P w d G0 (upd H1 c (DX P w c (putX xs k b (.ref t)))) c (putX xs k b (.ref t)) := by
  obtain ⟨a1, a2, a3, a4, a5, a6⟩ := h
  have i : Imm H1 (upd H1 c (DX P w c (putX xs k b (.ref t)))) := imm_put a3 rfl
  refine ⟨a1.trans (Ex.put (by simp)), a2.trans i, upd_same, (a4.put hb).imm i, putX_vals (R := fun v => ∃ b2 u1 u2, v = .ref b2 ∧ upd H1 c (DX P w c (putX xs k b (.ref t))) b2 = some (.tup [u1, u2])) (fun y hy => ?_) ⟨t, v1, v2, rfl, i _ _ rfl ht⟩, a6.put' hk⟩
  obtain ⟨b2, u1, u2, q1, q2⟩ := a5 y hy
  exact ⟨b2, u1, u2, q1, i _ _ rfl q2⟩
def ToOut (P : Program) (w : World) (d : ToolD) (G0 : Hp) (x s m b c : Addr) (km : List Kq) (i : Nat) (σ : L2.St) (H' : Hp) : Prop := ∃ (xs : List XE) (v2 v3 : Option V), σ = [some (.ref x), some (.ref s), some (.ref m), some (.ref b), v2, v3] ∧ CoH P w d G0 H' c xs ∧ (∀ y ∈ km.take i, y ∈ keysX xs ∧ ∀ p ∈ pats8, kLed d y p ∈ keysX xs)
def ToIn (P : Program) (w : World) (d : ToolD) (G0 : Hp) (x s m b c bk : Addr) (km : List Kq) (i : Nat) (k : Kq) (j : Nat) (σ : L2.St) (H' : Hp) : Prop := ∃ (xs : List XE) (v3 : Option V), σ = [some (.ref x), some (.ref s), some (.ref m), some (.ref b), some (.ref bk), v3] ∧ CoH P w d G0 H' c xs ∧ (∀ y ∈ km.take i, y ∈ keysX xs ∧ ∀ p ∈ pats8, kLed d y p ∈ keysX xs) ∧ k ∈ keysX xs ∧ (∀ p ∈ pats8.take j, kLed d k p ∈ keysX xs)
theorem sc_Told_init : FnScope ["self", "steps", "machine", "head", "item", "pattern"] ["self", "steps", "machine", "head"] (defScope st_Told_init) := ⟨rfl, rfl, rfl, by decide +kernel, rfl, by decide +kernel, by decide +kernel⟩
theorem x_Told_init (T : Tx w K mg) : CX1 P w K mg base 5 "Told" ["self", "steps", "machine", "head"] (spToldInit K P w) := by
  obtain ⟨fd, F⟩ := fun_Told_init T.c
  have G4 : MX P w K mg base 4 (He.ga K "Single") "led" ["self", "item", "pattern"] (spSLed K) := x_SLed T
  obtain ⟨e8, h8, p8⟩ := T.t_EIGHT
  refine CX1.of F T.g_Told T.mk_Told sc_Told_init (fun _ _ _ _ _ _ us hl => match us, hl with | [_, _, _, _], _ => rfl) (fun vs H Q E h => ?_) (fun cdv A outer s H vs Q E hr h => ?_)
  · obtain ⟨x, dx, s, d, m, b, km, vm, kb, vb, rfl, _⟩ := h
    rfl
  · obtain ⟨x, dx, s, d, m, b, km, vm, kb, vb, rfl, hx, hs, ok, ⟨m1, m2, m3, m4⟩, ⟨b1, b2, b3, b4⟩, kk⟩ := h
    refine ⟨_, pss_cons (ps_fld (pv 0) (pv 1) rfl) (pss_cons (ps_fld (pv 0) (pv 2) rfl) (pss_cons (ps_fld (pv 0) pe_dnewK rfl)
      (pss_cons (ps_retag (ps_for PassesOwn.never rfl (pi_tup (pv 2)) (pg_name (i := 4) sc_Told_init.nd rfl (Or.inl rfl))
        (pss_cons (ps_xput (room1 hr) (pe_fld (pv 0) rfl) (pv 4) (pe_tup (pa2 (pv 4) pe_non)) rfl)
        (pss_one (ps_for PassesOwn.never rfl (pi_tup (pgr T.g_EIGHT)) (pg_name (i := 5) sc_Told_init.nd rfl (Or.inl rfl))
          (pss_one (ps_xput (room1 hr) (pe_fld (pv 0) rfl) (pm G4 T.cl_Single hr (pv 1) (pa2 (pv 4) (pv 5))) (pe_tup (pa2 (pv 4) (pv 5))) rfl)))))))
      (pss_one (ps_frzN (ps_frz (ps_fld (pv 0) (pdX (room0 hr) sc_Told_init 4 (pi_tup (pv 3)) (fun _ _ _ _ _ => pv 4) (fun _ _ _ _ _ => pe_int)) rfl))))))), ?_⟩
    have fl := T.fl
    walk_at "rd*"
    refine ⟨by decide, by show 1 < 1000; decide, fun c hc => ?_⟩
    have keepx : ∀ {G : Hp} {o : HO} {b : Addr} {l : HO}, H b = some l → l ≠ .ins (He.ga K "Told") dx [] → Ex [x] H G → G b = some l := fun e ne E => E _ _ e (by
      rw [List.mem_singleton]
      intro z
      rw [z, hx] at e
      exact ne (Option.some.inj e).symm)
    have sEx : ∀ {G : Hp}, Ex [x] H G → SingleAt K G s d := fun E => (let ⟨t, b, dxs, h1, h2, h3⟩ := hs.ex; ⟨t, b, dxs, keepx (o := .lst []) h1 (by simp [fSingle]) E, h2.ex' hx E, keepx (o := .lst []) h3 (by simp [kT]) E⟩)
    have iEx : ∀ {G : Hp} {ks : List Kq} {vs : List V}, Ex [x] H G → ItemsAt H ks vs → ItemsAt G ks vs := fun E h => L2.Paired.mapP h fun _ _ ⟨b, e, q⟩ => ⟨b, e, keepx (o := .lst []) q (by simp [kT]) E⟩
    rw [upd_upd] at hc ⊢
    generalize hf2 : putF "machine" (V.ref m) (putF "steps" (V.ref s) []) = f2 at *
    have E1 : Ex [x] H (upd H x (.ins (He.ga K "Told") dx f2)) := Ex.put (by simp)
    have x1 : upd H x (.ins (He.ga K "Told") dx f2) x = some (.ins (He.ga K "Told") dx f2) := upd_same
    generalize upd H x (.ins (He.ga K "Told") dx f2) = G1 at *
    have s2 := same_new (o := .dK []) hc
    have x2 := s2 _ _ x1
    have cx : c ≠ x := fun z => by rw [z, x1] at hc; cases hc
    walk_at "rd*"
    refine ⟨by rw [← hf2]; show 2 < 1000; decide, c, by rw [upd_ne cx, upd_same], ?_⟩
    generalize hf3 : putF "coming" (V.ref c) f2 = f3 at *
    have hcn : H c = none := by
      cases hcn : H c with
      | none => rfl
      | some u =>
        have := E1 _ _ hcn (by simpa using cx)
        rw [hc] at this
        cases this
    have E5 : Ex [x] H (upd (upd (upd G1 c (.dK [])) x (.ins (He.ga K "Told") dx f3)) c (DX P w c [])) := ((E1.trans (Ex.of_same s2)).trans (Ex.put (by simp))).fresh hcn
    have x5 : upd (upd (upd G1 c (.dK [])) x (.ins (He.ga K "Told") dx f3)) c (DX P w c []) x = some (.ins (He.ga K "Told") dx f3) := by rw [upd_ne cx.symm, upd_same]
    have c5 : upd (upd (upd G1 c (.dK [])) x (.ins (He.ga K "Told") dx f3)) c (DX P w c []) c = some (DX P w c []) := upd_same
    generalize upd (upd (upd G1 c (.dK [])) x (.ins (He.ga K "Told") dx f3)) c (DX P w c []) = G5 at *
    have lf3 : f3.lookup ("coming" : Str) = some (.ref c) ∧ f3.length = 3 := by rw [← hf3, ← hf2]; exact ⟨rfl, rfl⟩
    have tupk : ∀ {G : Hp} {b : Addr} {l : List V}, H b = some (.tup l) → Ex [x] H G → G b = some (.tup l) := fun e E => keepx (o := .lst []) e (fun z => nomatch z) E
    refine ⟨⟨_, SqT.of (tupk m1 E5)⟩, for_it (walk_tup (xs := vm)) (ToOut P w d G5 x s m b c km) ⟨[], none, none, rfl, ⟨Ex.of_same (Same.refl _), Imm.refl _, c5, fun y hy => (nomatch hy), fun y hy => (nomatch hy), ⟨List.nodup_nil, fun k hk => (nomatch hk)⟩⟩, fun y hy => by simp at hy⟩ (fun i σ H' _ q => ?_) ?_ ?_⟩
    · obtain ⟨xs, _, _, _, ⟨_, im, _⟩, _⟩ := q
      exact SqT.of (im _ _ rfl (tupk m1 E5))
    · rintro i y σ6 H6 H6' hi ⟨xs, v2, v3, rfl, co, tk⟩ ⟨rfl, hy⟩
      obtain ⟨k, hk, bk, rfl, hbk⟩ := pair_at (iEx E5 m2) hy
      have hkm := List.mem_of_getElem? hk
      have hmr : MR d k := (m4 k).mp hkm
      obtain ⟨cex, cim, ced, cka, cva, cst⟩ := id co
      have x6 := cim _ _ rfl x5
      have hk6 := cim _ _ rfl hbk
      walk_at "rd*"
      refine ⟨by decide, fun n1 hn1 => ?_⟩
      have s7 := same_new (o := .tup [.ref bk, .non]) hn1
      have e7 : upd H6' n1 (.tup [.ref bk, .non]) n1 = some (.tup [.ref bk, .non]) := upd_same
      have co7 := co.same s7
      have hk7 := s7 _ _ hk6
      have x7 := s7 _ _ x6
      generalize upd H6' n1 (.tup [.ref bk, .non]) = H7 at *
      have hcr : CR d k := ⟨k, hmr, .inl rfl⟩
      obtain ⟨_, _, ced7, cka7, _, cst7⟩ := id co7
      have c7 := cst7.few ok
      walk_at "rd*"
      have co8 := co7.put' hk7 e7 hcr
      have up8 : ∀ q ∈ keysX xs, q ∈ keysX (putX xs k bk (.ref n1)) := fun q hq => keysX_mem.mpr (.inl hq)
      have k8 : k ∈ keysX (putX xs k bk (.ref n1)) := keysX_mem.mpr (.inr rfl)
      refine ⟨k, xs, rfl, cka7, rfl, len_lt (by omega), ⟨_, h8 _⟩, for_it (walk_tup (xs := e8)) (ToIn P w d G5 x s m b c bk km i k) ⟨_, v3, rfl, co8, fun y hy => ⟨up8 _ (tk y hy).1, fun p hp => up8 _ ((tk y hy).2 p hp)⟩, k8, fun p hp => by simp at hp⟩ (fun j σ H' _ _ => h8 H') ?_ ?_⟩
      · rintro j z σ9 H9 H9' hj ⟨xs9, u3, rfl, co9, tk9, k9, tj9⟩ ⟨rfl, hz⟩
        obtain ⟨p, hp, pa, rfl, hpa⟩ := pair_at p8 hz
        have hp8 : pats8[j]? = some p := hp
        have hpm : p ∈ pats8 := List.mem_of_getElem? hp8
        obtain ⟨cex9, cim9, ced9, cka9, cva9, cst9⟩ := id co9
        have x9 := cim9 _ _ rfl x5
        have hk9 := cim9 _ _ rfl hbk
        have st9 := (sEx E5).imm cim9
        walk_at "rd*"
        have kin := hmr.mem ok
        refine ⟨by decide, fun n2 hn2 => ?_⟩
        have s10 := same_new (o := .tup [.ref bk, .ref pa]) hn2
        have co10 := co9.same s10
        have t10 : upd H9' n2 (.tup [.ref bk, .ref pa]) n2 = some (.tup [.ref bk, .ref pa]) := upd_same
        have x10 := s10 _ _ x9
        have hk10 := s10 _ _ hk9
        have st10 := st9.same s10
        generalize upd H9' n2 (.tup [.ref bk, .ref pa]) = H10 at *
        obtain ⟨t9, b9, dxs9, ss9, _, _⟩ := st10.ex
        walk_at "rd*"
        refine ⟨s, bk, pa, d, k, p, rfl, st10, ok, hk10, kin, hpa _, pats8_len p hpm, fun b1 H11 s11 e11 => ?_⟩
        have co11 := co10.same s11
        obtain ⟨_, _, ced11, cka11, _, cst11⟩ := id co11
        have c11 := cst11.few ok
        have hcr2 : CR d (kLed d k p) := ⟨k, hmr, .inr ⟨p, hpm, rfl⟩⟩
        have up : ∀ q ∈ keysX xs9, q ∈ keysX (putX xs9 (kLed d k p) b1 (.ref n2)) := fun q hq => keysX_mem.mpr (.inl hq)
        refine ⟨b1, rfl, kLed d k p, xs9, ced11, cka11, e11, len_lt (by omega), _, _, rfl, co11.put' e11 (s11 _ _ t10) hcr2, fun y hy => ⟨up _ (tk9 y hy).1, fun p hp => up _ ((tk9 y hy).2 p hp)⟩, up _ k9, fun q hq2 => ?_⟩
        rw [take_snoc hp8] at hq2
        rcases List.mem_append.mp hq2 with hq2 | hq2
        · exact up _ (tj9 q hq2)
        · rw [List.mem_singleton.mp hq2]; exact keysX_mem.mpr (.inr rfl)
      · rintro σ9 H9 ⟨xs9, u3, rfl, co9, tk9, k9, tj9⟩
        have wl : e8.length = pats8.length := (Paired.length p8).symm
        rw [wl, List.take_length] at tj9
        refine ⟨xs9, _, _, rfl, co9, fun y hy => ?_⟩
        rw [take_snoc hk] at hy
        rcases List.mem_append.mp hy with hy | hy
        · exact tk9 y hy
        · rw [List.mem_singleton.mp hy]
          exact ⟨k9, tj9⟩
    · rintro σ6 H6 ⟨xs, v2, v3, rfl, co, tk⟩
      have ml : vm.length = km.length := (Paired.length m2).symm
      rw [ml, List.take_length] at tk
      obtain ⟨cex, cim, ced, cka, cva, cst⟩ := id co
      have hcr : ∀ k, k ∈ keysX xs ↔ CR d k := fun k => ⟨cst.all k, fun hk => by
        obtain ⟨i, hi, q⟩ := hk
        have hy := (m4 i).mpr hi
        rcases q with e | ⟨p, hp, e⟩
        · rw [e]; exact (tk i hy).1
        · rw [e]; exact (tk i hy).2 p hp⟩
      have xc8 := cst.few ok
      have x6 := cim _ _ rfl x5
      have E6 : Ex [x] H H6 := fun b o e nb => cex _ _ (E5 _ _ e nb) (by simpa using ne_of_none e hcn)
      show tFrz P w (sFld K (tVar 0) (tDcX P w (iTup K (tVar 3)) (gName 4) tYes (tVar 4) (tC (V.int 0)) [4]) "hearings") { nx := fun σ' H' => ∃ a xs, H' a = some (DX P w a xs) ∧ ∀ o, Q .non (upd H' a (.frz o (DX P w a xs))), rt := Q } _ _
      walk_at "rd*"
      refine ⟨c, xs, ced, fun oc => ?_⟩
      have E7 : Ex [x] H (upd H6 c (.frz oc (DX P w c xs))) := E6.fresh hcn
      have x7 : upd H6 c (.frz oc (DX P w c xs)) x = some (.ins (He.ga K "Told") dx f3) := by rw [upd_ne cx.symm]; exact x6
      have c7 : upd H6 c (.frz oc (DX P w c xs)) c = some (.frz oc (DX P w c xs)) := upd_same
      have i67 : Imm H6 (upd H6 c (.frz oc (DX P w c xs))) := imm_put ced rfl
      have cka7 := cka.imm i67
      have cva7 : ∀ y ∈ xs, ∃ b v1 v2, y.2.2 = .ref b ∧ upd H6 c (.frz oc (DX P w c xs)) b = some (.tup [v1, v2]) := fun y hy => (let ⟨b, v1, v2, q1, q2⟩ := cva y hy; ⟨b, v1, v2, q1, i67 _ _ rfl q2⟩)
      generalize upd H6 c (.frz oc (DX P w c xs)) = H7 at *
      unfold tDcX
      walk_at "rd"
      refine ⟨⟨vb, SqT.of (tupk b1 E7)⟩, fun D hD => ?_⟩
      have bl : kb.length = vb.length := Paired.length b2
      refine ⟨fun i m H' => m = vb.length - i ∧ i ≤ vb.length ∧ Same H7 H' ∧ ∃ ys, H' D = some (DX P w D ys) ∧ KeysAt H' ys ∧ ys.length ≤ i ∧ (∀ y ∈ ys, ∃ n, y.2.2 = .int n) ∧ ∀ q, q ∈ keysX ys ↔ q ∈ kb.take i, ⟨_, rfl, Nat.zero_le _, same_new hD, [], upd_same, fun y hy => (nomatch hy), Nat.le_refl _, fun y hy => (nomatch hy), fun q => by simp [keysX]⟩, ?_⟩
      rintro i m H8 ⟨rfl, hi, s8, ys, e8, ka8, l8, v8, k8⟩
      by_cases lt : i < vb.length
      · refine .inr ⟨walk_tup.goes i H8 lt (SqT.of (s8 _ _ (tupk b1 E7))), fun H' => (i + 1 ≤ vb.length ∧ Same H7 H' ∧ ∃ ys, H' D = some (DX P w D ys) ∧ KeysAt H' ys ∧ ys.length ≤ i + 1 ∧ (∀ y ∈ ys, ∃ n, y.2.2 = .int n) ∧ ∀ q, q ∈ keysX ys ↔ q ∈ kb.take (i + 1)), fun H' q => ⟨_, by omega, rfl, q⟩, fun y H9 hy => ?_⟩
        obtain ⟨eh, hy2⟩ := walk_tup.yields i H8 y H9 lt (SqT.of (s8 _ _ (tupk b1 E7))) hy
        subst eh
        obtain ⟨k, hk, bk, rfl, hbk⟩ := pair_at (iEx E7 b2) hy2
        have hb8 := s8 _ _ hbk
        have i9 : Imm H9 (upd H9 D (DX P w D (putX ys k bk (.int 0)))) := imm_put e8 rfl
        refine ⟨ys, k, bk, rfl, e8, ka8, hb8, len_lt (by omega), lt, fun b o eb => ?_, _, upd_same, (ka8.put hb8).imm i9, ?_, putX_vals (R := fun v => ∃ n, v = .int n) v8 ⟨0, rfl⟩, fun q => ?_⟩
        · rw [upd_ne (ne_of_none eb hD)]
          exact s8 _ _ eb
        · exact Nat.le_trans (putX_len ..) (Nat.succ_le_succ l8)
        · rw [keysX_mem, k8 q, take_snoc hk, List.mem_append, List.mem_singleton]
      · have en : i = vb.length := by omega
        subst en
        refine .inl ⟨walk_tup.stops H8 (SqT.of (s8 _ _ (tupk b1 E7))), ?_⟩
        rw [← bl, List.take_length] at k8
        have x8 := s8 _ _ x7
        walk_at "rd*"
        have xD : x ≠ D := fun z => by rw [← z, x7] at hD; cases hD
        refine ⟨by show 3 < 1000; decide, D, ys, ?_, fun oh => ?_⟩
        · rw [upd_ne xD.symm]; exact e8
        · have hDn : H D = none := by
            cases hDn : H D with
            | none => rfl
            | some u =>
              have := E7 _ _ hDn (by simpa using xD.symm)
              rw [hD] at this
              cases this
          have E9 : Ex [x] H (upd (upd H8 x (.ins (He.ga K "Told") dx (putF "hearings" (V.ref D) f3))) D (.frz oh (DX P w D ys))) := ((E7.trans (Ex.of_same s8)).trans (Ex.put (by simp))).fresh hDn
          have imx : ∀ {b : Addr} {o : HO}, H8 b = some o → b ≠ x → b ≠ D → upd (upd H8 x (.ins (He.ga K "Told") dx (putF "hearings" (V.ref D) f3))) D (.frz oh (DX P w D ys)) b = some o := fun e n1 n2 => by rw [upd_ne n2, upd_ne n1]; exact e
          have hdn : ∀ {b : Addr} {o : HO}, H8 b = some o → imm o = true → b ≠ D := fun e i z => by rw [z, e8] at e; cases e; cases i
          have tupx : ∀ {b : Addr} {l : List V}, H8 b = some (.tup l) → upd (upd H8 x (.ins (He.ga K "Told") dx (putF "hearings" (V.ref D) f3))) D (.frz oh (DX P w D ys)) b = some (.tup l) := fun e => imx e (fun z => by rw [z, x8] at e; cases e) (hdn e rfl)
          have c8 := s8 _ _ c7
          have cD : c ≠ D := hdn c8 rfl
          refine kk _ E9 ⟨dx, s, m, c, D, xs, ys, oc, oh, km, vm, ?_, sEx E9, ⟨tupk m1 E9, iEx E9 m2, m3, m4⟩, ⟨imx c8 cx cD, fun y hy => tupx (s8 _ _ (cka7 y hy)), xc8, fun y hy => ?_, hcr⟩, upd_same, fun y hy => tupx (ka8 y hy), by omega, v8, fun q => by rw [k8 q]; exact b4 q⟩
          · rw [upd_ne xD, upd_same, ← hf3, ← hf2]
            rfl
          · obtain ⟨b, v1, v2, q1, q2⟩ := cva7 y hy
            exact ⟨b, v1, v2, q1, tupx (s8 _ _ q2)⟩
end
end Lm
set_option Elab.async false
set_option linter.all false
set_option maxRecDepth 100000
set_option maxHeartbeats 4000000
namespace Lm
open PySem PySem.Spec PyProof.Rows L2
local macro_rules | `(tactic| walk_at "rd") => `(tactic| simp (config := {failIfUnchanged := false}) only [tVar, tC, tIsN, tNotN, tB, tAnd, tOr, tNot, tAndV, tOrV, tNotV, tIf, tNext, tSeq, tBreak, tCont, tDrop, tRet, tRetN, tIfS, gName, gNil, gCons, gTup, tAsg, tPar,
  iList, iTup, iRng1, iRng2, r_tFor, tFmt, tJs, or_false, false_or, exists_false, r_tLc, r_tDc, bf, iSeq, r_wipe0, r_wipe1, tOp, tUn, rI, rI0, rU, rEq, rNe, tTest, tChain, tFld, sFld, tNil, tCons, tTup, tLst, tCall, tMeth, tMake, tCB, tNoPart, tPart, tSl, rIxL, rIxT, rIxQ, rSlQ, r_tLc2, tXGet, tXIn, tXNotIn, sXPut, tXSetd, tXDisp1, iKeysX, iItemsX, tFrz, tFrzE, tRetag, ClX.tCMeth, iEnum, gPr, gUnl, tDNewK, tMakeL, rIxD, cx_w, cx_P, rSlL, rIn, tBM0, tBM, rAppend, rExtend, rPop, rPopAt, rAny, rAll, tYes, iStr, rNewStrs, tM0, tM1, StX.tStar,
  L2.start, List.map_cons, List.map_nil, List.length_cons, List.length_nil, Nat.zero_add, Nat.reduceAdd, Nat.reduceSub, List.replicate_succ, List.replicate_zero, List.cons_append, List.nil_append, List.append_nil, List.set_cons_zero, List.set_cons_succ,
  List.getElem?_cons_zero, List.getElem?_cons_succ, Option.some.injEq, exists_eq_left', exists_eq_left, exists_eq', exists_eq, exists_and_left, exists_and_right, and_assoc, List.cons.injEq, V.str.injEq, V.ref.injEq, V.bl.injEq, V.int.injEq, V.ty.injEq, and_true, true_and, reduceCtorEq, false_and, and_false,
  Bool.not_true, Bool.not_false, Bool.false_eq_true, reduceIte, Bool.not_eq_true', decide_eq_true_eq, upd_same, cx_K, HO.ins.injEq, HO.tup.injEq, HO.lst.injEq, HO.dK.injEq, lk_Run_old, lk_Run_then, lk_Run_names, lm_Run_str, lk_Lead_tests, lk_Lead_old, lk_Lead_then, lk_Lead_names, lm_Lead_str, lk_Join_here, lk_Join_came, lk_Join_then, lk_Join_names, lm_Join_str, lk_Tool_marks, lk_Tool_told, lk_Tool_parts, lk_Tool_clears, lk_Tool_rows, lk_Tool_blank, lm_Tool_need_mark, lm_Tool_is_told, lm_Tool_ran, lm_Tool_led, lm_Tool_joined, lm_Tool_keeps, lm_Tool_need_row, lm_Tool_but, lm_Tool_without, lm_Tool_heeding, lm_Tool_len, lm_Tool_eq, lm_Tool_str, lk_Single_tool, lk_Single_begin, lm_Single_machine_steps, lm_Single_led, lm_Single_joined, lk_Ways_steps, lk_Ways_machine, lk_Ways_coming, lk_Ways_hearings, lk_Ways_elders, lm_Ways_edited, lm_Ways_heard, lk_Meeting_hearings, lk_Meeting_item, lk_Meeting_deeds, lk_Meeting_waiting, lk_Told_steps, lk_Told_machine, lk_Told_coming, lk_Told_hearings, lm_Told_is_closed])
local macro_rules | `(tactic| walk_at "rd*") => `(tactic| simp (config := {failIfUnchanged := false}) only [tVar, tC, tIsN, tNotN, tB, tAnd, tOr, tNot, tAndV, tOrV, tNotV, tIf, tNext, tSeq, tBreak, tCont, tDrop, tRet, tRetN, tIfS, gName, gNil, gCons, gTup, tAsg, tPar,
  iList, iTup, iRng1, iRng2, r_tFor, tFmt, tJs, or_false, false_or, exists_false, r_tLc, r_tDc, bf, iSeq, r_wipe0, r_wipe1, tOp, tUn, rI, rI0, rU, rEq, rNe, tTest, tChain, tFld, sFld, tNil, tCons, tTup, tLst, tCall, tMeth, tMake, tCB, tNoPart, tPart, tSl, rIxL, rIxT, rIxQ, rSlQ, r_tLc2, tXGet, tXIn, tXNotIn, sXPut, tXSetd, tXDisp1, iKeysX, iItemsX, tFrz, tFrzE, tRetag, ClX.tCMeth, iEnum, gPr, gUnl, tDNewK, tMakeL, rIxD, cx_w, cx_P, rSlL, rIn, tBM0, tBM, rAppend, rExtend, rPop, rPopAt, rAny, rAll, tYes, iStr, rNewStrs, tM0, tM1, StX.tStar,
  L2.start, List.map_cons, List.map_nil, List.length_cons, List.length_nil, Nat.zero_add, Nat.reduceAdd, Nat.reduceSub, List.replicate_succ, List.replicate_zero, List.cons_append, List.nil_append, List.append_nil, List.set_cons_zero, List.set_cons_succ,
  List.getElem?_cons_zero, List.getElem?_cons_succ, Option.some.injEq, exists_eq_left', exists_eq_left, exists_eq', exists_eq, exists_and_left, exists_and_right, and_assoc, List.cons.injEq, V.str.injEq, V.ref.injEq, V.bl.injEq, V.int.injEq, V.ty.injEq, and_true, true_and, reduceCtorEq, false_and, and_false,
  Bool.not_true, Bool.not_false, Bool.false_eq_true, reduceIte, Bool.not_eq_true', decide_eq_true_eq, upd_same, cx_K, HO.ins.injEq, HO.tup.injEq, HO.lst.injEq, HO.dK.injEq, lk_Run_old, lk_Run_then, lk_Run_names, lm_Run_str, lk_Lead_tests, lk_Lead_old, lk_Lead_then, lk_Lead_names, lm_Lead_str, lk_Join_here, lk_Join_came, lk_Join_then, lk_Join_names, lm_Join_str, lk_Tool_marks, lk_Tool_told, lk_Tool_parts, lk_Tool_clears, lk_Tool_rows, lk_Tool_blank, lm_Tool_need_mark, lm_Tool_is_told, lm_Tool_ran, lm_Tool_led, lm_Tool_joined, lm_Tool_keeps, lm_Tool_need_row, lm_Tool_but, lm_Tool_without, lm_Tool_heeding, lm_Tool_len, lm_Tool_eq, lm_Tool_str, lk_Single_tool, lk_Single_begin, lm_Single_machine_steps, lm_Single_led, lm_Single_joined, lk_Ways_steps, lk_Ways_machine, lk_Ways_coming, lk_Ways_hearings, lk_Ways_elders, lm_Ways_edited, lm_Ways_heard, lk_Meeting_hearings, lk_Meeting_item, lk_Meeting_deeds, lk_Meeting_waiting, lk_Told_steps, lk_Told_machine, lk_Told_coming, lk_Told_hearings, lm_Told_is_closed, *])
/-! ### in, over tuples of items -/
section
variable {X : Cx}
def rInT (K : PySem.W.Frag) : R2 := fun x y H Q => ∃ d ds, Dp K H x d ∧ Dp K H y (.tuple ds) ∧ SeqAt.shaped d = true ∧ SeqAt.shaped (.tuple ds) = true ∧ Q (.bl (ds.any fun z => PyData.eqv z d)) H
def rNotInT (K : PySem.W.Frag) : R2 := fun x y H Q => ∃ d ds, Dp K H x d ∧ Dp K H y (.tuple ds) ∧ SeqAt.shaped d = true ∧ SeqAt.shaped (.tuple ds) = true ∧ Q (.bl (!ds.any fun z => PyData.eqv z d)) H
theorem op_inT (hu : X.A.units + 65 < cLine) : OpR X (compareOp .In) (rInT X.K) := fun pins s σ H x y v u Q I rx ry ⟨d, ds, hd, he, sd, se, q⟩ =>
  let ⟨_, r1⟩ := Dp.reads I d x v hd rx
  let ⟨_, r2⟩ := Dp.reads I (.tuple ds) y u he ry
  SeqAt.in_tuple_reads r2 r1 (SeqAt.canLay_of_shaped se) (SeqAt.canLay_of_shaped sd) (room_in_shaped sd hu) ⟨.bl _, H, I, rfl, q⟩
theorem op_notInT (hu : X.A.units + 65 < cLine) : OpR X (compareOp .NotIn) (rNotInT X.K) := fun pins s σ H x y v u Q I rx ry ⟨d, ds, hd, he, sd, se, q⟩ =>
  let ⟨_, r1⟩ := Dp.reads I d x v hd rx
  let ⟨_, r2⟩ := Dp.reads I (.tuple ds) y u he ry
  SeqAt.notIn_tuple_reads r2 r1 (SeqAt.canLay_of_shaped se) (SeqAt.canLay_of_shaped sd) (room_in_shaped sd hu) ⟨.bl _, H, I, rfl, q⟩
end
theorem room65 {k : Nat} {A : Around} (hr : Room k A) : A.units + 65 < cLine := by have := hr.un; omega
section
variable {K : PySem.W.Frag} {H : Hp} {m b : Addr} {vm : List V} {km : List Kq} {k : Kq} {Q : VK}
theorem any_items (h : k ∈ km) : ((km.map kD).any fun z => PyData.eqv z (kD k)) = true := by
  refine List.any_eq_true.mpr ⟨kD k, List.mem_map.mpr ⟨k, h, rfl⟩, ?_⟩
  rw [encK.eqv]
  exact decide_eq_true rfl
theorem dp_item (h : H b = some (kT k)) : Dp K H (.ref b) (kD k) := .tup (SqT.of h) (.cons (.str _) (.cons (.bl _) .nil))
theorem sh_item (ok : okS k.1) : SeqAt.shaped (kD k) = true := by
  unfold SeqAt.shaped
  have e1 : (kD k).canLay0 = true := encK.lay k ok
  have e2 : (kD k).depth ≤ 64 := Nat.le_trans (encK.dep k) (by decide)
  rw [e1, decide_eq_true e2]
  rfl
theorem in_items (e : H m = some (.tup vm)) (hi : ItemsAt H km vm) (oks : ∀ q ∈ km, okS q.1) (hb : H b = some (kT k)) (hk : k ∈ km) (q : Q (.bl true) H) : rInT K (.ref b) (.ref m) H Q :=
  ⟨kD k, km.map kD, dp_item hb, .tup (SqT.of e) (dp_items hi), sh_item (oks k hk), encK.shT oks, by rw [any_items hk]; exact q⟩
theorem notIn_items (e : H m = some (.tup vm)) (hi : ItemsAt H km vm) (oks : ∀ q ∈ km, okS q.1) (hb : H b = some (kT k)) (hk : k ∈ km) (q : Q (.bl false) H) : rNotInT K (.ref b) (.ref m) H Q :=
  ⟨kD k, km.map kD, dp_item hb, .tup (SqT.of e) (dp_items hi), sh_item (oks k hk), encK.shT oks, by rw [any_items hk]; exact q⟩
end
section
variable {P : Program} {w : World} {K : PySem.W.Frag} {mg : Str → Option Value} {base : Heap}
theorem paired_self {f : XE → V} : ∀ xs : List XE, Paired (fun z v => v = f z) xs (xs.map f)
  | [] => .nil
  | x :: r => .cons rfl (paired_self r)
/-! ### Told.is_closed -/
def spClosed (K : PySem.W.Frag) (P : Program) (w : World) : Sp := fun vs H Q _ => ∃ x d, vs = [.ref x] ∧ ToldAt K P w H x d ∧ d.ok ∧ ∀ H', Same H H' → Q (.bl true) H'
theorem sc_closed : FnScope ["self", "item", "deed", "later", "pattern", "came"] ["self"] (defScope st_Told_is_closed) := ⟨rfl, rfl, rfl, by decide +kernel, rfl, by decide +kernel, by decide +kernel⟩
def Cl1 (H0 : Hp) (x : Addr) (j : Nat) (σ : L2.St) (H' : Hp) : Prop := ∃ v1, σ = [some (.ref x), v1, none, none, none, none] ∧ Same H0 H'
theorem x_closed (T : Tx w K mg) : MX P w K mg base 6 (He.ga K "Told") "is_closed" ["self"] (spClosed K P w) := by
  obtain ⟨fd, F⟩ := fun_Told_is_closed T.c
  have G1 : MX P w K mg base 5 (He.ga K "Single") "machine_steps" ["self", "item"] (spSteps K) := x_Steps T
  have G2 : MX P w K mg base 4 (He.ga K "Single") "led" ["self", "item", "pattern"] (spSLed K) := x_SLed T
  have G3 : MX P w K mg base 4 (He.ga K "Single") "joined" ["self", "here", "came"] (spSJoined K) := x_SJoined T
  obtain ⟨e8, h8, p8⟩ := T.t_EIGHT
  refine MX.of F T.me_Told_is_closed sc_closed (fun _ _ _ _ _ _ us hl => match us, hl with | [_], _ => rfl) (fun vs H Q E h => ?_) (fun cdv A outer s H vs Q E hr h => ?_)
  · obtain ⟨x, d, rfl, _⟩ := h
    rfl
  · obtain ⟨x, d, rfl, W, ok, k⟩ := h
    obtain ⟨dx, s9, m, c, h, xc, hs, oc, oh, km, vm, a1, a2, ⟨b1, b2, b3, b4⟩, ⟨c1, c2, c3, c4, c5⟩, d1, d2, d3, d4, d5⟩ := W.ex
    obtain ⟨t, b0, dxs, g1, g2, g3⟩ := a2.ex
    refine ⟨_, pss_cons (ps_if (PW.pt (pw_or (pt_cmpR (op_notInT (room65 hr)) (pe_fld (pe_fld (pv 0) rfl) rfl) (pe_fld (pv 0) rfl) (by rfl)) (pw_or1 (pt_cmp (pc_xnotin (room1 hr) (pe_fld (pe_fld (pv 0) rfl) rfl) (pe_fld (pv 0) rfl)) rfl)))) (pss_one (ps_ret pe_bl)) pss_nil)
      (pss_cons (ps_for PassesOwn.never rfl (pi_tup (pe_fld (pv 0) rfl)) (pg_name (i := 1) sc_closed.nd rfl (Or.inr rfl))
        (pss_one (ps_if (pt_not (pt_val (pb (cr_all rfl) T.n_all (pa1 (plcU sc_closed 2 3 (pi_list (pm G1 T.cl_Single hr (pe_fld (pv 0) rfl) (pa1 (pv 1)))) (fun _ _ _ _ _ => pe_cmpR (op_inT (room65 hr)) (pv 3) (pe_fld (pv 0) rfl) (by rfl))))))) (pss_one (ps_ret pe_bl)) pss_nil)))
      (pss_cons (ps_for PassesOwn.never rfl (pi_keysX (pe_fld (pv 0) rfl)) (pg_name (i := 1) sc_closed.nd rfl (Or.inr rfl))
        (pss_cons (ps_if (pt_not (pt_val (pb (cr_all rfl) T.n_all (pa1 (plc sc_closed 4 (pi_tup (pgr T.g_EIGHT)) (fun _ _ _ _ _ => pe_cmp (pc_xin (room1 hr) (pm G2 T.cl_Single hr (pe_fld (pv 0) rfl) (pa2 (pv 1) (pv 4))) (pe_fld (pv 0) rfl)) rfl)))))) (pss_one (ps_ret pe_bl)) pss_nil)
        (pss_one (ps_if (pt_not (pt_val (pb (cr_all rfl) T.n_all (pa1 (plc sc_closed 5 (pi_keysX (pe_fld (pv 0) rfl)) (fun _ _ _ _ _ => pe_cmp (pc_xin (room1 hr) (pm G3 T.cl_Single hr (pe_fld (pv 0) rfl) (pa2 (pv 1) (pv 5))) (pe_fld (pv 0) rfl)) rfl)))))) (pss_one (ps_ret pe_bl)) pss_nil))))
      (pss_one (ps_ret pe_bl)))), ?_⟩
    have fl := T.fl
    walk_at "rd*"
    have okm : ∀ q ∈ km, okS q.1 := items_ok ok fun q hq => ((b4 q).mp hq).mem ok
    refine notIn_items b1 b2 okm g3 ((b4 _).mpr .begin) ⟨_, rfl, iteN (by decide) ?_⟩
    walk_at "rd*"
    have hb0 : hasX hs (kBegin d) = true := (hasX_keys _ _).mpr ((d5 _).mpr .begin)
    refine ⟨kBegin d, hs, ⟨.inr ⟨oh, d1⟩, d2⟩, rfl, ?_⟩
    refine iteN (by rw [hb0]; decide) ⟨⟨_, SqT.of b1⟩, for_it (walk_tup (xs := vm)) (Cl1 H x) ⟨none, rfl, Same.refl _⟩ (fun j σ H' _ ⟨_, _, sq⟩ => SqT.of (sq _ _ b1)) ?_ ?_⟩
    · rintro j y σ3 H3 H3' hj ⟨v1, rfl, s3⟩ ⟨rfl, hy⟩
      obtain ⟨q, hq, bk, rfl, hbk⟩ := pair_at b2 hy
      have hqm := List.mem_of_getElem? hq
      have a13 := s3 _ _ a1
      have g13 := s3 _ _ g1
      walk_at "rd*"
      refine ⟨s9, bk, d, q, rfl, a2.same s3, ok, s3 _ _ hbk, ((b4 q).mp hqm).mem ok, fun l H4 ws s4 hl4 e4 pr => ⟨l, rfl, ⟨_, SqL.of e4⟩, fun D hD => ?_⟩⟩
      have s34 := s3.trans s4
      have wl : ws.length = 9 := by rw [← Paired.length pr]; rfl
      refine lcWD walk_list rfl (by rw [wl]; decide) hD pr (fun _ y _ => y = .bl true) (fun _ _ _ _ _ _ e => e) (fun H s => s.seq (SqL.of e4)) (fun i q2 v hi hv H5 s5 _ Ky ky => ?_) fun H5 ys s5 e5 pr5 => ?_
      · obtain ⟨t2, de, b2', rfl, u1, u2⟩ := hv
        have s35 := s34.trans s5
        have a15 := s35 _ _ a1
        walk_at "rd*"
        refine ⟨_, SqT.of (s5 _ _ u1), rfl, de, _, rfl, _, _, rfl, rfl, ?_⟩
        walk_at "rd*"
        have q2m : q2 ∈ km := (b4 q2).mpr (nexts_mr ((b4 q).mp hqm) (List.mem_of_getElem? hi))
        exact in_items (s35 _ _ b1) (b2.imm (Imm.of_same s35)) okm (s5 _ _ u2) q2m (ky _ _ (Same.refl _) rfl)
      · have ey := all_true (l := ys) fun y hy => by
          obtain ⟨i, hi⟩ := List.mem_iff_getElem?.mp hy
          obtain ⟨_, _, e⟩ := pair_at pr5 hi
          exact e
        rw [ey] at e5
        refine ⟨_, SqL.of e5, ?_⟩
        rw [rep_all]
        exact ⟨_, rfl, s34.trans s5⟩
    · rintro σ3 H3 ⟨v1, rfl, s3⟩
      have a13 := s3 _ _ a1
      walk_at "rd*"
      refine ⟨oh, hs, s3 _ _ d1, for_it (walk_keysX (P := P) (w := w) (d := h) (o := oh) (xs := hs)) (Cl1 H x) ⟨v1, rfl, s3⟩ (fun j σ H' _ ⟨_, _, sq⟩ => sq _ _ d1) ?_ ?_⟩
      · rintro j y σ4 H4 H4' hj ⟨v4, rfl, s4⟩ ⟨rfl, hy⟩
        rw [List.getElem?_map] at hy
        obtain ⟨ye, hye, rfl⟩ := Option.map_eq_some_iff.mp hy
        have hym := List.mem_of_getElem? hye
        have hh : HR d ye.1 := (d5 ye.1).mp (List.mem_map.mpr ⟨ye, hym, rfl⟩)
        walk_at "rd*"
        refine ⟨⟨_, h8 _⟩, fun D hD => ?_⟩
        have pl : e8.length ≤ 1000 := by rw [← Paired.length p8]; decide
        refine lcWD walk_tup rfl pl hD p8 (fun _ y _ => y = .bl true) (fun _ _ _ _ _ _ e => e) (fun H s => h8 H) (fun i p v hi hv H5 s5 _ Ky ky => ?_) fun H5 ys s5 e5 pr5 => ?_
        · obtain ⟨a, rfl, ha⟩ := hv
          have s45 := s4.trans s5
          have a15 := s45 _ _ a1
          have g15 := s45 _ _ g1
          have hpm : p ∈ pats8 := List.mem_of_getElem? hi
          walk_at "rd*"
          refine ⟨s9, ye.2.1, a, d, ye.1, p, rfl, a2.same s45, ok, s45 _ _ (d2 ye hym), hh.mem ok, ha _, pats8_len p hpm, fun b6 H6 s6 e6 => ?_⟩
          have s46 := s45.trans s6
          have a16 := s46 _ _ a1
          walk_at "rd*"
          have hb6 : hasX hs (kLed d ye.1 p) = true := (hasX_keys _ _).mpr ((d5 _).mpr (.led hh hpm))
          refine ⟨kLed d ye.1 p, hs, ⟨.inr ⟨oh, s46 _ _ d1⟩, d2.imm (Imm.of_same s46)⟩, rfl, ?_⟩
          rw [hb6]
          exact ky _ _ s6 rfl
        · have ey := all_true (l := ys) fun y hy => by
            obtain ⟨i, hi⟩ := List.mem_iff_getElem?.mp hy
            obtain ⟨_, _, e⟩ := pair_at pr5 hi
            exact e
          rw [ey] at e5
          refine ⟨_, SqL.of e5, ?_⟩
          rw [rep_all]
          have s45 := s4.trans s5
          have a15 := s45 _ _ a1
          walk_at "rd*"
          refine ⟨oc, xc, s45 _ _ c1, fun D6 hD6 => ?_⟩
          refine lcWD (R0 := fun (z : XE) v => v = V.ref z.2.1) (ds := xc) walk_keysX (by rw [List.length_map]) (by rw [List.length_map]; omega) hD6 (paired_self xc) (fun _ y _ => y = .bl true) (fun _ _ _ _ _ _ e => e) (fun H s => s _ _ (s45 _ _ c1)) (fun i z v hi hv H6 s6 _ Ky ky => ?_) fun H6 zs s6 e6 pr6 => ?_
          · subst hv
            have hzm := List.mem_of_getElem? hi
            have hc : CR d z.1 := (c5 z.1).mp (List.mem_map.mpr ⟨z, hzm, rfl⟩)
            have s46 := s45.trans s6
            have a16 := s46 _ _ a1
            have g16 := s46 _ _ g1
            walk_at "rd*"
            refine ⟨s9, ye.2.1, z.2.1, d, ye.1, z.1, rfl, a2.same s46, s46 _ _ (d2 ye hym), s46 _ _ (c2 z hzm), hh.mem ok, hc.mem ok, fun b7 H7 s7 e7 => ?_⟩
            have s47 := s46.trans s7
            have a17 := s47 _ _ a1
            walk_at "rd*"
            have hb7 : hasX hs (kJoined d ye.1 z.1) = true := (hasX_keys _ _).mpr ((d5 _).mpr (.joined hh hc))
            refine ⟨kJoined d ye.1 z.1, hs, ⟨.inr ⟨oh, s47 _ _ d1⟩, d2.imm (Imm.of_same s47)⟩, rfl, ?_⟩
            rw [hb7]
            exact ky _ _ s7 rfl
          · have ez := all_true (l := zs) fun y hy => by
              obtain ⟨i, hi⟩ := List.mem_iff_getElem?.mp hy
              obtain ⟨_, _, e⟩ := pair_at pr6 hi
              exact e
            rw [ez] at e6
            refine ⟨_, SqL.of e6, ?_⟩
            rw [rep_all]
            exact ⟨_, rfl, s45.trans s6⟩
      · rintro σ4 H4 ⟨v4, rfl, s4⟩
        walk_at "rd"
        exact k _ s4
end
end Lm
set_option Elab.async false
set_option linter.all false
set_option maxRecDepth 100000
set_option maxHeartbeats 4000000
namespace Lm
open PySem PySem.Spec PyProof.Rows L2
local macro_rules | `(tactic| walk_at "rd") => `(tactic| simp (config := {failIfUnchanged := false}) only [tVar, tC, tIsN, tNotN, tB, tAnd, tOr, tNot, tAndV, tOrV, tNotV, tIf, tNext, tSeq, tBreak, tCont, tDrop, tRet, tRetN, tIfS, gName, gNil, gCons, gTup, tAsg, tPar,
  iList, iTup, iRng1, iRng2, r_tFor, tFmt, tJs, or_false, false_or, exists_false, r_tLc, r_tDc, bf, iSeq, r_wipe0, r_wipe1, tOp, tUn, rI, rI0, rU, rEq, rNe, tTest, tChain, tFld, sFld, tNil, tCons, tTup, tLst, tCall, tMeth, tMake, tCB, tNoPart, tPart, tSl, rIxL, rIxT, rIxQ, rSlQ, r_tLc2, tXGet, tXIn, tXNotIn, sXPut, tXSetd, tXDisp1, iKeysX, iItemsX, tFrz, tFrzE, tRetag, ClX.tCMeth, iEnum, gPr, gUnl, tDNewK, tMakeL, rIxD, cx_w, cx_P, rSlL, rIn, tBM0, tBM, rAppend, rExtend, rPop, rPopAt, rAny, rAll, tYes, iStr, rNewStrs, tM0, tM1, StX.tStar,
  L2.start, List.map_cons, List.map_nil, List.length_cons, List.length_nil, Nat.zero_add, Nat.reduceAdd, Nat.reduceSub, List.replicate_succ, List.replicate_zero, List.cons_append, List.nil_append, List.append_nil, List.set_cons_zero, List.set_cons_succ,
  List.getElem?_cons_zero, List.getElem?_cons_succ, Option.some.injEq, exists_eq_left', exists_eq_left, exists_eq', exists_eq, exists_and_left, exists_and_right, and_assoc, List.cons.injEq, V.str.injEq, V.ref.injEq, V.bl.injEq, V.int.injEq, V.ty.injEq, and_true, true_and, reduceCtorEq, false_and, and_false,
  Bool.not_true, Bool.not_false, Bool.false_eq_true, reduceIte, Bool.not_eq_true', decide_eq_true_eq, upd_same, cx_K, HO.ins.injEq, HO.tup.injEq, HO.lst.injEq, HO.dK.injEq, lk_Run_old, lk_Run_then, lk_Run_names, lm_Run_str, lk_Lead_tests, lk_Lead_old, lk_Lead_then, lk_Lead_names, lm_Lead_str, lk_Join_here, lk_Join_came, lk_Join_then, lk_Join_names, lm_Join_str, lk_Tool_marks, lk_Tool_told, lk_Tool_parts, lk_Tool_clears, lk_Tool_rows, lk_Tool_blank, lm_Tool_need_mark, lm_Tool_is_told, lm_Tool_ran, lm_Tool_led, lm_Tool_joined, lm_Tool_keeps, lm_Tool_need_row, lm_Tool_but, lm_Tool_without, lm_Tool_heeding, lm_Tool_len, lm_Tool_eq, lm_Tool_str, lk_Single_tool, lk_Single_begin, lm_Single_machine_steps, lm_Single_led, lm_Single_joined, lk_Ways_steps, lk_Ways_machine, lk_Ways_coming, lk_Ways_hearings, lk_Ways_elders, lm_Ways_edited, lm_Ways_heard, lk_Meeting_hearings, lk_Meeting_item, lk_Meeting_deeds, lk_Meeting_waiting, lk_Told_steps, lk_Told_machine, lk_Told_coming, lk_Told_hearings, lm_Told_is_closed])
local macro_rules | `(tactic| walk_at "rd*") => `(tactic| simp (config := {failIfUnchanged := false}) only [tVar, tC, tIsN, tNotN, tB, tAnd, tOr, tNot, tAndV, tOrV, tNotV, tIf, tNext, tSeq, tBreak, tCont, tDrop, tRet, tRetN, tIfS, gName, gNil, gCons, gTup, tAsg, tPar,
  iList, iTup, iRng1, iRng2, r_tFor, tFmt, tJs, or_false, false_or, exists_false, r_tLc, r_tDc, bf, iSeq, r_wipe0, r_wipe1, tOp, tUn, rI, rI0, rU, rEq, rNe, tTest, tChain, tFld, sFld, tNil, tCons, tTup, tLst, tCall, tMeth, tMake, tCB, tNoPart, tPart, tSl, rIxL, rIxT, rIxQ, rSlQ, r_tLc2, tXGet, tXIn, tXNotIn, sXPut, tXSetd, tXDisp1, iKeysX, iItemsX, tFrz, tFrzE, tRetag, ClX.tCMeth, iEnum, gPr, gUnl, tDNewK, tMakeL, rIxD, cx_w, cx_P, rSlL, rIn, tBM0, tBM, rAppend, rExtend, rPop, rPopAt, rAny, rAll, tYes, iStr, rNewStrs, tM0, tM1, StX.tStar,
  L2.start, List.map_cons, List.map_nil, List.length_cons, List.length_nil, Nat.zero_add, Nat.reduceAdd, Nat.reduceSub, List.replicate_succ, List.replicate_zero, List.cons_append, List.nil_append, List.append_nil, List.set_cons_zero, List.set_cons_succ,
  List.getElem?_cons_zero, List.getElem?_cons_succ, Option.some.injEq, exists_eq_left', exists_eq_left, exists_eq', exists_eq, exists_and_left, exists_and_right, and_assoc, List.cons.injEq, V.str.injEq, V.ref.injEq, V.bl.injEq, V.int.injEq, V.ty.injEq, and_true, true_and, reduceCtorEq, false_and, and_false,
  Bool.not_true, Bool.not_false, Bool.false_eq_true, reduceIte, Bool.not_eq_true', decide_eq_true_eq, upd_same, cx_K, HO.ins.injEq, HO.tup.injEq, HO.lst.injEq, HO.dK.injEq, lk_Run_old, lk_Run_then, lk_Run_names, lm_Run_str, lk_Lead_tests, lk_Lead_old, lk_Lead_then, lk_Lead_names, lm_Lead_str, lk_Join_here, lk_Join_came, lk_Join_then, lk_Join_names, lm_Join_str, lk_Tool_marks, lk_Tool_told, lk_Tool_parts, lk_Tool_clears, lk_Tool_rows, lk_Tool_blank, lm_Tool_need_mark, lm_Tool_is_told, lm_Tool_ran, lm_Tool_led, lm_Tool_joined, lm_Tool_keeps, lm_Tool_need_row, lm_Tool_but, lm_Tool_without, lm_Tool_heeding, lm_Tool_len, lm_Tool_eq, lm_Tool_str, lk_Single_tool, lk_Single_begin, lm_Single_machine_steps, lm_Single_led, lm_Single_joined, lk_Ways_steps, lk_Ways_machine, lk_Ways_coming, lk_Ways_hearings, lk_Ways_elders, lm_Ways_edited, lm_Ways_heard, lk_Meeting_hearings, lk_Meeting_item, lk_Meeting_deeds, lk_Meeting_waiting, lk_Told_steps, lk_Told_machine, lk_Told_coming, lk_Told_hearings, lm_Told_is_closed, *])
section
variable {P : Program} {w : World} {K : PySem.W.Frag} {mg : Str → Option Value} {base : Heap}
/-! ### paper -/
def spPaper (K : PySem.W.Frag) : Sp := fun vs H Q _ => ∃ (t : Addr) (f : Str) (d : ToolD), vs = [.ref t, .str f] ∧ f ∈ faultsL ∧ ToolAt K H t d ∧ d.ok ∧ hap d f = false ∧ ∀ p H', Same H H' → PaperV H' d p → Q (.ref p) H'
theorem sc_paper : FnScope ["tool", "fault"] ["tool", "fault"] (defScope st_paper) := ⟨rfl, rfl, rfl, by decide +kernel, rfl, by decide +kernel, by decide +kernel⟩
theorem x_paper (T : Tx w K mg) : FX P w K mg base 10 "paper" ["tool", "fault"] (spPaper K) := by
  obtain ⟨fd, F⟩ := fun_paper T.c
  have G1 : CX1 P w K mg base 1 "Single" ["self", "tool"] (spSingleInit K) := x_Single_init T
  have G2 : CX1 P w K mg base 7 "Ways" ["self", "steps"] (spWaysInit K P w) := x_Ways_init T
  have G3 : FX P w K mg base 6 "least_meeting" ["tool", "ways", "fault"] (spLeast K P w) := x_least T
  have G4 : FX P w K mg base 9 "lists" ["tool"] (spLists K) := x_lists T
  have G5 : FX P w K mg base 1 "need_fault" ["fault"] spNeedFault := x_need_fault T
  refine FX.of F T.g_paper sc_paper (fun _ _ _ _ _ _ us hl => match us, hl with | [_, _], _ => rfl) (fun vs H Q E h => ?_) (fun cdv A outer s H vs Q E hr h => ?_)
  · obtain ⟨t, f, d, rfl, _⟩ := h
    rfl
  · obtain ⟨t, f, d, rfl, hf, ht, ok, nh, k⟩ := h
    refine ⟨_, pss_cons (ps_expr (pc G5 hr (pa1 (pv 1))))
      (pss_one (ps_ret (pe_ifExp (pt_cmpR op_isN (pc G3 hr (pa_cons (pv 0) (pa2 (pk G2 hr (pa1 (pk G1 hr (pa1 (pv 0))))) (pv 1)))) pe_non (nomark _)) (pc G4 hr (pa1 (pv 0))) pe_non))), ?_⟩
    have fl := T.fl
    walk_at "rd*"
    refine ⟨f, rfl, hf, fun H0 s0 => ?_⟩
    walk_at "rd"
    refine mk_ways (ht.same s0) ok fun x H1 s1 W => ?_
    obtain ⟨c, h, xc, hs, hd⟩ := W.head T
    have s01 := s0.trans s1
    refine ⟨t, x, f, d, c, h, xc, hs, rfl, hf, ht.same s01, ok, hd, fun _ H2 s2 => ?_, fun yh => ?_⟩
    · have s02 := s01.trans s2
      refine iteP rfl ⟨t, d, rfl, ht.same s02, ok, fun p H' s' pv => k p H' (s02.trans s') pv⟩
    · rw [nh] at yh; cases yh
/-! ### is_entry, are_entries -/
def spIsEntry (K : PySem.W.Frag) : Sp := fun vs H Q _ => ∃ (t b : Addr) (d : ToolD) (k : Kq), vs = [.ref t, .ref b] ∧ ToolAt K H t d ∧ H b = some (kT k) ∧ inK d k ∧ ∀ H', Same H H' → Q (.bl true) H'
theorem sc_is_entry : FnScope ["tool", "value"] ["tool", "value"] (defScope st_is_entry) := ⟨rfl, rfl, rfl, by decide +kernel, rfl, by decide +kernel, by decide +kernel⟩
theorem x_is_entry (T : Tx w K mg) : FX P w K mg base 1 "is_entry" ["tool", "value"] (spIsEntry K) := by
  obtain ⟨fd, F⟩ := fun_is_entry T.c
  refine FX.of F T.g_is_entry sc_is_entry (fun _ _ _ _ _ _ us hl => match us, hl with | [_, _], _ => rfl) (fun vs H Q E h => ?_) (fun cdv A outer s H vs Q E hr h => ?_)
  · obtain ⟨t, b, d, k, rfl, _⟩ := h
    rfl
  · obtain ⟨t, b, d, q, rfl, ht, hb, hq, k⟩ := h
    obtain ⟨dx, ma, ta, pa, ra, vs, h1, h2, h3, h4, h5, h6⟩ := ht.ex
    refine ⟨_, pss_cons (ps_if (PW.pt (pw_or (pt_not (pt_val (pb isi_tup T.n_isinstance (pa2 (pv 1) (pty (n := "tuple") T.n_tuple))))) (pw_or (pt_cmpR op_ne (pb call_len_seq T.n_len (pa1 (pv 1))) pe_int (nomark _)) (pw_or1 (pt_not (pt_val (pb isi_bool T.n_isinstance (pa2 (pe_ix ix_tup (pv 1) pe_int (fun _ _ => rfl)) (pty (n := "bool") T.n_bool))))))))) (pss_one (ps_ret pe_bl)) pss_nil)
      (pss_one (ps_ret (pe_and (pb isi_str T.n_isinstance (pa2 (pe_ix ix_tup (pv 1) pe_int (fun _ _ => rfl)) (pty (n := "str") T.n_str))) (pe_one (pe_cmpR op_in_seq (pe_ix ix_tup (pv 1) pe_int (fun _ _ => rfl)) (pe_fld (pv 0) rfl) (by rfl)))))), ?_⟩
    have fl := T.fl
    have hb2 : H b = some (.tup [.str q.1, .bl q.2]) := hb
    walk_at "rd*"
    refine ⟨⟨_, SqT.of hb2⟩, _, .inr (SqT.of hb2), rfl, iteN (fun e => nomatch e) ?_⟩
    refine ⟨_, SqT.of hb2, .bl q.2, atI_nat (j := 1) rfl, ⟨q.2, rfl⟩, _, SqT.of hb2, .str q.1, atI_nat (j := 0) rfl, ⟨q.1, rfl⟩, _, SqT.of hb2, .str q.1, atI_nat (j := 0) rfl, _, .inr (SqT.of h2), rfl, flat_sv _, ?_⟩
    rw [inV_str, mem_any hq]
    exact k H (Same.refl _)
def spAreEntries (K : PySem.W.Frag) : Sp := fun vs H Q _ => ∃ (t a : Addr) (d : ToolD) (ks : List Kq) (us : List V), vs = [.ref t, .ref a] ∧ ToolAt K H t d ∧ H a = some (.tup us) ∧ ItemsAt H ks us ∧ ks.length ≤ 100 ∧ (∀ k ∈ ks, inK d k) ∧ ∀ H', Same H H' → Q (.bl true) H'
theorem sc_are_entries : FnScope ["tool", "value", "entry"] ["tool", "value"] (defScope st_are_entries) := ⟨rfl, rfl, rfl, by decide +kernel, rfl, by decide +kernel, by decide +kernel⟩
theorem all_trueP {α : Type} {R0 : α → V → Prop} {l : List α} {ys : List V} (pr : Paired (fun x y => y = V.bl true) l ys) : ys = (List.replicate ys.length true).map V.bl := all_true (l := ys) fun y hy => by
  obtain ⟨i, hi⟩ := List.mem_iff_getElem?.mp hy
  obtain ⟨_, _, e⟩ := pair_at pr hi
  exact e
theorem x_are_entries (T : Tx w K mg) : FX P w K mg base 2 "are_entries" ["tool", "value"] (spAreEntries K) := by
  obtain ⟨fd, F⟩ := fun_are_entries T.c
  have G1 : FX P w K mg base 1 "is_entry" ["tool", "value"] (spIsEntry K) := x_is_entry T
  refine FX.of F T.g_are_entries sc_are_entries (fun _ _ _ _ _ _ us hl => match us, hl with | [_, _], _ => rfl) (fun vs H Q E h => ?_) (fun cdv A outer s H vs Q E hr h => ?_)
  · obtain ⟨t, a, d, ks, us, rfl, _⟩ := h
    rfl
  · obtain ⟨t, a, d, ks, us, rfl, ht, ha, hi, hl, hk, k⟩ := h
    refine ⟨_, pss_one (ps_ret (pe_and (pb isi_tup T.n_isinstance (pa2 (pv 1) (pty (n := "tuple") T.n_tuple))) (pe_one (pb (cr_all rfl) T.n_all (pa1 (plc sc_are_entries 2 (pi_tup (pv 1)) (fun _ _ _ _ _ => pc G1 hr (pa2 (pv 0) (pv 2))))))))), ?_⟩
    walk_at "rd*"
    refine ⟨⟨_, SqT.of ha⟩, ⟨_, SqT.of ha⟩, fun D hD => ?_⟩
    refine lcWD walk_tup rfl (by rw [← Paired.length hi]; omega) hD hi (fun _ y _ => y = .bl true) (fun _ _ _ _ _ _ e => e) (fun H s => SqT.of (s _ _ ha)) (fun i q v hq hv H5 s5 _ Ky ky => ?_) fun H5 ys s5 e5 pr5 => ?_
    · obtain ⟨b, rfl, hb⟩ := hv
      walk_at "rd"
      exact ⟨t, b, d, q, rfl, ht.same s5, s5 _ _ hb, hk q (List.mem_of_getElem? hq), fun H6 s6 => ky _ _ s6 rfl⟩
    · rw [all_trueP (R0 := fun _ _ => True) pr5] at e5
      refine ⟨_, SqL.of e5, ?_⟩
      rw [rep_all]
      exact k _ s5
/-! ### paper_holds -/
def spHolds2 (K : PySem.W.Frag) : Sp := fun vs H Q _ => ∃ (t p : Addr) (f : Str) (d : ToolD), vs = [.ref t, .str f, .ref p] ∧ f ∈ faultsL ∧ ToolAt K H t d ∧ d.ok ∧ PaperV H d p ∧ hap d f = false ∧ ∀ H', Same H H' → Q (.bl true) H'
theorem sc_paper_holds : FnScope ["tool", "fault", "value", "told", "item"] ["tool", "fault", "value"] (defScope st_paper_holds) := ⟨rfl, rfl, rfl, by decide +kernel, rfl, by decide +kernel, by decide +kernel⟩
theorem x_paper_holds (T : Tx w K mg) : FX P w K mg base 7 "paper_holds" ["tool", "fault", "value"] (spHolds2 K) := by
  obtain ⟨fd, F⟩ := fun_paper_holds T.c
  have G1 : CX1 P w K mg base 1 "Single" ["self", "tool"] (spSingleInit K) := x_Single_init T
  have G2 : CX1 P w K mg base 5 "Told" ["self", "steps", "machine", "head"] (spToldInit K P w) := x_Told_init T
  have G3 : MX P w K mg base 6 (He.ga K "Told") "is_closed" ["self"] (spClosed K P w) := x_closed T
  have G4 : FX P w K mg base 2 "are_entries" ["tool", "value"] (spAreEntries K) := x_are_entries T
  have G5 : FX P w K mg base 1 "need_fault" ["fault"] spNeedFault := x_need_fault T
  have G6 : FX P w K mg base 5 "met_at" ["tool", "ways", "item", "fault"] (spMetAt K P w) := x_met_at T
  refine FX.of F T.g_paper_holds sc_paper_holds (fun _ _ _ _ _ _ us hl => match us, hl with | [_, _, _], _ => rfl) (fun vs H Q E h => ?_) (fun cdv A outer s H vs Q E hr h => ?_)
  · obtain ⟨t, p, f, d, rfl, _⟩ := h
    rfl
  · obtain ⟨t, p, f, d, rfl, hf, ht, ok, pv', nh, k⟩ := h
    obtain ⟨a, b, ka, kb, va, vb, hp, ha, hb, ia, ib, ma, mb, la, lb⟩ := pv'
    refine ⟨_, (pss_cons (ps_expr (pc G5 hr (pa1 (pv 1))))
      (pss_cons (ps_if (PW.pt (pw_or (pt_not (pt_val (pb isi_tup T.n_isinstance (pa2 (pv 2) (pty (n := "tuple") T.n_tuple))))) (pw_or1 (pt_cmpR op_ne (pb call_len_seq T.n_len (pa1 (pv 2))) pe_int (nomark _))))) (pss_one (ps_ret pe_bl)) pss_nil)
      (pss_cons (ps_if (PW.pt (pw_or (pt_not (pt_val (pc G4 hr (pa2 (pv 0) (pe_ix ix_tup (pv 2) pe_int (fun _ _ => rfl)))))) (pw_or1 (pt_not (pt_val (pc G4 hr (pa2 (pv 0) (pe_ix ix_tup (pv 2) pe_int (fun _ _ => rfl))))))))) (pss_one (ps_ret pe_bl)) pss_nil)
      (pss_cons (ps_set (i := 3) sc_paper_holds.nd rfl (Or.inr rfl) (pk G2 hr (pa_cons (pk G1 hr (pa1 (pv 0))) (pa2 (pe_ix ix_tup (pv 2) pe_int (fun _ _ => rfl)) (pe_ix ix_tup (pv 2) pe_int (fun _ _ => rfl))))))
      (pss_one (ps_ret (pe_and (pm0 G3 T.cl_Told hr (pv 3)) (pe_one (pb (cr_all rfl) T.n_all (pa1 (plc sc_paper_holds 4 (pi_keysX (pe_fld (pv 3) rfl)) (fun _ _ _ _ _ => (pe_cmpR op_isN (pc G6 hr (pa_cons (pv 0) (pa_cons (pv 3) (pa2 (pv 4) (pv 1))))) pe_non (nomark _)))))))))))))), ?_⟩
    have fl := T.fl
    walk_at "rd*"
    refine ⟨f, rfl, hf, fun H0 s0 => ⟨⟨_, SqT.of (s0 _ _ hp)⟩, _, .inr (SqT.of (s0 _ _ hp)), rfl, iteN (fun e => nomatch e) ⟨_, SqT.of (s0 _ _ hp), .ref a, atI_nat (j := 0) rfl, ?_⟩⟩⟩
    refine ⟨t, a, d, ka, va, rfl, ht.same s0, s0 _ _ ha, ia.imm (Imm.of_same s0), la, fun q hq => ((ma q).mp hq).mem ok, fun H1 s1 => ⟨_, rfl, iteN (by decide) ⟨_, SqT.of (s1 _ _ (s0 _ _ hp)), .ref b, atI_nat (j := 1) rfl, ?_⟩⟩⟩
    have s01 := s0.trans s1
    refine ⟨t, b, d, kb, vb, rfl, ht.same s01, s01 _ _ hb, ib.imm (Imm.of_same s01), lb, fun q hq => ((mb q).mp hq).mem ok, fun H2 s2 => ⟨_, rfl, iteN (by decide) fun x1 dx1 nx nd ne => ?_⟩⟩
    have s02 := s01.trans s2
    refine ⟨x1, dx1, t, d, rfl, upd_same, (ht.same s02).same (two_new nx nd ne), fun H3 e3 S => ⟨rfl, ?_⟩⟩
    have s03 := s02.trans (Imm.made nx nd e3)
    refine ⟨_, SqT.of (s03 _ _ hp), .ref a, atI_nat (j := 0) rfl, _, SqT.of (s03 _ _ hp), .ref b, atI_nat (j := 1) rfl, fun x2 dx2 nx2 nd2 ne2 => ?_⟩
    have s4 := two_new (o1 := .own x2) (o2 := .ins (He.ga K "Told") dx2 []) nx2 nd2 ne2
    have s04 := s03.trans s4
    refine ⟨x2, dx2, x1, d, a, b, ka, va, kb, vb, rfl, upd_same, S.imm (Imm.of_same s4), ok, ⟨s04 _ _ ha, ia.imm (Imm.of_same s04), la, ma⟩, ⟨s04 _ _ hb, ib.imm (Imm.of_same s04), lb, mb⟩, fun H5 e5 W => ⟨rfl, ?_⟩⟩
    have s05 := s03.trans (Imm.made nx2 nd2 e5)
    obtain ⟨c, h, xc, hs, hd⟩ := W.head T
    obtain ⟨C, dxc, fsc, i1, i2, i3, i4, i5, i6⟩ := hd.ins
    obtain ⟨dxT, sT, mT, cT, hT, _, _, _, _, _, _, aT, _⟩ := W.ex
    obtain ⟨oh, hh2⟩ := hd.hf
    cases (i1.symm.trans aT)
    walk_at "rd*"
    refine ⟨x2, d, rfl, W, ok, fun H6 s6 => ⟨_, rfl, iteP rfl ?_⟩⟩
    have i16 := s6 _ _ i1
    have s06 := s05.trans s6
    have hd6 := hd.same s6
    walk_at "rd*"
    have hh26 := s6 _ _ hh2
    refine ⟨oh, hs, hh26, fun D hD => ?_⟩
    refine lcWD (R0 := fun (z : XE) v => v = V.ref z.2.1) (ds := hs) walk_keysX (by rw [List.length_map]) (by rw [List.length_map]; exact Nat.le_trans hd.h8 (by decide)) hD (paired_self hs) (fun _ y _ => y = .bl true) (fun _ _ _ _ _ _ e => e) (fun H s => s _ _ hh26) (fun i z v hi hv H7 s7 _ Ky ky => ?_) fun H7 zs s7 e7 pr7 => ?_
    · subst hv
      have hzm := List.mem_of_getElem? hi
      have hk : HR d z.1 := (hd.hr z.1).mp (List.mem_map.mpr ⟨z, hzm, rfl⟩)
      walk_at "rd"
      have hd7 := hd6.same s7
      refine ⟨t, x2, z.2.1, f, d, z.1, c, h, xc, hs, rfl, hf, ht.same (s06.trans s7), ok, hd7, hd7.hk z hzm, hk, fun _ H8 s8 => ky _ _ s8 rfl, fun mt => absurd mt (hap_not.mp nh z.1 hk)⟩
    · rw [all_trueP (R0 := fun _ _ => True) pr7] at e7
      refine ⟨_, SqL.of e7, ?_⟩
      rw [rep_all]
      exact k _ (s06.trans s7)
end
end Lm
set_option Elab.async false
set_option linter.all false
set_option maxRecDepth 100000
set_option maxHeartbeats 4000000
/-! Ledmarks k83: two fors with an invariant; loops over lists or tuples. -/
namespace Lm
open PySem PySem.Spec PyProof.Rows L2
section
variable {J J1 : It} {n : Nat} {G : Hp → Prop} {Y : Nat → Hp → V → Hp → Prop} {g g1 : TG} {tt tt1 : TT} {wi1 : TI} {te : TE} {vs vs1 : List Nat} {σ σ2 : L2.St} {H1 H4 : Hp} {D : Addr} {Qd Nx : Hp → Prop}
def InW (J1 : It) (g1 : TG) (tt1 : TT) (te : TE) (vs1 : List Nat) (σ2 : L2.St) (H4 : Hp) (D : Addr) (Nx : Hp → Prop) : Prop := ∃ W1 : Nat → Nat → Hp → Prop, (∃ m, W1 0 m H4) ∧ ∀ j k H, W1 j k H →
      (J1.stop j H ∧ Nx H) ∨ (J1.go j H ∧ ∃ Nx1 : Hp → Prop, (∀ H', Nx1 H' → ∃ k', k' < k ∧ W1 (j + 1) k' H') ∧ ∀ x H', J1.yld j H x H' → g1 x (wipe σ2 vs1) H' fun σ3 H5 => wipe σ3 vs1 = wipe σ2 vs1 ∧ tt1 σ3 H5 fun b H6 =>
        if b = true then te σ3 H6 fun y H7 => ∃ acc, H7 D = some (.lst acc) ∧ acc.length < sizeLine ∧ Nx1 (upd H7 D (.lst (acc ++ [y]))) else Nx1 H6)
theorem in_it (wk : Walk J1 n G Y) (Pv : Nat → Hp → Prop) (h0 : Pv 0 H4) (hG : ∀ i H, i ≤ n → Pv i H → G H)
    (hs : ∀ i x H H', i < n → Pv i H → Y i H x H' → g1 x (wipe σ2 vs1) H' fun σ3 H5 => wipe σ3 vs1 = wipe σ2 vs1 ∧ tt1 σ3 H5 fun b H6 =>
        if b = true then te σ3 H6 fun y H7 => ∃ acc, H7 D = some (.lst acc) ∧ acc.length < sizeLine ∧ Pv (i + 1) (upd H7 D (.lst (acc ++ [y]))) else Pv (i + 1) H6)
    (hd : ∀ H, Pv n H → Nx H) : InW J1 g1 tt1 te vs1 σ2 H4 D Nx := by
  refine ⟨fun j k H => (k = n - j ∧ j ≤ n) ∧ Pv j H, ⟨n - 0, ⟨rfl, Nat.zero_le _⟩, h0⟩, ?_⟩
  rintro j k H ⟨⟨rfl, hj⟩, p⟩
  have hg := hG j H hj p
  rcases Nat.lt_or_ge j n with lt | ge
  · exact .inr ⟨wk.goes j H lt hg, Pv (j + 1), fun H' p' => ⟨n - (j + 1), by omega, ⟨rfl, lt⟩, p'⟩, fun x H' y => hs j x H H' lt p (wk.yields j H x H' lt hg y)⟩
  · obtain rfl : j = n := by omega
    exact .inl ⟨wk.stops H hg, hd H p⟩
theorem lc2_it (wk : Walk J n G Y) (Pv : Nat → Hp → Prop) (h0 : Pv 0 (upd H1 D (.lst []))) (hG : ∀ i H, i ≤ n → Pv i H → G H)
    (hs : ∀ i x H H', i < n → Pv i H → Y i H x H' → g x (wipe σ vs) H' fun σ2 H2 => wipe σ2 vs = wipe σ vs ∧ tt σ2 H2 fun b H3 =>
      if b = true then wi1 σ2 H3 fun J1 H4 => InW J1 g1 tt1 te vs1 σ2 H4 D (Pv (i + 1)) else Pv (i + 1) H3)
    (hd : ∀ H, Pv n H → Qd H) : LcW2 J g tt wi1 g1 tt1 te vs vs1 σ H1 D Qd := by
  refine ⟨fun j k H => (k = n - j ∧ j ≤ n) ∧ Pv j H, ⟨n - 0, ⟨rfl, Nat.zero_le _⟩, h0⟩, ?_⟩
  rintro j k H ⟨⟨rfl, hj⟩, p⟩
  have hg := hG j H hj p
  rcases Nat.lt_or_ge j n with lt | ge
  · exact .inr ⟨wk.goes j H lt hg, Pv (j + 1), fun H' p' => ⟨n - (j + 1), by omega, ⟨rfl, lt⟩, p'⟩, fun x H' y => hs j x H H' lt p (wk.yields j H x H' lt hg y)⟩
  · obtain rfl : j = n := by omega
    exact .inl ⟨wk.stops H hg, hd H p⟩
end
section
variable {X : Cx} {N ps : List Str} {sc : Scope} {iter iter1 elt : Expr} {x y z x1 : Str} {scope : Scope} {pos p1 p2 p3 pt pz spos : Pos} {kk : Nat} {wi : TI} {wf : BF TI} {tf : BF TE}
/-- z = [elt for x, y in iter for x1 in iter1] -/
theorem psl2U (S : FnScope N ps sc) (k i j l : Nat) (hi : PI X (.Tuple [.Name x p1, .Name y p2] kk pt) iter wi) (hi1 : ∀ (s : Shared) (H : Hp) (C : Addr) (cl : List (Str × Addr)) (fp : List Addr), PI (X.blk s H scope (compEnvC scope cl C X.env) fp) (.Name x1 p3) iter1 (wf s H C cl fp))
    (he : ∀ (s : Shared) (H : Hp) (C : Addr) (cl : List (Str × Addr)) (fp : List Addr), PE (X.blk s H scope (compEnvC scope cl C X.env) fp) elt (tf s H C cl fp))
    (ok : blkC N sc scope [(x, i), (y, j), (x1, l)] = true := by decide +kernel) (eN : X.N = N := by rfl) (eS : X.env.scope = sc := by rfl) (hz : X.N[k]? = some z := by rfl) (hzl : X.env.scope.names.lookup z = some .local := by rfl) (hx : X.N[i]? = some x := by rfl) (hy : X.N[j]? = some y := by rfl) (hx1 : X.N[l]? = some x1 := by rfl) (hc : X.calm = true := by rfl) (hf : ∀ s H C cl fp, tf s H C cl fp = bf X tf := by intros; rfl) (hf2 : ∀ s H C cl fp, wf s H C cl fp = bf X wf := by intros; rfl)
    (hsw : swapsWith (.ListComp elt [⟨.Tuple [.Name x p1, .Name y p2] kk pt, iter, [], 0⟩, ⟨.Name x1 p3, iter1, [], 0⟩] scope pos) (some (.Name z pz)) spos.line X.env = pure true := by rfl)
    (hL : ∀ (cl : List (Str × Addr)) (C : Addr), (compEnvC scope cl C X.env).scope.names.lookup x = some .local := by intro _ _; rfl) (hL2 : ∀ (cl : List (Str × Addr)) (C : Addr), (compEnvC scope cl C X.env).scope.names.lookup y = some .local := by intro _ _; rfl) (hL1 : ∀ (cl : List (Str × Addr)) (C : Addr), (compEnvC scope cl C X.env).scope.names.lookup x1 = some .local := by intro _ _; rfl) (hs : ∀ y, foldedSetIterable iter X.env y = pure y := by intro _; rfl) (hs1 : ∀ env y, foldedSetIterable iter1 env y = pure y := by intro _ _; rfl) :
    PS X (.Assign [.Name z pz] (.ListComp elt [⟨.Tuple [.Name x p1, .Name y p2] kk pt, iter, [], 0⟩, ⟨.Name x1 p3, iter1, [], 0⟩] scope pos) spos) (tAsg (tLc2 wi (gPr X.K i j) tYes (bf X wf) (gName l) tYes (bf X tf) [i, j, l] [l]) (gName k)) :=
  have hN : X.N.Nodup := eN ▸ S.nd
  ps_setLc2 (own := [(x, i), (y, j), (x1, l)]) (vs1 := [l]) hc hN hz hzl hsw hi (by rw [eN, eS]; exact blkOk_by ok) (by simp) (fun s H C cl fp => pg_tup hc (pgs_cons (pg_name (i := i) hN hx (.inl (hL cl C)) (.inr (hL cl C))) (pgs_cons (pg_name (i := j) hN hy (.inl (hL2 cl C)) (.inr (hL2 cl C))) pgs_nil))) (fun _ _ _ _ _ => pts_nil)
    (fun s H C cl fp => by rw [← hf2 s H C cl fp]; exact hi1 s H C cl fp) (fun s H C cl fp => pg_name (i := l) hN hx1 (.inl (hL1 cl C)) (.inr (hL1 cl C))) (fun _ _ _ _ _ => pts_nil) (fun s H C cl fp => by rw [← hf s H C cl fp]; exact he s H C cl fp) hs hs1
end
section
variable {K : PySem.W.Frag} {a : Addr} {xs : List V} {g : TG} {tb : TS} {D : Ends} {σ : L2.St} {H : Hp} {te : TE}
/-- a for over a list or a tuple -/
theorem for_seq (hs : SqS K H a xs) (h : ∀ {J : It} {G : Hp → Prop}, Walk J xs.length G (YAt xs) → (∀ H', Same H H' → G H') → ForW J g tb D σ H) :
    (∃ xs, SqL K H a xs) ∧ ForW (Itl K a) g tb D σ H ∨ (∃ xs, SqT K H a xs) ∧ ForW (Itt K a) g tb D σ H := by
  rcases hs with h1 | h1
  · exact .inl ⟨⟨_, h1⟩, h walk_list fun H' s => s.seq h1⟩
  · exact .inr ⟨⟨_, h1⟩, h walk_tup fun H' s => Same.seqT s h1⟩
end
end Lm
set_option Elab.async false
set_option linter.all false
set_option maxRecDepth 100000
set_option maxHeartbeats 4000000
namespace Lm
open PySem PySem.Spec PyProof.Rows L2
local macro_rules | `(tactic| walk_at "rd") => `(tactic| simp (config := {failIfUnchanged := false}) only [tVar, tC, tIsN, tNotN, tB, tAnd, tOr, tNot, tAndV, tOrV, tNotV, tIf, tNext, tSeq, tBreak, tCont, tDrop, tRet, tRetN, tIfS, gName, gNil, gCons, gTup, tAsg, tPar,
  iList, iTup, iRng1, iRng2, r_tFor, tFmt, tJs, or_false, false_or, exists_false, r_tLc, r_tDc, bf, iSeq, r_wipe0, r_wipe1, tOp, tUn, rI, rI0, rU, rEq, rNe, tTest, tChain, tFld, sFld, tNil, tCons, tTup, tLst, tCall, tMeth, tMake, tCB, tNoPart, tPart, tSl, rIxL, rIxT, rIxQ, rSlQ, r_tLc2, tXGet, tXIn, tXNotIn, sXPut, tXSetd, tXDisp1, iKeysX, iItemsX, tFrz, tFrzE, tRetag, ClX.tCMeth, iEnum, gPr, gUnl, tDNewK, tMakeL, rIxD, cx_w, cx_P, rSlL, rIn, tBM0, tBM, rAppend, rExtend, rPop, rPopAt, rAny, rAll, tYes, iStr, rNewStrs, tM0, tM1, StX.tStar,
  L2.start, List.map_cons, List.map_nil, List.length_cons, List.length_nil, Nat.zero_add, Nat.reduceAdd, Nat.reduceSub, List.replicate_succ, List.replicate_zero, List.cons_append, List.nil_append, List.append_nil, List.set_cons_zero, List.set_cons_succ,
  List.getElem?_cons_zero, List.getElem?_cons_succ, Option.some.injEq, exists_eq_left', exists_eq_left, exists_eq', exists_eq, exists_and_left, exists_and_right, and_assoc, List.cons.injEq, V.str.injEq, V.ref.injEq, V.bl.injEq, V.int.injEq, V.ty.injEq, and_true, true_and, reduceCtorEq, false_and, and_false,
  Bool.not_true, Bool.not_false, Bool.false_eq_true, reduceIte, Bool.not_eq_true', decide_eq_true_eq, upd_same, cx_K, HO.ins.injEq, HO.tup.injEq, HO.lst.injEq, HO.dK.injEq, lk_Run_old, lk_Run_then, lk_Run_names, lm_Run_str, lk_Lead_tests, lk_Lead_old, lk_Lead_then, lk_Lead_names, lm_Lead_str, lk_Join_here, lk_Join_came, lk_Join_then, lk_Join_names, lm_Join_str, lk_Tool_marks, lk_Tool_told, lk_Tool_parts, lk_Tool_clears, lk_Tool_rows, lk_Tool_blank, lm_Tool_need_mark, lm_Tool_is_told, lm_Tool_ran, lm_Tool_led, lm_Tool_joined, lm_Tool_keeps, lm_Tool_need_row, lm_Tool_but, lm_Tool_without, lm_Tool_heeding, lm_Tool_len, lm_Tool_eq, lm_Tool_str, lk_Single_tool, lk_Single_begin, lm_Single_machine_steps, lm_Single_led, lm_Single_joined, lk_Ways_steps, lk_Ways_machine, lk_Ways_coming, lk_Ways_hearings, lk_Ways_elders, lm_Ways_edited, lm_Ways_heard, lk_Meeting_hearings, lk_Meeting_item, lk_Meeting_deeds, lk_Meeting_waiting, lk_Told_steps, lk_Told_machine, lk_Told_coming, lk_Told_hearings, lm_Told_is_closed])
local macro_rules | `(tactic| walk_at "rd*") => `(tactic| simp (config := {failIfUnchanged := false}) only [tVar, tC, tIsN, tNotN, tB, tAnd, tOr, tNot, tAndV, tOrV, tNotV, tIf, tNext, tSeq, tBreak, tCont, tDrop, tRet, tRetN, tIfS, gName, gNil, gCons, gTup, tAsg, tPar,
  iList, iTup, iRng1, iRng2, r_tFor, tFmt, tJs, or_false, false_or, exists_false, r_tLc, r_tDc, bf, iSeq, r_wipe0, r_wipe1, tOp, tUn, rI, rI0, rU, rEq, rNe, tTest, tChain, tFld, sFld, tNil, tCons, tTup, tLst, tCall, tMeth, tMake, tCB, tNoPart, tPart, tSl, rIxL, rIxT, rIxQ, rSlQ, r_tLc2, tXGet, tXIn, tXNotIn, sXPut, tXSetd, tXDisp1, iKeysX, iItemsX, tFrz, tFrzE, tRetag, ClX.tCMeth, iEnum, gPr, gUnl, tDNewK, tMakeL, rIxD, cx_w, cx_P, rSlL, rIn, tBM0, tBM, rAppend, rExtend, rPop, rPopAt, rAny, rAll, tYes, iStr, rNewStrs, tM0, tM1, StX.tStar,
  L2.start, List.map_cons, List.map_nil, List.length_cons, List.length_nil, Nat.zero_add, Nat.reduceAdd, Nat.reduceSub, List.replicate_succ, List.replicate_zero, List.cons_append, List.nil_append, List.append_nil, List.set_cons_zero, List.set_cons_succ,
  List.getElem?_cons_zero, List.getElem?_cons_succ, Option.some.injEq, exists_eq_left', exists_eq_left, exists_eq', exists_eq, exists_and_left, exists_and_right, and_assoc, List.cons.injEq, V.str.injEq, V.ref.injEq, V.bl.injEq, V.int.injEq, V.ty.injEq, and_true, true_and, reduceCtorEq, false_and, and_false,
  Bool.not_true, Bool.not_false, Bool.false_eq_true, reduceIte, Bool.not_eq_true', decide_eq_true_eq, upd_same, cx_K, HO.ins.injEq, HO.tup.injEq, HO.lst.injEq, HO.dK.injEq, lk_Run_old, lk_Run_then, lk_Run_names, lm_Run_str, lk_Lead_tests, lk_Lead_old, lk_Lead_then, lk_Lead_names, lm_Lead_str, lk_Join_here, lk_Join_came, lk_Join_then, lk_Join_names, lm_Join_str, lk_Tool_marks, lk_Tool_told, lk_Tool_parts, lk_Tool_clears, lk_Tool_rows, lk_Tool_blank, lm_Tool_need_mark, lm_Tool_is_told, lm_Tool_ran, lm_Tool_led, lm_Tool_joined, lm_Tool_keeps, lm_Tool_need_row, lm_Tool_but, lm_Tool_without, lm_Tool_heeding, lm_Tool_len, lm_Tool_eq, lm_Tool_str, lk_Single_tool, lk_Single_begin, lm_Single_machine_steps, lm_Single_led, lm_Single_joined, lk_Ways_steps, lk_Ways_machine, lk_Ways_coming, lk_Ways_hearings, lk_Ways_elders, lm_Ways_edited, lm_Ways_heard, lk_Meeting_hearings, lk_Meeting_item, lk_Meeting_deeds, lk_Meeting_waiting, lk_Told_steps, lk_Told_machine, lk_Told_coming, lk_Told_hearings, lm_Told_is_closed, *])
section
variable {P : Program} {w : World} {K : PySem.W.Frag} {mg : Str → Option Value} {base : Heap}
/-! ### need_all, happening -/
def spNeedAll (K : PySem.W.Frag) : Sp := fun vs H Q _ => ∃ a l, vs = [.ref a] ∧ SqS K H a (sv l) ∧ (∀ f ∈ l, f ∈ faultsL) ∧ ∀ H', Same H H' → Q .non H'
theorem sc_need_all : FnScope ["wanted", "fault"] ["wanted"] (defScope st_need_all) := ⟨rfl, rfl, rfl, by decide +kernel, rfl, by decide +kernel, by decide +kernel⟩
theorem x_need_all (T : Tx w K mg) : FX P w K mg base 2 "need_all" ["wanted"] (spNeedAll K) := by
  obtain ⟨fd, F⟩ := fun_need_all T.c
  have G1 : FX P w K mg base 1 "need_fault" ["fault"] spNeedFault := x_need_fault T
  refine FX.of F T.g_need_all sc_need_all (fun _ _ _ _ _ _ us hl => match us, hl with | [_], _ => rfl) (fun vs H Q E h => ?_) (fun cdv A outer s H vs Q E hr h => ?_)
  · obtain ⟨a, l, rfl, _⟩ := h
    rfl
  · obtain ⟨a, l, rfl, ha, hl, k⟩ := h
    refine ⟨_, (pss_one (ps_for PassesOwn.never rfl (pi_seq (pv 0)) (pg_name (i := 1) sc_need_all.nd rfl (Or.inl rfl)) (pss_one (ps_expr (pc G1 hr (pa1 (pv 1))))))), ?_⟩
    walk_at "rd"
    refine for_seq ha fun {J G} wk hG => for_it wk (fun _ σ H' => (∃ v, σ = [some (.ref a), v]) ∧ Same H H') ⟨⟨none, rfl⟩, Same.refl _⟩ (fun _ _ _ _ q => hG _ q.2) ?_ ?_
    · rintro j y σ3 H3 H3' hj ⟨⟨v, rfl⟩, s3⟩ ⟨rfl, hy⟩
      obtain ⟨z, hz, rfl⟩ := mem_sv (List.mem_of_getElem? hy)
      walk_at "rd"
      exact ⟨z, rfl, hl z hz, fun H4 s4 => s3.trans s4⟩
    · rintro σ3 H3 ⟨⟨v, rfl⟩, s3⟩
      exact k _ s3
/-- the wanted ones that happen, in the faults' order -/
noncomputable def hapL (d : ToolD) (l : List Str) : List Str := faultsL.filter fun f => hap d f && l.any fun y => decide (y = f)
def spHappening (K : PySem.W.Frag) : Sp := fun vs H Q _ => ∃ (t a : Addr) (d : ToolD) (l : List Str), vs = [.ref t, .ref a] ∧ ToolAt K H t d ∧ d.ok ∧ SqS K H a (sv l) ∧ ∀ p H', Same H H' → H' p = some (.lst (sv (hapL d l))) → Q (.ref p) H'
theorem sc_happening : FnScope ["tool", "wanted", "fault"] ["tool", "wanted"] (defScope st_happening) := ⟨rfl, rfl, rfl, by decide +kernel, rfl, by decide +kernel, by decide +kernel⟩
theorem x_happening (T : Tx w K mg) : FX P w K mg base 10 "happening" ["tool", "wanted"] (spHappening K) := by
  obtain ⟨fd, F⟩ := fun_happening T.c
  have G1 : FX P w K mg base 9 "faults" ["tool"] (spFaults K) := x_faults T
  refine FX.of F T.g_happening sc_happening (fun _ _ _ _ _ _ us hl => match us, hl with | [_, _], _ => rfl) (fun vs H Q E h => ?_) (fun cdv A outer s H vs Q E hr h => ?_)
  · obtain ⟨t, a, d, l, rfl, _⟩ := h
    rfl
  · obtain ⟨t, a, d, l, rfl, ht, ok, ha, k⟩ := h
    refine ⟨_, (pss_one (ps_ret (plcI sc_happening 2 (pi_tup (pc G1 hr (pa1 (pv 0)))) (fun _ _ _ _ _ => (pt_cmpR op_in_seq (pv 2) (pv 1) (by rfl))) (fun _ _ _ _ _ => (pv 2))))), ?_⟩
    walk_at "rd"
    refine ⟨t, d, rfl, ht, ok, fun p H1 s1 e1 => ⟨p, rfl, ⟨_, SqT.of e1⟩, fun D hD => ?_⟩⟩
    refine lcF walk_tup rfl (by rw [sv_len]; exact Nat.le_trans (List.length_filter_le _ _) (by decide)) hD (fun v => l.any fun y => decide (y = vStr v)) id (fun H2 s2 => SqT.of (s2 _ _ e1)) (fun x2 hx H2 s2 _ Ky Kn ky kn => ?_) fun H2 s2 e => ?_
    · obtain ⟨z, hzl, rfl⟩ := mem_sv hx
      walk_at "rd"
      refine ⟨_, Same.seqS (s1.trans s2) ha, rfl, flat_sv _, ?_⟩
      rw [inV_str]
      cases hz : (l.any fun y => decide (y = z)) with
      | true => exact ky hz _ (Same.refl _)
      | false => exact kn hz _ (Same.refl _)
    · refine k D _ (s1.trans s2) ?_
      rw [e]
      unfold hapL sv
      rw [List.map_id, List.filter_map, List.filter_filter]
      refine congrArg (fun l => some (HO.lst (List.map V.str l))) (List.filter_congr fun f _ => ?_)
      exact Bool.and_comm _ _
/-! ### choices -/
def chD : Nat → List (List Str × Nat)
  | 0 => [([], 0)]
  | n + 1 => (chD n).flatMap fun p => (List.range (3 - p.2)).map fun i => (p.1 ++ [partsL.getD (p.2 + i) Str.empty], p.2 + i + 1)
def chooseL (n : Nat) : List (List Str) := (chD n).map (·.1)
def TupS (l : List Str) (v : V) (H : Hp) : Prop := ∃ a, v = .ref a ∧ H a = some (.tup (sv l))
def ChV (p : List Str × Nat) (v : V) (H : Hp) : Prop := ∃ a b, v = .ref a ∧ H a = some (.tup [.ref b, .int p.2]) ∧ H b = some (.tup (sv p.1))
def spChoices : Sp := fun vs H Q _ => ∃ n : Nat, vs = [.int n] ∧ n ≤ 3 ∧ ∀ p H' us, Same H H' → H' p = some (.lst us) → Paired (fun l v => TupS l v H') (chooseL n) us → Q (.ref p) H'
theorem sc_choices : FnScope ["many", "found", "turn", "some", "begin", "at"] ["many"] (defScope st_choices) := ⟨rfl, rfl, rfl, by decide +kernel, rfl, by decide +kernel, by decide +kernel⟩
def stepF (p : List Str × Nat) : List (List Str × Nat) := (List.range (3 - p.2)).map fun i => (p.1 ++ [partsL.getD (p.2 + i) Str.empty], p.2 + i + 1)
theorem chD_len : ∀ n, n < 3 → (chD n).length ≤ 3 ∧ (∀ p ∈ chD n, p.2 ≤ 3) ∧ ∀ i, i ≤ 3 → (((chD n).take i).flatMap stepF).length ≤ 9 := by decide +kernel
theorem chD_len3 : ∀ n, n ≤ 3 → (chD n).length ≤ 3 := by decide +kernel
theorem chD_w : ∀ n, n < 3 → ∀ p ∈ chD n, p.1.length ≤ 3 := by decide +kernel
theorem parts_at : ∀ n, n < 3 → partsL[n]? = some (partsL.getD n Str.empty) := by decide +kernel
theorem ChV.same {p : List Str × Nat} {v : V} {H H' : Hp} (h : ChV p v H) (s : Same H H') : ChV p v H' := by
  obtain ⟨a, b, e, h1, h2⟩ := h
  exact ⟨a, b, e, s _ _ h1, s _ _ h2⟩
theorem ChV.imm {p : List Str × Nat} {v : V} {H H' : Hp} (h : ChV p v H) (s : Imm H H') : ChV p v H' := by
  obtain ⟨a, b, e, h1, h2⟩ := h
  exact ⟨a, b, e, s _ _ rfl h1, s _ _ rfl h2⟩
def ChI (H0 : Hp) (n : Nat) (j : Nat) (σ : L2.St) (H' : Hp) : Prop := ∃ q v2 us, σ = [some (.int n), some (.ref q), v2, none, none, none] ∧ Same H0 H' ∧ H' q = some (.lst us) ∧ Paired (fun p v => ChV p v H') (chD j) us
theorem x_choices (T : Tx w K mg) : FX P w K mg base 1 "choices" ["many"] spChoices := by
  obtain ⟨fd, F⟩ := fun_choices T.c
  refine FX.of F T.g_choices sc_choices (fun _ _ _ _ _ _ us hl => match us, hl with | [_], _ => rfl) (fun vs H Q E h => ?_) (fun cdv A outer s H vs Q E hr h => ?_)
  · obtain ⟨n, rfl, _⟩ := h
    rfl
  · obtain ⟨n, rfl, hn, k⟩ := h
    refine ⟨_, (pss_cons (ps_set (i := 1) sc_choices.nd rfl (Or.inl rfl) (pe_lst (pa1 (pe_tup (pa2 (pe_tup pa_nil) pe_int)))))
      (pss_cons (ps_for PassesOwn.never rfl (pi_range1 rfl T.n_range (pa1 (pv 0))) (pg_name (i := 2) sc_choices.nd rfl (Or.inl rfl)) (pss_one (psl2U sc_choices 1 3 4 5 (pi_list (pv 1)) (fun _ _ _ _ _ => (pi_range2 rfl T.n_range (pa2 (pv 4) (pb call_len_seq T.n_len (pa1 (pgr T.g_PARTS)))))) (fun _ _ _ _ _ => (pe_tup (pa2 (pe_tup (StX.pa_star (pv 3) (pa1 (pe_ix ix_tup (pgr T.g_PARTS) (pv 5) (fun _ _ => rfl))))) (pe_op op_add (pv 5) pe_int)))))))
      (pss_one (ps_ret (plcU sc_choices 3 4 (pi_list (pv 1)) (fun _ _ _ _ _ => (pv 3))))))), ?_⟩
    walk_at "rd"
    refine ⟨by decide, fun p hp => ⟨by decide, fun p1 hp1 => ⟨by decide, fun p2 hp2 => ⟨by omega, by omega, ?_⟩⟩⟩⟩
    have s1 := same_new (o := .tup []) hp
    have s2 := same_new (o := .tup [.ref p, .int 0]) hp1
    have s3 := same_new (o := .lst [.ref p1]) hp2
    refine for_it walk_range (ChI H n) ⟨p2, none, _, rfl, (s1.trans s2).trans s3, upd_same, .cons ⟨p1, p, rfl, s3 _ _ upd_same, s3 _ _ (s2 _ _ upd_same)⟩ .nil⟩ (fun _ _ _ _ _ => trivial) ?_ ?_
    · rintro j y σ4 H4 H4' hj ⟨q, v2, us, rfl, s4, e4, pr4⟩ ⟨rfl, rfl⟩
      have j3 : j < 3 := by omega
      obtain ⟨cl, c2, c9⟩ := chD_len j j3
      have ul : us.length = (chD j).length := (Paired.length pr4).symm
      walk_at "rd"
      refine ⟨⟨_, SqL.of e4⟩, fun D hD => ?_⟩
      refine lc2_it walk_list (fun i H' => Same H4' H' ∧ ∃ ys, H' D = some (.lst ys) ∧ Paired (fun p v => ChV p v H') (((chD j).take i).flatMap stepF) ys) ⟨same_new hD, [], upd_same, .nil⟩ (fun i H _ q => SqL.of (q.1 _ _ e4)) ?_ ?_
      · rintro i x H5 H5' hi ⟨s5, ys, e5, pr5⟩ ⟨rfl, hx⟩
        obtain ⟨c, hc, a, b, rfl, ha, hb⟩ := pair_at pr4 hx
        have hcm := List.mem_of_getElem? hc
        have c3 := c2 c hcm
        walk_at "rd"
        refine ⟨_, SqT.of (s5 _ _ ha), rfl, _, _, rfl, _, _, rfl, rfl, ?_⟩
        refine ⟨_, .inr (T.t_PARTS _), c.2, rfl, by omega, by omega, by show -2 ^ 62 ≤ ((3 : Nat) : Int); decide, by show ((3 : Nat) : Int) < 2 ^ 62; decide, ?_⟩
        have l1 : (((chD j).take (i + 1)).flatMap stepF).length ≤ 9 := c9 (i + 1) (by omega)
        have tk : ((chD j).take (i + 1)).flatMap stepF = ((chD j).take i).flatMap stepF ++ stepF c := by rw [take_snoc hc, List.flatMap_append, List.flatMap_cons, List.flatMap_nil, List.append_nil]
        rw [tk] at l1 ⊢
        have sl : (stepF c).length = 3 - c.2 := by unfold stepF; rw [List.length_map, List.length_range]
        have en : ((((sv partsL).length : Nat) : Int) - (c.2 : Int)).toNat = 3 - c.2 := by show (((3 : Nat) : Int) - (c.2 : Int)).toNat = _; omega
        rw [en]
        refine in_it walk_range (fun m H' => Same H4' H' ∧ ∃ ys, H' D = some (.lst ys) ∧ Paired (fun p v => ChV p v H') (((chD j).take i).flatMap stepF ++ (stepF c).take m) ys) ⟨s5, ys, e5, by simpa using pr5⟩ (fun _ _ _ _ => trivial) ?_ ?_
        · rintro m x H6 H6' hm ⟨s6, ys6, e6, pr6⟩ ⟨rfl, rfl⟩
          have yl : ys6.length ≤ 9 := by
            rw [← Paired.length pr6, List.length_append]
            rw [List.length_append] at l1
            have := List.length_take_le m (stepF c)
            have := List.length_take_le' m (stepF c)
            omega
          have hcm : (stepF c)[m]? = some (c.1 ++ [partsL.getD (c.2 + m) Str.empty], c.2 + m + 1) := by
            unfold stepF
            rw [List.getElem?_map, List.getElem?_range hm]
            rfl
          have hpa := parts_at (c.2 + m) (by omega)
          walk_at "rd"
          refine ⟨_, .inl (SqT.of (s6 _ _ hb)), ?_⟩
          have ec : (c.2 : Int) + m + 1 = ((c.2 + m + 1 : Nat) : Int) := by omega
          rw [ec]
          refine ⟨_, T.t_PARTS _, .str (partsL.getD (c.2 + m) Str.empty), ?_, ?_, fun u hu => ⟨by decide, fun v hv => ?_⟩⟩
          · rw [show (c.2 : Int) + m = ((c.2 + m : Nat) : Int) by omega]
            refine atI_nat ?_
            unfold sv
            rw [List.getElem?_map, hpa]
            rfl
          · rw [List.length_append, sv_len]
            have := chD_w j j3 c (List.mem_of_getElem? hc)
            exact len_ok (by rw [List.length_singleton]; omega)
          have t1 := same_new (o := .tup (sv c.1 ++ [V.str (partsL.getD (c.2 + m) Str.empty)])) hu
          have t2 := same_new (o := .tup [.ref u, .int ((c.2 + m + 1 : Nat) : Int)]) hv
          have t12 := t1.trans t2
          have eu : upd (upd H6' u (.tup (sv c.1 ++ [V.str (partsL.getD (c.2 + m) Str.empty)]))) v (.tup [.ref u, .int ((c.2 + m + 1 : Nat) : Int)]) u = some (.tup (sv (c.1 ++ [partsL.getD (c.2 + m) Str.empty]))) := by
            rw [show sv (c.1 ++ [partsL.getD (c.2 + m) Str.empty]) = sv c.1 ++ [V.str (partsL.getD (c.2 + m) Str.empty)] by unfold sv; rw [List.map_append]; rfl]
            exact t2 _ _ upd_same
          have ev : upd (upd H6' u (.tup (sv c.1 ++ [V.str (partsL.getD (c.2 + m) Str.empty)]))) v (.tup [.ref u, .int ((c.2 + m + 1 : Nat) : Int)]) v = some (.tup [.ref u, .int ((c.2 + m + 1 : Nat) : Int)]) := upd_same
          have e7 := t12 _ _ e6
          generalize upd (upd H6' u (.tup (sv c.1 ++ [V.str (partsL.getD (c.2 + m) Str.empty)]))) v (.tup [.ref u, .int ((c.2 + m + 1 : Nat) : Int)]) = H7 at *
          have im : Imm H7 (upd H7 D (.lst (ys6 ++ [.ref v]))) := imm_put e7 rfl
          refine ⟨ys6, e7, len_lt (by omega), fun b2 o2 eb => ?_, ?_⟩
          · rw [upd_ne (ne_of_none eb hD)]
            exact t12 _ _ (s6 _ _ eb)
          · rw [take_snoc hcm, ← List.append_assoc]
            exact Paired.snoc (L2.Paired.mapP pr6 fun _ _ z => (z.same t12).imm im) ⟨v, u, rfl, im _ _ rfl ev, im _ _ rfl eu⟩
        · rintro H6 ⟨s6, ys6, e6, pr6⟩
          rw [show (stepF c).take (3 - c.2) = stepF c by rw [← sl, List.take_length]] at pr6
          exact ⟨s6, ys6, e6, pr6⟩
      · rintro H5 ⟨s5, ys, e5, pr5⟩
        have te : (chD j).take us.length = chD j := by rw [ul, List.take_length]
        rw [te] at pr5
        exact ⟨_, _, _, rfl, s4.trans s5, e5, pr5⟩
    · rintro σ4 H4 ⟨q, v2, us, rfl, s4, e4, pr4⟩
      walk_at "rd"
      have ul : us.length = (chD n).length := (Paired.length pr4).symm
      have e0 : ((n : Nat) : Int).toNat = n := rfl
      refine ⟨⟨_, SqL.of e4⟩, fun D hD => ?_⟩
      have pr5 : Paired (fun p v => ChV p v H4) (chD n) us := pr4
      refine lcWD walk_list rfl (by rw [ul]; have := chD_len3 n hn; omega) hD pr5 (fun p v H' => TupS p.1 v H') (fun p v Ha Hb _ im ⟨a, e, h⟩ => ⟨a, e, im _ _ rfl h⟩) (fun H s => s.seq (SqL.of e4)) (fun i p v hi hv H5 s5 _ Ky ky => ?_) fun H5 ys s5 e5 pr6 => ?_
      · obtain ⟨a, b, rfl, ha, hb⟩ := hv
        walk_at "rd"
        refine ⟨_, SqT.of (s5 _ _ ha), rfl, _, _, rfl, _, _, rfl, rfl, ?_⟩
        exact ky _ _ (Same.refl _) ⟨b, rfl, s5 _ _ hb⟩
      · have conv : ∀ {l : List (List Str × Nat)} {m : List V}, Paired (fun (p : List Str × Nat) v => TupS p.1 v H5) l m → Paired (fun l v => TupS l v H5) (l.map (·.1)) m := by
          intro l m h
          induction h with
          | nil => exact .nil
          | cons r t ih => exact .cons r ih
        exact k D _ ys (s4.trans s5) e5 (conv pr6)
end
end Lm
set_option Elab.async false
set_option linter.all false
set_option maxRecDepth 100000
set_option maxHeartbeats 4000000
namespace Lm
open PySem PySem.Spec PyProof.Rows L2
local macro_rules | `(tactic| walk_at "rd") => `(tactic| simp (config := {failIfUnchanged := false}) only [tVar, tC, tIsN, tNotN, tB, tAnd, tOr, tNot, tAndV, tOrV, tNotV, tIf, tNext, tSeq, tBreak, tCont, tDrop, tRet, tRetN, tIfS, gName, gNil, gCons, gTup, tAsg, tPar,
  iList, iTup, iRng1, iRng2, r_tFor, tFmt, tJs, or_false, false_or, exists_false, r_tLc, r_tDc, bf, iSeq, r_wipe0, r_wipe1, tOp, tUn, rI, rI0, rU, rEq, rNe, tTest, tChain, tFld, sFld, tNil, tCons, tTup, tLst, tCall, tMeth, tMake, tCB, tNoPart, tPart, tSl, rIxL, rIxT, rIxQ, rSlQ, r_tLc2, tXGet, tXIn, tXNotIn, sXPut, tXSetd, tXDisp1, iKeysX, iItemsX, tFrz, tFrzE, tRetag, ClX.tCMeth, iEnum, gPr, gUnl, tDNewK, tMakeL, rIxD, cx_w, cx_P, rSlL, rIn, tBM0, tBM, rAppend, rExtend, rPop, rPopAt, rAny, rAll, tYes, iStr, rNewStrs, tM0, tM1, StX.tStar,
  L2.start, List.map_cons, List.map_nil, List.length_cons, List.length_nil, Nat.zero_add, Nat.reduceAdd, Nat.reduceSub, List.replicate_succ, List.replicate_zero, List.cons_append, List.nil_append, List.append_nil, List.set_cons_zero, List.set_cons_succ,
  List.getElem?_cons_zero, List.getElem?_cons_succ, Option.some.injEq, exists_eq_left', exists_eq_left, exists_eq', exists_eq, exists_and_left, exists_and_right, and_assoc, List.cons.injEq, V.str.injEq, V.ref.injEq, V.bl.injEq, V.int.injEq, V.ty.injEq, and_true, true_and, reduceCtorEq, false_and, and_false,
  Bool.not_true, Bool.not_false, Bool.false_eq_true, reduceIte, Bool.not_eq_true', decide_eq_true_eq, upd_same, cx_K, HO.ins.injEq, HO.tup.injEq, HO.lst.injEq, HO.dK.injEq, lk_Run_old, lk_Run_then, lk_Run_names, lm_Run_str, lk_Lead_tests, lk_Lead_old, lk_Lead_then, lk_Lead_names, lm_Lead_str, lk_Join_here, lk_Join_came, lk_Join_then, lk_Join_names, lm_Join_str, lk_Tool_marks, lk_Tool_told, lk_Tool_parts, lk_Tool_clears, lk_Tool_rows, lk_Tool_blank, lm_Tool_need_mark, lm_Tool_is_told, lm_Tool_ran, lm_Tool_led, lm_Tool_joined, lm_Tool_keeps, lm_Tool_need_row, lm_Tool_but, lm_Tool_without, lm_Tool_heeding, lm_Tool_len, lm_Tool_eq, lm_Tool_str, lk_Single_tool, lk_Single_begin, lm_Single_machine_steps, lm_Single_led, lm_Single_joined, lk_Ways_steps, lk_Ways_machine, lk_Ways_coming, lk_Ways_hearings, lk_Ways_elders, lm_Ways_edited, lm_Ways_heard, lk_Meeting_hearings, lk_Meeting_item, lk_Meeting_deeds, lk_Meeting_waiting, lk_Told_steps, lk_Told_machine, lk_Told_coming, lk_Told_hearings, lm_Told_is_closed])
local macro_rules | `(tactic| walk_at "rd*") => `(tactic| simp (config := {failIfUnchanged := false}) only [tVar, tC, tIsN, tNotN, tB, tAnd, tOr, tNot, tAndV, tOrV, tNotV, tIf, tNext, tSeq, tBreak, tCont, tDrop, tRet, tRetN, tIfS, gName, gNil, gCons, gTup, tAsg, tPar,
  iList, iTup, iRng1, iRng2, r_tFor, tFmt, tJs, or_false, false_or, exists_false, r_tLc, r_tDc, bf, iSeq, r_wipe0, r_wipe1, tOp, tUn, rI, rI0, rU, rEq, rNe, tTest, tChain, tFld, sFld, tNil, tCons, tTup, tLst, tCall, tMeth, tMake, tCB, tNoPart, tPart, tSl, rIxL, rIxT, rIxQ, rSlQ, r_tLc2, tXGet, tXIn, tXNotIn, sXPut, tXSetd, tXDisp1, iKeysX, iItemsX, tFrz, tFrzE, tRetag, ClX.tCMeth, iEnum, gPr, gUnl, tDNewK, tMakeL, rIxD, cx_w, cx_P, rSlL, rIn, tBM0, tBM, rAppend, rExtend, rPop, rPopAt, rAny, rAll, tYes, iStr, rNewStrs, tM0, tM1, StX.tStar,
  L2.start, List.map_cons, List.map_nil, List.length_cons, List.length_nil, Nat.zero_add, Nat.reduceAdd, Nat.reduceSub, List.replicate_succ, List.replicate_zero, List.cons_append, List.nil_append, List.append_nil, List.set_cons_zero, List.set_cons_succ,
  List.getElem?_cons_zero, List.getElem?_cons_succ, Option.some.injEq, exists_eq_left', exists_eq_left, exists_eq', exists_eq, exists_and_left, exists_and_right, and_assoc, List.cons.injEq, V.str.injEq, V.ref.injEq, V.bl.injEq, V.int.injEq, V.ty.injEq, and_true, true_and, reduceCtorEq, false_and, and_false,
  Bool.not_true, Bool.not_false, Bool.false_eq_true, reduceIte, Bool.not_eq_true', decide_eq_true_eq, upd_same, cx_K, HO.ins.injEq, HO.tup.injEq, HO.lst.injEq, HO.dK.injEq, lk_Run_old, lk_Run_then, lk_Run_names, lm_Run_str, lk_Lead_tests, lk_Lead_old, lk_Lead_then, lk_Lead_names, lm_Lead_str, lk_Join_here, lk_Join_came, lk_Join_then, lk_Join_names, lm_Join_str, lk_Tool_marks, lk_Tool_told, lk_Tool_parts, lk_Tool_clears, lk_Tool_rows, lk_Tool_blank, lm_Tool_need_mark, lm_Tool_is_told, lm_Tool_ran, lm_Tool_led, lm_Tool_joined, lm_Tool_keeps, lm_Tool_need_row, lm_Tool_but, lm_Tool_without, lm_Tool_heeding, lm_Tool_len, lm_Tool_eq, lm_Tool_str, lk_Single_tool, lk_Single_begin, lm_Single_machine_steps, lm_Single_led, lm_Single_joined, lk_Ways_steps, lk_Ways_machine, lk_Ways_coming, lk_Ways_hearings, lk_Ways_elders, lm_Ways_edited, lm_Ways_heard, lk_Meeting_hearings, lk_Meeting_item, lk_Meeting_deeds, lk_Meeting_waiting, lk_Told_steps, lk_Told_machine, lk_Told_coming, lk_Told_hearings, lm_Told_is_closed, *])
theorem walkR (n : Nat) : Walk (Itr 0 n) n (fun _ => True) (YAt ((List.range n).map fun i : Nat => V.int (i : Int))) :=
  walk_range.mono (fun _ h => h) fun i H x H' hi _ ⟨e, h⟩ => ⟨e, by rw [List.getElem?_map, List.getElem?_range hi, h]; show some (V.int (i : Int)) = some (V.int (0 + (i : Int))); rw [Int.zero_add]⟩
theorem pairR (n : Nat) : Paired (fun (i : Nat) v => v = V.int (i : Int)) (List.range n) ((List.range n).map fun i : Nat => V.int (i : Int)) := by
  generalize List.range n = l
  induction l with
  | nil => exact .nil
  | cons a r ih => exact .cons rfl ih
section
variable {P : Program} {w : World} {K : PySem.W.Frag} {mg : Str → Option Value} {base : Heap}
/-! ### least_parts -/
noncomputable def goodB (d : ToolD) (l ps : List Str) : Bool := decide (hapL (d.heed ps) l = [])
noncomputable def best (d : ToolD) (l : List Str) : Option (List Str) := (List.range 4).findSome? fun n => (chooseL n).find? (goodB d l)
theorem find_take {α : Type} {p : α → Bool} {l : List α} {i : Nat} {x : α} (h : ∀ z ∈ l.take i, p z = false) (hx : l[i]? = some x) (hy : p x = true) : l.find? p = some x := by
  induction l generalizing i with
  | nil => cases hx
  | cons a r ih =>
    cases i with
    | zero =>
      obtain rfl : a = x := by simpa using hx
      rw [List.find?_cons, hy]
    | succ i =>
      have ha : p a = false := h a (by simp)
      rw [List.find?_cons, ha]
      exact ih (fun z hz => h z (by rw [List.take_succ_cons]; exact List.mem_cons_of_mem _ hz)) (by simpa using hx)
theorem find_no {α : Type} {p : α → Bool} {l : List α} (h : ∀ z ∈ l, p z = false) : l.find? p = none := List.find?_eq_none.mpr fun x hx => by rw [h x hx]; exact Bool.false_ne_true
def spLeastParts (K : PySem.W.Frag) : Sp := fun vs H Q _ => ∃ (t a : Addr) (d : ToolD) (l : List Str), vs = [.ref t, .ref a] ∧ ToolAt K H t d ∧ d.ok ∧ SqS K H a (sv l) ∧ (∀ f ∈ l, f ∈ faultsL) ∧
  (best d l = none → ∀ H', Same H H' → Q .non H') ∧ ∀ ps, best d l = some ps → ∀ b H', Same H H' → H' b = some (.tup (sv ps)) → Q (.ref b) H'
theorem sc_least_parts : FnScope ["tool", "wanted", "many", "some"] ["tool", "wanted"] (defScope st_least_parts) := ⟨rfl, rfl, rfl, by decide +kernel, rfl, by decide +kernel, by decide +kernel⟩
theorem hapL_ok (d : ToolD) (l : List Str) : ∀ f ∈ hapL d l, okS f := fun f hf => by
  have := (List.mem_filter.mp hf).1
  revert f
  have : ∀ f ∈ faultsL, okS f := by unfold okS; decide +kernel
  exact fun f _ h => this f h
def LpO (d : ToolD) (l : List Str) (H0 : Hp) (t a : Addr) (j : Nat) (σ : L2.St) (H' : Hp) : Prop := (∃ v2 v3, σ = [some (.ref t), some (.ref a), v2, v3]) ∧ Same H0 H' ∧ ∀ n, n < j → (chooseL n).find? (goodB d l) = none
def LpI (d : ToolD) (l : List Str) (H0 : Hp) (t a : Addr) (v2 : Option V) (n i : Nat) (σ : L2.St) (H' : Hp) : Prop := (∃ v3, σ = [some (.ref t), some (.ref a), v2, v3]) ∧ Same H0 H' ∧ ∀ z ∈ (chooseL n).take i, goodB d l z = false
theorem x_least_parts (T : Tx w K mg) : FX P w K mg base 11 "least_parts" ["tool", "wanted"] (spLeastParts K) := by
  obtain ⟨fd, F⟩ := fun_least_parts T.c
  have G1 : FX P w K mg base 2 "need_all" ["wanted"] (spNeedAll K) := x_need_all T
  have G2 : FX P w K mg base 1 "choices" ["many"] spChoices := x_choices T
  have G3 : FX P w K mg base 10 "happening" ["tool", "wanted"] (spHappening K) := x_happening T
  have G4 : MX P w K mg base 7 (He.ga K "Tool") "heeding" ["self", "parts"] (spHeeding K) := x_heeding T
  refine FX.of F T.g_least_parts sc_least_parts (fun _ _ _ _ _ _ us hl => match us, hl with | [_, _], _ => rfl) (fun vs H Q E h => ?_) (fun cdv A outer s H vs Q E hr h => ?_)
  · obtain ⟨t, a, d, l, rfl, _⟩ := h
    rfl
  · obtain ⟨t, a, d, l, rfl, ht, ok, ha, hl, k0, k1⟩ := h
    refine ⟨_, (pss_cons (ps_expr (pc G1 hr (pa1 (pv 1))))
      (pss_cons (ps_for PassesOwn.never rfl (pi_range1 rfl T.n_range (pa1 (pe_op op_add (pb call_len_seq T.n_len (pa1 (pgr T.g_PARTS))) pe_int))) (pg_name (i := 2) sc_least_parts.nd rfl (Or.inl rfl)) (pss_one (ps_for PassesOwn.never rfl (pi_list (pc G2 hr (pa1 (pv 2)))) (pg_name (i := 3) sc_least_parts.nd rfl (Or.inl rfl)) (pss_one (ps_if (pt_cmpR (op_eqD (room64 hr)) (pc G3 hr (pa2 (pm G4 T.cl_Tool hr (pv 0) (pa1 (pv 3))) (pv 1))) (pe_lst pa_nil) (nomark _)) (pss_one (ps_ret (pv 3))) pss_nil)))))
      (pss_one (ps_ret pe_non)))), ?_⟩
    walk_at "rd"
    refine ⟨a, l, rfl, ha, hl, fun H1 s1 => ⟨_, .inr (T.t_PARTS _), by show -2 ^ 62 ≤ ((3 : Nat) : Int) + 1; decide, by show ((3 : Nat) : Int) + 1 < 2 ^ 62; decide, ?_⟩⟩
    have e4 : (((sv partsL).length : Nat) + 1 : Int).toNat = 4 := rfl
    rw [e4]
    refine for_it walk_range (LpO d l H t a) ⟨⟨none, none, rfl⟩, s1, fun n hn => absurd hn (Nat.not_lt_zero n)⟩ (fun _ _ _ _ _ => trivial) ?_ ?_
    · rintro j y σ3 H3 H3' hj ⟨⟨v2, v3, rfl⟩, s3, q3⟩ ⟨rfl, rfl⟩
      walk_at "rd"
      refine ⟨j, by rw [Int.zero_add], by omega, fun p H4 us s4 e4 pr => ⟨p, rfl, ⟨_, SqL.of e4⟩, ?_⟩⟩
      have s34 := s3.trans s4
      have ul : us.length = (chooseL j).length := (Paired.length pr).symm
      obtain ⟨dx, ma, ta, pa, ra, vst, h1, _⟩ := ht.ex
      refine for_it (walk_list (xs := us)) (LpI d l H4 t a (some (.int (0 + (j : Nat)))) j) ⟨⟨_, rfl⟩, Same.refl _, fun z hz => by simp at hz⟩ (fun i σ H' _ ⟨_, sq, _⟩ => SqL.of (sq _ _ e4)) ?_ ?_
      · rintro i y σ5 H5 H5' hi ⟨⟨v3', rfl⟩, s5, q5⟩ ⟨rfl, hy⟩
        obtain ⟨ps, hps, b, rfl, hb⟩ := pair_at pr hy
        have s35 := s34.trans s5
        have h15 := s35 _ _ h1
        have fl := T.fl
        walk_at "rd*"
        refine ⟨t, b, d, ps, rfl, ht.same s35, ok, .inr (SqT.of (s5 _ _ hb)), fun x H6 s6 hx => ?_⟩
        refine ⟨x, a, d.heed ps, l, rfl, hx, ok.rowed (heed_ok ok ps), Same.seqS (s35.trans s6) ha, fun q H7 s7 e7 => ⟨by decide, fun q2 hq2 => ?_⟩⟩
        have sn := same_new (o := .lst []) hq2
        have s57 := s5.trans ((s6.trans s7).trans sn)
        refine eq_lists (l := hapL (d.heed ps) l) (m := []) encS (SqL.of (sn _ _ e7)) (dp_strs _) (hapL_ok _ _) (SqL.of upd_same) .nil (fun _ h => nomatch h) ?_
        cases hg : goodB d l ps with
        | true =>
          have hg' : decide (hapL (d.heed ps) l = []) = true := hg
          rw [hg']
          refine ⟨_, rfl, iteP rfl ?_⟩
          walk_at "rd"
          refine k1 ps ?_ b _ (s34.trans s57) (s57 _ _ hb)
          unfold best
          exact findSome_take (i := j) (x := j) (fun z hz => by
            rw [List.take_range, Nat.min_eq_left (by omega)] at hz
            exact q3 z (List.mem_range.mp hz)) (List.getElem?_range hj) (find_take q5 hps hg)
        | false =>
          have hg' : decide (hapL (d.heed ps) l = []) = false := hg
          rw [hg']
          refine ⟨_, rfl, iteN (by decide) ⟨⟨_, rfl⟩, s57, fun z hz => ?_⟩⟩
          rw [take_snoc hps] at hz
          rcases List.mem_append.mp hz with hz | hz
          · exact q5 z hz
          · rw [List.mem_singleton.mp hz]; exact hg
      · rintro σ5 H5 ⟨⟨v3', rfl⟩, s5, q5⟩
        rw [ul, List.take_length] at q5
        refine ⟨⟨_, _, rfl⟩, s34.trans s5, fun n hn => ?_⟩
        rcases Nat.lt_or_ge n j with h | h
        · exact q3 n h
        · obtain rfl : n = j := by omega
          exact find_no q5
    · rintro σ3 H3 ⟨⟨v2, v3, rfl⟩, s3, q3⟩
      walk_at "rd"
      refine k0 ?_ _ s3
      unfold best
      exact List.findSome?_eq_none_iff.mpr fun n hn => q3 n (List.mem_range.mp hn)
end
end Lm
set_option Elab.async false
set_option linter.all false
set_option maxRecDepth 100000
set_option maxHeartbeats 4000000
namespace Lm
open PySem PySem.Spec PyProof.Rows L2
local macro_rules | `(tactic| walk_at "rd") => `(tactic| simp (config := {failIfUnchanged := false}) only [tVar, tC, tIsN, tNotN, tB, tAnd, tOr, tNot, tAndV, tOrV, tNotV, tIf, tNext, tSeq, tBreak, tCont, tDrop, tRet, tRetN, tIfS, gName, gNil, gCons, gTup, tAsg, tPar,
  iList, iTup, iRng1, iRng2, r_tFor, tFmt, tJs, or_false, false_or, exists_false, r_tLc, r_tDc, bf, iSeq, r_wipe0, r_wipe1, tOp, tUn, rI, rI0, rU, rEq, rNe, tTest, tChain, tFld, sFld, tNil, tCons, tTup, tLst, tCall, tMeth, tMake, tCB, tNoPart, tPart, tSl, rIxL, rIxT, rIxQ, rSlQ, r_tLc2, tXGet, tXIn, tXNotIn, sXPut, tXSetd, tXDisp1, iKeysX, iItemsX, tFrz, tFrzE, tRetag, ClX.tCMeth, iEnum, gPr, gUnl, tDNewK, tMakeL, rIxD, cx_w, cx_P, rSlL, rIn, tBM0, tBM, rAppend, rExtend, rPop, rPopAt, rAny, rAll, tYes, iStr, rNewStrs, tM0, tM1, StX.tStar,
  L2.start, List.map_cons, List.map_nil, List.length_cons, List.length_nil, Nat.zero_add, Nat.reduceAdd, Nat.reduceSub, List.replicate_succ, List.replicate_zero, List.cons_append, List.nil_append, List.append_nil, List.set_cons_zero, List.set_cons_succ,
  List.getElem?_cons_zero, List.getElem?_cons_succ, Option.some.injEq, exists_eq_left', exists_eq_left, exists_eq', exists_eq, exists_and_left, exists_and_right, and_assoc, List.cons.injEq, V.str.injEq, V.ref.injEq, V.bl.injEq, V.int.injEq, V.ty.injEq, and_true, true_and, reduceCtorEq, false_and, and_false,
  Bool.not_true, Bool.not_false, Bool.false_eq_true, reduceIte, Bool.not_eq_true', decide_eq_true_eq, upd_same, cx_K, HO.ins.injEq, HO.tup.injEq, HO.lst.injEq, HO.dK.injEq, lk_Run_old, lk_Run_then, lk_Run_names, lm_Run_str, lk_Lead_tests, lk_Lead_old, lk_Lead_then, lk_Lead_names, lm_Lead_str, lk_Join_here, lk_Join_came, lk_Join_then, lk_Join_names, lm_Join_str, lk_Tool_marks, lk_Tool_told, lk_Tool_parts, lk_Tool_clears, lk_Tool_rows, lk_Tool_blank, lm_Tool_need_mark, lm_Tool_is_told, lm_Tool_ran, lm_Tool_led, lm_Tool_joined, lm_Tool_keeps, lm_Tool_need_row, lm_Tool_but, lm_Tool_without, lm_Tool_heeding, lm_Tool_len, lm_Tool_eq, lm_Tool_str, lk_Single_tool, lk_Single_begin, lm_Single_machine_steps, lm_Single_led, lm_Single_joined, lk_Ways_steps, lk_Ways_machine, lk_Ways_coming, lk_Ways_hearings, lk_Ways_elders, lm_Ways_edited, lm_Ways_heard, lk_Meeting_hearings, lk_Meeting_item, lk_Meeting_deeds, lk_Meeting_waiting, lk_Told_steps, lk_Told_machine, lk_Told_coming, lk_Told_hearings, lm_Told_is_closed])
local macro_rules | `(tactic| walk_at "rd*") => `(tactic| simp (config := {failIfUnchanged := false}) only [tVar, tC, tIsN, tNotN, tB, tAnd, tOr, tNot, tAndV, tOrV, tNotV, tIf, tNext, tSeq, tBreak, tCont, tDrop, tRet, tRetN, tIfS, gName, gNil, gCons, gTup, tAsg, tPar,
  iList, iTup, iRng1, iRng2, r_tFor, tFmt, tJs, or_false, false_or, exists_false, r_tLc, r_tDc, bf, iSeq, r_wipe0, r_wipe1, tOp, tUn, rI, rI0, rU, rEq, rNe, tTest, tChain, tFld, sFld, tNil, tCons, tTup, tLst, tCall, tMeth, tMake, tCB, tNoPart, tPart, tSl, rIxL, rIxT, rIxQ, rSlQ, r_tLc2, tXGet, tXIn, tXNotIn, sXPut, tXSetd, tXDisp1, iKeysX, iItemsX, tFrz, tFrzE, tRetag, ClX.tCMeth, iEnum, gPr, gUnl, tDNewK, tMakeL, rIxD, cx_w, cx_P, rSlL, rIn, tBM0, tBM, rAppend, rExtend, rPop, rPopAt, rAny, rAll, tYes, iStr, rNewStrs, tM0, tM1, StX.tStar,
  L2.start, List.map_cons, List.map_nil, List.length_cons, List.length_nil, Nat.zero_add, Nat.reduceAdd, Nat.reduceSub, List.replicate_succ, List.replicate_zero, List.cons_append, List.nil_append, List.append_nil, List.set_cons_zero, List.set_cons_succ,
  List.getElem?_cons_zero, List.getElem?_cons_succ, Option.some.injEq, exists_eq_left', exists_eq_left, exists_eq', exists_eq, exists_and_left, exists_and_right, and_assoc, List.cons.injEq, V.str.injEq, V.ref.injEq, V.bl.injEq, V.int.injEq, V.ty.injEq, and_true, true_and, reduceCtorEq, false_and, and_false,
  Bool.not_true, Bool.not_false, Bool.false_eq_true, reduceIte, Bool.not_eq_true', decide_eq_true_eq, upd_same, cx_K, HO.ins.injEq, HO.tup.injEq, HO.lst.injEq, HO.dK.injEq, lk_Run_old, lk_Run_then, lk_Run_names, lm_Run_str, lk_Lead_tests, lk_Lead_old, lk_Lead_then, lk_Lead_names, lm_Lead_str, lk_Join_here, lk_Join_came, lk_Join_then, lk_Join_names, lm_Join_str, lk_Tool_marks, lk_Tool_told, lk_Tool_parts, lk_Tool_clears, lk_Tool_rows, lk_Tool_blank, lm_Tool_need_mark, lm_Tool_is_told, lm_Tool_ran, lm_Tool_led, lm_Tool_joined, lm_Tool_keeps, lm_Tool_need_row, lm_Tool_but, lm_Tool_without, lm_Tool_heeding, lm_Tool_len, lm_Tool_eq, lm_Tool_str, lk_Single_tool, lk_Single_begin, lm_Single_machine_steps, lm_Single_led, lm_Single_joined, lk_Ways_steps, lk_Ways_machine, lk_Ways_coming, lk_Ways_hearings, lk_Ways_elders, lm_Ways_edited, lm_Ways_heard, lk_Meeting_hearings, lk_Meeting_item, lk_Meeting_deeds, lk_Meeting_waiting, lk_Told_steps, lk_Told_machine, lk_Told_coming, lk_Told_hearings, lm_Told_is_closed, *])
section
variable {P : Program} {w : World} {K : PySem.W.Frag} {mg : Str → Option Value} {base : Heap}
/-! ### needless, repairs -/
noncomputable def lessEq (d : ToolD) (l : List Str) (to : List Str) (n : Nat) : Bool := decide (hapL (d.less n) l = to)
noncomputable def lessL (d : ToolD) (l : List Str) (to : List Str) : List Nat := (List.range d.rows.length).filter (lessEq d l to)
def iv (l : List Nat) : List V := l.map fun n : Nat => V.int (n : Int)
theorem paired_iv : ∀ {l : List Nat} {m : List V}, Paired (fun (n : Nat) v => v = V.int (n : Int)) l m → m = iv l
  | _, _, .nil => rfl
  | _, _, .cons e t => by rw [e, paired_iv t]; rfl
def spNeedless (K : PySem.W.Frag) (to : ToolD → List Str → List Str) : Sp := fun vs H Q _ => ∃ (t a : Addr) (d : ToolD) (l : List Str), vs = [.ref t, .ref a] ∧ ToolAt K H t d ∧ d.ok ∧ SqS K H a (sv l) ∧ (∀ f ∈ l, f ∈ faultsL) ∧
  ∀ b H', Same H H' → H' b = some (.tup (iv (lessL d l (to d l)))) → Q (.ref b) H'
theorem sc_needless : FnScope ["tool", "wanted", "found", "at"] ["tool", "wanted"] (defScope st_needless) := ⟨rfl, rfl, rfl, by decide +kernel, rfl, by decide +kernel, by decide +kernel⟩
theorem sc_repairs : FnScope ["tool", "wanted", "at"] ["tool", "wanted"] (defScope st_repairs) := ⟨rfl, rfl, rfl, by decide +kernel, rfl, by decide +kernel, by decide +kernel⟩
theorem x_needless (T : Tx w K mg) : FX P w K mg base 11 "needless" ["tool", "wanted"] (spNeedless K hapL) := by
  obtain ⟨fd, F⟩ := fun_needless T.c
  have G1 : FX P w K mg base 2 "need_all" ["wanted"] (spNeedAll K) := x_need_all T
  have G3 : FX P w K mg base 10 "happening" ["tool", "wanted"] (spHappening K) := x_happening T
  have G4 : MX P w K mg base 7 (He.ga K "Tool") "without" ["self", "at"] (spWithout K) := x_without T
  have G5 : MX P w K mg base 1 (He.ga K "Tool") "__len__" ["self"] (spToolLen K) := x_Tool_len T
  refine FX.of F T.g_needless sc_needless (fun _ _ _ _ _ _ us hl => match us, hl with | [_, _], _ => rfl) (fun vs H Q E h => ?_) (fun cdv A outer s H vs Q E hr h => ?_)
  · obtain ⟨t, a, d, l, rfl, _⟩ := h
    rfl
  · obtain ⟨t, a, d, l, rfl, ht, ok, ha, hl, k⟩ := h
    obtain ⟨dx, ma, ta, pa, ra, vst, h1, _⟩ := ht.ex
    refine ⟨_, (pss_cons (ps_expr (pc G1 hr (pa1 (pv 1))))
      (pss_cons (ps_set (i := 2) sc_needless.nd rfl (Or.inr rfl) (pc G3 hr (pa2 (pv 0) (pv 1))))
      (pss_one (ps_ret (pbt call_tuple_of T.n_tuple (pa1 (plcI sc_needless 3 (pi_range1 rfl T.n_range (pa1 (pb (call_lenO G5 (Room.mono hr (by decide))) T.n_len (pa1 (pv 0))))) (fun _ _ _ _ _ => (pt_cmpR (op_eqD (room64 hr)) (pc G3 hr (pa2 (pm G4 T.cl_Tool hr (pv 0) (pa1 (pv 3))) (pv 1))) (pv 2) (nomark _))) (fun _ _ _ _ _ => (pv 3))))))))), ?_⟩
    walk_at "rd"
    refine ⟨a, l, rfl, ha, hl, fun H1 s1 => ⟨t, a, d, l, rfl, ht.same s1, ok, Same.seqS s1 ha, fun f H2 s2 e2 => ?_⟩⟩
    have s02 := s1.trans s2
    have fl := T.fl
    have h12 := s02 _ _ h1
    walk_at "rd*"
    refine ⟨t, d, rfl, ht.same s02, fun H3 s3 => ⟨d.rows.length, rfl, by omega, by have := ok.short; omega, d.rows.length, rfl, by have := ok.short; omega, by have := ok.short; omega, fun D hD => ?_⟩⟩
    have s03 := s02.trans s3
    have sh := ok.short
    refine lcWK (walkR d.rows.length) (by rw [List.length_map, List.length_range]) (by rw [List.length_map, List.length_range]; omega) hD (pairR d.rows.length) (lessEq d l (hapL d l)) (fun n v _ => v = V.int (n : Int)) (fun _ _ _ _ _ _ e => e) (fun _ _ => trivial) (fun i n v hi hv H4 s4 _ Ky Kn ky kn => ?_) fun H4 ys s4 e4 pr4 => ?_
    · subst hv
      have s04 := s03.trans s4
      have h14 := s04 _ _ h1
      have hn : n < d.rows.length := List.mem_range.mp (List.mem_of_getElem? hi)
      walk_at "rd*"
      refine ⟨t, d, n, rfl, ht.same s04, ok, hn, fun x H5 s5 hx => ?_⟩
      refine ⟨x, a, d.less n, l, rfl, hx, ok.rowed (less_ok ok n), Same.seqS (s04.trans s5) ha, fun q H6 s6 e6 => ?_⟩
      walk_at "rd"
      have s36 : Same H2 H6 := s3.trans (s4.trans (s5.trans s6))
      refine eq_lists (l := hapL (d.less n) l) (m := hapL d l) encS (SqL.of e6) (dp_strs _) (hapL_ok _ _) (SqL.of (s36 _ _ e2)) (dp_strs _) (hapL_ok _ _) ?_
      cases hg : lessEq d l (hapL d l) n with
      | true =>
        rw [show decide (hapL (d.less n) l = hapL d l) = true from hg]
        exact ⟨_, rfl, iteP rfl (ky hg _ _ (s5.trans s6) rfl)⟩
      | false =>
        rw [show decide (hapL (d.less n) l = hapL d l) = false from hg]
        exact ⟨_, rfl, iteN (by decide) (kn hg _ (s5.trans s6))⟩
    · rw [paired_iv pr4] at e4
      exact ⟨_, .inl ⟨SqL.of e4, fun p hp => k p _ ((s03.trans s4).trans (same_new hp)) upd_same⟩⟩
theorem x_repairs (T : Tx w K mg) : FX P w K mg base 11 "repairs" ["tool", "wanted"] (spNeedless K fun _ _ => []) := by
  obtain ⟨fd, F⟩ := fun_repairs T.c
  have G1 : FX P w K mg base 2 "need_all" ["wanted"] (spNeedAll K) := x_need_all T
  have G3 : FX P w K mg base 10 "happening" ["tool", "wanted"] (spHappening K) := x_happening T
  have G4 : MX P w K mg base 7 (He.ga K "Tool") "without" ["self", "at"] (spWithout K) := x_without T
  have G5 : MX P w K mg base 1 (He.ga K "Tool") "__len__" ["self"] (spToolLen K) := x_Tool_len T
  refine FX.of F T.g_repairs sc_repairs (fun _ _ _ _ _ _ us hl => match us, hl with | [_, _], _ => rfl) (fun vs H Q E h => ?_) (fun cdv A outer s H vs Q E hr h => ?_)
  · obtain ⟨t, a, d, l, rfl, _⟩ := h
    rfl
  · obtain ⟨t, a, d, l, rfl, ht, ok, ha, hl, k⟩ := h
    obtain ⟨dx, ma, ta, pa, ra, vst, h1, _⟩ := ht.ex
    refine ⟨_, (pss_cons (ps_expr (pc G1 hr (pa1 (pv 1))))
      (pss_one (ps_ret (pbt call_tuple_of T.n_tuple (pa1 (plcI sc_repairs 2 (pi_range1 rfl T.n_range (pa1 (pb (call_lenO G5 (Room.mono hr (by decide))) T.n_len (pa1 (pv 0))))) (fun _ _ _ _ _ => (pt_cmpR (op_eqD (room64 hr)) (pc G3 hr (pa2 (pm G4 T.cl_Tool hr (pv 0) (pa1 (pv 2))) (pv 1))) (pe_lst pa_nil) (nomark _))) (fun _ _ _ _ _ => (pv 2)))))))), ?_⟩
    walk_at "rd"
    refine ⟨a, l, rfl, ha, hl, fun H2 s02 => ?_⟩
    have fl := T.fl
    have h12 := s02 _ _ h1
    walk_at "rd*"
    refine ⟨t, d, rfl, ht.same s02, fun H3 s3 => ⟨d.rows.length, rfl, by omega, by have := ok.short; omega, d.rows.length, rfl, by have := ok.short; omega, by have := ok.short; omega, fun D hD => ?_⟩⟩
    have s03 := s02.trans s3
    have sh := ok.short
    refine lcWK (walkR d.rows.length) (by rw [List.length_map, List.length_range]) (by rw [List.length_map, List.length_range]; omega) hD (pairR d.rows.length) (lessEq d l []) (fun n v _ => v = V.int (n : Int)) (fun _ _ _ _ _ _ e => e) (fun _ _ => trivial) (fun i n v hi hv H4 s4 _ Ky Kn ky kn => ?_) fun H4 ys s4 e4 pr4 => ?_
    · subst hv
      have s04 := s03.trans s4
      have h14 := s04 _ _ h1
      have hn : n < d.rows.length := List.mem_range.mp (List.mem_of_getElem? hi)
      walk_at "rd*"
      refine ⟨t, d, n, rfl, ht.same s04, ok, hn, fun x H5 s5 hx => ?_⟩
      refine ⟨x, a, d.less n, l, rfl, hx, ok.rowed (less_ok ok n), Same.seqS (s04.trans s5) ha, fun q H6 s6 e6 => ?_⟩
      walk_at "rd"
      refine ⟨by decide, fun q2 hq2 => ?_⟩
      have sn := same_new (o := .lst []) hq2
      refine eq_lists (l := hapL (d.less n) l) (m := []) encS (SqL.of (sn _ _ e6)) (dp_strs _) (hapL_ok _ _) (SqL.of upd_same) .nil (fun _ h => nomatch h) ?_
      cases hg : lessEq d l [] n with
      | true =>
        rw [show decide (hapL (d.less n) l = []) = true from hg]
        exact ⟨_, rfl, iteP rfl (ky hg _ _ ((s5.trans s6).trans sn) rfl)⟩
      | false =>
        rw [show decide (hapL (d.less n) l = []) = false from hg]
        exact ⟨_, rfl, iteN (by decide) (kn hg _ ((s5.trans s6).trans sn))⟩
    · rw [paired_iv pr4] at e4
      exact ⟨_, .inl ⟨SqL.of e4, fun p hp => k p _ ((s03.trans s4).trans (same_new hp)) upd_same⟩⟩
end
end Lm
set_option Elab.async false
set_option linter.all false
set_option maxRecDepth 100000
set_option maxHeartbeats 4000000
namespace Lm
open PySem PySem.Spec PyProof.Rows L2
local macro_rules | `(tactic| walk_at "rd") => `(tactic| simp (config := {failIfUnchanged := false}) only [tVar, tC, tIsN, tNotN, tB, tAnd, tOr, tNot, tAndV, tOrV, tNotV, tIf, tNext, tSeq, tBreak, tCont, tDrop, tRet, tRetN, tIfS, gName, gNil, gCons, gTup, tAsg, tPar,
  iList, iTup, iRng1, iRng2, r_tFor, tFmt, tJs, or_false, false_or, exists_false, r_tLc, r_tDc, bf, iSeq, r_wipe0, r_wipe1, tOp, tUn, rI, rI0, rU, rEq, rNe, tTest, tChain, tFld, sFld, tNil, tCons, tTup, tLst, tCall, tMeth, tMake, tCB, tNoPart, tPart, tSl, rIxL, rIxT, rIxQ, rSlQ, r_tLc2, tXGet, tXIn, tXNotIn, sXPut, tXSetd, tXDisp1, iKeysX, iItemsX, tFrz, tFrzE, tRetag, ClX.tCMeth, iEnum, gPr, gUnl, tDNewK, tMakeL, rIxD, cx_w, cx_P, rSlL, rIn, tBM0, tBM, rAppend, rExtend, rPop, rPopAt, rAny, rAll, tYes, iStr, rNewStrs, tM0, tM1, StX.tStar,
  L2.start, List.map_cons, List.map_nil, List.length_cons, List.length_nil, Nat.zero_add, Nat.reduceAdd, Nat.reduceSub, List.replicate_succ, List.replicate_zero, List.cons_append, List.nil_append, List.append_nil, List.set_cons_zero, List.set_cons_succ,
  List.getElem?_cons_zero, List.getElem?_cons_succ, Option.some.injEq, exists_eq_left', exists_eq_left, exists_eq', exists_eq, exists_and_left, exists_and_right, and_assoc, List.cons.injEq, V.str.injEq, V.ref.injEq, V.bl.injEq, V.int.injEq, V.ty.injEq, and_true, true_and, reduceCtorEq, false_and, and_false,
  Bool.not_true, Bool.not_false, Bool.false_eq_true, reduceIte, Bool.not_eq_true', decide_eq_true_eq, upd_same, cx_K, HO.ins.injEq, HO.tup.injEq, HO.lst.injEq, HO.dK.injEq, lk_Run_old, lk_Run_then, lk_Run_names, lm_Run_str, lk_Lead_tests, lk_Lead_old, lk_Lead_then, lk_Lead_names, lm_Lead_str, lk_Join_here, lk_Join_came, lk_Join_then, lk_Join_names, lm_Join_str, lk_Tool_marks, lk_Tool_told, lk_Tool_parts, lk_Tool_clears, lk_Tool_rows, lk_Tool_blank, lm_Tool_need_mark, lm_Tool_is_told, lm_Tool_ran, lm_Tool_led, lm_Tool_joined, lm_Tool_keeps, lm_Tool_need_row, lm_Tool_but, lm_Tool_without, lm_Tool_heeding, lm_Tool_len, lm_Tool_eq, lm_Tool_str, lk_Single_tool, lk_Single_begin, lm_Single_machine_steps, lm_Single_led, lm_Single_joined, lk_Ways_steps, lk_Ways_machine, lk_Ways_coming, lk_Ways_hearings, lk_Ways_elders, lm_Ways_edited, lm_Ways_heard, lk_Meeting_hearings, lk_Meeting_item, lk_Meeting_deeds, lk_Meeting_waiting, lk_Told_steps, lk_Told_machine, lk_Told_coming, lk_Told_hearings, lm_Told_is_closed])
local macro_rules | `(tactic| walk_at "rd*") => `(tactic| simp (config := {failIfUnchanged := false}) only [tVar, tC, tIsN, tNotN, tB, tAnd, tOr, tNot, tAndV, tOrV, tNotV, tIf, tNext, tSeq, tBreak, tCont, tDrop, tRet, tRetN, tIfS, gName, gNil, gCons, gTup, tAsg, tPar,
  iList, iTup, iRng1, iRng2, r_tFor, tFmt, tJs, or_false, false_or, exists_false, r_tLc, r_tDc, bf, iSeq, r_wipe0, r_wipe1, tOp, tUn, rI, rI0, rU, rEq, rNe, tTest, tChain, tFld, sFld, tNil, tCons, tTup, tLst, tCall, tMeth, tMake, tCB, tNoPart, tPart, tSl, rIxL, rIxT, rIxQ, rSlQ, r_tLc2, tXGet, tXIn, tXNotIn, sXPut, tXSetd, tXDisp1, iKeysX, iItemsX, tFrz, tFrzE, tRetag, ClX.tCMeth, iEnum, gPr, gUnl, tDNewK, tMakeL, rIxD, cx_w, cx_P, rSlL, rIn, tBM0, tBM, rAppend, rExtend, rPop, rPopAt, rAny, rAll, tYes, iStr, rNewStrs, tM0, tM1, StX.tStar,
  L2.start, List.map_cons, List.map_nil, List.length_cons, List.length_nil, Nat.zero_add, Nat.reduceAdd, Nat.reduceSub, List.replicate_succ, List.replicate_zero, List.cons_append, List.nil_append, List.append_nil, List.set_cons_zero, List.set_cons_succ,
  List.getElem?_cons_zero, List.getElem?_cons_succ, Option.some.injEq, exists_eq_left', exists_eq_left, exists_eq', exists_eq, exists_and_left, exists_and_right, and_assoc, List.cons.injEq, V.str.injEq, V.ref.injEq, V.bl.injEq, V.int.injEq, V.ty.injEq, and_true, true_and, reduceCtorEq, false_and, and_false,
  Bool.not_true, Bool.not_false, Bool.false_eq_true, reduceIte, Bool.not_eq_true', decide_eq_true_eq, upd_same, cx_K, HO.ins.injEq, HO.tup.injEq, HO.lst.injEq, HO.dK.injEq, lk_Run_old, lk_Run_then, lk_Run_names, lm_Run_str, lk_Lead_tests, lk_Lead_old, lk_Lead_then, lk_Lead_names, lm_Lead_str, lk_Join_here, lk_Join_came, lk_Join_then, lk_Join_names, lm_Join_str, lk_Tool_marks, lk_Tool_told, lk_Tool_parts, lk_Tool_clears, lk_Tool_rows, lk_Tool_blank, lm_Tool_need_mark, lm_Tool_is_told, lm_Tool_ran, lm_Tool_led, lm_Tool_joined, lm_Tool_keeps, lm_Tool_need_row, lm_Tool_but, lm_Tool_without, lm_Tool_heeding, lm_Tool_len, lm_Tool_eq, lm_Tool_str, lk_Single_tool, lk_Single_begin, lm_Single_machine_steps, lm_Single_led, lm_Single_joined, lk_Ways_steps, lk_Ways_machine, lk_Ways_coming, lk_Ways_hearings, lk_Ways_elders, lm_Ways_edited, lm_Ways_heard, lk_Meeting_hearings, lk_Meeting_item, lk_Meeting_deeds, lk_Meeting_waiting, lk_Told_steps, lk_Told_machine, lk_Told_coming, lk_Told_hearings, lm_Told_is_closed, *])
section
variable {P : Program} {w : World} {K : PySem.W.Frag} {mg : Str → Option Value} {base : Heap}
/-! ### the law's draws -/
def dealK (g : Addr) (nw mx tn : Int) : List (Key × V) := [(Sum.inr "great", .ref g), (Sum.inr "now", .int nw), (Sum.inr "mixed", .int mx), (Sum.inr "turn", .int tn)]
/-- a source of draws stands at c, its great cells at g -/
def DealAt (H : Hp) (c g : Addr) : Prop := ∃ (gs : List Int) (nw mx tn : Int), H c = some (.dK (dealK g nw mx tn)) ∧ H g = some (.lst (gs.map V.int)) ∧ gs.length ≤ 1000
theorem dk_great {g : Addr} {nw mx tn : Int} : valV (dealK g nw mx tn) (Sum.inr "great") = some (.ref g) := by unfold dealK valV; rfl
theorem dk_now {g : Addr} {nw mx tn : Int} : valV (dealK g nw mx tn) (Sum.inr "now") = some (.int nw) := by unfold dealK valV; rfl
theorem dk_mixed {g : Addr} {nw mx tn : Int} : valV (dealK g nw mx tn) (Sum.inr "mixed") = some (.int mx) := by unfold dealK valV; rfl
theorem dk_turn {g : Addr} {nw mx tn : Int} : valV (dealK g nw mx tn) (Sum.inr "turn") = some (.int tn) := by unfold dealK valV; rfl
theorem dp_now {g : Addr} {nw mx tn x : Int} : putK (dealK g nw mx tn) (Sum.inr "now") (.int x) = dealK g x mx tn := by unfold dealK putK; rfl
theorem dp_mixed {g : Addr} {nw mx tn x : Int} : putK (dealK g nw mx tn) (Sum.inr "mixed") (.int x) = dealK g nw x tn := by unfold dealK putK; rfl
theorem dp_turn {g : Addr} {nw mx tn x : Int} : putK (dealK g nw mx tn) (Sum.inr "turn") (.int x) = dealK g nw mx x := by unfold dealK putK; rfl
section
variable {H : Hp} {c g : Addr} {nw mx tn : Int}
theorem g_great (h : H c = some (.dK (dealK g nw mx tn))) : DGet H c (.str "great") (some (.ref g)) := DGet.k (k := Sum.inr "great") h
theorem g_now (h : H c = some (.dK (dealK g nw mx tn))) : DGet H c (.str "now") (some (.int nw)) := DGet.k (k := Sum.inr "now") h
theorem g_mixed (h : H c = some (.dK (dealK g nw mx tn))) : DGet H c (.str "mixed") (some (.int mx)) := DGet.k (k := Sum.inr "mixed") h
theorem g_turn (h : H c = some (.dK (dealK g nw mx tn))) : DGet H c (.str "turn") (some (.int tn)) := DGet.k (k := Sum.inr "turn") h
theorem p_now (h : H c = some (.dK (dealK g nw mx tn))) (x : Int) : DPut H c (.str "now") (.int x) (upd H c (.dK (dealK g x mx tn))) := DPut.k (k := Sum.inr "now") h (by show 4 < sizeLine; decide)
theorem p_mixed (h : H c = some (.dK (dealK g nw mx tn))) (x : Int) : DPut H c (.str "mixed") (.int x) (upd H c (.dK (dealK g nw x tn))) := DPut.k (k := Sum.inr "mixed") h (by show 4 < sizeLine; decide)
theorem p_turn (h : H c = some (.dK (dealK g nw mx tn))) (x : Int) : DPut H c (.str "turn") (.int x) (upd H c (.dK (dealK g nw mx x))) := DPut.k (k := Sum.inr "turn") h (by show 4 < sizeLine; decide)
end
theorem w_get {i : Nat} {σ : L2.St} {H : Hp} {k : Str} {v : V} {Q : VK} {c : Addr} (hs : σ[i]? = some (some (.ref c))) (hd : DGet H c (.str k) (some v)) (q : Q v H) : tDGet (tVar i) (tC (.str k)) σ H Q := ⟨_, hs, c, v, rfl, hd, q⟩
theorem while_r {tt : TT} {tb : TS} {D : Ends} {σ : L2.St} {H : Hp} (R : L2.St → Hp → Prop) (W : Nat → L2.St → Hp → Prop) {m0 : Nat} (h0 : W m0 σ H)
    (hs : ∀ Nx : L2.St → Hp → Prop, (∀ σ H, R σ H → Nx σ H) → ∀ m σ H, W m σ H → tt σ H fun b H' => if b = true then ∃ N : L2.St → Hp → Prop, (∀ σ' H', N σ' H' → ∃ m', m' < m ∧ W m' σ' H') ∧ tb { D with nx := N, ct := N, bk := Nx } σ H' else Nx σ H')
    (hd : ∀ σ H, R σ H → D.nx σ H) : tWhile tt tb D σ H := ⟨W, ⟨m0, h0⟩, hs D.nx hd⟩
def spDraw : Sp := fun vs H Q _ => ∃ (c g : Addr) (n : Int), vs = [.ref c, .int n] ∧ 0 < n ∧ n < 1000 ∧ DealAt H c g ∧ ∀ r H', 0 ≤ r → r < n → Ex [c, g] H H' → DealAt H' c g → Q (.int r) H'
theorem sc_draw : FnScope ["_law_deal_here", "_law_many", "_law_digit", "_law_first", "_law_second"] ["_law_deal_here", "_law_many"] (defScope st_law_draw) := ⟨rfl, rfl, rfl, by decide +kernel, rfl, by decide +kernel, by decide +kernel⟩
def DrI (H0 : Hp) (c g : Addr) (n : Int) (k : Nat) (σ : L2.St) (H' : Hp) : Prop := σ = [some (.ref c), some (.int n), none, none, none] ∧ Ex [c, g] H0 H' ∧ ∃ (gs : List Int) (nw mx tn : Int), gs.length = k ∧ H' c = some (.dK (dealK g nw mx tn)) ∧ H' g = some (.lst (gs.map V.int)) ∧ gs.length ≤ 1000
def DrL (H0 : Hp) (c g : Addr) (n : Int) (k : Nat) (σ : L2.St) (H' : Hp) : Prop := ∃ m, m < k ∧ DrI H0 c g n m σ H'
theorem x_draw (T : Tx w K mg) : FX P w K mg base 1 "_law_draw" ["_law_deal_here", "_law_many"] spDraw := by
  obtain ⟨fd, F⟩ := fun_law_draw T.c
  refine FX.of F T.g_law_draw sc_draw (fun _ _ _ _ _ _ us hl => match us, hl with | [_, _], _ => rfl) (fun vs H Q E h => ?_) (fun cdv A outer s H vs Q E hr h => ?_)
  · obtain ⟨c, g, n, rfl, _⟩ := h
    rfl
  · obtain ⟨c, g, n, rfl, n0, n1, ⟨gs, nw, mx, tn, hc, hg, hl⟩, k⟩ := h
    refine ⟨_, (pss_cons (ps_while PassesOwn.never (PW.pt (pw_and (pt_cmpR op_eq (pe_dget (room1 hr) (pv 0) pe_str (fun _ _ => rfl)) pe_int (nomark _)) (pw_and1 (pt_cmpR op_gt (pb call_len_seq T.n_len (pa1 (pe_dget (room1 hr) (pv 0) pe_str (fun _ _ => rfl)))) pe_int (nomark _))))) (pss_one (ps_dput (room1 hr) (pv 0) pe_str (pe_bm0 PySem.F.plainAttrs_list PySem.F.slot_list_pop PySem.F.type_list_pop mt_pop (pe_dget (room1 hr) (pv 0) pe_str (fun _ _ => rfl))) rfl)))
      (pss_cons (ps_if (pt_cmpR op_gt (pe_dget (room1 hr) (pv 0) pe_str (fun _ _ => rfl)) pe_int (nomark _)) (pss_cons (ps_set (i := 2) sc_draw.nd rfl (Or.inl rfl) (pe_op op_modN (pbt call_int1 T.n_int (pa1 (pe_dget (room1 hr) (pv 0) pe_str (fun _ _ => rfl)))) (pv 1)))
      (pss_cons (ps_dput (room1 hr) (pv 0) pe_str (pe_op op_fdivN (pe_dget (room1 hr) (pv 0) pe_str (fun _ _ => rfl)) (pv 1)) rfl)
      (pss_one (ps_ret (pv 2))))) pss_nil)
      (pss_cons (ps_dput (room1 hr) (pv 0) pe_str (pe_op op_add (pe_dget (room1 hr) (pv 0) pe_str (fun _ _ => rfl)) pe_int) rfl)
      (pss_cons (ps_set (i := 3) sc_draw.nd rfl (Or.inl rfl) (pe_op op_modN (pbt call_int1 T.n_int (pa1 (pe_op op_add (pe_op op_mul (pe_dget (room1 hr) (pv 0) pe_str (fun _ _ => rfl)) pe_int) (pe_op op_mul (pe_dget (room1 hr) (pv 0) pe_str (fun _ _ => rfl)) pe_int)))) pe_int))
      (pss_cons (ps_set (i := 4) sc_draw.nd rfl (Or.inl rfl) (pe_op op_modN (pbt call_int1 T.n_int (pa1 (pe_op op_add (pe_op op_mul (pv 3) (pv 3)) (pe_op op_mul (pe_dget (room1 hr) (pv 0) pe_str (fun _ _ => rfl)) pe_int)))) pe_int))
      (pss_cons (ps_dput (room1 hr) (pv 0) pe_str (pe_op op_add (pe_op op_modN (pbt call_int1 T.n_int (pa1 (pe_op op_add (pe_op op_mul (pv 4) pe_int) (pv 3)))) pe_int) pe_int) rfl)
      (pss_one (ps_ret (pe_op op_modN (pbt call_int1 T.n_int (pa1 (pe_op op_add (pe_op op_fdivN (pv 4) pe_int) (pv 3)))) (pv 1)))))))))), ?_⟩
    have ncg : c ≠ g := ne_of hc hg (fun z => nomatch z)
    refine while_r (fun σ H' => ∃ k, DrI H c g n k σ H') (DrI H c g n) (m0 := gs.length) ⟨rfl, Ex.of_same (Same.refl _), gs, nw, mx, tn, rfl, hc, hg, hl⟩ ?_ ?_
    · rintro Nx hN m σ H1 ⟨rfl, E1, gs, nw, mx, tn, rfl, hc, hg, hl⟩
      walk_at "rd"
      refine w_get rfl (g_now hc) ⟨rfl, ?_⟩
      by_cases z : nw = 0
      · subst z
        refine iteP rfl ?_
        refine w_get rfl (g_great hc) ?_
        refine ⟨g, rfl, gs.map V.int, .inl (SqL.of hg), ?_⟩
        by_cases pos : (0 : Int) < ((gs.map V.int).length : Nat)
        · refine iteP pos ⟨DrL H c g n gs.length, fun _ _ h => h, ?_⟩
          walk_at "rd"
          refine w_get rfl (g_great hc) ?_
          rw [List.length_map] at pos
          have hne : gs ≠ [] := fun e => by rw [e] at pos; exact absurd pos (by decide)
          refine ⟨.inl ⟨rfl, _, SqL.of hg⟩, g, _, .int (gs.getLast hne), rfl, rfl, hg, ?_, ?_⟩
          · rw [List.length_map, List.getElem?_map, ← List.getLast?_eq_getElem?, List.getLast?_eq_some_getLast hne]
            rfl
          · have hc2 : upd H1 g (.lst ((gs.map V.int).dropLast)) c = some (.dK (dealK g 0 mx tn)) := by rw [upd_ne ncg]; exact hc
            walk_at "rd"
            refine ⟨_, p_now hc2 _, gs.dropLast.length, ?_, rfl, (E1.in (by simp)).in (by simp), gs.dropLast, _, mx, tn, rfl, upd_same, ?_, ?_⟩
            · rw [List.length_dropLast]; omega
            · rw [upd_ne ncg.symm, upd_same, List.map_dropLast]
            · rw [List.length_dropLast]; omega
        · exact iteN pos (hN _ _ ⟨_, rfl, E1, gs, 0, mx, tn, rfl, hc, hg, hl⟩)
      · exact iteN (fun e => z (V.int.inj e)) (hN _ _ ⟨_, rfl, E1, gs, nw, mx, tn, rfl, hc, hg, hl⟩)
    · rintro σ H1 ⟨_, rfl, E1, gs, nw, mx, tn, _, hc, hg, hl⟩
      walk_at "rd"
      refine w_get rfl (g_now hc) ⟨nw, rfl, ?_⟩
      by_cases pos : 0 < nw
      · refine iteP pos ?_
        refine w_get rfl (g_now hc) (.inl ⟨nw, rfl, by omega, ?_⟩)
        simp only [sDPut]
        walk_at "rd"
        refine w_get rfl (g_now hc) ⟨nw, rfl, ⟨by omega, by omega⟩, _, p_now hc _, ?_⟩
        exact k _ _ (Int.fmod_nonneg_of_pos _ n0) (Int.fmod_lt_of_pos _ n0) (E1.in (by simp)) ⟨gs, _, mx, tn, upd_same, by rw [upd_ne ncg.symm]; exact hg, hl⟩
      · refine iteN pos ?_
        simp only [sDPut]
        walk_at "rd"
        refine w_get rfl (g_turn hc) ⟨tn, rfl, _, p_turn hc _, ?_⟩
        have hc1 : upd H1 c (.dK (dealK g nw mx (tn + 1))) c = some (.dK (dealK g nw mx (tn + 1))) := upd_same
        have hg1 : upd H1 c (.dK (dealK g nw mx (tn + 1))) g = some (.lst (gs.map V.int)) := by rw [upd_ne ncg.symm]; exact hg
        have E2 : Ex [c, g] H (upd H1 c (.dK (dealK g nw mx (tn + 1)))) := E1.in (by simp)
        generalize upd H1 c (.dK (dealK g nw mx (tn + 1))) = H2 at *
        walk_at "rd"
        refine w_get rfl (g_mixed hc1) ⟨mx, rfl, .inr ⟨by decide, by decide⟩, ?_⟩
        refine w_get rfl (g_turn hc1) ⟨tn + 1, rfl, .inr ⟨by decide, by decide⟩, by decide, ?_⟩
        generalize hf : (mx * 48271 + (tn + 1) * 69621).fmod 2147483629 = fi
        have f0 : 0 ≤ fi := by rw [← hf]; exact Int.fmod_nonneg_of_pos _ (by decide)
        have f1 : fi < 2147483629 := by rw [← hf]; exact Int.fmod_lt_of_pos _ (by decide)
        refine ⟨.inl ⟨by omega, by omega⟩, ?_⟩
        refine w_get rfl (g_turn hc1) ⟨tn + 1, rfl, .inr ⟨by decide, by decide⟩, by decide, ?_⟩
        generalize hs : (fi * fi + (tn + 1) * 7919).fmod 2147483563 = se
        simp only [sDPut]
        walk_at "rd"
        refine ⟨.inr ⟨by decide, by decide⟩, by decide, _, p_mixed hc1 _, ⟨by decide, by decide⟩, by omega, ?_⟩
        exact k _ _ (Int.fmod_nonneg_of_pos _ n0) (Int.fmod_lt_of_pos _ n0) (E2.in (by simp)) ⟨gs, _, _, _, upd_same, by rw [upd_ne ncg.symm]; exact hg1, hl⟩
end
end Lm
set_option Elab.async false
set_option linter.all false
set_option maxRecDepth 100000
set_option maxHeartbeats 4000000
namespace Lm
open PySem PySem.Spec PyProof.Rows L2
local macro_rules | `(tactic| walk_at "rd") => `(tactic| simp (config := {failIfUnchanged := false}) only [tVar, tC, tIsN, tNotN, tB, tAnd, tOr, tNot, tAndV, tOrV, tNotV, tIf, tNext, tSeq, tBreak, tCont, tDrop, tRet, tRetN, tIfS, gName, gNil, gCons, gTup, tAsg, tPar,
  iList, iTup, iRng1, iRng2, r_tFor, tFmt, tJs, or_false, false_or, exists_false, r_tLc, r_tDc, bf, iSeq, r_wipe0, r_wipe1, tOp, tUn, rI, rI0, rU, rEq, rNe, tTest, tChain, tFld, sFld, tNil, tCons, tTup, tLst, tCall, tMeth, tMake, tCB, tNoPart, tPart, tSl, rIxL, rIxT, rIxQ, rSlQ, r_tLc2, tXGet, tXIn, tXNotIn, sXPut, tXSetd, tXDisp1, iKeysX, iItemsX, tFrz, tFrzE, tRetag, ClX.tCMeth, iEnum, gPr, gUnl, tDNewK, tMakeL, rIxD, cx_w, cx_P, rSlL, rIn, tBM0, tBM, rAppend, rExtend, rPop, rPopAt, rAny, rAll, tYes, iStr, rNewStrs, tM0, tM1, StX.tStar,
  L2.start, List.map_cons, List.map_nil, List.length_cons, List.length_nil, Nat.zero_add, Nat.reduceAdd, Nat.reduceSub, List.replicate_succ, List.replicate_zero, List.cons_append, List.nil_append, List.append_nil, List.set_cons_zero, List.set_cons_succ,
  List.getElem?_cons_zero, List.getElem?_cons_succ, Option.some.injEq, exists_eq_left', exists_eq_left, exists_eq', exists_eq, exists_and_left, exists_and_right, and_assoc, List.cons.injEq, V.str.injEq, V.ref.injEq, V.bl.injEq, V.int.injEq, V.ty.injEq, and_true, true_and, reduceCtorEq, false_and, and_false,
  Bool.not_true, Bool.not_false, Bool.false_eq_true, reduceIte, Bool.not_eq_true', decide_eq_true_eq, upd_same, cx_K, HO.ins.injEq, HO.tup.injEq, HO.lst.injEq, HO.dK.injEq, lk_Run_old, lk_Run_then, lk_Run_names, lm_Run_str, lk_Lead_tests, lk_Lead_old, lk_Lead_then, lk_Lead_names, lm_Lead_str, lk_Join_here, lk_Join_came, lk_Join_then, lk_Join_names, lm_Join_str, lk_Tool_marks, lk_Tool_told, lk_Tool_parts, lk_Tool_clears, lk_Tool_rows, lk_Tool_blank, lm_Tool_need_mark, lm_Tool_is_told, lm_Tool_ran, lm_Tool_led, lm_Tool_joined, lm_Tool_keeps, lm_Tool_need_row, lm_Tool_but, lm_Tool_without, lm_Tool_heeding, lm_Tool_len, lm_Tool_eq, lm_Tool_str, lk_Single_tool, lk_Single_begin, lm_Single_machine_steps, lm_Single_led, lm_Single_joined, lk_Ways_steps, lk_Ways_machine, lk_Ways_coming, lk_Ways_hearings, lk_Ways_elders, lm_Ways_edited, lm_Ways_heard, lk_Meeting_hearings, lk_Meeting_item, lk_Meeting_deeds, lk_Meeting_waiting, lk_Told_steps, lk_Told_machine, lk_Told_coming, lk_Told_hearings, lm_Told_is_closed])
local macro_rules | `(tactic| walk_at "rd*") => `(tactic| simp (config := {failIfUnchanged := false}) only [tVar, tC, tIsN, tNotN, tB, tAnd, tOr, tNot, tAndV, tOrV, tNotV, tIf, tNext, tSeq, tBreak, tCont, tDrop, tRet, tRetN, tIfS, gName, gNil, gCons, gTup, tAsg, tPar,
  iList, iTup, iRng1, iRng2, r_tFor, tFmt, tJs, or_false, false_or, exists_false, r_tLc, r_tDc, bf, iSeq, r_wipe0, r_wipe1, tOp, tUn, rI, rI0, rU, rEq, rNe, tTest, tChain, tFld, sFld, tNil, tCons, tTup, tLst, tCall, tMeth, tMake, tCB, tNoPart, tPart, tSl, rIxL, rIxT, rIxQ, rSlQ, r_tLc2, tXGet, tXIn, tXNotIn, sXPut, tXSetd, tXDisp1, iKeysX, iItemsX, tFrz, tFrzE, tRetag, ClX.tCMeth, iEnum, gPr, gUnl, tDNewK, tMakeL, rIxD, cx_w, cx_P, rSlL, rIn, tBM0, tBM, rAppend, rExtend, rPop, rPopAt, rAny, rAll, tYes, iStr, rNewStrs, tM0, tM1, StX.tStar,
  L2.start, List.map_cons, List.map_nil, List.length_cons, List.length_nil, Nat.zero_add, Nat.reduceAdd, Nat.reduceSub, List.replicate_succ, List.replicate_zero, List.cons_append, List.nil_append, List.append_nil, List.set_cons_zero, List.set_cons_succ,
  List.getElem?_cons_zero, List.getElem?_cons_succ, Option.some.injEq, exists_eq_left', exists_eq_left, exists_eq', exists_eq, exists_and_left, exists_and_right, and_assoc, List.cons.injEq, V.str.injEq, V.ref.injEq, V.bl.injEq, V.int.injEq, V.ty.injEq, and_true, true_and, reduceCtorEq, false_and, and_false,
  Bool.not_true, Bool.not_false, Bool.false_eq_true, reduceIte, Bool.not_eq_true', decide_eq_true_eq, upd_same, cx_K, HO.ins.injEq, HO.tup.injEq, HO.lst.injEq, HO.dK.injEq, lk_Run_old, lk_Run_then, lk_Run_names, lm_Run_str, lk_Lead_tests, lk_Lead_old, lk_Lead_then, lk_Lead_names, lm_Lead_str, lk_Join_here, lk_Join_came, lk_Join_then, lk_Join_names, lm_Join_str, lk_Tool_marks, lk_Tool_told, lk_Tool_parts, lk_Tool_clears, lk_Tool_rows, lk_Tool_blank, lm_Tool_need_mark, lm_Tool_is_told, lm_Tool_ran, lm_Tool_led, lm_Tool_joined, lm_Tool_keeps, lm_Tool_need_row, lm_Tool_but, lm_Tool_without, lm_Tool_heeding, lm_Tool_len, lm_Tool_eq, lm_Tool_str, lk_Single_tool, lk_Single_begin, lm_Single_machine_steps, lm_Single_led, lm_Single_joined, lk_Ways_steps, lk_Ways_machine, lk_Ways_coming, lk_Ways_hearings, lk_Ways_elders, lm_Ways_edited, lm_Ways_heard, lk_Meeting_hearings, lk_Meeting_item, lk_Meeting_deeds, lk_Meeting_waiting, lk_Told_steps, lk_Told_machine, lk_Told_coming, lk_Told_hearings, lm_Told_is_closed, *])
section
variable {P : Program} {w : World} {K : PySem.W.Frag} {mg : Str → Option Value} {base : Heap}
/-! ### _law_deal -/
def spDeal (K : PySem.W.Frag) : Sp := fun vs H Q _ => ∃ (a : Addr) (ns : List Int), vs = [.ref a, .int 0] ∧ SqL K H a (ns.map V.int) ∧ ns.length ≤ 63 ∧ ∀ c g H', Same H H' → H c = none → H g = none → DealAt H' c g → Q (.ref c) H'
theorem sc_deal : FnScope ["_law_script", "_law_base", "_law_cells", "_law_cell", "_law_mixed_here", "_law_great"] ["_law_script", "_law_base"] (defScope st_law_deal) := ⟨rfl, rfl, rfl, by decide +kernel, rfl, by decide +kernel, by decide +kernel⟩
theorem cut63 {xs : List V} (h : xs.length ≤ 63) : cutV xs (some 0) (some 63) = xs := by
  refine cutV_all ?_ ?_
  · unfold HT.sIx
    simp
  · unfold HT.sIx
    simp
    omega
def vInt (v : V) : Int := match v with
  | .int i => i
  | _ => 0
theorem mem_ints {l : List Int} {x : V} (h : x ∈ l.map V.int) : ∃ z ∈ l, x = .int z := by
  obtain ⟨z, hz, e⟩ := List.mem_map.mp h
  exact ⟨z, hz, e.symm⟩
theorem x_deal (T : Tx w K mg) : FX P w K mg base 1 "_law_deal" ["_law_script", "_law_base"] (spDeal K) := by
  obtain ⟨fd, F⟩ := fun_law_deal T.c
  refine FX.of F T.g_law_deal sc_deal (fun _ _ _ _ _ _ us hl => match us, hl with | [_, _], _ => rfl) (fun vs H Q E h => ?_) (fun cdv A outer s H vs Q E hr h => ?_)
  · obtain ⟨a, ns, rfl, _⟩ := h
    rfl
  · obtain ⟨a, ns, rfl, ha, hl, k⟩ := h
    refine ⟨_, (pss_cons (psl sc_deal 2 3 (pi_list (pe_slice sl_list (pv 0) (po_some (pv 1)) (po_some pe_int))) (fun _ _ _ _ _ => (pb call_abs T.n_abs (pa1 (pv 3)))))
      (pss_cons (ps_set (i := 4) sc_deal.nd rfl (Or.inl rfl) (pe_op op_add pe_int (pv 1)))
      (pss_cons (ps_for PassesOwn.never rfl (pi_list (pv 2)) (pg_name (i := 3) sc_deal.nd rfl (Or.inl rfl)) (pss_one (ps_set (i := 4) sc_deal.nd rfl (Or.inl rfl) (pe_op op_modN (pbt call_int1 T.n_int (pa1 (pe_op op_add (pe_op op_mul (pv 4) pe_int) (pv 3)))) pe_int))))
      (pss_cons (pslI sc_deal 5 3 (pi_list (pv 2)) (fun _ _ _ _ _ => (pt_cmpR op_ge (pv 3) (pe_op op_pow pe_int pe_int) (nomark _))) (fun _ _ _ _ _ => (pv 3)))
      (pss_one (ps_ret (pe_disp (pps_cons pe_str (pe_revL (pv 5)) (pps_cons pe_str pe_int (pps_cons pe_str (pe_op op_add (pv 4) pe_int) (pps_cons pe_str pe_int pps_nil)))) rfl rfl (by simp) (by show (4 : Nat) ≤ 15; decide)))))))), ?_⟩
    walk_at "rd"
    refine ⟨_, ha, fun p hp => ?_⟩
    have s1 := same_new (o := .lst (cutV (ns.map V.int) (some 0) (some 63))) hp
    have e1 : upd H p (.lst (cutV (ns.map V.int) (some 0) (some 63))) p = some (.lst (ns.map V.int)) := by rw [upd_same, cut63 (by rw [List.length_map]; exact hl)]
    generalize upd H p (.lst (cutV (ns.map V.int) (some 0) (some 63))) = H1 at *
    refine ⟨⟨_, SqL.of e1⟩, fun D hD => ?_⟩
    have ml : (ns.map V.int).length ≤ 63 := by rw [List.length_map]; exact hl
    refine lcA walk_list rfl (by omega) hD (fun v => .int (if vInt v < 0 then -(vInt v) else vInt v)) (fun H s => s.seq (SqL.of e1)) (fun x hx H2 s2 _ Ky ky => ?_) fun H2 s2 e2 => ?_
    · obtain ⟨z, _, rfl⟩ := mem_ints hx
      walk_at "rd"
      exact ky _ (Same.refl _)
    have s12 := s1.trans s2
    rw [List.map_map] at e2
    have ei : (ns.map ((fun v => V.int (if vInt v < 0 then -(vInt v) else vInt v)) ∘ V.int)) = (ns.map fun i => if i < 0 then -i else i).map V.int := by rw [List.map_map]; rfl
    rw [ei] at e2
    generalize hcs : (ns.map fun i => if i < 0 then -i else i) = cs at *
    have cl : cs.length ≤ 63 := by rw [← hcs, List.length_map]; exact hl
    walk_at "rd"
    refine ⟨⟨_, SqL.of e2⟩, for_it (walk_list (xs := cs.map V.int)) (fun _ σ H' => (∃ v3 i, σ = [some (.ref a), some (.int 0), some (.ref D), v3, some (.int i), none]) ∧ H' = H2) ⟨⟨_, _, rfl⟩, rfl⟩ (fun _ _ _ _ q => by rw [q.2]; exact SqL.of e2) ?_ ?_⟩
    · rintro j y σ3 H3 H3' hj ⟨⟨v3, i, rfl⟩, rfl⟩ ⟨rfl, hy⟩
      obtain ⟨z, _, rfl⟩ := mem_ints (List.mem_of_getElem? hy)
      walk_at "rd"
      exact ⟨.inr ⟨by decide, by decide⟩, by decide⟩
    · rintro σ3 H3 ⟨⟨v3, i, rfl⟩, rfl⟩
      walk_at "rd"
      refine ⟨⟨_, SqL.of e2⟩, fun D2 hD2 => lcF walk_list rfl (by rw [List.length_map]; omega) hD2 (fun v => decide (10 ^ 18 ≤ vInt v)) id (fun H s => s.seq (SqL.of e2)) (fun x hx H4 s4 _ Ky Kn ky kn => ?_) fun H4 s4 e4 => ?_⟩
      · obtain ⟨z, _, rfl⟩ := mem_ints hx
        walk_at "rd"
        refine ⟨⟨by decide, by decide, by decide⟩, ?_⟩
        by_cases hz : (10 : Int) ^ (18 : Int).toNat ≤ z
        · exact iteP hz (ky (decide_eq_true hz) _ (Same.refl _))
        · exact iteN hz (kn (decide_eq_false hz) _ (Same.refl _))
      rw [List.map_id, List.filter_map] at e4
      generalize hg : cs.filter ((fun v => decide (10 ^ 18 ≤ vInt v)) ∘ V.int) = gs at *
      have gl : gs.length ≤ 63 := by rw [← hg]; exact Nat.le_trans (List.length_filter_le _ _) cl
      intro c hc
      simp only [tPairs]
      simp only [tRevL]
      walk_at "rd"
      have sc := same_new (o := .dK []) hc
      refine ⟨gs.map V.int, SqL.of (sc _ _ e4), fun p2 hp2 => ?_⟩
      have ncp : c ≠ p2 := fun z => by rw [← z, upd_same] at hp2; cases hp2
      have s123 := s12.trans s4
      refine ⟨by rw [upd_ne ncp, upd_same], dealK p2 0 (i + 1) 0, rfl, by show 4 ≤ 15; decide, ?_⟩
      rw [show mergeK [] (dealK p2 0 (i + 1) 0) = dealK p2 0 (i + 1) 0 from rfl]
      have hc0 : H c = none := s123.free hc
      have hp0 : H p2 = none := (s123.trans sc).free hp2
      refine k c p2 _ (fun b o eb => ?_) hc0 hp0 ⟨gs.reverse, 0, i + 1, 0, upd_same, ?_, by rw [List.length_reverse]; omega⟩
      · rw [upd_ne (ne_of_none eb hc0), upd_ne (ne_of_none eb hp0), upd_ne (ne_of_none eb hc0)]
        exact s123 _ _ eb
      · rw [upd_ne ncp.symm, upd_same, List.map_reverse]
/-! ### _law_pick -/
def spPick : Sp := fun vs H Q _ => ∃ (c g a : Addr) (l : List Str), vs = [.ref c, .ref a] ∧ H a = some (.lst (sv l)) ∧ l ≠ [] ∧ l.length ≤ 100 ∧ DealAt H c g ∧ ∀ z H', z ∈ l → Ex [c, g] H H' → DealAt H' c g → Q (.str z) H'
theorem sc_pick : FnScope ["_law_deal_here", "_law_some"] ["_law_deal_here", "_law_some"] (defScope st_law_pick) := ⟨rfl, rfl, rfl, by decide +kernel, rfl, by decide +kernel, by decide +kernel⟩
theorem deal_ne {H : Hp} {c g a : Addr} {l : List Str} (h : DealAt H c g) (ha : H a = some (.lst (sv l))) (hl : l ≠ []) : a ∉ [c, g] := by
  obtain ⟨gs, nw, mx, tn, hc, hg, _⟩ := h
  intro m
  rcases List.mem_cons.mp m with e | m
  · rw [e, hc] at ha; cases ha
  · rw [List.mem_singleton.mp m, hg] at ha
    have e := HO.lst.inj (Option.some.inj ha)
    cases gs with
    | nil => exact hl (List.map_eq_nil_iff.mp e.symm)
    | cons x r =>
      cases l with
      | nil => exact hl rfl
      | cons y t => cases (List.cons.inj e).1
theorem deal_nc {H : Hp} {c g a : Addr} {l : List V} (h : DealAt H c g) (ha : H a = some (.lst l)) : a ≠ c := by
  obtain ⟨gs, nw, mx, tn, hc, hg, _⟩ := h
  exact ne_of ha hc fun z => nomatch z
theorem x_pick (T : Tx w K mg) : FX P w K mg base 2 "_law_pick" ["_law_deal_here", "_law_some"] spPick := by
  obtain ⟨fd, F⟩ := fun_law_pick T.c
  have G1 : FX P w K mg base 1 "_law_draw" ["_law_deal_here", "_law_many"] spDraw := x_draw T
  refine FX.of F T.g_law_pick sc_pick (fun _ _ _ _ _ _ us hl => match us, hl with | [_, _], _ => rfl) (fun vs H Q E h => ?_) (fun cdv A outer s H vs Q E hr h => ?_)
  · obtain ⟨c, g, a, l, rfl, _⟩ := h
    rfl
  · obtain ⟨c, g, a, l, rfl, ha, hne, hl, hd, k⟩ := h
    refine ⟨_, (pss_one (ps_ret (pe_ix ix_list (pv 1) (pc G1 hr (pa2 (pv 0) (pb call_len_seq T.n_len (pa1 (pv 1))))) (fun _ _ => rfl)))), ?_⟩
    walk_at "rd"
    have lp : 0 < l.length := List.length_pos_iff.mpr hne
    refine ⟨_, .inl (SqL.of ha), c, g, l.length, by rw [sv_len], by omega, by omega, hd, fun r H1 r0 r1 E1 d1 => ?_⟩
    obtain ⟨n, rfl⟩ := Int.eq_ofNat_of_zero_le r0
    have hn : n < l.length := by omega
    refine ⟨_, (n : Int), rfl, SqL.of (E1 _ _ ha (deal_ne hd ha hne)), .str l[n], atI_nat ?_, ?_⟩
    · unfold sv
      rw [List.getElem?_map, List.getElem?_eq_getElem hn]
      rfl
    · exact k _ _ (List.getElem_mem hn) E1 d1
theorem six {r n : Nat} (h : r < n) : seqIndex? (r : Int) n = some r := by
  unfold seqIndex?
  simp
  omega
theorem sv_erase : ∀ (l : List Str) (n : Nat), (sv l).eraseIdx n = sv (l.eraseIdx n)
  | [], n => by simp [sv]
  | x :: r, 0 => rfl
  | x :: r, n + 1 => congrArg (List.cons (V.str x)) (sv_erase r n)
theorem erase_perm : ∀ (l : List Str) (n : Nat) (h : n < l.length), (l[n] :: l.eraseIdx n).Perm l
  | [], n, h => absurd h (Nat.not_lt_zero n)
  | x :: r, 0, _ => List.Perm.refl _
  | x :: r, n + 1, h => (List.Perm.swap x _ _).trans ((erase_perm r n (Nat.lt_of_succ_lt_succ h)).cons x)
/-! ### _law_mixed -/
def spMixed : Sp := fun vs H Q _ => ∃ (c g a : Addr) (l : List Str), vs = [.ref c, .ref a] ∧ H a = some (.lst (sv l)) ∧ l.length ≤ 100 ∧ (∀ z ∈ l, okS z) ∧ DealAt H c g ∧ ∀ p l' H', l'.Perm l → Ex [c, g] H H' → DealAt H' c g → H p = none → H' p = some (.lst (sv l')) → p ≠ g → Q (.ref p) H'
theorem sc_mixed : FnScope ["_law_deal_here", "_law_some", "_law_left", "_law_found"] ["_law_deal_here", "_law_some"] (defScope st_law_mixed) := ⟨rfl, rfl, rfl, by decide +kernel, rfl, by decide +kernel, by decide +kernel⟩
def MxI (H0 : Hp) (c g a q p : Addr) (l : List Str) (k : Nat) (σ : L2.St) (H' : Hp) : Prop := σ = [some (.ref c), some (.ref a), some (.ref q), some (.ref p)] ∧ Ex [c, g] H0 H' ∧ DealAt H' c g ∧ ∃ L F : List Str, L.length = k ∧ (F ++ L).Perm l ∧ H' q = some (.lst (sv L)) ∧ H' p = some (.lst (sv F))
def MxL (H0 : Hp) (c g a q p : Addr) (l : List Str) (k : Nat) (σ : L2.St) (H' : Hp) : Prop := ∃ m, m < k ∧ MxI H0 c g a q p l m σ H'
theorem x_mixed (T : Tx w K mg) : FX P w K mg base 2 "_law_mixed" ["_law_deal_here", "_law_some"] spMixed := by
  obtain ⟨fd, F⟩ := fun_law_mixed T.c
  have G1 : FX P w K mg base 1 "_law_draw" ["_law_deal_here", "_law_many"] spDraw := x_draw T
  refine FX.of F T.g_law_mixed sc_mixed (fun _ _ _ _ _ _ us hl => match us, hl with | [_, _], _ => rfl) (fun vs H Q E h => ?_) (fun cdv A outer s H vs Q E hr h => ?_)
  · obtain ⟨c, g, a, l, rfl, _⟩ := h
    rfl
  · obtain ⟨c, g, a, l, rfl, ha, hl, ho, hd, k⟩ := h
    refine ⟨_, (pss_cons (ps_par (i := 2) (j := 3) rfl sc_mixed.nd rfl rfl (by decide) rfl rfl (pa2 (pbt call_list_of T.n_list (pa1 (pv 1))) (pe_lst pa_nil)) rfl)
      (pss_cons (ps_while PassesOwn.never (pt_cmpR (op_neD (room64 hr)) (pv 2) (pe_lst pa_nil) (nomark _)) (pss_one (ps_expr (pe_bm PySem.F.plainAttrs_list PySem.F.slot_list_append PySem.F.type_list_append mt_append (pv 3) (pa1 (pe_bm PySem.F.plainAttrs_list PySem.F.slot_list_pop PySem.F.type_list_pop mt_popAt (pv 2) (pa1 (pc G1 hr (pa2 (pv 0) (pb call_len_seq T.n_len (pa1 (pv 2))))))))))))
      (pss_one (ps_ret (pv 3))))), ?_⟩
    walk_at "rd"
    refine ⟨_, .inl (SqL.of ha), fun q hq => ⟨by decide, fun p hp => ?_⟩⟩
    have s1 := same_new (o := .lst (sv l)) hq
    have s2 := same_new (o := .lst []) hp
    have hp0 : H p = none := s1.free hp
    have npq : q ≠ p := fun z => by rw [← z, upd_same] at hp; cases hp
    obtain ⟨gs, nw, mx, tn, hc, hg, hgl⟩ := id hd
    have npg : p ≠ g := fun z => by rw [z, hg] at hp0; cases hp0
    have nqg : q ≠ g := fun z => by rw [z, hg] at hq; cases hq
    have npc : p ≠ c := fun z => by rw [z, hc] at hp0; cases hp0
    have nqc : q ≠ c := fun z => by rw [z, hc] at hq; cases hq
    have dd : ∀ {G G' : Hp}, DealAt G c g → (∀ b, b ≠ p → b ≠ q → G' b = G b) → DealAt G' c g := fun ⟨gs, nw, mx, tn, h1, h2, h3⟩ e => ⟨gs, nw, mx, tn, by rw [e c npc.symm nqc.symm]; exact h1, by rw [e g npg.symm nqg.symm]; exact h2, h3⟩
    refine while_r (fun σ H' => σ = [some (.ref c), some (.ref a), some (.ref q), some (.ref p)] ∧ Ex [c, g] H H' ∧ DealAt H' c g ∧ ∃ F : List Str, F.Perm l ∧ H' p = some (.lst (sv F))) (MxI H c g a q p l) (m0 := l.length) ⟨rfl, Ex.of_same (s1.trans s2), dd hd fun b n1 n2 => by rw [upd_ne n1, upd_ne n2], l, [], rfl, List.Perm.refl _, s2 _ _ upd_same, upd_same⟩ ?_ ?_
    · rintro Nx hN m σ H1 ⟨rfl, E1, d1, L, F, rfl, pm, eq, ep⟩
      have Ll : L.length ≤ 100 := by have := pm.length_eq; rw [List.length_append] at this; omega
      have Fl : F.length ≤ 100 := by have := pm.length_eq; rw [List.length_append] at this; omega
      walk_at "rd"
      refine ⟨by decide, fun t ht => ?_⟩
      have st := same_new (o := .lst []) ht
      refine ne_lists (l := L) (m := []) encS (SqL.of (st _ _ eq)) (dp_strs _) (fun z hz => ho z (pm.mem_iff.mp (List.mem_append_right _ hz))) (SqL.of upd_same) .nil (fun _ h => nomatch h) ?_
      have E2 : Ex [c, g] H (upd H1 t (.lst [])) := E1.trans (Ex.of_same st)
      have d2 : DealAt (upd H1 t (.lst [])) c g := (let ⟨gs, nw, mx, tn, h1, h2, h3⟩ := d1; ⟨gs, nw, mx, tn, st _ _ h1, st _ _ h2, h3⟩)
      have eq2 := st _ _ eq
      have ep2 := st _ _ ep
      generalize upd H1 t (.lst []) = H2 at *
      refine ⟨_, rfl, ?_⟩
      cases hL : L with
      | nil =>
        subst hL
        exact iteBF rfl (hN _ _ ⟨rfl, E2, d2, F, by simpa using pm, ep2⟩)
      | cons x0 L0 =>
        have hne : L ≠ [] := by rw [hL]; exact fun z => nomatch z
        rw [← hL]
        have lp : 0 < L.length := List.length_pos_iff.mpr hne
        refine iteBT (by rw [decide_eq_false hne]; rfl) ⟨MxL H c g a q p l L.length, fun _ _ h => h, ?_⟩
        walk_at "rd"
        refine ⟨.inl ⟨rfl, _, SqL.of ep2⟩, .inl ⟨rfl, _, SqL.of eq2⟩, _, .inl (SqL.of eq2), ?_⟩
        refine ⟨c, g, L.length, by rw [sv_len], by omega, by omega, d2, fun r H3 r0 r1 E3 d3 => ?_⟩
        obtain ⟨n, rfl⟩ := Int.eq_ofNat_of_zero_le r0
        have hn : n < L.length := by omega
        have qn : q ∉ [c, g] := by simp [nqc, nqg]
        have pn : p ∉ [c, g] := by simp [npc, npg]
        have eq3 := E3 _ _ eq2 qn
        have ep3 := E3 _ _ ep2 pn
        have eq4 : upd H3 q (.lst ((sv L).eraseIdx n)) p = some (.lst (sv F)) := by rw [upd_ne npq.symm]; exact ep3
        refine ⟨sv L, n, rfl, eq3, by omega, by omega, n, by rw [sv_len]; exact six hn, .str L[n], ?_, sv F, eq4, by rw [sv_len]; exact len_lt (by omega), ?_⟩
        · unfold sv
          rw [List.getElem?_map, List.getElem?_eq_getElem hn]
          rfl
        · have er : (sv L).eraseIdx n = sv (L.eraseIdx n) := sv_erase _ _
          have ea : sv F ++ [V.str L[n]] = sv (F ++ [L[n]]) := by unfold sv; rw [List.map_append]; rfl
          rw [er, ea]
          refine ⟨L.length - 1, by omega, rfl, fun b o eb nb => ?_, ?_, L.eraseIdx n, F ++ [L[n]], by rw [List.length_eraseIdx_of_lt hn], ?_, by rw [upd_ne npq, upd_same], upd_same⟩
          · rw [upd_ne (ne_of_none eb hp0), upd_ne (ne_of_none eb hq)]
            exact E3 _ _ (E2 _ _ eb nb) nb
          · exact dd d3 fun b n1 n2 => by rw [upd_ne n1, upd_ne n2]
          · rw [List.append_assoc]
            refine List.Perm.trans (List.Perm.append_left F ?_) pm
            exact erase_perm L n hn
    · rintro σ H1 ⟨rfl, E1, d1, F, pm, ep⟩
      walk_at "rd"
      exact k p F _ pm E1 d1 hp0 ep npg
end
end Lm
set_option Elab.async false
set_option linter.all false
set_option maxRecDepth 100000
set_option maxHeartbeats 4000000
namespace Lm
open PySem PySem.Spec PyProof.Rows L2
local macro_rules | `(tactic| walk_at "rd") => `(tactic| simp (config := {failIfUnchanged := false}) only [tVar, tC, tIsN, tNotN, tB, tAnd, tOr, tNot, tAndV, tOrV, tNotV, tIf, tNext, tSeq, tBreak, tCont, tDrop, tRet, tRetN, tIfS, gName, gNil, gCons, gTup, tAsg, tPar,
  iList, iTup, iRng1, iRng2, r_tFor, tFmt, tJs, or_false, false_or, exists_false, r_tLc, r_tDc, bf, iSeq, r_wipe0, r_wipe1, tOp, tUn, rI, rI0, rU, rEq, rNe, tTest, tChain, tFld, sFld, tNil, tCons, tTup, tLst, tCall, tMeth, tMake, tCB, tNoPart, tPart, tSl, rIxL, rIxT, rIxQ, rSlQ, r_tLc2, tXGet, tXIn, tXNotIn, sXPut, tXSetd, tXDisp1, iKeysX, iItemsX, tFrz, tFrzE, tRetag, ClX.tCMeth, iEnum, gPr, gUnl, tDNewK, tMakeL, rIxD, cx_w, cx_P, rSlL, rIn, tBM0, tBM, rAppend, rExtend, rPop, rPopAt, rAny, rAll, tYes, iStr, rNewStrs, tM0, tM1, StX.tStar,
  L2.start, List.map_cons, List.map_nil, List.length_cons, List.length_nil, Nat.zero_add, Nat.reduceAdd, Nat.reduceSub, List.replicate_succ, List.replicate_zero, List.cons_append, List.nil_append, List.append_nil, List.set_cons_zero, List.set_cons_succ,
  List.getElem?_cons_zero, List.getElem?_cons_succ, Option.some.injEq, exists_eq_left', exists_eq_left, exists_eq', exists_eq, exists_and_left, exists_and_right, and_assoc, List.cons.injEq, V.str.injEq, V.ref.injEq, V.bl.injEq, V.int.injEq, V.ty.injEq, and_true, true_and, reduceCtorEq, false_and, and_false,
  Bool.not_true, Bool.not_false, Bool.false_eq_true, reduceIte, Bool.not_eq_true', decide_eq_true_eq, upd_same, cx_K, HO.ins.injEq, HO.tup.injEq, HO.lst.injEq, HO.dK.injEq, lk_Run_old, lk_Run_then, lk_Run_names, lm_Run_str, lk_Lead_tests, lk_Lead_old, lk_Lead_then, lk_Lead_names, lm_Lead_str, lk_Join_here, lk_Join_came, lk_Join_then, lk_Join_names, lm_Join_str, lk_Tool_marks, lk_Tool_told, lk_Tool_parts, lk_Tool_clears, lk_Tool_rows, lk_Tool_blank, lm_Tool_need_mark, lm_Tool_is_told, lm_Tool_ran, lm_Tool_led, lm_Tool_joined, lm_Tool_keeps, lm_Tool_need_row, lm_Tool_but, lm_Tool_without, lm_Tool_heeding, lm_Tool_len, lm_Tool_eq, lm_Tool_str, lk_Single_tool, lk_Single_begin, lm_Single_machine_steps, lm_Single_led, lm_Single_joined, lk_Ways_steps, lk_Ways_machine, lk_Ways_coming, lk_Ways_hearings, lk_Ways_elders, lm_Ways_edited, lm_Ways_heard, lk_Meeting_hearings, lk_Meeting_item, lk_Meeting_deeds, lk_Meeting_waiting, lk_Told_steps, lk_Told_machine, lk_Told_coming, lk_Told_hearings, lm_Told_is_closed])
local macro_rules | `(tactic| walk_at "rd*") => `(tactic| simp (config := {failIfUnchanged := false}) only [tVar, tC, tIsN, tNotN, tB, tAnd, tOr, tNot, tAndV, tOrV, tNotV, tIf, tNext, tSeq, tBreak, tCont, tDrop, tRet, tRetN, tIfS, gName, gNil, gCons, gTup, tAsg, tPar,
  iList, iTup, iRng1, iRng2, r_tFor, tFmt, tJs, or_false, false_or, exists_false, r_tLc, r_tDc, bf, iSeq, r_wipe0, r_wipe1, tOp, tUn, rI, rI0, rU, rEq, rNe, tTest, tChain, tFld, sFld, tNil, tCons, tTup, tLst, tCall, tMeth, tMake, tCB, tNoPart, tPart, tSl, rIxL, rIxT, rIxQ, rSlQ, r_tLc2, tXGet, tXIn, tXNotIn, sXPut, tXSetd, tXDisp1, iKeysX, iItemsX, tFrz, tFrzE, tRetag, ClX.tCMeth, iEnum, gPr, gUnl, tDNewK, tMakeL, rIxD, cx_w, cx_P, rSlL, rIn, tBM0, tBM, rAppend, rExtend, rPop, rPopAt, rAny, rAll, tYes, iStr, rNewStrs, tM0, tM1, StX.tStar,
  L2.start, List.map_cons, List.map_nil, List.length_cons, List.length_nil, Nat.zero_add, Nat.reduceAdd, Nat.reduceSub, List.replicate_succ, List.replicate_zero, List.cons_append, List.nil_append, List.append_nil, List.set_cons_zero, List.set_cons_succ,
  List.getElem?_cons_zero, List.getElem?_cons_succ, Option.some.injEq, exists_eq_left', exists_eq_left, exists_eq', exists_eq, exists_and_left, exists_and_right, and_assoc, List.cons.injEq, V.str.injEq, V.ref.injEq, V.bl.injEq, V.int.injEq, V.ty.injEq, and_true, true_and, reduceCtorEq, false_and, and_false,
  Bool.not_true, Bool.not_false, Bool.false_eq_true, reduceIte, Bool.not_eq_true', decide_eq_true_eq, upd_same, cx_K, HO.ins.injEq, HO.tup.injEq, HO.lst.injEq, HO.dK.injEq, lk_Run_old, lk_Run_then, lk_Run_names, lm_Run_str, lk_Lead_tests, lk_Lead_old, lk_Lead_then, lk_Lead_names, lm_Lead_str, lk_Join_here, lk_Join_came, lk_Join_then, lk_Join_names, lm_Join_str, lk_Tool_marks, lk_Tool_told, lk_Tool_parts, lk_Tool_clears, lk_Tool_rows, lk_Tool_blank, lm_Tool_need_mark, lm_Tool_is_told, lm_Tool_ran, lm_Tool_led, lm_Tool_joined, lm_Tool_keeps, lm_Tool_need_row, lm_Tool_but, lm_Tool_without, lm_Tool_heeding, lm_Tool_len, lm_Tool_eq, lm_Tool_str, lk_Single_tool, lk_Single_begin, lm_Single_machine_steps, lm_Single_led, lm_Single_joined, lk_Ways_steps, lk_Ways_machine, lk_Ways_coming, lk_Ways_hearings, lk_Ways_elders, lm_Ways_edited, lm_Ways_heard, lk_Meeting_hearings, lk_Meeting_item, lk_Meeting_deeds, lk_Meeting_waiting, lk_Told_steps, lk_Told_machine, lk_Told_coming, lk_Told_hearings, lm_Told_is_closed, *])
section
variable {c g : Addr} {H H1 H' : Hp}
theorem DealAt.in2 (d : DealAt H c g) : ∀ a ∈ [c, g], ∃ o, H a = some o ∧ imm o = false := fun a ha => by
  obtain ⟨gs, nw, mx, tn, hc, hg, _⟩ := d
  rcases List.mem_cons.mp ha with e | ha
  · exact ⟨_, by rw [e]; exact hc, rfl⟩
  · exact ⟨_, by rw [List.mem_singleton.mp ha]; exact hg, rfl⟩
theorem DealAt.imm (d : DealAt H c g) (E : Ex [c, g] H H') : Imm H H' := Imm.of_ex E fun a ha o e => by
  obtain ⟨o', e', i⟩ := d.in2 a ha
  rw [e] at e'; cases e'
  exact i
/-- what is new is new of old, and not the deal -/
theorem DealAt.new (d : DealAt H' c g) (E : Ex [c, g] H H') {p : Addr} (h : H' p = none) : H p = none ∧ p ∉ [c, g] := by
  have np : p ∉ [c, g] := fun m => by
    obtain ⟨o, e, _⟩ := d.in2 p m
    rw [h] at e; cases e
  refine ⟨?_, np⟩
  cases e : H p with
  | none => rfl
  | some o =>
    have := E _ _ e np
    rw [h] at this; cases this
theorem DealAt.nin (d : DealAt H c g) {p : Addr} (h : H p = none) : p ∉ [c, g] := (d.new (Ex.of_same (Same.refl _)) h).2
theorem DealAt.alloc (d : DealAt H c g) {p : Addr} {o : HO} (h : H p = none) : DealAt (upd H p o) c g := by
  obtain ⟨gs, nw, mx, tn, hc, hg, hl⟩ := d
  exact ⟨gs, nw, mx, tn, same_new h _ _ hc, same_new h _ _ hg, hl⟩
theorem DealAt.same (d : DealAt H c g) (s : Same H H') : DealAt H' c g := by
  obtain ⟨gs, nw, mx, tn, hc, hg, hl⟩ := d
  exact ⟨gs, nw, mx, tn, s _ _ hc, s _ _ hg, hl⟩
theorem DealAt.put (d : DealAt H c g) {p : Addr} {o : HO} (h : p ∉ [c, g]) : DealAt (upd H p o) c g := by
  obtain ⟨gs, nw, mx, tn, hc, hg, hl⟩ := d
  rw [List.mem_cons, List.mem_singleton] at h
  exact ⟨gs, nw, mx, tn, by rw [upd_ne fun z => h (.inl z.symm)]; exact hc, by rw [upd_ne fun z => h (.inr z.symm)]; exact hg, hl⟩
end
section
variable {J : It} {n : Nat} {G : Hp → Prop} {l : List Str} {g0 : TG} {tt : TT} {te : TE} {vs : List Nat} {σ : L2.St} {H1 : Hp} {D c g : Addr} {Qd : Hp → Prop}
/-- a comprehension over texts that draws -/
theorem lcEff (wk : Walk J n G (YAt (sv l))) (hn : n = (sv l).length) (hz : l.length ≤ 100) (hD : H1 D = none) (dl : DealAt H1 c g) (hG : ∀ H, Ex [c, g] H1 H → G H) (R : List Str → List Str → Prop) (R0 : R [] [])
    (hs : ∀ pre z F H, z ∈ l → R pre F → Ex [c, g] H1 H → DealAt H c g → ∀ (Ky : V → Hp → Prop) (Kn : Hp → Prop), (∀ y H', Ex [c, g] H H' → DealAt H' c g → R (pre ++ [z]) (F ++ [y]) → Ky (.str y) H') → (∀ H', Ex [c, g] H H' → DealAt H' c g → R (pre ++ [z]) F → Kn H') →
      g0 (.str z) (wipe σ vs) H fun σ2 H2 => wipe σ2 vs = wipe σ vs ∧ tt σ2 H2 fun b H3 => if b = true then te σ2 H3 Ky else Kn H3)
    (hd : ∀ H' F, Ex [c, g] H1 H' → DealAt H' c g → H' D = some (.lst (sv F)) → F.length ≤ l.length → R l F → Qd H') : LcW J g0 tt te vs σ H1 D Qd := by
  have nD := dl.nin hD
  have E0 : Ex [c, g] H1 (upd H1 D (.lst [])) := Ex.of_same (same_new hD)
  refine lc_it wk (fun i H => Ex [c, g] H1 H ∧ DealAt H c g ∧ ∃ F, H D = some (.lst (sv F)) ∧ F.length ≤ i ∧ R (l.take i) F) ⟨E0, dl.put nD, [], upd_same, Nat.le_refl _, R0⟩ (fun i H _ p => hG H p.1) ?_ ?_
  · rintro i x H H' hi ⟨E, d, F, e, fl, r⟩ ⟨rfl, hx⟩
    have hx : (l.map V.str)[i]? = some x := hx
    rw [List.getElem?_map] at hx
    obtain ⟨z, hzi, rfl⟩ := Option.map_eq_some_iff.mp hx
    have il : i < l.length := by rw [hn, sv_len] at hi; exact hi
    refine hs (l.take i) z F _ (List.mem_of_getElem? hzi) r E d _ _ (fun y H2 E2 d2 r2 => ⟨sv F, E2 _ _ e nD, by rw [sv_len]; exact len_lt (by omega), ?_, d2.put nD, F ++ [y], ?_, by rw [List.length_append, List.length_singleton]; omega, by rw [take_snoc hzi]; exact r2⟩) (fun H2 E2 d2 r2 => ⟨E.trans E2, d2, F, E2 _ _ e nD, by omega, by rw [take_snoc hzi]; exact r2⟩)
    · exact (E.trans E2).fresh hD
    · rw [upd_same]
      unfold sv
      rw [List.map_append]
      rfl
  · rintro H ⟨E, d, F, e, fl, r⟩
    rw [hn, sv_len, List.take_length] at r
    exact hd H F E d e (by rw [hn, sv_len] at fl; exact fl) r
end
section
variable {P : Program} {w : World} {K : PySem.W.Frag} {mg : Str → Option Value} {base : Heap}
/-! ### _law_words -/
def words16 : List Str := ["a", "b", "c", "x", "yy", "zzz", "text", "run", "edit", "hear", "m", "sent", "fold", "k", "of", "none"]
theorem words16_nm : ∀ z ∈ words16, isNm z = true := by decide +kernel
theorem words16_nd : words16.Nodup := by decide +kernel
def spWords : Sp := fun vs H Q _ => ∃ (c g : Addr) (n : Nat), vs = [.ref c, .int n] ∧ n ≤ 16 ∧ DealAt H c g ∧ ∀ p l' H', l'.length = n → l'.Nodup → (∀ z ∈ l', isNm z = true) → Ex [c, g] H H' → DealAt H' c g → p ∉ [c, g] → H p = none → H' p = some (.lst (sv l')) → Q (.ref p) H'
theorem sc_words : FnScope ["_law_deal_here", "_law_many", "_law_some"] ["_law_deal_here", "_law_many"] (defScope st_law_words) := ⟨rfl, rfl, rfl, by decide +kernel, rfl, by decide +kernel, by decide +kernel⟩
theorem x_words (T : Tx w K mg) : FX P w K mg base 3 "_law_words" ["_law_deal_here", "_law_many"] spWords := by
  obtain ⟨fd, F⟩ := fun_law_words T.c
  have G1 : FX P w K mg base 2 "_law_mixed" ["_law_deal_here", "_law_some"] spMixed := x_mixed T
  refine FX.of F T.g_law_words sc_words (fun _ _ _ _ _ _ us hl => match us, hl with | [_, _], _ => rfl) (fun vs H Q E h => ?_) (fun cdv A outer s H vs Q E hr h => ?_)
  · obtain ⟨c, g, n, rfl, _⟩ := h
    rfl
  · obtain ⟨c, g, n, rfl, hn, hd, k⟩ := h
    refine ⟨_, (pss_cons (ps_set (i := 2) sc_words.nd rfl (Or.inl rfl) (pe_lst (pa_cons pe_str (pa_cons pe_str (pa_cons pe_str (pa_cons pe_str (pa_cons pe_str (pa_cons pe_str (pa_cons pe_str (pa_cons pe_str (pa_cons pe_str (pa_cons pe_str (pa_cons pe_str (pa_cons pe_str (pa_cons pe_str (pa_cons pe_str (pa2 pe_str pe_str)))))))))))))))))
      (pss_one (ps_ret (pe_slice sl_list (pc G1 hr (pa2 (pv 0) (pv 2))) po_none (po_some (pv 1)))))), ?_⟩
    walk_at "rd"
    refine ⟨by decide, fun a ha => ?_⟩
    have s1 := same_new (o := .lst (sv words16)) ha
    refine ⟨c, g, a, words16, rfl, upd_same, by decide, fun z hz => isNm_ok (words16_nm z hz), hd.same s1, fun p l' H2 pm E2 d2 hp e2 npg => ⟨_, rfl, _, SqL.of e2, fun p2 hp2 => ?_⟩⟩
    have E3 : Ex [c, g] H H2 := (Ex.of_same s1).trans E2
    obtain ⟨q1, q2⟩ := d2.new E3 hp2
    have ll : l'.length = 16 := pm.length_eq
    have ec : cutV (sv l') none (some (n : Int)) = sv (l'.take n) := by
      rw [cut_to (by rw [sv_len]; omega)]
      unfold sv
      rw [List.map_take]
    rw [ec]
    refine k p2 (l'.take n) _ (by rw [List.length_take]; omega) ?_ (fun z hz => ?_) (E3.trans (Ex.of_same (same_new hp2))) (d2.alloc hp2) q2 q1 upd_same
    · exact ((pm.nodup_iff).mpr words16_nd).sublist (List.take_sublist _ _)
    · exact words16_nm z (pm.mem_iff.mp (List.mem_of_mem_take hz))
end
end Lm
set_option Elab.async false
set_option linter.all false
set_option maxRecDepth 100000
set_option maxHeartbeats 4000000
namespace Lm
open PySem PySem.Spec PyProof.Rows L2
local macro_rules | `(tactic| walk_at "rd") => `(tactic| simp (config := {failIfUnchanged := false}) only [tVar, tC, tIsN, tNotN, tB, tAnd, tOr, tNot, tAndV, tOrV, tNotV, tIf, tNext, tSeq, tBreak, tCont, tDrop, tRet, tRetN, tIfS, gName, gNil, gCons, gTup, tAsg, tPar,
  iList, iTup, iRng1, iRng2, r_tFor, tFmt, tJs, or_false, false_or, exists_false, r_tLc, r_tDc, bf, iSeq, r_wipe0, r_wipe1, tOp, tUn, rI, rI0, rU, rEq, rNe, tTest, tChain, tFld, sFld, tNil, tCons, tTup, tLst, tCall, tMeth, tMake, tCB, tNoPart, tPart, tSl, rIxL, rIxT, rIxQ, rSlQ, r_tLc2, tXGet, tXIn, tXNotIn, sXPut, tXSetd, tXDisp1, iKeysX, iItemsX, tFrz, tFrzE, tRetag, ClX.tCMeth, iEnum, gPr, gUnl, tDNewK, tMakeL, rIxD, cx_w, cx_P, rSlL, rIn, tBM0, tBM, rAppend, rExtend, rPop, rPopAt, rAny, rAll, tYes, iStr, rNewStrs, tM0, tM1, StX.tStar,
  L2.start, List.map_cons, List.map_nil, List.length_cons, List.length_nil, Nat.zero_add, Nat.reduceAdd, Nat.reduceSub, List.replicate_succ, List.replicate_zero, List.cons_append, List.nil_append, List.append_nil, List.set_cons_zero, List.set_cons_succ,
  List.getElem?_cons_zero, List.getElem?_cons_succ, Option.some.injEq, exists_eq_left', exists_eq_left, exists_eq', exists_eq, exists_and_left, exists_and_right, and_assoc, List.cons.injEq, V.str.injEq, V.ref.injEq, V.bl.injEq, V.int.injEq, V.ty.injEq, and_true, true_and, reduceCtorEq, false_and, and_false,
  Bool.not_true, Bool.not_false, Bool.false_eq_true, reduceIte, Bool.not_eq_true', decide_eq_true_eq, upd_same, cx_K, HO.ins.injEq, HO.tup.injEq, HO.lst.injEq, HO.dK.injEq, lk_Run_old, lk_Run_then, lk_Run_names, lm_Run_str, lk_Lead_tests, lk_Lead_old, lk_Lead_then, lk_Lead_names, lm_Lead_str, lk_Join_here, lk_Join_came, lk_Join_then, lk_Join_names, lm_Join_str, lk_Tool_marks, lk_Tool_told, lk_Tool_parts, lk_Tool_clears, lk_Tool_rows, lk_Tool_blank, lm_Tool_need_mark, lm_Tool_is_told, lm_Tool_ran, lm_Tool_led, lm_Tool_joined, lm_Tool_keeps, lm_Tool_need_row, lm_Tool_but, lm_Tool_without, lm_Tool_heeding, lm_Tool_len, lm_Tool_eq, lm_Tool_str, lk_Single_tool, lk_Single_begin, lm_Single_machine_steps, lm_Single_led, lm_Single_joined, lk_Ways_steps, lk_Ways_machine, lk_Ways_coming, lk_Ways_hearings, lk_Ways_elders, lm_Ways_edited, lm_Ways_heard, lk_Meeting_hearings, lk_Meeting_item, lk_Meeting_deeds, lk_Meeting_waiting, lk_Told_steps, lk_Told_machine, lk_Told_coming, lk_Told_hearings, lm_Told_is_closed])
local macro_rules | `(tactic| walk_at "rd*") => `(tactic| simp (config := {failIfUnchanged := false}) only [tVar, tC, tIsN, tNotN, tB, tAnd, tOr, tNot, tAndV, tOrV, tNotV, tIf, tNext, tSeq, tBreak, tCont, tDrop, tRet, tRetN, tIfS, gName, gNil, gCons, gTup, tAsg, tPar,
  iList, iTup, iRng1, iRng2, r_tFor, tFmt, tJs, or_false, false_or, exists_false, r_tLc, r_tDc, bf, iSeq, r_wipe0, r_wipe1, tOp, tUn, rI, rI0, rU, rEq, rNe, tTest, tChain, tFld, sFld, tNil, tCons, tTup, tLst, tCall, tMeth, tMake, tCB, tNoPart, tPart, tSl, rIxL, rIxT, rIxQ, rSlQ, r_tLc2, tXGet, tXIn, tXNotIn, sXPut, tXSetd, tXDisp1, iKeysX, iItemsX, tFrz, tFrzE, tRetag, ClX.tCMeth, iEnum, gPr, gUnl, tDNewK, tMakeL, rIxD, cx_w, cx_P, rSlL, rIn, tBM0, tBM, rAppend, rExtend, rPop, rPopAt, rAny, rAll, tYes, iStr, rNewStrs, tM0, tM1, StX.tStar,
  L2.start, List.map_cons, List.map_nil, List.length_cons, List.length_nil, Nat.zero_add, Nat.reduceAdd, Nat.reduceSub, List.replicate_succ, List.replicate_zero, List.cons_append, List.nil_append, List.append_nil, List.set_cons_zero, List.set_cons_succ,
  List.getElem?_cons_zero, List.getElem?_cons_succ, Option.some.injEq, exists_eq_left', exists_eq_left, exists_eq', exists_eq, exists_and_left, exists_and_right, and_assoc, List.cons.injEq, V.str.injEq, V.ref.injEq, V.bl.injEq, V.int.injEq, V.ty.injEq, and_true, true_and, reduceCtorEq, false_and, and_false,
  Bool.not_true, Bool.not_false, Bool.false_eq_true, reduceIte, Bool.not_eq_true', decide_eq_true_eq, upd_same, cx_K, HO.ins.injEq, HO.tup.injEq, HO.lst.injEq, HO.dK.injEq, lk_Run_old, lk_Run_then, lk_Run_names, lm_Run_str, lk_Lead_tests, lk_Lead_old, lk_Lead_then, lk_Lead_names, lm_Lead_str, lk_Join_here, lk_Join_came, lk_Join_then, lk_Join_names, lm_Join_str, lk_Tool_marks, lk_Tool_told, lk_Tool_parts, lk_Tool_clears, lk_Tool_rows, lk_Tool_blank, lm_Tool_need_mark, lm_Tool_is_told, lm_Tool_ran, lm_Tool_led, lm_Tool_joined, lm_Tool_keeps, lm_Tool_need_row, lm_Tool_but, lm_Tool_without, lm_Tool_heeding, lm_Tool_len, lm_Tool_eq, lm_Tool_str, lk_Single_tool, lk_Single_begin, lm_Single_machine_steps, lm_Single_led, lm_Single_joined, lk_Ways_steps, lk_Ways_machine, lk_Ways_coming, lk_Ways_hearings, lk_Ways_elders, lm_Ways_edited, lm_Ways_heard, lk_Meeting_hearings, lk_Meeting_item, lk_Meeting_deeds, lk_Meeting_waiting, lk_Told_steps, lk_Told_machine, lk_Told_coming, lk_Told_hearings, lm_Told_is_closed, *])
def abL : List Str := ["above", "below"]
def ownL : List Str := ["own"]
def rndL : List Str := ["own", "above", "below"]
def notL : List Str := ["", "", "not "]
/-- a drawn row, as a tuple -/
def RowV (H : Hp) : RowD → V → Prop
  | .run old th, v => ∃ a, v = .ref a ∧ H a = some (.tup [.str "run", .str old, .str th])
  | .lead ts old th, v => ∃ a b, v = .ref a ∧ H a = some (.tup [.str "lead", .ref b, .str old, .str th]) ∧ H b = some (.tup (sv ts))
  | .join h c th, v => ∃ a, v = .ref a ∧ H a = some (.tup [.str "join", .str h, .str c, .str th])
theorem RowV.imm {H H' : Hp} {d : RowD} {v : V} (h : RowV H d v) (i : Imm H H') : RowV H' d v := by
  cases d with
  | run old th => obtain ⟨a, e, q⟩ := h; exact ⟨a, e, i _ _ rfl q⟩
  | lead ts old th => obtain ⟨a, b, e, q, r⟩ := h; exact ⟨a, b, e, i _ _ rfl q, i _ _ rfl r⟩
  | join h2 c th => obtain ⟨a, e, q⟩ := h; exact ⟨a, e, i _ _ rfl q⟩
def RowsV (H : Hp) (ds : List RowD) (us : List V) : Prop := Paired (fun d v => RowV H d v) ds us
theorem RowsV.imm {H H' : Hp} {ds : List RowD} {us : List V} (h : RowsV H ds us) (i : Imm H H') : RowsV H' ds us := L2.Paired.mapP h fun _ _ z => z.imm i
/-- what the maker asks of a row -/
def RowGood (m : List Str) (d : RowD) : Prop := d.fine ∧ (∀ n ∈ d.names, n ∈ m) ∧ d.badLead (m.headD Str.empty) = false
section
variable {m : List Str}
theorem any_nm : isNm "any" = false := by decide +kernel
theorem here_nm : isNm "here" = false := by decide +kernel
theorem came_nm : isNm "came" = false := by decide +kernel
theorem old_of (hm : ∀ z ∈ m, isNm z = true) {z : Str} (h : z ∈ m ++ anyL) : isOld z = true := by
  unfold isOld
  rcases List.mem_append.mp h with h | h
  · rw [hm z h]; rfl
  · rw [List.mem_singleton.mp h]; decide +kernel
theorem nm_in {z : Str} (h : z ∈ m ++ anyL) (n : isNm z = true) : z ∈ m := by
  rcases List.mem_append.mp h with h | h
  · exact h
  · rw [List.mem_singleton.mp h, any_nm] at n; cases n
theorem nm_in2 {z : Str} (h : z ∈ m ++ sidesL) (n : isNm z = true) : z ∈ m := by
  rcases List.mem_append.mp h with h | h
  · exact h
  · rcases List.mem_cons.mp h with e | h
    · rw [e, here_nm] at n; cases n
    · rw [List.mem_singleton.mp h, came_nm] at n; cases n
theorem good_run (hm : ∀ z ∈ m, isNm z = true) {old th : Str} (h1 : old ∈ m ++ anyL) (h2 : th ∈ m) : RowGood m (.run old th) := by
  refine ⟨⟨old_of hm h1, hm th h2⟩, fun n hn => ?_, rfl⟩
  obtain ⟨a, b⟩ := List.mem_filter.mp hn
  have a : n ∈ [old, th] := a
  rcases List.mem_cons.mp a with e | a
  · rw [e] at b ⊢; exact nm_in h1 b
  · rw [List.mem_singleton.mp a]; exact h2
theorem good_join (hm : ∀ z ∈ m, isNm z = true) {h c th : Str} (h1 : h ∈ m ++ anyL) (h2 : c ∈ m ++ anyL) (h3 : th ∈ m ++ sidesL) : RowGood m (.join h c th) := by
  refine ⟨⟨old_of hm h1, old_of hm h2, ?_⟩, fun n hn => ?_, rfl⟩
  · unfold isThen
    rcases List.mem_append.mp h3 with h3 | h3
    · rw [hm th h3]; rfl
    · rcases List.mem_cons.mp h3 with e | h3
      · rw [e]; decide +kernel
      · rw [List.mem_singleton.mp h3]; decide +kernel
  · obtain ⟨a, b⟩ := List.mem_filter.mp hn
    have a : n ∈ [h, c, th] := a
    rcases List.mem_cons.mp a with e | a
    · rw [e] at b ⊢; exact nm_in h1 b
    · rcases List.mem_cons.mp a with e | a
      · rw [e] at b ⊢; exact nm_in h2 b
      · rw [List.mem_singleton.mp a] at b ⊢; exact nm_in2 h3 b
theorem good_lead (hm : ∀ z ∈ m, isNm z = true) (nd : m.Nodup) {ts : List Str} {old th : Str} (h0 : ∀ t ∈ ts, t ∈ tests6) (h0' : (ts.map partOf).Nodup) (h1 : old ∈ m.tail ++ anyL) (h2 : th ∈ m) : RowGood m (.lead ts old th) := by
  have ht : ∀ z ∈ m.tail, isNm z = true := fun z hz => hm z (List.mem_of_mem_tail hz)
  refine ⟨⟨h0, h0', old_of ht h1, hm th h2⟩, fun n hn => ?_, ?_⟩
  · obtain ⟨a, b⟩ := List.mem_filter.mp hn
    have a : n ∈ [old, th] := a
    rcases List.mem_cons.mp a with e | a
    · rw [e] at b ⊢; exact List.mem_of_mem_tail (nm_in h1 b)
    · rw [List.mem_singleton.mp a]; exact h2
  · show decide (old = m.headD Str.empty) = false
    refine decide_eq_false fun e => ?_
    cases m with
    | nil => cases h2
    | cons x r =>
      have e : old = x := e
      rcases List.mem_append.mp h1 with h1 | h1
      · rw [e] at h1; exact (List.nodup_cons.mp nd).1 h1
      · rw [List.mem_singleton.mp h1] at e
        have := hm x List.mem_cons_self
        rw [← e, any_nm] at this; cases this
end
theorem rnd_ok : ∀ z ∈ rndL, okS z := by unfold okS; decide +kernel
theorem not_ok : ∀ z ∈ notL, ∀ p ∈ rndL, (z ++ p) ∈ tests6 ∧ partOf (z ++ p) = p ∧ z.length + p.length ≤ 20 := by decide +kernel
theorem rnd_nd : rndL.Nodup := by decide +kernel
/-- what stands while the rows are drawn -/
structure TS (H0 : Hp) (c g am aT aq aS ar : Addr) (ms lt lp : List Str) (ds : List RowD) (H' : Hp) : Prop where
  ex : Ex [c, g] H0 H'
  deal : DealAt H' c g
  nm : am ∉ [c, g]
  nt : aT ∉ [c, g]
  nq : aq ∉ [c, g]
  ns : aS ∉ [c, g]
  nr : ar ∉ [c, g]
  fr : H0 ar = none
  m1 : am ≠ ar
  t1 : aT ≠ ar
  q1 : aq ≠ ar
  s1 : aS ≠ ar
  em : H' am = some (.lst (sv ms))
  et : H' aT = some (.lst (sv lt))
  eq : H' aq = some (.lst (sv lp))
  es : H' aS = some (.lst (sv (ms ++ anyL)))
  rows : ∃ us, H' ar = some (.lst us) ∧ RowsV H' ds us
section
variable {H0 H' H2 : Hp} {c g am aT aq aS ar : Addr} {ms lt lp : List Str} {ds : List RowD}
theorem TS.step (t : TS H0 c g am aT aq aS ar ms lt lp ds H') (E : Ex [c, g] H' H2) (d : DealAt H2 c g) : TS H0 c g am aT aq aS ar ms lt lp ds H2 where
  ex := t.ex.trans E
  deal := d
  nm := t.nm
  nt := t.nt
  nq := t.nq
  ns := t.ns
  nr := t.nr
  fr := t.fr
  m1 := t.m1
  t1 := t.t1
  q1 := t.q1
  s1 := t.s1
  em := E _ _ t.em t.nm
  et := E _ _ t.et t.nt
  eq := E _ _ t.eq t.nq
  es := E _ _ t.es t.ns
  rows := (let ⟨us, h1, h2⟩ := t.rows; ⟨us, E _ _ h1 t.nr, h2.imm (t.deal.imm E)⟩)
theorem TS.same (t : TS H0 c g am aT aq aS ar ms lt lp ds H') (s : Same H' H2) : TS H0 c g am aT aq aS ar ms lt lp ds H2 := t.step (Ex.of_same s) (t.deal.same s)
theorem TS.put {us us2 : List V} {ds2 : List RowD} (t : TS H0 c g am aT aq aS ar ms lt lp ds H') (e : H' ar = some (.lst us)) (r : RowsV H' ds2 us2) : TS H0 c g am aT aq aS ar ms lt lp ds2 (upd H' ar (.lst us2)) where
  ex := t.ex.fresh t.fr
  deal := t.deal.put t.nr
  nm := t.nm
  nt := t.nt
  nq := t.nq
  ns := t.ns
  nr := t.nr
  fr := t.fr
  m1 := t.m1
  t1 := t.t1
  q1 := t.q1
  s1 := t.s1
  em := by rw [upd_ne t.m1]; exact t.em
  et := by rw [upd_ne t.t1]; exact t.et
  eq := by rw [upd_ne t.q1]; exact t.eq
  es := by rw [upd_ne t.s1]; exact t.es
  rows := ⟨us2, upd_same, r.imm (imm_put e rfl)⟩
end
def TlI (H0 : Hp) (c g am aT aq aS ar : Addr) (ms lt lp : List Str) (b j : Nat) (σ : L2.St) (H' : Hp) : Prop := ∃ v8 v9 v10 ds, σ = [some (.ref c), some (.ref am), some (.ref aT), none, some (.ref aq), none, some (.ref aS), some (.ref ar), v8, v9, v10] ∧ TS H0 c g am aT aq aS ar ms lt lp ds H' ∧ (∀ d ∈ ds, RowGood ms d) ∧ ds.length ≤ b + j
/-- the drawn tool, as a tuple -/
def DrawnAt (H : Hp) (p : Addr) (m t q : List Str) (b : Bool) (ds : List RowD) : Prop := ∃ am aT aq ar us, H p = some (.tup [.ref am, .ref aT, .ref aq, .bl b, .ref ar]) ∧ H am = some (.lst (sv m)) ∧ H aT = some (.lst (sv t)) ∧ H aq = some (.lst (sv q)) ∧ H ar = some (.lst us) ∧ RowsV H ds us
section
variable {P : Program} {w : World} {K : PySem.W.Frag} {mg : Str → Option Value} {base : Heap}
/-! ### _law_tool -/
def spTool : Sp := fun vs H Q _ => ∃ (c g : Addr), vs = [.ref c] ∧ DealAt H c g ∧ ∀ p H' m t q b ds, Ex [c, g] H H' → DealAt H' c g → DrawnAt H' p m t q b ds → ArgsOk m t q ds → Q (.ref p) H'
theorem sc_tool : FnScope ["_law_deal_here", "_law_marks", "_law_told", "_law_mark", "_law_parts", "_law_part", "_law_some", "_law_rows", "_law_turn", "_law_tests", "_law_old"] ["_law_deal_here"] (defScope st_law_tool) := ⟨rfl, rfl, rfl, by decide +kernel, rfl, by decide +kernel, by decide +kernel⟩
theorem x_tool (T : Tx w K mg) : FX P w K mg base 4 "_law_tool" ["_law_deal_here"] spTool := by
  obtain ⟨fd, F⟩ := fun_law_tool T.c
  have G1 : FX P w K mg base 1 "_law_draw" ["_law_deal_here", "_law_many"] spDraw := x_draw T
  have G2 : FX P w K mg base 3 "_law_words" ["_law_deal_here", "_law_many"] spWords := x_words T
  have G3 : FX P w K mg base 2 "_law_mixed" ["_law_deal_here", "_law_some"] spMixed := x_mixed T
  have G4 : FX P w K mg base 2 "_law_pick" ["_law_deal_here", "_law_some"] spPick := x_pick T
  refine FX.of F T.g_law_tool sc_tool (fun _ _ _ _ _ _ us hl => match us, hl with | [_], _ => rfl) (fun vs H Q E h => ?_) (fun cdv A outer s H vs Q E hr h => ?_)
  · obtain ⟨c, g, rfl, _⟩ := h
    rfl
  · obtain ⟨c, g, rfl, hd, k⟩ := h
    refine ⟨_, (pss_cons (ps_set (i := 1) sc_tool.nd rfl (Or.inl rfl) (pc G2 hr (pa2 (pv 0) (pe_op op_add pe_int (pc G1 hr (pa2 (pv 0) pe_int))))))
      (pss_cons (pslI sc_tool 2 3 (pi_list (pe_slice sl_list (pv 1) (po_some pe_int) po_none)) (fun _ _ _ _ _ => (pt_cmpR op_gt (pc G1 hr (pa2 (pv 0) pe_int)) pe_int (nomark _))) (fun _ _ _ _ _ => (pv 3)))
      (pss_cons (ps_set (i := 4) sc_tool.nd rfl (Or.inl rfl) (pe_op op_cat (plcI sc_tool 5 (pi_tup (pe_tup (pa2 pe_str pe_str))) (fun _ _ _ _ _ => (pt_cmpR op_eq (pc G1 hr (pa2 (pv 0) pe_int)) pe_int (nomark _))) (fun _ _ _ _ _ => (pv 5))) (pe_lst (pa1 pe_str))))
      (pss_cons (ps_par (i := 6) (j := 7) rfl sc_tool.nd rfl rfl (by decide) rfl rfl (pa2 (pe_op op_cat (pv 1) (pe_lst (pa1 pe_str))) (pe_lst (pa1 (pe_tup (pa_cons pe_str (pa2 pe_str (pe_ix ix_list (pv 1) pe_int (fun _ _ => rfl)))))))) rfl)
      (pss_cons (ps_for PassesOwn.never rfl (pi_range1 rfl T.n_range (pa1 (pe_op op_add pe_int (pc G1 hr (pa2 (pv 0) pe_int))))) (pg_name (i := 8) sc_tool.nd rfl (Or.inl rfl)) (pss_cons (psl sc_tool 9 5 (pi_list (pc G3 hr (pa2 (pv 0) (pe_lst (pa_cons pe_str (pa2 pe_str pe_str)))))) (fun _ _ _ _ _ => (pe_op op_add_str (pc G4 hr (pa2 (pv 0) (pe_lst (pa_cons pe_str (pa2 pe_str pe_str))))) (pv 5))))
      (pss_cons (ps_set (i := 10) sc_tool.nd rfl (Or.inl rfl) (pc G4 hr (pa2 (pv 0) (pe_op op_cat (pe_slice sl_list (pv 1) (po_some pe_int) po_none) (pe_lst (pa1 pe_str))))))
      (pss_one (ps_expr (pe_bm PySem.F.plainAttrs_list PySem.F.slot_list_append PySem.F.type_list_append mt_append (pv 7) (pa1 (pe_tup (pa_cons pe_str (pa_cons (pbt call_tuple_of T.n_tuple (pa1 (pe_slice sl_list (pv 9) po_none (po_some (pc G1 hr (pa2 (pv 0) pe_int)))))) (pa2 (pv 10) (pc G4 hr (pa2 (pv 0) (pv 1))))))))))))))
      (pss_cons (ps_for PassesOwn.never rfl (pi_range1 rfl T.n_range (pa1 (pe_op op_add pe_int (pc G1 hr (pa2 (pv 0) pe_int))))) (pg_name (i := 8) sc_tool.nd rfl (Or.inl rfl)) (pss_one (ps_expr (pe_bm PySem.F.plainAttrs_list PySem.F.slot_list_append PySem.F.type_list_append mt_append (pv 7) (pa1 (pe_tup (pa_cons pe_str (pa_cons (pc G4 hr (pa2 (pv 0) (pv 6))) (pa2 (pc G4 hr (pa2 (pv 0) (pv 6))) (pc G4 hr (pa2 (pv 0) (pe_op op_cat (pv 1) (pe_lst (pa2 pe_str pe_str))))))))))))))
      (pss_cons (ps_if (pt_cmpR op_eq (pc G1 hr (pa2 (pv 0) pe_int)) pe_int (nomark _)) (pss_one (ps_expr (pe_bm PySem.F.plainAttrs_list PySem.F.slot_list_insert PySem.F.type_list_insert mt_insert (pv 7) (pa2 pe_int (pe_tup (pa_cons pe_str (pa2 (pc G4 hr (pa2 (pv 0) (pv 6))) (pc G4 hr (pa2 (pv 0) (pv 1)))))))))) pss_nil)
      (pss_one (ps_ret (pe_tup (pa_cons (pv 1) (pa_cons (pv 2) (pa_cons (pb cr_sortedS T.n_sorted (pa1 (pv 4))) (pa2 (pe_cmpR op_eq (pc G1 hr (pa2 (pv 0) pe_int)) pe_int (nomark _)) (pv 7))))))))))))))), ?_⟩
    walk_at "rd"
    refine ⟨c, g, 3, rfl, by decide, by decide, hd, fun r H1 r0 r1 E1 d1 => ⟨r, rfl, ?_⟩⟩
    obtain ⟨n, rfl⟩ := Int.eq_ofNat_of_zero_le r0
    refine ⟨c, g, 2 + n, by rw [show (2 : Int) + n = ((2 + n : Nat) : Int) by omega], by omega, d1, fun am lm H2 ll nd nm E2' d2 nam ham em => ?_⟩
    have E2 := E1.trans E2'
    obtain ⟨m0, m1, mr, rfl⟩ : ∃ m0 m1 mr, lm = m0 :: m1 :: mr := by
      match lm, ll with
      | [], h => simp at h; omega
      | [_], h => simp at h; omega
      | a :: b :: r, _ => exact ⟨a, b, r, rfl⟩
    have ml : (m0 :: m1 :: mr).length ≤ 4 := by omega
    refine ⟨am, rfl, _, SqL.of em, fun p hp => ?_⟩
    rw [show cutV (sv (m0 :: m1 :: mr)) (some 1) none = sv (m1 :: mr) from cut_tail]
    have s3 := same_new (o := .lst (sv (m1 :: mr))) hp
    have d3 := d2.same s3
    have E3 := E2.trans (Ex.of_same s3)
    have em3 := s3 _ _ em
    have ep3 : upd H2 p (.lst (sv (m1 :: mr))) p = some (.lst (sv (m1 :: mr))) := upd_same
    have np3 := (d2.new E2 hp).2
    generalize upd H2 p (.lst (sv (m1 :: mr))) = H3 at *
    refine ⟨⟨_, SqL.of ep3⟩, fun aT haT => ?_⟩
    have ml2 : (m1 :: mr).length ≤ 3 := by rw [List.length_cons] at ml; omega
    refine lcEff walk_list rfl (by omega) haT d3 (fun H E => SqL.of (E _ _ ep3 np3)) (fun pre F => F.Sublist pre) (List.Sublist.refl []) (fun pre z F H4 hz sb E4 d4 Ky Kn ky kn => ?_) fun H4 lt E4' d4 et fl4 sb => ?_
    · walk_at "rd"
      refine ⟨c, g, 3, rfl, by decide, by decide, d4, fun r H5 r0 r1 E5 d5 => ?_⟩
      refine ⟨r, rfl, ?_⟩
      by_cases pos : 0 < r
      · exact iteP pos (ky _ _ E5 d5 (sb.append (List.Sublist.refl _)))
      · exact iteN pos (kn _ E5 d5 (sb.trans (List.sublist_append_left _ _)))
    have E4 := E3.trans E4'
    have naT := d3.nin haT
    have em4 := E4' _ _ em3 nam
    refine ⟨by decide, fun p4 hp4 => ⟨⟨_, SqT.of upd_same⟩, fun D5 hD5 => ?_⟩⟩
    have s5 := same_new (o := .tup (sv abL)) hp4
    have d5 := d4.same s5
    have E5 := E4.trans (Ex.of_same s5)
    have em5 := s5 _ _ em4
    have et5 := s5 _ _ et
    have np5 := (d4.new E4 hp4).2
    refine lcEff (l := abL) walk_tup rfl (by decide) hD5 d5 (fun H E => SqT.of (E _ _ upd_same np5)) (fun pre F => F.Sublist pre) (List.Sublist.refl []) (fun pre z F H6 hz sb E6 d6 Ky Kn ky kn => ?_) fun H6 lp E6' d6 ep fl6 sbp => ?_
    · walk_at "rd"
      refine ⟨c, g, 3, rfl, by decide, by decide, d6, fun r H7 r0 r1 E7 d7 => ?_⟩
      refine ⟨rfl, ?_⟩
      by_cases z0 : r = 0
      · subst z0
        exact iteP rfl (ky _ _ E7 d7 (sb.append (List.Sublist.refl _)))
      · exact iteN (fun e => z0 (V.int.inj e)) (kn _ E7 d7 (sb.trans (List.sublist_append_left _ _)))
    have E6 := E5.trans E6'
    have em6 := E6' _ _ em5 nam
    have et6 := E6' _ _ et5 naT
    walk_at "rd"
    refine ⟨by decide, fun p7 hp7 => ⟨D5, p7, sv lp, [.str "own"], rfl, rfl, same_new hp7 _ _ ep, upd_same, ?_, fun p8 hp8 => ?_⟩⟩
    · rw [sv_len]
      have : lp.length ≤ 2 := fl6
      exact len_ok (by show lp.length + 1 ≤ 1000; omega)
    have s8 := (same_new (o := .lst [.str "own"]) hp7).trans (same_new (o := .lst (sv lp ++ [.str "own"])) hp8)
    have e8 : upd (upd H6 p7 (.lst [.str "own"])) p8 (.lst (sv lp ++ [.str "own"])) p8 = some (.lst (sv (lp ++ ownL))) := by
      rw [upd_same]
      unfold sv
      rw [List.map_append]
      rfl
    have d8 := d6.same s8
    have n8 := (d6.new E6 ((same_new (o := .lst [.str "own"]) hp7).free hp8)).2
    have E8 := E6.trans (Ex.of_same s8)
    have em8 := s8 _ _ em6
    have et8 := s8 _ _ et6
    generalize upd (upd H6 p7 (.lst [.str "own"])) p8 (.lst (sv lp ++ [.str "own"])) = H8 at *
    refine ⟨by decide, fun p9 hp9 => ⟨am, p9, sv (m0 :: m1 :: mr), [.str "any"], rfl, rfl, same_new hp9 _ _ em8, upd_same, ?_, fun p10 hp10 => ?_⟩⟩
    · rw [sv_len]
      exact len_ok (by show (m0 :: m1 :: mr).length + 1 ≤ 1000; omega)
    have s10 := (same_new (o := .lst [.str "any"]) hp9).trans (same_new (o := .lst (sv (m0 :: m1 :: mr) ++ [.str "any"])) hp10)
    have e10 : upd (upd H8 p9 (.lst [.str "any"])) p10 (.lst (sv (m0 :: m1 :: mr) ++ [.str "any"])) p10 = some (.lst (sv ((m0 :: m1 :: mr) ++ anyL))) := by
      rw [upd_same]
      unfold sv
      rw [List.map_append]
      rfl
    have d10 := d8.same s10
    have n10 := (d8.new E8 ((same_new (o := .lst [.str "any"]) hp9).free hp10)).2
    have E10 := E8.trans (Ex.of_same s10)
    have em10 := s10 _ _ em8
    have et10 := s10 _ _ et8
    have eq10 := s10 _ _ e8
    generalize upd (upd H8 p9 (.lst [.str "any"])) p10 (.lst (sv (m0 :: m1 :: mr) ++ [.str "any"])) = H10 at *
    refine ⟨_, SqL.of em10, .str m1, atI_nat (j := 1) rfl, by decide, fun p11 hp11 => ⟨by decide, fun p12 hp12 => ?_⟩⟩
    have s12 := (same_new (o := .tup [.str "run", .str "any", .str m1]) hp11).trans (same_new (o := .lst [.ref p11]) hp12)
    have e12 : upd (upd H10 p11 (.tup [.str "run", .str "any", .str m1])) p12 (.lst [.ref p11]) p12 = some (.lst [.ref p11]) := upd_same
    have r12 : RowsV (upd (upd H10 p11 (.tup [.str "run", .str "any", .str m1])) p12 (.lst [.ref p11])) [.run "any" m1] [.ref p11] := .cons ⟨p11, rfl, same_new hp12 _ _ upd_same⟩ .nil
    have d12 := d10.same s12
    have n12 := (d10.new E10 ((same_new (o := .tup [.str "run", .str "any", .str m1]) hp11).free hp12))
    have E12 := E10.trans (Ex.of_same s12)
    have em12 := s12 _ _ em10
    have et12 := s12 _ _ et10
    have eq12 := s12 _ _ eq10
    have es12 := s12 _ _ e10
    generalize upd (upd H10 p11 (.tup [.str "run", .str "any", .str m1])) p12 (.lst [.ref p11]) = H12 at *
    have am1 : m1 ∈ m0 :: m1 :: mr := by simp
    have gd0 : ∀ d ∈ ([.run "any" m1] : List RowD), RowGood (m0 :: m1 :: mr) d := fun d hd => by
      rw [List.mem_singleton.mp hd]
      exact good_run nm (by simp [anyL]) am1
    refine ⟨c, g, 3, rfl, by decide, by decide, d12, fun r H13 r0 r1 E13' d13 => ⟨r, rfl, by omega, by omega, ?_⟩⟩
    have hr2 : (1 + r).toNat ≤ 3 := by omega
    generalize (1 + r).toNat = n1 at *
    have ne12 : ∀ {b : Addr} {l : List V}, H10 b = some (.lst l) → b ≠ p12 := fun e z => by
      have hp12' := (same_new (o := .tup [.str "run", .str "any", .str m1]) hp11).free hp12
      rw [z, hp12'] at e; cases e
    have t12 : TS H c g am aT p8 p10 p12 (m0 :: m1 :: mr) lt (lp ++ ownL) [.run "any" m1] H12 := ⟨E12, d12, nam, naT, n8, n10, n12.2, n12.1, ne12 em10, ne12 et10, ne12 eq10, ne12 e10, em12, et12, eq12, es12, _, e12, r12⟩
    have t13 := t12.step E13' d13
    clear em12 et12 eq12 es12 e12 r12 d12 E12 em10 et10 eq10 e10 d10 E10 em8 et8 e8 d8 E8 em6 et6 ep d6 E6
    refine for_it walk_range (TlI H c g am aT p8 p10 p12 (m0 :: m1 :: mr) lt (lp ++ ownL) 1) ⟨none, none, none, _, rfl, t13, gd0, Nat.le_refl _⟩ (fun _ _ _ _ _ => trivial) ?_ ?_
    · rintro j y σ14 H14 H14' hj ⟨v8, v9, v10, ds, rfl, ts, gd, dl⟩ ⟨rfl, rfl⟩
      walk_at "rd"
      refine ⟨by decide, fun q hq => ?_⟩
      have sq := same_new (o := .lst [V.str "own", V.str "above", V.str "below"]) hq
      have tsq := ts.same sq
      refine ⟨c, g, q, rndL, rfl, upd_same, by decide, rnd_ok, tsq.deal, fun pm l' H15 pmL E15 d15 hpm epm npg => ⟨pm, rfl, ⟨_, SqL.of epm⟩, fun D hD => ?_⟩⟩
      have npm := tsq.deal.nin hpm
      have t15 := tsq.step E15 d15
      have l3 : l'.length = 3 := pmL.length_eq
      refine lcEff walk_list rfl (by omega) hD d15 (fun H E => SqL.of (E _ _ epm npm)) (fun pre F => F.map partOf = pre ∧ ∀ t ∈ F, t ∈ tests6) ⟨rfl, fun t ht => nomatch ht⟩ (fun pre z F H16 hz rr E16 d16 Ky Kn ky kn => ?_) fun H16 F E16 d16 eF fl rr => ?_
      · walk_at "rd"
        refine ⟨by decide, fun q2 hq2 => ?_⟩
        refine ⟨c, g, q2, notL, rfl, upd_same, by decide, by decide, d16.alloc hq2, fun y H17 hy E17 d17 => ⟨y, rfl, ?_, ?_⟩⟩
        · have := (not_ok y hy z (pmL.mem_iff.mp hz)).2.2
          exact Nat.le_trans this (by decide)
        · have no := not_ok y hy z (pmL.mem_iff.mp hz)
          refine ky (y ++ z) _ ((Ex.of_same (same_new hq2)).trans E17) d17 ⟨?_, fun t ht => ?_⟩
          · rw [List.map_append, rr.1, List.map_cons, List.map_nil, no.2.1]
          · rcases List.mem_append.mp ht with ht | ht
            · exact rr.2 t ht
            · rw [List.mem_singleton.mp ht]; exact no.1
      have t16 := t15.step E16 d16
      have nD := d15.nin hD
      refine ⟨_, SqL.of t16.em, fun p1 hp1 => ⟨by decide, fun p2 hp2 => ?_⟩⟩
      rw [show cutV (sv (m0 :: m1 :: mr)) (some 1) none = sv (m1 :: mr) from cut_tail] at hp2 ⊢
      have u1 := same_new (o := .lst (sv (m1 :: mr))) hp1
      have u2 := same_new (o := .lst [V.str "any"]) hp2
      refine ⟨p1, p2, sv (m1 :: mr), [V.str "any"], rfl, rfl, u2 _ _ upd_same, upd_same, ?_, fun p3 hp3 => ?_⟩
      · rw [sv_len]
        exact len_ok (by show (m1 :: mr).length + 1 ≤ 1000; omega)
      have u3 := same_new (o := .lst (sv (m1 :: mr) ++ [V.str "any"])) hp3
      have e3 : upd (upd (upd H16 p1 (.lst (sv (m1 :: mr)))) p2 (.lst [V.str "any"])) p3 (.lst (sv (m1 :: mr) ++ [V.str "any"])) p3 = some (.lst (sv ((m1 :: mr) ++ anyL))) := by
        rw [upd_same]
        unfold sv
        rw [List.map_append]
        rfl
      have t17 := t16.same (u1.trans (u2.trans u3))
      have eF17 := (u1.trans (u2.trans u3)) _ _ eF
      generalize upd (upd (upd H16 p1 (.lst (sv (m1 :: mr)))) p2 (.lst [V.str "any"])) p3 (.lst (sv (m1 :: mr) ++ [V.str "any"])) = H17 at *
      refine ⟨c, g, p3, (m1 :: mr) ++ anyL, rfl, e3, by simp, by rw [List.length_append]; show (m1 :: mr).length + 1 ≤ 100; omega, t17.deal, fun old H18 hold E18 d18 => ?_⟩
      have t18 := t17.step E18 d18
      have eF18 := E18 _ _ eF17 nD
      obtain ⟨us, eus, _⟩ := t18.rows
      refine ⟨.inl ⟨rfl, _, SqL.of eus⟩, c, g, 3, rfl, by decide, by decide, d18, fun r H19 r0 r1 E19 d19 => ⟨r, rfl, _, SqL.of (E19 _ _ eF18 nD), fun p4 hp4 => ?_⟩⟩
      have t19 := t18.step E19 d19
      obtain ⟨rn, rfl⟩ := Int.eq_ofNat_of_zero_le r0
      have lF : F.length = 3 := by rw [← l3, ← rr.1, List.length_map]
      have ec : cutV (sv F) none (some (rn : Int)) = sv (F.take rn) := by
        rw [cut_to (by rw [sv_len]; omega)]
        unfold sv
        rw [List.map_take]
      rw [ec]
      have v1 := same_new (o := .lst (sv (F.take rn))) hp4
      refine ⟨_, .inl ⟨SqL.of upd_same, fun p5 hp5 => ?_⟩⟩
      have v2 := same_new (o := .tup (sv (F.take rn))) hp5
      have e5 : upd (upd H19 p4 (.lst (sv (F.take rn)))) p5 (.tup (sv (F.take rn))) p5 = some (.tup (sv (F.take rn))) := upd_same
      have t20 := t19.same (v1.trans v2)
      generalize upd (upd H19 p4 (.lst (sv (F.take rn)))) p5 (.tup (sv (F.take rn))) = H20 at *
      refine ⟨c, g, am, m0 :: m1 :: mr, rfl, t20.em, by simp, by omega, t20.deal, fun th H21 hth E21 d21 => ⟨by decide, fun p6 hp6 => ?_⟩⟩
      have t21 := t20.step E21 d21
      have v6 := same_new (o := .tup [.str "lead", .ref p5, .str old, .str th]) hp6
      have t22 := t21.same v6
      have e56 := v6 _ _ (t20.deal.imm E21 _ _ rfl e5)
      obtain ⟨us2, eus2, rus2⟩ := t22.rows
      have rv : RowV (upd H21 p6 (.tup [.str "lead", .ref p5, .str old, .str th])) (.lead (F.take rn) old th) (.ref p6) := ⟨p6, p5, rfl, upd_same, e56⟩
      refine ⟨us2, eus2, ?_, _, _, _, ds ++ [.lead (F.take rn) old th], rfl, t22.put eus2 (Paired.snoc rus2 rv), fun d hd => ?_, by rw [List.length_append, List.length_singleton]; omega⟩
      · rw [← Paired.length rus2]
        exact len_lt (by omega)
      · rcases List.mem_append.mp hd with hd | hd
        · exact gd d hd
        · rw [List.mem_singleton.mp hd]
          refine good_lead nm nd (fun t ht => rr.2 t (List.mem_of_mem_take ht)) ?_ hold hth
          rw [List.map_take, rr.1]
          exact ((pmL.nodup_iff).mpr rnd_nd).sublist (List.take_sublist _ _)
    · rintro σ14 H14 ⟨v8, v9, v10, ds, rfl, ts, gd, dl⟩
      walk_at "rd"
      refine ⟨c, g, 3, rfl, by decide, by decide, ts.deal, fun r H15 r0 r1 E15 d15 => ⟨r, rfl, by omega, by omega, ?_⟩⟩
      have ts15 := ts.step E15 d15
      have hr3 : (1 + r).toNat ≤ 3 := by omega
      generalize (1 + r).toNat = n2 at *
      refine for_it walk_range (TlI H c g am aT p8 p10 p12 (m0 :: m1 :: mr) lt (lp ++ ownL) 4) ⟨_, _, _, _, rfl, ts15, gd, by omega⟩ (fun _ _ _ _ _ => trivial) ?_ ?_
      · rintro j y σ16 H16 H16' hj ⟨v8, v9, v10, ds, rfl, ts, gd, dl⟩ ⟨rfl, rfl⟩
        walk_at "rd"
        obtain ⟨us0, eus0, _⟩ := ts.rows
        have l10 : ((m0 :: m1 :: mr) ++ anyL).length ≤ 100 := by rw [List.length_append]; show (m0 :: m1 :: mr).length + 1 ≤ 100; omega
        refine ⟨.inl ⟨rfl, _, SqL.of eus0⟩, c, g, p10, (m0 :: m1 :: mr) ++ anyL, rfl, ts.es, by simp, l10, ts.deal, fun ha H17 hha E17 d17 => ?_⟩
        have t17 := ts.step E17 d17
        refine ⟨c, g, p10, (m0 :: m1 :: mr) ++ anyL, rfl, t17.es, by simp, l10, t17.deal, fun ca H18 hca E18 d18 => ⟨by decide, fun q1 hq1 => ?_⟩⟩
        have t18 := t17.step E18 d18
        have u1 := same_new (o := .lst [V.str "here", V.str "came"]) hq1
        refine ⟨am, q1, sv (m0 :: m1 :: mr), [V.str "here", V.str "came"], rfl, rfl, u1 _ _ t18.em, upd_same, ?_, fun q2 hq2 => ?_⟩
        · rw [sv_len]
          exact len_ok (by show (m0 :: m1 :: mr).length + 2 ≤ 1000; omega)
        have u2 := same_new (o := .lst (sv (m0 :: m1 :: mr) ++ [V.str "here", V.str "came"])) hq2
        have e2 : upd (upd H18 q1 (.lst [V.str "here", V.str "came"])) q2 (.lst (sv (m0 :: m1 :: mr) ++ [V.str "here", V.str "came"])) q2 = some (.lst (sv ((m0 :: m1 :: mr) ++ sidesL))) := by
          rw [upd_same]
          unfold sv
          rw [List.map_append]
          rfl
        have t19 := t18.same (u1.trans u2)
        generalize upd (upd H18 q1 (.lst [V.str "here", V.str "came"])) q2 (.lst (sv (m0 :: m1 :: mr) ++ [V.str "here", V.str "came"])) = H19 at *
        refine ⟨c, g, q2, (m0 :: m1 :: mr) ++ sidesL, rfl, e2, by simp, by rw [List.length_append]; show (m0 :: m1 :: mr).length + 2 ≤ 100; omega, t19.deal, fun th H20 hth E20 d20 => ⟨by decide, fun p6 hp6 => ?_⟩⟩
        have t20 := t19.step E20 d20
        have v6 := same_new (o := .tup [.str "join", .str ha, .str ca, .str th]) hp6
        have t21 := t20.same v6
        obtain ⟨us2, eus2, rus2⟩ := t21.rows
        have rv : RowV (upd H20 p6 (.tup [.str "join", .str ha, .str ca, .str th])) (.join ha ca th) (.ref p6) := ⟨p6, rfl, upd_same⟩
        refine ⟨us2, eus2, ?_, _, _, _, ds ++ [.join ha ca th], rfl, t21.put eus2 (Paired.snoc rus2 rv), fun d hd => ?_, by rw [List.length_append, List.length_singleton]; omega⟩
        · rw [← Paired.length rus2]
          exact len_lt (by omega)
        · rcases List.mem_append.mp hd with hd | hd
          · exact gd d hd
          · rw [List.mem_singleton.mp hd]
            exact good_join nm hha hca hth
      · rintro σ16 H16 ⟨v8, v9, v10, ds, rfl, ts, gd, dl⟩
        have fin : ∀ (ds : List RowD) (H' : Hp), TS H c g am aT p8 p10 p12 (m0 :: m1 :: mr) lt (lp ++ ownL) ds H' → (∀ d ∈ ds, RowGood (m0 :: m1 :: mr) d) → ds.length ≤ 10 →
            rSortedS K [V.ref p8] H' fun x H1 => spDraw [V.ref c, V.int 2] H1 (fun x_1 H1 => scal x_1 (V.int 0) = true ∧ 5 ≤ sizeLine ∧ ∀ (p : Addr), H1 p = none → Q (V.ref p) (upd H1 p (HO.tup [V.ref am, V.ref aT, x, V.bl (decide (x_1 = V.int 0)), V.ref p12]))) E0 := by
          intro ds H' ts gd dl
          have ppl : (lp ++ ownL).length ≤ 3 := by rw [List.length_append]; show lp.length + 1 ≤ 3; have : lp.length ≤ 2 := fl6; omega
          refine ⟨p8, lp ++ ownL, rfl, SqL.of ts.eq, by omega, fun ys aq pmY _ haq => ?_⟩
          have w1 := same_new (o := .lst (sv ys)) haq
          have t1 := ts.same w1
          have naq := ts.deal.nin haq
          refine ⟨c, g, 2, rfl, by decide, by decide, t1.deal, fun r H2 r0 r1 E2 d2 => ?_⟩
          have t2 := t1.step E2 d2
          have eaq : H2 aq = some (.lst (sv ys)) := E2 _ _ upd_same naq
          refine ⟨rfl, by decide, fun pp hpp => ?_⟩
          have w3 := same_new (o := .tup [V.ref am, V.ref aT, V.ref aq, V.bl (decide (V.int r = V.int 0)), V.ref p12]) hpp
          have t3 := t2.same w3
          obtain ⟨us, eus, rus⟩ := t3.rows
          have psub : (lp ++ ownL).Sublist (abL ++ ownL) := sbp.append (List.Sublist.refl _)
          refine k pp _ (m0 :: m1 :: mr) lt ys (decide (V.int r = V.int 0)) ds t3.ex t3.deal ⟨am, aT, aq, p12, us, upd_same, t3.em, t3.et, w3 _ _ eaq, eus, rus⟩ ?_
          have pin : ∀ z ∈ abL ++ ownL, z ∈ partsL := by decide +kernel
          have pnd : (abL ++ ownL).Nodup := by decide +kernel
          exact ⟨nm, nd, by simp, ml, fun z hz => nm z (List.mem_cons_of_mem _ (sb.subset hz)), (List.nodup_cons.mp nd).2.sublist sb, fun z hz => sb.subset hz, fun z hz => pin z (psub.subset (pmY.mem_iff.mp hz)), (pmY.nodup_iff).mpr (pnd.sublist psub), pmY.mem_iff.mpr (List.mem_append_right _ (by simp [ownL])), fun d hd => (gd d hd).1, fun d hd => (gd d hd).2.1, fun d hd => (gd d hd).2.2, dl⟩
        walk_at "rd"
        refine ⟨c, g, 2, rfl, by decide, by decide, ts.deal, fun r H17 r0 r1 E17 d17 => ⟨rfl, ?_⟩⟩
        have t17 := ts.step E17 d17
        by_cases z0 : r = 0
        · subst z0
          refine iteP rfl ?_
          obtain ⟨us0, eus0, _⟩ := t17.rows
          have l10 : ((m0 :: m1 :: mr) ++ anyL).length ≤ 100 := by rw [List.length_append]; show (m0 :: m1 :: mr).length + 1 ≤ 100; omega
          refine ⟨.inl ⟨rfl, _, SqL.of eus0⟩, c, g, p10, (m0 :: m1 :: mr) ++ anyL, rfl, t17.es, by simp, l10, t17.deal, fun old H18 hold E18 d18 => ?_⟩
          have t18 := t17.step E18 d18
          refine ⟨c, g, am, m0 :: m1 :: mr, rfl, t18.em, by simp, by omega, t18.deal, fun th H19 hth E19 d19 => ⟨by decide, fun p6 hp6 => ?_⟩⟩
          have t19 := t18.step E19 d19
          have v6 := same_new (o := .tup [.str "run", .str old, .str th]) hp6
          have t20 := t19.same v6
          obtain ⟨us2, eus2, rus2⟩ := t20.rows
          have rv : RowV (upd H19 p6 (.tup [.str "run", .str old, .str th])) (.run old th) (.ref p6) := ⟨p6, rfl, upd_same⟩
          refine ⟨us2, eus2, ?_, by decide, by decide, ?_⟩
          · rw [← Paired.length rus2]
            exact len_lt (by omega)
          · refine fin (.run old th :: ds) _ (t20.put eus2 (.cons rv rus2)) (fun d hd => ?_) (by rw [List.length_cons]; omega)
            rcases List.mem_cons.mp hd with e | hd
            · rw [e]; exact good_run nm hold hth
            · exact gd d hd
        · exact iteN (fun e => z0 (V.int.inj e)) (fin ds _ t17 gd (by omega))
end
end Lm
set_option Elab.async false
set_option linter.all false
set_option maxRecDepth 100000
set_option maxHeartbeats 4000000
namespace Lm
open PySem PySem.Spec PyProof.Rows L2
local macro_rules | `(tactic| walk_at "rd") => `(tactic| simp (config := {failIfUnchanged := false}) only [tVar, tC, tIsN, tNotN, tB, tAnd, tOr, tNot, tAndV, tOrV, tNotV, tIf, tNext, tSeq, tBreak, tCont, tDrop, tRet, tRetN, tIfS, gName, gNil, gCons, gTup, tAsg, tPar,
  iList, iTup, iRng1, iRng2, r_tFor, tFmt, tJs, or_false, false_or, exists_false, r_tLc, r_tDc, bf, iSeq, r_wipe0, r_wipe1, tOp, tUn, rI, rI0, rU, rEq, rNe, tTest, tChain, tFld, sFld, tNil, tCons, tTup, tLst, tCall, tMeth, tMake, tCB, tNoPart, tPart, tSl, rIxL, rIxT, rIxQ, rSlQ, r_tLc2, tXGet, tXIn, tXNotIn, sXPut, tXSetd, tXDisp1, iKeysX, iItemsX, tFrz, tFrzE, tRetag, ClX.tCMeth, iEnum, gPr, gUnl, tDNewK, tMakeL, rIxD, cx_w, cx_P, rSlL, rIn, tBM0, tBM, rAppend, rExtend, rPop, rPopAt, rAny, rAll, tYes, iStr, rNewStrs, tM0, tM1, StX.tStar,
  L2.start, List.map_cons, List.map_nil, List.length_cons, List.length_nil, Nat.zero_add, Nat.reduceAdd, Nat.reduceSub, List.replicate_succ, List.replicate_zero, List.cons_append, List.nil_append, List.append_nil, List.set_cons_zero, List.set_cons_succ,
  List.getElem?_cons_zero, List.getElem?_cons_succ, Option.some.injEq, exists_eq_left', exists_eq_left, exists_eq', exists_eq, exists_and_left, exists_and_right, and_assoc, List.cons.injEq, V.str.injEq, V.ref.injEq, V.bl.injEq, V.int.injEq, V.ty.injEq, and_true, true_and, reduceCtorEq, false_and, and_false,
  Bool.not_true, Bool.not_false, Bool.false_eq_true, reduceIte, Bool.not_eq_true', decide_eq_true_eq, upd_same, cx_K, HO.ins.injEq, HO.tup.injEq, HO.lst.injEq, HO.dK.injEq, lk_Run_old, lk_Run_then, lk_Run_names, lm_Run_str, lk_Lead_tests, lk_Lead_old, lk_Lead_then, lk_Lead_names, lm_Lead_str, lk_Join_here, lk_Join_came, lk_Join_then, lk_Join_names, lm_Join_str, lk_Tool_marks, lk_Tool_told, lk_Tool_parts, lk_Tool_clears, lk_Tool_rows, lk_Tool_blank, lm_Tool_need_mark, lm_Tool_is_told, lm_Tool_ran, lm_Tool_led, lm_Tool_joined, lm_Tool_keeps, lm_Tool_need_row, lm_Tool_but, lm_Tool_without, lm_Tool_heeding, lm_Tool_len, lm_Tool_eq, lm_Tool_str, lk_Single_tool, lk_Single_begin, lm_Single_machine_steps, lm_Single_led, lm_Single_joined, lk_Ways_steps, lk_Ways_machine, lk_Ways_coming, lk_Ways_hearings, lk_Ways_elders, lm_Ways_edited, lm_Ways_heard, lk_Meeting_hearings, lk_Meeting_item, lk_Meeting_deeds, lk_Meeting_waiting, lk_Told_steps, lk_Told_machine, lk_Told_coming, lk_Told_hearings, lm_Told_is_closed])
local macro_rules | `(tactic| walk_at "rd*") => `(tactic| simp (config := {failIfUnchanged := false}) only [tVar, tC, tIsN, tNotN, tB, tAnd, tOr, tNot, tAndV, tOrV, tNotV, tIf, tNext, tSeq, tBreak, tCont, tDrop, tRet, tRetN, tIfS, gName, gNil, gCons, gTup, tAsg, tPar,
  iList, iTup, iRng1, iRng2, r_tFor, tFmt, tJs, or_false, false_or, exists_false, r_tLc, r_tDc, bf, iSeq, r_wipe0, r_wipe1, tOp, tUn, rI, rI0, rU, rEq, rNe, tTest, tChain, tFld, sFld, tNil, tCons, tTup, tLst, tCall, tMeth, tMake, tCB, tNoPart, tPart, tSl, rIxL, rIxT, rIxQ, rSlQ, r_tLc2, tXGet, tXIn, tXNotIn, sXPut, tXSetd, tXDisp1, iKeysX, iItemsX, tFrz, tFrzE, tRetag, ClX.tCMeth, iEnum, gPr, gUnl, tDNewK, tMakeL, rIxD, cx_w, cx_P, rSlL, rIn, tBM0, tBM, rAppend, rExtend, rPop, rPopAt, rAny, rAll, tYes, iStr, rNewStrs, tM0, tM1, StX.tStar,
  L2.start, List.map_cons, List.map_nil, List.length_cons, List.length_nil, Nat.zero_add, Nat.reduceAdd, Nat.reduceSub, List.replicate_succ, List.replicate_zero, List.cons_append, List.nil_append, List.append_nil, List.set_cons_zero, List.set_cons_succ,
  List.getElem?_cons_zero, List.getElem?_cons_succ, Option.some.injEq, exists_eq_left', exists_eq_left, exists_eq', exists_eq, exists_and_left, exists_and_right, and_assoc, List.cons.injEq, V.str.injEq, V.ref.injEq, V.bl.injEq, V.int.injEq, V.ty.injEq, and_true, true_and, reduceCtorEq, false_and, and_false,
  Bool.not_true, Bool.not_false, Bool.false_eq_true, reduceIte, Bool.not_eq_true', decide_eq_true_eq, upd_same, cx_K, HO.ins.injEq, HO.tup.injEq, HO.lst.injEq, HO.dK.injEq, lk_Run_old, lk_Run_then, lk_Run_names, lm_Run_str, lk_Lead_tests, lk_Lead_old, lk_Lead_then, lk_Lead_names, lm_Lead_str, lk_Join_here, lk_Join_came, lk_Join_then, lk_Join_names, lm_Join_str, lk_Tool_marks, lk_Tool_told, lk_Tool_parts, lk_Tool_clears, lk_Tool_rows, lk_Tool_blank, lm_Tool_need_mark, lm_Tool_is_told, lm_Tool_ran, lm_Tool_led, lm_Tool_joined, lm_Tool_keeps, lm_Tool_need_row, lm_Tool_but, lm_Tool_without, lm_Tool_heeding, lm_Tool_len, lm_Tool_eq, lm_Tool_str, lk_Single_tool, lk_Single_begin, lm_Single_machine_steps, lm_Single_led, lm_Single_joined, lk_Ways_steps, lk_Ways_machine, lk_Ways_coming, lk_Ways_hearings, lk_Ways_elders, lm_Ways_edited, lm_Ways_heard, lk_Meeting_hearings, lk_Meeting_item, lk_Meeting_deeds, lk_Meeting_waiting, lk_Told_steps, lk_Told_machine, lk_Told_coming, lk_Told_hearings, lm_Told_is_closed, *])
open TL in
theorem text_run {old th : Str} : Txt.join " " ["run", old] ++ " to " ++ th = (RowD.run old th).text := by
  refine ext_tl ?_
  show tl (Txt.join " " ["run", old] ++ " to " ++ th : Str) = tl (Str.empty ++ "run " ++ old ++ " to " ++ th : Str)
  rw [tl_append, tl_append, join_eq, tl_join]
  show (tl "run" ++ (tl " " ++ tl old)) ++ tl " to " ++ tl th = _
  simp only [tl_append, List.append_assoc]
  rfl
open TL in
theorem text_join {h c th : Str} : Txt.join " " ["join", h, c] ++ " to " ++ th = (RowD.join h c th).text := by
  refine ext_tl ?_
  show tl (Txt.join " " ["join", h, c] ++ " to " ++ th : Str) = tl (Str.empty ++ "join " ++ h ++ " " ++ c ++ " to " ++ th : Str)
  rw [tl_append, tl_append, join_eq, tl_join]
  show (tl "join" ++ (tl " " ++ (tl h ++ (tl " " ++ tl c)))) ++ tl " to " ++ tl th = _
  simp only [tl_append, List.append_assoc]
  rfl
open TL in
theorem text_lead {ts : List Str} {old th : Str} : "lead " ++ askedOf ts ++ " " ++ old ++ " to " ++ th = (RowD.lead ts old th).text := by
  refine ext_tl ?_
  show tl ("lead " ++ askedOf ts ++ " " ++ old ++ " to " ++ th : Str) = tl (Str.empty ++ "lead " ++ askedOf ts ++ " " ++ old ++ " to " ++ th : Str)
  simp only [tl_append, List.append_assoc]
  rfl
theorem t6_ok : ∀ t ∈ tests6, okS t := by unfold okS; decide +kernel
theorem sz1000 : 1000 ≤ sizeLine := by decide
section
variable {P : Program} {w : World} {K : PySem.W.Frag} {mg : Str → Option Value} {base : Heap}
/-! ### _law_tool_text -/
theorem DrawnAt.same {H H' : Hp} {p : Addr} {m t q : List Str} {b : Bool} {ds : List RowD} (h : DrawnAt H p m t q b ds) (s : Same H H') : DrawnAt H' p m t q b ds := by
  obtain ⟨am, aT, aq, ar, us, h1, h2, h3, h4, h5, h6⟩ := h
  exact ⟨am, aT, aq, ar, us, s _ _ h1, s _ _ h2, s _ _ h3, s _ _ h4, s _ _ h5, h6.imm (Imm.of_same s)⟩
theorem line_step {w : Str} {ws : List Str} {H : Hp} {a : Addr} {Rest : List Str → Hp → Prop} (ha : H a = some (.lst (sv ws))) (lo : LineOk w ws) (k : ∀ H', Same H H' → Rest (w :: ws) H') : ∀ p, H p = none → rCat (.ref p) (.ref a) (upd H p (.lst [.str w])) fun y H2 =>
    ∃ x, y = V.ref x ∧ ∃ x_1 : List Str, (SqL K H2 x (x_1.map V.str) ∨ SqT K H2 x (x_1.map V.str)) ∧ (x_1.map fun x => x.length).sum + x_1.length * (Str.ofString " ").length ≤ 16777216 ∧ Rest x_1 H2 := fun p hp => by
  have s1 := same_new (o := .lst [.str w]) hp
  have few := lo.few
  refine ⟨p, a, [.str w], sv ws, rfl, rfl, upd_same, s1 _ _ ha, by rw [sv_len]; exact len_ok (by show 1 + ws.length ≤ 1000; omega), fun p2 hp2 => ⟨p2, rfl, w :: ws, .inl (SqL.of upd_same), ?_, k _ (s1.trans (same_new hp2))⟩⟩
  have cost := sum_map_le lo.short
  have e1 : (" " : Str).length = 1 := by decide
  rw [e1]
  rw [List.length_cons] at cost ⊢
  omega
def spToolText : Sp := fun vs H Q _ => ∃ p m t q b ds, vs = [.ref p] ∧ DrawnAt H p m t q b ds ∧ ArgsOk m t q ds ∧ ∀ H', Same H H' → Q (.str (textT m t q b ds)) H'
theorem sc_tool_text : FnScope ["_law_tool_here", "_law_marks", "_law_told", "_law_parts", "_law_clears", "_law_rows", "_law_lines", "_law_row", "_law_asked"] ["_law_tool_here"] (defScope st_law_tool_text) := ⟨rfl, rfl, rfl, by decide +kernel, rfl, by decide +kernel, by decide +kernel⟩
def TtI (H0 : Hp) (p am aT aq ar ln : Addr) (b : Bool) (L : List Str) (ds : List RowD) (j : Nat) (σ : L2.St) (H' : Hp) : Prop := ∃ v7 v8, σ = [some (.ref p), some (.ref am), some (.ref aT), some (.ref aq), some (.bl b), some (.ref ar), some (.ref ln), v7, v8] ∧ Same H0 H' ∧ H' ln = some (.lst (sv (L ++ (ds.take j).map RowD.text)))
theorem x_tool_text (T : Tx w K mg) : FX P w K mg base 1 "_law_tool_text" ["_law_tool_here"] spToolText := by
  obtain ⟨fd, F⟩ := fun_law_tool_text T.c
  refine FX.of F T.g_law_tool_text sc_tool_text (fun _ _ _ _ _ _ us hl => match us, hl with | [_], _ => rfl) (fun vs H Q E h => ?_) (fun cdv A outer s H vs Q E hr h => ?_)
  · obtain ⟨p, m, t, q, b, ds, rfl, _⟩ := h
    rfl
  · obtain ⟨p, m, t, q, b, ds, rfl, hd, lo, k⟩ := h
    obtain ⟨am, aT, aq, ar, us, h1, h2, h3, h4, h5, h6⟩ := hd
    refine ⟨_, (pss_cons (ps_asg (pv 0) (pg_tup (n := 5) rfl (pgs_cons (pg_name (i := 1) sc_tool_text.nd rfl (Or.inl rfl)) (pgs_cons (pg_name (i := 2) sc_tool_text.nd rfl (Or.inl rfl)) (pgs_cons (pg_name (i := 3) sc_tool_text.nd rfl (Or.inl rfl)) (pgs_cons (pg_name (i := 4) sc_tool_text.nd rfl (Or.inl rfl)) (pgs_cons (pg_name (i := 5) sc_tool_text.nd rfl (Or.inl rfl)) pgs_nil)))))))
      (pss_cons (ps_set (i := 6) sc_tool_text.nd rfl (Or.inl rfl) (pe_lst (pa_cons (pe_join pe_str (pe_op op_cat (pe_lst (pa1 pe_str)) (pv 1))) (pa2 (pe_join pe_str (pe_op op_cat (pe_lst (pa1 pe_str)) (pv 2))) (pe_join pe_str (pe_op op_cat (pe_lst (pa1 pe_str)) (pv 3)))))))
      (pss_cons (ps_expr (pe_bm PySem.F.plainAttrs_list PySem.F.slot_list_append PySem.F.type_list_append mt_append (pv 6) (pa1 (pe_ifExp (pt_val (pv 4)) pe_str pe_str))))
      (pss_cons (ps_for PassesOwn.never rfl (pi_list (pv 5)) (pg_name (i := 7) sc_tool_text.nd rfl (Or.inl rfl)) (pss_one (ps_if (pt_cmpR op_eq (pe_ix ix_tup (pv 7) pe_int (fun _ _ => rfl)) pe_str (nomark _)) (pss_cons (ps_set (i := 8) sc_tool_text.nd rfl (Or.inl rfl) (pe_ifExp (pt_cmpR (op_neD (room64 hr)) (pe_ix ix_tup (pv 7) pe_int (fun _ _ => rfl)) (pe_tup pa_nil) (nomark _)) (pe_join pe_str (pe_ix ix_tup (pv 7) pe_int (fun _ _ => rfl))) pe_str))
      (pss_one (ps_expr (pe_bm PySem.F.plainAttrs_list PySem.F.slot_list_append PySem.F.type_list_append mt_append (pv 6) (pa1 (pe_op op_add_str (pe_op op_add_str (pe_op op_add_str (pe_op op_add_str (pe_op op_add_str pe_str (pv 8)) pe_str) (pe_ix ix_tup (pv 7) pe_int (fun _ _ => rfl))) pe_str) (pe_ix ix_tup (pv 7) pe_int (fun _ _ => rfl)))))))) (pss_one (ps_expr (pe_bm PySem.F.plainAttrs_list PySem.F.slot_list_append PySem.F.type_list_append mt_append (pv 6) (pa1 (pe_op op_add_str (pe_op op_add_str (pe_join pe_str (pe_slice sl_tup (pv 7) po_none (po_some (pe_un un_neg pe_int)))) pe_str) (pe_ix ix_tup (pv 7) (pe_un un_neg pe_int) (fun _ _ => rfl))))))))))
      (pss_one (ps_ret (pe_join pe_str (pv 6)))))))), ?_⟩
    walk_at "rd"
    refine ⟨_, SqT.of h1, rfl, _, _, rfl, _, _, rfl, _, _, rfl, _, _, rfl, _, _, rfl, rfl, ?_⟩
    refine ⟨by decide, line_step h2 lo.lm fun H1 s1 => ⟨by decide, line_step (s1 _ _ h3) lo.lt fun H2 s2 => ⟨by decide, line_step ((s1.trans s2) _ _ h4) lo.lp fun H3 s3 => ⟨by decide, fun ln hln => ?_⟩⟩⟩⟩
    have s03 := (s1.trans s2).trans s3
    have sl := same_new (o := .lst [V.str (lineW "marks" m), V.str (lineW "told" t), V.str (lineW "parts" q)]) hln
    have hln0 : H ln = none := s03.free hln
    have s04 := s03.trans sl
    have e4 : upd H3 ln (.lst [V.str (lineW "marks" m), V.str (lineW "told" t), V.str (lineW "parts" q)]) ln = some (.lst [V.str (lineW "marks" m), V.str (lineW "told" t), V.str (lineW "parts" q)]) := upd_same
    refine ⟨.inl ⟨rfl, _, SqL.of e4⟩, b, rfl, ?_⟩
    have hh : ∀ o, Same H (upd (upd H3 ln (.lst [V.str (lineW "marks" m), V.str (lineW "told" t), V.str (lineW "parts" q)])) ln o) := fun o b2 o2 eb => by
      rw [upd_ne (ne_of_none eb hln0)]
      exact s04 _ _ eb
    have h55 : ∀ o, upd (upd H3 ln (.lst [V.str (lineW "marks" m), V.str (lineW "told" t), V.str (lineW "parts" q)])) ln o ar = some (.lst us) := fun o => hh o _ _ h5
    rcases b with _ | _
    · refine iteN (by decide) ⟨by decide, ar, rfl, ⟨us, SqL.of (h55 _)⟩, ?_⟩
      have s5 := hh (.lst [V.str (lineW "marks" m), V.str (lineW "told" t), V.str (lineW "parts" q), V.str (sendT false)])
      have e5 : upd (upd H3 ln (.lst [V.str (lineW "marks" m), V.str (lineW "told" t), V.str (lineW "parts" q)])) ln (.lst [V.str (lineW "marks" m), V.str (lineW "told" t), V.str (lineW "parts" q), V.str (sendT false)]) ln = some (.lst (sv ([lineW "marks" m, lineW "told" t, lineW "parts" q, sendT false] ++ (ds.take 0).map RowD.text))) := upd_same
      refine for_it (walk_list (xs := us)) (TtI H p am aT aq ar ln false [lineW "marks" m, lineW "told" t, lineW "parts" q, sendT false] ds) ⟨none, none, rfl, s5, e5⟩ (fun j σ H' _ ⟨_, _, _, sq, _⟩ => SqL.of (sq _ _ h5)) ?_ ?_
      · rintro j y σ6 H6 H6' hj ⟨v7, v8, rfl, s6, e6⟩ ⟨rfl, hy⟩
        obtain ⟨d, hdj, rv⟩ := pair_at h6 hy
        have rv6 := rv.imm (Imm.of_same s6)
        have hdm := List.mem_of_getElem? hdj
        have fine := lo.fine d hdm
        have jl : j < ds.length := (List.getElem?_eq_some_iff.mp hdj).1
        have sh := lo.short
        have tk : ([lineW "marks" m, lineW "told" t, lineW "parts" q, sendT false] ++ (ds.take (j + 1)).map RowD.text) = ([lineW "marks" m, lineW "told" t, lineW "parts" q, sendT false] ++ (ds.take j).map RowD.text) ++ [d.text] := by
          rw [take_snoc hdj, List.map_append, List.append_assoc]
          rfl
        have addl : ∀ {H7 : Hp}, Same H H7 → H7 ln = some (.lst (sv ([lineW "marks" m, lineW "told" t, lineW "parts" q, sendT false] ++ (ds.take j).map RowD.text))) → (sv ([lineW "marks" m, lineW "told" t, lineW "parts" q, sendT false] ++ (ds.take j).map RowD.text)).length < sizeLine ∧ ∀ v9, TtI H p am aT aq ar ln false [lineW "marks" m, lineW "told" t, lineW "parts" q, sendT false] ds (j + 1) [some (.ref p), some (.ref am), some (.ref aT), some (.ref aq), some (.bl false), some (.ref ar), some (.ref ln), some y, v9] (upd H7 ln (.lst (sv ([lineW "marks" m, lineW "told" t, lineW "parts" q, sendT false] ++ (ds.take j).map RowD.text) ++ [V.str d.text]))) := fun {H7} s7 e7 => by
          refine ⟨?_, fun v9 => ⟨_, _, rfl, fun b2 o2 eb => ?_, ?_⟩⟩
          · rw [sv_len, List.length_append, List.length_map, List.length_take]
            exact len_lt (by show 4 + _ ≤ 1000; omega)
          · rw [upd_ne (ne_of_none eb hln0)]
            exact s7 _ _ eb
          · rw [upd_same, tk]
            unfold sv
            rw [List.map_append (l₂ := [d.text])]
            rfl
        walk_at "rd"
        have c1 : (Str.ofString "lead ").length = 5 := by decide
        have c2 : (Str.ofString " ").length = 1 := by decide
        have c3 : (Str.ofString " to ").length = 4 := by decide
        have c4 : (Str.ofString "always").length = 6 := by decide
        have c5 : (Str.ofString " and ").length = 5 := by decide
        have c6 : (Str.ofString "run").length = 3 := by decide
        have c7 : (Str.ofString "join").length = 4 := by decide
        have sz := sz1000
        cases d with
        | run old th =>
          obtain ⟨a, rfl, ha⟩ := rv6
          have lo1 := isOld_len fine.1
          have lt1 := isNm_len fine.2
          refine ⟨a, rfl, _, SqT.of ha, .str "run", atI_nat (j := 0) rfl, rfl, iteN (fun e => absurd (V.str.inj e) (by decide +kernel)) ⟨.inl ⟨rfl, _, SqL.of e6⟩, a, _, rfl, SqT.of ha, (by show ¬ (HT.sIx 3 0 none = 0 ∧ HT.sIx 3 3 (some (-1)) = 3); decide), fun p2 hp2 => ?_⟩⟩
          have w2 := same_new (o := .tup (cutV [V.str "run", V.str old, V.str th] none (some (-1)))) hp2
          refine ⟨p2, rfl, ["run", old], .inr (SqT.of upd_same), ?_, ?_, a, rfl, _, SqT.of (w2 _ _ ha), .str th, rfl, th, rfl, ?_, ?_⟩
          · simp only [List.map_cons, List.map_nil, List.sum_cons, List.sum_nil, List.length_cons, List.length_nil]
            omega
          · have := text_run (old := old) (th := th) ▸ RowD.text_len fine
            simp only [lapp] at this
            omega
          · have := text_run (old := old) (th := th) ▸ RowD.text_len fine
            simp only [lapp] at this ⊢
            omega
          · obtain ⟨z1, z2⟩ := addl (s6.trans w2) (w2 _ _ e6)
            rw [text_run]
            exact ⟨_, w2 _ _ e6, z1, z2 _⟩
        | lead ts old th =>
          obtain ⟨a, ba, rfl, ha, hba⟩ := rv6
          have lo1 := isOld_len fine.2.2.1
          have lt1 := isNm_len fine.2.2.2
          have la := asked_len fine.1 fine.2.1
          have lac := asked_cost fine.1 fine.2.1
          have tx := text_lead (ts := ts) (old := old) (th := th)
          refine ⟨a, rfl, _, SqT.of ha, .str "lead", atI_nat (j := 0) rfl, rfl, iteP rfl ⟨a, rfl, _, SqT.of ha, .ref ba, atI_nat (j := 1) rfl, by decide, fun p2 hp2 => ?_⟩⟩
          have w2 := same_new (o := .tup []) hp2
          refine ne_tuples (l := ts) (m := []) encS (SqT.of (w2 _ _ hba)) (dp_strs _) (fun z hz => t6_ok z (fine.1 z hz)) (SqT.of upd_same) .nil (fun _ h => nomatch h) ⟨_, rfl, ?_⟩
          have s62 := s6.trans w2
          have ha2 := w2 _ _ ha
          have hba2 := w2 _ _ hba
          have e62 := w2 _ _ e6
          generalize upd H6' p2 (.tup []) = H7 at *
          obtain ⟨z1, z2⟩ := addl s62 e62
          have ends : ∀ A : Str, askedOf ts = A → A.length ≤ 100 →
              (Str.ofString "lead ").length + A.length ≤ sizeLine ∧ (Str.ofString "lead " ++ A).length + (Str.ofString " ").length ≤ sizeLine ∧ (Str.ofString "lead " ++ A ++ Str.ofString " ").length + old.length ≤ sizeLine ∧
              (Str.ofString "lead " ++ A ++ Str.ofString " " ++ old).length + (Str.ofString " to ").length ≤ sizeLine ∧ (Str.ofString "lead " ++ A ++ Str.ofString " " ++ old ++ Str.ofString " to ").length + th.length ≤ sizeLine ∧
              Str.ofString "lead " ++ A ++ Str.ofString " " ++ old ++ Str.ofString " to " ++ th = (RowD.lead ts old th).text := fun A eA hA => by
            simp only [lapp]
            refine ⟨by omega, by omega, by omega, by omega, by omega, ?_⟩
            rw [← eA]
            exact tx
          by_cases te : ts = []
          · subst te
            obtain ⟨b1, b2, b3, b4, b5, b6⟩ := ends "always" rfl (by decide)
            refine iteBF rfl ⟨.inl ⟨rfl, _, SqL.of e62⟩, b1, b2, a, rfl, _, SqT.of ha2, .str old, atI_nat (j := 2) rfl, old, rfl, b3, b4, a, rfl, _, SqT.of ha2, .str th, atI_nat (j := 3) rfl, th, rfl, b5, ?_⟩
            rw [b6]
            exact ⟨_, e62, z1, z2 _⟩
          · have eA : askedOf ts = Txt.join " and " ts := by
              unfold askedOf
              rw [if_pos (List.length_pos_iff.mpr te)]
            obtain ⟨b1, b2, b3, b4, b5, b6⟩ := ends _ eA (by rw [← eA]; exact la)
            refine iteBT (by rw [decide_eq_false te]; rfl) ⟨a, rfl, _, SqT.of ha2, .ref ba, atI_nat (j := 1) rfl, ba, rfl, ts, .inr (SqT.of hba2), ?_, .inl ⟨rfl, _, SqL.of e62⟩, b1, b2, a, rfl, _, SqT.of ha2, .str old, atI_nat (j := 2) rfl, old, rfl, b3, b4, a, rfl, _, SqT.of ha2, .str th, atI_nat (j := 3) rfl, th, rfl, b5, ?_⟩
            · have l7 : ("( and )" : Str).length = 7 := by decide
              rw [l7] at lac
              rw [c5]
              omega
            · rw [b6]
              exact ⟨_, e62, z1, z2 _⟩
        | join h9 cm th =>
          obtain ⟨a, rfl, ha⟩ := rv6
          have lo1 := isOld_len fine.1
          have lc1 := isOld_len fine.2.1
          have lt1 := isThen_len fine.2.2
          refine ⟨a, rfl, _, SqT.of ha, .str "join", atI_nat (j := 0) rfl, rfl, iteN (fun e => absurd (V.str.inj e) (by decide +kernel)) ⟨.inl ⟨rfl, _, SqL.of e6⟩, a, _, rfl, SqT.of ha, (by show ¬ (HT.sIx 4 0 none = 0 ∧ HT.sIx 4 4 (some (-1)) = 4); decide), fun p2 hp2 => ?_⟩⟩
          have w2 := same_new (o := .tup (cutV [V.str "join", V.str h9, V.str cm, V.str th] none (some (-1)))) hp2
          refine ⟨p2, rfl, ["join", h9, cm], .inr (SqT.of upd_same), ?_, ?_, a, rfl, _, SqT.of (w2 _ _ ha), .str th, rfl, th, rfl, ?_, ?_⟩
          · simp only [List.map_cons, List.map_nil, List.sum_cons, List.sum_nil, List.length_cons, List.length_nil]
            omega
          · have := text_join (h := h9) (c := cm) (th := th) ▸ RowD.text_len fine
            simp only [lapp] at this
            omega
          · have := text_join (h := h9) (c := cm) (th := th) ▸ RowD.text_len fine
            simp only [lapp] at this ⊢
            omega
          · obtain ⟨z1, z2⟩ := addl (s6.trans w2) (w2 _ _ e6)
            rw [text_join]
            exact ⟨_, w2 _ _ e6, z1, z2 _⟩
      · rintro σ6 H6 ⟨v7, v8, rfl, s6, e6⟩
        have ul : us.length = ds.length := (Paired.length h6).symm
        rw [ul, List.take_length] at e6
        walk_at "rd"
        refine ⟨linesT m t q false ds, .inl (SqL.of e6), ?_, k _ s6⟩
        exact Nat.le_trans (lo.text_len false).2 (by decide)
    · refine iteP rfl ⟨by decide, ar, rfl, ⟨us, SqL.of (h55 _)⟩, ?_⟩
      have s5 := hh (.lst [V.str (lineW "marks" m), V.str (lineW "told" t), V.str (lineW "parts" q), V.str (sendT true)])
      have e5 : upd (upd H3 ln (.lst [V.str (lineW "marks" m), V.str (lineW "told" t), V.str (lineW "parts" q)])) ln (.lst [V.str (lineW "marks" m), V.str (lineW "told" t), V.str (lineW "parts" q), V.str (sendT true)]) ln = some (.lst (sv ([lineW "marks" m, lineW "told" t, lineW "parts" q, sendT true] ++ (ds.take 0).map RowD.text))) := upd_same
      refine for_it (walk_list (xs := us)) (TtI H p am aT aq ar ln true [lineW "marks" m, lineW "told" t, lineW "parts" q, sendT true] ds) ⟨none, none, rfl, s5, e5⟩ (fun j σ H' _ ⟨_, _, _, sq, _⟩ => SqL.of (sq _ _ h5)) ?_ ?_
      · rintro j y σ6 H6 H6' hj ⟨v7, v8, rfl, s6, e6⟩ ⟨rfl, hy⟩
        obtain ⟨d, hdj, rv⟩ := pair_at h6 hy
        have rv6 := rv.imm (Imm.of_same s6)
        have hdm := List.mem_of_getElem? hdj
        have fine := lo.fine d hdm
        have jl : j < ds.length := (List.getElem?_eq_some_iff.mp hdj).1
        have sh := lo.short
        have tk : ([lineW "marks" m, lineW "told" t, lineW "parts" q, sendT true] ++ (ds.take (j + 1)).map RowD.text) = ([lineW "marks" m, lineW "told" t, lineW "parts" q, sendT true] ++ (ds.take j).map RowD.text) ++ [d.text] := by
          rw [take_snoc hdj, List.map_append, List.append_assoc]
          rfl
        have addl : ∀ {H7 : Hp}, Same H H7 → H7 ln = some (.lst (sv ([lineW "marks" m, lineW "told" t, lineW "parts" q, sendT true] ++ (ds.take j).map RowD.text))) → (sv ([lineW "marks" m, lineW "told" t, lineW "parts" q, sendT true] ++ (ds.take j).map RowD.text)).length < sizeLine ∧ ∀ v9, TtI H p am aT aq ar ln true [lineW "marks" m, lineW "told" t, lineW "parts" q, sendT true] ds (j + 1) [some (.ref p), some (.ref am), some (.ref aT), some (.ref aq), some (.bl true), some (.ref ar), some (.ref ln), some y, v9] (upd H7 ln (.lst (sv ([lineW "marks" m, lineW "told" t, lineW "parts" q, sendT true] ++ (ds.take j).map RowD.text) ++ [V.str d.text]))) := fun {H7} s7 e7 => by
          refine ⟨?_, fun v9 => ⟨_, _, rfl, fun b2 o2 eb => ?_, ?_⟩⟩
          · rw [sv_len, List.length_append, List.length_map, List.length_take]
            exact len_lt (by show 4 + _ ≤ 1000; omega)
          · rw [upd_ne (ne_of_none eb hln0)]
            exact s7 _ _ eb
          · rw [upd_same, tk]
            unfold sv
            rw [List.map_append (l₂ := [d.text])]
            rfl
        walk_at "rd"
        have c1 : (Str.ofString "lead ").length = 5 := by decide
        have c2 : (Str.ofString " ").length = 1 := by decide
        have c3 : (Str.ofString " to ").length = 4 := by decide
        have c4 : (Str.ofString "always").length = 6 := by decide
        have c5 : (Str.ofString " and ").length = 5 := by decide
        have c6 : (Str.ofString "run").length = 3 := by decide
        have c7 : (Str.ofString "join").length = 4 := by decide
        have sz := sz1000
        cases d with
        | run old th =>
          obtain ⟨a, rfl, ha⟩ := rv6
          have lo1 := isOld_len fine.1
          have lt1 := isNm_len fine.2
          refine ⟨a, rfl, _, SqT.of ha, .str "run", atI_nat (j := 0) rfl, rfl, iteN (fun e => absurd (V.str.inj e) (by decide +kernel)) ⟨.inl ⟨rfl, _, SqL.of e6⟩, a, _, rfl, SqT.of ha, (by show ¬ (HT.sIx 3 0 none = 0 ∧ HT.sIx 3 3 (some (-1)) = 3); decide), fun p2 hp2 => ?_⟩⟩
          have w2 := same_new (o := .tup (cutV [V.str "run", V.str old, V.str th] none (some (-1)))) hp2
          refine ⟨p2, rfl, ["run", old], .inr (SqT.of upd_same), ?_, ?_, a, rfl, _, SqT.of (w2 _ _ ha), .str th, rfl, th, rfl, ?_, ?_⟩
          · simp only [List.map_cons, List.map_nil, List.sum_cons, List.sum_nil, List.length_cons, List.length_nil]
            omega
          · have := text_run (old := old) (th := th) ▸ RowD.text_len fine
            simp only [lapp] at this
            omega
          · have := text_run (old := old) (th := th) ▸ RowD.text_len fine
            simp only [lapp] at this ⊢
            omega
          · obtain ⟨z1, z2⟩ := addl (s6.trans w2) (w2 _ _ e6)
            rw [text_run]
            exact ⟨_, w2 _ _ e6, z1, z2 _⟩
        | lead ts old th =>
          obtain ⟨a, ba, rfl, ha, hba⟩ := rv6
          have lo1 := isOld_len fine.2.2.1
          have lt1 := isNm_len fine.2.2.2
          have la := asked_len fine.1 fine.2.1
          have lac := asked_cost fine.1 fine.2.1
          have tx := text_lead (ts := ts) (old := old) (th := th)
          refine ⟨a, rfl, _, SqT.of ha, .str "lead", atI_nat (j := 0) rfl, rfl, iteP rfl ⟨a, rfl, _, SqT.of ha, .ref ba, atI_nat (j := 1) rfl, by decide, fun p2 hp2 => ?_⟩⟩
          have w2 := same_new (o := .tup []) hp2
          refine ne_tuples (l := ts) (m := []) encS (SqT.of (w2 _ _ hba)) (dp_strs _) (fun z hz => t6_ok z (fine.1 z hz)) (SqT.of upd_same) .nil (fun _ h => nomatch h) ⟨_, rfl, ?_⟩
          have s62 := s6.trans w2
          have ha2 := w2 _ _ ha
          have hba2 := w2 _ _ hba
          have e62 := w2 _ _ e6
          generalize upd H6' p2 (.tup []) = H7 at *
          obtain ⟨z1, z2⟩ := addl s62 e62
          have ends : ∀ A : Str, askedOf ts = A → A.length ≤ 100 →
              (Str.ofString "lead ").length + A.length ≤ sizeLine ∧ (Str.ofString "lead " ++ A).length + (Str.ofString " ").length ≤ sizeLine ∧ (Str.ofString "lead " ++ A ++ Str.ofString " ").length + old.length ≤ sizeLine ∧
              (Str.ofString "lead " ++ A ++ Str.ofString " " ++ old).length + (Str.ofString " to ").length ≤ sizeLine ∧ (Str.ofString "lead " ++ A ++ Str.ofString " " ++ old ++ Str.ofString " to ").length + th.length ≤ sizeLine ∧
              Str.ofString "lead " ++ A ++ Str.ofString " " ++ old ++ Str.ofString " to " ++ th = (RowD.lead ts old th).text := fun A eA hA => by
            simp only [lapp]
            refine ⟨by omega, by omega, by omega, by omega, by omega, ?_⟩
            rw [← eA]
            exact tx
          by_cases te : ts = []
          · subst te
            obtain ⟨b1, b2, b3, b4, b5, b6⟩ := ends "always" rfl (by decide)
            refine iteBF rfl ⟨.inl ⟨rfl, _, SqL.of e62⟩, b1, b2, a, rfl, _, SqT.of ha2, .str old, atI_nat (j := 2) rfl, old, rfl, b3, b4, a, rfl, _, SqT.of ha2, .str th, atI_nat (j := 3) rfl, th, rfl, b5, ?_⟩
            rw [b6]
            exact ⟨_, e62, z1, z2 _⟩
          · have eA : askedOf ts = Txt.join " and " ts := by
              unfold askedOf
              rw [if_pos (List.length_pos_iff.mpr te)]
            obtain ⟨b1, b2, b3, b4, b5, b6⟩ := ends _ eA (by rw [← eA]; exact la)
            refine iteBT (by rw [decide_eq_false te]; rfl) ⟨a, rfl, _, SqT.of ha2, .ref ba, atI_nat (j := 1) rfl, ba, rfl, ts, .inr (SqT.of hba2), ?_, .inl ⟨rfl, _, SqL.of e62⟩, b1, b2, a, rfl, _, SqT.of ha2, .str old, atI_nat (j := 2) rfl, old, rfl, b3, b4, a, rfl, _, SqT.of ha2, .str th, atI_nat (j := 3) rfl, th, rfl, b5, ?_⟩
            · have l7 : ("( and )" : Str).length = 7 := by decide
              rw [l7] at lac
              rw [c5]
              omega
            · rw [b6]
              exact ⟨_, e62, z1, z2 _⟩
        | join h9 cm th =>
          obtain ⟨a, rfl, ha⟩ := rv6
          have lo1 := isOld_len fine.1
          have lc1 := isOld_len fine.2.1
          have lt1 := isThen_len fine.2.2
          refine ⟨a, rfl, _, SqT.of ha, .str "join", atI_nat (j := 0) rfl, rfl, iteN (fun e => absurd (V.str.inj e) (by decide +kernel)) ⟨.inl ⟨rfl, _, SqL.of e6⟩, a, _, rfl, SqT.of ha, (by show ¬ (HT.sIx 4 0 none = 0 ∧ HT.sIx 4 4 (some (-1)) = 4); decide), fun p2 hp2 => ?_⟩⟩
          have w2 := same_new (o := .tup (cutV [V.str "join", V.str h9, V.str cm, V.str th] none (some (-1)))) hp2
          refine ⟨p2, rfl, ["join", h9, cm], .inr (SqT.of upd_same), ?_, ?_, a, rfl, _, SqT.of (w2 _ _ ha), .str th, rfl, th, rfl, ?_, ?_⟩
          · simp only [List.map_cons, List.map_nil, List.sum_cons, List.sum_nil, List.length_cons, List.length_nil]
            omega
          · have := text_join (h := h9) (c := cm) (th := th) ▸ RowD.text_len fine
            simp only [lapp] at this
            omega
          · have := text_join (h := h9) (c := cm) (th := th) ▸ RowD.text_len fine
            simp only [lapp] at this ⊢
            omega
          · obtain ⟨z1, z2⟩ := addl (s6.trans w2) (w2 _ _ e6)
            rw [text_join]
            exact ⟨_, w2 _ _ e6, z1, z2 _⟩
      · rintro σ6 H6 ⟨v7, v8, rfl, s6, e6⟩
        have ul : us.length = ds.length := (Paired.length h6).symm
        rw [ul, List.take_length] at e6
        walk_at "rd"
        refine ⟨linesT m t q true ds, .inl (SqL.of e6), ?_, k _ s6⟩
        exact Nat.le_trans (lo.text_len true).2 (by decide)
end
end Lm
set_option Elab.async false
set_option linter.all false
set_option maxRecDepth 100000
set_option maxHeartbeats 4000000
namespace Lm
open PySem PySem.Spec PyProof.Rows L2
local macro_rules | `(tactic| walk_at "rd") => `(tactic| simp (config := {failIfUnchanged := false}) only [tVar, tC, tIsN, tNotN, tB, tAnd, tOr, tNot, tAndV, tOrV, tNotV, tIf, tNext, tSeq, tBreak, tCont, tDrop, tRet, tRetN, tIfS, gName, gNil, gCons, gTup, tAsg, tPar,
  iList, iTup, iRng1, iRng2, r_tFor, tFmt, tJs, or_false, false_or, exists_false, r_tLc, r_tDc, bf, iSeq, r_wipe0, r_wipe1, tOp, tUn, rI, rI0, rU, rEq, rNe, tTest, tChain, tFld, sFld, tNil, tCons, tTup, tLst, tCall, tMeth, tMake, tCB, tNoPart, tPart, tSl, rIxL, rIxT, rIxQ, rSlQ, r_tLc2, tXGet, tXIn, tXNotIn, sXPut, tXSetd, tXDisp1, iKeysX, iItemsX, tFrz, tFrzE, tRetag, ClX.tCMeth, iEnum, gPr, gUnl, tDNewK, tMakeL, rIxD, cx_w, cx_P, rSlL, rIn, tBM0, tBM, rAppend, rExtend, rPop, rPopAt, rAny, rAll, tYes, iStr, rNewStrs, tM0, tM1, StX.tStar,
  L2.start, List.map_cons, List.map_nil, List.length_cons, List.length_nil, Nat.zero_add, Nat.reduceAdd, Nat.reduceSub, List.replicate_succ, List.replicate_zero, List.cons_append, List.nil_append, List.append_nil, List.set_cons_zero, List.set_cons_succ,
  List.getElem?_cons_zero, List.getElem?_cons_succ, Option.some.injEq, exists_eq_left', exists_eq_left, exists_eq', exists_eq, exists_and_left, exists_and_right, and_assoc, List.cons.injEq, V.str.injEq, V.ref.injEq, V.bl.injEq, V.int.injEq, V.ty.injEq, and_true, true_and, reduceCtorEq, false_and, and_false,
  Bool.not_true, Bool.not_false, Bool.false_eq_true, reduceIte, Bool.not_eq_true', decide_eq_true_eq, upd_same, cx_K, HO.ins.injEq, HO.tup.injEq, HO.lst.injEq, HO.dK.injEq, lk_Run_old, lk_Run_then, lk_Run_names, lm_Run_str, lk_Lead_tests, lk_Lead_old, lk_Lead_then, lk_Lead_names, lm_Lead_str, lk_Join_here, lk_Join_came, lk_Join_then, lk_Join_names, lm_Join_str, lk_Tool_marks, lk_Tool_told, lk_Tool_parts, lk_Tool_clears, lk_Tool_rows, lk_Tool_blank, lm_Tool_need_mark, lm_Tool_is_told, lm_Tool_ran, lm_Tool_led, lm_Tool_joined, lm_Tool_keeps, lm_Tool_need_row, lm_Tool_but, lm_Tool_without, lm_Tool_heeding, lm_Tool_len, lm_Tool_eq, lm_Tool_str, lk_Single_tool, lk_Single_begin, lm_Single_machine_steps, lm_Single_led, lm_Single_joined, lk_Ways_steps, lk_Ways_machine, lk_Ways_coming, lk_Ways_hearings, lk_Ways_elders, lm_Ways_edited, lm_Ways_heard, lk_Meeting_hearings, lk_Meeting_item, lk_Meeting_deeds, lk_Meeting_waiting, lk_Told_steps, lk_Told_machine, lk_Told_coming, lk_Told_hearings, lm_Told_is_closed])
local macro_rules | `(tactic| walk_at "rd*") => `(tactic| simp (config := {failIfUnchanged := false}) only [tVar, tC, tIsN, tNotN, tB, tAnd, tOr, tNot, tAndV, tOrV, tNotV, tIf, tNext, tSeq, tBreak, tCont, tDrop, tRet, tRetN, tIfS, gName, gNil, gCons, gTup, tAsg, tPar,
  iList, iTup, iRng1, iRng2, r_tFor, tFmt, tJs, or_false, false_or, exists_false, r_tLc, r_tDc, bf, iSeq, r_wipe0, r_wipe1, tOp, tUn, rI, rI0, rU, rEq, rNe, tTest, tChain, tFld, sFld, tNil, tCons, tTup, tLst, tCall, tMeth, tMake, tCB, tNoPart, tPart, tSl, rIxL, rIxT, rIxQ, rSlQ, r_tLc2, tXGet, tXIn, tXNotIn, sXPut, tXSetd, tXDisp1, iKeysX, iItemsX, tFrz, tFrzE, tRetag, ClX.tCMeth, iEnum, gPr, gUnl, tDNewK, tMakeL, rIxD, cx_w, cx_P, rSlL, rIn, tBM0, tBM, rAppend, rExtend, rPop, rPopAt, rAny, rAll, tYes, iStr, rNewStrs, tM0, tM1, StX.tStar,
  L2.start, List.map_cons, List.map_nil, List.length_cons, List.length_nil, Nat.zero_add, Nat.reduceAdd, Nat.reduceSub, List.replicate_succ, List.replicate_zero, List.cons_append, List.nil_append, List.append_nil, List.set_cons_zero, List.set_cons_succ,
  List.getElem?_cons_zero, List.getElem?_cons_succ, Option.some.injEq, exists_eq_left', exists_eq_left, exists_eq', exists_eq, exists_and_left, exists_and_right, and_assoc, List.cons.injEq, V.str.injEq, V.ref.injEq, V.bl.injEq, V.int.injEq, V.ty.injEq, and_true, true_and, reduceCtorEq, false_and, and_false,
  Bool.not_true, Bool.not_false, Bool.false_eq_true, reduceIte, Bool.not_eq_true', decide_eq_true_eq, upd_same, cx_K, HO.ins.injEq, HO.tup.injEq, HO.lst.injEq, HO.dK.injEq, lk_Run_old, lk_Run_then, lk_Run_names, lm_Run_str, lk_Lead_tests, lk_Lead_old, lk_Lead_then, lk_Lead_names, lm_Lead_str, lk_Join_here, lk_Join_came, lk_Join_then, lk_Join_names, lm_Join_str, lk_Tool_marks, lk_Tool_told, lk_Tool_parts, lk_Tool_clears, lk_Tool_rows, lk_Tool_blank, lm_Tool_need_mark, lm_Tool_is_told, lm_Tool_ran, lm_Tool_led, lm_Tool_joined, lm_Tool_keeps, lm_Tool_need_row, lm_Tool_but, lm_Tool_without, lm_Tool_heeding, lm_Tool_len, lm_Tool_eq, lm_Tool_str, lk_Single_tool, lk_Single_begin, lm_Single_machine_steps, lm_Single_led, lm_Single_joined, lk_Ways_steps, lk_Ways_machine, lk_Ways_coming, lk_Ways_hearings, lk_Ways_elders, lm_Ways_edited, lm_Ways_heard, lk_Meeting_hearings, lk_Meeting_item, lk_Meeting_deeds, lk_Meeting_waiting, lk_Told_steps, lk_Told_machine, lk_Told_coming, lk_Told_hearings, lm_Told_is_closed, *])
/-! ### repr of a tuple of texts, where nothing is under way -/
section
variable {prog : Program} {w : World} {A : Around} {E : Value → Shared → Prop} {s : Shared}
theorem in1_guards (A : Around) : A.in1.guards = A.guards := rfl
theorem deeper_guards (A : Around) (env : Env) : (A.deeper env).guards = A.guards := rfl
theorem repr_tup {a : Addr} {o : Obj} {items : Array Value} {n : Nat} {ts : List Str} {Q : Value → Shared → Prop} (hu : A.in1.units < cLine) (hg : A.guards = some []) (ha : s.heap.get? a = some o) (hc : o.cls = .type "tuple") (hd : o.data = .seq items n)
    (hT : ReprAll prog w items.toList ts) (hz : (tupleText ts).length ≤ sizeLine) (h : ∀ u tk, Q (.str (tupleText ts) u) { s with toks := tk }) : wpAny (model prog w) A (call (.builtin "repr") [.ref a]) Q E s := by
  have hy : s.TypeIs (.ref a) "tuple" := ⟨o, ha, hc⟩
  refine Calls.call_function_entry PySem.F.kind_repr PySem.F.plain_repr PySem.F.entry_repr (PySem.F.args_repr1 _) ?_
  unfold Builtin.«repr»
  refine wpAny_bind (m := oneArg "repr" _) (wpAny_pure (wpAny_bind (wpAny_cRoomFor hu ?_)))
  refine wpAny_bind (wpAny_specialOf (name := Str.ofString "__repr__") hy PySem.F.slot_tuple_repr.lookup ?_)
  refine wpAny_bind (m := callSpecialIfBound? (.ref a) (Str.ofString "__repr__")) (wpAny_callSpecialIfBound?_slotG (name := Str.ofString "__repr__") hy PySem.F.slot_tuple_repr
    (call_tuple_repr hy (A := A.in1) (g := []) hg (fun c hc => nomatch hc) ha hd hT (fun u tk => ?_) hz))
  exact wpAny_bind (wpAny_isInstance (T := "str") (b := true) rfl isSubtype_str_str (wpAny_pure ⟨_, rfl, h u tk⟩))
end
/-- repr of None, of a tuple of texts -/
def reprT : Option (List Str) → Str
  | none => "None"
  | some l => tupleText (l.map reprText)
section
variable {X : Cx}
def ResAt (H : Hp) (v : V) : Option (List Str) → Prop
  | none => v = .non
  | some l => ∃ a, v = .ref a ∧ H a = some (.tup (sv l))
theorem parts_rep : ∀ y ∈ partsL, (reprText y).length ≤ 50 := by decide +kernel
theorem parts_piled : ∀ {l : List Str}, (∀ y ∈ l, y ∈ partsL) → piled (l.map reprText) ≤ l.length * 60
  | [], _ => Nat.zero_le _
  | y :: r, hp => by
    have h1 := parts_rep y (hp y List.mem_cons_self)
    have h2 := parts_piled (l := r) fun z hz => hp z (List.mem_cons_of_mem _ hz)
    rw [List.map_cons, piled_cons, List.length_cons, Nat.succ_mul]
    omega
theorem cr_repr {k : Nat} (hr : Room k X.A) (hg : X.A.guards = some []) : CallR X (.builtin "repr") (fun xs H Q => ∃ v r, xs = [v] ∧ ResAt H v r ∧ (∀ l, r = some l → (∀ y ∈ l, y ∈ partsL) ∧ l.length ≤ 3) ∧ Q (.str (reprT r)) H) := by
  intro pins s σ H xs us Q I r h
  obtain ⟨v, o, rfl, hv, hs, q⟩ := h
  obtain ⟨u, rfl, ru⟩ := vals1 r
  cases o with
  | none =>
    have hv : v = .non := hv
    subst hv
    obtain rfl : u = Value.none := ru
    exact PySem.P.repr_of_none ⟨.str _, H, I.tok _, ⟨_, rfl⟩, q⟩
  | some l =>
    obtain ⟨a, rfl, ha⟩ := hv
    obtain rfl : u = Value.ref a := ru
    obtain ⟨hp, hl⟩ := hs l rfl
    obtain ⟨its, rv, ⟨ob, ho, hcl, n, hd⟩, _⟩ := I.tuple (SqT.of (K := X.K) ha)
    have pz := parts_piled hp
    have hx := fmt_text (l.map reprText)
    have hun := hr.units
    refine repr_tup (ts := l.map reprText) (by show X.A.units + 1 < cLine; omega) hg ho hcl hd (repr_all rv fun y hy => Nat.le_trans (parts_rep y (hp y hy)) (by decide)) (Nat.le_trans hx (Nat.le_trans (Nat.add_le_add_right pz 2) (Nat.le_trans (by omega : l.length * 60 + 2 ≤ 1000) sz1000))) fun u tk => ⟨.str _, H, I.tok _, ⟨u, rfl⟩, q⟩
end
section
variable {P : Program} {w : World} {K : PySem.W.Frag} {mg : Str → Option Value} {base : Heap}
/-! ### _law_met -/
noncomputable def metL (d : ToolD) (l : List Str) : List Str := l.filter (hap d)
def spMet (K : PySem.W.Frag) : Sp := fun vs H Q _ => ∃ (t a : Addr) (d : ToolD) (l : List Str), vs = [.ref t, .ref a] ∧ ToolAt K H t d ∧ d.ok ∧ SqS K H a (sv l) ∧ l.length ≤ 100 ∧ (∀ f ∈ l, f ∈ faultsL) ∧ ∀ p H', Same H H' → H' p = some (.lst (sv (metL d l))) → Q (.ref p) H'
theorem sc_met : FnScope ["_law_made", "_law_wanted", "_law_found", "_law_word"] ["_law_made", "_law_wanted"] (defScope st_law_met) := ⟨rfl, rfl, rfl, by decide +kernel, rfl, by decide +kernel, by decide +kernel⟩
theorem x_met (T : Tx w K mg) : FX P w K mg base 10 "_law_met" ["_law_made", "_law_wanted"] (spMet K) := by
  obtain ⟨fd, F⟩ := fun_law_met T.c
  have G1 : FX P w K mg base 9 "faults" ["tool"] (spFaults K) := x_faults T
  refine FX.of F T.g_law_met sc_met (fun _ _ _ _ _ _ us hl => match us, hl with | [_, _], _ => rfl) (fun vs H Q E h => ?_) (fun cdv A outer s H vs Q E hr h => ?_)
  · obtain ⟨t, a, d, l, rfl, _⟩ := h
    rfl
  · obtain ⟨t, a, d, l, rfl, ht, ok, ha, hl, hf, k⟩ := h
    refine ⟨_, (pss_cons (ps_set (i := 2) sc_met.nd rfl (Or.inr rfl) (pc G1 hr (pa1 (pv 0))))
      (pss_one (ps_ret (plcI sc_met 3 (pi_seq (pv 1)) (fun _ _ _ _ _ => (pt_cmpR op_in_seq (pv 3) (pv 2) (by rfl))) (fun _ _ _ _ _ => (pv 3)))))), ?_⟩
    walk_at "rd"
    refine ⟨t, d, rfl, ht, ok, fun p H1 s1 e1 => ?_⟩
    walk_at "rd"
    have go : ∀ {J : It} {G : Hp → Prop}, Walk J (sv l).length G (YAt (sv l)) → (∀ H', Same H1 H' → G H') → ∀ D, H1 D = none → LcW J (gName 3) (tTest (tOp (rIn K false) (tVar 3) (tVar 2))) (tVar 3) [3] [some (V.ref t), some (V.ref a), some (V.ref p), none] H1 D fun H' => Q (V.ref D) H' := by
      intro J G wk hG D hD
      refine lcF wk rfl (by rw [sv_len]; omega) hD (fun v => hap d (vStr v)) id hG (fun x2 hx H2 s2 _ Ky Kn ky kn => ?_) fun H2 s2 e => ?_
      · obtain ⟨z, hzl, rfl⟩ := mem_sv hx
        walk_at "rd"
        refine ⟨_, .inr (SqT.of (s2 _ _ e1)), rfl, flat_sv _, ?_⟩
        rw [inV_str]
        cases hz : hap d z with
        | true =>
          rw [mem_any (List.mem_filter.mpr ⟨hf z hzl, hz⟩)]
          exact iteP rfl (ky hz _ (Same.refl _))
        | false =>
          have hn : ((faultsL.filter (hap d)).any fun y => decide (y = z)) = false := by
            rw [Bool.eq_false_iff]
            intro h
            have := (List.mem_filter.mp (any_mem h)).2
            rw [hz] at this; cases this
          rw [hn]
          exact iteN (by decide) (kn hz _ (Same.refl _))
      · refine k D _ (s1.trans s2) ?_
        rw [e]
        unfold metL sv
        rw [List.map_id, List.filter_map]
        rfl
    rcases Same.seqS s1 ha with h | h
    · exact .inl ⟨⟨_, h⟩, go walk_list fun H' s => s.seq h⟩
    · exact .inr ⟨⟨_, h⟩, go walk_tup fun H' s => Same.seqT s h⟩
end
end Lm
set_option Elab.async false
set_option linter.all false
set_option maxRecDepth 100000
set_option maxHeartbeats 4000000
/-! Ledmarks k83: sorted of tuples of texts. -/
namespace Lm
open PySem PySem.Spec PyProof.Rows L2
/-- a tuple of texts, by its texts and its place -/
abbrev TL2 : Type := List Str × Addr
def encT (b : TL2) : PyData := .tuple (b.1.map .str)
def leT (a b : TL2) : Bool := PySem.W.dataLe false encT a b
theorem encT_depth (b : TL2) : (encT b).depth ≤ 1 := by
  have : ∀ l : List Str, PyData.depthAll (l.map .str) = 0 := by
    intro l
    induction l with
    | nil => simp [PyData.depthAll]
    | cons x r ih => simp [PyData.depthAll, PyData.depth, ih]
  simp [encT, PyData.depth, this]
theorem alike_strs : ∀ xs ys : List Str, PySem.W.alikeAll (xs.map .str) (ys.map .str) = true
  | [], _ => by simp [PySem.W.alikeAll]
  | _ :: _, [] => by simp [PySem.W.alikeAll]
  | x :: xs, y :: ys => by
    show PySem.W.alikeAll (.str x :: xs.map .str) (.str y :: ys.map .str) = true
    rw [PySem.W.alikeAll, alike_strs xs ys]
    simp [PySem.W.alike]
theorem encT_alike (a b : TL2) : PySem.W.alike (encT a) (encT b) = true := by
  show PySem.W.alike (.tuple (a.1.map .str)) (.tuple (b.1.map .str)) = true
  rw [PySem.W.alike]
  exact alike_strs _ _
/-- one thing alone can be sorted -/
theorem sorts_one {prog : Program} {w : World} {A : Around} {s : Shared} {vs : List Value} {ds : List PyData} (e : PySem.W.EachIs (fun v d => ∃ as, Reads s.heap v d as) vs ds) (hal : PySem.W.AllAlike ds) (h1 : vs.length ≤ 1) (hn : ∀ d ∈ ds, d ≠ .none) (hu : ∀ d, d ∈ ds → A.units + d.depth < cLine) :
    PySem.W.SortsAt prog w A s (PySem.W.dataKind s.heap ds) vs := by
  refine ⟨fun v hv => ?_, general', ?_, fun h2 => absurd h2 (by omega)⟩
  · obtain ⟨d, hd, as, r⟩ := e.left v hv
    exact ⟨_, PySem.W.dataKind_some hal hd r⟩
  · intro E x y a b Q ha hb hq
    obtain ⟨d, as, hd, ra, rfl⟩ := PySem.W.dataKind_inv ha
    obtain ⟨d2, as2, hd2, rb, rfl⟩ := PySem.W.dataKind_inv hb
    show wpAny (model prog w) A (oneLt' false x y) Q E s
    exact PySem.W.oneLt_alike (fun z => nomatch z) ra rb (hal d hd d2 hd2) (hn d hd) (Nat.lt_of_le_of_lt (Nat.add_le_add_left (Nat.min_le_left _ _) _) (hu d hd)) hq
theorem reads_strs {h : Heap} : ∀ {l : List Str} {us : List Value}, Vals (sv l) us → ReadsAll h us (l.map .str) []
  | [], _, r => by cases r; exact .nil
  | y :: l, _, r => by
    cases r with
    | cons r1 r2 =>
      obtain ⟨t, rfl⟩ := r1
      exact .cons (.str _ _) (reads_strs r2)
theorem each_of_vals {bs : List TL2} : ∀ {us : List Value}, Vals (bs.map fun b => V.ref b.2) us → us = bs.map fun b => Value.ref b.2 := by
  induction bs with
  | nil => intro us h; cases h; rfl
  | cons b r ih =>
    intro us h
    cases h with
    | cons h1 h2 => rw [show _ = Value.ref b.2 from h1, ih h2]; rfl
theorem each_self {R : Value → TL2 → Prop} : ∀ {bs : List TL2}, (∀ b ∈ bs, R (Value.ref b.2) b) → PySem.W.EachIs R (bs.map fun b => Value.ref b.2) bs
  | [], _ => .nil
  | b :: r, h => .cons (h b List.mem_cons_self) (each_self fun x hx => h x (List.mem_cons_of_mem _ hx))
theorem each_ref {R : Value → TL2 → Prop} (hR : ∀ v e, R v e → v = Value.ref e.2) : ∀ {l : List Value} {m : List TL2}, PySem.W.EachIs R l m → l = m.map fun e => Value.ref e.2
  | _, _, .nil => rfl
  | _, _, .cons h t => by rw [hR _ _ h, each_ref hR t]; rfl
theorem vals_ref2 : ∀ (m : List TL2), Vals (m.map fun e => V.ref e.2) (m.map fun e => Value.ref e.2)
  | [] => .nil
  | _ :: m => .cons rfl (vals_ref2 m)
section
variable {X : Cx}
theorem cr_sortedT {k : Nat} (hr : Room k X.A) : CallR X (.builtin "sorted") (fun xs H Q => ∃ (a : Addr) (bs : List TL2), xs = [.ref a] ∧ SqL X.K H a (bs.map fun b => V.ref b.2) ∧ (∀ b ∈ bs, H b.2 = some (.tup (sv b.1))) ∧ bs.length ≤ 1000 ∧ ((∀ b ∈ bs, b.1 ≠ []) ∨ bs.length ≤ 1) ∧
    ∀ (cs : List TL2) (p : Addr), cs.Perm bs → cs.Pairwise (fun a b => leT a b = true) → H p = none → Q (.ref p) (upd H p (.lst (cs.map fun b => V.ref b.2)))) := by
  intro pins s σ H xs us Q I r q
  obtain ⟨a, bs, rfl, hs, hb, hl, hne, q⟩ := q
  obtain ⟨u, rfl, rx⟩ := vals1 r
  cases rx
  obtain ⟨its, rv, hpl, hlen⟩ := I.list hs
  obtain rfl := each_of_vals rv
  have rd : ∀ {h' : Heap}, (∀ b o, s.heap.get? b = some o → h'.get? b = some o) → ∀ b ∈ bs, ∃ as, Reads h' (Value.ref b.2) (encT b) as := fun {h'} hk b hm => by
    obtain ⟨_, its2, r2, o2, h1, h2, n2, h3⟩ := (show ObjOk X.prog X.w H s.heap b.2 (.tup (sv b.1)) from I.hok _ _ (hb b hm))
    exact ⟨_, .tuple (hk _ _ h1) h2 h3 (reads_strs r2)⟩
  have er0 : PySem.W.EachIs (fun v b => v = Value.ref b.2) (bs.map fun b => Value.ref b.2) bs := each_self fun b _ => rfl
  have er' : PySem.W.EachIs (fun v b => ∃ as, Reads (PySem.W.sortingHeap (PySem.W.copyHeap s.heap (bs.map fun b => Value.ref b.2)) (s.heap.objs.size + 1) (bs.map fun b => Value.ref b.2)) v (encT b) as) (bs.map fun b => Value.ref b.2) bs := each_self (rd fun _ _ => PySem.W.sorting_copy_old)
  have hal : PySem.W.AllAlike (bs.map encT) := PySem.W.AllAlike.of encT_alike
  have hun := hr.units
  have dep : ∀ d, d ∈ bs.map encT → X.A.in1.in1.units + d.depth < cLine := fun d hd => by
    obtain ⟨b, _, rfl⟩ := List.mem_map.mp hd
    have := encT_depth b
    show X.A.units + 1 + 1 + _ < _
    omega
  have S : PySem.W.SortsAt X.prog X.w X.A.in1.in1 { s with heap := PySem.W.sortingHeap (PySem.W.copyHeap s.heap (bs.map fun b => Value.ref b.2)) (s.heap.objs.size + 1) (bs.map fun b => Value.ref b.2) } (PySem.W.dataKind (PySem.W.sortingHeap (PySem.W.copyHeap s.heap (bs.map fun b => Value.ref b.2)) (s.heap.objs.size + 1) (bs.map fun b => Value.ref b.2)) (bs.map encT)) (bs.map fun b => Value.ref b.2) := by
    rcases hne with h | h
    · refine PySem.W.SortsAt.data (PySem.W.each_map _ er') hal (.inl fun d hd => ?_) dep
      obtain ⟨b, hm, rfl⟩ := List.mem_map.mp hd
      cases e : b.1 with
      | nil => exact absurd e (h b hm)
      | cons x r => exact ⟨.str x, r.map .str, by unfold encT; rw [e]; rfl⟩
    · refine sorts_one (PySem.W.each_map _ er') hal (by rw [List.length_map]; exact h) (fun d hd => ?_) dep
      obtain ⟨b, hm, rfl⟩ := List.mem_map.mp hd
      exact fun z => nomatch z
  refine PySem.W.sorted_vals hpl.isList S (by rw [List.length_map]; exact Nat.le_trans hl sz1000) ?_
  have eo := PySem.W.sortVals_data false er0 er' hal
  have eo2 := each_ref (fun _ _ z => z) eo
  rw [eo2]
  have perm : (bs.mergeSort (PySem.W.dataLe false encT)).Perm bs := List.mergeSort_perm _ _
  have pw : (bs.mergeSort (PySem.W.dataLe false encT)).Pairwise fun a b => leT a b = true := by
    unfold leT PySem.W.dataLe
    exact PySem.W.sort_pairwise (PySem.W.sortLe_total _ _ _) bs
  generalize bs.mergeSort (PySem.W.dataLe false encT) = cs at *
  obtain ⟨e9, he9⟩ := sortedAll_at s.heap (bs.map fun b => Value.ref b.2) (cs.map fun e => Value.ref e.2).toArray
  refine ⟨.ref (s.heap.objs.size + 1), upd H (s.heap.objs.size + 1) (.lst (cs.map fun b => V.ref b.2)), I.laid (t' := s.toks) (fun b u e => sortedAll_old e) (Nat.le_succ _) ⟨by rw [List.length_map, perm.length_eq]; exact Nat.le_trans hl sz1000, _, e9, vals_ref2 cs, by simpa using he9⟩, rfl, q cs _ perm pw (I.hok.fresh (Nat.le_succ _))⟩
end
end Lm
set_option Elab.async false
set_option linter.all false
set_option maxRecDepth 100000
set_option maxHeartbeats 4000000
namespace Lm
open PySem PySem.Spec PyProof.Rows L2
local macro_rules | `(tactic| walk_at "rd") => `(tactic| simp (config := {failIfUnchanged := false}) only [tVar, tC, tIsN, tNotN, tB, tAnd, tOr, tNot, tAndV, tOrV, tNotV, tIf, tNext, tSeq, tBreak, tCont, tDrop, tRet, tRetN, tIfS, gName, gNil, gCons, gTup, tAsg, tPar,
  iList, iTup, iRng1, iRng2, r_tFor, tFmt, tJs, or_false, false_or, exists_false, r_tLc, r_tDc, bf, iSeq, r_wipe0, r_wipe1, tOp, tUn, rI, rI0, rU, rEq, rNe, tTest, tChain, tFld, sFld, tNil, tCons, tTup, tLst, tCall, tMeth, tMake, tCB, tNoPart, tPart, tSl, rIxL, rIxT, rIxQ, rSlQ, r_tLc2, tXGet, tXIn, tXNotIn, sXPut, tXSetd, tXDisp1, iKeysX, iItemsX, tFrz, tFrzE, tRetag, ClX.tCMeth, iEnum, gPr, gUnl, tDNewK, tMakeL, rIxD, cx_w, cx_P, rSlL, rIn, tBM0, tBM, rAppend, rExtend, rPop, rPopAt, rAny, rAll, tYes, iStr, rNewStrs, tM0, tM1, StX.tStar,
  L2.start, List.map_cons, List.map_nil, List.length_cons, List.length_nil, Nat.zero_add, Nat.reduceAdd, Nat.reduceSub, List.replicate_succ, List.replicate_zero, List.cons_append, List.nil_append, List.append_nil, List.set_cons_zero, List.set_cons_succ,
  List.getElem?_cons_zero, List.getElem?_cons_succ, Option.some.injEq, exists_eq_left', exists_eq_left, exists_eq', exists_eq, exists_and_left, exists_and_right, and_assoc, List.cons.injEq, V.str.injEq, V.ref.injEq, V.bl.injEq, V.int.injEq, V.ty.injEq, and_true, true_and, reduceCtorEq, false_and, and_false,
  Bool.not_true, Bool.not_false, Bool.false_eq_true, reduceIte, Bool.not_eq_true', decide_eq_true_eq, upd_same, cx_K, HO.ins.injEq, HO.tup.injEq, HO.lst.injEq, HO.dK.injEq, lk_Run_old, lk_Run_then, lk_Run_names, lm_Run_str, lk_Lead_tests, lk_Lead_old, lk_Lead_then, lk_Lead_names, lm_Lead_str, lk_Join_here, lk_Join_came, lk_Join_then, lk_Join_names, lm_Join_str, lk_Tool_marks, lk_Tool_told, lk_Tool_parts, lk_Tool_clears, lk_Tool_rows, lk_Tool_blank, lm_Tool_need_mark, lm_Tool_is_told, lm_Tool_ran, lm_Tool_led, lm_Tool_joined, lm_Tool_keeps, lm_Tool_need_row, lm_Tool_but, lm_Tool_without, lm_Tool_heeding, lm_Tool_len, lm_Tool_eq, lm_Tool_str, lk_Single_tool, lk_Single_begin, lm_Single_machine_steps, lm_Single_led, lm_Single_joined, lk_Ways_steps, lk_Ways_machine, lk_Ways_coming, lk_Ways_hearings, lk_Ways_elders, lm_Ways_edited, lm_Ways_heard, lk_Meeting_hearings, lk_Meeting_item, lk_Meeting_deeds, lk_Meeting_waiting, lk_Told_steps, lk_Told_machine, lk_Told_coming, lk_Told_hearings, lm_Told_is_closed])
local macro_rules | `(tactic| walk_at "rd*") => `(tactic| simp (config := {failIfUnchanged := false}) only [tVar, tC, tIsN, tNotN, tB, tAnd, tOr, tNot, tAndV, tOrV, tNotV, tIf, tNext, tSeq, tBreak, tCont, tDrop, tRet, tRetN, tIfS, gName, gNil, gCons, gTup, tAsg, tPar,
  iList, iTup, iRng1, iRng2, r_tFor, tFmt, tJs, or_false, false_or, exists_false, r_tLc, r_tDc, bf, iSeq, r_wipe0, r_wipe1, tOp, tUn, rI, rI0, rU, rEq, rNe, tTest, tChain, tFld, sFld, tNil, tCons, tTup, tLst, tCall, tMeth, tMake, tCB, tNoPart, tPart, tSl, rIxL, rIxT, rIxQ, rSlQ, r_tLc2, tXGet, tXIn, tXNotIn, sXPut, tXSetd, tXDisp1, iKeysX, iItemsX, tFrz, tFrzE, tRetag, ClX.tCMeth, iEnum, gPr, gUnl, tDNewK, tMakeL, rIxD, cx_w, cx_P, rSlL, rIn, tBM0, tBM, rAppend, rExtend, rPop, rPopAt, rAny, rAll, tYes, iStr, rNewStrs, tM0, tM1, StX.tStar,
  L2.start, List.map_cons, List.map_nil, List.length_cons, List.length_nil, Nat.zero_add, Nat.reduceAdd, Nat.reduceSub, List.replicate_succ, List.replicate_zero, List.cons_append, List.nil_append, List.append_nil, List.set_cons_zero, List.set_cons_succ,
  List.getElem?_cons_zero, List.getElem?_cons_succ, Option.some.injEq, exists_eq_left', exists_eq_left, exists_eq', exists_eq, exists_and_left, exists_and_right, and_assoc, List.cons.injEq, V.str.injEq, V.ref.injEq, V.bl.injEq, V.int.injEq, V.ty.injEq, and_true, true_and, reduceCtorEq, false_and, and_false,
  Bool.not_true, Bool.not_false, Bool.false_eq_true, reduceIte, Bool.not_eq_true', decide_eq_true_eq, upd_same, cx_K, HO.ins.injEq, HO.tup.injEq, HO.lst.injEq, HO.dK.injEq, lk_Run_old, lk_Run_then, lk_Run_names, lm_Run_str, lk_Lead_tests, lk_Lead_old, lk_Lead_then, lk_Lead_names, lm_Lead_str, lk_Join_here, lk_Join_came, lk_Join_then, lk_Join_names, lm_Join_str, lk_Tool_marks, lk_Tool_told, lk_Tool_parts, lk_Tool_clears, lk_Tool_rows, lk_Tool_blank, lm_Tool_need_mark, lm_Tool_is_told, lm_Tool_ran, lm_Tool_led, lm_Tool_joined, lm_Tool_keeps, lm_Tool_need_row, lm_Tool_but, lm_Tool_without, lm_Tool_heeding, lm_Tool_len, lm_Tool_eq, lm_Tool_str, lk_Single_tool, lk_Single_begin, lm_Single_machine_steps, lm_Single_led, lm_Single_joined, lk_Ways_steps, lk_Ways_machine, lk_Ways_coming, lk_Ways_hearings, lk_Ways_elders, lm_Ways_edited, lm_Ways_heard, lk_Meeting_hearings, lk_Meeting_item, lk_Meeting_deeds, lk_Meeting_waiting, lk_Told_steps, lk_Told_machine, lk_Told_coming, lk_Told_hearings, lm_Told_is_closed, *])
/-! ### the plain law -/
def goodM (f : Str → Bool) (l : List Str) : Prop := ∀ z ∈ l, f z = false
theorem filter_nil_iff {α : Type} {p : α → Bool} {l : List α} : l.filter p = [] ↔ ∀ x ∈ l, p x = false := by
  rw [List.filter_eq_nil_iff]
  exact ⟨fun h x hx => Bool.eq_false_iff.mpr (h x hx), fun h x hx => by rw [h x hx]; exact Bool.false_ne_true⟩
theorem filter_eq_iff {α : Type} {p q : α → Bool} {l : List α} : l.filter p = l.filter q ↔ ∀ x ∈ l, p x = q x := by
  refine ⟨fun h x hx => ?_, List.filter_congr⟩
  rw [Bool.eq_iff_iff]
  have h1 : x ∈ l.filter p ↔ x ∈ l ∧ p x = true := List.mem_filter
  have h2 : x ∈ l.filter q ↔ x ∈ l ∧ q x = true := List.mem_filter
  rw [h] at h1
  exact ⟨fun hp => (h2.mp (h1.mpr ⟨hx, hp⟩)).2, fun hq => (h1.mp (h2.mpr ⟨hx, hq⟩)).2⟩
section
variable {d e : ToolD} {l : List Str}
theorem hapL_iff (hf : ∀ f ∈ l, f ∈ faultsL) : hapL d l = hapL e l ↔ ∀ f ∈ l, hap d f = hap e f := by
  unfold hapL
  rw [filter_eq_iff]
  refine ⟨fun h f hm => ?_, fun h f _ => ?_⟩
  · have := h f (hf f hm)
    rw [mem_any hm, Bool.and_true, Bool.and_true] at this
    exact this
  · cases e9 : (l.any fun y => decide (y = f)) with
    | false => rw [Bool.and_false, Bool.and_false]
    | true => rw [h f (any_mem e9)]
theorem hapL_nil (hf : ∀ f ∈ l, f ∈ faultsL) : hapL d l = [] ↔ ∀ f ∈ l, hap d f = false := by
  unfold hapL
  rw [filter_nil_iff]
  refine ⟨fun h f hm => ?_, fun h f _ => ?_⟩
  · have := h f (hf f hm)
    rw [mem_any hm, Bool.and_true] at this
    exact this
  · cases e9 : (l.any fun y => decide (y = f)) with
    | false => rw [Bool.and_false]
    | true => rw [h f (any_mem e9)]; rfl
theorem metL_iff : metL d l = metL e l ↔ ∀ f ∈ l, hap d f = hap e f := filter_eq_iff
theorem metL_nil : metL d l = [] ↔ ∀ f ∈ l, hap d f = false := filter_nil_iff
theorem met_hap (hf : ∀ f ∈ l, f ∈ faultsL) : decide (metL d l = metL e l) = decide (hapL d l = hapL e l) := decide_eq_decide.mpr (by rw [metL_iff, hapL_iff hf])
theorem met_hap0 (hf : ∀ f ∈ l, f ∈ faultsL) : decide (metL d l = []) = decide (hapL d l = []) := decide_eq_decide.mpr (by rw [metL_nil, hapL_nil hf])
end
/-! the sets of parts -/
def setsF : Nat → List (List Str)
  | 0 => [[]]
  | n + 1 => setsF n ++ (setsF n).map fun s => s ++ [partsL.getD n Str.empty]
def ordL : List (List Str) := (List.range 4).flatMap chooseL
def le1 (x y : List Str) : Bool := !PySem.W.dataLt (.tuple (y.map .str)) (.tuple (x.map .str))
theorem leT_eq (a b : TL2) : leT a b = le1 a.1 b.1 := rfl
theorem sets_ord : ∀ x ∈ setsF 3, x ∈ ordL := by decide +kernel
theorem ord_sets : ∀ x ∈ ordL, x ∈ setsF 3 := by decide +kernel
theorem ord_le : ∀ i, i < 8 → ∀ z ∈ ordL.take i, z.length < (ordL.getD i []).length ∨ (z.length = (ordL.getD i []).length ∧ le1 (ordL.getD i []) z = false) := by decide +kernel
theorem sets_parts : ∀ x ∈ setsF 3, (∀ y ∈ x, y ∈ partsL) ∧ x.length ≤ 3 := by decide +kernel
theorem ord_len : ordL.length = 8 := by decide +kernel
theorem best_find (d : ToolD) (l : List Str) : best d l = ordL.find? (goodB d l) := by
  unfold best ordL
  rw [List.find?_flatMap]
/-- none is right -/
theorem best_none {d : ToolD} {l : List Str} (h : (setsF 3).filter (goodB d l) = []) : best d l = none := by
  rw [best_find, List.find?_eq_none]
  intro x hx
  rw [filter_nil_iff.mp h x (ord_sets x hx)]
  exact Bool.false_ne_true
/-- the first of the fewest is what is found first -/
theorem best_some {d : ToolD} {l : List Str} {m : Nat} {cs : List (List Str)} (hm : ∀ x ∈ (setsF 3).filter (goodB d l), m ≤ x.length) (hc : cs.Perm (((setsF 3).filter (goodB d l)).filter fun x => decide (x.length = m))) (hs : cs.Pairwise fun a b => le1 a b = true) {ps : List Str} {r : List (List Str)} (e : cs = ps :: r) :
    best d l = some ps ∧ ps ∈ setsF 3 ∧ goodB d l ps = true := by
  subst e
  have h1 := hc.mem_iff.mp List.mem_cons_self
  obtain ⟨h2, h3⟩ := List.mem_filter.mp h1
  obtain ⟨h4, h5⟩ := List.mem_filter.mp h2
  have h3 := of_decide_eq_true h3
  refine ⟨?_, h4, h5⟩
  obtain ⟨i, hi⟩ := List.mem_iff_getElem?.mp (sets_ord ps h4)
  have hi8 : i < 8 := by rw [← ord_len]; exact (List.getElem?_eq_some_iff.mp hi).1
  have hg : ordL.getD i [] = ps := by rw [List.getD_eq_getElem?_getD, hi]; rfl
  rw [best_find]
  refine find_take (fun z hz => ?_) hi h5
  cases hf : goodB d l z with
  | false => rfl
  | true =>
    exfalso
    have hz3 := ord_sets z (List.mem_of_mem_take hz)
    have zm : z ∈ (setsF 3).filter (goodB d l) := List.mem_filter.mpr ⟨hz3, hf⟩
    have hml := hm z zm
    have hle := ord_le i hi8 z hz
    rw [hg] at hle
    rcases hle with h | ⟨h, h'⟩
    · omega
    · have zc := hc.mem_iff.mpr (List.mem_filter.mpr ⟨zm, decide_eq_true (by omega)⟩)
      rcases List.mem_cons.mp zc with e | zc
      · subst e
        have irr : ∀ x ∈ ordL, le1 x x = true := by decide +kernel
        rw [irr z (List.mem_of_mem_take hz)] at h'
        cases h'
      · have := (List.pairwise_cons.mp hs).1 z zc
        rw [h'] at this; cases this
/-- heeding all parts -/
theorem heed_all {d : ToolD} (ok : d.ok) : d.heed rndL = d := by
  have hr : ∀ r ∈ d.rows, heedR rndL r = some r := fun r hr => by
    have f := ok.fine r hr
    cases r with
    | run _ _ => rfl
    | join _ _ _ => rfl
    | lead ts old th =>
      have ht : ∀ t ∈ ts, hasP rndL (partOf t) = true ∧ (t = partOf t → hasP rndL t = true) := fun t h => (by decide +kernel : ∀ t ∈ tests6, hasP rndL (partOf t) = true ∧ (t = partOf t → hasP rndL t = true)) t (f.1 t h)
      have h1 : ts.any (fun t => isBare t && !hasP rndL t) = false := List.any_eq_false.mpr fun t hm => by
        cases hb : isBare t with
        | false => exact fun z => nomatch z
        | true => rw [(ht t hm).2 (of_decide_eq_true hb)]; exact fun z => nomatch z
      have h2 : ts.filter (fun t => hasP rndL (partOf t)) = ts := List.filter_eq_self.mpr fun t hm => (ht t hm).1
      show (if ts.any (fun t => isBare t && !hasP rndL t) then none else some (RowD.lead (ts.filter fun t => hasP rndL (partOf t)) old th)) = _
      rw [if_neg (by rw [h1]; decide), h2]
  unfold ToolD.heed ToolD.rowed
  have e : d.rows.filterMap (heedR rndL) = d.rows := by
    generalize d.rows = rs at hr
    induction rs with
    | nil => rfl
    | cons a r ih => rw [List.filterMap_cons, hr a List.mem_cons_self, ih fun x hx => hr x (List.mem_cons_of_mem _ hx)]
  rw [e]
end Lm
set_option Elab.async false
set_option linter.all false
set_option maxRecDepth 100000
set_option maxHeartbeats 4000000
namespace Lm
open PySem PySem.Spec PyProof.Rows L2
local macro_rules | `(tactic| walk_at "rd") => `(tactic| simp (config := {failIfUnchanged := false}) only [tVar, tC, tIsN, tNotN, tB, tAnd, tOr, tNot, tAndV, tOrV, tNotV, tIf, tNext, tSeq, tBreak, tCont, tDrop, tRet, tRetN, tIfS, gName, gNil, gCons, gTup, tAsg, tPar,
  iList, iTup, iRng1, iRng2, r_tFor, tFmt, tJs, or_false, false_or, exists_false, r_tLc, r_tDc, bf, iSeq, r_wipe0, r_wipe1, tOp, tUn, rI, rI0, rU, rEq, rNe, tTest, tChain, tFld, sFld, tNil, tCons, tTup, tLst, tCall, tMeth, tMake, tCB, tNoPart, tPart, tSl, rIxL, rIxT, rIxQ, rSlQ, r_tLc2, tXGet, tXIn, tXNotIn, sXPut, tXSetd, tXDisp1, iKeysX, iItemsX, tFrz, tFrzE, tRetag, ClX.tCMeth, iEnum, gPr, gUnl, tDNewK, tMakeL, rIxD, cx_w, cx_P, rSlL, rIn, tBM0, tBM, rAppend, rExtend, rPop, rPopAt, rAny, rAll, tYes, iStr, rNewStrs, tM0, tM1, StX.tStar,
  L2.start, List.map_cons, List.map_nil, List.length_cons, List.length_nil, Nat.zero_add, Nat.reduceAdd, Nat.reduceSub, List.replicate_succ, List.replicate_zero, List.cons_append, List.nil_append, List.append_nil, List.set_cons_zero, List.set_cons_succ,
  List.getElem?_cons_zero, List.getElem?_cons_succ, Option.some.injEq, exists_eq_left', exists_eq_left, exists_eq', exists_eq, exists_and_left, exists_and_right, and_assoc, List.cons.injEq, V.str.injEq, V.ref.injEq, V.bl.injEq, V.int.injEq, V.ty.injEq, and_true, true_and, reduceCtorEq, false_and, and_false,
  Bool.not_true, Bool.not_false, Bool.false_eq_true, reduceIte, Bool.not_eq_true', decide_eq_true_eq, upd_same, cx_K, HO.ins.injEq, HO.tup.injEq, HO.lst.injEq, HO.dK.injEq, lk_Run_old, lk_Run_then, lk_Run_names, lm_Run_str, lk_Lead_tests, lk_Lead_old, lk_Lead_then, lk_Lead_names, lm_Lead_str, lk_Join_here, lk_Join_came, lk_Join_then, lk_Join_names, lm_Join_str, lk_Tool_marks, lk_Tool_told, lk_Tool_parts, lk_Tool_clears, lk_Tool_rows, lk_Tool_blank, lm_Tool_need_mark, lm_Tool_is_told, lm_Tool_ran, lm_Tool_led, lm_Tool_joined, lm_Tool_keeps, lm_Tool_need_row, lm_Tool_but, lm_Tool_without, lm_Tool_heeding, lm_Tool_len, lm_Tool_eq, lm_Tool_str, lk_Single_tool, lk_Single_begin, lm_Single_machine_steps, lm_Single_led, lm_Single_joined, lk_Ways_steps, lk_Ways_machine, lk_Ways_coming, lk_Ways_hearings, lk_Ways_elders, lm_Ways_edited, lm_Ways_heard, lk_Meeting_hearings, lk_Meeting_item, lk_Meeting_deeds, lk_Meeting_waiting, lk_Told_steps, lk_Told_machine, lk_Told_coming, lk_Told_hearings, lm_Told_is_closed])
local macro_rules | `(tactic| walk_at "rd*") => `(tactic| simp (config := {failIfUnchanged := false}) only [tVar, tC, tIsN, tNotN, tB, tAnd, tOr, tNot, tAndV, tOrV, tNotV, tIf, tNext, tSeq, tBreak, tCont, tDrop, tRet, tRetN, tIfS, gName, gNil, gCons, gTup, tAsg, tPar,
  iList, iTup, iRng1, iRng2, r_tFor, tFmt, tJs, or_false, false_or, exists_false, r_tLc, r_tDc, bf, iSeq, r_wipe0, r_wipe1, tOp, tUn, rI, rI0, rU, rEq, rNe, tTest, tChain, tFld, sFld, tNil, tCons, tTup, tLst, tCall, tMeth, tMake, tCB, tNoPart, tPart, tSl, rIxL, rIxT, rIxQ, rSlQ, r_tLc2, tXGet, tXIn, tXNotIn, sXPut, tXSetd, tXDisp1, iKeysX, iItemsX, tFrz, tFrzE, tRetag, ClX.tCMeth, iEnum, gPr, gUnl, tDNewK, tMakeL, rIxD, cx_w, cx_P, rSlL, rIn, tBM0, tBM, rAppend, rExtend, rPop, rPopAt, rAny, rAll, tYes, iStr, rNewStrs, tM0, tM1, StX.tStar,
  L2.start, List.map_cons, List.map_nil, List.length_cons, List.length_nil, Nat.zero_add, Nat.reduceAdd, Nat.reduceSub, List.replicate_succ, List.replicate_zero, List.cons_append, List.nil_append, List.append_nil, List.set_cons_zero, List.set_cons_succ,
  List.getElem?_cons_zero, List.getElem?_cons_succ, Option.some.injEq, exists_eq_left', exists_eq_left, exists_eq', exists_eq, exists_and_left, exists_and_right, and_assoc, List.cons.injEq, V.str.injEq, V.ref.injEq, V.bl.injEq, V.int.injEq, V.ty.injEq, and_true, true_and, reduceCtorEq, false_and, and_false,
  Bool.not_true, Bool.not_false, Bool.false_eq_true, reduceIte, Bool.not_eq_true', decide_eq_true_eq, upd_same, cx_K, HO.ins.injEq, HO.tup.injEq, HO.lst.injEq, HO.dK.injEq, lk_Run_old, lk_Run_then, lk_Run_names, lm_Run_str, lk_Lead_tests, lk_Lead_old, lk_Lead_then, lk_Lead_names, lm_Lead_str, lk_Join_here, lk_Join_came, lk_Join_then, lk_Join_names, lm_Join_str, lk_Tool_marks, lk_Tool_told, lk_Tool_parts, lk_Tool_clears, lk_Tool_rows, lk_Tool_blank, lm_Tool_need_mark, lm_Tool_is_told, lm_Tool_ran, lm_Tool_led, lm_Tool_joined, lm_Tool_keeps, lm_Tool_need_row, lm_Tool_but, lm_Tool_without, lm_Tool_heeding, lm_Tool_len, lm_Tool_eq, lm_Tool_str, lk_Single_tool, lk_Single_begin, lm_Single_machine_steps, lm_Single_led, lm_Single_joined, lk_Ways_steps, lk_Ways_machine, lk_Ways_coming, lk_Ways_hearings, lk_Ways_elders, lm_Ways_edited, lm_Ways_heard, lk_Meeting_hearings, lk_Meeting_item, lk_Meeting_deeds, lk_Meeting_waiting, lk_Told_steps, lk_Told_machine, lk_Told_coming, lk_Told_hearings, lm_Told_is_closed, *])
section
variable {P : Program} {w : World} {K : PySem.W.Frag} {mg : Str → Option Value} {base : Heap}
/-! ### law -/
def spLaw (K : PySem.W.Frag) : Sp := fun vs H Q _ => ∃ (a : Addr) (ns : List Int), vs = [.ref a] ∧ SqL K H a (ns.map V.int) ∧ ns.length ≤ 63 ∧ ∀ H', Q (.bl true) H'
theorem sc_law : FnScope ["_law_script", "_law_deal_here", "_law_turn", "_law_made", "_law_wanted", "_law_sets", "_law_part", "_law_some", "_law_right", "_law_sizes", "_law_due", "_law_word", "_law_least", "_law_found", "_law_tools", "_law_at", "_law_spare", "_law_mends"] ["_law_script"] (defScope st_law) := ⟨rfl, rfl, rfl, by decide +kernel, rfl, by decide +kernel, by decide +kernel⟩
abbrev BodyOkG (P : Program) (w : World) (K : PySem.W.Frag) (mg : Str → Option Value) (base : Heap) (N : List Str) (qual : Str) (st : Stmt) (f : Addr) (k : Nat) (sp : Sp) : Prop :=
  ∀ (cdv : Value) (A : Around) (outer : List Env) (s : Shared) (H : Hp) (vs : List V) (Q : VK) (E : XK), A.guards = some [] → Room k (A.deeper (envOfC qual (defScope st) s.heap.objs.size f cdv)) → sp vs H Q E →
    ∃ t, PSs (cxOf CX0 P w K mg base N qual (defScope st) f cdv A outer s H E).nox (defBody st) t ∧ t { nx := fun _ H' => Q .non H', rt := Q } (start N vs) H
def LawI (a c g : Addr) (j : Nat) (σ : L2.St) (H' : Hp) : Prop := ∃ v2 v3 v4 v5 v6 v8 v9 v10 v11 v12 v13 v14 v16 v17, σ = [some (.ref a), some (.ref c), v2, v3, v4, v5, v6, none, v8, v9, v10, v11, v12, v13, v14, none, v16, v17] ∧ DealAt H' c g
theorem faults_ok : ∀ z ∈ faultsL, okS z := by unfold okS; decide +kernel
def SetI (a c x pw : Addr) (v2 v8 v9 v10 v11 v12 v13 v14 v16 v17 : Option V) (H0 : Hp) (j : Nat) (σ : L2.St) (H' : Hp) : Prop := ∃ ps us v6, σ = [some (.ref a), some (.ref c), v2, some (.ref x), some (.ref pw), some (.ref ps), v6, none, v8, v9, v10, v11, v12, v13, v14, none, v16, v17] ∧ Same H0 H' ∧ H' ps = some (.lst us) ∧ Paired (fun l v => TupS l v H') (setsF j) us
theorem TupS.imm {l : List Str} {v : V} {H H' : Hp} (h : TupS l v H) (i : Imm H H') : TupS l v H' := (let ⟨a, e, q⟩ := h; ⟨a, e, i _ _ rfl q⟩)
theorem TupS.same {l : List Str} {v : V} {H H' : Hp} (h : TupS l v H) (s : Same H H') : TupS l v H' := h.imm (Imm.of_same s)
theorem setsF_len : ∀ i, i ≤ 3 → (setsF i).length ≤ 8 ∧ ∀ l ∈ setsF i, l.length ≤ 3 := by decide +kernel
theorem paired_map_l {α β : Type} {f : α → β} {R : β → V → Prop} : ∀ {l : List α} {m : List V}, Paired (fun x v => R (f x) v) l m → Paired R (l.map f) m
  | _, _, .nil => .nil
  | _, _, .cons h t => .cons h (paired_map_l t)
theorem seq_r {t1 t2 : L2.TS} {D : Ends} {σ : L2.St} {H : Hp} (R : L2.St → Hp → Prop) (h1 : ∀ Nx : L2.St → Hp → Prop, (∀ σ H, R σ H → Nx σ H) → t1 { D with nx := Nx } σ H) (h2 : ∀ σ H, R σ H → t2 D σ H) : tSeq t1 t2 D σ H := h1 _ h2
theorem encTS : Enc (fun l : List Str => PyData.tuple (l.map .str)) (fun l => ∀ z ∈ l, okS z) where
  lay := fun l h => encS.layAll h
  dep := fun l => by
    have : ∀ l : List Str, PyData.depthAll (l.map .str) = 0 := by
      intro l
      induction l with
      | nil => simp [PyData.depthAll]
      | cons x r ih => simp [PyData.depthAll, PyData.depth, ih]
    simp [PyData.depth, this]
  eqv := fun l m => encS.all l m
theorem dp_tups {H : Hp} {ls : List (List Str)} {us : List V} (h : Paired (fun l v => TupS l v H) ls us) : DpAll K H us (ls.map fun l => PyData.tuple (l.map .str)) := by
  induction h with
  | nil => exact .nil
  | cons r t ih =>
    obtain ⟨b, rfl, e⟩ := r
    exact .cons (.tup (SqT.of e) (dp_strs _)) ih
theorem tups_bs {H : Hp} {ls : List (List Str)} {us : List V} (h : Paired (fun l v => TupS l v H) ls us) : ∃ bs : List TL2, us = bs.map (fun b => V.ref b.2) ∧ bs.map (·.1) = ls ∧ ∀ b ∈ bs, H b.2 = some (.tup (sv b.1)) := by
  induction h with
  | nil => exact ⟨[], rfl, rfl, fun _ h => nomatch h⟩
  | @cons l v ls us r t ih =>
    obtain ⟨b, rfl, e⟩ := r
    obtain ⟨bs, e1, e2, e3⟩ := ih
    refine ⟨(l, b) :: bs, by rw [e1]; rfl, by rw [List.map_cons, e2], fun x hx => ?_⟩
    rcases List.mem_cons.mp hx with q | hx
    · rw [q]; exact e
    · exact e3 x hx
theorem exists_min {α : Type} {f : α → Nat} : ∀ {l : List α}, l ≠ [] → ∃ x ∈ l, ∀ y ∈ l, f x ≤ f y
  | [], h => absurd rfl h
  | [x], _ => ⟨x, List.mem_cons_self, fun y hy => by rw [List.mem_singleton.mp hy]; exact Nat.le_refl _⟩
  | x :: y :: r, _ => by
    obtain ⟨z, hz, hm⟩ := exists_min (f := f) (l := y :: r) (by simp)
    by_cases h : f x ≤ f z
    · refine ⟨x, List.mem_cons_self, fun u hu => ?_⟩
      rcases List.mem_cons.mp hu with e | hu
      · rw [e]; exact Nat.le_refl _
      · exact Nat.le_trans h (hm u hu)
    · refine ⟨z, List.mem_cons_of_mem _ hz, fun u hu => ?_⟩
      rcases List.mem_cons.mp hu with e | hu
      · rw [e]; omega
      · exact hm u hu
theorem zero_one : ((setsF 3).filter fun l => decide (l.length = 0)).length ≤ 1 := by decide +kernel
theorem ResAt.same {H H' : Hp} {v : V} {r : Option (List Str)} (h : ResAt H v r) (s : Same H H') : ResAt H' v r := by
  cases r with
  | none => exact h
  | some l => exact (let ⟨a, e, q⟩ := h; ⟨a, e, s _ _ q⟩)
theorem pair_fwd {α β : Type} {R : α → β → Prop} {l : List α} {m : List β} (h : Paired R l m) : ∀ {i : Nat} {x : α}, l[i]? = some x → ∃ y, m[i]? = some y ∧ R x y := by
  induction h with
  | nil => intro i x h; cases i <;> cases h
  | cons r t ih =>
    intro i x h
    cases i with
    | zero => exact ⟨_, rfl, by rw [← Option.some.inj h]; exact r⟩
    | succ i => exact ih h
theorem metL_ok {d : ToolD} {W : List Str} (hf : ∀ f ∈ W, f ∈ faultsL) : ∀ z ∈ metL d W, okS z := fun z hz => faults_ok z (hf z (List.mem_filter.mp hz).1)
theorem iv_ints (l : List Nat) : iv l = (l.map fun n : Nat => (n : Int)).map V.int := by
  unfold iv
  rw [List.map_map]
  rfl
theorem ne_iv {H : Hp} {p q : Addr} {l : List Nat} {Q : VK} (h1 : H p = some (.tup (iv l))) (h2 : H q = some (.tup (iv l))) (k : Q (.bl false) H) : rNeD K (.ref p) (.ref q) H Q := by
  rw [iv_ints] at h1 h2
  refine ne_tuples (l := l.map fun n : Nat => (n : Int)) (m := l.map fun n : Nat => (n : Int)) encI (SqT.of h1) (dp_ints _) (fun _ _ => trivial) (SqT.of h2) (dp_ints _) (fun _ _ => trivial) ?_
  rw [decide_eq_true rfl]
  exact k
theorem b_law (T : Tx w K mg) (f : Addr) : BodyOkG P w K mg base ["_law_script", "_law_deal_here", "_law_turn", "_law_made", "_law_wanted", "_law_sets", "_law_part", "_law_some", "_law_right", "_law_sizes", "_law_due", "_law_word", "_law_least", "_law_found", "_law_tools", "_law_at", "_law_spare", "_law_mends"] "law" st_law f 12 (spLaw K) := by
  have G1 : FX P w K mg base 1 "_law_deal" ["_law_script", "_law_base"] (spDeal K) := x_deal T
  have G2 : FX P w K mg base 4 "_law_tool" ["_law_deal_here"] spTool := x_tool T
  have G3 : FX P w K mg base 1 "_law_tool_text" ["_law_tool_here"] spToolText := x_tool_text T
  have G4 : KX P w K mg base 10 "Tool" "read" ["cls", "text"] (spToolRead K) := x_Tool_read T
  have G5 : FX P w K mg base 2 "_law_mixed" ["_law_deal_here", "_law_some"] spMixed := x_mixed T
  have G6 : FX P w K mg base 1 "_law_draw" ["_law_deal_here", "_law_many"] spDraw := x_draw T
  have G7 : FX P w K mg base 10 "_law_met" ["_law_made", "_law_wanted"] (spMet K) := x_met T
  have G8 : MX P w K mg base 7 (He.ga K "Tool") "heeding" ["self", "parts"] (spHeeding K) := x_heeding T
  have G9 : FX P w K mg base 11 "least_parts" ["tool", "wanted"] (spLeastParts K) := x_least_parts T
  have Ga : FX P w K mg base 10 "paper" ["tool", "fault"] (spPaper K) := x_paper T
  have Gb : FX P w K mg base 7 "paper_holds" ["tool", "fault", "value"] (spHolds2 K) := x_paper_holds T
  have Gc : MX P w K mg base 7 (He.ga K "Tool") "without" ["self", "at"] (spWithout K) := x_without T
  have Gd : MX P w K mg base 1 (He.ga K "Tool") "__len__" ["self"] (spToolLen K) := x_Tool_len T
  have Ge : FX P w K mg base 11 "needless" ["tool", "wanted"] (spNeedless K hapL) := x_needless T
  have Gf : FX P w K mg base 11 "repairs" ["tool", "wanted"] (spNeedless K fun _ _ => []) := x_repairs T
  have Gg : MX P w K mg base 7 (He.ga K "Tool") "__eq__" ["self", "other"] (spToolEq K) := x_Tool_eq T
  have cs := ck_split T.c
  have mo : PySem.W.mroIn K (He.ga K "Tool") (.type "object") = some true := by
    have h := cs.2.2.2.2.2.2.2.2.2.2.2.2.2.1
    unfold isiB at h
    exact of_decide_eq_true (Bool.and_eq_true_iff.mp h).2
  have ne : PySem.W.findIn K (.ref (He.ga K "Tool")) "__ne__" = some (some (.builtin "object.__ne__")) := cs.2.2.2.2.2.2.2.2.2.2.2.2.2.2.2.2.2.2.2.2.2.2.2.2.2.2.2.2.2.1
  intro cdv A outer s H vs Q E hg hr h
  obtain ⟨a, ns, rfl, ha, hl, k⟩ := h
  refine ⟨_, (pss_cons (ps_set (i := 1) sc_law.nd rfl (Or.inl rfl) (pc G1 hr (pa2 (pv 0) pe_int)))
      (pss_cons (ps_for PassesOwn.never rfl (pi_range1 rfl T.n_range (pa1 pe_int)) (pg_name (i := 2) sc_law.nd rfl (Or.inl rfl)) (pss_cons (ps_set (i := 3) sc_law.nd rfl (Or.inr rfl) (pcm G4 hr (pa1 (pc G3 hr (pa1 (pc G2 hr (pa1 (pv 1))))))))
      (pss_cons (ps_set (i := 4) sc_law.nd rfl (Or.inr rfl) (pe_slice sl_list (pc G5 hr (pa2 (pv 1) (pe_lst (pa_cons pe_str (pa_cons pe_str (pa_cons pe_str (pa2 pe_str pe_str))))))) po_none (po_some (pe_op op_add pe_int (pc G6 hr (pa2 (pv 1) pe_int))))))
      (pss_cons (ps_set (i := 5) sc_law.nd rfl (Or.inl rfl) (pe_lst (pa1 (pe_tup pa_nil))))
      (pss_cons (ps_for PassesOwn.never rfl (pi_tup (pe_tup (pa_cons pe_str (pa2 pe_str pe_str)))) (pg_name (i := 6) sc_law.nd rfl (Or.inr rfl)) (pss_one (ps_set (i := 5) sc_law.nd rfl (Or.inl rfl) (pe_op op_cat (pv 5) (plc sc_law 7 (pi_list (pv 5)) (fun _ _ _ _ _ => (pe_op op_catA (pv 7) (pe_tup (pa1 (pv 6))))))))))
      (pss_cons (pslI sc_law 8 7 (pi_list (pv 5)) (fun _ _ _ _ _ => (pt_cmpR (op_eqD (room64 hr)) (pc G7 hr (pa2 (pm G8 T.cl_Tool hr (pv 3) (pa1 (pv 7))) (pv 4))) (pe_lst pa_nil) (nomark _))) (fun _ _ _ _ _ => (pv 7)))
      (pss_cons (ps_set (i := 9) sc_law.nd rfl (Or.inr rfl) (plc sc_law 7 (pi_list (pv 8)) (fun _ _ _ _ _ => (pb call_len_seq T.n_len (pa1 (pv 7))))))
      (pss_cons (ps_set (i := 10) sc_law.nd rfl (Or.inl rfl) (pe_ifExp (pt_cmpR (op_neD (room64 hr)) (pv 8) (pe_lst pa_nil) (nomark _)) (pe_ix ix_list (pb (cr_sortedT hr) T.n_sorted (pa1 (plcI sc_law 7 (pi_list (pv 8)) (fun _ _ _ _ _ => (pt_cmpR op_eq (pb call_len_seq T.n_len (pa1 (pv 7))) (pb (cr_min rfl) T.n_min (pa1 (pv 9))) (nomark _))) (fun _ _ _ _ _ => (pv 7))))) pe_int (fun _ _ => rfl)) pe_non))
      (pss_cons (ps_if (pt_cmpR op_ne (pb (cr_repr hr hg) T.n_repr (pa1 (pc G9 hr (pa2 (pv 3) (pv 4))))) (pb (cr_repr hr hg) T.n_repr (pa1 (pv 10))) (nomark _)) (pss_one (ps_ret pe_bl)) pss_nil)
      (pss_cons (ps_for PassesOwn.never rfl (pi_list (pe_ifExp (pt_cmpR op_notN (pv 10) pe_non (nomark _)) (pv 4) (pe_lst pa_nil))) (pg_name (i := 11) sc_law.nd rfl (Or.inl rfl)) (pss_cons (ps_set (i := 12) sc_law.nd rfl (Or.inl rfl) (pm G8 T.cl_Tool hr (pv 3) (pa1 (pv 10))))
      (pss_one (ps_if (pt_not (pt_val (pc Gb hr (pa_cons (pv 12) (pa2 (pv 11) (pc Ga hr (pa2 (pv 12) (pv 11)))))))) (pss_one (ps_ret pe_bl)) pss_nil))))
      (pss_cons (ps_asg (pe_tup (pa2 (pc G7 hr (pa2 (pv 3) (pv 4))) (plc sc_law 15 (pi_range1 rfl T.n_range (pa1 (pb (call_lenO Gd (Room.mono hr (by decide))) T.n_len (pa1 (pv 3))))) (fun _ _ _ _ _ => (pm Gc T.cl_Tool hr (pv 3) (pa1 (pv 15))))))) (pg_tup (n := 2) rfl (pgs_cons (pg_name (i := 13) sc_law.nd rfl (Or.inr rfl)) (pgs_cons (pg_name (i := 14) sc_law.nd rfl (Or.inr rfl)) pgs_nil))))
      (pss_cons (pslI sc_law 16 15 (pi_range1 rfl T.n_range (pa1 (pb (call_lenO Gd (Room.mono hr (by decide))) T.n_len (pa1 (pv 3))))) (fun _ _ _ _ _ => (pt_cmpR (op_eqD (room64 hr)) (pc G7 hr (pa2 (pe_ix ix_list (pv 14) (pv 15) (fun _ _ => rfl)) (pv 4))) (pv 13) (nomark _))) (fun _ _ _ _ _ => (pv 15)))
      (pss_cons (ps_if (PW.pt (pw_or (pt_cmpR (op_neD (room64 hr)) (pc Ge hr (pa2 (pv 3) (pv 4))) (pbt call_tuple_of T.n_tuple (pa1 (pv 16))) (nomark _)) (pw_or1 (pt_cmpR (op_neO Gg (Room.mono hr (by decide)) mo ne) (pm G8 T.cl_Tool hr (pv 3) (pa1 (pe_lst (pa_cons pe_str (pa2 pe_str pe_str))))) (pv 3) (nomark _))))) (pss_one (ps_ret pe_bl)) pss_nil)
      (pss_cons (pslI sc_law 17 15 (pi_range1 rfl T.n_range (pa1 (pb (call_lenO Gd (Room.mono hr (by decide))) T.n_len (pa1 (pv 3))))) (fun _ _ _ _ _ => (pt_cmpR (op_eqD (room64 hr)) (pc G7 hr (pa2 (pe_ix ix_list (pv 14) (pv 15) (fun _ _ => rfl)) (pv 4))) (pe_lst pa_nil) (nomark _))) (fun _ _ _ _ _ => (pv 15)))
      (pss_one (ps_if (pt_cmpR (op_neD (room64 hr)) (pc Gf hr (pa2 (pv 3) (pbt call_tuple_of T.n_tuple (pa1 (pv 4))))) (pbt call_tuple_of T.n_tuple (pa1 (pv 17))) (nomark _)) (pss_one (ps_ret pe_bl)) pss_nil))))))))))))))))
      (pss_one (ps_ret pe_bl)))), ?_⟩
  have fl := T.fl
  walk_at "rd"
  refine ⟨a, ns, rfl, ha, hl, fun c g H1 s1 hc hg1 d1 => ⟨by decide, by decide, ?_⟩⟩
  refine for_it walk_range (LawI a c g) ⟨_, _, _, _, _, _, _, _, _, _, _, _, _, _, rfl, d1⟩ (fun _ _ _ _ _ => trivial) ?_ ?_
  · rintro j0 y σ2 H2 H2' hj ⟨v2, v3, v4, v5, v6, v8, v9, v10, v11, v12, v13, v14, v16, v17, rfl, d2⟩ ⟨rfl, rfl⟩
    walk_at "rd"
    refine ⟨c, g, rfl, d2, fun p H3 m t q b ds E3 d3 dr ao => ⟨p, m, t, q, b, ds, rfl, dr, ao, fun H4 s4 => ⟨m, t, q, b, ds, rfl, ao, fun x H5 s5 hx => ?_⟩⟩⟩
    have ok := ao.tool b
    have d5 := (d3.same s4).same s5
    generalize mkTool m t q b ds = d at hx ok
    walk_at "rd"
    refine ⟨by decide, fun q1 hq1 => ?_⟩
    refine ⟨c, g, q1, faultsL, rfl, upd_same, by decide, faults_ok, d5.alloc hq1, fun pm l' H6 pmL E6 d6 hpm epm npg => ?_⟩
    have hx6 : ToolAt K H6 x d := (hx.same (same_new hq1)).imm ((d5.alloc hq1).imm E6)
    refine ⟨c, g, 2, rfl, by decide, by decide, d6, fun r H7 r0 r1 E7 d7 => ?_⟩
    have hx7 := hx6.imm (d6.imm E7)
    have npm := (d5.alloc hq1).nin hpm
    have epm7 := E7 _ _ epm npm
    obtain ⟨n, rfl⟩ := Int.eq_ofNat_of_zero_le r0
    have ll : l'.length = 5 := pmL.length_eq
    refine ⟨n, rfl, pm, rfl, _, SqL.of epm7, fun pw hpw => ⟨by decide, fun t0 ht0 => ⟨by decide, fun p0 hp0 => ⟨by decide, fun t3 ht3 => ?_⟩⟩⟩⟩
    have ec : cutV (sv l') none (some (1 + (n : Int))) = sv (l'.take (1 + n)) := by
      rw [show (1 : Int) + n = ((1 + n : Nat) : Int) by omega, cut_to (by rw [sv_len]; omega)]
      unfold sv
      rw [List.map_take]
    rw [ec] at ht0 hp0 ht3 ⊢
    have hWf : ∀ f ∈ l'.take (1 + n), f ∈ faultsL := fun f hf => pmL.mem_iff.mp (List.mem_of_mem_take hf)
    have hWl : (l'.take (1 + n)).length ≤ 5 := by rw [List.length_take]; omega
    generalize l'.take (1 + n) = W at *
    have w1 := same_new (o := .lst (sv W)) hpw
    have ew : upd H7 pw (.lst (sv W)) pw = some (.lst (sv W)) := upd_same
    have hxw := hx7.same w1
    have dw := d7.same w1
    generalize upd H7 pw (.lst (sv W)) = Hw at *
    have w2 := same_new (o := .tup []) ht0
    have w3 := same_new (o := .lst [.ref t0]) hp0
    have w4 := same_new (o := .tup [V.str "above", V.str "below", V.str "own"]) ht3
    refine ⟨⟨_, SqT.of upd_same⟩, ?_⟩
    have et3 : ∀ H', Same (upd (upd (upd Hw t0 (.tup [])) p0 (.lst [.ref t0])) t3 (.tup [V.str "above", V.str "below", V.str "own"])) H' → SqT K H' t3 (sv partsL) := fun H' s => SqT.of (s _ _ upd_same)
    refine for_it (walk_tup (xs := sv partsL)) (fun j σ H' => SetI a c x pw (some (.int (0 + (j0 : Nat)))) v8 v9 v10 v11 v12 v13 v14 v16 v17 (upd (upd (upd Hw t0 (.tup [])) p0 (.lst [.ref t0])) t3 (.tup [V.str "above", V.str "below", V.str "own"])) j σ H') ⟨p0, [.ref t0], v6, rfl, Same.refl _, w4 _ _ upd_same, .cons ⟨t0, rfl, w4 _ _ (w3 _ _ upd_same)⟩ .nil⟩ (fun j σ H' _ ⟨_, _, _, _, sq, _⟩ => et3 _ sq) ?_ ?_
    · rintro i y σ8 H8 H8' hi ⟨ps, us, v6, rfl, s8, e8, pr8⟩ ⟨rfl, hy⟩
      have hy2 : (partsL.map V.str)[i]? = some y := hy
      rw [List.getElem?_map] at hy2
      obtain ⟨pt, hpt, rfl⟩ := Option.map_eq_some_iff.mp hy2
      have i3 : i < 3 := hi
      have gp : partsL.getD i Str.empty = pt := by rw [List.getD_eq_getElem?_getD, hpt]; rfl
      obtain ⟨sl8, sl3⟩ := setsF_len i (by omega)
      have ul : us.length = (setsF i).length := (Paired.length pr8).symm
      walk_at "rd"
      refine ⟨⟨_, SqL.of e8⟩, fun D hD => ?_⟩
      refine lcWD walk_list rfl (by omega) hD pr8 (fun l v H' => TupS (l ++ [pt]) v H') (fun _ _ _ _ _ im h => h.imm im) (fun H s => s.seq (SqL.of e8)) (fun i l v hl hv H9 s9 _ Ky ky => ?_) fun H9 ys s9 e9 pr9 => ?_
      · obtain ⟨b9, rfl, hb9⟩ := hv
        have l3 := sl3 l (List.mem_of_getElem? hl)
        walk_at "rd"
        refine ⟨by decide, fun p9 hp9 => ?_⟩
        have z9 := same_new (o := .tup [.str pt]) hp9
        refine ⟨b9, p9, sv l, [.str pt], rfl, rfl, SqT.of (z9 _ _ (s9 _ _ hb9)), SqT.of upd_same, by rw [sv_len]; exact len_ok (by show l.length + 1 ≤ 1000; omega), (fun e => ?_), (fun _ e => nomatch e), (fun _ _ p10 hp10 => ?_)⟩
        · have el : l = [] := List.map_eq_nil_iff.mp e
          subst el
          exact ky _ _ z9 ⟨p9, rfl, upd_same⟩
        · refine ky _ _ (z9.trans (same_new hp10)) ⟨p10, rfl, ?_⟩
          rw [upd_same]
          unfold sv
          rw [List.map_append]
          rfl
      · have yl : ys.length = (setsF i).length := (Paired.length pr9).symm
        refine ⟨ps, D, us, ys, rfl, rfl, s9 _ _ e8, e9, len_ok (by omega), fun p10 hp10 => ?_⟩
        have z10 := same_new (o := .lst (us ++ ys)) hp10
        refine ⟨p10, us ++ ys, _, rfl, s8.trans (s9.trans z10), upd_same, ?_⟩
        have q1 : Paired (fun l v => TupS l v (upd H9 p10 (.lst (us ++ ys)))) (setsF i) us := L2.Paired.mapP pr8 fun _ _ h => h.same (s9.trans z10)
        have q2 : Paired (fun l v => TupS (l ++ [pt]) v (upd H9 p10 (.lst (us ++ ys)))) (setsF i) ys := L2.Paired.mapP pr9 fun _ _ h => h.same z10
        show Paired _ (setsF i ++ (setsF i).map fun s => s ++ [partsL.getD i Str.empty]) _
        rw [gp]
        exact paired_app q1 (paired_map_l (R := fun l v => TupS l v (upd H9 p10 (.lst (us ++ ys)))) q2)
    · rintro σ8 H8 ⟨ps, us, v6', rfl, s8, e8, pr8⟩
      have pr8 : Paired (fun l v => TupS l v H8) (setsF 3) us := pr8
      obtain ⟨sl8, sl3⟩ := setsF_len 3 (by omega)
      have ul : us.length = (setsF 3).length := (Paired.length pr8).symm
      have sw8 : Same Hw H8 := (w2.trans (w3.trans w4)).trans s8
      have hx8 := hxw.same sw8
      obtain ⟨dxt, ma, ta, pa, ra, vst, ht1, _⟩ := hx8.ex
      have ew8 := sw8 _ _ ew
      generalize hR : (setsF 3).filter (goodB d W) = Rg
      have Rl8 : Rg.length ≤ 8 := by rw [← hR]; exact Nat.le_trans (List.length_filter_le _ _) sl8
      have R3 : ∀ z ∈ Rg, z.length ≤ 3 := fun z hz => by rw [← hR] at hz; exact sl3 z (List.mem_filter.mp hz).1
      have Rp : ∀ z ∈ Rg, z ∈ setsF 3 := fun z hz => by rw [← hR] at hz; exact (List.mem_filter.mp hz).1
      -- right
      dsimp only
      refine seq_r (fun σ H' => ∃ D rs, σ = [some (.ref a), some (.ref c), some (.int (0 + (j0 : Nat))), some (.ref x), some (.ref pw), some (.ref ps), v6', none, some (.ref D), v9, v10, v11, v12, v13, v14, none, v16, v17] ∧ Same H8 H' ∧ H' D = some (.lst rs) ∧ Paired (fun l v => TupS l v H') Rg rs) (fun Nx hN => ?_) ?_
      · walk_at "rd*"
        refine ⟨⟨_, SqL.of e8⟩, fun D hD => ?_⟩
        refine lcWK walk_list rfl (by omega) hD pr8 (goodB d W) (fun l v H' => TupS l v H') (fun _ _ _ _ _ im h => h.imm im) (fun H s => s.seq (SqL.of e8)) (fun i l v hl hv H9 s9 _ Ky Kn ky kn => ?_) fun H9 rs s9 e9 pr9 => ?_
        · obtain ⟨b9, rfl, hb9⟩ := hv
          have ht19 := s9 _ _ ht1
          walk_at "rd*"
          refine ⟨x, b9, d, l, rfl, hx8.same s9, ok, .inr (SqT.of (s9 _ _ hb9)), fun xh H10 s10 hxh => ?_⟩
          refine ⟨xh, pw, d.heed l, W, rfl, hxh, ok.rowed (heed_ok ok l), .inl (SqL.of (s10 _ _ (s9 _ _ ew8))), by omega, hWf, fun pm2 H11 s11 e11 => ⟨by decide, fun p12 hp12 => ?_⟩⟩
          have z12 := same_new (o := .lst []) hp12
          refine eq_lists (l := metL (d.heed l) W) (m := []) encS (SqL.of (z12 _ _ e11)) (dp_strs _) (fun z hz => faults_ok z (hWf z (List.mem_filter.mp hz).1)) (SqL.of upd_same) .nil (fun _ h => nomatch h) ?_
          have s912 := (s10.trans s11).trans z12
          rw [met_hap0 hWf]
          cases hgd : goodB d W l with
          | true =>
            rw [show decide (hapL (d.heed l) W = []) = true from hgd]
            exact ⟨_, rfl, iteP rfl (ky hgd _ _ s912 ⟨b9, rfl, s912 _ _ (s9 _ _ hb9)⟩)⟩
          | false =>
            rw [show decide (hapL (d.heed l) W = []) = false from hgd]
            exact ⟨_, rfl, iteN (by decide) (kn hgd _ s912)⟩
        · rw [hR] at pr9
          exact hN _ _ ⟨D, rs, rfl, s9, e9, pr9⟩
      rintro σ9 H9 ⟨D, rs, rfl, s9, e9, pr9⟩
      have rl : rs.length = Rg.length := (Paired.length pr9).symm
      -- sizes
      refine seq_r (fun σ H' => ∃ D2, σ = [some (.ref a), some (.ref c), some (.int (0 + (j0 : Nat))), some (.ref x), some (.ref pw), some (.ref ps), v6', none, some (.ref D), some (.ref D2), v10, v11, v12, v13, v14, none, v16, v17] ∧ Same H9 H' ∧ H' D2 = some (.lst ((Rg.map fun l => ((l.length : Nat) : Int)).map V.int))) (fun Nx hN => ?_) ?_
      · walk_at "rd"
        refine ⟨⟨_, SqL.of e9⟩, fun D2 hD2 => ?_⟩
        refine lcWD walk_list rfl (by omega) hD2 pr9 (fun l v _ => v = .int ((l.length : Nat) : Int)) (fun _ _ _ _ _ _ e => e) (fun H s => s.seq (SqL.of e9)) (fun i l v hl hv H10 s10 _ Ky ky => ?_) fun H10 zs s10 e10 pr10 => ?_
        · obtain ⟨b9, rfl, hb9⟩ := hv
          walk_at "rd"
          refine ⟨sv l, .inr (SqT.of (s10 _ _ hb9)), ?_⟩
          rw [sv_len]
          exact ky _ _ (Same.refl _) rfl
        · rw [paired_map (f := fun l : List Str => V.int ((l.length : Nat) : Int)) pr10] at e10
          refine hN _ _ ⟨D2, rfl, s10, ?_⟩
          rw [e10, List.map_map]
          rfl
      rintro σ10 H10 ⟨D2, rfl, s10, e10⟩
      have e910 := s10 _ _ e9
      have pr910 : Paired (fun l v => TupS l v H10) Rg rs := L2.Paired.mapP pr9 fun _ _ h => h.same s10
      -- due
      refine seq_r (fun σ H' => ∃ v10, σ = [some (.ref a), some (.ref c), some (.int (0 + (j0 : Nat))), some (.ref x), some (.ref pw), some (.ref ps), v6', none, some (.ref D), some (.ref D2), some v10, v11, v12, v13, v14, none, v16, v17] ∧ Same H10 H' ∧ ResAt H' v10 (best d W) ∧ ∀ l, best d W = some l → l ∈ setsF 3 ∧ goodB d W l = true) (fun Nx hN => ?_) ?_
      · walk_at "rd"
        refine ⟨by decide, fun p11 hp11 => ?_⟩
        have z11 := same_new (o := .lst []) hp11
        refine ne_lists (l := Rg) (m := []) encTS (SqL.of (z11 _ _ e910)) (dp_tups (L2.Paired.mapP pr910 fun _ _ h => h.same z11)) (fun l hl y hy => (by unfold okS; decide +kernel : ∀ y ∈ partsL, okS y) y ((sets_parts l (Rp l hl)).1 y hy)) (SqL.of upd_same) .nil (fun _ h => nomatch h) ⟨_, rfl, ?_⟩
        by_cases hRe : Rg = []
        · refine iteBF (by rw [decide_eq_true hRe]; rfl) (hN _ _ ⟨.non, rfl, z11, ?_, fun l hb => ?_⟩)
          · rw [best_none (by rw [hR]; exact hRe)]
            rfl
          · rw [best_none (by rw [hR]; exact hRe)] at hb; cases hb
        · obtain ⟨lm, hlm, hmin⟩ := exists_min (f := List.length) hRe
          refine iteBT (by rw [decide_eq_false hRe]; rfl) ⟨⟨_, SqL.of (z11 _ _ e910)⟩, fun D3 hD3 => ?_⟩
          have pr11 : Paired (fun l v => TupS l v (upd H10 p11 (.lst []))) Rg rs := L2.Paired.mapP pr910 fun _ _ h => h.same z11
          have e911 := z11 _ _ e910
          have e1011 := z11 _ _ e10
          generalize upd H10 p11 (.lst []) = H11 at *
          refine lcWK walk_list rfl (by omega) hD3 pr11 (fun l => decide (l.length = lm.length)) (fun l v H' => TupS l v H') (fun _ _ _ _ _ im h => h.imm im) (fun H s => s.seq (SqL.of e911)) (fun i l v hl hv H12 s12 _ Ky Kn ky kn => ?_) fun H12 ys s12 e12 pr12 => ?_
          · obtain ⟨b9, rfl, hb9⟩ := hv
            have hlR := List.mem_of_getElem? hl
            walk_at "rd"
            refine ⟨sv l, .inr (SqT.of (s12 _ _ hb9)), D2, Rg.map fun l => ((l.length : Nat) : Int), rfl, SqL.of (s12 _ _ e1011), by rw [List.length_map]; exact List.length_pos_iff.mpr hRe, fun mm hmm hle => ?_⟩
            have em : mm = ((lm.length : Nat) : Int) := by
              obtain ⟨z, hz, rfl⟩ := List.mem_map.mp hmm
              have h1 := hmin z hz
              have h2 := hle _ (List.mem_map.mpr ⟨lm, hlm, rfl⟩)
              omega
            subst em
            rw [sv_len]
            refine ⟨rfl, ?_⟩
            by_cases hll : l.length = lm.length
            · refine iteP (by rw [hll]) (ky (decide_eq_true hll) _ _ (Same.refl _) ⟨b9, rfl, s12 _ _ hb9⟩)
            · refine iteN (fun e => hll (by have := V.int.inj e; omega)) (kn (decide_eq_false hll) _ (Same.refl _))
          · obtain ⟨bs, rfl, hb1, hb2⟩ := tups_bs pr12
            have bl : bs.length ≤ 8 := by
              have h1 : bs.length = (Rg.filter fun l => decide (l.length = lm.length)).length := by rw [← hb1, List.length_map]
              rw [h1]
              exact Nat.le_trans (List.length_filter_le _ _) Rl8
            refine ⟨bs, SqL.of e12, hb2, by omega, ?_, fun cs p13 pmc pwc hp13 => ?_⟩
            · have hfl : ∀ b ∈ bs, b.1.length = lm.length := fun b hb => by
                have : b.1 ∈ bs.map (·.1) := List.mem_map.mpr ⟨b, hb, rfl⟩
                rw [hb1] at this
                exact of_decide_eq_true (List.mem_filter.mp this).2
              by_cases z0 : lm.length = 0
              · right
                have h1 : bs.length = (Rg.filter fun l => decide (l.length = lm.length)).length := by rw [← hb1, List.length_map]
                rw [h1, z0, ← hR]
                exact Nat.le_trans (List.filter_sublist.filter _).length_le zero_one
              · left
                intro b hb e
                have := hfl b hb
                rw [e] at this
                exact z0 this.symm
            · obtain ⟨c0, cr, rfl⟩ : ∃ c0 cr, cs = c0 :: cr := by
                cases cs with
                | cons a b => exact ⟨a, b, rfl⟩
                | nil =>
                  exfalso
                  have hb0 : bs = [] := List.Perm.nil_eq pmc |>.symm
                  rw [hb0] at hb1
                  have : lm ∈ Rg.filter fun l => decide (l.length = lm.length) := List.mem_filter.mpr ⟨hlm, decide_eq_true rfl⟩
                  rw [← hb1] at this
                  exact nomatch this
              have bst := best_some (d := d) (l := W) (m := lm.length) (cs := (c0 :: cr).map (·.1)) (ps := c0.1) (r := cr.map (·.1)) (fun z hz => hmin z (by rw [← hR]; exact hz)) (by rw [hR, ← hb1]; exact pmc.map _) ((List.pairwise_map (f := fun b : TL2 => b.1)).mpr pwc) rfl
              have z13 := same_new (o := .lst ((c0 :: cr).map fun b => V.ref b.2)) hp13
              refine ⟨_, SqL.of upd_same, .ref c0.2, atI_nat (j := 0) rfl, hN _ _ ⟨.ref c0.2, rfl, (z11.trans s12).trans z13, ?_, fun l hb => ?_⟩⟩
              · rw [bst.1]
                exact ⟨c0.2, rfl, z13 _ _ (hb2 c0 (pmc.mem_iff.mp List.mem_cons_self))⟩
              · rw [bst.1] at hb
                cases hb
                exact bst.2
      rintro σ11 H11 ⟨v10', rfl, s11, hres, hgood⟩
      have sw11 : Same Hw H11 := ((sw8.trans s9).trans s10).trans s11
      -- repr
      refine seq_r (fun σ H' => σ = [some (.ref a), some (.ref c), some (.int (0 + (j0 : Nat))), some (.ref x), some (.ref pw), some (.ref ps), v6', none, some (.ref D), some (.ref D2), some v10', v11, v12, v13, v14, none, v16, v17] ∧ Same H11 H') (fun Nx hN => ?_) ?_
      · walk_at "rd"
        have bp : ∀ l, best d W = some l → (∀ y ∈ l, y ∈ partsL) ∧ l.length ≤ 3 := fun l hb => sets_parts l (hgood l hb).1
        refine ⟨x, pw, d, W, rfl, hxw.same sw11, ok, .inl (SqL.of (sw11 _ _ ew)), hWf, fun hb H12 s12 => ?_, fun l hb b12 H12 s12 e12 => ?_⟩
        · refine ⟨best d W, by rw [hb]; rfl, bp, best d W, hres.same s12, bp, rfl, iteN (by rw [decide_eq_true rfl]; exact fun e => nomatch e) (hN _ _ ⟨rfl, s12⟩)⟩
        · refine ⟨best d W, by rw [hb]; exact ⟨b12, rfl, e12⟩, bp, best d W, hres.same s12, bp, rfl, iteN (by rw [decide_eq_true rfl]; exact fun e => nomatch e) (hN _ _ ⟨rfl, s12⟩)⟩
      rintro σ12 H12 ⟨rfl, s12⟩
      have hres12 := hres.same s12
      have sw12 := sw11.trans s12
      obtain ⟨dxw, maw, taw, paw, raw, vsw, hw1, _⟩ := hxw.ex
      have sh := ok.short
      -- papers
      refine seq_r (fun σ H' => ∃ v11 v12, σ = [some (.ref a), some (.ref c), some (.int (0 + (j0 : Nat))), some (.ref x), some (.ref pw), some (.ref ps), v6', none, some (.ref D), some (.ref D2), some v10', v11, v12, v13, v14, none, v16, v17] ∧ Same Hw H') (fun Nx hN => ?_) ?_
      · walk_at "rd"
        cases hb : best d W with
        | none =>
          rw [hb] at hres12
          have hv : v10' = .non := hres12
          subst hv
          refine iteN (by rw [decide_eq_true rfl]; exact fun e => nomatch e) ⟨by decide, fun p14 hp14 => ⟨⟨_, SqL.of upd_same⟩, ?_⟩⟩
          have z14 := same_new (o := .lst []) hp14
          refine for_it (walk_list (xs := [])) (fun j σ H' => (∃ v11 v12, σ = [some (.ref a), some (.ref c), some (.int (0 + (j0 : Nat))), some (.ref x), some (.ref pw), some (.ref ps), v6', none, some (.ref D), some (.ref D2), some .non, v11, v12, v13, v14, none, v16, v17]) ∧ Same (upd H12 p14 (.lst [])) H') ⟨⟨_, _, rfl⟩, Same.refl _⟩ (fun j σ H' _ q => SqL.of (q.2 _ _ upd_same)) (fun i y σ H H' hi _ _ => absurd hi (Nat.not_lt_zero i)) ?_
          rintro σ14 H14 ⟨⟨v11', v12', rfl⟩, s14⟩
          exact hN _ _ ⟨_, _, rfl, (sw12.trans z14).trans s14⟩
        | some l =>
          rw [hb] at hres12
          obtain ⟨b9, rfl, hb9⟩ := hres12
          have nhap : ∀ f ∈ W, hap (d.heed l) f = false := (hapL_nil hWf).mp (of_decide_eq_true (hgood l hb).2)
          have okh := ok.rowed (heed_ok ok l)
          refine iteP (decide_eq_false (fun e => nomatch e)) ⟨⟨_, SqL.of (sw12 _ _ ew)⟩, ?_⟩
          refine for_it (walk_list (xs := sv W)) (fun j σ H' => (∃ v11 v12, σ = [some (.ref a), some (.ref c), some (.int (0 + (j0 : Nat))), some (.ref x), some (.ref pw), some (.ref ps), v6', none, some (.ref D), some (.ref D2), some (.ref b9), v11, v12, v13, v14, none, v16, v17]) ∧ Same H12 H') ⟨⟨_, _, rfl⟩, Same.refl _⟩ (fun j σ H' _ q => SqL.of (q.2 _ _ (sw12 _ _ ew))) ?_ ?_
          · rintro i y σ13 H13 H13' hi ⟨⟨v11', v12', rfl⟩, s13⟩ ⟨rfl, hy⟩
            obtain ⟨f, hfm, rfl⟩ := mem_sv (List.mem_of_getElem? hy)
            have sw13 := sw12.trans s13
            have hw13 := sw13 _ _ hw1
            walk_at "rd*"
            refine ⟨x, b9, d, l, rfl, hxw.same sw13, ok, .inr (SqT.of (s13 _ _ hb9)), fun xh H14 s14 hxh => ?_⟩
            refine ⟨xh, f, d.heed l, rfl, hWf f hfm, hxh, okh, nhap f hfm, fun pp H15 s15 pval => ?_⟩
            refine ⟨xh, pp, f, d.heed l, rfl, hWf f hfm, hxh.same s15, okh, pval, nhap f hfm, fun H16 s16 => ?_⟩
            exact ⟨true, rfl, iteN (by decide) (((s13.trans s14).trans s15).trans s16)⟩
          · rintro σ13 H13 ⟨⟨v11', v12', rfl⟩, s13⟩
            exact hN _ _ ⟨_, _, rfl, sw12.trans s13⟩
      rintro σ13 H13 ⟨v11', v12', rfl, sw13⟩
      -- found, tools
      refine seq_r (fun σ H' => ∃ pf pt vt, σ = [some (.ref a), some (.ref c), some (.int (0 + (j0 : Nat))), some (.ref x), some (.ref pw), some (.ref ps), v6', none, some (.ref D), some (.ref D2), some v10', v11', v12', some (.ref pf), some (.ref pt), none, v16, v17] ∧ Same Hw H' ∧ H' pf = some (.lst (sv (metL d W))) ∧ H' pt = some (.lst vt) ∧ Paired (fun n v => ∃ xt, v = V.ref xt ∧ ToolAt K H' xt (d.less n)) (List.range d.rows.length) vt) (fun Nx hN => ?_) ?_
      · walk_at "rd"
        refine ⟨x, pw, d, W, rfl, hxw.same sw13, ok, .inl (SqL.of (sw13 _ _ ew)), by omega, hWf, fun pf H14 s14 e14 => ⟨⟨_, _, (sw13.trans s14) _ _ hw1⟩, x, d, rfl, hxw.same (sw13.trans s14), fun H15 s15 => ⟨d.rows.length, rfl, by omega, by omega, d.rows.length, rfl, by omega, by omega, fun D4 hD4 => ?_⟩⟩⟩
        have sw15 := (sw13.trans s14).trans s15
        refine lcWD (walkR d.rows.length) (by rw [List.length_map, List.length_range]) (by rw [List.length_map, List.length_range]; omega) hD4 (pairR d.rows.length) (fun n v H' => ∃ xt, v = V.ref xt ∧ ToolAt K H' xt (d.less n)) (fun n v Ha Hb _ im ⟨xt, e, h⟩ => ⟨xt, e, h.imm im⟩) (fun _ _ => trivial) (fun i n v hi hv H16 s16 _ Ky ky => ?_) fun H16 vt s16 e16 pr16 => ?_
        · subst hv
          have hn : n < d.rows.length := List.mem_range.mp (List.mem_of_getElem? hi)
          have hw16 := (sw15.trans s16) _ _ hw1
          walk_at "rd*"
          exact ⟨x, d, n, rfl, hxw.same (sw15.trans s16), ok, hn, fun xt H17 s17 hxt => ky _ _ s17 ⟨xt, rfl, hxt⟩⟩
        · refine ⟨by decide, fun p17 hp17 => ⟨_, SqT.of upd_same, rfl, _, _, rfl, _, _, rfl, rfl, ?_⟩⟩
          have z17 := same_new (o := .tup [.ref pf, .ref D4]) hp17
          exact hN _ _ ⟨pf, D4, vt, rfl, (sw15.trans s16).trans z17, z17 _ _ (s16 _ _ (s15 _ _ e14)), z17 _ _ e16, L2.Paired.mapP pr16 fun n v ⟨xt, e, h⟩ => ⟨xt, e, h.same z17⟩⟩
      rintro σ14 H14 ⟨pf, pt, vt, rfl, sw14, ef14, et14, pt14⟩
      -- spare
      refine seq_r (fun σ H' => ∃ ys, σ = [some (.ref a), some (.ref c), some (.int (0 + (j0 : Nat))), some (.ref x), some (.ref pw), some (.ref ps), v6', none, some (.ref D), some (.ref D2), some v10', v11', v12', some (.ref pf), some (.ref pt), none, some (.ref ys), v17] ∧ Same H14 H' ∧ H' ys = some (.lst (iv (lessL d W (hapL d W))))) (fun Nx hN => ?_) ?_
      · walk_at "rd"
        refine ⟨⟨_, _, sw14 _ _ hw1⟩, x, d, rfl, hxw.same sw14, fun H15 s15 => ⟨d.rows.length, rfl, by omega, by omega, d.rows.length, rfl, by omega, by omega, fun D5 hD5 => ?_⟩⟩
        have sw15 := sw14.trans s15
        refine lcWK (walkR d.rows.length) (by rw [List.length_map, List.length_range]) (by rw [List.length_map, List.length_range]; omega) hD5 (pairR d.rows.length) (lessEq d W (hapL d W)) (fun n v _ => v = V.int (n : Int)) (fun _ _ _ _ _ _ e => e) (fun _ _ => trivial) (fun i n v hi hv H16 s16 _ Ky Kn ky kn => ?_) fun H16 ys s16 e16 pr16 => ?_
        · subst hv
          have hn : n < d.rows.length := List.mem_range.mp (List.mem_of_getElem? hi)
          obtain ⟨yt, hyt, xt, rfl, hxt⟩ := pair_fwd pt14 (i := n) (x := n) (List.getElem?_range hn)
          walk_at "rd"
          refine ⟨_, SqL.of (s16 _ _ (s15 _ _ et14)), .ref xt, atI_nat hyt, ?_⟩
          refine ⟨xt, pw, d.less n, W, rfl, hxt.same ((s15.trans s16)), ok.rowed (less_ok ok n), .inl (SqL.of ((sw15.trans s16) _ _ ew)), by omega, hWf, fun q H17 s17 e17 => ?_⟩
          have hx9 : okS = okS := rfl
          refine eq_lists (l := metL (d.less n) W) (m := metL d W) encS (SqL.of e17) (dp_strs _) (metL_ok hWf) (SqL.of (s17 _ _ (s16 _ _ (s15 _ _ ef14)))) (dp_strs _) (metL_ok hWf) ?_
          rw [met_hap hWf]
          cases hgd : lessEq d W (hapL d W) n with
          | true =>
            rw [show decide (hapL (d.less n) W = hapL d W) = true from hgd]
            exact ⟨_, rfl, iteP rfl (ky hgd _ _ s17 rfl)⟩
          | false =>
            rw [show decide (hapL (d.less n) W = hapL d W) = false from hgd]
            exact ⟨_, rfl, iteN (by decide) (kn hgd _ s17)⟩
        · rw [paired_iv pr16] at e16
          exact hN _ _ ⟨D5, rfl, s15.trans s16, e16⟩
      rintro σ15 H15 ⟨as1, rfl, s15, es15⟩
      have s15z := s15
      have sw15 := sw14.trans s15
      -- needless, heeding
      refine seq_r (fun σ H' => σ = [some (.ref a), some (.ref c), some (.int (0 + (j0 : Nat))), some (.ref x), some (.ref pw), some (.ref ps), v6', none, some (.ref D), some (.ref D2), some v10', v11', v12', some (.ref pf), some (.ref pt), none, some (.ref as1), v17] ∧ Same H15 H') (fun Nx hN => ?_) ?_
      · walk_at "rd"
        refine ⟨x, pw, d, W, rfl, hxw.same sw15, ok, .inl (SqL.of (sw15 _ _ ew)), hWf, fun b16 H16 s16 e16 => ?_⟩
        walk_at "rd"
        refine ⟨_, .inl ⟨SqL.of (s16 _ _ es15), fun p17 hp17 => ?_⟩⟩
        have z17 := same_new (o := .tup (iv (lessL d W (hapL d W)))) hp17
        have sw17 := (sw15.trans s16).trans z17
        refine ne_iv (z17 _ _ e16) upd_same ⟨_, rfl, iteN (by decide) ⟨_, _, sw17 _ _ hw1, lm_Tool_heeding, by decide, fun p18 hp18 => ?_⟩⟩
        have z18 := same_new (o := .lst [V.str "own", V.str "above", V.str "below"]) hp18
        refine ⟨x, p18, d, rndL, rfl, hxw.same (sw17.trans z18), ok, .inl (SqL.of upd_same), fun xa H19 s19 hxa => ?_⟩
        obtain ⟨dxa, _, _, _, _, _, ha1, _⟩ := hxa.ex
        have sw19 := (sw17.trans z18).trans s19
        refine ⟨xa, rfl, ⟨_, _, ha1⟩, ⟨_, _, sw19 _ _ hw1⟩, xa, x, d.heed rndL, d, rfl, hxa, ok.rowed (heed_ok ok rndL), hxw.same sw19, ok, fun H20 s20 => ⟨_, rfl, iteN (by rw [heed_all ok, decide_eq_true rfl]; exact fun e => nomatch e) (hN _ _ ⟨rfl, ((s16.trans z17).trans z18).trans (s19.trans s20)⟩)⟩⟩
      rintro σ16 H16 ⟨rfl, s16⟩
      have s16z := s16
      have sw16 := sw15.trans s16
      -- mends
      refine seq_r (fun σ H' => ∃ ys, σ = [some (.ref a), some (.ref c), some (.int (0 + (j0 : Nat))), some (.ref x), some (.ref pw), some (.ref ps), v6', none, some (.ref D), some (.ref D2), some v10', v11', v12', some (.ref pf), some (.ref pt), none, some (.ref as1), some (.ref ys)] ∧ Same H16 H' ∧ H' ys = some (.lst (iv (lessL d W [])))) (fun Nx hN => ?_) ?_
      · walk_at "rd"
        refine ⟨⟨_, _, sw16 _ _ hw1⟩, x, d, rfl, hxw.same sw16, fun H15 s15 => ⟨d.rows.length, rfl, by omega, by omega, d.rows.length, rfl, by omega, by omega, fun D5 hD5 => ?_⟩⟩
        have sw15 := sw16.trans s15
        refine lcWK (walkR d.rows.length) (by rw [List.length_map, List.length_range]) (by rw [List.length_map, List.length_range]; omega) hD5 (pairR d.rows.length) (lessEq d W []) (fun n v _ => v = V.int (n : Int)) (fun _ _ _ _ _ _ e => e) (fun _ _ => trivial) (fun i n v hi hv H16 s16 _ Ky Kn ky kn => ?_) fun H16 ys s16 e16 pr16 => ?_
        · subst hv
          have hn : n < d.rows.length := List.mem_range.mp (List.mem_of_getElem? hi)
          obtain ⟨yt, hyt, xt, rfl, hxt⟩ := pair_fwd pt14 (i := n) (x := n) (List.getElem?_range hn)
          walk_at "rd"
          refine ⟨_, SqL.of (s16 _ _ (s15 _ _ (s16z _ _ (s15z _ _ et14)))), .ref xt, atI_nat hyt, ?_⟩
          refine ⟨xt, pw, d.less n, W, rfl, hxt.same (((s15z.trans s16z).trans (s15.trans s16))), ok.rowed (less_ok ok n), .inl (SqL.of ((sw15.trans s16) _ _ ew)), by omega, hWf, fun q H17 s17 e17 => ?_⟩
          refine ⟨by decide, fun p18 hp18 => ?_⟩
          have z18 := same_new (o := .lst []) hp18
          refine eq_lists (l := metL (d.less n) W) (m := []) encS (SqL.of (z18 _ _ e17)) (dp_strs _) (metL_ok hWf) (SqL.of upd_same) .nil (fun _ h => nomatch h) ?_
          rw [met_hap0 hWf]
          cases hgd : lessEq d W [] n with
          | true =>
            rw [show decide (hapL (d.less n) W = []) = true from hgd]
            exact ⟨_, rfl, iteP rfl (ky hgd _ _ (s17.trans z18) rfl)⟩
          | false =>
            rw [show decide (hapL (d.less n) W = []) = false from hgd]
            exact ⟨_, rfl, iteN (by decide) (kn hgd _ (s17.trans z18))⟩
        · rw [paired_iv pr16] at e16
          exact hN _ _ ⟨D5, rfl, s15.trans s16, e16⟩
      rintro σ17 H17 ⟨as2, rfl, s17, es17⟩
      have sw17 := sw16.trans s17
      walk_at "rd"
      refine ⟨_, .inl ⟨SqL.of (sw17 _ _ ew), fun p18 hp18 => ?_⟩⟩
      have z18 := same_new (o := .tup (sv W)) hp18
      refine ⟨x, p18, d, W, rfl, hxw.same (sw17.trans z18), ok, .inr (SqT.of upd_same), hWf, fun b19 H19 s19 e19 => ⟨_, .inl ⟨SqL.of (s19 _ _ (z18 _ _ es17)), fun p20 hp20 => ?_⟩⟩⟩
      have z20 := same_new (o := .tup (iv (lessL d W []))) hp20
      exact ne_iv (z20 _ _ e19) upd_same ⟨_, rfl, iteN (by decide) ⟨_, _, _, _, _, _, _, _, _, _, _, _, _, _, rfl, dw.same (((sw17.trans z18).trans s19).trans z20)⟩⟩
  · rintro σ2 H2 ⟨v2, v3, v4, v5, v6, v8, v9, v10, v11, v12, v13, v14, v16, v17, rfl, d2⟩
    walk_at "rd"
    exact k _
end
end Lm
set_option Elab.async false
set_option linter.all false
set_option maxRecDepth 100000
set_option maxHeartbeats 4000000
/-! Ledmarks k83: the law's own call, where nothing else is under way; the end. -/
namespace Lm
open PySem PySem.Spec PyProof.Rows L2
section
variable {P : Program} {w : World} {K : PySem.W.Frag} {mg : Str → Option Value} {base : Heap} {k : Nat} {x qual : Str} {st : Stmt} {f : Addr} {fd : FuncData} {N ps : List Str} {sp : Sp}
/-- a def run inside calls of which none is a guard -/
theorem runG (F : Fun K x qual st f fd) (S : FnScope N ps (defScope st)) (len : ∀ vs H Q E, sp vs H Q E → vs.length = ps.length) (body : BodyOkG P w K mg base N qual st f k sp)
    {A : Around} {outer : List Env} {s : Shared} {H : Hp} {args : Args} {us : List Value} {vs : List V} {Q : VK} {E : XK} (hg : A.guards = some []) (room : Room (k + 1) A) (e0 : Env0 P w K mg base A outer s H) (hb : BindsTo s fd args (ps.zip us)) (rv : Vals vs us) (q : sp vs H Q E) :
    codeAny (model P w) A (.call (.ref f) args) (L2.CR L2.CX0 outer P w H s Q E) s := by
  obtain ⟨oc, od, kV, doc, pm, an, cdv, ct, osl, rfl, lk, hcd⟩ := F.ex
  have KH : K.In s.heap := e0.mod.kin.keeps fun b o e => (e0.bs b o e).1
  have nolim : s.heap.NoLimit := e0.mod.nolimit.keeps fun b o e => (e0.bs b o e).1
  have kinds : ∀ y ∈ ps.zip us, (defScope st).names.lookup y.1 = some .local ∨ ((defScope st).names.lookup y.1 = some .cell ∧ ((cellsFrom (s.heap.objs.size + 1) (defScope st).names []).lookup y.1).isSome = true) := fun ⟨n, v⟩ hy =>
    (S.par n (List.of_mem_zip hy).1).elim .inl fun c => .inr ⟨c, PySem.W.cellsFrom_some _ _ _ (.inl c)⟩
  refine codeAny_call_function room.depth (KH _ _ lk) rfl S.co S.gen rfl (PySem.W.codeRec_of KH hcd) (hb _ _ _ _ (wpAny_newFunctionEnv_cells S.kind kinds fun env he s1 ic => ?_))
  cases he
  refine ⟨nolim.keeps ic.toInCall.keep, codeAny_func ?_⟩
  obtain ⟨t, ht, ht2⟩ := body cdv A outer s H vs Q E hg (room.deeper _) q
  refine wpAny_mono (ht.nox.run [] s1 (start N vs) H _ (inv_start S room.hd e0 (len _ _ _ _ q) rv ic) ht2) (fun fl s' z => ?_) fun _ _ z => z
  cases fl with
  | ret u => exact (let ⟨v, _, H', J, r2, q2⟩ := z; ⟨v, H', J.os, J.bare, J.base, J.hok, r2, q2⟩)
  | next => exact (let ⟨_, H', J, q2⟩ := z; ⟨.non, H', J.os, J.bare, J.base, J.hok, (rfl : RelV .non Value.none), q2⟩)
  | brk => exact (let ⟨_, _, _, q2⟩ := z; q2.elim)
  | cont => exact (let ⟨_, _, _, q2⟩ := z; q2.elim)
end
section
variable {P : Program} {w : World} {K : PySem.W.Frag} {mg mb : Str → Option Value} {fa a : Addr} {s1 : Shared} {vs : List Value} {ns : List Int}
/-- the call of a law at the heap behind the top -/
theorem callG (kin : K.In s1.heap) (gl : s1.heap.Ns mainGlobals mg) (bl : s1.heap.Ns builtinsNs mb) (bb : ∀ x : Str, x ≠ "__name__" → mb x = bootBuiltins x) (nolim : s1.heap.NoLimit) (gens : s1.gens = #[])
    (here : s1.heap.get? a = some { cls := .type "list", data := .seq vs.toArray }) (hin : IntsAre vs ns) (few : ns.length ≤ sizeLine)
    (run : ∀ (base : Heap) (H : Hp), K.In base → base.Ns mainGlobals mg → Env0 P w K mg base callerA [] s1 H → SqL K H a (ns.map V.int) →
      codeAny (model P w) callerA (.call (.ref fa) ⟨[.ref a], []⟩) (L2.CR L2.CX0 [] P w H s1 (fun v _ => v = .bl true) fun _ _ _ => False) s1) :
    codeAny (model P w) callerA (.call (.ref fa) ⟨[.ref a], []⟩) (fun r s2 => r = .ok (.ret (.bool true)) ∧ OldK s1.heap s2.heap ∧ s2.os = s1.os ∧ AllBare s2.gens) s1 := by
  have rv := vals_ints hin
  have lv := hin.length
  have core : ∀ H : Hp, SqL K H a (ns.map V.int) → HOk P w H s1.heap → (∀ b u, H b = some u → b = a ∧ ∃ o xs, u = .frz o (.lst xs)) → (H a ≠ none → K.lookup a = none) →
      codeAny (model P w) callerA (.call (.ref fa) ⟨[.ref a], []⟩) (fun r s2 => r = .ok (.ret (.bool true)) ∧ OldK s1.heap s2.heap ∧ s2.os = s1.os ∧ AllBare s2.gens) s1 := by
    intro H sq hok only noK
    have free : ∀ {b : Addr} {o : Obj}, s1.heap.get? b = some o → (b = a → False) → (hidT s1.heap H).get? b = some o := fun {b o} e n => hidT_get e (by
      cases q : H b with
      | none => rfl
      | some u => exact (n (only b u q).1).elim)
    have ns2 : ∀ {b : Addr} {m : Str → Option Value}, s1.heap.Ns b m → (hidT s1.heap H).Ns b m := fun {b m} ⟨o, es, ep, e, d, r⟩ => ⟨o, es, ep, free e (fun z => by rw [z, here] at e; cases e; cases d), d, r⟩
    have kin2 : K.In (hidT s1.heap H) := fun b o e => hidT_get (kin b o e) (by
      cases q : H b with
      | none => rfl
      | some u =>
        obtain ⟨z, _⟩ := only b u q
        rw [z] at q e
        rw [noK (by rw [q]; exact fun z => nomatch z)] at e
        cases e)
    have md : Mod K mg (hidT s1.heap H) := ⟨kin2, ns2 gl, ⟨mb, ns2 bl, bb⟩, (let ⟨mc, h1, h2⟩ := nolim; ⟨mc, ns2 h1, h2⟩)⟩
    have env : Env0 P w K mg (hidT s1.heap H) callerA [] s1 H := ⟨rfl, md, fun b o e => of_hidT e, Nat.le_of_eq (hidT_size _ _), trivial, (fun b hb => nomatch hb), hok, .of_eq gens⟩
    refine codeAny_mono (run _ H kin2 (ns2 gl) env sq) fun r s2 z => ?_
    cases r with
    | error e => exact False.elim z
    | ok fl =>
      cases fl with
      | next => exact False.elim z
      | brk => exact False.elim z
      | cont => exact False.elim z
      | ret u =>
        obtain ⟨v, H2, os, bare, un, hok2, rr, q⟩ := z
        have q : v = .bl true := q
        subst q
        obtain rfl : u = Value.bool true := rr
        refine ⟨rfl, OldK.of_keep fun b o e => ?_, os, bare⟩
        cases q : H b with
        | none => exact un.keep b o e q (by exact fun z => nomatch z) (by simp)
        | some u =>
          obtain ⟨rfl, ob, xs, rfl⟩ := only b u q
          obtain ⟨e1, _⟩ := hok _ _ q
          obtain ⟨e2, _⟩ := hok2 _ _ (un.frzs _ ob _ q)
          rw [e] at e1; cases e1
          exact e2
  cases hk : K.lookup a with
  | some o =>
    have e := kin a o hk
    rw [here] at e
    cases e
    refine core (fun _ => none) (.inr ⟨_, vs.toArray, _, hk, rfl, rfl, rfl, by rw [List.size_toArray, lv]; exact few, by simpa using rv⟩) (fun b u z => nomatch z) (fun b u z => nomatch z) fun z => absurd rfl z
  | none =>
    have at_ : ∀ b u, (if b = a then some (HO.frz { cls := .type "list", data := .seq vs.toArray } (.lst (ns.map V.int))) else none) = some u → b = a ∧ u = HO.frz { cls := .type "list", data := .seq vs.toArray } (.lst (ns.map V.int)) := fun b u z => by
      by_cases hb : b = a
      · rw [if_pos hb] at z; exact ⟨hb, (Option.some.inj z).symm⟩
      · rw [if_neg hb] at z; cases z
    refine core (fun b => if b = a then some (.frz { cls := .type "list", data := .seq vs.toArray } (.lst (ns.map V.int))) else none) (.inl (.inr ⟨{ cls := .type "list", data := .seq vs.toArray }, if_pos rfl⟩)) (fun b u z => ?_) (fun b u z => ?_) fun _ => hk
    · obtain ⟨rfl, rfl⟩ := at_ b u z
      exact ⟨here, by rw [List.length_map]; exact few, vs, _, rv, here⟩
    · obtain ⟨h1, h2⟩ := at_ b u z
      exact ⟨h1, _, _, h2⟩
end
end Lm
set_option Elab.async false
set_option linter.all false
set_option maxRecDepth 100000
set_option maxHeartbeats 0
namespace Lm
open PySem PySem.Spec PyProof.Rows L2
theorem law_end {w : World} {K : PySem.W.Frag} {mg mb : Str → Option Value} {fa a : Addr} {s1 : Shared} {vs : List Value} {ns : List Int} {P : Program} (kin : K.In s1.heap) (cS : Says w K) (hmg : mg "law" = some (.ref fa)) (gl : s1.heap.Ns mainGlobals mg) (bl : s1.heap.Ns builtinsNs mb) (bb : ∀ x : Str, x ≠ "__name__" → mb x = bootBuiltins x) (nolim : s1.heap.NoLimit) (gens : s1.gens = #[])
    (here : s1.heap.get? a = some { cls := .type "list", data := .seq vs.toArray }) (hin : IntsAre vs ns) (few : ns.length ≤ 63) :
    codeAny (model P w) callerA (.call (.ref fa) ⟨[.ref a], []⟩) (fun r s2 => r = .ok (.ret (.bool true)) ∧ OldK s1.heap s2.heap ∧ s2.os = s1.os ∧ AllBare s2.gens) s1 := by
  have T : Tx w K mg := Tx.of kin gl cS
  obtain ⟨fd, F⟩ := fun_law cS
  have e := hmg.symm.trans T.g_law
  cases e
  have bd : Binds K fd ["_law_script"] [] := F.binds fun _ _ _ _ _ _ us hl => match us, hl with | [_], _ => rfl
  refine callG kin gl bl bb nolim gens here hin (Nat.le_trans few (by decide)) fun base H kb gb env sq => ?_
  have Tb : Tx w K mg := T
  refine runG (k := 12) F sc_law (fun vs H Q E h => ?_) (b_law (P := P) (base := base) Tb _) rfl ⟨rfl, by decide, by decide⟩ env (us := [.ref a]) (vs := [.ref a]) ?_ (.cons rfl .nil) ⟨a, ns, rfl, sq, few, fun _ => rfl⟩
  · obtain ⟨a, ns, rfl, _⟩ := h
    rfl
  · exact bd s1 [.ref a] kin rfl
end Lm
open PySem PySem.W PySem.Calls PyProof.Rows
theorem PySem.Challenge.cw_ledmarks_k83_whole_parts_that_are_kept_holds : PySem.Challenge.rw_ledmarks_k83_whole_parts_that_are_kept.Holds := by
  w_on; o_law
  refine HandSHeadRun.head_any (r := OpenLaw.row PySem.Challenge.rw_ledmarks_k83_whole_parts_that_are_kept) (q := view (OpenLaw.row PySem.Challenge.rw_ledmarks_k83_whole_parts_that_are_kept).prog [80]) (H := Lm.hookL 5) (ob := Lm.obT) (M := 9000) (loose := Lm.loose)
    (d := HandSHeadRun.topDef (OpenLaw.row PySem.Challenge.rw_ledmarks_k83_whole_parts_that_are_kept).prog 80) (kwd := []) Lm.obT_eq
    (by kernel_rfl) (fun s => by kernel_rfl) Lm.run (by kernel_rfl) (by kernel_rfl) (by kernel_rfl) (by rfl) (by first | assumption | decide +kernel) (by decide +kernel) ⟨rfl, rfl, rfl, rfl, rfl, by decide +kernel⟩ ?hw ?hc
  case hw => w_witness2
  case hc =>
    refine Att.attach_call (l := PySem.Challenge.rw_ledmarks_k83_whole_parts_that_are_kept) (n := 63) rfl (by kernel_rfl) fun w s0 s1 mg mb fa o pm cd doc a vs ns G Y ho hd hcd hmg0 hobj hints hlen hg => ?_
    obtain ⟨K, kin, c⟩ := Y
    have hmg : mg ("law" : PySem.Str) = some (.ref fa) := by
      have e : (HandSHeadRun.topDef (OpenLaw.row PySem.Challenge.rw_ledmarks_k83_whole_parts_that_are_kept).prog 80).name = ("law" : PySem.Str) := by kernel_rfl
      rw [← e]
      exact hmg0
    exact Lm.law_end kin c hmg G.T.g G.T.b G.T.builtins G.T.nolimit hg hobj hints hlen
