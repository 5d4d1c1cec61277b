import PyProof.Rows.All
import Wide.All
import OpenK.AllK
import Wide.FinOn
import KE.KStateDown
import HandS.Base
import HandS.Call
import HandS.Ends
import HandS.More
import HandS.Words
import HandS.WordsExc
import HandS.Defaults
import HandS.Head0
import HandS.Head1
import HandS.Head2
import HandS.HeadEnd
import HandS.HeadHook1
import HandS.HeadHook2
import HandS.HeadHook3
import HandS.HeadHook4
import HandS.ForMost
import HandS.Conv
import HandS.TupAny
import HandS.Style
import HandS.Deep
import HandS.IsInst
import HandS.Steps
import KE.KDictKeyed
import KE.KDictWalk
import KE.KDictList
import KE.GoesMore
import KE.GoesEnum
import KE.KEqDict
import HandS.DictComp
import KE.SortCalls
import KE.KDictDisplayH
import HandS.Walk
import PySem.Challenge.RW_sayswho_k63_whole_held_is_what_is_so
/-! SwHead -/
set_option Elab.async false
set_option linter.all false
set_option maxRecDepth 100000
set_option maxHeartbeats 0
namespace SwH
open PySem PySem.Spec PyProof.Rows L2
def top (i : Nat) : Stmt := PySem.Challenge.pw_sayswho_k63_whole_held_is_what_is_so.main.body.getD i (.Pass ⟨0, 0, 0, 0⟩)
abbrev s_Inputs_init : Stmt := inClass (top 41) 0
abbrev s_Inputs_next_level : Stmt := inClass (top 41) 1
abbrev s_Inputs_gone_on : Stmt := inClass (top 41) 2
abbrev s_worth : Stmt := top 1
abbrev s_box_bounds : Stmt := top 8
abbrev s_plain_ones : Stmt := top 9
abbrev s_looser_ones : Stmt := top 10
abbrev s_pairs_going_up : Stmt := top 11
abbrev s_pairs_unlike : Stmt := top 12
abbrev s_joined_ones : Stmt := top 13
abbrev s_sayings : Stmt := top 14
abbrev s_so_of_one : Stmt := top 15
abbrev s_so_of_more : Stmt := top 16
abbrev s_is_so : Stmt := top 17
abbrev s_first_standing : Stmt := top 33
abbrev s_first_standing_machine : Stmt := top 19
abbrev s_by_names : Stmt := top 21
abbrev s_with_number : Stmt := top 22
abbrev s_taken_in : Stmt := top 23
abbrev s_holds : Stmt := top 24
abbrev s_step : Stmt := top 25
abbrev s_word_at : Stmt := top 26
abbrev s_run : Stmt := top 27
abbrev s_value_tuples : Stmt := top 29
abbrev s_marks_of : Stmt := top 31
abbrev s_first_standing_ways : Stmt := top 33
abbrev s_kind_at : Stmt := top 35
abbrev s_numbers_for : Stmt := top 36
abbrev s_behind : Stmt := top 37
abbrev s_next_marks : Stmt := top 38
abbrev s_next_of : Stmt := top 39
abbrev s_first_of : Stmt := top 40
abbrev s_inputs_of : Stmt := top 42
abbrev s_all_so : Stmt := top 44
abbrev s_keep_so : Stmt := top 45
abbrev s_greatest : Stmt := top 46
abbrev s_seen : Stmt := top 48
abbrev s_so_of_all : Stmt := top 49
abbrev s_held : Stmt := top 50
abbrev s_inputs_by_marks : Stmt := top 52
abbrev s_breaking : Stmt := top 53
abbrev s_all_held : Stmt := top 54
abbrev s_paper_of : Stmt := top 55
abbrev s_verdict_of : Stmt := top 56
abbrev s_judged : Stmt := top 57
abbrev s_with_all_marks : Stmt := top 58
abbrev s_first_broken : Stmt := top 59
abbrev s_settled : Stmt := top 60
abbrev s_law_cell : Stmt := top 62
abbrev s_law_store : Stmt := top 63
abbrev s_law_take : Stmt := top 64
abbrev s_law_names : Stmt := top 65
abbrev s_law_boxes : Stmt := top 66
abbrev s_law_number : Stmt := top 67
abbrev s_law_drawn : Stmt := top 68
abbrev s_law_row : Stmt := top 69
abbrev s_law_rows : Stmt := top 70
abbrev s_law_runs : Stmt := top 71
abbrev s_law_worth : Stmt := top 72
abbrev s_law_next : Stmt := top 73
abbrev s_law_passed : Stmt := top 74
abbrev s_law_go_on : Stmt := top 75
abbrev s_law_inputs : Stmt := top 76
abbrev s_law_so : Stmt := top 77
abbrev s_law_all : Stmt := top 78
abbrev s_law_like : Stmt := top 79
abbrev s_law_fall : Stmt := top 80
abbrev s_law_program : Stmt := top 81
abbrev s_law_whole_lists : Stmt := top 82
abbrev s_law_settles : Stmt := top 83
abbrev s_law : Stmt := top 84
def d_Inputs_init : He.DefD := ⟨("Inputs", some "__init__"), "__init__", "Inputs.__init__", defArgs s_Inputs_init, defBody s_Inputs_init, defScope s_Inputs_init, [], []⟩
def d_Inputs_next_level : He.DefD := ⟨("Inputs", some "next_level"), "next_level", "Inputs.next_level", defArgs s_Inputs_next_level, defBody s_Inputs_next_level, defScope s_Inputs_next_level, [], []⟩
def d_Inputs_gone_on : He.DefD := ⟨("Inputs", some "gone_on"), "gone_on", "Inputs.gone_on", defArgs s_Inputs_gone_on, defBody s_Inputs_gone_on, defScope s_Inputs_gone_on, [], []⟩
def d_worth : He.DefD := ⟨("worth", none), "worth", "worth", defArgs s_worth, defBody s_worth, defScope s_worth, [], []⟩
def d_box_bounds : He.DefD := ⟨("box_bounds", none), "box_bounds", "box_bounds", defArgs s_box_bounds, defBody s_box_bounds, defScope s_box_bounds, [], []⟩
def d_plain_ones : He.DefD := ⟨("plain_ones", none), "plain_ones", "plain_ones", defArgs s_plain_ones, defBody s_plain_ones, defScope s_plain_ones, [], []⟩
def d_looser_ones : He.DefD := ⟨("looser_ones", none), "looser_ones", "looser_ones", defArgs s_looser_ones, defBody s_looser_ones, defScope s_looser_ones, [], []⟩
def d_pairs_going_up : He.DefD := ⟨("pairs_going_up", none), "pairs_going_up", "pairs_going_up", defArgs s_pairs_going_up, defBody s_pairs_going_up, defScope s_pairs_going_up, [], []⟩
def d_pairs_unlike : He.DefD := ⟨("pairs_unlike", none), "pairs_unlike", "pairs_unlike", defArgs s_pairs_unlike, defBody s_pairs_unlike, defScope s_pairs_unlike, [], []⟩
def d_joined_ones : He.DefD := ⟨("joined_ones", none), "joined_ones", "joined_ones", defArgs s_joined_ones, defBody s_joined_ones, defScope s_joined_ones, [], []⟩
def d_sayings : He.DefD := ⟨("sayings", none), "sayings", "sayings", defArgs s_sayings, defBody s_sayings, defScope s_sayings, [], []⟩
def d_so_of_one : He.DefD := ⟨("so_of_one", none), "so_of_one", "so_of_one", defArgs s_so_of_one, defBody s_so_of_one, defScope s_so_of_one, [], []⟩
def d_so_of_more : He.DefD := ⟨("so_of_more", none), "so_of_more", "so_of_more", defArgs s_so_of_more, defBody s_so_of_more, defScope s_so_of_more, [], []⟩
def d_is_so : He.DefD := ⟨("is_so", none), "is_so", "is_so", defArgs s_is_so, defBody s_is_so, defScope s_is_so, [], []⟩
def d_first_standing : He.DefD := ⟨("first_standing", none), "first_standing", "first_standing", defArgs s_first_standing, defBody s_first_standing, defScope s_first_standing, [], []⟩
def d_first_standing_machine : He.DefD := ⟨("first_standing_machine", none), "first_standing", "first_standing", defArgs s_first_standing_machine, defBody s_first_standing_machine, defScope s_first_standing_machine, [], []⟩
def d_by_names : He.DefD := ⟨("by_names", none), "by_names", "by_names", defArgs s_by_names, defBody s_by_names, defScope s_by_names, [], []⟩
def d_with_number : He.DefD := ⟨("with_number", none), "with_number", "with_number", defArgs s_with_number, defBody s_with_number, defScope s_with_number, [], []⟩
def d_taken_in : He.DefD := ⟨("taken_in", none), "taken_in", "taken_in", defArgs s_taken_in, defBody s_taken_in, defScope s_taken_in, [], []⟩
def d_holds : He.DefD := ⟨("holds", none), "holds", "holds", defArgs s_holds, defBody s_holds, defScope s_holds, [], []⟩
def d_step : He.DefD := ⟨("step", none), "step", "step", defArgs s_step, defBody s_step, defScope s_step, [], []⟩
def d_word_at : He.DefD := ⟨("word_at", none), "word_at", "word_at", defArgs s_word_at, defBody s_word_at, defScope s_word_at, [], []⟩
def d_run : He.DefD := ⟨("run", none), "run", "run", defArgs s_run, defBody s_run, defScope s_run, [], []⟩
def d_value_tuples : He.DefD := ⟨("value_tuples", none), "value_tuples", "value_tuples", defArgs s_value_tuples, defBody s_value_tuples, defScope s_value_tuples, [], []⟩
def d_marks_of : He.DefD := ⟨("marks_of", none), "marks_of", "marks_of", defArgs s_marks_of, defBody s_marks_of, defScope s_marks_of, [], []⟩
def d_first_standing_ways : He.DefD := ⟨("first_standing_ways", none), "first_standing", "first_standing", defArgs s_first_standing_ways, defBody s_first_standing_ways, defScope s_first_standing_ways, [], []⟩
def d_kind_at : He.DefD := ⟨("kind_at", none), "kind_at", "kind_at", defArgs s_kind_at, defBody s_kind_at, defScope s_kind_at, [], []⟩
def d_numbers_for : He.DefD := ⟨("numbers_for", none), "numbers_for", "numbers_for", defArgs s_numbers_for, defBody s_numbers_for, defScope s_numbers_for, [], []⟩
def d_behind : He.DefD := ⟨("behind", none), "behind", "behind", defArgs s_behind, defBody s_behind, defScope s_behind, [], []⟩
def d_next_marks : He.DefD := ⟨("next_marks", none), "next_marks", "next_marks", defArgs s_next_marks, defBody s_next_marks, defScope s_next_marks, [], []⟩
def d_next_of : He.DefD := ⟨("next_of", none), "next_of", "next_of", defArgs s_next_of, defBody s_next_of, defScope s_next_of, [], []⟩
def d_first_of : He.DefD := ⟨("first_of", none), "first_of", "first_of", defArgs s_first_of, defBody s_first_of, defScope s_first_of, [], []⟩
def d_inputs_of : He.DefD := ⟨("inputs_of", none), "inputs_of", "inputs_of", defArgs s_inputs_of, defBody s_inputs_of, defScope s_inputs_of, [], []⟩
def d_all_so : He.DefD := ⟨("all_so", none), "all_so", "all_so", defArgs s_all_so, defBody s_all_so, defScope s_all_so, [], []⟩
def d_keep_so : He.DefD := ⟨("keep_so", none), "keep_so", "keep_so", defArgs s_keep_so, defBody s_keep_so, defScope s_keep_so, [], []⟩
def d_greatest : He.DefD := ⟨("greatest", none), "greatest", "greatest", defArgs s_greatest, defBody s_greatest, defScope s_greatest, [], []⟩
def d_seen : He.DefD := ⟨("seen", none), "seen", "seen", defArgs s_seen, defBody s_seen, defScope s_seen, [], []⟩
def d_so_of_all : He.DefD := ⟨("so_of_all", none), "so_of_all", "so_of_all", defArgs s_so_of_all, defBody s_so_of_all, defScope s_so_of_all, [], []⟩
def d_held : He.DefD := ⟨("held", none), "held", "held", defArgs s_held, defBody s_held, defScope s_held, [], []⟩
def d_inputs_by_marks : He.DefD := ⟨("inputs_by_marks", none), "inputs_by_marks", "inputs_by_marks", defArgs s_inputs_by_marks, defBody s_inputs_by_marks, defScope s_inputs_by_marks, [], []⟩
def d_breaking : He.DefD := ⟨("breaking", none), "breaking", "breaking", defArgs s_breaking, defBody s_breaking, defScope s_breaking, [], []⟩
def d_all_held : He.DefD := ⟨("all_held", none), "all_held", "all_held", defArgs s_all_held, defBody s_all_held, defScope s_all_held, [], []⟩
def d_paper_of : He.DefD := ⟨("paper_of", none), "paper_of", "paper_of", defArgs s_paper_of, defBody s_paper_of, defScope s_paper_of, [], []⟩
def d_verdict_of : He.DefD := ⟨("verdict_of", none), "verdict_of", "verdict_of", defArgs s_verdict_of, defBody s_verdict_of, defScope s_verdict_of, [], []⟩
def d_judged : He.DefD := ⟨("judged", none), "judged", "judged", defArgs s_judged, defBody s_judged, defScope s_judged, [], []⟩
def d_with_all_marks : He.DefD := ⟨("with_all_marks", none), "with_all_marks", "with_all_marks", defArgs s_with_all_marks, defBody s_with_all_marks, defScope s_with_all_marks, [], []⟩
def d_first_broken : He.DefD := ⟨("first_broken", none), "first_broken", "first_broken", defArgs s_first_broken, defBody s_first_broken, defScope s_first_broken, [], []⟩
def d_settled : He.DefD := ⟨("settled", none), "settled", "settled", defArgs s_settled, defBody s_settled, defScope s_settled, [], []⟩
def d_law_cell : He.DefD := ⟨("_law_cell", none), "_law_cell", "_law_cell", defArgs s_law_cell, defBody s_law_cell, defScope s_law_cell, [], []⟩
def d_law_store : He.DefD := ⟨("_law_store", none), "_law_store", "_law_store", defArgs s_law_store, defBody s_law_store, defScope s_law_store, [], []⟩
def d_law_take : He.DefD := ⟨("_law_take", none), "_law_take", "_law_take", defArgs s_law_take, defBody s_law_take, defScope s_law_take, [], []⟩
def d_law_names : He.DefD := ⟨("_law_names", none), "_law_names", "_law_names", defArgs s_law_names, defBody s_law_names, defScope s_law_names, [], []⟩
def d_law_boxes : He.DefD := ⟨("_law_boxes", none), "_law_boxes", "_law_boxes", defArgs s_law_boxes, defBody s_law_boxes, defScope s_law_boxes, [], []⟩
def d_law_number : He.DefD := ⟨("_law_number", none), "_law_number", "_law_number", defArgs s_law_number, defBody s_law_number, defScope s_law_number, [], []⟩
def d_law_drawn : He.DefD := ⟨("_law_drawn", none), "_law_drawn", "_law_drawn", defArgs s_law_drawn, defBody s_law_drawn, defScope s_law_drawn, [], []⟩
def d_law_row : He.DefD := ⟨("_law_row", none), "_law_row", "_law_row", defArgs s_law_row, defBody s_law_row, defScope s_law_row, [], []⟩
def d_law_rows : He.DefD := ⟨("_law_rows", none), "_law_rows", "_law_rows", defArgs s_law_rows, defBody s_law_rows, defScope s_law_rows, [], []⟩
def d_law_runs : He.DefD := ⟨("_law_runs", none), "_law_runs", "_law_runs", defArgs s_law_runs, defBody s_law_runs, defScope s_law_runs, [], []⟩
def d_law_worth : He.DefD := ⟨("_law_worth", none), "_law_worth", "_law_worth", defArgs s_law_worth, defBody s_law_worth, defScope s_law_worth, [], []⟩
def d_law_next : He.DefD := ⟨("_law_next", none), "_law_next", "_law_next", defArgs s_law_next, defBody s_law_next, defScope s_law_next, [], []⟩
def d_law_passed : He.DefD := ⟨("_law_passed", none), "_law_passed", "_law_passed", defArgs s_law_passed, defBody s_law_passed, defScope s_law_passed, [], []⟩
def d_law_go_on : He.DefD := ⟨("_law_go_on", none), "_law_go_on", "_law_go_on", defArgs s_law_go_on, defBody s_law_go_on, defScope s_law_go_on, [], []⟩
def d_law_inputs : He.DefD := ⟨("_law_inputs", none), "_law_inputs", "_law_inputs", defArgs s_law_inputs, defBody s_law_inputs, defScope s_law_inputs, [], []⟩
def d_law_so : He.DefD := ⟨("_law_so", none), "_law_so", "_law_so", defArgs s_law_so, defBody s_law_so, defScope s_law_so, [], []⟩
def d_law_all : He.DefD := ⟨("_law_all", none), "_law_all", "_law_all", defArgs s_law_all, defBody s_law_all, defScope s_law_all, [], []⟩
def d_law_like : He.DefD := ⟨("_law_like", none), "_law_like", "_law_like", defArgs s_law_like, defBody s_law_like, defScope s_law_like, [], []⟩
def d_law_fall : He.DefD := ⟨("_law_fall", none), "_law_fall", "_law_fall", defArgs s_law_fall, defBody s_law_fall, defScope s_law_fall, [], []⟩
def d_law_program : He.DefD := ⟨("_law_program", none), "_law_program", "_law_program", defArgs s_law_program, defBody s_law_program, defScope s_law_program, [], []⟩
def d_law_whole_lists : He.DefD := ⟨("_law_whole_lists", none), "_law_whole_lists", "_law_whole_lists", defArgs s_law_whole_lists, defBody s_law_whole_lists, defScope s_law_whole_lists, [], []⟩
def d_law_settles : He.DefD := ⟨("_law_settles", none), "_law_settles", "_law_settles", defArgs s_law_settles, defBody s_law_settles, defScope s_law_settles, [], []⟩
def d_law : He.DefD := ⟨("law", none), "law", "law", defArgs s_law, defBody s_law, defScope s_law, [], []⟩
def fn : List He.DefD := [d_Inputs_init, d_Inputs_next_level, d_Inputs_gone_on, d_worth, d_box_bounds, d_plain_ones, d_looser_ones, d_pairs_going_up, d_pairs_unlike, d_joined_ones, d_sayings, d_so_of_one, d_so_of_more, d_is_so, d_first_standing, d_first_standing_machine, d_by_names, d_with_number, d_taken_in, d_holds, d_step, d_word_at, d_run, d_value_tuples, d_marks_of, d_first_standing_ways, d_kind_at, d_numbers_for, d_behind, d_next_marks, d_next_of, d_first_of, d_inputs_of, d_all_so, d_keep_so, d_greatest, d_seen, d_so_of_all, d_held, d_inputs_by_marks, d_breaking, d_all_held, d_paper_of, d_verdict_of, d_judged, d_with_all_marks, d_first_broken, d_settled, d_law_cell, d_law_store, d_law_take, d_law_names, d_law_boxes, d_law_number, d_law_drawn, d_law_row, d_law_rows, d_law_runs, d_law_worth, d_law_next, d_law_passed, d_law_go_on, d_law_inputs, d_law_so, d_law_all, d_law_like, d_law_fall, d_law_program, d_law_whole_lists, d_law_settles, d_law]
def fa1 : List He.Fa := [.glo "worth", .glo "box_bounds", .glo "plain_ones", .glo "looser_ones", .glo "pairs_going_up", .glo "pairs_unlike", .glo "joined_ones", .glo "sayings", .glo "so_of_one", .glo "so_of_more", .glo "is_so", .glo "first_standing", .glo "first_standing_machine", .glo "by_names", .glo "with_number", .glo "taken_in", .glo "holds", .glo "step", .glo "word_at", .glo "run", .glo "value_tuples", .glo "marks_of", .glo "first_standing_ways", .glo "kind_at", .glo "numbers_for", .glo "behind", .glo "next_marks", .glo "next_of", .glo "first_of", .glo "inputs_of", .glo "all_so", .glo "keep_so", .glo "greatest", .glo "seen", .glo "so_of_all", .glo "held", .glo "inputs_by_marks", .glo "breaking", .glo "all_held", .glo "paper_of"]
def fa2 : List He.Fa := [.glo "verdict_of", .glo "judged", .glo "with_all_marks", .glo "first_broken", .glo "settled", .glo "_law_cell", .glo "_law_store", .glo "_law_take", .glo "_law_names", .glo "_law_boxes", .glo "_law_number", .glo "_law_drawn", .glo "_law_row", .glo "_law_rows", .glo "_law_runs", .glo "_law_worth", .glo "_law_next", .glo "_law_passed", .glo "_law_go_on", .glo "_law_inputs", .glo "_law_so", .glo "_law_all", .glo "_law_like", .glo "_law_fall", .glo "_law_program", .glo "_law_whole_lists", .glo "_law_settles", .glo "law", .free "range", .free "len", .free "enumerate", .free "list", .free "tuple", .free "sorted", .free "zip", .free "min", .free "max", .free "isinstance", .free "int", .free "str"]
def fa3 : List He.Fa := [.free "bool", .int "LEAST_DIVISOR" 2, .int "GREATEST_DIVISOR" 6, .int "WIDEST_GAP" 20, .int "WIDEST_SUM" 40, .glo "Inputs", .cls "Inputs", .mkr "Inputs", .keep "Inputs", .noat "Inputs" "program", .noat "Inputs" "shortest", .meth "Inputs" "next_level", .meth "Inputs" "gone_on", .glo "OF_ONE"]
def fa : List He.Fa := fa1 ++ (fa2 ++ fa3)
def ofOne : List He.Dv := [.str "is", .str "from", .str "to", .str "rest", .str "either", .str "never"]
def ex (K : PySem.W.Frag) : Bool := He.tupB K "OF_ONE" ofOne
def loose0 : List Str := ["worth", "OF_ONE", "LEAST_DIVISOR", "GREATEST_DIVISOR", "WIDEST_GAP", "WIDEST_SUM", "box_bounds", "plain_ones", "looser_ones", "pairs_going_up", "pairs_unlike", "joined_ones", "sayings", "so_of_one", "so_of_more"]
def loose1 : List Str := ["is_so", "first_standing", "first_standing_machine", "by_names", "with_number", "taken_in", "holds", "step", "word_at", "run", "value_tuples", "marks_of", "first_standing_ways", "kind_at", "numbers_for"]
def loose2 : List Str := ["behind", "next_marks", "next_of", "first_of", "Inputs", "inputs_of", "all_so", "keep_so", "greatest", "seen", "so_of_all", "held", "inputs_by_marks", "breaking", "all_held"]
def loose3 : List Str := ["paper_of", "verdict_of", "judged", "with_all_marks", "first_broken", "settled", "_law_cell", "_law_store", "_law_take", "_law_names", "_law_boxes", "_law_number", "_law_drawn", "_law_row", "_law_rows"]
def loose4 : List Str := ["_law_runs", "_law_worth", "_law_next", "_law_passed", "_law_go_on", "_law_inputs", "_law_so", "_law_all", "_law_like", "_law_fall", "_law_program", "_law_whole_lists", "_law_settles"]
def loose : List Str := loose0 ++ loose1 ++ loose2 ++ loose3 ++ loose4
abbrev R : PySem.W.OpenRow := PySem.W.OpenLaw.row PySem.Challenge.rw_sayswho_k63_whole_held_is_what_is_so
abbrev hk : PySem.W.Hook := He.hookX 4 fa fn [] [] ex
def ob (s : PySem.W.SharedT) : He.AlX := He.obsX 4 fa fn [] [] ex (HandSHeadRun.getT s)
theorem ob_eq (s : PySem.W.SharedT) : ob s = hk.obs s.abs := He.obsX_eq (HandSHeadRun.getT_eq s)
theorem run (w : World) : HandSHeadRun.RunEq R (PySem.W.view R.prog [84]) hk ob 3000 loose w := by
  intro os
  kernel_rfl
end SwH
/-! SwTop -/
set_option Elab.async false
set_option linter.all false
set_option maxRecDepth 100000
set_option maxHeartbeats 0
namespace SwH
open PySem PySem.W PySem.Calls PyProof.Rows
/-- the law holds, if its def keeps a word that tells True of each short list of whole numbers -/
theorem holds_of (F : ∀ (w : World) (mg : PySem.Str → Option Value) (fa : Addr) (h : Heap), SwH.hk.says w h → h.Ns mainGlobals mg → mg ("law" : PySem.Str) = some (.ref fa) →
      ∃ (K : PySem.W.Frag) (fd : FuncData) (sp : L2.Sp), K.In h ∧ (∀ (s : Shared) (u : Value), BindsTo s fd ⟨[u], []⟩ [("script", u)]) ∧
        (∀ (H : L2.Hp) (a : Addr) (ns : List Int), ns.length ≤ 63 → L2.Only H → L2.SqL K H a (ns.map L2.V.int) → sp [.ref a] H (fun v _ => v = .bl true) fun _ _ _ => False) ∧
        ∀ base : Heap, K.In base → base.Ns mainGlobals mg → L2.FnOk PySem.Challenge.rw_sayswho_k63_whole_held_is_what_is_so.prog w K mg base L2.CX0 15 fa fd ["script"] sp) : PySem.Challenge.rw_sayswho_k63_whole_held_is_what_is_so.Holds := by
  w_on; o_law
  refine HandSHeadRun.head_any (r := OpenLaw.row PySem.Challenge.rw_sayswho_k63_whole_held_is_what_is_so) (q := view (OpenLaw.row PySem.Challenge.rw_sayswho_k63_whole_held_is_what_is_so).prog [84]) (H := SwH.hk) (ob := SwH.ob) (M := 3000) (loose := SwH.loose) (d := HandSHeadRun.topDef (OpenLaw.row PySem.Challenge.rw_sayswho_k63_whole_held_is_what_is_so).prog 84) (kwd := []) SwH.ob_eq
    (by kernel_rfl) (fun s => by kernel_rfl) SwH.run (by kernel_rfl) (by kernel_rfl) (by kernel_rfl) (by rfl) (by first | assumption | decide +kernel) (by decide +kernel) ⟨rfl, rfl, rfl, rfl, rfl, by decide +kernel⟩ ?hw ?hc
  case hw => w_witness2
  case hc =>
    refine L2.walk_ofE (l := PySem.Challenge.rw_sayswho_k63_whole_held_is_what_is_so) (n := 63) (k := 15) (x := "script") (CX := L2.CX0) rfl (by decide) (by kernel_rfl) ⟨rfl, by decide, by decide⟩ ?F (fun _ _ _ _ z => z)
    intro w mg fa h Y G hmg0
    have hmg : mg ("law" : PySem.Str) = some (.ref fa) := by
      have e : (HandSHeadRun.topDef (OpenLaw.row PySem.Challenge.rw_sayswho_k63_whole_held_is_what_is_so).prog 84).name = ("law" : PySem.Str) := by kernel_rfl
      rw [← e]
      exact hmg0
    exact F w mg fa h Y G hmg
end SwH
/-! SwBase -/
set_option Elab.async false
set_option linter.all false
set_option maxRecDepth 100000
set_option maxHeartbeats 2000000
namespace L2
open PySem PySem.Spec PyProof.Rows

/-! ### data that stand still -/
theorem same_rd {H H' : Hp} {a : Addr} {u : HO} (e : Same H H') (h : Rd H a u) : Rd H' a u := by
  rcases h with h | ⟨o, h⟩
  · exact Or.inl (e a _ h)
  · exact Or.inr ⟨o, e a _ h⟩
theorem same_l {K : PySem.W.Frag} {H H' : Hp} {a : Addr} {xs : List V} (e : Same H H') (h : SqL K H a xs) : SqL K H' a xs := by
  rcases h with h | h
  · exact Or.inl (same_rd e h)
  · exact Or.inr h
theorem same_t {K : PySem.W.Frag} {H H' : Hp} {a : Addr} {xs : List V} (e : Same H H') (h : SqT K H a xs) : SqT K H' a xs := by
  rcases h with h | h
  · exact Or.inl (same_rd e h)
  · exact Or.inr h
mutual
theorem Dp.mono {K : PySem.W.Frag} {H H' : Hp} (e : Same H H') : ∀ (d : PyData) (v : V), Dp K H v d → Dp K H' v d
  | .none, _, h => by cases h; exact .non
  | .bool b, _, h => by cases h; exact .bl b
  | .int i, _, h => by cases h; exact .int i
  | .str x, _, h => by cases h; exact .str x
  | .list ds, _, h => by
    cases h with
    | lst hs ha => exact .lst (same_l e hs) (DpAll.mono e ds _ ha)
  | .tuple ds, _, h => by
    cases h with
    | tup hs ha => exact .tup (same_t e hs) (DpAll.mono e ds _ ha)
  | .dict _, _, h => by cases h
theorem DpAll.mono {K : PySem.W.Frag} {H H' : Hp} (e : Same H H') : ∀ (ds : List PyData) (vs : List V), DpAll K H vs ds → DpAll K H' vs ds
  | [], _, h => by cases h; exact .nil
  | d :: ds, _, h => by
    cases h with
    | cons h1 h2 => exact .cons (Dp.mono e d _ h1) (DpAll.mono e ds _ h2)
end
section
variable {K : PySem.W.Frag} {H H' : Hp} {v : V} {vs ws : List V} {d : PyData} {ds es : List PyData}
theorem Dp.up (h : Dp K H v d) (e : Same H H') : Dp K H' v d := Dp.mono e d v h
theorem DpAll.up (h : DpAll K H vs ds) (e : Same H H') : DpAll K H' vs ds := DpAll.mono e ds vs h
theorem Dp.int_inv {i : Int} (h : Dp K H v (.int i)) : v = .int i := by cases h; rfl
theorem Dp.str_inv {x : Str} (h : Dp K H v (.str x)) : v = .str x := by cases h; rfl
theorem Dp.bl_inv {b : Bool} (h : Dp K H v (.bool b)) : v = .bl b := by cases h; rfl
theorem Dp.non_inv (h : Dp K H v .none) : v = .non := by cases h; rfl
theorem Dp.list_inv (h : Dp K H v (.list ds)) : ∃ a xs, v = .ref a ∧ SqL K H a xs ∧ DpAll K H xs ds := by cases h with | lst hs ha => exact ⟨_, _, rfl, hs, ha⟩
theorem Dp.tup_inv (h : Dp K H v (.tuple ds)) : ∃ a xs, v = .ref a ∧ SqT K H a xs ∧ DpAll K H xs ds := by cases h with | tup hs ha => exact ⟨_, _, rfl, hs, ha⟩
theorem DpAll.length : ∀ {vs : List V} {ds : List PyData}, DpAll K H vs ds → vs.length = ds.length
  | _, [], h => by cases h; rfl
  | _, _ :: _, h => by
    cases h with
    | cons h1 h2 => rw [List.length_cons, List.length_cons, DpAll.length h2]
theorem DpAll.get : ∀ {vs : List V} {ds : List PyData} {i : Nat} {d : PyData}, DpAll K H vs ds → ds[i]? = some d → ∃ v, vs[i]? = some v ∧ Dp K H v d
  | _, [], _, _, _, e => by simp at e
  | _, _ :: _, 0, _, h, e => by
    cases h with
    | cons h1 h2 =>
      simp at e
      subst e
      exact ⟨_, rfl, h1⟩
  | _, _ :: _, i + 1, _, h, e => by
    cases h with
    | cons h1 h2 =>
      obtain ⟨v, q1, q2⟩ := DpAll.get (i := i) h2 (by simpa using e)
      exact ⟨v, by simpa using q1, q2⟩
theorem DpAll.getV : ∀ {vs : List V} {ds : List PyData} {i : Nat} {v : V}, DpAll K H vs ds → vs[i]? = some v → ∃ d, ds[i]? = some d ∧ Dp K H v d := fun {vs ds i v} h e => by
  have hl := h.length
  have hi : i < ds.length := by rw [← hl]; exact (List.getElem?_eq_some_iff.mp e).1
  obtain ⟨v', q1, q2⟩ := h.get (List.getElem?_eq_getElem hi)
  rw [e] at q1
  cases q1
  exact ⟨_, List.getElem?_eq_getElem hi, q2⟩
theorem DpAll.append : ∀ {vs ws : List V} {ds es : List PyData}, DpAll K H vs ds → DpAll K H ws es → DpAll K H (vs ++ ws) (ds ++ es)
  | _, _, [], _, h, k => by cases h; exact k
  | _, _, _ :: _, _, h, k => by
    cases h with
    | cons h1 h2 => exact .cons h1 (DpAll.append h2 k)
theorem DpAll.one (h : Dp K H v d) : DpAll K H [v] [d] := .cons h .nil
theorem DpAll.snoc (h : DpAll K H vs ds) (k : Dp K H v d) : DpAll K H (vs ++ [v]) (ds ++ [d]) := h.append (.one k)
theorem DpAll.take : ∀ (n : Nat) {vs : List V} {ds : List PyData}, DpAll K H vs ds → DpAll K H (vs.take n) (ds.take n)
  | 0, _, _, _ => by simp; exact .nil
  | n + 1, _, [], h => by cases h; exact .nil
  | n + 1, _, _ :: _, h => by
    cases h with
    | cons h1 h2 => exact .cons h1 (DpAll.take n h2)
theorem DpAll.drop : ∀ (n : Nat) {vs : List V} {ds : List PyData}, DpAll K H vs ds → DpAll K H (vs.drop n) (ds.drop n)
  | 0, _, _, h => h
  | n + 1, _, [], h => by cases h; exact .nil
  | n + 1, _, _ :: _, h => by
    cases h with
    | cons h1 h2 => exact DpAll.drop n h2
theorem DpAll.dropLast (h : DpAll K H vs ds) : DpAll K H vs.dropLast ds.dropLast := by
  rw [List.dropLast_eq_take, List.dropLast_eq_take, h.length]
  exact h.take _
theorem DpAll.reverse : ∀ {vs : List V} {ds : List PyData}, DpAll K H vs ds → DpAll K H vs.reverse ds.reverse
  | _, [], h => by cases h; exact .nil
  | _, _ :: _, h => by
    cases h with
    | cons h1 h2 =>
      rw [List.reverse_cons, List.reverse_cons]
      exact (DpAll.reverse h2).snoc h1
theorem DpAll.set : ∀ {vs : List V} {ds : List PyData} (i : Nat), DpAll K H vs ds → Dp K H v d → DpAll K H (vs.set i v) (ds.set i d)
  | _, [], _, h, _ => by cases h; exact .nil
  | _, _ :: _, 0, h, k => by
    cases h with
    | cons h1 h2 => exact .cons k h2
  | _, _ :: _, i + 1, h, k => by
    cases h with
    | cons h1 h2 => exact .cons h1 (DpAll.set i h2 k)
theorem DpAll.ints : ∀ (ns : List Int), DpAll K H (ns.map V.int) (ns.map PyData.int)
  | [] => .nil
  | n :: ns => .cons (.int n) (DpAll.ints ns)
theorem DpAll.ints_inv : ∀ {ns : List Int} {vs : List V}, DpAll K H vs (ns.map PyData.int) → vs = ns.map V.int
  | [], _, h => by cases h; rfl
  | n :: ns, _, h => by
    cases h with
    | cons h1 h2 => rw [h1.int_inv, DpAll.ints_inv h2]; rfl
end

/-! ### growth: B what stands still, H all that is tracked, X what may change -/
structure Gr (X : List Addr) (B H B' H' : Hp) : Prop where
  bb : Same B B'
  bh : Same B' H'
  hh : ∀ a o, a ∉ X → H a = some o → H' a = some o
  fr : ∀ a, a ∉ X → H a ≠ none → B a = none → B' a = none
  dm : ∀ a, H a ≠ none → H' a ≠ none
theorem Gr.same {B H B' H' : Hp} (g : Gr [] B H B' H') : Same H H' := fun a o e => g.hh a o (by simp) e
theorem Gr.refl {X : List Addr} {B H : Hp} (e : Same B H) : Gr X B H B H := ⟨Same.refl _, e, fun _ _ _ h => h, fun _ _ _ h => h, fun _ h => h⟩
theorem Gr.mono {X Y : List Addr} {B H B' H' : Hp} (g : Gr X B H B' H') (h : ∀ a, a ∈ X → a ∈ Y) : Gr Y B H B' H' := ⟨g.bb, g.bh, fun a o n e => g.hh a o (fun z => n (h a z)) e, fun a n => g.fr a (fun z => n (h a z)), g.dm⟩
theorem Gr.wide {X : List Addr} {B H B' H' : Hp} (g : Gr [] B H B' H') : Gr X B H B' H' := g.mono (by simp)
theorem Gr.trans {X Y : List Addr} {B H B1 H1 B2 H2 : Hp} (g : Gr X B H B1 H1) (k : Gr Y B1 H1 B2 H2) (hx : ∀ a, a ∈ Y → a ∈ X ∨ H a = none) : Gr X B H B2 H2 := by
  refine ⟨g.bb.trans k.bb, k.bh, fun a o n e => ?_, fun a n h b => ?_, fun a h => k.dm a (g.dm a h)⟩
  · refine k.hh a o (fun z => ?_) (g.hh a o n e)
    rcases hx a z with z | z
    · exact n z
    · rw [z] at e; cases e
  · refine k.fr a (fun z => ?_) (g.dm a h) (g.fr a n h b)
    rcases hx a z with z | z
    · exact n z
    · exact h z
theorem Gr.tr0 {X : List Addr} {B H B1 H1 B2 H2 : Hp} (g : Gr X B H B1 H1) (k : Gr [] B1 H1 B2 H2) : Gr X B H B2 H2 := g.trans k (by intro _ z; cases z)
/-- a free address is not among what stands still -/
theorem Same.nn {B H : Hp} (e : Same B H) {p : Addr} (h : H p = Option.none) : B p = none := e.free h
theorem Same.upW {B H : Hp} (e : Same B H) {p : Addr} {o : HO} (h : B p = none) : Same B (upd H p o) := fun a u q => by
  have n : a ≠ p := ne_of_none q h
  rw [upd_ne n]
  exact e a u q
theorem Same.new {H : Hp} {p : Addr} {o : HO} (h : H p = Option.none) : Same H (L2.upd H p o) := (Same.refl H).upW h
theorem Same.both {B H : Hp} (e : Same B H) {p : Addr} {o : HO} : Same (L2.upd B p o) (L2.upd H p o) := fun a u q => by
  by_cases n : a = p
  · subst n; rw [upd_same] at q ⊢; exact q
  · rw [upd_ne n] at q ⊢; exact e a u q
theorem upd_dm {H : Hp} {p : Addr} {o : HO} (a : Addr) (h : H a ≠ none) : L2.upd H p o a ≠ none := by
  by_cases n : a = p
  · subst n; rw [upd_same]; simp
  · rw [upd_ne n]; exact h
/-- a new thing that stands still -/
theorem Gr.new {X : List Addr} {B H : Hp} (e : Same B H) {p : Addr} {o : HO} (h : H p = Option.none) : Gr X B H (upd B p o) (upd H p o) :=
  ⟨Same.new (e.nn h), e.both, fun a u _ q => Same.new h a u q, fun a _ n b => by
    have z : a ≠ p := fun z => n (by rw [z]; exact h)
    rw [upd_ne z]; exact b, upd_dm⟩
/-- a new thing that may change -/
theorem Gr.newM {X : List Addr} {B H : Hp} (e : Same B H) {p : Addr} {o : HO} (h : H p = Option.none) : Gr X B H B (upd H p o) :=
  ⟨Same.refl _, e.upW (e.nn h), fun a u _ q => Same.new h a u q, fun a _ n b => b, upd_dm⟩
/-- a thing that may change changes -/
theorem Gr.chg {X : List Addr} {B H : Hp} (e : Same B H) {p : Addr} {o : HO} (h : p ∈ X) (hb : B p = none) : Gr X B H B (upd H p o) :=
  ⟨Same.refl _, e.upW hb, fun a u n q => by
    have z : a ≠ p := fun z => n (by rw [z]; exact h)
    rw [upd_ne z]; exact q, fun a _ n b => b, upd_dm⟩
theorem Same.frz {B H : Hp} (e : Same B H) {p : Addr} {o : HO} (h1 : H p = some o) : Same (L2.upd B p o) H := fun a u q => by
  by_cases z : a = p
  · subst z; rw [upd_same] at q; cases q; exact h1
  · rw [upd_ne z] at q; exact e a u q
/-- a thing that may change stands still from here on -/
theorem Gr.freeze {X : List Addr} {B H : Hp} (e : Same B H) {p : Addr} {o : HO} (h : p ∈ X) (hb : B p = none) (h1 : H p = some o) : Gr X B H (L2.upd B p o) H :=
  ⟨Same.new hb, e.frz h1, fun a u _ q => q, fun a n _ b => by
    have z : a ≠ p := fun z => n (by rw [z]; exact h)
    rw [upd_ne z]; exact b, fun _ h => h⟩
end L2
namespace Sw
abbrev D := PySem.PyData
theorem small_le {n : Nat} (h : n ≤ 10000000) : n ≤ PySem.sizeLine := Nat.le_trans h (by decide)
theorem small_lt {n : Nat} (h : n < 10000000) : n < PySem.sizeLine := Nat.lt_of_lt_of_le h (by decide)
end Sw
/-! SwDn -/
set_option Elab.async false
set_option linter.all false
set_option maxRecDepth 100000
set_option maxHeartbeats 2000000
namespace Sw
open PySem L2
abbrev NK := PySem.NestedKey
abbrev Ent := NK × Addr × Value
/-! ### a dict whose keys are nested keys: its one object, as it is -/
section
variable (P : Program) (w : World)
def dObj (xs : List Ent) (ep : Nat) : Obj := { cls := .type "dict", data := .dict (xs.map (entryOfKey (nestedKind P w))).toArray ep }
def dn (a : Addr) (xs : List Ent) (ep : Nat) : HO := .ext fun h => (a == sysModules) = false ∧ xs.length ≤ sizeLine ∧ h.get? a = some (dObj P w xs ep)
end
/-- the value at b is the key k -/
def KeyAt (K : PySem.W.Frag) (B : Hp) (b : Addr) (k : NK) : Prop := Dp K B (.ref b) k.data ∧ k.depth ≤ 8
/-- the entries' keys, values -/
def KN (K : PySem.W.Frag) (B : Hp) : List (NK × V) → List Ent → Prop := Paired fun p q => p.1 = q.1 ∧ KeyAt K B q.2.1 p.1 ∧ RelV p.2 q.2.2
/-- at a stands a dict with these keys, values -/
def DN (P : Program) (w : World) (K : PySem.W.Frag) (B H : Hp) (a : Addr) (kvs : List (NK × V)) : Prop := ∃ xs ep, H a = some (dn P w a xs ep) ∧ KN K B kvs xs ∧ (xs.map (·.1)).Nodup
section
variable {P : Program} {w : World} {K : PySem.W.Frag} {B B' H H' : Hp} {a b : Addr} {kvs : List (NK × V)} {xs : List Ent} {ep : Nat} {k : NK} {v : V} {u : Value}
theorem KeyAt.up (h : KeyAt K B b k) (e : Same B B') : KeyAt K B' b k := ⟨h.1.up e, h.2⟩
theorem KN.up (h : KN K B kvs xs) (e : Same B B') : KN K B' kvs xs := Paired.mapP h fun _ _ z => ⟨z.1, z.2.1.up e, z.2.2⟩
theorem DN.up (h : DN P w K B H a kvs) (e : Same B B') (he : H' a = H a) : DN P w K B' H' a kvs := by
  obtain ⟨xs, ep, h1, h2, h3⟩ := h
  exact ⟨xs, ep, he.trans h1, h2.up e, h3⟩
theorem DN.ups (h : DN P w K B H a kvs) (e : Same B B') (he : Same H H') : DN P w K B' H' a kvs := by
  obtain ⟨xs, ep, h1, h2, h3⟩ := h
  exact ⟨xs, ep, he _ _ h1, h2.up e, h3⟩
theorem KN.val (r : KN K B kvs xs) (k : NK) : RelO (valV kvs k) ((atKey xs k).map (·.2)) := by
  induction r with
  | nil => exact True.intro
  | @cons p q ps qs h t ih =>
    obtain ⟨h1, _, h2⟩ := h
    by_cases e : p.1 = k
    · have e' : q.1 = k := h1.symm.trans e
      have b : atKey (q :: qs) k = some q.2 := by simp [atKey, List.find?_cons, e']
      rw [valV_pos e, b]; exact h2
    · have e' : ¬ q.1 = k := fun z => e (h1.trans z)
      have b : atKey (q :: qs) k = atKey qs k := by simp [atKey, List.find?_cons, e']
      rw [valV_neg e, b]; exact ih
theorem KN.repl (r : KN K B kvs xs) (k : NK) (ry : RelV v u) : KN K B (kvs.map fun kv => if kv.1 = k then (kv.1, v) else kv) (xs.map (putAt k u)) := by
  induction r with
  | nil => exact .nil
  | @cons p q ps qs h t ih =>
    rw [List.map_cons, List.map_cons]
    refine .cons ?_ ih
    obtain ⟨h1, h2, h3⟩ := h
    unfold putAt
    by_cases e : p.1 = k
    · rw [if_pos e, if_pos (h1.symm.trans e)]; exact ⟨h1, h2, ry⟩
    · rw [if_neg e, if_neg (fun z => e (h1.trans z))]; exact ⟨h1, h2, h3⟩
theorem KN.put (r : KN K B kvs xs) (k : NK) (hb : KeyAt K B b k) (ry : RelV v u) : KN K B (putK kvs k v) (storedH xs k b u) := by
  have e : (kvs.any fun kv => decide (kv.1 = k)) = (atKey xs k).isSome := by
    rw [valV_any, (r.val k).isSome_eq, Option.isSome_map]
  unfold putK storedH
  rw [e]
  by_cases q : (atKey xs k).isSome = true
  · rw [if_pos q, if_pos q]; exact r.repl k ry
  · rw [if_neg q, if_neg q]; exact Paired.snoc r ⟨rfl, hb, ry⟩
theorem KN.len (r : KN K B kvs xs) : kvs.length = xs.length := Paired.length r
end
/-! ### the keys in the heap -/
section
variable {X : Cx} {pins : List (Addr × Obj)} {σ : L2.St} {H : Hp} {s : Shared}
mutual
theorem nested_of (I : Inv X pins σ H s) : ∀ (k : NK) (v : V) (u : Value), Dp X.K H v k.data → RelV v u → NestedIs s.heap k u
  | .none, _, _, h, r => by
    rw [NestedKey.data] at h
    rw [h.non_inv] at r
    cases (show _ = Value.none from r)
    exact .none
  | .num i, _, _, h, r => by
    rw [NestedKey.data] at h
    rw [h.int_inv] at r
    obtain ⟨t, rfl⟩ := (show ∃ t, _ = Value.int i t from r)
    exact .int i t
  | .text x, _, _, h, r => by
    rw [NestedKey.data] at h
    rw [h.str_inv] at r
    obtain ⟨t, rfl⟩ := (show ∃ t, _ = Value.str x t from r)
    exact .text x t
  | .tup ks, _, _, h, r => by
    rw [NestedKey.data] at h
    obtain ⟨a, ys, rfl, hs, hall⟩ := h.tup_inv
    cases (show _ = Value.ref a from r)
    obtain ⟨its, rv, ⟨o, ho, hc, n, hd⟩, _⟩ := I.tuple hs
    exact .tup ho hc hd (nested_all I ks ys its hall rv)
theorem nested_all (I : Inv X pins σ H s) : ∀ (ks : List NK) (vs : List V) (us : List Value), DpAll X.K H vs (NestedKey.datas ks) → Vals vs us → NestedAll s.heap ks us
  | [], _, _, h, r => by
    rw [NestedKey.datas] at h
    cases h
    cases r
    exact .nil
  | k :: ks, _, _, h, r => by
    rw [NestedKey.datas] at h
    cases h with
    | cons h1 h2 =>
      cases r with
      | cons r1 r2 => exact .cons (nested_of I k _ _ h1 r1) (nested_all I ks _ _ h2 r2)
end
end

section
variable {X : Cx} {pins : List (Addr × Obj)} {σ : L2.St} {H B : Hp} {s : Shared} {a b : Addr} {kvs : List (NK × V)} {xs : List Ent} {ep : Nat} {k : NK} {v : V}
theorem key_is (I : Inv X pins σ H s) (bh : Same B H) (h : KeyAt X.K B b k) : (nestedKind X.prog X.w).is s.heap k b := ⟨nested_of I k _ _ (h.1.up bh) rfl, h.2⟩
theorem dn_at (I : Inv X pins σ H s) (h : H a = some (dn X.prog X.w a xs ep)) : (a == sysModules) = false ∧ xs.length ≤ sizeLine ∧ s.heap.get? a = some (dObj X.prog X.w xs ep) := (I.hok a _ h).1
theorem ents_of {P : Program} {w : World} (es : Array DictEntry) (h : es.toList = xs.map (entryOfKey (nestedKind P w))) : es = (xs.map (entryOfKey (nestedKind P w))).toArray := by
  rw [← h]
theorem exact_obj {o : Obj} {es : Array DictEntry} (h : o.ExactDict) (hd : o.data = .dict es ep) : o = { cls := .type "dict", data := .dict es ep } := by
  obtain ⟨oc, od, dt, sl⟩ := o
  obtain ⟨h1, h2, h3⟩ := h
  simp only at h1 h2 h3 hd
  subst h1 h2 h3 hd
  rfl
theorem kn_is (I : Inv X pins σ H s) (bh : Same B H) (r : KN X.K B kvs xs) : ∀ x ∈ xs, (nestedKind X.prog X.w).is s.heap x.1 x.2.1 := by
  induction r with
  | nil => intro x hx; exact nomatch hx
  | @cons p q ps qs h t ih =>
    intro x hx
    rcases List.mem_cons.mp hx with e | hx
    · subst e
      have := key_is I bh h.2.1
      rw [h.1] at this
      exact this
    · exact ih x hx
theorem dn_of (I : Inv X pins σ H s) (bh : Same B H) (h : H a = some (dn X.prog X.w a xs ep)) (r : KN X.K B kvs xs) (nd : (xs.map (·.1)).Nodup) : s.heap.DictOfH (nestedKind X.prog X.w) a xs :=
  ⟨_, _, ep, (dn_at I h).2.2, ⟨rfl, rfl, rfl⟩, rfl, rfl, kn_is I bh r, nd⟩
/-- it is laid anew, changed -/
theorem dn_write {h' : Heap} {t' : Nat} {xs' : List Ent} (I : Inv X pins σ H s) (h : H a = some (dn X.prog X.w a xs ep)) (hs : Heap.SameBut a s.heap h') (hl : xs'.length ≤ sizeLine) (hd : h'.DictOfH (nestedKind X.prog X.w) a xs') :
    ∃ ep', Inv X pins σ (upd H a (dn X.prog X.w a xs' ep')) { s with heap := h', toks := t' } := by
  obtain ⟨o, es, ep', ho, hx, hdat, he, _, _⟩ := hd
  have eo : o = dObj X.prog X.w xs' ep' := by
    rw [exact_obj hx hdat, ents_of es he]
    rfl
  subst eo
  refine ⟨ep', I.write (x := a) (e := a) (by rw [h]; exact True.intro) (.inl rfl) (fun b q hb z => (hs.2 b hb).trans z) ⟨_, ho⟩ ?_⟩
  exact ⟨⟨(dn_at I h).1, hl, ho⟩, ⟨_, ho⟩, fun h1 h2 q k => ⟨q.1, q.2.1, k _ q.2.2⟩⟩
end
/-! ### readings -/
section
variable (P : Program) (w : World) (K : PySem.W.Frag)
/-- {} -/
def tNNew : TE := fun _ H Q => ∀ p, H p = none → Q (.ref p) (upd H p (dn P w p [] 0))
/-- what the dict at x has of the key y -/
def NAt (H : Hp) (x y : V) (r : Option V) : Prop := ∃ B a b k kvs, x = .ref a ∧ y = .ref b ∧ Same B H ∧ DN P w K B H a kvs ∧ KeyAt K B b k ∧ r = valV kvs k
def tNGet (td ty : TE) : TE := fun σ H Q => td σ H fun x H1 => ty σ H1 fun y H2 => ∃ v, NAt P w K H2 x y (some v) ∧ Q v H2
def tNIn (ty td : TE) : TE := fun σ H Q => ty σ H fun y H1 => td σ H1 fun x H2 => ∃ o, NAt P w K H2 x y o ∧ Q (.bl o.isSome) H2
def tNNotIn (ty td : TE) : TE := fun σ H Q => ty σ H fun y H1 => td σ H1 fun x H2 => ∃ o, NAt P w K H2 x y o ∧ Q (.bl (!o.isSome)) H2
def NPut (H : Hp) (x y v : V) (R : Hp → Prop) : Prop := ∃ B a b k kvs, x = .ref a ∧ y = .ref b ∧ Same B H ∧ DN P w K B H a kvs ∧ KeyAt K B b k ∧ kvs.length < sizeLine ∧ ∀ xs ep, KN K B (putK kvs k v) xs → (xs.map (·.1)).Nodup → R (upd H a (dn P w a xs ep))
def sNPut (td ty tv : TE) : TS := fun D σ H => tv σ H fun v H1 => td σ H1 fun x H2 => ty σ H2 fun y H3 => NPut P w K H3 x y v fun H4 => D.nx σ H4
end
section
variable {X : Cx} {o i e value : Expr} {pos pos' tpos : Pos} {td ty tv : TE} {pins : List (Addr × Obj)} {σ : L2.St} {H : Hp} {s : Shared}
theorem pe_nnew : PE X (.Dict [] [] pos) (tNNew X.prog X.w) := ⟨fun pins s σ H Q I h =>
  wpAny_Dict_empty ⟨.ref s.heap.objs.size, _, I.laid (a := s.heap.objs.size) (o := dn X.prog X.w s.heap.objs.size [] 0) (t' := s.toks) (fun _ _ q => Heap.get?_push_of_some _ q) (Nat.le_refl _)
    ⟨⟨beq_eq_false_iff_ne.mpr (Ne.symm (Nat.ne_of_lt I.big)), Nat.zero_le _, Heap.get?_push_size _ rfl⟩, ⟨_, Heap.get?_push_size _ rfl⟩, fun h1 h2 q k => ⟨q.1, q.2.1, k _ q.2.2⟩⟩, rfl, h _ (I.hok.fresh (Nat.le_refl _))⟩⟩
theorem n_get {x y v : V} {xv yv : Value} {Q : Value → Shared → Prop} {A : Around} {E : Value → Shared → Prop} (hu : A.units + 64 < cLine) (I : Inv X pins σ H s) (g : NAt X.prog X.w X.K H x y (some v)) (rx : RelV x xv) (ry : RelV y yv) (h : ∀ w' s', Inv X pins σ H s' → RelV v w' → Q w' s') :
    s.TypeIs xv "dict" ∧ wpAny (model X.prog X.w) A (getItem xv yv) Q E s := by
  obtain ⟨B, a, b, k, kvs, rfl, rfl, bh, ⟨xs, ep, ha, kn, nd⟩, hk, hr⟩ := g
  cases (show xv = Value.ref a from rx)
  cases (show yv = Value.ref b from ry)
  have dd := dn_of I bh ha kn nd
  refine ⟨dd.typeIs, ?_⟩
  obtain ⟨w', hw, rw'⟩ := RelO.some_of (v := v) (o := (atKey xs k).map (·.2)) (by rw [hr]; exact kn.val k)
  obtain ⟨p, hp, hp2⟩ := Option.map_eq_some_iff.mp hw
  refine wpAny_getItem_heap (by show A.units + 1 + 8 < cLine; omega) (key_is I bh hk) dd hp ?_
  rw [hp2]
  exact h w' _ (I.tok _) rw'
theorem n_in {x y : V} {r : Option V} {xv yv : Value} {Q : Value → Shared → Prop} {A : Around} {E : Value → Shared → Prop} (hu : A.units + 64 < cLine) (I : Inv X pins σ H s) (g : NAt X.prog X.w X.K H x y r) (rx : RelV x xv) (ry : RelV y yv) (h : ∀ s', Inv X pins σ H s' → Q (.bool r.isSome) s') :
    wpAny (model X.prog X.w) A (compareOp .In yv xv) Q E s := by
  obtain ⟨B, a, b, k, kvs, rfl, rfl, bh, ⟨xs, ep, ha, kn, nd⟩, hk, hr⟩ := g
  cases (show xv = Value.ref a from rx)
  cases (show yv = Value.ref b from ry)
  refine wpAny_in_heap (by show A.units + 1 + 8 < cLine; omega) (key_is I bh hk) (dn_at I ha).1 (dn_of I bh ha kn nd) ?_
  have q := (kn.val k).isSome_eq
  rw [Option.isSome_map] at q
  rw [← q, ← hr]
  exact h _ (I.tok _)
theorem n_notIn {x y : V} {r : Option V} {xv yv : Value} {Q : Value → Shared → Prop} {A : Around} {E : Value → Shared → Prop} (hu : A.units + 64 < cLine) (I : Inv X pins σ H s) (g : NAt X.prog X.w X.K H x y r) (rx : RelV x xv) (ry : RelV y yv) (h : ∀ s', Inv X pins σ H s' → Q (.bool (!r.isSome)) s') :
    wpAny (model X.prog X.w) A (compareOp .NotIn yv xv) Q E s := by
  obtain ⟨B, a, b, k, kvs, rfl, rfl, bh, ⟨xs, ep, ha, kn, nd⟩, hk, hr⟩ := g
  cases (show xv = Value.ref a from rx)
  cases (show yv = Value.ref b from ry)
  refine PyProof.Rows.wpAny_notIn_heap (by show A.units + 1 + 8 < cLine; omega) (key_is I bh hk) (dn_at I ha).1 (dn_of I bh ha kn nd) ?_
  have q := (kn.val k).isSome_eq
  rw [Option.isSome_map] at q
  rw [← q, ← hr]
  exact h _ (I.tok _)
theorem n_set {x y v : V} {xv yv vv : Value} {R : Hp → Prop} {Q : Unit → Shared → Prop} {A : Around} {E : Value → Shared → Prop} (hu : A.units + 64 < cLine) (I : Inv X pins σ H s) (g : NPut X.prog X.w X.K H x y v R) (rx : RelV x xv) (ry : RelV y yv) (rv : RelV v vv)
    (h : ∀ H' s', Inv X pins σ H' s' → R H' → Q () s') : wpAny (model X.prog X.w) A (setItem xv yv vv) Q E s := by
  obtain ⟨B, a, b, k, kvs, rfl, rfl, bh, ⟨xs, ep, ha, kn, nd⟩, hk, hl, hR⟩ := g
  cases (show xv = Value.ref a from rx)
  cases (show yv = Value.ref b from ry)
  have dd := dn_of I bh ha kn nd
  have hz : xs.length ≤ sizeLine := by rw [← kn.len]; exact Nat.le_of_lt hl
  refine wpAny_setItem_heap (hsz := hz) (by show A.units + 1 + 8 < cLine; omega) (key_is I bh hk) dd fun h' dd' hs => ?_
  have kn' := kn.put k hk rv
  have hz' : (storedH xs k b vv).length ≤ sizeLine := by
    rw [← kn'.len]
    have := length_putK kvs k v
    omega
  obtain ⟨ep', I'⟩ := dn_write (t' := s.toks + (nestedKind X.prog X.w).draws k) I ha hs hz' dd'
  exact h _ _ I' (hR _ ep' kn' dd'.nodup)
theorem pe_nget (hu : X.A.units + 64 < cLine) (ho : PE X o td) (hi : PE X i ty) (hs : NoSl i) : PE X (.Subscript o i pos) (tNGet X.prog X.w X.K td ty) := by
  refine ⟨fun pins s σ H Q I h => ?_⟩
  refine subD_of PySem.F.slot_dict_getitem.lookup hs (thn (ho.run pins s σ H _ I h) fun u s1 ⟨x, H1, I1, rx, q1⟩ => thn (hi.run pins s1 σ H1 _ I1 q1) fun iv s2 ⟨y, H2, I2, ry, v, g, q2⟩ => ?_)
  exact n_get hu I2 g rx ry fun w' s3 I3 rw' => ⟨v, H2, I3, rw', q2⟩
theorem pc_nin (hu : X.A.units + 64 < cLine) (hi : PE X i ty) (ho : PE X o td) : PC X .In i o (tNIn X.prog X.w X.K ty td) := by
  refine ⟨fun pins s σ H Q I h => ?_⟩
  refine thn (hi.run pins s σ H _ I h) fun iv s1 ⟨y, H1, I1, ry, q1⟩ => thn (ho.run pins s1 σ H1 _ I1 q1) fun u s2 ⟨x, H2, I2, rx, ov, g, q2⟩ => ?_
  exact n_in hu I2 g rx ry fun s3 I3 => ⟨.bl ov.isSome, H2, I3, rfl, q2⟩
theorem pc_nnotin (hu : X.A.units + 64 < cLine) (hi : PE X i ty) (ho : PE X o td) : PC X .NotIn i o (tNNotIn X.prog X.w X.K ty td) := by
  refine ⟨fun pins s σ H Q I h => ?_⟩
  refine thn (hi.run pins s σ H _ I h) fun iv s1 ⟨y, H1, I1, ry, q1⟩ => thn (ho.run pins s1 σ H1 _ I1 q1) fun u s2 ⟨x, H2, I2, rx, ov, g, q2⟩ => ?_
  exact n_notIn hu I2 g rx ry fun s3 I3 => ⟨.bl (!ov.isSome), H2, I3, rfl, q2⟩
theorem ps_nput (hu : X.A.units + 64 < cLine) (ho : PE X o td) (hi : PE X i ty) (hv : PE X value tv) (hs : swapsWith value (some (.Subscript o i pos')) pos.line X.env = pure false) :
    PS X (.Assign [.Subscript o i pos'] value pos) (sNPut X.prog X.w X.K td ty tv) := by
  refine ⟨fun pins s σ H D I h => ?_⟩
  refine wpAny_Assign_Subscript (thn (hv.run pins s σ H _ I h) fun r s1 ⟨v, H1, I1, rv, q1⟩ => thn (ho.run pins s1 σ H1 _ I1 q1) fun u s2 ⟨x, H2, I2, rx, q2⟩ => thn (hi.run pins s2 σ H2 _ I2 q2) fun iv s3 ⟨y, H3, I3, ry, g⟩ => ?_) hs
  exact n_set hu I3 g rx ry rv fun H4 s4 I4 q => ⟨σ, H4, I4, q⟩
end
/-! ### walks -/
section
variable {P : Program} {w : World} {K : PySem.W.Frag} {tg : Expr}
/-- the keys -/
def Itn (P : Program) (w : World) (a : Addr) (xs : List Ent) (ep : Nat) : It :=
  ⟨fun i H => H a = some (dn P w a xs ep) ∧ i < xs.length, fun i H x H' => H' = H ∧ ∃ e, xs[i]? = some e ∧ x = .ref e.2.1, fun i H => H a = some (dn P w a xs ep) ∧ xs.length ≤ i⟩
/-- the pairs, each a new tuple -/
def Itni (P : Program) (w : World) (a : Addr) (xs : List Ent) (ep : Nat) : It :=
  ⟨fun i H => H a = some (dn P w a xs ep) ∧ ∃ e v, xs[i]? = some e ∧ RelV v e.2.2, fun i H x H' => ∃ T e v, xs[i]? = some e ∧ RelV v e.2.2 ∧ x = .ref T ∧ H T = none ∧ H' = upd H T (.tup [.ref e.2.1, v]), fun i H => H a = some (dn P w a xs ep) ∧ xs.length ≤ i⟩
theorem ent_at {xs : List Ent} {i : Nat} (hi : i < xs.length) : (xs.map (entryOfKey (nestedKind P w))).toArray[i]? = some (entryOfKey (nestedKind P w) xs[i]) := by
  simp [hi]
theorem turn_keysN {a : Addr} {xs : List Ent} {ep : Nat} (it : Addr) : Turn P w K tg (Itn P w a xs ep) [it] it (fun i h => h.IsKeyIter it a i xs.length ep) where
  mem := by simp
  obj := fun i h st b hb => by
    have e : b = it := by simpa using hb
    subst e
    obtain ⟨oi, e, c, dd⟩ := st
    exact ⟨oi, e, fun v z => by rw [dd] at z; cases z⟩
  keep := fun i h h' st k => st.at fun oi e => k it (by simp) oi e
  item := by
    intro X hP hw hK hc i pins s σ H E I hf st hg
    subst hP hw hK
    obtain ⟨hd, hi⟩ := hg
    obtain ⟨f0, f1, f2, f3, f4, f5⟩ := hf it (by simp)
    obtain ⟨hs, hl, hgd⟩ := dn_at I hd
    refine next_key_item st hgd rfl (by simp) (ent_at hi) fun h' st' sb => ?_
    have I1 : Inv X pins σ H { s with heap := h' } := I.turned (t' := s.toks) (fun b ob hb e => (sb.2 b hb).trans e) f0 f1 f3 f4 f5
    obtain ⟨oi, e, c, dd⟩ := id st'
    exact ⟨_, rfl, go_of (s := { s with heap := h' }) e c dd (by decide) ⟨.ref xs[i].2.1, H, I1, rfl, ⟨rfl, xs[i], List.getElem?_eq_getElem hi, rfl⟩, st', fun b hb => (hf b hb).1⟩⟩
  done := by
    intro X hP hw hK hc i pins s σ H E I hf st hg
    subst hP hw hK
    obtain ⟨hd, hi⟩ := hg
    obtain ⟨f0, f1, f2, f3, f4, f5⟩ := hf it (by simp)
    obtain ⟨hs, hl, hgd⟩ := dn_at I hd
    exact next_key_end (I.ok.hd hc) st hgd rfl (by simp) hi fun h' eb => ⟨rfl, I.turned (t' := s.toks) (fun b ob hb e => eb b ob hb e) f0 f1 f3 f4 f5⟩
  self := fun A i s Q E st h => by
    refine wpAny_pyIter_slot st.typeIs F.slot_dict_keyiterator_iter (wpAny_call_entry F.slot_dict_keyiterator_iter st.typeIs F.entry_dict_keyiterator_iter ?_ (F.args_dict_keyiterator_iter_1 _))
    show wpAny _ _ (ret (.ref it)) _ _ s
    exact wpAny_pure ⟨_, rfl, "dict_keyiterator", _, st.typeIs, F.slot_dict_keyiterator_next.lookup, h⟩
theorem dn_raw {X : Cx} {pins : List (Addr × Obj)} {σ : L2.St} {H : Hp} {s : Shared} {a : Addr} {xs : List Ent} {ep : Nat} (I : Inv X pins σ H s) (h : H a = some (dn X.prog X.w a xs ep)) : s.heap.DictRaw a (xs.map (entryOfKey (nestedKind X.prog X.w))).toArray ep :=
  ⟨_, (dn_at I h).2.2, ⟨rfl, rfl, rfl⟩, rfl⟩
theorem turn_itemsN {a : Addr} {xs : List Ent} {ep : Nat} {elts : List Expr} {kk : Nat} {tpos : Pos} (it : Addr) :
    Turn P w K (.Tuple elts kk tpos) (Itni P w a xs ep) [it] it (fun i h => ∃ ok ov, IsItemIter h it a i xs.length ep ok ov) where
  mem := by simp
  obj := fun i h st b hb => by
    have e : b = it := by simpa using hb
    subst e
    obtain ⟨ok, ov, e⟩ := st
    exact ⟨_, e, fun v z => nomatch z⟩
  keep := fun i h h' st k => let ⟨ok, ov, e⟩ := st; ⟨ok, ov, k it (by simp) _ e⟩
  item := by
    intro X hP hw hK hc i pins s σ H E I hf st hg
    subst hP hw hK
    obtain ⟨hd, en, v, hen, rv⟩ := hg
    have hi : i < xs.length := (List.getElem?_eq_some_iff.mp hen).1
    have een : xs[i] = en := (List.getElem?_eq_some_iff.mp hen).2
    obtain ⟨hs, hl, hgd⟩ := dn_at I hd
    obtain ⟨ok, ov, he⟩ := st
    have hlt : it < s.heap.objs.size := Heap.lt_size he
    have hsz : (xs.map (entryOfKey (nestedKind X.prog X.w))).toArray.size = xs.length := by simp
    rw [← hsz] at he
    refine wpAny_pyNext_items_item_raw he (dn_raw I hd) (by rw [hsz]; exact hi) fun h' ho hT hz hk => ?_
    refine ⟨_, rfl, wpAny_letOwnedTupleGo_items (s := { s with heap := h' }) ho fun h'' he' sb => ?_⟩
    have hT2 : h''.get? s.heap.objs.size = some { cls := .type "tuple", data := .seq #[(xs.map (entryOfKey (nestedKind X.prog X.w))).toArray[i].key, (xs.map (entryOfKey (nestedKind X.prog X.w))).toArray[i].val] } := (sb.2 _ (Nat.ne_of_gt hlt)).trans hT
    have ek : (xs.map (entryOfKey (nestedKind X.prog X.w))).toArray[i].key = .ref xs[i].2.1 := by simp [entryOfKey]
    have ev : (xs.map (entryOfKey (nestedKind X.prog X.w))).toArray[i].val = xs[i].2.2 := by simp [entryOfKey]
    rw [ek, ev] at hT2
    rw [een] at hT2
    have new : ObjOk X.prog X.w (upd H s.heap.objs.size (.tup [.ref en.2.1, v])) h'' s.heap.objs.size (.tup [.ref en.2.1, v]) :=
      ⟨by show 2 ≤ sizeLine; decide, [.ref en.2.1, en.2.2], .cons rfl (.cons rv .nil), ⟨_, hT2, rfl, _, rfl⟩⟩
    have I1 : Inv X pins σ (upd H s.heap.objs.size (.tup [.ref en.2.1, v])) { s with heap := h'' } :=
      I.turnedNew (t' := s.toks) (ch := [it]) (fun b ob hb e => (sb.2 b (by simpa using hb)).trans (hk b ob (by simpa using hb) e)) hf (Nat.le_refl _) new
    refine ⟨.ref s.heap.objs.size, _, I1, rfl, ⟨_, en, v, hen, rv, rfl, I.hok.fresh (Nat.le_refl _), rfl⟩, ⟨_, _, by rw [ek, ev, hsz] at he'; exact he'⟩, fun b hb => ?_⟩
    · have e : b = it := by simpa using hb
      rw [e, upd_ne (Nat.ne_of_lt hlt)]
      exact (hf it (by simp)).1
  done := by
    intro X hP hw hK hc i pins s σ H E I hf st hg
    subst hP hw hK
    obtain ⟨hd, hi⟩ := hg
    obtain ⟨f0, f1, f2, f3, f4, f5⟩ := hf it (by simp)
    have hsz : (xs.map (entryOfKey (nestedKind X.prog X.w))).toArray.size = xs.length := by simp
    obtain ⟨ok, ov, he⟩ := st
    rw [← hsz] at he
    exact wpAny_pyNext_items_end_raw (I.ok.hd hc) he (dn_raw I hd) (by rw [hsz]; exact hi) fun h' eb => ⟨rfl, I.turned (t' := s.toks) (fun b ob hb e => eb b ob hb e) f0 f1 f3 f4 f5⟩
  self := fun A i s Q E st h => let ⟨_, _, e⟩ := st; PySem.W.kcp_self e h
end
section
variable {X : Cx} {tg e : Expr} {td : TE} {apos cpos : Pos}
def iKeysN (P : Program) (w : World) (td : TE) : TI := fun σ H R => td σ H fun x H1 => ∃ a xs ep, x = .ref a ∧ H1 a = some (dn P w a xs ep) ∧ R (Itn P w a xs ep) H1
def iItemsN (P : Program) (w : World) (td : TE) : TI := fun σ H R => td σ H fun x H1 => ∃ a xs ep, x = .ref a ∧ H1 a = some (dn P w a xs ep) ∧ R (Itni P w a xs ep) H1
theorem pi_keysN (he : PE X e td) : PI X tg e (iKeysN X.prog X.w td) := by
  refine ⟨fun pins s σ H R I h => ?_⟩
  refine thn (he.run pins s σ H _ I h) fun u s1 ⟨x, H1, I1, rx, a, xs, ep, ex, hd, q⟩ => ?_
  subst ex
  obtain rfl : u = Value.ref a := rx
  obtain ⟨hs, hl, hgd⟩ := dn_at I1 hd
  refine iter_keys hs hgd ⟨rfl, rfl, rfl⟩ rfl (pi_one (tk := s1.toks) I1 _ (turn_keysN _) ⟨_, Heap.get?_push_size _ rfl, rfl, ?_⟩ q)
  simp
theorem pi_itemsN {elts : List Expr} {kk : Nat} {tpos : Pos} (he : PE X e td) (hbase : attributeBase e "items" X.env (eval e X.env) = eval e X.env := by rfl) (hline : (apos.endLine == cpos.line) = true := by rfl) :
    PI X (.Tuple elts kk tpos) (.Call (.Attribute e "items" apos) [] [] cpos) (iItemsN X.prog X.w td) := by
  refine ⟨fun pins s σ H R I h => ?_⟩
  refine wpAny_Call_method (T := "dict") (id := "dict.items") hbase rfl hline F.plainAttrs_dict F.slot_dict_items F.type_dict_items (thn (he.run pins s σ H _ I h) fun u s1 ⟨x, H1, I1, rx, a, xs, ep, ex, hd, q⟩ => ?_)
  subst ex
  obtain rfl : u = Value.ref a := rx
  obtain ⟨hs, hl, hgd⟩ := dn_at I1 hd
  have raw := dn_raw I1 hd
  refine ⟨raw.typeIs, fun b q => ?_, ?_⟩
  · cases q
    exact ⟨_, hgd, rfl⟩
  have I2 : Inv X pins σ H1 { s1 with heap := s1.heap.push { cls := .type "dict_items", data := .fields #[.ref a] } } := I1.kept (t' := s1.toks) fun b ob q => Heap.get?_push_of_some _ q
  have raw2 := dn_raw I2 hd
  have fin : wpAny (model X.prog X.w) X.A (pyIter (.ref s1.heap.objs.size)) (PIE X pins σ (.Tuple elts kk tpos) R) X.xe { s1 with heap := s1.heap.push { cls := .type "dict_items", data := .fields #[.ref a] } } := by
    refine wpAny_pyIter_items_raw (d := a) ⟨_, Heap.get?_push_size _ rfl, rfl, rfl⟩ raw2 (pi_one (tk := s1.toks) I2 _ (turn_itemsN _) ⟨.none, .none, ?_⟩ q)
    have hsz : (xs.map (entryOfKey (nestedKind X.prog X.w))).toArray.size = xs.length := by simp
    rw [hsz]
    exact Heap.get?_push_size _ rfl
  show wpAny _ _ (callWith cpos (.builtin "dict.items") [.ref a] [] []) _ X.xe s1
  exact method_meetsIn F.slot_dict_items F.entry_dict_items rfl (PySem.evalArgs_none ⟨rfl, raw.typeIs, F.args_dict_items_1 _, _, meets_dict_items_raw a hs, ⟨_, _, raw⟩, fin⟩)
theorem vals_pt : ∀ {xs : List V} {us : List Value}, xs.length = us.length → (∀ (j : Nat) (x : V) (u : Value), xs[j]? = some x → us[j]? = some u → RelV x u) → Vals xs us
  | [], [], _, _ => .nil
  | [], _ :: _, h, _ => by simp at h
  | _ :: _, [], h, _ => by simp at h
  | x :: xs, u :: us, h, k => .cons (k 0 x u rfl rfl) (vals_pt (by simpa using h) fun j x' u' h1 h2 => k (j + 1) x' u' (by simpa using h1) (by simpa using h2))
/-- list(d) -/
def rListN (P : Program) (w : World) : List V → Hp → VK → Prop := fun vs H Q => ∃ a xs ep, vs = [.ref a] ∧ H a = some (dn P w a xs ep) ∧ ∀ l, H l = none → Q (.ref l) (upd H l (.lst (xs.map fun x => .ref x.2.1)))
theorem call_listN (hc : X.calm = true) : CallR X (.type "list") (rListN X.prog X.w) := by
  intro pins s σ H xs us Q I r h
  obtain ⟨a, es, ep, rfl, ha, q⟩ := h
  obtain ⟨u, rfl, ru⟩ := vals1 r
  cases (show u = Value.ref a from ru)
  obtain ⟨hs, hl, hgd⟩ := dn_at I ha
  have hsz : (es.map (entryOfKey (nestedKind X.prog X.w))).toArray.size = es.length := by simp
  refine PySem.W.kdl_call (KdlSrc.rawDict hs) (I.ok.hd hc) (dn_raw I ha) (by rw [hsz]; exact hl) fun h' tk acc' c' hk hl' hit => ?_
  have hv : Vals (es.map fun x => V.ref x.2.1) acc'.toList := by
    have e1 : acc'.toList.length = es.length := by rw [Array.length_toList, ← hsz]; exact hit.1
    refine vals_pt (by rw [List.length_map]; exact e1.symm) fun j x u hx hu => ?_
    have hu' : acc'[j]? = some u := by rw [← Array.getElem?_toList]; exact hu
    obtain ⟨hi, eu⟩ := hit.2 j u hu'
    rw [List.getElem?_map] at hx
    obtain ⟨en, he, rfl⟩ := Option.map_eq_some_iff.mp hx
    obtain ⟨hj, rfl⟩ := List.getElem?_eq_some_iff.mp he
    rw [eu]
    show _ = Value.ref es[j].2.1
    simp [entryOfKey]
  refine ⟨.ref s.heap.objs.size, _, ?_, rfl, q _ (I.hok.fresh (Nat.le_refl _))⟩
  exact I.laid (a := s.heap.objs.size) (t' := tk) hk (Nat.le_refl _) ⟨by rw [List.length_map]; exact hl, acc'.toList, c', hv, by simpa using hl'⟩
end
end Sw
/-! SwRules -/
set_option Elab.async false
set_option linter.all false
set_option maxRecDepth 100000
set_option maxHeartbeats 2000000
namespace Sw
open PySem L2
/-! ### a list against an empty one -/
def rEqNil (K : PySem.W.Frag) : R2 := fun x y H Q => ∃ a b xs, x = .ref a ∧ y = .ref b ∧ SqL K H a xs ∧ SqL K H b [] ∧ Q (.bl xs.isEmpty) H
def rNeNil (K : PySem.W.Frag) : R2 := fun x y H Q => ∃ a b xs, x = .ref a ∧ y = .ref b ∧ SqL K H a xs ∧ SqL K H b [] ∧ Q (.bl (!xs.isEmpty)) H
section
variable {X : Cx}
theorem op_eqNil (hu : X.A.units < cLine) : OpR X (compareOp .Eq) (rEqNil X.K) := by
  intro pins s σ H x y v u Q I rx ry h
  obtain ⟨a, b, xs, rfl, rfl, ha, hb, q⟩ := h
  cases (show v = Value.ref a from rx)
  cases (show u = Value.ref b from ry)
  obtain ⟨its, r1, p1, _⟩ := I.list ha
  obtain ⟨its2, r2, p2, _⟩ := I.list hb
  cases r2
  cases r1 with
  | nil => exact PySem.SeqAt.eq_listAt (e := fun _ => true) p1.isList p2.isList rfl hu (fun j h1 _ => by simp at h1) ⟨.bl true, H, I, rfl, q⟩
  | cons r rr => exact PySem.SeqAt.eq_list_lengthsAt p1.isList p2.isList (by simp) hu ⟨.bl false, H, I, rfl, q⟩
theorem op_neNil (hu : X.A.units < cLine) : OpR X (compareOp .NotEq) (rNeNil X.K) := by
  intro pins s σ H x y v u Q I rx ry h
  obtain ⟨a, b, xs, rfl, rfl, ha, hb, q⟩ := h
  cases (show v = Value.ref a from rx)
  cases (show u = Value.ref b from ry)
  obtain ⟨its, r1, p1, _⟩ := I.list ha
  obtain ⟨its2, r2, p2, _⟩ := I.list hb
  cases r2
  cases r1 with
  | nil => exact PySem.SeqAt.RcNeAt.lists (e := fun _ => true) p1.isList p2.isList rfl hu (fun j h1 _ => by simp at h1) _ _ _ _ ⟨.bl false, H, I, rfl, q⟩
  | cons r rr => exact PySem.SeqAt.RcNeAt.lists_lengths p1.isList p2.isList (by simp) hu _ _ _ _ ⟨.bl true, H, I, rfl, q⟩
/-! ### two dicts of the same data -/
def rNeDD (K : PySem.W.Frag) : R2 := fun x y H Q => ∃ a b ks ls, x = .ref a ∧ y = .ref b ∧ H a = some (.dK ks) ∧ H b = some (.dK ls) ∧ ks.length = ls.length ∧
  (∀ p ∈ ks, ∃ u d e, valV ls p.1 = some u ∧ Dp K H p.2 d ∧ Dp K H u e ∧ SeqAt.shaped d = true ∧ SeqAt.shaped e = true ∧ PyData.eqv d e = true) ∧ Q (.bl false) H
theorem hits_data {pins : List (Addr × Obj)} {σ : L2.St} {H : Hp} {s : Shared} {A : Around} (I : Inv X pins σ H s) (hu : A.units + 65 < cLine) {ls : List (Key × V)} {vb : List (Key × Value)} (rb : KV ls vb) {ks : List (Key × V)} {va : List (Key × Value)} (ra : KV ks va) :
    (∀ p ∈ ks, ∃ u d e, valV ls p.1 = some u ∧ Dp X.K H p.2 d ∧ Dp X.K H u e ∧ SeqAt.shaped d = true ∧ SeqAt.shaped e = true ∧ PyData.eqv d e = true) → PySem.W.KeqHits A.in1 s vb va true := by
  unfold KV at ra
  induction ra with
  | nil => intro _; exact .nil
  | @cons p q ps qs h t ih =>
    intro k
    obtain ⟨u, d, e, h1, h2, h3, h4, h5, h6⟩ := k p List.mem_cons_self
    obtain ⟨q1, q2⟩ := q
    obtain ⟨e1, e2⟩ := h
    obtain ⟨w', hw, rw'⟩ := RelO.some_of (v := u) (o := valueAt vb q1) (by rw [← h1]; have q := rb.val p.1; rw [e1] at q ⊢; exact q)
    obtain ⟨as, r1⟩ := Dp.reads I d p.2 q2 h2 e2
    obtain ⟨bs, r2⟩ := Dp.reads I e u w' h3 rw'
    have eq := PySem.W.keq_at (A := A) r1 r2 h4 h5 (by show A.units + 1 + 64 < cLine; omega)
    have := PySem.W.KeqHits.hit (A := A.in1) (kb := vb) (k := q1) hw eq (ih fun p' hp' => k p' (List.mem_cons_of_mem _ hp'))
    rw [h6] at this
    exact this
theorem op_neDD (hu : X.A.units + 65 < cLine) : OpR X (compareOp .NotEq) (rNeDD X.K) := by
  intro pins s σ H x y v u Q I rx ry h
  obtain ⟨a, b, ks, ls, rfl, rfl, ea, eb, hlen, hp, q⟩ := h
  obtain rfl : v = Value.ref a := rx
  obtain rfl : u = Value.ref b := ry
  obtain ⟨_, ya, va, ra, da⟩ := (show ObjOk X.prog X.w H s.heap a (.dK ks) from I.hok a _ ea)
  obtain ⟨_, yb, vb, rb, db⟩ := (show ObjOk X.prog X.w H s.heap b (.dK ls) from I.hok b _ eb)
  have hl : va.length = vb.length := by rw [← ra.length, ← rb.length]; exact hlen
  exact PySem.W.keq_ne (knd := mixKind X.prog X.w) (r := true) ya yb da db (by omega) (fun _ => hits_data I hu rb ra hp) (fin_bl I q (by simp [hl]))
end
/-! ### zip of a list and a tuple -/
def Itzm (K : PySem.W.Frag) (a b : Addr) : It :=
  ⟨fun i H => ∃ (xs ys : List V) (x y : V), SqL K H a xs ∧ SqT K H b ys ∧ xs[i]? = some x ∧ ys[i]? = some y,
    fun i H v H' => ∃ T x y, v = .ref T ∧ H T = none ∧ H' = upd H T (.tup [x, y]) ∧ (∀ xs, SqL K H a xs → xs[i]? = some x) ∧ ∀ ys, SqT K H b ys → ys[i]? = some y,
    fun i H => ∃ xs ys : List V, SqL K H a xs ∧ SqT K H b ys ∧ xs.length = i ∧ ys.length = i⟩
theorem turn_zipM {P : Program} {w : World} {K : PySem.W.Frag} {elts : List Expr} {kk : Nat} {tpos : Pos} {a b z TI TO i1 i2 : Addr} (S : ZipSep2 z TI TO i1 i2 [i1, a] [i2, b]) :
    Turn P w K (.Tuple elts kk tpos) (Itzm K a b) [z, TI, TO, i1, i2] z (fun i h => IsZip h z TI TO .none ∧ IsTupOf2 h TI (.ref i1) (.ref i2) ∧ (∃ x y, IsTupOf2 h TO x y) ∧ h.IsListIter i1 a i ∧ h.IsTupleIter i2 b i) where
  mem := by simp
  obj := fun i h st c hc => by
    obtain ⟨hz, hTI, ⟨x, y, hTO⟩, ⟨o1, e1, _, d1⟩, ⟨o2, e2, _, d2⟩⟩ := st
    have e' : c = z ∨ c = TI ∨ c = TO ∨ c = i1 ∨ c = i2 := by simpa using hc
    rcases e' with q | q | q | q | q
    · rw [q]; exact ⟨_, hz, fun v q => nomatch q⟩
    · rw [q]; exact ⟨_, hTI, fun v q => nomatch q⟩
    · rw [q]; exact ⟨_, hTO, fun v q => nomatch q⟩
    · rw [q]; exact ⟨o1, e1, fun v q => by rw [d1] at q; cases q⟩
    · rw [q]; exact ⟨o2, e2, fun v q => by rw [d2] at q; cases q⟩
  keep := fun i h h' st k => by
    obtain ⟨hz, hTI, ⟨x, y, hTO⟩, h1, h2⟩ := st
    exact ⟨k z (by simp) _ hz, k TI (by simp) _ hTI, ⟨x, y, k TO (by simp) _ hTO⟩, h1.at fun o q => k i1 (by simp) o q, h2.at fun o q => k i2 (by simp) o q⟩
  item := by
    intro X hP hw hK hc i pins s σ H E I hf st hg
    subst hP hw hK
    obtain ⟨hz, hTI, ⟨x0, y0, hTO⟩, h1, h2⟩ := st
    obtain ⟨xs, ys, x, y, hqx, hqy, hx, hy⟩ := hg
    obtain ⟨its, rv, p, _⟩ := I.list hqx
    obtain ⟨its2, rv2, p2, _⟩ := I.tuple hqy
    obtain ⟨u, hu, ru⟩ := rv.get hx
    obtain ⟨u2, hu2, ru2⟩ := rv2.get hy
    have hzl : z < s.heap.objs.size := Heap.lt_size hz
    have na : a ≠ i1 := fun q => by
      obtain ⟨o1, e1, c1, _⟩ := id h1
      obtain ⟨o, e, c, _⟩ := id p.isList
      rw [q, e1] at e
      cases e
      rw [c] at c1
      exact absurd c1 (by decide)
    have nb : b ≠ i2 := fun q => by
      obtain ⟨o1, e1, c1, _⟩ := id h2
      obtain ⟨o, e, c, _⟩ := id p2
      rw [q, e1] at e
      cases e
      rw [c] at c1
      exact absurd c1 (by decide)
    have hh : X.A.in1.handled = none := I.ok.hd hc
    have li : i < its.toArray.size := by have := (List.getElem?_eq_some_iff.mp hu).1; simpa using this
    have li2 : i < its2.toArray.size := by have := (List.getElem?_eq_some_iff.mp hu2).1; simpa using this
    have D1 := Draws.list (prog := X.prog) (w := X.w) hh i1 a na its.toArray
    have D2 := Draws.tuple (prog := X.prog) (w := X.w) hh i2 b nb its2.toArray
    refine wpAny_pyNext_zipD2_item S D1 D2 hz hTI hTO ⟨h1, p.isList⟩ ⟨h2, p2⟩ li li2 fun w1 w2 h' tk ex ey z' TO' h1' h2' hT hsz hk => ?_
    refine ⟨_, rfl, wpAny_letOwnedTupleGo_zip (s := { s with heap := h', toks := tk }) z' fun h'' z'' sb => ?_⟩
    have e1 : w1 = u := by rw [show its.toArray[i]? = some u by simpa using hu] at ex; exact (Option.some.inj ex).symm
    have e2 : w2 = u2 := by rw [show its2.toArray[i]? = some u2 by simpa using hu2] at ey; exact (Option.some.inj ey).symm
    subst e1 e2
    have hT2 : h''.get? s.heap.objs.size = some { cls := .type "tuple", data := .seq #[w1, w2] } := (sb.2 _ (Nat.ne_of_gt hzl)).trans hT
    have new : ObjOk X.prog X.w (upd H s.heap.objs.size (.tup [x, y])) h'' s.heap.objs.size (.tup [x, y]) :=
      ⟨by show 2 ≤ sizeLine; decide, [w1, w2], .cons ru (.cons ru2 .nil), ⟨_, hT2, rfl, _, rfl⟩⟩
    have I1 : Inv X pins σ (upd H s.heap.objs.size (.tup [x, y])) { s with heap := h'', toks := tk } :=
      I.turnedNew (t' := tk) (ch := [z, TI, TO, i1, i2]) (fun c o hb q => (sb.2 c (fun q' => hb (by simp [q']))).trans (hk c o (fun q' => hb (by simp [q'])) (fun q' => hb (by simp [q'])) (fun q' => hb (by simp [q'])) (fun q' => hb (by simp [q'])) q)) hf (Nat.le_refl _) new
    refine ⟨.ref s.heap.objs.size, _, I1, rfl, ⟨_, x, y, rfl, I.hok.fresh (Nat.le_refl _), rfl, fun l hl => by rw [I.list_inj hl hqx]; exact hx, fun l hl => by rw [I.tuple_inj hl hqy]; exact hy⟩, ⟨z'', ?_, ⟨w1, w2, ?_⟩, ?_, ?_⟩, fun c hcm => ?_⟩
    · exact (sb.2 _ S.TIz).trans (hk _ _ S.TIz S.TITO S.TIi1 S.TIi2 hTI)
    · exact (sb.2 _ S.TOz).trans TO'
    · exact h1'.1.at fun o q => (sb.2 _ (Ne.symm S.zi1)).trans q
    · exact h2'.1.at fun o q => (sb.2 _ (Ne.symm S.zi2)).trans q
    · have hlt : c < s.heap.objs.size := by
        have e' : c = z ∨ c = TI ∨ c = TO ∨ c = i1 ∨ c = i2 := by simpa using hcm
        rcases e' with q | q | q | q | q
        · rw [q]; exact hzl
        · rw [q]; exact Heap.lt_size hTI
        · rw [q]; exact Heap.lt_size hTO
        · rw [q]; obtain ⟨_, e1, _⟩ := h1; exact Heap.lt_size e1
        · rw [q]; obtain ⟨_, e2, _⟩ := h2; exact Heap.lt_size e2
      rw [upd_ne (Nat.ne_of_lt hlt)]
      exact (hf c hcm).1
  done := by
    intro X hP hw hK hc i pins s σ H E I hf st hg
    subst hP hw hK
    obtain ⟨hz, hTI, ⟨x0, y0, hTO⟩, h1, h2⟩ := st
    obtain ⟨xs, ys, hqx, hqy, l1, l2⟩ := hg
    obtain ⟨its, rv, p, _⟩ := I.list hqx
    obtain ⟨its2, rv2, p2, _⟩ := I.tuple hqy
    have na : a ≠ i1 := fun q => by
      obtain ⟨o1, e1, c1, _⟩ := id h1
      obtain ⟨o, e, c, _⟩ := id p.isList
      rw [q, e1] at e
      cases e
      rw [c] at c1
      exact absurd c1 (by decide)
    have nb : b ≠ i2 := fun q => by
      obtain ⟨o1, e1, c1, _⟩ := id h2
      obtain ⟨o, e, c, _⟩ := id p2
      rw [q, e1] at e
      cases e
      rw [c] at c1
      exact absurd c1 (by decide)
    have hh : X.A.in1.handled = none := I.ok.hd hc
    have q1 : i = its.toArray.size := by rw [List.size_toArray, ← rv.length]; exact l1.symm
    have q2 : i = its2.toArray.size := by rw [List.size_toArray, ← rv2.length]; exact l2.symm
    have D1 := Draws.list (prog := X.prog) (w := X.w) hh i1 a na its.toArray
    have D2 := Draws.tuple (prog := X.prog) (w := X.w) hh i2 b nb its2.toArray
    exact wpAny_pyNext_zipD2_end S D1 D2 hz hTI hTO ⟨h1, p.isList⟩ ⟨h2, p2⟩ (Nat.le_of_eq q1) (Nat.le_of_eq q2) (.inl q1) fun h' tk hk => ⟨rfl, I.turnedL (t' := tk) (ch := [z, TI, TO, i1, i2]) (fun c o hb q =>
      hk c o (fun q' => hb (by simp [q'])) (fun q' => hb (by simp [q'])) (fun q' => hb (by simp [q'])) (fun q' => hb (by simp [q'])) q) hf⟩
  self := fun A i s Q E st h => wpAny_pyIter_zip st.1 h
def iZipM (K : PySem.W.Frag) (ta : TA) : TI := fun σ H R => ta σ H fun vs H1 => ∃ a b, vs = [.ref a, .ref b] ∧ (∃ xs, SqL K H1 a xs) ∧ (∃ ys, SqT K H1 b ys) ∧ R (Itzm K a b) H1
theorem pi_zipM {X : Cx} {e e2 : Expr} {ta : TA} {p pos tpos : Pos} {elts : List Expr} {kk : Nat} (hg : Gl X "zip") (hm : X.mg "zip" = none) (ha : PA X [e, e2] ta)
    (hs : starEach [e, e2] X.env = (false, eval e X.env) :: starEach [e2] X.env := by rfl) (hpl : (backTo pos (starEach [e2] X.env)).any (·.1) = false := by rfl) :
    PI X (.Tuple elts kk tpos) (.Call (.Name "zip" p) [e, e2] [] pos) (iZipM X.K ta) := by
  refine ⟨fun pins s σ H R I h => ?_⟩
  refine PyProof.Rows.Call_ (ld_blt I hg hm PyProof.Rows.boot_zip (PyProof.Rows.callWith_type1 (thn (ha.run pos pins s σ H _ I h) fun us s1 ⟨vs, H1, I1, r1, q1⟩ => ?_) hs hpl))
  obtain ⟨a, b, rfl, ⟨xs, hqx⟩, ⟨ys, hqy⟩, q⟩ := q1
  obtain ⟨u1, u2, rfl, e1, e2⟩ := vals2 r1
  cases (show u1 = Value.ref a from e1)
  cases (show u2 = Value.ref b from e2)
  obtain ⟨its, rv, p1, _⟩ := I1.list hqx
  obtain ⟨its2, rv2, p2, _⟩ := I1.tuple hqy
  have la : a < s1.heap.objs.size := p1.lt
  have lb : b < s1.heap.objs.size := p2.lt
  refine zip_begins2 (begins_list a its.toArray) (begins_tuple b its2.toArray) p1.isList p2 fun h' hz hTI hTO h1 h2 hsz hk => wpAny_pyIter_zip hz ?_
  have I2 : Inv X pins σ H1 { s1 with heap := h' } := I1.kept (t' := s1.toks) hk
  refine ⟨s1.heap.objs.size + 4, [s1.heap.objs.size + 4, s1.heap.objs.size + 2, s1.heap.objs.size + 3, s1.heap.objs.size, s1.heap.objs.size + 1], _, _, H1, rfl, I2,
    turn_zipM (zip_sep2 (fp1 := [a]) (fp2 := [b]) (fun c hc => by rw [List.mem_singleton.mp hc]; exact la) (fun c hc => by rw [List.mem_singleton.mp hc]; exact lb)), ⟨hz, hTI, ⟨_, _, hTO⟩, ⟨_, h1, rfl, rfl⟩, ⟨_, h2, rfl, rfl⟩⟩, fun c hcm => ?_, q⟩
  have e' : c = s1.heap.objs.size + 4 ∨ c = s1.heap.objs.size + 2 ∨ c = s1.heap.objs.size + 3 ∨ c = s1.heap.objs.size ∨ c = s1.heap.objs.size + 1 := by simpa using hcm
  have hle : s1.heap.objs.size ≤ c := by
    rcases e' with z | z | z | z | z
    · rw [z]; exact Nat.le_add_right _ _
    · rw [z]; exact Nat.le_add_right _ _
    · rw [z]; exact Nat.le_add_right _ _
    · rw [z]; exact Nat.le_refl _
    · rw [z]; exact Nat.le_add_right _ _
  exact I1.fpOk hle (I1.hok.fresh hle)
/-! ### a def by its name -/
structure GF (P : Program) (w : World) (K : PySem.W.Frag) (mg : Str → Option Value) (base : Heap) (x : Str) (k : Nat) (ps : List Str) (sp : Sp) : Prop where
  ex : ∃ f fd, mg x = some (.ref f) ∧ PySem.W.keepIn K (.ref f) = true ∧ Binds K fd ps [] ∧ FnOk P w K mg base CX0 k f fd ps sp
section
variable {X : Cx} {k : Nat} {x : Str} {ps : List Str} {sp : Sp} {p pos : Pos} {e : Expr} {es : List Expr} {t : TA}
theorem pe_fn (G : GF X.prog X.w X.K X.mg X.base x k ps sp) (hr : Room k X.A) (hg : Gl X x) (ha : PA X (e :: es) t) (hdb : (x == ("__debug__" : Str)) = false := by decide)
    (he : starEach (e :: es) X.env = (false, eval e X.env) :: starEach es X.env := by rfl) (hpl : (backTo pos (starEach es X.env)).any (·.1) = false := by rfl) :
    PE X (.Call (.Name x p) (e :: es) [] pos) (tCall sp [] E0 t) := by
  obtain ⟨f, fd, hm, hk, hb, F⟩ := G.ex
  exact pe_call F hr hg hm hk hb .nil pass0 ha hdb he hpl
end
end Sw
/-! SwSort -/
set_option Elab.async false
set_option linter.all false
set_option maxRecDepth 100000
set_option maxHeartbeats 2000000
namespace Sw
open PySem L2
theorem vals_fm : ∀ {xs : List V} {us : List Value}, Vals xs us → us.filterMap absV = xs
  | _, _, .nil => rfl
  | _, _, .cons r t => by rw [List.filterMap_cons, r.abs, vals_fm t]
theorem vals_of_mem : ∀ {us : List Value}, (∀ u ∈ us, ∃ x, RelV x u) → Vals (us.filterMap absV) us
  | [], _ => .nil
  | u :: us, h => by
    obtain ⟨x, r⟩ := h u List.mem_cons_self
    rw [List.filterMap_cons, r.abs]
    exact .cons r (vals_of_mem fun u' hu => h u' (List.mem_cons_of_mem _ hu))
theorem vals_rel : ∀ {xs : List V} {us : List Value}, Vals xs us → ∀ u ∈ us, ∃ x, RelV x u
  | _, _, .nil, _, h => nomatch h
  | _, _, .cons r t, u, h => by
    rcases List.mem_cons.mp h with e | h
    · exact ⟨_, e ▸ r⟩
    · exact vals_rel t u h
theorem vals_perm {xs : List V} {us ws : List Value} (h : Vals xs us) (p : ws.Perm us) : ∃ ys, ys.Perm xs ∧ Vals ys ws :=
  ⟨ws.filterMap absV, by rw [← vals_fm h]; exact p.filterMap _, vals_of_mem fun u hu => vals_rel h u (p.mem_iff.mp hu)⟩
theorem dpAll_perm {K : PySem.W.Frag} {H : Hp} {xs ys : List V} (p : ys.Perm xs) : ∀ {ds : List D}, DpAll K H xs ds → ∃ es, es.Perm ds ∧ DpAll K H ys es := by
  induction p with
  | nil => intro ds h; exact ⟨ds, .refl _, h⟩
  | cons x p ih =>
    intro ds h
    cases h with
    | cons h1 h2 =>
      obtain ⟨es, q, k⟩ := ih h2
      exact ⟨_, q.cons _, .cons h1 k⟩
  | swap x y l =>
    intro ds h
    cases h with
    | cons h1 h2 =>
      cases h2 with
      | cons h3 h4 => exact ⟨_, .swap _ _ _, .cons h3 (.cons h1 h4)⟩
  | trans p1 p2 ih1 ih2 =>
    intro ds h
    obtain ⟨es, q, k⟩ := ih2 h
    obtain ⟨fs, q2, k2⟩ := ih1 k
    exact ⟨fs, q2.trans q, k2⟩
theorem sortVals_perm {κ : PyProof.Rows.KeyKind} (vs : List Value) : (PySem.W.sortVals κ false vs vs).Perm vs := by
  unfold PySem.W.sortVals
  have e : (vs.zip vs).map Prod.snd = vs := List.map_snd_zip (Nat.le_refl _)
  have q := (List.mergeSort_perm (vs.zip vs) (PySem.W.sortLe κ.toKeyOrd false fun p : PyProof.Rows.Keyed => PySem.W.keyD κ p.1)).map Prod.snd
  rw [e] at q
  exact q
/-- data that a sort can order -/
structure Srt (ds : List D) : Prop where
  al : PySem.W.AllAlike ds
  so : PySem.W.Sortable ds
  dp : ∀ d ∈ ds, d.depth ≤ 8
section
variable {X : Cx} {pins : List (Addr × Obj)} {σ : L2.St} {H : Hp} {s : Shared}
theorem each_reads (I : Inv X pins σ H s) : ∀ {xs : List V} {ds : List D} {us : List Value}, DpAll X.K H xs ds → Vals xs us → PySem.W.EachIs (fun v d => ∃ as, PySem.Reads s.heap v d as) us ds
  | _, [], _, h, r => by cases h; cases r; exact .nil
  | _, d :: ds, _, h, r => by
    cases h with
    | cons h1 h2 =>
      cases r with
      | cons r1 r2 => exact .cons (Dp.reads I d _ _ h1 r1) (each_reads I h2 r2)
def rSortL (K : PySem.W.Frag) : List V → Hp → VK → Prop := fun vs H Q => ∃ a xs ds, vs = [.ref a] ∧ SqL K H a xs ∧ DpAll K H xs ds ∧ Srt ds ∧ ∀ ys p, ys.Perm xs → H p = none → Q (.ref p) (upd H p (.lst ys))
def rSortN (P : Program) (w : World) (K : PySem.W.Frag) : List V → Hp → VK → Prop := fun vs H Q => ∃ a xs ep ds, vs = [.ref a] ∧ H a = some (dn P w a xs ep) ∧ DpAll K H (xs.map fun x => .ref x.2.1) ds ∧ Srt ds ∧ ∀ ys p, ys.Perm (xs.map fun x => V.ref x.2.1) → H p = none → Q (.ref p) (upd H p (.lst ys))
theorem call_sortL (hu : X.A.units + 64 < cLine) : CallR X (.builtin "sorted") (rSortL X.K) := by
  intro pins s σ H xs us Q I r h
  obtain ⟨a, xs, ds, rfl, ha, hd, sr, q⟩ := h
  obtain ⟨u, rfl, ru⟩ := vals1 r
  cases (show u = Value.ref a from ru)
  obtain ⟨its, rv, p, hz⟩ := I.list ha
  have hl : its.length ≤ sizeLine := by rw [← rv.length]; exact hz
  have I2 : Inv X pins σ H { s with heap := PySem.W.sortingHeap (PySem.W.copyHeap s.heap its) (s.heap.objs.size + 1) its } := I.kept (t' := s.toks) fun b o e => PySem.W.sorting_copy_old e
  refine PySem.W.sorted_vals (κ := PySem.W.dataKind (PySem.W.sortingHeap (PySem.W.copyHeap s.heap its) (s.heap.objs.size + 1) its) ds) p.isList
    (PySem.W.SortsAt.data (s := { s with heap := PySem.W.sortingHeap (PySem.W.copyHeap s.heap its) (s.heap.objs.size + 1) its }) (each_reads I2 hd rv) sr.al sr.so fun d hm => by
      have := sr.dp d hm
      show X.A.units + 1 + 1 + d.depth < cLine
      omega) hl ?_
  obtain ⟨ys, pm, rvy⟩ := vals_perm rv (sortVals_perm (κ := PySem.W.dataKind (PySem.W.sortingHeap (PySem.W.copyHeap s.heap its) (s.heap.objs.size + 1) its) ds) its)
  obtain ⟨e, he⟩ := PyProof.Rows.sortedAll_at s.heap its (PySem.W.sortVals (PySem.W.dataKind (PySem.W.sortingHeap (PySem.W.copyHeap s.heap its) (s.heap.objs.size + 1) its) ds) false its its).toArray
  refine ⟨.ref (s.heap.objs.size + 1), upd H (s.heap.objs.size + 1) (.lst ys), ?_, rfl, q ys _ pm (I.hok.fresh (Nat.le_succ _))⟩
  exact I.laid (t' := s.toks) (fun b o z => PyProof.Rows.sortedAll_old z) (Nat.le_succ _) ⟨by rw [pm.length_eq]; exact hz, _, e, rvy, he⟩
theorem call_sortN (hc : X.calm = true) (hu : X.A.units + 64 < cLine) : CallR X (.builtin "sorted") (rSortN X.prog X.w X.K) := by
  intro pins s σ H xs us Q I r h
  obtain ⟨a, es, ep, ds, rfl, ha, hd, sr, q⟩ := h
  obtain ⟨u, rfl, ru⟩ := vals1 r
  cases (show u = Value.ref a from ru)
  obtain ⟨hs, hl, hgd⟩ := dn_at I ha
  have hsz : (es.map (entryOfKey (nestedKind X.prog X.w))).toArray.size = es.length := by simp
  refine PySem.Calls.call_function_entry PyProof.Rows.kind_sorted PyProof.Rows.plain_sorted PyProof.Rows.entry_sorted (PyProof.Rows.args_sorted1 _) ?_
  unfold Builtin.«sorted»
  refine wpAny_bind (m := checkCount "sorted" 1 1 _) (wpAny_pure ?_)
  refine wpAny_bind (PySem.W.kdu_collect (A := X.A.in1) (KdlSrc.rawDict hs) (I.ok.hd hc) (dn_raw I ha) (by rw [hsz]; exact hl) fun h' tk acc hk hacc => ?_)
  have e1 : acc.toList.length = es.length := by rw [Array.length_toList, ← hsz]; exact hacc.1
  have hv : Vals (es.map fun x => V.ref x.2.1) acc.toList := by
    refine vals_pt (by rw [List.length_map]; exact e1.symm) fun j x u hx hu => ?_
    have hu' : acc[j]? = some u := by rw [← Array.getElem?_toList]; exact hu
    obtain ⟨hi, eu⟩ := hacc.2 j u hu'
    rw [List.getElem?_map] at hx
    obtain ⟨en, he, rfl⟩ := Option.map_eq_some_iff.mp hx
    obtain ⟨hj, rfl⟩ := List.getElem?_eq_some_iff.mp he
    rw [eu]
    show _ = Value.ref es[j].2.1
    simp [entryOfKey]
  have hll : acc.toList.length ≤ sizeLine := by rw [e1]; exact hl
  have I1 : Inv X pins σ H { s with heap := h', toks := tk } := I.kept hk
  refine wpAny_bind (PySem.wpAny_newList ?_ hll)
  have hoL : (h'.push (PyProof.Rows.seqObj "list" acc.toList.toArray 0)).get? h'.objs.size = some (PyProof.Rows.seqObj "list" acc.toList.toArray 0) := Heap.get?_push_size _ rfl
  show wpAny _ _ _ _ _ { s with heap := h'.push (PyProof.Rows.seqObj "list" acc.toList.toArray 0), toks := tk }
  have I2 : Inv X pins σ H { s with heap := PySem.W.sortingHeap (h'.push (PyProof.Rows.seqObj "list" acc.toList.toArray 0)) h'.objs.size acc.toList, toks := tk } := I1.kept (t' := tk) fun b o e => by
    have hb : b < h'.objs.size := Heap.lt_size e
    exact PySem.W.sortingHeap_old (Nat.ne_of_lt hb) (Heap.get?_push_of_some _ e)
  refine wpAny_bind (wpAny_holding (wpAny_call_entry PyProof.Rows.slot_list_sort ⟨_, hoL, rfl⟩ PyProof.Rows.entry_list_sort
    (PySem.W.list_sort_vals (A := X.A.in1.in1) (s := { s with heap := h'.push (PyProof.Rows.seqObj "list" acc.toList.toArray 0), toks := tk }) (κ := PySem.W.dataKind (PySem.W.sortingHeap (h'.push (PyProof.Rows.seqObj "list" acc.toList.toArray 0)) h'.objs.size acc.toList) ds) hoL
      (PySem.W.SortsAt.data (s := { s with heap := PySem.W.sortingHeap (h'.push (PyProof.Rows.seqObj "list" acc.toList.toArray 0)) h'.objs.size acc.toList, toks := tk }) (each_reads I2 hd hv) sr.al sr.so fun d hm => by
        have := sr.dp d hm
        show X.A.units + 1 + 1 + d.depth < cLine
        omega) hll ⟨_, rfl, ?_⟩)
    (PyProof.Rows.args_list_sort _)))
  obtain ⟨ys, pm, rvy⟩ := vals_perm hv (sortVals_perm (κ := PySem.W.dataKind (PySem.W.sortingHeap (h'.push (PyProof.Rows.seqObj "list" acc.toList.toArray 0)) h'.objs.size acc.toList) ds) acc.toList)
  obtain ⟨e', he'⟩ := PyProof.Rows.sortedHeap_at (vs := acc.toList) (out := (PySem.W.sortVals (PySem.W.dataKind (PySem.W.sortingHeap (h'.push (PyProof.Rows.seqObj "list" acc.toList.toArray 0)) h'.objs.size acc.toList) ds) false acc.toList acc.toList).toArray) hoL
  refine wpAny_pure ⟨_, rfl, .ref h'.objs.size, upd H h'.objs.size (.lst ys), I1.laid (t' := tk) (fun b u e => ?_) (Nat.le_refl _) ⟨by rw [pm.length_eq, List.length_map]; exact hl, _, e', rvy, he'⟩, rfl, q ys _ pm (I1.hok.fresh (Nat.le_refl _))⟩
  have hb : b < h'.objs.size := Heap.lt_size e
  rw [PyProof.Rows.sortedHeap_old (Nat.ne_of_lt hb) (by rw [PyProof.Rows.size_push']; exact Nat.lt_succ_of_lt hb)]
  exact Heap.get?_push_of_some _ e
end
end Sw
/-! SwTerm -/
set_option Elab.async false
set_option linter.all false
set_option maxRecDepth 100000
set_option maxHeartbeats 2000000
namespace Sw
open PySem L2 SwH
/-! ### rules by name -/
def rAdd2 : R2 := rI0 fun i j => .int (i + j)
def rSub2 : R2 := rI0 fun i j => .int (i - j)
def rMul2 : R2 := rI CMul fun i j => .int (i * j)
def rFd2 : R2 := rI CDiv fun i j => .int (i / j)
def rMd2 : R2 := rI (fun _ j => 0 < j) fun i j => .int (i % j)
def rPw2 : R2 := rI CPow fun i j => .int (i ^ j.toNat)
def rLt2 : R2 := rI0 fun i j => .bl (decide (i < j))
def rLtE2 : R2 := rI0 fun i j => .bl (decide (i ≤ j))
def rGt2 : R2 := rI0 fun i j => .bl (decide (j < i))
def rGtE2 : R2 := rI0 fun i j => .bl (decide (j ≤ i))
def rLen2 (K : PySem.W.Frag) : List V → Hp → VK → Prop := fun xs H Q => ∃ p ys, xs = [.ref p] ∧ (SqL K H p ys ∨ SqT K H p ys) ∧ Q (.int ys.length) H
def rList2 (K : PySem.W.Frag) : List V → Hp → VK → Prop := fun xs H Q => ∃ p ys, xs = [.ref p] ∧ (SqL K H p ys ∨ SqT K H p ys) ∧ ∀ l, H l = none → Q (.ref l) (upd H l (.lst ys))
def rTup2 (K : PySem.W.Frag) : List V → Hp → VK → Prop := fun xs H Q => ∃ p ys, xs = [.ref p] ∧ ((SqL K H p ys ∧ ∀ l, H l = none → Q (.ref l) (upd H l (.tup ys))) ∨ (SqT K H p ys ∧ Q (.ref p) H))
def rMax2 : List V → Hp → VK → Prop := fun xs H Q => ∃ i j, xs = [.int i, .int j] ∧ Q (.int (if j > i then j else i)) H
def rMin2 : List V → Hp → VK → Prop := fun xs H Q => ∃ i j, xs = [.int i, .int j] ∧ Q (.int (if j < i then j else i)) H
section
variable {X : Cx}
theorem o_add : OpR X (binaryOp .Add) rAdd2 := op_add
theorem o_sub : OpR X (binaryOp .Sub) rSub2 := op_sub
theorem o_mul : OpR X (binaryOp .Mult) rMul2 := op_mul
theorem o_fd : OpR X (binaryOp .FloorDiv) rFd2 := op_fdiv
theorem o_md : OpR X (binaryOp .Mod) rMd2 := op_mod
theorem o_pw : OpR X (binaryOp .Pow) rPw2 := op_pow
theorem o_lt : OpR X (compareOp .Lt) rLt2 := op_lt
theorem o_lte : OpR X (compareOp .LtE) rLtE2 := op_le
theorem o_gt : OpR X (compareOp .Gt) rGt2 := op_gt
theorem o_gte : OpR X (compareOp .GtE) rGtE2 := op_ge
theorem o_addS : OpR X (binaryOp .Add) rAddS := op_add_str
theorem c_len : CallR X (.builtin "len") (rLen2 X.K) := call_len_seq
theorem c_list : CallR X (.type "list") (rList2 X.K) := call_list_of
theorem c_tuple : CallR X (.type "tuple") (rTup2 X.K) := call_tuple_of
theorem c_max (hc : X.calm = true) : CallR X (.builtin "max") rMax2 := call_max2 hc
theorem c_min (hc : X.calm = true) : CallR X (.builtin "min") rMin2 := call_min2 hc
theorem units65 {k : Nat} {A : Around} (r : Room k A) : A.units + 65 < cLine := by have := r.un; omega
end
theorem bt_len : bootBuiltins "len" = some (.builtin "len") := PySem.boot_len
theorem bt_sorted : bootBuiltins "sorted" = some (.builtin "sorted") := by decide +kernel
theorem bt_isinstance : bootBuiltins "isinstance" = some (.builtin "isinstance") := by decide +kernel
theorem bt_min : bootBuiltins "min" = some (.builtin "min") := by decide +kernel
theorem bt_max : bootBuiltins "max" = some (.builtin "max") := by decide +kernel
theorem bt_list : bootBuiltins "list" = some (.type "list") := by decide +kernel
theorem bt_tuple : bootBuiltins "tuple" = some (.type "tuple") := by decide +kernel
theorem bt_str : bootBuiltins "str" = some (.type "str") := by decide +kernel
theorem bt_int : bootBuiltins "int" = some (.type "int") := by decide +kernel
theorem bt_bool : bootBuiltins "bool" = some (.type "bool") := by decide +kernel
/-! ### what the top has left -/
abbrev FnP (K : PySem.W.Frag) (x qual : Str) (st : Stmt) (f : Addr) (fd : FuncData) : Prop := FunD K x qual (defArgs st) (defBody st) (defScope st) [] [] f fd
def oneV : List V := [.str "is", .str "from", .str "to", .str "rest", .str "either", .str "never"]
structure Txt (K : PySem.W.Frag) (mg : Str → Option Value) (aOne : Addr) : Prop where
  range : mg "range" = none
  len : mg "len" = none
  enumerate : mg "enumerate" = none
  list : mg "list" = none
  tuple : mg "tuple" = none
  sorted : mg "sorted" = none
  zip : mg "zip" = none
  min : mg "min" = none
  max : mg "max" = none
  isinstance : mg "isinstance" = none
  int : mg "int" = none
  str : mg "str" = none
  bool : mg "bool" = none
  cLEAST_DIVISOR : ∃ t, mg "LEAST_DIVISOR" = some (.int 2 t)
  cGREATEST_DIVISOR : ∃ t, mg "GREATEST_DIVISOR" = some (.int 6 t)
  cWIDEST_GAP : ∃ t, mg "WIDEST_GAP" = some (.int 20 t)
  cWIDEST_SUM : ∃ t, mg "WIDEST_SUM" = some (.int 40 t)
  ofOne : mg "OF_ONE" = some (.ref aOne) ∧ ∀ H, SqT K H aOne oneV
/-- the class -/
structure InC (K : PySem.W.Frag) (C : Addr) : Prop where
  cl : Cls K C
  nP : NoAttr K C "program"
  nS : NoAttr K C "shortest"
structure MI (P : Program) (w : World) (K : PySem.W.Frag) (mg : Str → Option Value) (base : Heap) (C : Addr) (m : Str) (k : Nat) (ps : List Str) (sp : Sp) : Prop where
  cl : Cls K C
  ex : ∃ f fd, Meth K C m f ∧ Binds K fd ps [] ∧ FnOk P w K mg base CX0 k f fd ps sp
structure KI (P : Program) (w : World) (K : PySem.W.Frag) (mg : Str → Option Value) (base : Heap) (C : Addr) (k : Nat) (ps : List Str) (sp : Sp) : Prop where
  gl : mg "Inputs" = some (.ref C)
  ex : ∃ f fd, Mk K C f ∧ Binds K fd ps [] ∧ FnOk P w K mg base CX0 k f fd ps sp
section
variable {X : Cx} {C : Addr} {k : Nat} {m : Str} {ps : List Str} {sp : Sp} {o e v : Expr} {es : List Expr} {ta tk tv : TE} {t : TA} {p pos apos : Pos}
theorem pe_mi {pl : Sem Bool} (he : PE X o ta) (G : MI X.prog X.w X.K X.mg X.base C m k ps sp) (hr : Room k X.A) (ha : PA X (e :: es) t)
    (hst : starEach (e :: es) X.env = (false, eval e X.env) :: starEach es X.env := by rfl) (hpl : (backTo pos (starEach es X.env)).any (·.1) = false := by rfl)
    (ht : eval (.Call (.Attribute o m apos) (e :: es) [] pos) X.env = (do
      let ov ← eval o X.env
      standAt apos.atName
      let (f, first) ← holding [ov] (getMethod ov m pl)
      callWith pos f first (backTo pos (starEach (e :: es) X.env)) (backToKw pos (keywordEach [] X.env))) := by rfl) : PE X (.Call (.Attribute o m apos) (e :: es) [] pos) (tMeth C m sp [] E0 ta t) := by
  obtain ⟨f, fd, hm, hbn, F⟩ := G.ex
  exact pe_meth he G.cl hm F hr hbn .nil pass0 ha hst hpl ht
theorem pe_ki (G : KI X.prog X.w X.K X.mg X.base C k ps sp) (hr : Room (k + 1) X.A) (hg : Gl X "Inputs") (ha : PA X (e :: es) t)
    (he : starEach (e :: es) X.env = (false, eval e X.env) :: starEach es X.env := by rfl) (hpl : (backTo pos (starEach es X.env)).any (·.1) = false := by rfl) : PE X (.Call (.Name "Inputs" p) (e :: es) [] pos) (tMake C sp [] E0 t) := by
  obtain ⟨f, fd, hm, hbn, F⟩ := G.ex
  exact pe_make hm F hr hg G.gl hbn .nil pass0 ha (by decide) he hpl
/-- {k: v}, the key a nested one -/
def tNDisp (P : Program) (w : World) (K : PySem.W.Frag) (tk tv : TE) : TE := fun σ H Q => ∀ p, H p = none → tk σ (upd H p (dn P w p [] 0)) fun y H1 => tv σ H1 fun x H2 =>
  ∃ B b k, y = .ref b ∧ Same B H2 ∧ H2 p = some (dn P w p [] 0) ∧ KeyAt K B b k ∧ ∀ xs ep, KN K B [(k, x)] xs → (xs.map (·.1)).Nodup → Q (.ref p) (upd H2 p (dn P w p xs ep))
theorem pe_ndisp {key : Expr} (hu : X.A.units + 64 < cLine) (hk : PE X key tk) (hv : PE X v tv) : PE X (.Dict [some key] [v] pos) (tNDisp X.prog X.w X.K tk tv) := by
  refine ⟨fun pins s σ H Q I h => ?_⟩
  have hn := I.hok.fresh (Nat.le_refl s.heap.objs.size)
  have I1 : Inv X pins σ (upd H s.heap.objs.size (dn X.prog X.w s.heap.objs.size [] 0)) { s with heap := s.heap.push { cls := .type "dict", data := .dict #[] } } :=
    I.laid (a := s.heap.objs.size) (t' := s.toks) (fun _ _ q => Heap.get?_push_of_some _ q) (Nat.le_refl _)
      ⟨⟨beq_eq_false_iff_ne.mpr (Ne.symm (Nat.ne_of_lt I.big)), Nat.zero_le _, Heap.get?_push_size _ rfl⟩, ⟨_, Heap.get?_push_size _ rfl⟩, fun h1 h2 q k => ⟨q.1, q.2.1, k _ q.2.2⟩⟩
  have hsh := zip_pairTrees [some key] [v] X.env pos rfl rfl
  rw [arm_eval_Dict, hsh, dictDisplay_pairs (pairTrees [some key] [v] X.env pos) (by simp [pairTrees]) (by simp [pairTrees])]
  refine wpAny_bind (wpAny_standAt (wpAny_bind (wpAny_subDictH (knd := nestedKind X.prog X.w) (Q := fun d s' => wpAny (model X.prog X.w) X.A (pure (Value.ref d)) (EP X pins σ Q) X.xe s') (by show X.A.units + 8 < cLine; omega) (by simp [pairTrees]) ?_)))
  refine pairTrees_cons_walk (thn (hk.run pins _ σ _ _ I1 (h _ hn)) fun u s1 ⟨y, H1, I2, ry, q1⟩ => thn (hv.run pins s1 σ H1 _ I2 q1) fun w2 s2 ⟨x, H2, I3, rx, B, b, k, ey, bh, hp, hka, q2⟩ => pairTrees_nil_walk ?_)
  subst ey
  obtain rfl : u = Value.ref b := ry
  have kn0 : KN X.K B [] [] := .nil
  refine ⟨[(k, b, w2)], ⟨rfl, rfl, key_is I3 bh hka, True.intro⟩, dn_of I3 bh hp kn0 List.nodup_nil, fun h' tk' dd hs => wpAny_pure ?_⟩
  obtain ⟨ep', I4⟩ := dn_write (t' := tk') (xs' := [(k, b, w2)]) I3 hp hs (show 1 ≤ sizeLine by decide) dd
  exact ⟨.ref s.heap.objs.size, _, I4, rfl, q2 _ ep' (.cons ⟨rfl, hka, rx⟩ .nil) (by simp)⟩
end
end Sw
/-! SwWp -/
set_option Elab.async false
set_option linter.all false
set_option maxRecDepth 100000
set_option maxHeartbeats 2000000
namespace Sw
open PySem L2 SwH
structure Ct where
  P : Program
  w : World
  K : PySem.W.Frag
/-! ### slots: what is known of a value -/
inductive Sl where
  /-- data -/
  | d (x : D)
  /-- this value -/
  | x (v : V)
  /-- a list of data that stands still, live -/
  | l (ds : List D)
  /-- a pair of data and such a list -/
  | pl (x : D) (ds : List D)
  /-- a dict with nested keys that stands still -/
  | nd (kvs : List (NK × D))
abbrev Sl.m (p : Addr) : Sl := .x (.ref p)
def LiveL (K : PySem.W.Frag) (B : Hp) (v : V) (ds : List D) : Prop := ∃ p vs, v = .ref p ∧ B p = some (.lst vs) ∧ DpAll K B vs ds
inductive KVD (K : PySem.W.Frag) (B : Hp) : List (NK × V) → List (NK × D) → Prop
  | nil : KVD K B [] []
  | cons {k : NK} {v : V} {d : D} {ws : List (NK × V)} {ds : List (NK × D)} : Dp K B v d → KVD K B ws ds → KVD K B ((k, v) :: ws) ((k, d) :: ds)
def Slot (c : Ct) (B : Hp) (v : V) : Sl → Prop
  | .d x => Dp c.K B v x
  | .x w => v = w
  | .l ds => LiveL c.K B v ds
  | .pl x ds => ∃ q a b, v = .ref q ∧ SqT c.K B q [a, b] ∧ Dp c.K B a x ∧ LiveL c.K B b ds
  | .nd kvs => ∃ p ws, v = .ref p ∧ DN c.P c.w c.K B B p ws ∧ KVD c.K B ws kvs
inductive Slots (c : Ct) (B : Hp) : List V → List Sl → Prop
  | nil : Slots c B [] []
  | cons {v : V} {s : Sl} {vs : List V} {ss : List Sl} : Slot c B v s → Slots c B vs ss → Slots c B (v :: vs) (s :: ss)
inductive KVs (c : Ct) (B : Hp) {κ : Type} : List (κ × V) → List (κ × Sl) → Prop
  | nil : KVs c B [] []
  | cons {k : κ} {v : V} {s : Sl} {ws : List (κ × V)} {ss : List (κ × Sl)} : Slot c B v s → KVs c B ws ss → KVs c B ((k, v) :: ws) ((k, s) :: ss)
section
variable {c : Ct} {K : PySem.W.Frag} {B B' H H' : Hp} {v : V} {vs ws : List V} {s : Sl} {ss ts : List Sl} {d : D} {ds : List D}
theorem LiveL.up (h : LiveL K B v ds) (e : Same B B') : LiveL K B' v ds := by
  obtain ⟨p, vs, rfl, h1, h2⟩ := h
  exact ⟨p, vs, rfl, e _ _ h1, h2.up e⟩
theorem LiveL.dp (h : LiveL K B v ds) : Dp K B v (.list ds) := by
  obtain ⟨p, vs, rfl, h1, h2⟩ := h
  exact .lst (SqL.of h1) h2
theorem KVD.up {ws : List (NK × V)} {ds : List (NK × D)} (h : KVD K B ws ds) (e : Same B B') : KVD K B' ws ds := by
  induction h with
  | nil => exact .nil
  | cons h1 _ ih => exact .cons (h1.up e) ih
theorem Slot.up (h : Slot c B v s) (e : Same B B') : Slot c B' v s := by
  cases s with
  | d x => exact Dp.up h e
  | x w => exact h
  | l ds => exact LiveL.up h e
  | pl x ds =>
    obtain ⟨q, a, b, h1, h2, h3, h4⟩ := h
    exact ⟨q, a, b, h1, same_t e h2, h3.up e, h4.up e⟩
  | nd kvs =>
    obtain ⟨p, ws, h1, h2, h3⟩ := h
    exact ⟨p, ws, h1, h2.ups e e, h3.up e⟩
theorem Slots.up (h : Slots c B vs ss) (e : Same B B') : Slots c B' vs ss := by
  induction h with
  | nil => exact .nil
  | cons h1 _ ih => exact .cons (h1.up e) ih
theorem Slots.length (h : Slots c B vs ss) : vs.length = ss.length := by
  induction h with
  | nil => rfl
  | cons _ _ ih => simp [ih]
theorem Slots.append (h : Slots c B vs ss) (k : Slots c B ws ts) : Slots c B (vs ++ ws) (ss ++ ts) := by
  induction h with
  | nil => exact k
  | cons h1 _ ih => exact .cons h1 ih
theorem Slots.snoc (h : Slots c B vs ss) (k : Slot c B v s) : Slots c B (vs ++ [v]) (ss ++ [s]) := h.append (.cons k .nil)
theorem Slots.get {i : Nat} (h : Slots c B vs ss) (e : ss[i]? = some s) : ∃ v, vs[i]? = some v ∧ Slot c B v s := by
  induction h generalizing i with
  | nil => simp at e
  | cons h1 _ ih =>
    cases i with
    | zero => simp at e; subst e; exact ⟨_, rfl, h1⟩
    | succ i => simpa using ih (by simpa using e)
theorem Slots.getV {i : Nat} (h : Slots c B vs ss) (e : vs[i]? = some v) : ∃ s, ss[i]? = some s ∧ Slot c B v s := by
  have hl := h.length
  have hi : i < ss.length := by rw [← hl]; exact (List.getElem?_eq_some_iff.mp e).1
  obtain ⟨v', q1, q2⟩ := h.get (List.getElem?_eq_getElem hi)
  rw [e] at q1
  cases q1
  exact ⟨_, List.getElem?_eq_getElem hi, q2⟩
theorem Slots.ofAll (h : DpAll c.K B vs ds) : Slots c B vs (ds.map .d) := by
  induction ds generalizing vs with
  | nil => cases h; exact .nil
  | cons d ds ih => cases h with | cons h1 h2 => exact .cons h1 (ih h2)
theorem Slots.all (h : Slots c B vs (ds.map .d)) : DpAll c.K B vs ds := by
  induction ds generalizing vs with
  | nil => cases h; exact .nil
  | cons d ds ih => cases h with | cons h1 h2 => exact .cons h1 (ih h2)
theorem Slots.set (i : Nat) (h : Slots c B vs ss) (k : Slot c B v s) : Slots c B (vs.set i v) (ss.set i s) := by
  induction h generalizing i with
  | nil => exact .nil
  | cons h1 h2 ih =>
    cases i with
    | zero => exact .cons k h2
    | succ i => exact .cons h1 (ih i)
theorem Slots.drop (n : Nat) (h : Slots c B vs ss) : Slots c B (vs.drop n) (ss.drop n) := by
  induction h generalizing n with
  | nil => simp; exact .nil
  | cons h1 h2 ih =>
    cases n with
    | zero => exact .cons h1 h2
    | succ n => exact ih n
theorem Slots.take (n : Nat) (h : Slots c B vs ss) : Slots c B (vs.take n) (ss.take n) := by
  induction h generalizing n with
  | nil => simp; exact .nil
  | cons h1 h2 ih =>
    cases n with
    | zero => simp; exact .nil
    | succ n => exact .cons h1 (ih n)
theorem Slots.erase0 (h : Slots c B vs ss) : Slots c B (vs.eraseIdx 0) (ss.eraseIdx 0) := by
  cases h with
  | nil => exact .nil
  | cons h1 h2 => exact h2
theorem Slots.reverse (h : Slots c B vs ss) : Slots c B vs.reverse ss.reverse := by
  induction h with
  | nil => exact .nil
  | cons h1 _ ih => rw [List.reverse_cons, List.reverse_cons]; exact ih.snoc h1
end
section
variable {c : Ct} {B B' : Hp} {κ : Type} [DecidableEq κ] {ws : List (κ × V)} {ss : List (κ × Sl)} {k : κ} {v : V} {s : Sl}
def getS {σ : Type} (kvs : List (κ × σ)) (k : κ) : Option σ := (kvs.find? fun kv => decide (kv.1 = k)).map (·.2)
def putS {σ : Type} (kvs : List (κ × σ)) (k : κ) (v : σ) : List (κ × σ) :=
  if (kvs.any fun kv => decide (kv.1 = k)) = true then kvs.map (fun kv => if kv.1 = k then (kv.1, v) else kv) else kvs ++ [(k, v)]
theorem KVs.up (h : KVs c B ws ss) (e : Same B B') : KVs c B' ws ss := by
  induction h with
  | nil => exact .nil
  | cons h1 _ ih => exact .cons (h1.up e) ih
theorem KVs.keys (h : KVs c B ws ss) : ws.map (·.1) = ss.map (·.1) := by
  induction h with
  | nil => rfl
  | cons _ _ ih => simp [ih]
theorem KVs.length (h : KVs c B ws ss) : ws.length = ss.length := by have := congrArg List.length h.keys; simpa using this
theorem KVs.get (h : KVs c B ws ss) (k : κ) : (getS ss k = none ∧ valV ws k = none) ∨ ∃ v s, getS ss k = some s ∧ valV ws k = some v ∧ Slot c B v s := by
  induction h with
  | nil => exact .inl ⟨rfl, rfl⟩
  | @cons k' v' s' ws ss h1 _ ih =>
    by_cases e : k' = k
    · exact .inr ⟨v', s', by simp [getS, e], by simp [valV, e], h1⟩
    · rcases ih with ⟨i1, i2⟩ | ⟨v, s, i1, i2, i3⟩
      · exact .inl ⟨by simpa [getS, e] using i1, by simpa [valV, e] using i2⟩
      · exact .inr ⟨v, s, by simpa [getS, e] using i1, by simpa [valV, e] using i2, i3⟩
theorem KVs.getv (h : KVs c B ws ss) (e : getS ss k = some s) : ∃ v, valV ws k = some v ∧ Slot c B v s := by
  rcases h.get k with ⟨i1, _⟩ | ⟨v, s', i1, i2, i3⟩
  · rw [i1] at e; cases e
  · rw [i1] at e; cases e; exact ⟨v, i2, i3⟩
theorem KVs.isSome (h : KVs c B ws ss) : (valV ws k).isSome = (getS ss k).isSome := by
  rcases h.get k with ⟨i1, i2⟩ | ⟨v, s', i1, i2, i3⟩ <;> rw [i1, i2] <;> rfl
theorem KVs.append {ws' : List (κ × V)} {ss' : List (κ × Sl)} (h : KVs c B ws ss) (h' : KVs c B ws' ss') : KVs c B (ws ++ ws') (ss ++ ss') := by
  induction h with
  | nil => exact h'
  | cons h1 _ ih => exact .cons h1 ih
theorem KVs.repl (h : KVs c B ws ss) (hv : Slot c B v s) : KVs c B (ws.map fun kv => if kv.1 = k then (kv.1, v) else kv) (ss.map fun kv => if kv.1 = k then (kv.1, s) else kv) := by
  induction h with
  | nil => exact .nil
  | @cons k' v' s' ws ss h1 _ ih =>
    simp only [List.map_cons]
    by_cases e : k' = k
    · simp only [e, if_true]; exact .cons hv (by simpa using ih)
    · simp only [e, if_false]; exact .cons h1 (by simpa using ih)
theorem KVs.anyk (h : KVs c B ws ss) : (ws.any fun kv => decide (kv.1 = k)) = ss.any fun kv => decide (kv.1 = k) := by
  induction h with
  | nil => rfl
  | cons _ _ ih => simp [ih]
theorem KVs.put (h : KVs c B ws ss) (hv : Slot c B v s) : KVs c B (putK ws k v) (putS ss k s) := by
  unfold putK putS
  rw [h.anyk]
  split
  · exact h.repl hv
  · exact h.append (.cons hv .nil)
theorem getS_put {σ : Type} (kvs : List (κ × σ)) (k k' : κ) (v : σ) : getS (putS kvs k v) k' = if k = k' then some v else getS kvs k' := by
  unfold putS
  split
  · rename_i h
    induction kvs with
    | nil => simp at h
    | cons a r ih =>
      obtain ⟨a1, a2⟩ := a
      by_cases e : a1 = k
      · subst e
        by_cases e2 : a1 = k'
        · subst e2; simp [getS]
        · simp only [List.map_cons, if_true, getS, List.find?_cons, e2, decide_false, if_false]
          clear ih h
          induction r with
          | nil => rfl
          | cons b r ih =>
            obtain ⟨b1, b2⟩ := b
            by_cases e3 : b1 = a1
            · subst e3; simpa [e2] using ih
            · by_cases e4 : b1 = k'
              · subst e4; simp [e3]
              · simpa [e3, e4] using ih
      · have h' : (r.any fun kv => decide (kv.1 = k)) = true := by simpa [e] using h
        have := ih h'
        by_cases e2 : a1 = k'
        · subst e2; simp [getS, e, Ne.symm e]
        · simpa [getS, e, e2] using this
  · rename_i h
    simp only [Bool.not_eq_true] at h
    induction kvs with
    | nil => by_cases e : k = k' <;> simp [getS, e]
    | cons a r ih =>
      obtain ⟨a1, a2⟩ := a
      simp only [List.any_cons, Bool.or_eq_false_iff, decide_eq_false_iff_not] at h
      by_cases e2 : a1 = k'
      · subst e2; simp [getS, Ne.symm h.1]
      · simpa [getS, e2] using ih h.2
theorem getS_none_iff {σ : Type} {kvs : List (κ × σ)} {k : κ} : getS kvs k = none ↔ k ∉ kvs.map (·.1) := by
  induction kvs with
  | nil => simp [getS]
  | cons a r ih =>
    obtain ⟨a1, a2⟩ := a
    by_cases e : a1 = k
    · subst e; simp [getS]
    · simp only [getS, List.find?_cons, e, decide_false, List.map_cons, List.mem_cons, not_or]
      simp only [getS] at ih
      rw [ih]
      exact ⟨fun h => ⟨fun z => e z.symm, h⟩, fun h => h.2⟩
theorem putS_keys {σ : Type} {kvs : List (κ × σ)} {k : κ} {v : σ} : (putS kvs k v).map (·.1) = if k ∈ kvs.map (·.1) then kvs.map (·.1) else kvs.map (·.1) ++ [k] := by
  unfold putS
  by_cases h : (kvs.any fun kv => decide (kv.1 = k)) = true
  · rw [if_pos h, if_pos]
    · rw [List.map_map]; apply List.map_congr_left; intro a _; simp; split <;> rfl
    · simp at h; obtain ⟨b, h⟩ := h; exact List.mem_map.mpr ⟨(k, b), h, rfl⟩
  · rw [if_neg h, if_neg]
    · simp
    · intro z; apply h; simp at z ⊢; exact z
theorem putS_nodup {σ : Type} {kvs : List (κ × σ)} {k : κ} {v : σ} (h : (kvs.map (·.1)).Nodup) : ((putS kvs k v).map (·.1)).Nodup := by
  rw [putS_keys]
  split
  · exact h
  · rename_i n
    exact List.nodup_append.mpr ⟨h, by simp, fun a ha b hb => by simp at hb; subst hb; intro e; subst e; exact n ha⟩
theorem putS_new {σ : Type} {kvs : List (κ × σ)} {k : κ} {v : σ} (h : k ∉ kvs.map (·.1)) : putS kvs k v = kvs ++ [(k, v)] := by
  unfold putS
  rw [if_neg]
  intro z; apply h; simp at z ⊢; exact z
end
end Sw
/-! SwMu -/
set_option Elab.async false
set_option linter.all false
set_option maxRecDepth 100000
set_option maxHeartbeats 2000000
namespace Sw
open PySem L2 SwH
def inrK (ws : List (Str × V)) : List (Key × V) := ws.map fun kv => (.inr kv.1, kv.2)
theorem inrK_val (ws : List (Str × V)) (k : Str) : valV (inrK ws) (.inr k) = valV ws k := by
  induction ws with
  | nil => rfl
  | cons a r ih =>
    obtain ⟨a1, a2⟩ := a
    by_cases e : a1 = k
    · subst e; simp [inrK, valV]
    · have e' : ¬ ((Sum.inr a1 : Key) = Sum.inr k) := fun z => e (Sum.inr.inj z)
      simpa [inrK, valV, e, e'] using ih
theorem inrK_put (ws : List (Str × V)) (k : Str) (v : V) : putK (inrK ws) (.inr k) v = inrK (putK ws k v) := by
  have ha : ((inrK ws).any fun kv => decide (kv.1 = Sum.inr k)) = ws.any fun kv => decide (kv.1 = k) := by
    induction ws with
    | nil => rfl
    | cons a r ih =>
      have : (decide ((Sum.inr a.1 : Key) = Sum.inr k)) = decide (a.1 = k) := by
        by_cases e : a.1 = k
        · simp [e]
        · have e' : ¬ ((Sum.inr a.1 : Key) = Sum.inr k) := fun z => e (Sum.inr.inj z)
          simp [e, e']
      show (decide ((Sum.inr a.1 : Key) = Sum.inr k) || _) = _
      rw [this]
      exact congrArg _ ih
  unfold putK
  rw [ha]
  split
  · simp only [inrK, List.map_map]
    apply List.map_congr_left
    intro a _
    by_cases e : a.1 = k
    · simp [e]
    · have e' : ¬ ((Sum.inr a.1 : Key) = Sum.inr k) := fun z => e (Sum.inr.inj z)
      simp [e, e']
  · simp [inrK]
theorem inrK_len (ws : List (Str × V)) : (inrK ws).length = ws.length := by simp [inrK]
/-! ### things that may change -/
inductive MO where
  | lst (ss : List Sl)
  | dk (kvs : List (Str × Sl))
  | dkF (o : Obj) (ws : List (Str × V)) (kvs : List (Str × Sl))
  | dn (kvs : List (NK × D))
  | ins (C dx : Addr) (fs : List (Str × Sl))
abbrev M := List (Addr × MO)
def Real (c : Ct) (B H : Hp) (p : Addr) : MO → Prop
  | .lst ss => ∃ vs, H p = some (.lst vs) ∧ Slots c B vs ss
  | .dk kvs => ∃ ws, H p = some (.dK (inrK ws)) ∧ KVs c B ws kvs
  | .dkF o ws kvs => H p = some (.frz o (.dK (inrK ws))) ∧ KVs c B ws kvs
  | .dn kvs => ∃ ws, DN c.P c.w c.K B H p ws ∧ KVD c.K B ws kvs
  | .ins C dx fs => ∃ ws, H p = some (.ins C dx ws) ∧ KVs c B ws fs
def dom (μ : M) : List Addr := μ.map (·.1)
structure Mu (c : Ct) (B H : Hp) (μ : M) : Prop where
  nd : (dom μ).Nodup
  bn : ∀ p, p ∈ dom μ → B p = none
  re : ∀ p o, (p, o) ∈ μ → Real c B H p o
section
variable {c : Ct} {B B' H H' : Hp} {p : Addr} {o : MO} {μ μ' ν : M}
theorem Real.up (h : Real c B H p o) (e : Same B B') (eh : H' p = H p) : Real c B' H' p o := by
  cases o with
  | lst ss => obtain ⟨vs, h1, h2⟩ := h; exact ⟨vs, by rw [eh]; exact h1, h2.up e⟩
  | dk kvs => obtain ⟨vs, h1, h2⟩ := h; exact ⟨vs, by rw [eh]; exact h1, h2.up e⟩
  | dkF o ws kvs => obtain ⟨h1, h2⟩ := h; exact ⟨by rw [eh]; exact h1, h2.up e⟩
  | dn kvs => obtain ⟨ws, h1, h2⟩ := h; exact ⟨ws, h1.up e eh, h2.up e⟩
  | ins C dx fs => obtain ⟨vs, h1, h2⟩ := h; exact ⟨vs, by rw [eh]; exact h1, h2.up e⟩
theorem Real.nn (h : Real c B H p o) : H p ≠ none := by
  cases o with
  | lst ss => obtain ⟨vs, h1, h2⟩ := h; rw [h1]; simp
  | dk kvs => obtain ⟨vs, h1, h2⟩ := h; rw [h1]; simp
  | dkF o ws kvs => obtain ⟨h1, h2⟩ := h; rw [h1]; simp
  | dn kvs => obtain ⟨ws, ⟨xs, ep, h1, _⟩, h2⟩ := h; rw [h1]; simp
  | ins C dx fs => obtain ⟨vs, h1, h2⟩ := h; rw [h1]; simp
theorem dom_append : dom (μ ++ ν) = dom μ ++ dom ν := by simp [dom]
theorem dom_cons {e : Addr × MO} : dom (e :: μ) = e.1 :: dom μ := rfl
theorem mem_dom (h : (p, o) ∈ μ) : p ∈ dom μ := List.mem_map.mpr ⟨_, h, rfl⟩
theorem of_dom (h : p ∈ dom μ) : ∃ o, (p, o) ∈ μ := by
  obtain ⟨⟨q, o⟩, h1, h2⟩ := List.mem_map.mp h
  exact ⟨o, by rw [← h2]; exact h1⟩
theorem Mu.nn (h : Mu c B H μ) (hp : p ∈ dom μ) : H p ≠ none := by
  obtain ⟨o, ho⟩ := of_dom hp
  exact (h.re p o ho).nn
theorem Mu.perm (h : Mu c B H μ) (e : μ.Perm μ') : Mu c B H μ' :=
  ⟨(e.map Prod.fst).nodup_iff.mp h.nd, fun p hp => h.bn p ((e.map (·.1)).mem_iff.mpr hp), fun p o hp => h.re p o (e.mem_iff.mpr hp)⟩
theorem Mu.left (h : Mu c B H (μ ++ ν)) : Mu c B H μ :=
  ⟨by have := h.nd; rw [dom_append] at this; exact (List.nodup_append.mp this).1, fun p hp => h.bn p (by rw [dom_append]; simp [hp]), fun p o hp => h.re p o (by simp [hp])⟩
theorem Mu.right (h : Mu c B H (μ ++ ν)) : Mu c B H ν :=
  ⟨by have := h.nd; rw [dom_append] at this; exact (List.nodup_append.mp this).2.1, fun p hp => h.bn p (by rw [dom_append]; simp [hp]), fun p o hp => h.re p o (by simp [hp])⟩
theorem Mu.disj (h : Mu c B H (μ ++ ν)) (h1 : p ∈ dom μ) (h2 : p ∈ dom ν) : False := by
  have := h.nd
  rw [dom_append] at this
  exact (List.nodup_append.mp this).2.2 p h1 p h2 rfl
theorem Mu.join (h : Mu c B H μ) (k : Mu c B H ν) (d : ∀ p, p ∈ dom μ → p ∈ dom ν → False) : Mu c B H (μ ++ ν) :=
  ⟨by rw [dom_append]; exact List.nodup_append.mpr ⟨h.nd, k.nd, fun a ha b hb e => d a ha (e ▸ hb)⟩, fun p hp => by
    rw [dom_append, List.mem_append] at hp
    rcases hp with hp | hp
    · exact h.bn p hp
    · exact k.bn p hp, fun p o hp => by
    rw [List.mem_append] at hp
    rcases hp with hp | hp
    · exact h.re p o hp
    · exact k.re p o hp⟩
theorem Mu.nil : Mu c B H [] := ⟨List.nodup_nil, fun p h => (nomatch h), fun p o h => (nomatch h)⟩
theorem Mu.one (hb : B p = none) (h : Real c B H p o) : Mu c B H [(p, o)] := ⟨by simp [dom], fun q hq => by simp [dom] at hq; subst hq; exact hb, fun q o' hq => by simp at hq; obtain ⟨rfl, rfl⟩ := hq; exact h⟩
/-- what is outside stays -/
theorem Mu.up {X : List Addr} (h : Mu c B H μ) (g : Gr X B H B' H') (d : ∀ p, p ∈ dom μ → p ∉ X) : Mu c B' H' μ :=
  ⟨h.nd, fun p hp => g.fr p (d p hp) (h.nn hp) (h.bn p hp), fun p o hp => (h.re p o hp).up g.bb (by
    obtain ⟨u, hu⟩ := Option.ne_none_iff_exists'.mp ((h.re p o hp).nn)
    rw [hu, g.hh p u (d p (mem_dom hp)) hu])⟩
end
/-- from one state to another -/
structure GM (μ : M) (B H : Hp) (μ' : M) (B' H' : Hp) : Prop where
  gr : Gr (dom μ) B H B' H'
  nw : ∀ p, p ∈ dom μ' → p ∈ dom μ ∨ H p = none
section
variable {c : Ct} {B H B1 H1 B2 H2 B' H' : Hp} {p : Addr} {o : MO} {μ μ1 μ2 μ' ν : M}
theorem GM.refl (e : Same B H) : GM μ B H μ B H := ⟨.refl e, fun p h => .inl h⟩
theorem GM.trans (g : GM μ B H μ1 B1 H1) (k : GM μ1 B1 H1 μ2 B2 H2) : GM μ B H μ2 B2 H2 :=
  ⟨g.gr.trans k.gr g.nw, fun p hp => by
    rcases k.nw p hp with h | h
    · exact g.nw p h
    · by_cases z : H p = none
      · exact .inr z
      · exact absurd h (g.gr.dm p z)⟩
theorem GM.bb (g : GM μ B H μ1 B1 H1) : Same B B1 := g.gr.bb
theorem GM.bh (g : GM μ B H μ1 B1 H1) : Same B1 H1 := g.gr.bh
theorem GM.of0 (g : Gr [] B H B' H') : GM μ B H μ B' H' := ⟨g.wide, fun p h => .inl h⟩
theorem Mu.of0 (h : Mu c B H μ) (g : Gr [] B H B' H') : Mu c B' H' μ := h.up g (by intro _ _ z; cases z)
/-- a call on a part of it -/
theorem GM.frame (e : μ.Perm (μ1 ++ ν)) (h : Mu c B H μ) (g : GM μ1 B H μ' B' H') (h' : Mu c B' H' μ') : GM μ B H (μ' ++ ν) B' H' ∧ Mu c B' H' (μ' ++ ν) := by
  have hp := h.perm e
  have ex : ∀ a, a ∈ dom (μ1 ++ ν) → a ∈ dom μ := fun a ha => (e.map (·.1)).mem_iff.mpr ha
  refine ⟨⟨g.gr.mono fun a ha => ex a (by rw [dom_append]; simp [ha]), fun p q => ?_⟩, h'.join (hp.right.up g.gr fun p h1 h2 => hp.disj h2 h1) fun p h1 h2 => ?_⟩
  · rw [dom_append, List.mem_append] at q
    rcases q with q | q
    · rcases g.nw p q with r | r
      · exact .inl (ex p (by rw [dom_append]; simp [r]))
      · exact .inr r
    · exact .inl (ex p (by rw [dom_append]; simp [q]))
  · rcases g.nw p h1 with r | r
    · exact hp.disj r h2
    · exact (hp.right.nn h2) r
/-- a new thing -/
theorem GM.new (e : Same B H) (h : Mu c B H μ) {u : HO} (hp : H p = none) (hr : Real c B (upd H p u) p o) : GM μ B H (μ ++ [(p, o)]) B (upd H p u) ∧ Mu c B (upd H p u) (μ ++ [(p, o)]) := by
  have g : Gr [] B H B (upd H p u) := Gr.newM e hp
  refine ⟨⟨g.wide, fun q hq => ?_⟩, (h.of0 g).join (Mu.one (e.nn hp) hr) fun q h1 h2 => ?_⟩
  · rw [dom_append, List.mem_append] at hq
    rcases hq with hq | hq
    · exact .inl hq
    · simp [dom] at hq; subst hq; exact .inr hp
  · simp [dom] at h2; subst h2; exact h.nn h1 hp
def setM (μ : M) (i : Nat) (p : Addr) (o : MO) : M := μ.set i (p, o)
/-- the thing at i changes -/
theorem GM.chg {i : Nat} {o1 : MO} {u : HO} (e : Same B H) (h : Mu c B H μ) (hi : μ[i]? = some (p, o1)) (hr : Real c B (upd H p u) p o) : GM μ B H (μ.set i (p, o)) B (upd H p u) ∧ Mu c B (upd H p u) (μ.set i (p, o)) := by
  obtain ⟨hl, hi'⟩ := List.getElem?_eq_some_iff.mp hi
  have hm : (p, o1) ∈ μ := by rw [← hi']; exact List.getElem_mem hl
  have hd : dom (μ.set i (p, o)) = dom μ := by
    unfold dom
    rw [List.map_set]
    apply List.ext_getElem?
    intro j
    rw [List.getElem?_set]
    by_cases z : i = j
    · subst z; simp [hl, hi']
    · simp [z]
  have g : Gr (dom μ) B H B (upd H p u) := Gr.chg e (mem_dom hm) (h.bn p (mem_dom hm))
  refine ⟨⟨g, fun q hq => .inl (hd ▸ hq)⟩, ⟨hd ▸ h.nd, fun q hq => h.bn q (hd ▸ hq), fun q o2 hq => ?_⟩⟩
  obtain ⟨j, hj⟩ := List.mem_iff_getElem?.mp hq
  rw [List.getElem?_set] at hj
  by_cases z : i = j
  · subst z
    simp [hl] at hj
    obtain ⟨rfl, rfl⟩ := hj
    exact hr
  · simp [z] at hj
    have hne : q ≠ p := by
      intro y
      subst y
      apply z
      have n := h.nd
      have a1 : (dom μ)[i]? = some q := by simp [dom, hi]
      have a2 : (dom μ)[j]? = some q := by simp [dom, hj]
      exact (List.getElem?_inj (by simpa [dom] using hl) n).mp (a1.trans a2.symm)
    exact (h.re q o2 (List.mem_of_getElem? hj)).up (Same.refl _) (upd_ne hne)
/-- the thing at i goes -/
theorem perm_erase {i : Nat} {e : Addr × MO} (hi : μ[i]? = some e) : μ.Perm (e :: μ.eraseIdx i) := by
  induction μ generalizing i with
  | nil => simp at hi
  | cons a r ih =>
    cases i with
    | zero => simp at hi; subst hi; exact List.Perm.refl _
    | succ i => exact ((ih (by simpa using hi)).cons a).trans (List.Perm.swap _ _ _)
theorem GM.sub (e : Same B H) (h : Mu c B H μ) (he : μ.Perm (μ' ++ ν)) : GM μ B H μ' B H ∧ Mu c B H μ' :=
  ⟨⟨.refl e, fun p hp => .inl ((he.map (·.1)).mem_iff.mpr (List.mem_map.mpr (by obtain ⟨x, h1, h2⟩ := List.mem_map.mp hp; exact ⟨x, by simp [h1], h2⟩)))⟩, (h.perm he).left⟩
/-- it stands still from here on -/
theorem GM.freeze {u : HO} (e : Same B H) (h : Mu c B H μ) (he : μ.Perm ((p, o) :: μ')) (hu : H p = some u) : GM μ B H μ' (upd B p u) H ∧ Mu c (upd B p u) H μ' := by
  have hm : (p, o) ∈ μ := he.mem_iff.mpr (by simp)
  have g : Gr (dom μ) B H (upd B p u) H := Gr.freeze e (mem_dom hm) (h.bn p (mem_dom hm)) hu
  have hp := h.perm he
  refine ⟨⟨g, fun q hq => .inl ((he.map (·.1)).mem_iff.mpr (by simp [dom] at hq ⊢; exact .inr hq))⟩, ?_⟩
  have h2 : Mu c B H μ' := Mu.right (μ := [(p, o)]) (by simpa using hp)
  have hne : ∀ q, q ∈ dom μ' → q ≠ p := fun q hq z => by
    subst z
    exact Mu.disj (μ := [(q, o)]) (ν := μ') (by simpa using hp) (by simp [dom]) hq
  exact ⟨h2.nd, fun q hq => by rw [upd_ne (hne q hq)]; exact h2.bn q hq, fun q o' hq => (h2.re q o' hq).up g.bb rfl⟩
end
/-! ### slots of variables -/
abbrev Vt := List (Option Sl)
structure Env (c : Ct) (B : Hp) (σ : L2.St) (Δ : Vt) : Prop where
  len : σ.length = Δ.length
  at_ : ∀ (i : Nat) s, Δ[i]? = some (some s) → ∃ v, σ[i]? = some (some v) ∧ Slot c B v s
section
variable {c : Ct} {B B' : Hp} {σ : L2.St} {Δ Δ' : Vt} {i : Nat} {v : V} {s s' : Sl}
theorem Env.up (h : Env c B σ Δ) (e : Same B B') : Env c B' σ Δ := ⟨h.len, fun i s q => by obtain ⟨v, h1, h2⟩ := h.at_ i s q; exact ⟨v, h1, h2.up e⟩⟩
theorem Env.set (i : Nat) (h : Env c B σ Δ) (hv : Slot c B v s) : Env c B (σ.set i (some v)) (Δ.set i (some s)) := by
  refine ⟨by simp [h.len], fun j s' q => ?_⟩
  rw [List.getElem?_set] at q ⊢
  by_cases z : i = j
  · subst z
    by_cases l : i < Δ.length
    · simp [l] at q; subst q; exact ⟨v, by simp [h.len, l], hv⟩
    · simp [l] at q
  · simp [z] at q ⊢
    obtain ⟨v', h1, h2⟩ := h.at_ j s' q
    exact ⟨v', h1, h2⟩
/-- what one knows of the slot at i, told otherwise -/
theorem Env.re (i : Nat) (h : Env c B σ Δ) (hs : ∀ s, Δ[i]? = some (some s) → ∀ v, Slot c B v s → Slot c B v s') (hi : ∃ s, Δ[i]? = some (some s)) : Env c B σ (Δ.set i (some s')) := by
  refine ⟨by simp [h.len], fun j s'' q => ?_⟩
  rw [List.getElem?_set] at q
  by_cases z : i = j
  · subst z
    obtain ⟨s, hi⟩ := hi
    have l : i < Δ.length := (List.getElem?_eq_some_iff.mp hi).1
    simp [l] at q
    subst q
    obtain ⟨v, h1, h2⟩ := h.at_ i s hi
    exact ⟨v, h1, hs s hi v h2⟩
  · simp [z] at q
    exact h.at_ j s'' q
theorem Env.unset (i : Nat) (h : Env c B σ Δ) : Env c B σ (Δ.set i none) := by
  refine ⟨by simp [h.len], fun j s' q => ?_⟩
  rw [List.getElem?_set] at q
  by_cases z : i = j
  · subst z
    by_cases l : i < Δ.length
    · simp [l] at q
    · simp [l] at q
  · simp [z] at q
    exact h.at_ j s' q
def wipeD (Δ : Vt) : List Nat → Vt
  | [] => Δ
  | i :: is => (wipeD Δ is).set i none
theorem Env.wipe (h : Env c B σ Δ) : ∀ is, Env c B (L2.wipe σ is) (wipeD Δ is)
  | [] => h
  | i :: is => by
    have k := Env.wipe h is
    refine ⟨by simp [L2.wipe, wipeD, k.len], fun j s' q => ?_⟩
    simp only [wipeD, L2.wipe] at q ⊢
    rw [List.getElem?_set] at q ⊢
    by_cases z : i = j
    · subst z
      by_cases l : i < (wipeD Δ is).length
      · simp [l] at q
      · simp [l] at q
    · simp [z] at q ⊢
      obtain ⟨v', h1, h2⟩ := k.at_ j s' q
      exact ⟨v', h1, h2⟩
end
end Sw
/-! SwJd -/
set_option Elab.async false
set_option linter.all false
set_option maxRecDepth 100000
set_option maxHeartbeats 2000000
namespace Sw
open PySem L2 SwH
/-! ### what evaluates to what: abstract states -/
abbrev RE := Sl → M → Prop
def WE (c : Ct) (te : TE) (Δ : Vt) (μ : M) (R : RE) : Prop := ∀ B σ H, Same B H → Env c B σ Δ → Mu c B H μ → ∀ Q : VK,
  (∀ v B' H' s μ', R s μ' → GM μ B H μ' B' H' → Mu c B' H' μ' → Slot c B' v s → Q v H') → te σ H Q
def WA (c : Ct) (ta : TA) (Δ : Vt) (μ : M) (R : List Sl → M → Prop) : Prop := ∀ B σ H, Same B H → Env c B σ Δ → Mu c B H μ → ∀ Q : List V → Hp → Prop,
  (∀ vs B' H' ss μ', R ss μ' → GM μ B H μ' B' H' → Mu c B' H' μ' → Slots c B' vs ss → Q vs H') → ta σ H Q
def WT (c : Ct) (tt : TT) (Δ : Vt) (μ : M) (R : Bool → M → Prop) : Prop := ∀ B σ H, Same B H → Env c B σ Δ → Mu c B H μ → ∀ Q : Bool → Hp → Prop,
  (∀ b B' H' μ', R b μ' → GM μ B H μ' B' H' → Mu c B' H' μ' → Q b H') → tt σ H Q
def WO (c : Ct) (r : R2) (μ : M) (s t : Sl) (R : RE) : Prop := ∀ B H x y, Same B H → Mu c B H μ → Slot c B x s → Slot c B y t → ∀ Q : VK,
  (∀ v B' H' s' μ', R s' μ' → GM μ B H μ' B' H' → Mu c B' H' μ' → Slot c B' v s' → Q v H') → r x y H Q
def WC (c : Ct) (r : List V → Hp → VK → Prop) (μ : M) (ss : List Sl) (R : RE) : Prop := ∀ B H xs, Same B H → Mu c B H μ → Slots c B xs ss → ∀ Q : VK,
  (∀ v B' H' s' μ', R s' μ' → GM μ B H μ' B' H' → Mu c B' H' μ' → Slot c B' v s' → Q v H') → r xs H Q
def WB (c : Ct) (r : V → List V → Hp → VK → Prop) (μ : M) (s : Sl) (ss : List Sl) (R : RE) : Prop := ∀ B H x xs, Same B H → Mu c B H μ → Slot c B x s → Slots c B xs ss → ∀ Q : VK,
  (∀ v B' H' s' μ', R s' μ' → GM μ B H μ' B' H' → Mu c B' H' μ' → Slot c B' v s' → Q v H') → r x xs H Q
/-- targets -/
def GT (c : Ct) (g : TG) (s : Sl) (Δ Δ' : Vt) (is : List Nat) : Prop := ∀ B σ H v, Same B H → Env c B σ Δ → Slot c B v s → ∀ Q : L2.St → Hp → Prop,
  (∀ σ', Env c B σ' Δ' → L2.wipe σ' is = L2.wipe σ is → Q σ' H) → g v σ H Q
def GTs (c : Ct) (g : TGs) (ss : List Sl) (Δ Δ' : Vt) (is : List Nat) : Prop := ∀ B σ H vs, Same B H → Env c B σ Δ → Slots c B vs ss → ∀ Q : L2.St → Hp → Prop,
  (∀ σ', Env c B σ' Δ' → L2.wipe σ' is = L2.wipe σ is → Q σ' H) → g vs σ H Q
structure AE where
  nx : Vt → M → Prop
  rt : RE
  bk : Vt → M → Prop := fun _ _ => False
  ct : Vt → M → Prop := fun _ _ => False
def WS (c : Ct) (ts : TS) (Δ : Vt) (μ : M) (A : AE) : Prop := ∀ B σ H, Same B H → Env c B σ Δ → Mu c B H μ → ∀ E : Ends,
  (∀ B' σ' H' Δ' μ', A.nx Δ' μ' → GM μ B H μ' B' H' → Env c B' σ' Δ' → Mu c B' H' μ' → E.nx σ' H') →
  (∀ v B' H' s μ', A.rt s μ' → GM μ B H μ' B' H' → Mu c B' H' μ' → Slot c B' v s → E.rt v H') →
  (∀ B' σ' H' Δ' μ', A.bk Δ' μ' → GM μ B H μ' B' H' → Env c B' σ' Δ' → Mu c B' H' μ' → E.bk σ' H') →
  (∀ B' σ' H' Δ' μ', A.ct Δ' μ' → GM μ B H μ' B' H' → Env c B' σ' Δ' → Mu c B' H' μ' → E.ct σ' H') → ts E σ H
/-- what an iteration yields, as long as keep is as it is -/
def YI (c : Ct) (J : It) (ss : List Sl) (keep : M) (B : Hp) : Prop := ∀ i B' H', Same B B' → Same B' H' → (∀ p o, (p, o) ∈ keep → Real c B' H' p o) →
  (i = ss.length → J.stop i H') ∧ ∀ s, ss[i]? = some s → J.go i H' ∧ ∀ x H'', J.yld i H' x H'' → ∃ B'', Gr [] B' H' B'' H'' ∧ Slot c B'' x s
def WI (c : Ct) (wi : TI) (Δ : Vt) (μ : M) (R : List Sl → M → M → Prop) : Prop := ∀ B σ H, Same B H → Env c B σ Δ → Mu c B H μ → ∀ T : It → Hp → Prop,
  (∀ J B' H' ss keep μ', R ss keep μ' → GM μ B H μ' B' H' → Mu c B' H' μ' → YI c J ss keep B' → T J H') → wi σ H T
section
variable {c : Ct} {Δ Δ' : Vt} {μ μ' : M} {R R' : RE} {te ta tb : TE} {tl : TA} {tt uu : TT} {s t : Sl} {ss : List Sl} {A A' : AE} {i : Nat} {p : Addr}
theorem WE.mono (h : WE c te Δ μ R) (k : ∀ s μ', R s μ' → R' s μ') : WE c te Δ μ R' := fun B σ H bh e m Q q => h B σ H bh e m Q fun v B' H' s μ' r => q v B' H' s μ' (k s μ' r)
theorem we_var (h : Δ[i]? = some (some s)) (r : R s μ) : WE c (tVar i) Δ μ R := fun B σ H bh e m Q q => by
  obtain ⟨v, h1, h2⟩ := e.at_ i s h
  exact ⟨v, h1, q v B H s μ r (.refl bh) m h2⟩
theorem we_int {n : Int} (r : R (.d (.int n)) μ) : WE c (tC (.int n)) Δ μ R := fun B σ H bh e m Q q => q _ B H _ μ r (.refl bh) m (.int n)
theorem we_str {n : Str} (r : R (.d (.str n)) μ) : WE c (tC (.str n)) Δ μ R := fun B σ H bh e m Q q => q _ B H _ μ r (.refl bh) m (.str n)
theorem we_bl {n : Bool} (r : R (.d (.bool n)) μ) : WE c (tC (.bl n)) Δ μ R := fun B σ H bh e m Q q => q _ B H _ μ r (.refl bh) m (.bl n)
theorem we_non (r : R (.d .none) μ) : WE c (tC .non) Δ μ R := fun B σ H bh e m Q q => q _ B H _ μ r (.refl bh) m .non
theorem we_cv {v : V} (r : R (.x v) μ) : WE c (tC v) Δ μ R := fun B σ H bh e m Q q => q _ B H _ μ r (.refl bh) m (rfl : v = v)
theorem wa_nil {R : List Sl → M → Prop} (r : R [] μ) : WA c tNil Δ μ R := fun B σ H bh e m Q q => q [] B H [] μ r (.refl bh) m .nil
theorem wa_cons {R : List Sl → M → Prop} (h : WE c te Δ μ fun s μ1 => WA c tl Δ μ1 fun ss μ2 => R (s :: ss) μ2) : WA c (tCons te tl) Δ μ R := fun B σ H bh e m Q q =>
  h B σ H bh e m _ fun v B1 H1 s μ1 r g1 m1 hv => r B1 σ H1 g1.bh (e.up g1.bb) m1 _ fun vs B2 H2 ss μ2 r2 g2 m2 hvs => q (v :: vs) B2 H2 (s :: ss) μ2 r2 (g1.trans g2) m2 (.cons (hv.up g2.bb) hvs)
/-- slots that are data -/
def dataS : Sl → Option D
  | .d x => some x
  | .l ds => some (.list ds)
  | _ => none
theorem dataS_ok {B : Hp} {v : V} {d : D} (h : dataS s = some d) (hv : Slot c B v s) : Dp c.K B v d := by
  cases s with
  | d x => cases h; exact hv
  | l ds => cases h; exact LiveL.dp hv
  | x _ => cases h
  | pl _ _ => cases h
  | nd _ => cases h
def allD : List Sl → Option (List D)
  | [] => some []
  | s :: r => match dataS s, allD r with
    | some d, some ds => some (d :: ds)
    | _, _ => none
theorem allD_ok {B : Hp} {ss : List Sl} {ds : List D} {vs : List V} (h : allD ss = some ds) (k : Slots c B vs ss) : DpAll c.K B vs ds := by
  induction ss generalizing vs ds with
  | nil => cases h; cases k; exact .nil
  | cons a r ih =>
    cases k with
    | cons k1 k2 =>
      unfold allD at h
      split at h
      · rename_i d es h1 h2
        cases h
        exact .cons (dataS_ok h1 k1) (ih h2 k2)
      · cases h
theorem allD_map (ds : List D) : allD (ds.map .d) = some ds := by
  induction ds with
  | nil => rfl
  | cons d ds ih => simp [allD, dataS, ih]
theorem we_tup (h : WA c tl Δ μ fun ss μ1 => ss.length ≤ 10000000 ∧ ∃ ds, allD ss = some ds ∧ R (.d (.tuple ds)) μ1) : WE c (tTup tl) Δ μ R := fun B σ H bh e m Q q =>
  h B σ H bh e m _ fun vs B1 H1 ss μ1 ⟨hl, ds, hs, r⟩ g1 m1 hvs => ⟨small_le (by rw [hvs.length]; exact hl), fun p hp => by
    have g : Gr [] B1 H1 (upd B1 p (.tup vs)) (upd H1 p (.tup vs)) := Gr.new g1.bh hp
    exact q (.ref p) _ _ _ μ1 r (g1.trans (.of0 g)) (m1.of0 g) (Dp.tup (SqT.of upd_same) ((allD_ok hs hvs).up (Same.new (g1.bh.nn hp))))⟩
/-- a pair of data and a live list -/
theorem we_tupPL (h : WE c ta Δ μ fun s μ1 => WE c tb Δ μ1 fun t μ2 => ∃ x ds, s = .d x ∧ t = .l ds ∧ R (.pl x ds) μ2) : WE c (tTup (tCons ta (tCons tb tNil))) Δ μ R := fun B σ H bh e m Q q =>
  h B σ H bh e m _ fun v B1 H1 s μ1 r1 g1 m1 hv => r1 B1 σ H1 g1.bh (e.up g1.bb) m1 _ fun w B2 H2 t μ2 ⟨x, ds, hs, ht, r⟩ g2 m2 hw => ⟨small_le (n := 2) (by decide), fun p hp => by
    subst hs ht
    have g : Gr [] B2 H2 (upd B2 p (.tup [v, w])) (upd H2 p (.tup [v, w])) := Gr.new g2.bh hp
    have up : Same B2 (upd B2 p (.tup [v, w])) := Same.new (g2.bh.nn hp)
    exact q (.ref p) _ _ _ μ2 r ((g1.trans g2).trans (.of0 g)) (m2.of0 g) ⟨p, v, w, rfl, SqT.of upd_same, (Dp.up hv g2.bb).up up, LiveL.up hw up⟩⟩
theorem we_lst (h : WA c tl Δ μ fun ss μ1 => ss.length ≤ 10000000 ∧ ∀ p, R (.x (.ref p)) (μ1 ++ [(p, .lst ss)])) : WE c (tLst tl) Δ μ R := fun B σ H bh e m Q q =>
  h B σ H bh e m _ fun vs B1 H1 ss μ1 ⟨hl, r⟩ g1 m1 hvs => ⟨small_le (by rw [hvs.length]; exact hl), fun p hp => by
    have := GM.new (u := .lst vs) (o := .lst ss) g1.bh m1 hp ⟨vs, upd_same, hvs⟩
    exact q (.ref p) _ _ (.x (.ref p)) _ (r p) (g1.trans this.1) this.2 rfl⟩
/-- a new list that stands still -/
theorem we_lstL (h : WA c tl Δ μ fun ss μ1 => ss.length ≤ 10000000 ∧ ∃ ds, allD ss = some ds ∧ R (.l ds) μ1) : WE c (tLst tl) Δ μ R := fun B σ H bh e m Q q =>
  h B σ H bh e m _ fun vs B1 H1 ss μ1 ⟨hl, ds, hd, r⟩ g1 m1 hvs => ⟨small_le (by rw [hvs.length]; exact hl), fun p hp => by
    have g : Gr [] B1 H1 (upd B1 p (.lst vs)) (upd H1 p (.lst vs)) := Gr.new g1.bh hp
    exact q (.ref p) _ _ _ μ1 r (g1.trans (.of0 g)) (m1.of0 g) ⟨p, vs, rfl, upd_same, (allD_ok hd hvs).up (Same.new (g1.bh.nn hp))⟩⟩
theorem we_op {r : R2} (h : WE c ta Δ μ fun s μ1 => WE c tb Δ μ1 fun t μ2 => WO c r μ2 s t R) : WE c (tOp r ta tb) Δ μ R := fun B σ H bh e m Q q =>
  h B σ H bh e m _ fun v B1 H1 s μ1 r1 g1 m1 hv => r1 B1 σ H1 g1.bh (e.up g1.bb) m1 _ fun w B2 H2 t μ2 r2 g2 m2 hw =>
    r2 B2 H2 v w g2.bh m2 (hv.up g2.bb) hw Q fun v3 B3 H3 s3 μ3 r3 g3 m3 h3 => q v3 B3 H3 s3 μ3 r3 ((g1.trans g2).trans g3) m3 h3
theorem we_cb {r : List V → Hp → VK → Prop} (h : WA c tl Δ μ fun ss μ1 => WC c r μ1 ss R) : WE c (tCB r tl) Δ μ R := fun B σ H bh e m Q q =>
  h B σ H bh e m _ fun vs B1 H1 ss μ1 r1 g1 m1 hvs => r1 B1 H1 vs g1.bh m1 hvs Q fun v3 B3 H3 s3 μ3 r3 g3 m3 h3 => q v3 B3 H3 s3 μ3 r3 (g1.trans g3) m3 h3
/-- a receiver's type -/
def isTy (c : Ct) (T : String) (s : Sl) (μ : M) : Prop := ∀ B H x, Same B H → Mu c B H μ → Slot c B x s → tyV c.K T x H
theorem we_bm {T : String} {r : V → List V → Hp → VK → Prop} (h : WE c te Δ μ fun s μ1 => isTy c T s μ1 ∧ WA c tl Δ μ1 fun ss μ2 => WB c r μ2 s ss R) : WE c (tBM c.K T r te tl) Δ μ R := fun B σ H bh e m Q q =>
  h B σ H bh e m _ fun v B1 H1 s μ1 ⟨ty, r1⟩ g1 m1 hv => ⟨ty B1 H1 v g1.bh m1 hv, r1 B1 σ H1 g1.bh (e.up g1.bb) m1 _ fun vs B2 H2 ss μ2 r2 g2 m2 hvs =>
    r2 B2 H2 v vs g2.bh m2 (hv.up g2.bb) hvs Q fun v3 B3 H3 s3 μ3 r3 g3 m3 h3 => q v3 B3 H3 s3 μ3 r3 ((g1.trans g2).trans g3) m3 h3⟩
theorem we_bm0 {T : String} {r : V → List V → Hp → VK → Prop} (h : WE c te Δ μ fun s μ1 => isTy c T s μ1 ∧ WB c r μ1 s [] R) : WE c (tBM0 c.K T r te) Δ μ R := fun B σ H bh e m Q q =>
  h B σ H bh e m _ fun v B1 H1 s μ1 ⟨ty, r1⟩ g1 m1 hv => ⟨ty B1 H1 v g1.bh m1 hv, 
    r1 B1 H1 v [] g1.bh m1 hv .nil Q fun v3 B3 H3 s3 μ3 r3 g3 m3 h3 => q v3 B3 H3 s3 μ3 r3 (g1.trans g3) m3 h3⟩
/-! tests -/
theorem wt_test {R : Bool → M → Prop} (h : WE c te Δ μ fun s μ1 => ∃ b, s = .d (.bool b) ∧ R b μ1) : WT c (tTest te) Δ μ R := fun B σ H bh e m Q q =>
  h B σ H bh e m _ fun v B1 H1 s μ1 ⟨b, hs, r⟩ g1 m1 hv => ⟨b, by subst hs; exact Dp.bl_inv hv, q b B1 H1 μ1 r g1 m1⟩
theorem wt_B {R : Bool → M → Prop} (h : WE c te Δ μ fun s μ1 => ∃ b, s = .d (.bool b) ∧ R b μ1) : WT c (tB te) Δ μ R := fun B σ H bh e m Q q =>
  h B σ H bh e m _ fun v B1 H1 s μ1 ⟨b, hs, r⟩ g1 m1 hv => ⟨b, by subst hs; exact Dp.bl_inv hv, q b B1 H1 μ1 r g1 m1⟩
theorem wt_yes {R : Bool → M → Prop} (h : R true μ) : WT c tYes Δ μ R := fun B σ H bh e m Q q => q true B H μ h (.refl bh) m
theorem wt_not {R : Bool → M → Prop} (h : WT c tt Δ μ fun b μ1 => R (!b) μ1) : WT c (tNot tt) Δ μ R := fun B σ H bh e m Q q => h B σ H bh e m _ fun b B1 H1 μ1 r => q (!b) B1 H1 μ1 r
/-- by cases of a word -/
def Cs (b : Bool) (P Q : Prop) : Prop := (b = true → P) ∧ (b = false → Q)
theorem cs_t {b : Bool} {P Q : Prop} (e : b = true) (h : P) : Cs b P Q := ⟨fun _ => h, fun z => by rw [e] at z; cases z⟩
theorem cs_f {b : Bool} {P Q : Prop} (e : b = false) (h : Q) : Cs b P Q := ⟨fun z => (by rw [e] at z; cases z), fun _ => h⟩
theorem wt_and {R : Bool → M → Prop} (h : WT c tt Δ μ fun b μ1 => Cs b (WT c uu Δ μ1 R) (R false μ1)) : WT c (tAnd tt uu) Δ μ R := fun B σ H bh e m Q q => h B σ H bh e m _ fun b B1 H1 μ1 r g1 m1 => by
  cases b with
  | true => exact r.1 rfl B1 σ H1 g1.bh (e.up g1.bb) m1 _ fun b2 B2 H2 μ2 r2 g2 m2 => q b2 B2 H2 μ2 r2 (g1.trans g2) m2
  | false => exact q false B1 H1 μ1 (r.2 rfl) g1 m1
theorem wt_or {R : Bool → M → Prop} (h : WT c tt Δ μ fun b μ1 => Cs b (R true μ1) (WT c uu Δ μ1 R)) : WT c (tOr tt uu) Δ μ R := fun B σ H bh e m Q q => h B σ H bh e m _ fun b B1 H1 μ1 r g1 m1 => by
  cases b with
  | false => exact r.2 rfl B1 σ H1 g1.bh (e.up g1.bb) m1 _ fun b2 B2 H2 μ2 r2 g2 m2 => q b2 B2 H2 μ2 r2 (g1.trans g2) m2
  | true => exact q true B1 H1 μ1 (r.1 rfl) g1 m1
theorem we_andV (h : WE c ta Δ μ fun s μ1 => ∃ b, s = .d (.bool b) ∧ Cs b (WE c tb Δ μ1 R) (R (.d (.bool false)) μ1)) : WE c (tAndV ta tb) Δ μ R := fun B σ H bh e m Q q => h B σ H bh e m _ fun v B1 H1 s μ1 ⟨b, hs, r⟩ g1 m1 hv => ⟨b, by subst hs; exact Dp.bl_inv hv, by
  cases b with
  | true => exact r.1 rfl B1 σ H1 g1.bh (e.up g1.bb) m1 _ fun v2 B2 H2 s2 μ2 r2 g2 m2 h2 => q v2 B2 H2 s2 μ2 r2 (g1.trans g2) m2 h2
  | false => exact q _ B1 H1 _ μ1 (r.2 rfl) g1 m1 (.bl false)⟩
theorem we_orV (h : WE c ta Δ μ fun s μ1 => ∃ b, s = .d (.bool b) ∧ Cs b (R (.d (.bool true)) μ1) (WE c tb Δ μ1 R)) : WE c (tOrV ta tb) Δ μ R := fun B σ H bh e m Q q => h B σ H bh e m _ fun v B1 H1 s μ1 ⟨b, hs, r⟩ g1 m1 hv => ⟨b, by subst hs; exact Dp.bl_inv hv, by
  cases b with
  | false => exact r.2 rfl B1 σ H1 g1.bh (e.up g1.bb) m1 _ fun v2 B2 H2 s2 μ2 r2 g2 m2 h2 => q v2 B2 H2 s2 μ2 r2 (g1.trans g2) m2 h2
  | true => exact q _ B1 H1 _ μ1 (r.1 rfl) g1 m1 (.bl true)⟩
theorem we_notV (h : WE c ta Δ μ fun s μ1 => ∃ b, s = .d (.bool b) ∧ R (.d (.bool (!b))) μ1) : WE c (tNotV ta) Δ μ R := fun B σ H bh e m Q q => h B σ H bh e m _ fun v B1 H1 s μ1 ⟨b, hs, r⟩ g1 m1 hv => ⟨b, by subst hs; exact Dp.bl_inv hv, q _ B1 H1 _ μ1 r g1 m1 (.bl _)⟩
/-! statements -/
theorem WS.mono {ts : TS} (h : WS c ts Δ μ A) (k : ∀ Δ' μ', A.nx Δ' μ' → A'.nx Δ' μ') (k2 : ∀ s μ', A.rt s μ' → A'.rt s μ') (k3 : ∀ Δ' μ', A.bk Δ' μ' → A'.bk Δ' μ') (k4 : ∀ Δ' μ', A.ct Δ' μ' → A'.ct Δ' μ') : WS c ts Δ μ A' :=
  fun B σ H bh e m E e1 e2 e3 e4 => h B σ H bh e m E (fun B' σ' H' Δ' μ' r => e1 B' σ' H' Δ' μ' (k _ _ r)) (fun v B' H' s μ' r => e2 v B' H' s μ' (k2 _ _ r)) (fun B' σ' H' Δ' μ' r => e3 B' σ' H' Δ' μ' (k3 _ _ r)) (fun B' σ' H' Δ' μ' r => e4 B' σ' H' Δ' μ' (k4 _ _ r))
theorem ws_seq {a b : TS} (h : WS c a Δ μ { A with nx := fun Δ1 μ1 => WS c b Δ1 μ1 A }) : WS c (tSeq a b) Δ μ A := fun B σ H bh e m E e1 e2 e3 e4 =>
  h B σ H bh e m { E with nx := b E } (fun B1 σ1 H1 Δ1 μ1 r g1 h1 m1 => r B1 σ1 H1 g1.bh h1 m1 E (fun B' σ' H' Δ' μ' r g => e1 B' σ' H' Δ' μ' r (g1.trans g)) (fun v B' H' s μ' r g => e2 v B' H' s μ' r (g1.trans g))
    (fun B' σ' H' Δ' μ' r g => e3 B' σ' H' Δ' μ' r (g1.trans g)) (fun B' σ' H' Δ' μ' r g => e4 B' σ' H' Δ' μ' r (g1.trans g))) e2 e3 e4
theorem ws_next (h : A.nx Δ μ) : WS c tNext Δ μ A := fun B σ H bh e m E e1 e2 e3 e4 => e1 B σ H Δ μ h (.refl bh) e m
theorem ws_cont (h : A.ct Δ μ) : WS c tCont Δ μ A := fun B σ H bh e m E e1 e2 e3 e4 => e4 B σ H Δ μ h (.refl bh) e m
theorem ws_ret (h : WE c te Δ μ A.rt) : WS c (tRet te) Δ μ A := fun B σ H bh e m E e1 e2 e3 e4 => h B σ H bh e m E.rt e2
theorem ws_drop (h : WE c te Δ μ fun _ μ1 => A.nx Δ μ1) : WS c (tDrop te) Δ μ A := fun B σ H bh e m E e1 e2 e3 e4 => h B σ H bh e m _ fun v B1 H1 s μ1 r g m1 hv => e1 B1 σ H1 Δ μ1 r g (e.up g.bb) m1
theorem ws_asg (h : WE c te Δ μ fun s μ1 => A.nx (Δ.set i (some s)) μ1) : WS c (tAsg te (gName i)) Δ μ A := fun B σ H bh e m E e1 e2 e3 e4 => h B σ H bh e m _ fun v B1 H1 s μ1 r g m1 hv => e1 B1 _ H1 _ μ1 r g ((e.up g.bb).set i hv) m1
theorem ws_asgT {g : TG} (h : WE c te Δ μ fun s μ1 => ∃ Δ' is, GT c g s Δ Δ' is ∧ A.nx Δ' μ1) : WS c (tAsg te g) Δ μ A := fun B σ H bh e m E e1 e2 e3 e4 => h B σ H bh e m _ fun v B1 H1 s μ1 ⟨Δ', is, gt, r⟩ g m1 hv =>
  gt B1 σ H1 v g.bh (e.up g.bb) hv E.nx fun σ' h' _ => e1 B1 σ' H1 Δ' μ1 r g h' m1
theorem ws_if {a b : TS} (h : WT c tt Δ μ fun w μ1 => Cs w (WS c a Δ μ1 A) (WS c b Δ μ1 A)) : WS c (tIfS tt a b) Δ μ A := fun B σ H bh e m E e1 e2 e3 e4 => h B σ H bh e m _ fun w B1 H1 μ1 r g1 m1 => by
  cases w with
  | true => exact r.1 rfl B1 σ H1 g1.bh (e.up g1.bb) m1 E (fun B' σ' H' Δ' μ' r g => e1 B' σ' H' Δ' μ' r (g1.trans g)) (fun v B' H' s μ' r g => e2 v B' H' s μ' r (g1.trans g))
                (fun B' σ' H' Δ' μ' r g => e3 B' σ' H' Δ' μ' r (g1.trans g)) (fun B' σ' H' Δ' μ' r g => e4 B' σ' H' Δ' μ' r (g1.trans g))
  | false => exact r.2 rfl B1 σ H1 g1.bh (e.up g1.bb) m1 E (fun B' σ' H' Δ' μ' r g => e1 B' σ' H' Δ' μ' r (g1.trans g)) (fun v B' H' s μ' r g => e2 v B' H' s μ' r (g1.trans g))
                (fun B' σ' H' Δ' μ' r g => e3 B' σ' H' Δ' μ' r (g1.trans g)) (fun B' σ' H' Δ' μ' r g => e4 B' σ' H' Δ' μ' r (g1.trans g))
/-- the state told otherwise -/
def Co (c : Ct) (Δ : Vt) (μ : M) (Δ' : Vt) (μ' : M) : Prop := ∀ B σ H, Same B H → Env c B σ Δ → Mu c B H μ → ∃ B', GM μ B H μ' B' H ∧ Env c B' σ Δ' ∧ Mu c B' H μ'
theorem ws_co {ts : TS} (k : Co c Δ μ Δ' μ') (h : WS c ts Δ' μ' A) : WS c ts Δ μ A := fun B σ H bh e m E e1 e2 e3 e4 => by
  obtain ⟨B1, g1, h1, m1⟩ := k B σ H bh e m
  exact h B1 σ H g1.bh h1 m1 E (fun B' σ' H' Δ' μ' r g => e1 B' σ' H' Δ' μ' r (g1.trans g)) (fun v B' H' s μ' r g => e2 v B' H' s μ' r (g1.trans g))
                (fun B' σ' H' Δ' μ' r g => e3 B' σ' H' Δ' μ' r (g1.trans g)) (fun B' σ' H' Δ' μ' r g => e4 B' σ' H' Δ' μ' r (g1.trans g))
theorem we_co (k : Co c Δ μ Δ' μ') (h : WE c te Δ' μ' R) : WE c te Δ μ R := fun B σ H bh e m Q q => by
  obtain ⟨B1, g1, h1, m1⟩ := k B σ H bh e m
  exact h B1 σ H g1.bh h1 m1 Q fun v B' H' s μ' r g => q v B' H' s μ' r (g1.trans g)
/-- the state after, told otherwise -/
theorem we_coR (h : WE c te Δ μ R') (k : ∀ s μ1, R' s μ1 → ∃ Δ' s' μ2, Co c (some s :: Δ) μ1 (some s' :: Δ') μ2 ∧ R s' μ2) : WE c te Δ μ R := fun B σ H bh e m Q q => 
  h B σ H bh e m Q fun v B1 H1 s μ1 r g1 m1 hv => by
    obtain ⟨Δ', s', μ2, co, r2⟩ := k s μ1 r
    obtain ⟨B2, g2, h2, m2⟩ := co B1 (some v :: σ) H1 g1.bh ⟨by simp [e.len], fun j s'' q => by
      cases j with
      | zero => simp at q; subst q; exact ⟨v, rfl, hv⟩
      | succ j => simpa using (e.up g1.bb).at_ j s'' (by simpa using q)⟩ m1
    obtain ⟨v', h3, h4⟩ := h2.at_ 0 s' rfl
    simp at h3
    subst h3
    exact q v B2 H1 s' μ2 r2 (g1.trans g2) m2 h4
theorem co_drop (i : Nat) : Co c Δ μ Δ (μ.eraseIdx i) := fun B σ H bh e m => by
  by_cases l : i < μ.length
  · have := GM.sub (μ' := μ.eraseIdx i) (ν := [μ[i]]) bh m ((perm_erase (List.getElem?_eq_getElem l)).trans (by simpa using List.perm_append_comm (l₁ := [μ[i]]) (l₂ := μ.eraseIdx i)))
    exact ⟨B, this.1, e, this.2⟩
  · rw [List.eraseIdx_of_length_le (by omega)]
    exact ⟨B, .refl bh, e, m⟩
theorem co_perm {ν : M} (h : μ.Perm (μ' ++ ν)) : Co c Δ μ Δ μ' := fun B σ H bh e m => by
  have := GM.sub bh m h
  exact ⟨B, this.1, e, this.2⟩
theorem co_trans {Δ2 : Vt} {μ2 : M} (h : Co c Δ μ Δ' μ') (k : Co c Δ' μ' Δ2 μ2) : Co c Δ μ Δ2 μ2 := fun B σ H bh e m => by
  obtain ⟨B1, g1, e1, m1⟩ := h B σ H bh e m
  obtain ⟨B2, g2, e2, m2⟩ := k B1 σ H g1.bh e1 m1
  exact ⟨B2, g1.trans g2, e2, m2⟩
/-- the list at j stands still from here on; the slot i holds it -/
theorem co_list {ss : List Sl} {ds : List D} (i j : Nat) (hj : μ[j]? = some (p, .lst ss)) (hd : ss = ds.map .d) (hi : Δ[i]? = some (some (.x (.ref p)))) : Co c Δ μ (Δ.set i (some (.l ds))) (μ.eraseIdx j) := fun B σ H bh e m => by
  subst hd
  obtain ⟨vs, h1, h2⟩ := m.re p _ (List.mem_of_getElem? hj)
  have hb : B p = none := m.bn p (mem_dom (List.mem_of_getElem? hj))
  have := GM.freeze (μ' := μ.eraseIdx j) bh m (perm_erase hj) h1
  refine ⟨_, this.1, (e.up this.1.bb).re i (fun s hs v hv => ?_) ⟨_, hi⟩, this.2⟩
  rw [hi] at hs
  cases hs
  exact ⟨p, vs, hv, upd_same, (Slots.all h2).up this.1.bb⟩
/-- the nested dict at j stands still from here on -/
theorem co_dn {kvs : List (NK × D)} (i j : Nat) (hj : μ[j]? = some (p, .dn kvs)) (hi : Δ[i]? = some (some (.x (.ref p)))) : Co c Δ μ (Δ.set i (some (.nd kvs))) (μ.eraseIdx j) := fun B σ H bh e m => by
  obtain ⟨ws, ⟨xs, ep, h1, h2, h3⟩, h4⟩ := m.re p _ (List.mem_of_getElem? hj)
  have hb : B p = none := m.bn p (mem_dom (List.mem_of_getElem? hj))
  have := GM.freeze (μ' := μ.eraseIdx j) bh m (perm_erase hj) h1
  refine ⟨_, this.1, (e.up this.1.bb).re i (fun s hs v hv => ?_) ⟨_, hi⟩, this.2⟩
  rw [hi] at hs
  cases hs
  exact ⟨p, ws, hv, ⟨xs, ep, upd_same, h2.up this.1.bb, h3⟩, h4.up this.1.bb⟩
/-- what is known of the slot i, told otherwise -/
def SlI (c : Ct) (s s' : Sl) : Prop := ∀ B v, Slot c B v s → Slot c B v s'
theorem sl_l {ds : List D} : SlI c (.l ds) (.d (.list ds)) := fun B v h => LiveL.dp h
theorem sl_pl {x : D} {ds : List D} : SlI c (.pl x ds) (.d (.tuple [x, .list ds])) := fun B v ⟨q, a, b, h1, h2, h3, h4⟩ => h1 ▸ .tup h2 (.cons h3 (.cons h4.dp .nil))
theorem co_slot {s' : Sl} (i : Nat) (hi : Δ[i]? = some (some s)) (h : SlI c s s') : Co c Δ μ (Δ.set i (some s')) μ := fun B σ H bh e m => ⟨B, .refl bh, e.re i (fun s1 hs v hv => by
  rw [hi] at hs
  cases hs
  exact h B v hv) ⟨_, hi⟩, m⟩
theorem we_sl (h : WE c te Δ μ R') (k : ∀ s μ1, R' s μ1 → ∃ s', SlI c s s' ∧ R s' μ1) : WE c te Δ μ R := fun B σ H bh e m Q q => h B σ H bh e m Q fun v B1 H1 s μ1 r g1 m1 hv => by
  obtain ⟨s', h1, h2⟩ := k s μ1 r
  exact q v B1 H1 s' μ1 h2 g1 m1 (h1 B1 v hv)
theorem we_keep (k : Nat) (h : WE c te Δ μ fun s μ1 => R s (μ1.take k)) : WE c te Δ μ R := we_coR h fun s μ1 r => ⟨Δ, s, μ1.take k, co_perm (ν := μ1.drop k) (by rw [List.take_append_drop]), r⟩
theorem we_frz (h : WE c te Δ μ fun s μ1 => ∃ (j : Nat) (p : Addr) (ss : List Sl) (ds : List D), s = .x (.ref p) ∧ μ1[j]? = some (p, .lst ss) ∧ ss = ds.map .d ∧ R (.l ds) (μ1.eraseIdx j)) : WE c te Δ μ R :=
  we_coR h fun s μ1 ⟨j, p, ss, ds, hs, hj, hd, r⟩ => ⟨Δ, .l ds, _, by subst hs; exact co_list (Δ := some (.x (.ref p)) :: Δ) 0 j hj hd rfl, r⟩
theorem we_frzN (h : WE c te Δ μ fun s μ1 => ∃ (j : Nat) (p : Addr) (kvs : List (NK × D)), s = .x (.ref p) ∧ μ1[j]? = some (p, .dn kvs) ∧ R (.nd kvs) (μ1.eraseIdx j)) : WE c te Δ μ R :=
  we_coR h fun s μ1 ⟨j, p, kvs, hs, hj, r⟩ => ⟨Δ, .nd kvs, _, by subst hs; exact co_dn (Δ := some (.x (.ref p)) :: Δ) 0 j hj rfl, r⟩
theorem ws_retK (k : Nat) (h : WE c te Δ μ fun s μ1 => A.rt s (μ1.take k)) : WS c (tRet te) Δ μ A := ws_ret (we_keep k h)
theorem ws_retL (k : Nat) (h : WE c te Δ μ fun s μ1 => ∃ (j : Nat) (p : Addr) (ss : List Sl) (ds : List D), s = .x (.ref p) ∧ μ1[j]? = some (p, .lst ss) ∧ ss = ds.map .d ∧ A.rt (.l ds) ((μ1.eraseIdx j).take k)) : WS c (tRet te) Δ μ A := ws_ret (we_keep k (we_frz h))
/-! targets -/
theorem wipe_setI {σ : L2.St} {i : Nat} {x : Option V} : ∀ {is : List Nat}, i ∈ is → L2.wipe (σ.set i x) is = L2.wipe σ is
  | [], h => by cases h
  | j :: is, h => by
    by_cases e : j = i
    · subst e
      by_cases z : j ∈ is
      · show ((L2.wipe _ is).set _ _) = _; rw [wipe_setI z]; rfl
      · have comm : ∀ (js : List Nat), j ∉ js → L2.wipe (σ.set j x) js = (L2.wipe σ js).set j x := by
          intro js
          induction js with
          | nil => intro _; rfl
          | cons k js ih =>
            intro n
            simp only [List.mem_cons, not_or] at n
            show (L2.wipe _ js).set k none = _
            rw [ih n.2, List.set_comm _ _ n.1]
            rfl
        show ((L2.wipe _ is).set _ _) = _
        rw [comm is z, List.set_set]
        rfl
    · have : i ∈ is := by simpa [Ne.symm e] using h
      show ((L2.wipe _ is).set _ _) = _; rw [wipe_setI this]; rfl
theorem gt_name {is : List Nat} (h : i ∈ is) : GT c (gName i) s Δ (Δ.set i (some s)) is := fun B σ H v bh e hv Q q => q _ (e.set i hv) (wipe_setI h)
theorem gts_nil {is : List Nat} : GTs c gNil [] Δ Δ is := fun B σ H v bh e hv Q q => by cases hv; exact ⟨rfl, q σ e rfl⟩
theorem gts_cons {g : TG} {gs : TGs} {Δ2 : Vt} {is : List Nat} (h : GT c g s Δ Δ' is) (k : GTs c gs ss Δ' Δ2 is) : GTs c (gCons g gs) (s :: ss) Δ Δ2 is := fun B σ H v bh e hv Q q => by
  cases hv with
  | cons h1 h2 => exact ⟨_, _, rfl, h B σ H _ bh e h1 _ fun σ' e' w' => k B σ' H _ bh e' h2 Q fun σ2 e2 w2 => q σ2 e2 (w2.trans w')⟩
theorem gt_tup {gs : TGs} {ds : List D} {n : Nat} {is : List Nat} (h : GTs c gs (ds.map .d) Δ Δ' is) (hn : ds.length = n) : GT c (gTup c.K n gs) (.d (.tuple ds)) Δ Δ' is := fun B σ H v bh e hv Q q => by
  obtain ⟨a, xs, rfl, h1, h2⟩ := Dp.tup_inv hv
  exact ⟨a, xs, rfl, same_t bh h1, by rw [h2.length]; exact hn, h B σ H xs bh e (.ofAll h2) Q q⟩
theorem gt_pl {gs : TGs} {x : D} {ds : List D} {is : List Nat} (h : GTs c gs [.d x, .l ds] Δ Δ' is) : GT c (gTup c.K 2 gs) (.pl x ds) Δ Δ' is := fun B σ H v bh e hv Q q => by
  obtain ⟨a, b, b2, rfl, h1, h2, h3⟩ := hv
  exact ⟨a, _, rfl, same_t bh h1, rfl, h B σ H _ bh e (.cons h2 (.cons h3 .nil)) Q q⟩
end
end Sw
/-! SwLoop -/
set_option Elab.async false
set_option linter.all false
set_option maxRecDepth 100000
set_option maxHeartbeats 2000000
namespace Sw
open PySem L2 SwH
def LoopS (c : Ct) (g : TG) (tb : TS) (ss : List Sl) (keep : M) (Δ : Vt) (μ : M) (A : AE) : Prop :=
  ∃ I : List Sl → Vt → M → Prop, I ss Δ μ ∧ (∀ rest Δ μ, I rest Δ μ → ∀ e, e ∈ keep → e ∈ μ) ∧
    (∀ s rest Δ μ, I (s :: rest) Δ μ → ∃ Δ1 is, GT c g s Δ Δ1 is ∧ WS c tb Δ1 μ { nx := I rest, rt := A.rt, bk := A.nx, ct := I rest }) ∧ ∀ Δ μ, I [] Δ μ → A.nx Δ μ
def LoopC (c : Ct) (g : TG) (tt : TT) (te : TE) (vs : List Nat) (ss : List Sl) (keep : M) (Δ : Vt) (μ : M) (R : RE) : Prop :=
  ∃ I : List Sl → List Sl → M → Prop, I ss [] μ ∧ (∀ rest acc μ, I rest acc μ → ∀ e, e ∈ keep → e ∈ μ) ∧
    (∀ s rest acc μ, I (s :: rest) acc μ → ∃ Δ1, GT c g s (wipeD Δ vs) Δ1 vs ∧ WT c tt Δ1 μ fun b μ2 => Cs b (WE c te Δ1 μ2 fun s' μ3 => acc.length < 10000000 ∧ I rest (acc ++ [s']) μ3) (I rest acc μ2)) ∧
    ∀ acc μ p, I [] acc μ → R (.x (.ref p)) (μ ++ [(p, .lst acc)])
section
variable {c : Ct} {Δ Δ' : Vt} {μ μ' : M} {R R' : RE} {te ta tb : TE} {tl : TA} {tt uu : TT} {s t : Sl} {ss : List Sl} {A A' : AE} {i : Nat} {p : Addr} {wi : TI} {g : TG}
theorem getElem_drop {α : Type} {xs : List α} {i : Nat} {x : α} {r : List α} (h : xs.drop i = x :: r) : xs[i]? = some x ∧ xs.drop (i + 1) = r := by
  have : xs[i]? = (xs.drop i)[0]? := by simp
  refine ⟨by rw [this, h]; rfl, ?_⟩
  rw [← List.drop_drop (i := 1) (j := i), h]; rfl
theorem ws_for {tb : TS} (h : WI c wi Δ μ fun ss keep μ1 => LoopS c g tb ss keep Δ μ1 A) : WS c (tFor wi g tb) Δ μ A := fun B0 σ0 H0 bh0 e0 m0 E e1 e2 e3 e4 =>
  h B0 σ0 H0 bh0 e0 m0 _ fun J B1 H1 ss keep μ1 ⟨I, i0, ik, is, id⟩ g1 m1 yi => by
    refine ⟨fun i m σ H => m = ss.length - i ∧ i ≤ ss.length ∧ ∃ B Δ' μ', I (ss.drop i) Δ' μ' ∧ GM μ1 B1 H1 μ' B H ∧ Env c B σ Δ' ∧ Mu c B H μ', ⟨_, rfl, Nat.zero_le _, B1, Δ, μ1, i0, .refl g1.bh, e0.up g1.bb, m1⟩, ?_⟩
    rintro i m σ H ⟨rfl, hi, B, Δ', μ', hI, g2, e, m⟩
    have y := yi i B H g2.bb g2.bh fun p o hp => m.re p o (ik _ _ _ hI _ hp)
    by_cases hlt : i < ss.length
    · obtain ⟨s, rest, hd⟩ : ∃ s rest, ss.drop i = s :: rest := ⟨_, _, List.drop_eq_getElem_cons hlt⟩
      obtain ⟨hs, hr⟩ := getElem_drop hd
      rw [hd] at hI
      obtain ⟨Δ1, js, gt, ws⟩ := is s rest Δ' μ' hI
      obtain ⟨y1, y2⟩ := y.2 s hs
      refine .inr ⟨y1, fun σ' H' => i + 1 ≤ ss.length ∧ ∃ B Δ' μ', I rest Δ' μ' ∧ GM μ1 B1 H1 μ' B H' ∧ Env c B σ' Δ' ∧ Mu c B H' μ', fun σ' H' ⟨q1, q2⟩ => ⟨_, by omega, rfl, q1, by rw [hr]; exact q2⟩, fun x H' hy => ?_⟩
      obtain ⟨B3, g3, h3⟩ := y2 x H' hy
      refine gt B3 σ H' x g3.bh (e.up g3.bb) h3 _ fun σ4 e4' _ => ?_
      have g23 : GM μ1 B1 H1 μ' B3 H' := g2.trans (.of0 g3)
      refine ws B3 σ4 H' g3.bh e4' (m.of0 g3) _ (fun B' σ' H' Δ' μ' r g h m => ⟨hlt, B', Δ', μ', r, g23.trans g, h, m⟩) (fun v B' H' s μ' r g => e2 v B' H' s μ' r ((g1.trans g23).trans g)) (fun B' σ' H' Δ' μ' r g => e1 B' σ' H' Δ' μ' r ((g1.trans g23).trans g)) (fun B' σ' H' Δ' μ' r g h m => ⟨hlt, B', Δ', μ', r, g23.trans g, h, m⟩)
    · have hz : i = ss.length := by omega
      refine .inl ⟨y.1 hz, ?_⟩
      rw [hz, List.drop_length] at hI
      exact e1 B σ H Δ' μ' (id _ _ hI) (g1.trans g2) e m
theorem wipe_len {σ : L2.St} : ∀ is, (L2.wipe σ is).length = σ.length
  | [] => rfl
  | i :: is => by show ((L2.wipe σ is).set i none).length = _; rw [List.length_set, wipe_len is]
theorem wipe_none {σ : L2.St} {j : Nat} : ∀ {is : List Nat}, j ∈ is → j < σ.length → (L2.wipe σ is)[j]? = some none
  | i :: is, h, l => by
    show ((L2.wipe σ is).set i none)[j]? = _
    rw [List.getElem?_set]
    by_cases e : i = j
    · subst e; simp [wipe_len, l]
    · simp [e]; exact wipe_none (by simpa [Ne.symm e] using h) l
theorem set_same {α : Type} {xs : List α} {i : Nat} {x : α} (h : i < xs.length → xs[i]? = some x) : xs.set i x = xs := by
  apply List.ext_getElem?
  intro j
  rw [List.getElem?_set]
  by_cases e : i = j
  · subst e
    by_cases l : i < xs.length
    · simp [l, ← h l]
    · simp [l]
  · simp [e]
theorem wipe_wipe (σ : L2.St) (is : List Nat) : L2.wipe (L2.wipe σ is) is = L2.wipe σ is := by
  have : ∀ js, (∀ j, j ∈ js → j ∈ is) → L2.wipe (L2.wipe σ is) js = L2.wipe σ is := by
    intro js
    induction js with
    | nil => intro _; rfl
    | cons j js ih =>
      intro h
      show (L2.wipe (L2.wipe σ is) js).set j none = _
      rw [ih fun k hk => h k (by simp [hk])]
      exact set_same fun l => wipe_none (h j (by simp)) (by rw [wipe_len] at l; exact l)
  exact this is fun _ h => h
theorem we_lc {vs : List Nat} (h : WI c wi Δ μ fun ss keep μ1 => LoopC c g tt te vs ss keep Δ μ1 R) : WE c (tLc wi g tt te vs) Δ μ R := fun B0 σ0 H0 bh0 e0 m0 Q q =>
  h B0 σ0 H0 bh0 e0 m0 _ fun J B1 H1 ss keep μ1 ⟨I, i0, ik, is, id⟩ g1 m1 yi p hp => by
    have gn := GM.new (u := .lst []) (o := .lst []) g1.bh m1 hp ⟨[], upd_same, .nil⟩
    refine ⟨fun i m H => m = ss.length - i ∧ i ≤ ss.length ∧ ∃ B μ' acc, I (ss.drop i) acc μ' ∧ GM μ1 B1 H1 (μ' ++ [(p, .lst acc)]) B H ∧ Mu c B H (μ' ++ [(p, .lst acc)]), ⟨_, rfl, Nat.zero_le _, B1, μ1, [], i0, gn.1, gn.2⟩, ?_⟩
    rintro i m H ⟨rfl, hi, B, μ', acc, hI, g2, m⟩
    have y := yi i B H g2.bb g2.bh fun p o hp => m.left.re p o (ik _ _ _ hI _ hp)
    by_cases hlt : i < ss.length
    · obtain ⟨s, rest, hd⟩ : ∃ s rest, ss.drop i = s :: rest := ⟨_, _, List.drop_eq_getElem_cons hlt⟩
      obtain ⟨hs, hr⟩ := getElem_drop hd
      rw [hd] at hI
      obtain ⟨Δ1, gt, wt⟩ := is s rest acc μ' hI
      obtain ⟨y1, y2⟩ := y.2 s hs
      refine .inr ⟨y1, fun H' => i + 1 ≤ ss.length ∧ ∃ B μ' acc, I rest acc μ' ∧ GM μ1 B1 H1 (μ' ++ [(p, .lst acc)]) B H' ∧ Mu c B H' (μ' ++ [(p, .lst acc)]), fun H' ⟨q1, q2⟩ => ⟨_, by omega, rfl, q1, by rw [hr]; exact q2⟩, fun x H' hy => ?_⟩
      obtain ⟨B3, g3, h3⟩ := y2 x H' hy
      have e3 : Env c B3 (L2.wipe σ0 vs) (wipeD Δ vs) := ((e0.up g1.bb).up (g2.bb.trans g3.bb)).wipe vs
      have g23 : GM μ1 B1 H1 (μ' ++ [(p, .lst acc)]) B3 H' := g2.trans (.of0 g3)
      have m3 := m.of0 g3
      refine gt B3 _ H' x g3.bh e3 h3 _ fun σ4 e4 w4 => ⟨w4.trans (wipe_wipe _ _), ?_⟩
      refine wt B3 σ4 H' g3.bh e4 m3.left _ fun b B5 H5 μ5 cs g5 m5 => ?_
      have f5 := GM.frame (List.Perm.refl _) m3 g5 m5
      cases b with
      | false =>
        rw [if_neg (by decide)]
        exact ⟨hlt, B5, μ5, acc, cs.2 rfl, g23.trans f5.1, f5.2⟩
      | true =>
        rw [if_pos rfl]
        refine cs.1 rfl B5 σ4 H5 g5.bh (e4.up g5.bb) m5 _ fun v B6 H6 s6 μ6 ⟨hl, hI6⟩ g6 m6 hv => ?_
        have f6 := GM.frame (List.Perm.refl _) f5.2 g6 m6
        obtain ⟨xs, hx1, hx2⟩ := f6.2.re p _ (List.mem_append.mpr (.inr (List.mem_singleton.mpr rfl)))
        refine ⟨xs, hx1, small_lt (by rw [hx2.length]; exact hl), hlt, B6, μ6, acc ++ [s6], hI6, ?_⟩
        have ch := GM.chg (i := μ6.length) (o1 := .lst acc) (o := .lst (acc ++ [s6])) (u := .lst (xs ++ [v])) (p := p) f6.1.bh f6.2 (by simp) ⟨_, upd_same, hx2.snoc hv⟩
        have e7 : (μ6 ++ [(p, MO.lst acc)]).set μ6.length (p, .lst (acc ++ [s6])) = μ6 ++ [(p, .lst (acc ++ [s6]))] := by
          rw [List.set_append_right _ _ (Nat.le_refl _)]
          simp
        rw [e7] at ch
        exact ⟨((g23.trans f5.1).trans f6.1).trans ch.1, ch.2⟩
    · have hz : i = ss.length := by omega
      refine .inl ⟨y.1 hz, ?_⟩
      rw [hz, List.drop_length] at hI
      exact q (.ref p) B H (.x (.ref p)) _ (id _ _ p hI) (g1.trans g2) m rfl
theorem ws_while {tb : TS} (I : Nat → Vt → M → Prop) (h0 : ∃ m, I m Δ μ) (h : ∀ m Δ μ, I m Δ μ → WT c tt Δ μ fun b μ1 => Cs b
    (WS c tb Δ μ1 { nx := fun Δ' μ' => ∃ m', m' < m ∧ I m' Δ' μ', rt := A.rt, bk := A.nx, ct := fun Δ' μ' => ∃ m', m' < m ∧ I m' Δ' μ' }) (A.nx Δ μ1)) : WS c (tWhile tt tb) Δ μ A := fun B0 σ0 H0 bh0 e0 m0 E e1 e2 e3 e4 => by
  refine ⟨fun m σ H => ∃ B Δ' μ', I m Δ' μ' ∧ GM μ B0 H0 μ' B H ∧ Env c B σ Δ' ∧ Mu c B H μ', ?_, ?_⟩
  · obtain ⟨m, hm⟩ := h0
    exact ⟨m, B0, Δ, μ, hm, .refl bh0, e0, m0⟩
  rintro m σ H ⟨B, Δ', μ', hI, g, e, mm⟩
  refine h m Δ' μ' hI B σ H g.bh e mm _ fun b B1 H1 μ1 cs g1 m1 => ?_
  cases b with
  | false =>
    rw [if_neg (by decide)]
    exact e1 B1 σ H1 Δ' μ1 (cs.2 rfl) (g.trans g1) (e.up g1.bb) m1
  | true =>
    rw [if_pos rfl]
    refine ⟨fun σ' H' => ∃ m', m' < m ∧ ∃ B Δ' μ', I m' Δ' μ' ∧ GM μ B0 H0 μ' B H' ∧ Env c B σ' Δ' ∧ Mu c B H' μ', fun σ' H' q => q, ?_⟩
    exact cs.1 rfl B1 σ H1 g1.bh (e.up g1.bb) m1 _ (fun B' σ' H' Δ' μ' ⟨m', l, r⟩ g' h m => ⟨m', l, B', Δ', μ', r, (g.trans g1).trans g', h, m⟩) (fun v B' H' s μ' r g' => e2 v B' H' s μ' r ((g.trans g1).trans g')) (fun B' σ' H' Δ' μ' r g' => e1 B' σ' H' Δ' μ' r ((g.trans g1).trans g')) (fun B' σ' H' Δ' μ' ⟨m', l, r⟩ g' h m => ⟨m', l, B', Δ', μ', r, (g.trans g1).trans g', h, m⟩)
/-! ### calls -/
def SPM (c : Ct) (Pre : List Sl → M → RE → Prop) : Sp := fun vs H Q _ => ∃ B ss μ R, Same B H ∧ Slots c B vs ss ∧ Mu c B H μ ∧ Pre ss μ R ∧
  ∀ v B' H' s μ', R s μ' → GM μ B H μ' B' H' → Mu c B' H' μ' → Slot c B' v s → Q v H'
def pickL : List Nat → M → Option (M × M)
  | [], μ => some ([], μ)
  | i :: is, μ => match μ[i]? with
    | some e => (pickL is (μ.eraseIdx i)).map fun r => (e :: r.1, r.2)
    | none => none
theorem pickL_perm : ∀ {is : List Nat} {μ μc μf : M}, pickL is μ = some (μc, μf) → μ.Perm (μc ++ μf)
  | [], μ, _, _, h => by cases h; exact .refl _
  | i :: is, μ, μc, μf, h => by
    unfold pickL at h
    cases e : μ[i]? with
    | none => rw [e] at h; cases h
    | some a =>
      rw [e] at h
      simp only [Option.map_eq_some_iff] at h
      obtain ⟨⟨c', f'⟩, h1, h2⟩ := h
      cases h2
      exact (perm_erase e).trans ((pickL_perm h1).cons a)
variable {Pre : List Sl → M → RE → Prop}
theorem we_callP (h : WA c tl Δ μ fun ss μ1 => ∃ μc μf, μ1.Perm (μc ++ μf) ∧ Pre ss μc fun s μ' => R s (μ' ++ μf)) : WE c (tCall (SPM c Pre) [] E0 tl) Δ μ R := fun B σ H bh e m Q q =>
  h B σ H bh e m _ fun vs B1 H1 ss μ1 ⟨μc, μf, hp, pre⟩ g1 m1 hvs => by
    refine ⟨B1, ss, μc, _, g1.bh, by simpa using hvs, (m1.perm hp).left, pre, fun v B' H' s μ' r g m hv => ?_⟩
    have f := GM.frame hp m1 g m
    exact q v B' H' s _ r (g1.trans f.1) f.2 hv
theorem we_callI (is : List Nat) (h : WA c tl Δ μ fun ss μ1 => ∃ r, pickL is μ1 = some r ∧ Pre ss r.1 fun s μ' => R s (μ' ++ r.2)) : WE c (tCall (SPM c Pre) [] E0 tl) Δ μ R :=
  we_callP fun B σ H bh e m Q q => h B σ H bh e m Q fun vs B' H' ss μ' ⟨⟨μc, μf⟩, h1, h2⟩ => q vs B' H' ss μ' ⟨μc, μf, pickL_perm h1, h2⟩
theorem we_call0 (h : WA c tl Δ μ fun ss μ1 => Pre ss [] fun s μ' => R s (μ' ++ μ1)) : WE c (tCall (SPM c Pre) [] E0 tl) Δ μ R :=
  we_callP fun B σ H bh e m Q q => h B σ H bh e m Q fun vs B' H' ss μ' h2 => q vs B' H' ss μ' ⟨[], μ', .refl _, h2⟩
theorem KVs.lookup {B : Hp} {ws : List (Str × V)} {fs : List (Str × Sl)} {f : Str} {s : Sl} (h : KVs c B ws fs) (e : fs.lookup f = some s) : ∃ v, ws.lookup f = some v ∧ Slot c B v s := by
  induction h with
  | nil => cases e
  | @cons k v s' ws ss h1 _ ih =>
    simp only [List.lookup_cons] at e ⊢
    cases z : f == k with
    | true => rw [z] at e; cases e; exact ⟨v, rfl, h1⟩
    | false => rw [z] at e; exact ih e
theorem KVs.lookupN {B : Hp} {ws : List (Str × V)} {fs : List (Str × Sl)} {f : Str} (h : KVs c B ws fs) (e : fs.lookup f = none) : ws.lookup f = none := by
  induction h with
  | nil => rfl
  | @cons k v s' ws ss h1 _ ih =>
    simp only [List.lookup_cons] at e ⊢
    cases z : f == k with
    | true => rw [z] at e; cases e
    | false => rw [z] at e; exact ih e
def putF2 (f : Str) (s : Sl) : List (Str × Sl) → List (Str × Sl)
  | [] => [(f, s)]
  | (g, x) :: r => if g = f then (g, s) :: r else (g, x) :: putF2 f s r
theorem KVs.putF {B : Hp} {ws : List (Str × V)} {fs : List (Str × Sl)} {f : Str} {v : V} {s : Sl} (h : KVs c B ws fs) (hv : Slot c B v s) : KVs c B (L2.putF f v ws) (putF2 f s fs) := by
  induction h with
  | nil => exact .cons hv .nil
  | @cons k v' s' ws ss h1 h2 ih =>
    unfold L2.putF putF2
    by_cases e : k = f
    · simp only [e, if_true]; exact .cons hv h2
    · simp only [e, if_false]; exact .cons h1 ih
theorem we_meth {C : Addr} {m : Str} (is : List Nat) (h : WE c te Δ μ fun s μ1 => ∃ (i : Nat) (p dx : Addr) (fs : List (Str × Sl)), s = .x (.ref p) ∧ μ1[i]? = some (p, .ins C dx fs) ∧ fs.lookup m = none ∧
    WA c tl Δ μ1 fun ss μ2 => ∃ r, pickL is μ2 = some r ∧ Pre (s :: ss) r.1 fun s μ' => R s (μ' ++ r.2)) : WE c (tMeth C m (SPM c Pre) [] E0 te tl) Δ μ R := fun B σ H bh e mm Q q =>
  h B σ H bh e mm _ fun v B1 H1 s μ1 ⟨i, p, dx, fs, hs, hi, hl, wa⟩ g1 m1 hv => by
    obtain ⟨ws, h1, h2⟩ := m1.re p _ (List.mem_of_getElem? hi)
    subst hs
    refine ⟨p, dx, ws, hv, h1, h2.lookupN hl, wa B1 σ H1 g1.bh (e.up g1.bb) m1 _ fun vs B2 H2 ss μ2 ⟨⟨μc, μf⟩, hp, pre⟩ g2 m2 hvs => ?_⟩
    refine ⟨B2, _, μc, _, g2.bh, .cons (s := .x (.ref p)) (show v = V.ref p from hv) (by simpa using hvs), (m2.perm (pickL_perm hp)).left, pre, fun v B' H' s μ' r g m hv => ?_⟩
    have f := GM.frame (pickL_perm hp) m2 g m
    exact q v B' H' s _ r ((g1.trans g2).trans f.1) f.2 hv
theorem we_make {C : Addr} (h : WA c tl Δ μ fun ss μ1 => ∀ p dx, Pre (.x (.ref p) :: ss) [(p, .ins C dx [])] fun s μ' => s = .d .none ∧ R (.x (.ref p)) (μ' ++ μ1)) : WE c (tMake C (SPM c Pre) [] E0 tl) Δ μ R := fun B σ H bh e mm Q q =>
  h B σ H bh e mm _ fun vs B1 H1 ss μ1 pre g1 m1 hvs x dx hx hdx hne => by
    have g2 : Gr [] B1 H1 B1 (upd H1 dx (.own x)) := Gr.newM g1.bh hdx
    have m2 := m1.of0 g2
    have n := GM.new (p := x) (u := .ins C dx []) (o := .ins C dx []) g2.bh m2 (by rw [upd_ne hne.symm]; exact hx) ⟨[], upd_same, .nil⟩
    have hp : (μ1 ++ [(x, MO.ins C dx [])]).Perm ([(x, .ins C dx [])] ++ μ1) := List.perm_append_comm
    refine ⟨B1, _, _, _, n.1.bh, .cons (s := .x (.ref x)) (show V.ref x = V.ref x from rfl) (by simpa using hvs), (n.2.perm hp).left, pre x dx, fun v B' H' s μ' ⟨r1, r2⟩ g m hv => ?_⟩
    have f := GM.frame hp n.2 g m
    refine ⟨by subst r1; exact Dp.non_inv hv, q (.ref x) B' H' _ _ r2 (((g1.trans (.of0 g2)).trans n.1).trans f.1) f.2 rfl⟩
theorem we_fld {f : Str} (h : WE c te Δ μ fun s μ1 => ∃ (i : Nat) (p C dx : Addr) (fs : List (Str × Sl)) (s' : Sl), s = .x (.ref p) ∧ μ1[i]? = some (p, .ins C dx fs) ∧ Cls c.K C ∧ NoAttr c.K C f ∧ fs.lookup f = some s' ∧ R s' μ1) : WE c (tFld c.K te f) Δ μ R := fun B σ H bh e mm Q q =>
  h B σ H bh e mm _ fun v B1 H1 s μ1 ⟨i, p, C, dx, fs, s', hs, hi, hc, hn, hl, r⟩ g1 m1 hv => by
    obtain ⟨ws, h1, h2⟩ := m1.re p _ (List.mem_of_getElem? hi)
    subst hs
    obtain ⟨w, h3, h4⟩ := h2.lookup hl
    exact ⟨p, C, dx, ws, w, hv, h1, hc, hn, h3, q w B1 H1 s' μ1 r g1 m1 h4⟩
theorem ws_fld {f : Str} (h : WE c tb Δ μ fun sv μ1 => WE c te Δ μ1 fun s μ2 => ∃ (i : Nat) (p C dx : Addr) (fs : List (Str × Sl)), s = .x (.ref p) ∧ μ2[i]? = some (p, .ins C dx fs) ∧ Cls c.K C ∧ NoAttr c.K C f ∧ fs.length < 1000 ∧ A.nx Δ (μ2.set i (p, .ins C dx (putF2 f sv fs)))) : WS c (sFld c.K te tb f) Δ μ A := fun B σ H bh e mm E e1 e2 e3 e4 =>
  h B σ H bh e mm _ fun y B1 H1 sv μ1 r g1 m1 hy => r B1 σ H1 g1.bh (e.up g1.bb) m1 _ fun v B2 H2 s μ2 ⟨i, p, C, dx, fs, hs, hi, hc, hn, hl, r2⟩ g2 m2 hv => by
    obtain ⟨ws, h1, h2⟩ := m2.re p _ (List.mem_of_getElem? hi)
    subst hs
    have ch := GM.chg (i := i) (o := .ins C dx (putF2 f sv fs)) (u := .ins C dx (L2.putF f y ws)) g2.bh m2 hi ⟨_, upd_same, h2.putF (hy.up g2.bb)⟩
    exact ⟨p, C, dx, ws, hv, h1, hc, hn, by rw [h2.length]; exact hl, e1 B2 σ _ Δ _ r2 ((g1.trans g2).trans ch.1) (e.up (g1.trans g2).bb) ch.2⟩
/-- a def's text meets its word -/
def startD (N : List Str) (ss : List Sl) : Vt := ss.map some ++ List.replicate (N.length - ss.length) none
theorem env_start {B : Hp} {N : List Str} {vs : List V} (h : Slots c B vs ss) : Env c B (L2.start N vs) (startD N ss) := by
  refine ⟨by simp [L2.start, startD, h.length], fun i s q => ?_⟩
  unfold startD at q
  unfold L2.start
  rw [List.getElem?_append] at q ⊢
  by_cases l : i < ss.length
  · have l' : i < vs.length := by rw [h.length]; exact l
    simp [l] at q
    obtain ⟨v, h1, h2⟩ := h.get (i := i) (s := s) (by rw [← q]; simp [l])
    exact ⟨v, by simp only [List.length_map, l', if_true, List.getElem?_map, h1]; rfl, h2⟩
  · simp [l] at q
    rw [List.getElem?_replicate] at q
    split at q <;> simp at q
theorem fn_rd {N : List Str} {t : TS} (h : ∀ ss μ R, Pre ss μ R → WS c t (startD N ss) μ { nx := fun _ μ' => R (.d .none) μ', rt := R }) : ∀ vs H Q E, SPM c Pre vs H Q E → t { nx := fun _ H' => Q .non H', rt := Q } (L2.start N vs) H :=
  fun vs H Q E ⟨B, ss, μ, R, bh, hs, m, pre, q⟩ => h ss μ R pre B _ H bh (env_start hs) m _ (fun B' σ' H' Δ' μ' r g e m => q .non B' H' _ μ' r g m .non) (fun v B' H' s μ' r g m hv => q v B' H' s μ' r g m hv)
    (fun _ _ _ _ _ r => r.elim) (fun _ _ _ _ _ r => r.elim)
theorem fn_len {n : Nat} (h : ∀ ss μ R, Pre ss μ R → ss.length = n) : ∀ vs H Q E, SPM c Pre vs H Q E → vs.length = n := fun vs H Q E ⟨B, ss, μ, R, bh, hs, m, pre, q⟩ => by rw [hs.length]; exact h ss μ R pre
end
end Sw
/-! SwOps -/
set_option Elab.async false
set_option linter.all false
set_option maxRecDepth 100000
set_option maxHeartbeats 2000000
namespace Sw
open PySem L2 SwH
/-- s is a list with these elements -/
def ListOf (s : Sl) (μ : M) (ss : List Sl) : Prop := (∃ ds, s = .d (.list ds) ∧ ss = ds.map .d) ∨ (∃ ds, s = .l ds ∧ ss = ds.map .d) ∨ (∃ p, s = .x (.ref p) ∧ (p, .lst ss) ∈ μ)
def LiveOf (s : Sl) (μ : M) (ss : List Sl) : Prop := (∃ ds, s = .l ds ∧ ss = ds.map .d) ∨ (∃ p, s = .x (.ref p) ∧ (p, .lst ss) ∈ μ)
section
variable {c : Ct} {Δ Δ' : Vt} {μ μ' : M} {R R' : RE} {te ta tb : TE} {tl : TA} {s t s' : Sl} {ss ts : List Sl} {A A' : AE} {i : Nat} {p : Addr} {B H : Hp} {v : V} {d e : D} {ds es : List D}
theorem lo_d : ListOf (.d (.list ds)) μ (ds.map .d) := .inl ⟨ds, rfl, rfl⟩
theorem lo_l : ListOf (.l ds) μ (ds.map .d) := .inr (.inl ⟨ds, rfl, rfl⟩)
theorem lo_m (i : Nat) (h : μ[i]? = some (p, .lst ss)) : ListOf (.x (.ref p)) μ ss := .inr (.inr ⟨p, rfl, List.mem_of_getElem? h⟩)
theorem li_l : LiveOf (.l ds) μ (ds.map .d) := .inl ⟨ds, rfl, rfl⟩
theorem li_m (i : Nat) (h : μ[i]? = some (p, .lst ss)) : LiveOf (.x (.ref p)) μ ss := .inr ⟨p, rfl, List.mem_of_getElem? h⟩
theorem ListOf.get (h : ListOf s μ ss) (bh : Same B H) (m : Mu c B H μ) (hv : Slot c B v s) : ∃ a xs, v = .ref a ∧ SqL c.K H a xs ∧ Slots c B xs ss := by
  rcases h with ⟨ds, rfl, rfl⟩ | ⟨ds, rfl, rfl⟩ | ⟨p, rfl, hp⟩
  · obtain ⟨a, xs, h1, h2, h3⟩ := Dp.list_inv hv
    exact ⟨a, xs, h1, same_l bh h2, .ofAll h3⟩
  · obtain ⟨a, xs, h1, h2, h3⟩ := hv
    exact ⟨a, xs, h1, SqL.of (bh _ _ h2), .ofAll h3⟩
  · obtain ⟨xs, h1, h2⟩ := m.re p _ hp
    exact ⟨p, xs, hv, SqL.of h1, h2⟩
theorem LiveOf.get (h : LiveOf s μ ss) (bh : Same B H) (m : Mu c B H μ) (hv : Slot c B v s) : ∃ a xs, v = .ref a ∧ H a = some (.lst xs) ∧ Slots c B xs ss := by
  rcases h with ⟨ds, rfl, rfl⟩ | ⟨p, rfl, hp⟩
  · obtain ⟨a, xs, h1, h2, h3⟩ := hv
    exact ⟨a, xs, h1, bh _ _ h2, .ofAll h3⟩
  · obtain ⟨xs, h1, h2⟩ := m.re p _ hp
    exact ⟨p, xs, hv, h1, h2⟩
theorem ListOf.ty (h : ListOf s μ ss) : isTy c "list" s μ := fun B H x bh m hv => by
  obtain ⟨a, xs, rfl, h1, _⟩ := h.get bh m hv
  exact .inl ⟨rfl, xs, h1⟩
/-! two-place operations -/
theorem wo_I0 {g : Int → Int → V} {m n : Int} (hg : ∀ B, Slot c B (g m n) s) (r : R s μ) : WO c (rI0 g) μ (.d (.int m)) (.d (.int n)) R := fun B H x y bh mm hx hy Q q => by
  rw [Dp.int_inv hx, Dp.int_inv hy]
  exact ⟨m, n, rfl, rfl, q _ B H s μ r (.refl bh) mm (hg B)⟩
theorem wo_I {Cn : Int → Int → Prop} {g : Int → Int → V} {m n : Int} (hc : Cn m n) (hg : ∀ B, Slot c B (g m n) s) (r : R s μ) : WO c (rI Cn g) μ (.d (.int m)) (.d (.int n)) R := fun B H x y bh mm hx hy Q q => by
  rw [Dp.int_inv hx, Dp.int_inv hy]
  exact ⟨m, n, rfl, rfl, hc, q _ B H s μ r (.refl bh) mm (hg B)⟩
section
variable {m n : Int}
theorem wo_add (r : R (.d (.int (m + n))) μ) : WO c rAdd2 μ (.d (.int m)) (.d (.int n)) R := wo_I0 (s := .d _) (fun _ => Dp.int _) r
theorem wo_sub (r : R (.d (.int (m - n))) μ) : WO c rSub2 μ (.d (.int m)) (.d (.int n)) R := wo_I0 (s := .d _) (fun _ => Dp.int _) r
theorem wo_mul (h : CMul m n) (r : R (.d (.int (m * n))) μ) : WO c rMul2 μ (.d (.int m)) (.d (.int n)) R := wo_I (s := .d _) h (fun _ => Dp.int _) r
theorem wo_fd (h : CDiv m n) (r : R (.d (.int (m / n))) μ) : WO c rFd2 μ (.d (.int m)) (.d (.int n)) R := wo_I (s := .d _) h (fun _ => Dp.int _) r
theorem wo_md (h : 0 < n) (r : R (.d (.int (m % n))) μ) : WO c rMd2 μ (.d (.int m)) (.d (.int n)) R := wo_I (s := .d _) h (fun _ => Dp.int _) r
theorem wo_pw (h : CPow m n) (r : R (.d (.int (m ^ n.toNat))) μ) : WO c rPw2 μ (.d (.int m)) (.d (.int n)) R := wo_I (s := .d _) h (fun _ => Dp.int _) r
theorem wo_lt (r : R (.d (.bool (decide (m < n)))) μ) : WO c rLt2 μ (.d (.int m)) (.d (.int n)) R := wo_I0 (s := .d _) (fun _ => Dp.bl _) r
theorem wo_le (r : R (.d (.bool (decide (m ≤ n)))) μ) : WO c rLtE2 μ (.d (.int m)) (.d (.int n)) R := wo_I0 (s := .d _) (fun _ => Dp.bl _) r
theorem wo_gt (r : R (.d (.bool (decide (n < m)))) μ) : WO c rGt2 μ (.d (.int m)) (.d (.int n)) R := wo_I0 (s := .d _) (fun _ => Dp.bl _) r
theorem wo_ge (r : R (.d (.bool (decide (n ≤ m)))) μ) : WO c rGtE2 μ (.d (.int m)) (.d (.int n)) R := wo_I0 (s := .d _) (fun _ => Dp.bl _) r
theorem wo_eqI (r : R (.d (.bool (decide (m = n)))) μ) : WO c rEq μ (.d (.int m)) (.d (.int n)) R := fun B H x y bh mm hx hy Q q => by
  rw [Dp.int_inv hx, Dp.int_inv hy]
  refine ⟨rfl, ?_⟩
  have : decide (V.int m = V.int n) = decide (m = n) := by simp
  rw [this]
  exact q _ B H _ μ r (.refl bh) mm (.bl _)
theorem wo_neI (r : R (.d (.bool (!decide (m = n)))) μ) : WO c rNe μ (.d (.int m)) (.d (.int n)) R := fun B H x y bh mm hx hy Q q => by
  rw [Dp.int_inv hx, Dp.int_inv hy]
  refine ⟨rfl, ?_⟩
  have : decide (V.int m = V.int n) = decide (m = n) := by simp
  rw [this]
  exact q _ B H _ μ r (.refl bh) mm (.bl _)
end
theorem wo_eqS {m n : Str} (r : R (.d (.bool (decide (m = n)))) μ) : WO c rEq μ (.d (.str m)) (.d (.str n)) R := fun B H x y bh mm hx hy Q q => by
  rw [Dp.str_inv hx, Dp.str_inv hy]
  refine ⟨rfl, ?_⟩
  have : decide (V.str m = V.str n) = decide (m = n) := by simp
  rw [this]
  exact q _ B H _ μ r (.refl bh) mm (.bl _)
theorem wo_neS {m n : Str} (r : R (.d (.bool (!decide (m = n)))) μ) : WO c rNe μ (.d (.str m)) (.d (.str n)) R := fun B H x y bh mm hx hy Q q => by
  rw [Dp.str_inv hx, Dp.str_inv hy]
  refine ⟨rfl, ?_⟩
  have : decide (V.str m = V.str n) = decide (m = n) := by simp
  rw [this]
  exact q _ B H _ μ r (.refl bh) mm (.bl _)
/-- what a slot tells of being None -/
def nonS : Sl → Option Bool
  | .d .none => some true
  | .d _ => some false
  | .x .non => some true
  | .x _ => some false
  | _ => some false
theorem nonS_ok {b : Bool} (h : nonS s = some b) (k : Slot c B v s) : decide (v = .non) = b := by
  cases s with
  | d x => cases x with
    | none => cases h; rw [Dp.non_inv k]; rfl
    | bool y => cases h; rw [Dp.bl_inv k]; rfl
    | int y => cases h; rw [Dp.int_inv k]; rfl
    | str y => cases h; rw [Dp.str_inv k]; rfl
    | list y => cases h; obtain ⟨a, xs, e, _⟩ := Dp.list_inv k; rw [e]; rfl
    | tuple y => cases h; obtain ⟨a, xs, e, _⟩ := Dp.tup_inv k; rw [e]; rfl
    | dict y => cases k
  | x w => have : v = w := k; subst this; cases v <;> cases h <;> rfl
  | l x => cases h; obtain ⟨p, vs, e, _⟩ := k; rw [e]; rfl
  | pl x ds => cases h; obtain ⟨q, a, b, e, _⟩ := k; rw [e]; rfl
  | nd x => cases h; obtain ⟨q, a, e, _⟩ := k; rw [e]; rfl
theorem wo_isN {b : Bool} (h : nonS s = some b) (r : R (.d (.bool b)) μ) : WO c rIsN μ s (.d .none) R := fun B H x y bh mm hx hy Q q => by
  refine ⟨Dp.non_inv hy, ?_⟩
  rw [nonS_ok h hx]
  exact q _ B H _ μ r (.refl bh) mm (.bl _)
theorem wo_notN {b : Bool} (h : nonS s = some b) (r : R (.d (.bool (!b))) μ) : WO c rNotN μ s (.d .none) R := fun B H x y bh mm hx hy Q q => by
  refine ⟨Dp.non_inv hy, ?_⟩
  rw [nonS_ok h hx]
  exact q _ B H _ μ r (.refl bh) mm (.bl _)
theorem wo_ixT {n : Int} (i : Nat) (hn : n = (i : Int)) (hi : ds[i]? = some d) (r : R (.d d) μ) : WO c (rIxT c.K) μ (.d (.tuple ds)) (.d (.int n)) R := fun B H x y bh mm hx hy Q q => by
  subst hn
  obtain ⟨a, xs, rfl, h1, h2⟩ := Dp.tup_inv hx
  obtain ⟨v, h3, h4⟩ := h2.get hi
  rw [Dp.int_inv hy]
  exact ⟨a, xs, i, v, rfl, rfl, same_t bh h1, atI_nat h3, q v B H _ μ r (.refl bh) mm h4⟩
theorem wo_ixPL0 {x : D} (r : R (.d x) μ) : WO c (rIxT c.K) μ (.pl x ds) (.d (.int 0)) R := fun B H x y bh mm hx hy Q q => by
  obtain ⟨p, a, b, rfl, h1, h2, h3⟩ := hx
  rw [Dp.int_inv hy]
  exact ⟨p, _, 0, a, rfl, rfl, same_t bh h1, rfl, q a B H _ μ r (.refl bh) mm h2⟩
theorem wo_ixPL1 {x : D} (r : R (.l ds) μ) : WO c (rIxT c.K) μ (.pl x ds) (.d (.int 1)) R := fun B H x y bh mm hx hy Q q => by
  obtain ⟨p, a, b, rfl, h1, h2, h3⟩ := hx
  rw [Dp.int_inv hy]
  exact ⟨p, _, 1, b, rfl, rfl, same_t bh h1, rfl, q b B H _ μ r (.refl bh) mm h3⟩
theorem wo_ixL {n : Int} (i : Nat) (hn : n = (i : Int)) (hl : ListOf s μ ss) (hi : ss[i]? = some t) (r : R t μ) : WO c (rIxL c.K) μ s (.d (.int n)) R := fun B H x y bh mm hx hy Q q => by
  subst hn
  obtain ⟨a, xs, rfl, h1, h2⟩ := hl.get bh mm hx
  obtain ⟨v, h3, h4⟩ := h2.get hi
  rw [Dp.int_inv hy]
  exact ⟨a, xs, i, v, rfl, rfl, h1, atI_nat h3, q v B H _ μ r (.refl bh) mm h4⟩
theorem wo_ixS {z : Str} {n : Int} {ch : Nat} (i : Nat) (hn : n = (i : Int)) (hl : z.length ≤ 1000) (hi : z.cps.toList[i]? = some ch) (r : R (.d (.str ⟨#[ch]⟩)) μ) : WO c rIxS μ (.d (.str z)) (.d (.int n)) R := fun B H x y bh mm hx hy Q q => by
  subst hn
  rw [Dp.int_inv hy, Dp.str_inv hx]
  exact ⟨z, i, ch, rfl, rfl, small_le (by omega), atI_nat hi, q _ B H _ μ r (.refl bh) mm (.str _)⟩
theorem wo_addS {m n : Str} (hl : m.length + n.length ≤ 1000) (r : R (.d (.str (m ++ n))) μ) : WO c rAddS μ (.d (.str m)) (.d (.str n)) R := fun B H x y bh mm hx hy Q q => by
  rw [Dp.str_inv hx, Dp.str_inv hy]
  exact ⟨m, n, rfl, rfl, small_le (by omega), q _ B H _ μ r (.refl bh) mm (.str _)⟩
/-- flat data as values -/
def fV : D → Option V
  | .none => some .non
  | .bool b => some (.bl b)
  | .int i => some (.int i)
  | .str x => some (.str x)
  | _ => none
theorem fV_ok {x : V} (h : Dp c.K B v d) (e : fV d = some x) : v = x := by
  cases d with
  | none => cases e; exact h.non_inv
  | bool b => cases e; exact h.bl_inv
  | int i => cases e; exact h.int_inv
  | str x => cases e; exact h.str_inv
  | list _ => cases e
  | tuple _ => cases e
  | dict _ => cases e
theorem fV_flat {x : V} (e : fV d = some x) : flatV x = true := by cases d <;> cases e <;> rfl
theorem fVs_ok {xs : List V} : ∀ {ds : List D} {vs : List V}, DpAll c.K B vs ds → ds.map fV = xs.map some → vs = xs := by
  induction xs with
  | nil => intro ds vs h e; cases ds with
    | nil => cases h; rfl
    | cons d ds => simp at e
  | cons x xs ih => intro ds vs h e; cases ds with
    | nil => simp at e
    | cons d ds =>
      cases h with
      | cons h1 h2 =>
        simp at e
        rw [fV_ok h1 e.1, ih h2 (by simpa using e.2)]
theorem fVs_flat {xs : List V} : ∀ {ds : List D}, ds.map fV = xs.map some → xs.all flatV = true := by
  induction xs with
  | nil => intro _ _; rfl
  | cons x xs ih => intro ds e; cases ds with
    | nil => simp at e
    | cons d ds => simp at e; simp [fV_flat e.1, ih (ds := ds) (by simpa using e.2)]
theorem wo_inT {x : V} {xs : List V} (hx : fV d = some x) (hs : ds.map fV = xs.map some) (r : R (.d (.bool (inV x xs))) μ) : WO c (rIn c.K false) μ (.d d) (.d (.tuple ds)) R := fun B H x' y bh mm hx' hy Q q => by
  obtain ⟨a, ys, rfl, h1, h2⟩ := Dp.tup_inv hy
  obtain rfl := fV_ok hx' hx
  obtain rfl := fVs_ok h2 hs
  exact ⟨a, _, rfl, .inr (same_t bh h1), fV_flat hx, fVs_flat hs, q _ B H _ μ r (.refl bh) mm (.bl _)⟩
theorem wo_inL {x : V} {xs : List V} (hx : fV d = some x) (hl : ListOf s μ (ds.map .d)) (hs : ds.map fV = xs.map some) (r : R (.d (.bool (inV x xs))) μ) : WO c (rIn c.K false) μ (.d d) s R := fun B H x' y bh mm hx' hy Q q => by
  obtain ⟨a, ys, rfl, h1, h2⟩ := hl.get bh mm hy
  obtain rfl := fV_ok hx' hx
  obtain rfl := fVs_ok h2.all hs
  exact ⟨a, _, rfl, .inl h1, fV_flat hx, fVs_flat hs, q _ B H _ μ r (.refl bh) mm (.bl _)⟩
theorem isEmpty_len {α β : Type} {xs : List α} {ys : List β} (h : xs.length = ys.length) : xs.isEmpty = ys.isEmpty := by cases xs <;> cases ys <;> simp_all
theorem wo_eqNil (hl : ListOf s μ ss) (hn : ListOf t μ []) (r : R (.d (.bool ss.isEmpty)) μ) : WO c (rEqNil c.K) μ s t R := fun B H x y bh mm hx hy Q q => by
  obtain ⟨a, xs, rfl, h1, h2⟩ := hl.get bh mm hx
  obtain ⟨b, ys, rfl, h3, h4⟩ := hn.get bh mm hy
  cases h4
  refine ⟨a, b, xs, rfl, rfl, h1, h3, ?_⟩
  rw [isEmpty_len h2.length]
  exact q _ B H _ μ r (.refl bh) mm (.bl _)
theorem wo_neNil (hl : ListOf s μ ss) (hn : ListOf t μ []) (r : R (.d (.bool (!ss.isEmpty))) μ) : WO c (rNeNil c.K) μ s t R := fun B H x y bh mm hx hy Q q => by
  obtain ⟨a, xs, rfl, h1, h2⟩ := hl.get bh mm hx
  obtain ⟨b, ys, rfl, h3, h4⟩ := hn.get bh mm hy
  cases h4
  refine ⟨a, b, xs, rfl, rfl, h1, h3, ?_⟩
  rw [isEmpty_len h2.length]
  exact q _ B H _ μ r (.refl bh) mm (.bl _)
theorem wo_cat (h1 : LiveOf s μ ss) (h2 : LiveOf t μ ts) (hl : ss.length + ts.length ≤ 10000000) (r : ∀ p, R (.x (.ref p)) (μ ++ [(p, .lst (ss ++ ts))])) : WO c rCat μ s t R := fun B H x y bh mm hx hy Q q => by
  obtain ⟨a, xs, rfl, q1, q2⟩ := h1.get bh mm hx
  obtain ⟨b, ys, rfl, q3, q4⟩ := h2.get bh mm hy
  refine ⟨a, b, xs, ys, rfl, rfl, q1, q3, small_le (by rw [q2.length, q4.length]; exact hl), fun p hp => ?_⟩
  have n := GM.new (u := .lst (xs ++ ys)) (o := .lst (ss ++ ts)) bh mm hp ⟨_, upd_same, q2.append q4⟩
  exact q _ _ _ _ _ (r p) n.1 n.2 rfl
theorem wo_catL (h1 : LiveOf s μ (ds.map .d)) (h2 : LiveOf t μ (es.map .d)) (hl : ds.length + es.length ≤ 10000000) (r : R (.l (ds ++ es)) μ) : WO c rCat μ s t R := fun B H x y bh mm hx hy Q q => by
  obtain ⟨a, xs, rfl, q1, q2⟩ := h1.get bh mm hx
  obtain ⟨b, ys, rfl, q3, q4⟩ := h2.get bh mm hy
  refine ⟨a, b, xs, ys, rfl, rfl, q1, q3, small_le (by rw [q2.length, q4.length]; simpa using hl), fun p hp => ?_⟩
  have g : Gr [] B H (upd B p (.lst (xs ++ ys))) (upd H p (.lst (xs ++ ys))) := Gr.new bh hp
  exact q _ _ _ _ _ r (.of0 g) (mm.of0 g) ⟨p, _, rfl, upd_same, (q2.all.append q4.all).up (Same.new (bh.nn hp))⟩
theorem wo_catA (hl : ds.length + es.length ≤ 10000000) (r : R (.d (.tuple (ds ++ es))) μ) : WO c (rCatA c.K) μ (.d (.tuple ds)) (.d (.tuple es)) R := fun B H x y bh mm hx hy Q q => by
  obtain ⟨a, xs, rfl, q1, q2⟩ := Dp.tup_inv hx
  obtain ⟨b, ys, rfl, q3, q4⟩ := Dp.tup_inv hy
  refine ⟨a, b, xs, ys, rfl, rfl, same_t bh q1, same_t bh q3, small_le (by rw [q2.length, q4.length]; exact hl), fun e => ?_, fun e f => ?_, fun e f p hp => ?_⟩
  · subst e
    have : ds = [] := by have := q2.length; cases ds <;> simp_all
    subst this
    exact q _ B H _ μ r (.refl bh) mm hy
  · subst f
    have : es = [] := by have := q4.length; cases es <;> simp_all
    subst this
    rw [List.append_nil] at r
    exact q _ B H _ μ r (.refl bh) mm hx
  · have g : Gr [] B H (upd B p (.tup (xs ++ ys))) (upd H p (.tup (xs ++ ys))) := Gr.new bh hp
    exact q _ _ _ _ _ r (.of0 g) (mm.of0 g) (Dp.tup (SqT.of upd_same) ((q2.append q4).up (Same.new (bh.nn hp))))
/-! calls of what is built in -/
theorem wc_lenL (hl : ListOf s μ ss) (r : R (.d (.int ss.length)) μ) : WC c (rLen2 c.K) μ [s] R := fun B H xs bh mm hx Q q => by
  cases hx with
  | cons h1 h2 =>
    cases h2
    obtain ⟨a, ys, rfl, q1, q2⟩ := hl.get bh mm h1
    refine ⟨a, ys, rfl, .inl q1, ?_⟩
    rw [q2.length]
    exact q _ B H _ μ r (.refl bh) mm (.int _)
theorem wc_lenT (r : R (.d (.int ds.length)) μ) : WC c (rLen2 c.K) μ [.d (.tuple ds)] R := fun B H xs bh mm hx Q q => by
  cases hx with
  | cons h1 h2 =>
    cases h2
    obtain ⟨a, ys, rfl, q1, q2⟩ := Dp.tup_inv h1
    refine ⟨a, ys, rfl, .inr (same_t bh q1), ?_⟩
    rw [q2.length]
    exact q _ B H _ μ r (.refl bh) mm (.int _)
/-- a list or a tuple of data -/
def SeqOf (s : Sl) (μ : M) (ss : List Sl) : Prop := ListOf s μ ss ∨ ∃ ds, s = .d (.tuple ds) ∧ ss = ds.map .d
theorem so_t : SeqOf (.d (.tuple ds)) μ (ds.map .d) := .inr ⟨ds, rfl, rfl⟩
theorem SeqOf.get (h : SeqOf s μ ss) (bh : Same B H) (m : Mu c B H μ) (hv : Slot c B v s) : ∃ a xs, v = .ref a ∧ (SqL c.K H a xs ∨ SqT c.K H a xs) ∧ Slots c B xs ss := by
  rcases h with h | ⟨ds, rfl, rfl⟩
  · obtain ⟨a, xs, h1, h2, h3⟩ := h.get bh m hv
    exact ⟨a, xs, h1, .inl h2, h3⟩
  · obtain ⟨a, xs, h1, h2, h3⟩ := Dp.tup_inv hv
    exact ⟨a, xs, h1, .inr (same_t bh h2), .ofAll h3⟩
theorem wc_list (hl : SeqOf s μ (ds.map .d)) (r : R (.l ds) μ) : WC c (rList2 c.K) μ [s] R := fun B H xs bh mm hx Q q => by
  cases hx with
  | cons h1 h2 =>
    cases h2
    obtain ⟨a, ys, rfl, q1, q2⟩ := hl.get bh mm h1
    refine ⟨a, ys, rfl, q1, fun p hp => ?_⟩
    have g : Gr [] B H (upd B p (.lst ys)) (upd H p (.lst ys)) := Gr.new bh hp
    exact q _ _ _ _ _ r (.of0 g) (mm.of0 g) ⟨p, _, rfl, upd_same, q2.all.up (Same.new (bh.nn hp))⟩
theorem wc_listM (hl : SeqOf s μ ss) (r : ∀ p, R (.x (.ref p)) (μ ++ [(p, .lst ss)])) : WC c (rList2 c.K) μ [s] R := fun B H xs bh mm hx Q q => by
  cases hx with
  | cons h1 h2 =>
    cases h2
    obtain ⟨a, ys, rfl, q1, q2⟩ := hl.get bh mm h1
    refine ⟨a, ys, rfl, q1, fun p hp => ?_⟩
    have n := GM.new (u := .lst ys) (o := .lst ss) bh mm hp ⟨_, upd_same, q2⟩
    exact q _ _ _ _ _ (r p) n.1 n.2 rfl
theorem wc_tupL (hl : ListOf s μ (ds.map .d)) (r : R (.d (.tuple ds)) μ) : WC c (rTup2 c.K) μ [s] R := fun B H xs bh mm hx Q q => by
  cases hx with
  | cons h1 h2 =>
    cases h2
    obtain ⟨a, ys, rfl, q1, q2⟩ := hl.get bh mm h1
    refine ⟨a, ys, rfl, .inl ⟨q1, fun p hp => ?_⟩⟩
    have g : Gr [] B H (upd B p (.tup ys)) (upd H p (.tup ys)) := Gr.new bh hp
    exact q _ _ _ _ _ r (.of0 g) (mm.of0 g) (Dp.tup (SqT.of upd_same) (q2.all.up (Same.new (bh.nn hp))))
theorem wc_tupT (r : R (.d (.tuple ds)) μ) : WC c (rTup2 c.K) μ [.d (.tuple ds)] R := fun B H xs bh mm hx Q q => by
  cases hx with
  | cons h1 h2 =>
    cases h2
    obtain ⟨a, ys, rfl, q1, q2⟩ := Dp.tup_inv h1
    exact ⟨a, ys, rfl, .inr ⟨same_t bh q1, q _ B H _ μ r (.refl bh) mm h1⟩⟩
theorem wc_max {m n : Int} (r : R (.d (.int (if n > m then n else m))) μ) : WC c rMax2 μ [.d (.int m), .d (.int n)] R := fun B H xs bh mm hx Q q => by
  cases hx with
  | cons h1 h2 => cases h2 with
    | cons h2 h3 =>
      cases h3
      rw [Dp.int_inv h1, Dp.int_inv h2]
      exact ⟨m, n, rfl, q _ B H _ μ r (.refl bh) mm (.int _)⟩
theorem wc_min {m n : Int} (r : R (.d (.int (if n < m then n else m))) μ) : WC c rMin2 μ [.d (.int m), .d (.int n)] R := fun B H xs bh mm hx Q q => by
  cases hx with
  | cons h1 h2 => cases h2 with
    | cons h2 h3 =>
      cases h3
      rw [Dp.int_inv h1, Dp.int_inv h2]
      exact ⟨m, n, rfl, q _ B H _ μ r (.refl bh) mm (.int _)⟩
theorem slots_perm {xs ys : List V} (p : ys.Perm xs) (h : DpAll c.K B xs ds) : ∃ es, es.Perm ds ∧ DpAll c.K B ys es := dpAll_perm p h
theorem wc_sortL (hl : ListOf s μ (ds.map .d)) (hs : Srt ds) (r : ∀ es, es.Perm ds → R (.l es) μ) : WC c (rSortL c.K) μ [s] R := fun B H xs bh mm hx Q q => by
  cases hx with
  | cons h1 h2 =>
    cases h2
    obtain ⟨a, ys, rfl, q1, q2⟩ := hl.get bh mm h1
    refine ⟨a, ys, ds, rfl, q1, q2.all.up bh, hs, fun zs p hp hn => ?_⟩
    obtain ⟨es, e1, e2⟩ := slots_perm hp q2.all
    have g : Gr [] B H (upd B p (.lst zs)) (upd H p (.lst zs)) := Gr.new bh hn
    exact q _ _ _ _ _ (r es e1) (.of0 g) (mm.of0 g) ⟨p, _, rfl, upd_same, e2.up (Same.new (bh.nn hn))⟩
/-! nested keys -/
theorem KVD.keys {ws : List (NK × V)} {ks : List (NK × D)} (h : KVD c.K B ws ks) : ws.map (·.1) = ks.map (·.1) := by
  induction h with
  | nil => rfl
  | cons _ _ ih => simp [ih]
theorem KVD.length {ws : List (NK × V)} {ks : List (NK × D)} (h : KVD c.K B ws ks) : ws.length = ks.length := by have := congrArg List.length h.keys; simpa using this
theorem KVD.get {ws : List (NK × V)} {ks : List (NK × D)} (h : KVD c.K B ws ks) (k : NK) : (getS ks k = none ∧ valV ws k = none) ∨ ∃ v d, getS ks k = some d ∧ valV ws k = some v ∧ Dp c.K B v d := by
  induction h with
  | nil => exact .inl ⟨rfl, rfl⟩
  | @cons k' v' s' ws ss h1 _ ih =>
    by_cases e : k' = k
    · exact .inr ⟨v', s', by simp [getS, e], by simp [valV, e], h1⟩
    · rcases ih with ⟨i1, i2⟩ | ⟨v, s, i1, i2, i3⟩
      · exact .inl ⟨by simpa [getS, e] using i1, by simpa [valV, e] using i2⟩
      · exact .inr ⟨v, s, by simpa [getS, e] using i1, by simpa [valV, e] using i2, i3⟩
theorem KVD.append {ws ws' : List (NK × V)} {ks ks' : List (NK × D)} (h : KVD c.K B ws ks) (h' : KVD c.K B ws' ks') : KVD c.K B (ws ++ ws') (ks ++ ks') := by
  induction h with
  | nil => exact h'
  | cons h1 _ ih => exact .cons h1 ih
theorem KVD.put {ws : List (NK × V)} {ks : List (NK × D)} {k : NK} (h : KVD c.K B ws ks) (hv : Dp c.K B v d) : KVD c.K B (putK ws k v) (putS ks k d) := by
  have ha : (ws.any fun kv => decide (kv.1 = k)) = ks.any fun kv => decide (kv.1 = k) := by
    induction h with
    | nil => rfl
    | cons _ _ ih => simp [ih]
  unfold putK putS
  rw [ha]
  split
  · clear ha
    rename_i hh
    clear hh
    induction h with
    | nil => exact .nil
    | @cons k' v' s' ws ss h1 _ ih =>
      simp only [List.map_cons]
      by_cases e : k' = k
      · simp only [e, if_true]; exact .cons hv (by simpa using ih)
      · simp only [e, if_false]; exact .cons h1 (by simpa using ih)
  · exact h.append (.cons hv .nil)
theorem nk_at {k : NK} {ks : List NK} (hk : k = .tup ks) (hd : k.depth ≤ 8) (h : Dp c.K B v k.data) : ∃ b, v = .ref b ∧ KeyAt c.K B b k := by
  subst hk
  obtain ⟨a, xs, rfl, h1, h2⟩ := Dp.tup_inv h
  exact ⟨a, rfl, .tup h1 h2, hd⟩
/-- the slot is the key k -/
structure IsK (s : Sl) (k : NK) : Prop where
  eq : s = .d k.data
  tu : ∃ ks, k = .tup ks
  dp : k.depth ≤ 8
theorem IsK.at_ {k : NK} (h : IsK s k) (hv : Slot c B v s) : ∃ b, v = .ref b ∧ KeyAt c.K B b k := by
  obtain ⟨e, ⟨ks, t⟩, dd⟩ := h
  subst e
  exact nk_at t dd hv
/-- a dict with nested keys: a thing that may change, or that stands still -/
def NdOf (s : Sl) (μ : M) (kvs : List (NK × D)) : Prop := s = .nd kvs ∨ ∃ p, s = .x (.ref p) ∧ (p, .dn kvs) ∈ μ
theorem nd_f {kvs : List (NK × D)} : NdOf (.nd kvs) μ kvs := .inl rfl
theorem nd_m {kvs : List (NK × D)} (i : Nat) (h : μ[i]? = some (p, .dn kvs)) : NdOf (.x (.ref p)) μ kvs := .inr ⟨p, rfl, List.mem_of_getElem? h⟩
theorem NdOf.get {kvs : List (NK × D)} (h : NdOf s μ kvs) (bh : Same B H) (m : Mu c B H μ) (hv : Slot c B v s) : ∃ a ws, v = .ref a ∧ DN c.P c.w c.K B H a ws ∧ KVD c.K B ws kvs := by
  rcases h with rfl | ⟨p, rfl, hp⟩
  · obtain ⟨a, ws, h1, h2, h3⟩ := hv
    exact ⟨a, ws, h1, h2.ups (Same.refl _) bh, h3⟩
  · obtain ⟨ws, h1, h2⟩ := m.re p _ hp
    exact ⟨p, ws, hv, h1, h2⟩
theorem we_nnew (r : ∀ p, R (.x (.ref p)) (μ ++ [(p, .dn [])])) : WE c (tNNew c.P c.w) Δ μ R := fun B σ H bh e mm Q q p hp => by
  have n := GM.new (p := p) (u := dn c.P c.w p [] 0) (o := .dn []) bh mm hp ⟨[], ⟨[], 0, upd_same, .nil, List.nodup_nil⟩, .nil⟩
  exact q _ _ _ _ _ (r p) n.1 n.2 rfl
theorem we_nget {kvs : List (NK × D)} {k : NK} (h : WE c ta Δ μ fun s μ1 => WE c tb Δ μ1 fun t μ2 => ∃ kvs k d, NdOf s μ2 kvs ∧ IsK t k ∧ getS kvs k = some d ∧ R (.d d) μ2) : WE c (tNGet c.P c.w c.K ta tb) Δ μ R := fun B σ H bh e mm Q q =>
  h B σ H bh e mm _ fun x B1 H1 s μ1 r1 g1 m1 hx => r1 B1 σ H1 g1.bh (e.up g1.bb) m1 _ fun y B2 H2 t μ2 ⟨kvs, k, d, h1, h2, h3, r⟩ g2 m2 hy => by
    obtain ⟨a, ws, rfl, q1, q2⟩ := h1.get g2.bh m2 (hx.up g2.bb)
    obtain ⟨b, rfl, q3⟩ := h2.at_ hy
    rcases q2.get k with ⟨z, _⟩ | ⟨v, d', z1, z2, z3⟩
    · rw [z] at h3; cases h3
    · rw [z1] at h3; cases h3
      exact ⟨v, ⟨B2, a, b, k, ws, rfl, rfl, g2.bh, q1, q3, z2.symm⟩, q v B2 H2 _ μ2 r (g1.trans g2) m2 z3⟩
theorem we_nin (h : WE c tb Δ μ fun t μ1 => WE c ta Δ μ1 fun s μ2 => ∃ kvs k, NdOf s μ2 kvs ∧ IsK t k ∧ R (.d (.bool (getS kvs k).isSome)) μ2) : WE c (tNIn c.P c.w c.K tb ta) Δ μ R := fun B σ H bh e mm Q q =>
  h B σ H bh e mm _ fun y B1 H1 t μ1 r1 g1 m1 hy => r1 B1 σ H1 g1.bh (e.up g1.bb) m1 _ fun x B2 H2 s μ2 ⟨kvs, k, h1, h2, r⟩ g2 m2 hx => by
    obtain ⟨a, ws, rfl, q1, q2⟩ := h1.get g2.bh m2 hx
    obtain ⟨b, rfl, q3⟩ := h2.at_ (hy.up g2.bb)
    refine ⟨valV ws k, ⟨B2, a, b, k, ws, rfl, rfl, g2.bh, q1, q3, rfl⟩, ?_⟩
    have e2 : (valV ws k).isSome = (getS kvs k).isSome := by rcases q2.get k with ⟨z, z'⟩ | ⟨v, d', z1, z2, z3⟩ <;> simp_all
    rw [e2]
    exact q _ B2 H2 _ μ2 r (g1.trans g2) m2 (.bl _)
theorem we_nnotin (h : WE c tb Δ μ fun t μ1 => WE c ta Δ μ1 fun s μ2 => ∃ kvs k, NdOf s μ2 kvs ∧ IsK t k ∧ R (.d (.bool (!(getS kvs k).isSome))) μ2) : WE c (tNNotIn c.P c.w c.K tb ta) Δ μ R := fun B σ H bh e mm Q q =>
  h B σ H bh e mm _ fun y B1 H1 t μ1 r1 g1 m1 hy => r1 B1 σ H1 g1.bh (e.up g1.bb) m1 _ fun x B2 H2 s μ2 ⟨kvs, k, h1, h2, r⟩ g2 m2 hx => by
    obtain ⟨a, ws, rfl, q1, q2⟩ := h1.get g2.bh m2 hx
    obtain ⟨b, rfl, q3⟩ := h2.at_ (hy.up g2.bb)
    refine ⟨valV ws k, ⟨B2, a, b, k, ws, rfl, rfl, g2.bh, q1, q3, rfl⟩, ?_⟩
    have e2 : (valV ws k).isSome = (getS kvs k).isSome := by rcases q2.get k with ⟨z, z'⟩ | ⟨v, d', z1, z2, z3⟩ <;> simp_all
    rw [e2]
    exact q _ B2 H2 _ μ2 r (g1.trans g2) m2 (.bl _)
/-- put, by the place of the dict among the things that may change -/
theorem ws_nput {tv : TE} (h : WE c tv Δ μ fun sv μ1 => WE c ta Δ μ1 fun s μ2 => WE c tb Δ μ2 fun t μ3 => ∃ (i : Nat) (p : Addr) (kvs : List (NK × D)) (k : NK) (d : D), s = .x (.ref p) ∧ μ3[i]? = some (p, .dn kvs) ∧ IsK t k ∧ dataS sv = some d ∧ kvs.length < 10000000 ∧
    A.nx Δ (μ3.set i (p, .dn (putS kvs k d)))) : WS c (sNPut c.P c.w c.K ta tb tv) Δ μ A := fun B σ H bh e mm E e1 e2 e3 e4 =>
  h B σ H bh e mm _ fun v B1 H1 sv μ1 r1 g1 m1 hv => r1 B1 σ H1 g1.bh (e.up g1.bb) m1 _ fun x B2 H2 s μ2 r2 g2 m2 hx => r2 B2 σ H2 g2.bh ((e.up g1.bb).up g2.bb) m2 _ fun y B3 H3 t μ3 ⟨i, p, kvs, k, d, hs, hi, hk, hd, hl, r⟩ g3 m3 hy => by
    subst hs
    obtain ⟨ws, q1, q2⟩ := m3.re p _ (List.mem_of_getElem? hi)
    obtain ⟨b, rfl, q3⟩ := hk.at_ hy
    refine ⟨B3, p, b, k, ws, hx, rfl, g3.bh, q1, q3, small_lt (by rw [q2.length]; exact hl), fun xs ep k1 k2 => ?_⟩
    have hv3 : Dp c.K B3 v d := dataS_ok hd (hv.up (g2.bb.trans g3.bb))
    have ch := GM.chg (i := i) (o := .dn (putS kvs k d)) (u := dn c.P c.w p xs ep) g3.bh m3 hi ⟨_, ⟨xs, ep, upd_same, k1, k2⟩, q2.put hv3⟩
    exact e1 B3 σ _ Δ _ r (((g1.trans g2).trans g3).trans ch.1) (e.up ((g1.trans g2).trans g3).bb) ch.2
theorem we_ndisp {tk tv : TE} (h : WE c tk Δ μ fun t μ1 => WE c tv Δ μ1 fun sv μ2 => ∃ (k : NK) (d : D), IsK t k ∧ sv = .d d ∧ ∀ p, R (.x (.ref p)) (μ2 ++ [(p, .dn [(k, d)])])) : WE c (tNDisp c.P c.w c.K tk tv) Δ μ R := fun B σ H bh e mm Q q p hp => by
  have n := GM.new (p := p) (u := dn c.P c.w p [] 0) (o := .dn []) bh mm hp ⟨[], ⟨[], 0, upd_same, .nil, List.nodup_nil⟩, .nil⟩
  have pn : p ∉ dom μ := fun z => mm.nn z hp
  refine h B σ _ n.1.bh e n.2.left _ fun y B1 H1 t μ1 r1 g1 m1 hy => r1 B1 σ H1 g1.bh (e.up g1.bb) m1 _ fun x B2 H2 sv μ2 ⟨k, d, hk, hd, r⟩ g2 m2 hx => ?_
  have p1 : H1 p = some (dn c.P c.w p [] 0) := g1.gr.hh p _ pn upd_same
  have pn1 : p ∉ dom μ1 := fun z => by
    rcases g1.nw p z with z | z
    · exact pn z
    · rw [upd_same] at z; cases z
  have p2 : H2 p = some (dn c.P c.w p [] 0) := g2.gr.hh p _ pn1 p1
  obtain ⟨b, rfl, q3⟩ := hk.at_ (hy.up g2.bb)
  subst hd
  refine ⟨B2, b, k, rfl, g2.bh, p2, q3, fun xs ep k1 k2 => ?_⟩
  have f1 := GM.frame (List.Perm.refl _) n.2 g1 m1
  have f2 := GM.frame (List.Perm.refl _) f1.2 g2 m2
  have ch := GM.chg (i := μ2.length) (o1 := .dn []) (o := .dn [(k, d)]) (u := dn c.P c.w p xs ep) (p := p) f2.1.bh f2.2 (by simp) ⟨_, ⟨xs, ep, upd_same, k1, k2⟩, .cons hx .nil⟩
  have e7 : (μ2 ++ [(p, MO.dn [])]).set μ2.length (p, .dn [(k, d)]) = μ2 ++ [(p, .dn [(k, d)])] := by
    rw [List.set_append_right _ _ (Nat.le_refl _)]
    simp
  rw [e7] at ch
  exact q _ _ _ _ _ (r p) (((n.1.trans f1.1).trans f2.1).trans ch.1) ch.2 rfl
/-! dicts by text -/
def DkOf (s : Sl) (μ : M) (kvs : List (Str × Sl)) : Prop := ∃ p, s = .x (.ref p) ∧ ((p, .dk kvs) ∈ μ ∨ ∃ o ws, (p, .dkF o ws kvs) ∈ μ)
theorem dk_m {kvs : List (Str × Sl)} (i : Nat) (h : μ[i]? = some (p, .dk kvs)) : DkOf (.x (.ref p)) μ kvs := ⟨p, rfl, .inl (List.mem_of_getElem? h)⟩
theorem dk_f {kvs : List (Str × Sl)} {o : Obj} {ws : List (Str × V)} (i : Nat) (h : μ[i]? = some (p, .dkF o ws kvs)) : DkOf (.x (.ref p)) μ kvs := ⟨p, rfl, .inr ⟨o, ws, List.mem_of_getElem? h⟩⟩
theorem DkOf.get {kvs : List (Str × Sl)} {k : Str} (h : DkOf s μ kvs) (bh : Same B H) (m : Mu c B H μ) (hv : Slot c B v s) : ∃ a ws, v = .ref a ∧ DGet H a (.str k) (valV ws k) ∧ KVs c B ws kvs := by
  obtain ⟨p, rfl, hp | ⟨o, ws, hp⟩⟩ := h
  · obtain ⟨ws, h1, h2⟩ := m.re p _ hp
    exact ⟨p, ws, hv, .inl ⟨_, .inr k, .inl h1, rfl, (inrK_val ws k).symm⟩, h2⟩
  · obtain ⟨h1, h2⟩ := m.re p _ hp
    exact ⟨p, ws, hv, .inl ⟨_, .inr k, .inr ⟨o, h1⟩, rfl, (inrK_val ws k).symm⟩, h2⟩
theorem we_dnew (r : ∀ p, R (.x (.ref p)) (μ ++ [(p, .dk [])])) : WE c tDNewK Δ μ R := fun B σ H bh e mm Q q p hp => by
  have n := GM.new (p := p) (u := .dK []) (o := .dk []) bh mm hp ⟨[], upd_same, .nil⟩
  exact q _ _ _ _ _ (r p) n.1 n.2 rfl
theorem we_dget (h : WE c ta Δ μ fun s μ1 => WE c tb Δ μ1 fun t μ2 => ∃ (kvs : List (Str × Sl)) (k : Str) (s' : Sl), DkOf s μ2 kvs ∧ t = .d (.str k) ∧ getS kvs k = some s' ∧ R s' μ2) : WE c (tDGet ta tb) Δ μ R := fun B σ H bh e mm Q q =>
  h B σ H bh e mm _ fun x B1 H1 s μ1 r1 g1 m1 hx => r1 B1 σ H1 g1.bh (e.up g1.bb) m1 _ fun y B2 H2 t μ2 ⟨kvs, k, s', h1, h2, h3, r⟩ g2 m2 hy => by
    subst h2
    obtain ⟨a, ws, rfl, q1, q2⟩ := h1.get (k := k) g2.bh m2 (hx.up g2.bb)
    obtain ⟨v, z1, z2⟩ := q2.getv h3
    rw [z1, ← Dp.str_inv hy] at q1
    exact ⟨a, v, rfl, q1, q v B2 H2 s' μ2 r (g1.trans g2) m2 z2⟩
theorem we_din (h : WE c tb Δ μ fun t μ1 => WE c ta Δ μ1 fun s μ2 => ∃ (kvs : List (Str × Sl)) (k : Str), DkOf s μ2 kvs ∧ t = .d (.str k) ∧ R (.d (.bool (getS kvs k).isSome)) μ2) : WE c (tDIn tb ta) Δ μ R := fun B σ H bh e mm Q q =>
  h B σ H bh e mm _ fun y B1 H1 t μ1 r1 g1 m1 hy => r1 B1 σ H1 g1.bh (e.up g1.bb) m1 _ fun x B2 H2 s μ2 ⟨kvs, k, h1, h2, r⟩ g2 m2 hx => by
    subst h2
    obtain ⟨a, ws, rfl, q1, q2⟩ := h1.get (k := k) g2.bh m2 hx
    rw [← Dp.str_inv hy] at q1
    refine ⟨a, _, rfl, q1, ?_⟩
    rw [q2.isSome]
    exact q _ B2 H2 _ μ2 r (g1.trans g2) m2 (.bl _)
theorem we_dnotin (h : WE c tb Δ μ fun t μ1 => WE c ta Δ μ1 fun s μ2 => ∃ (kvs : List (Str × Sl)) (k : Str), DkOf s μ2 kvs ∧ t = .d (.str k) ∧ R (.d (.bool (!(getS kvs k).isSome))) μ2) : WE c (tDNotIn tb ta) Δ μ R := fun B σ H bh e mm Q q =>
  h B σ H bh e mm _ fun y B1 H1 t μ1 r1 g1 m1 hy => r1 B1 σ H1 g1.bh (e.up g1.bb) m1 _ fun x B2 H2 s μ2 ⟨kvs, k, h1, h2, r⟩ g2 m2 hx => by
    subst h2
    obtain ⟨a, ws, rfl, q1, q2⟩ := h1.get (k := k) g2.bh m2 hx
    rw [← Dp.str_inv hy] at q1
    refine ⟨a, _, rfl, q1, ?_⟩
    rw [q2.isSome]
    exact q _ B2 H2 _ μ2 r (g1.trans g2) m2 (.bl _)
theorem ws_dput {tv : TE} (h : WE c tv Δ μ fun sv μ1 => WE c ta Δ μ1 fun s μ2 => WE c tb Δ μ2 fun t μ3 => ∃ (i : Nat) (p : Addr) (kvs : List (Str × Sl)) (k : Str), s = .x (.ref p) ∧ μ3[i]? = some (p, .dk kvs) ∧ t = .d (.str k) ∧ kvs.length < 10000000 ∧
    A.nx Δ (μ3.set i (p, .dk (putS kvs k sv)))) : WS c (sDPut ta tb tv) Δ μ A := fun B σ H bh e mm E e1 e2 e3 e4 =>
  h B σ H bh e mm _ fun v B1 H1 sv μ1 r1 g1 m1 hv => r1 B1 σ H1 g1.bh (e.up g1.bb) m1 _ fun x B2 H2 s μ2 r2 g2 m2 hx => r2 B2 σ H2 g2.bh ((e.up g1.bb).up g2.bb) m2 _ fun y B3 H3 t μ3 ⟨i, p, kvs, k, hs, hi, hk, hl, r⟩ g3 m3 hy => by
    subst hs hk
    obtain ⟨ws, q1, q2⟩ := m3.re p _ (List.mem_of_getElem? hi)
    have hv3 : Slot c B3 v sv := hv.up (g2.bb.trans g3.bb)
    have ch := GM.chg (i := i) (o := .dk (putS kvs k sv)) (u := .dK (putK (inrK ws) (.inr k) v)) g3.bh m3 hi ⟨putK ws k v, by rw [upd_same, inrK_put], q2.put hv3⟩
    refine ⟨p, _, hx, .inl ⟨inrK ws, .inr k, q1, Dp.str_inv hy, small_lt (by rw [inrK_len, q2.length]; exact hl), rfl⟩, ?_⟩
    exact e1 B3 σ _ Δ _ r (((g1.trans g2).trans g3).trans ch.1) (e.up ((g1.trans g2).trans g3).bb) ch.2
/-! methods of lists -/
theorem wb_append (i : Nat) (hi : μ[i]? = some (p, .lst ss)) (hl : ss.length < 10000000) (r : R (.d .none) (μ.set i (p, .lst (ss ++ [t])))) : WB c rAppend μ (.x (.ref p)) [t] R := fun B H x xs bh mm hx hxs Q q => by
  cases hxs with
  | cons h1 h2 =>
    cases h2
    obtain ⟨ys, q1, q2⟩ := mm.re p _ (List.mem_of_getElem? hi)
    have ch := GM.chg (i := i) (o := .lst (ss ++ [t])) (u := .lst (ys ++ [_])) bh mm hi ⟨_, upd_same, q2.snoc h1⟩
    exact ⟨p, ys, _, hx, rfl, q1, small_lt (by rw [q2.length]; exact hl), q _ _ _ _ _ r ch.1 ch.2 .non⟩
theorem wb_extend (i : Nat) (hi : μ[i]? = some (p, .lst ss)) (ho : LiveOf t μ ts) (hl : ss.length + ts.length ≤ 10000000) (r : R (.d .none) (μ.set i (p, .lst (ss ++ ts)))) : WB c rExtend μ (.x (.ref p)) [t] R := fun B H x xs bh mm hx hxs Q q => by
  cases hxs with
  | cons h1 h2 =>
    cases h2
    obtain ⟨ys, q1, q2⟩ := mm.re p _ (List.mem_of_getElem? hi)
    obtain ⟨b, zs, rfl, q3, q4⟩ := ho.get bh mm h1
    have ch := GM.chg (i := i) (o := .lst (ss ++ ts)) (u := .lst (ys ++ zs)) bh mm hi ⟨_, upd_same, q2.append q4⟩
    exact ⟨p, b, ys, zs, hx, rfl, q1, q3, small_le (by rw [q2.length, q4.length]; exact hl), q _ _ _ _ _ r ch.1 ch.2 .non⟩
theorem slots_snoc_inv {xs : List V} (h : Slots c B xs (ss ++ [t])) : ∃ ys y, xs = ys ++ [y] ∧ Slots c B ys ss ∧ Slot c B y t := by
  induction ss generalizing xs with
  | nil => cases h with | cons h1 h2 => cases h2; exact ⟨[], _, rfl, .nil, h1⟩
  | cons a r ih =>
    cases h with
    | cons h1 h2 =>
      obtain ⟨ys, y, rfl, q1, q2⟩ := ih h2
      exact ⟨_ :: ys, y, rfl, .cons h1 q1, q2⟩
theorem wb_pop (i : Nat) (hi : μ[i]? = some (p, .lst (ss ++ [t]))) (r : R t (μ.set i (p, .lst ss))) : WB c rPop μ (.x (.ref p)) [] R := fun B H x xs bh mm hx hxs Q q => by
  cases hxs
  obtain ⟨ys, q1, q2⟩ := mm.re p _ (List.mem_of_getElem? hi)
  obtain ⟨zs, z, rfl, q3, q4⟩ := slots_snoc_inv q2
  have ch := GM.chg (i := i) (o := .lst ss) (u := .lst (zs ++ [z]).dropLast) bh mm hi ⟨_, upd_same, by simpa using q3⟩
  exact ⟨p, _, z, hx, rfl, q1, by simp, q _ _ _ _ _ r ch.1 ch.2 q4⟩
theorem wb_pop0 (i : Nat) (hi : μ[i]? = some (p, .lst (t :: ss))) (r : R t (μ.set i (p, .lst ss))) : WB c rPopAt μ (.x (.ref p)) [.d (.int 0)] R := fun B H x xs bh mm hx hxs Q q => by
  cases hxs with
  | cons h1 h2 =>
    cases h2
    obtain ⟨ys, q1, q2⟩ := mm.re p _ (List.mem_of_getElem? hi)
    cases q2 with
    | @cons z _ zs _ q3 q4 =>
      have ch := GM.chg (i := i) (o := .lst ss) (u := .lst ((z :: zs).eraseIdx 0)) bh mm hi ⟨_, upd_same, q4⟩
      refine ⟨p, _, 0, 0, z, hx, by rw [Dp.int_inv h1], q1, by decide, by decide, ?_, rfl, q _ _ _ _ _ r ch.1 ch.2 q3⟩
      simp [seqIndex?]
/-- the place of the first that is equal -/
theorem wb_index {x : V} {xs : List V} {j : Nat} (hl : ListOf s μ (ds.map .d)) (hs : ds.map fV = xs.map some) (hx : fV d = some x) (hj : ∃ z, xs[j]? = some z ∧ eqV z x = true ∧ ∀ (m : Nat) (z' : V), m < j → xs[m]? = some z' → eqV z' x = false)
    (r : R (.d (.int (j : Int))) μ) : WB c (rIndex c.K) μ s [.d d] R := fun B H x' xs' bh mm hx' hxs Q q => by
  cases hxs with
  | cons h1 h2 =>
    cases h2
    obtain ⟨a, ys, rfl, q1, q2⟩ := hl.get bh mm hx'
    obtain rfl := fV_ok h1 hx
    obtain rfl := fVs_ok q2.all hs
    obtain ⟨z, z1, z2, z3⟩ := hj
    exact ⟨a, _, _, j, z, rfl, rfl, q1, fV_flat hx, fVs_flat hs, z1, z2, z3, q _ B H _ μ r (.refl bh) mm (.int _)⟩
theorem wb_indexD {j : Nat} (hj : ∃ z, ds[j]? = some z ∧ PyData.eqv z d = true ∧ ∀ (m : Nat) (z' : D), m < j → ds[m]? = some z' → PyData.eqv z' d = false) (h1 : SeqAt.shaped (.list ds) = true) (h2 : SeqAt.shaped d = true)
    (r : R (.d (.int (j : Int))) μ) : WB c (rIndexD c.K) μ (.d (.list ds)) [.d d] R := fun B H x' xs' bh mm hx' hxs Q q => by
  cases hxs with
  | cons k1 k2 =>
    cases k2
    obtain ⟨a, ys, rfl, q1, q2⟩ := Dp.list_inv hx'
    obtain ⟨z, z1, z2, z3⟩ := hj
    exact ⟨a, _, d, ds, j, z, rfl, rfl, Dp.up hx' bh, Dp.up k1 bh, h1, h2, z1, z2, z3, q _ B H _ μ r (.refl bh) mm (.int _)⟩
/-- a[i] = v -/
theorem ws_setL (h : WE c te Δ μ fun sv μ1 => WE c ta Δ μ1 fun s μ2 => WE c tb Δ μ2 fun t μ3 => ∃ (i : Nat) (p : Addr) (ss : List Sl) (k : Nat), s = .x (.ref p) ∧ μ3[i]? = some (p, .lst ss) ∧ t = .d (.int (k : Int)) ∧ k < ss.length ∧
    A.nx Δ (μ3.set i (p, .lst (ss.set k sv)))) : WS c (tAsg te (gSub ta tb rSetL)) Δ μ A := fun B σ H bh e mm E e1 e2 e3 e4 =>
  h B σ H bh e mm _ fun v B1 H1 sv μ1 r1 g1 m1 hv => r1 B1 σ H1 g1.bh (e.up g1.bb) m1 _ fun x B2 H2 s μ2 r2 g2 m2 hx => r2 B2 σ H2 g2.bh ((e.up g1.bb).up g2.bb) m2 _ fun y B3 H3 t μ3 ⟨i, p, ss, k, hs, hi, hk, hl, r⟩ g3 m3 hy => by
    subst hs hk
    obtain ⟨ys, q1, q2⟩ := m3.re p _ (List.mem_of_getElem? hi)
    have ch := GM.chg (i := i) (o := .lst (ss.set k sv)) (u := .lst (ys.set k v)) g3.bh m3 hi ⟨_, upd_same, q2.set k (hv.up (g2.bb.trans g3.bb))⟩
    refine ⟨p, ys, k, k, hx, Dp.int_inv hy, q1, ?_, e1 B3 σ _ Δ _ r (((g1.trans g2).trans g3).trans ch.1) (e.up ((g1.trans g2).trans g3).bb) ch.2⟩
    have : (k : Int) < ys.length := by rw [q2.length]; exact_mod_cast hl
    simp [ixN, this]
theorem we_revL (h : WE c te Δ μ fun s μ1 => ∃ ds : List D, ListOf s μ1 (ds.map .d) ∧ R (.l ds.reverse) μ1) : WE c (tRevL c.K te) Δ μ R := fun B σ H bh e mm Q q =>
  h B σ H bh e mm _ fun x B1 H1 s μ1 ⟨ds, hl, r⟩ g1 m1 hx => by
    obtain ⟨a, ys, rfl, q1, q2⟩ := hl.get g1.bh m1 hx
    refine ⟨a, ys, rfl, q1, fun p hp => ?_⟩
    have g : Gr [] B1 H1 (upd B1 p (.lst ys.reverse)) (upd H1 p (.lst ys.reverse)) := Gr.new g1.bh hp
    exact q _ _ _ _ _ r (g1.trans (.of0 g)) (m1.of0 g) ⟨p, _, rfl, upd_same, q2.all.reverse.up (Same.new (g1.bh.nn hp))⟩
theorem dpAll_rg {a b : Int} : DpAll c.K B (rgV a b) ((List.range (b - a).toNat).map fun (i : Nat) => PyData.int (a + i)) := by
  unfold rgV
  generalize List.range (b - a).toNat = l
  induction l with
  | nil => exact .nil
  | cons x l ih => exact .cons (.int _) ih
theorem we_lstRg (h : WE c ta Δ μ fun s μ1 => WE c tb Δ μ1 fun t μ2 => ∃ a b : Int, s = .d (.int a) ∧ t = .d (.int b) ∧ (-100000 ≤ a ∧ a ≤ 100000 ∧ -100000 ≤ b ∧ b ≤ 100000) ∧ R (.l ((List.range (b - a).toNat).map fun (i : Nat) => PyData.int (a + i))) μ2) : WE c (tLstRg (tRg2 ta tb)) Δ μ R := fun B σ H bh e mm Q q =>
  h B σ H bh e mm _ fun x B1 H1 s μ1 r1 g1 m1 hx => r1 B1 σ H1 g1.bh (e.up g1.bb) m1 _ fun y B2 H2 t μ2 ⟨a, b, hs, ht, hb, r⟩ g2 m2 hy => by
    subst hs ht
    refine ⟨a, b, Dp.int_inv hx, Dp.int_inv hy, ⟨by omega, by omega, by omega, by omega, by omega⟩, fun p hp => ?_⟩
    have g : Gr [] B2 H2 (upd B2 p (.lst (rgV a b))) (upd H2 p (.lst (rgV a b))) := Gr.new g2.bh hp
    exact q _ _ _ _ _ r ((g1.trans g2).trans (.of0 g)) (m2.of0 g) ⟨p, _, rfl, upd_same, dpAll_rg⟩
/-! slices -/
theorem we_slTo (h : WE c te Δ μ fun s μ1 => WE c tb Δ μ1 fun t μ2 => ∃ (k : Nat), t = .d (.int (k : Int)) ∧ (∃ ds : List D, ListOf s μ2 (ds.map .d) ∧ R (.l (ds.take k)) μ2)) : WE c (tSl (rSlL c.K) te tNoPart (tPart tb)) Δ μ R := fun B σ H bh e mm Q q =>
  h B σ H bh e mm _ fun x B1 H1 s μ1 r1 g1 m1 hx => r1 B1 σ H1 g1.bh (e.up g1.bb) m1 _ fun y B2 H2 t μ2 ⟨k, ht, ds, hl, r⟩ g2 m2 hy => by
    subst ht
    refine ⟨k, Dp.int_inv hy, ?_⟩
    obtain ⟨a, ys, rfl, q1, q2⟩ := hl.get g2.bh m2 (hx.up g2.bb)
    refine ⟨a, ys, rfl, q1, fun p hp => ?_⟩
    have ec : cutV ys none (some (k : Int)) = ys.take k := by
      unfold cutV
      rw [HT.sIx_none, HT.sIx_nat]
      simp [List.take_eq_take_iff]
    rw [ec]
    have g : Gr [] B2 H2 (upd B2 p (.lst (ys.take k))) (upd H2 p (.lst (ys.take k))) := Gr.new g2.bh hp
    exact q _ _ _ _ _ r ((g1.trans g2).trans (.of0 g)) (m2.of0 g) ⟨p, _, rfl, upd_same, (q2.all.take k).up (Same.new (g2.bh.nn hp))⟩
theorem we_slToT (h : WE c te Δ μ fun s μ1 => WE c tb Δ μ1 fun t μ2 => ∃ (k : Nat) (ds : List D), t = .d (.int (k : Int)) ∧ s = .d (.tuple ds) ∧ R (.d (.tuple (ds.take k))) μ2) : WE c (tSl (rSlA c.K) te tNoPart (tPart tb)) Δ μ R := fun B σ H bh e mm Q q =>
  h B σ H bh e mm _ fun x B1 H1 s μ1 r1 g1 m1 hx => r1 B1 σ H1 g1.bh (e.up g1.bb) m1 _ fun y B2 H2 t μ2 ⟨k, ds, ht, hs, r⟩ g2 m2 hy => by
    subst ht hs
    refine ⟨k, Dp.int_inv hy, ?_⟩
    have hx2 : Dp c.K B2 x (.tuple ds) := Dp.up hx g2.bb
    obtain ⟨a, ys, rfl, q1, q2⟩ := Dp.tup_inv hx2
    have ec : cutV ys none (some (k : Int)) = ys.take k := by
      unfold cutV
      rw [HT.sIx_none, HT.sIx_nat]
      simp [List.take_eq_take_iff]
    refine ⟨a, ys, rfl, same_t g2.bh q1, fun z => ?_, fun z p hp => ?_⟩
    · rw [HT.sIx_nat] at z
      have hk : ds.take k = ds := List.take_of_length_le (by rw [← q2.length]; have := z.2; omega)
      rw [hk] at r
      exact q _ _ _ _ _ r (g1.trans g2) m2 hx2
    · rw [ec]
      have g : Gr [] B2 H2 (upd B2 p (.tup (ys.take k))) (upd H2 p (.tup (ys.take k))) := Gr.new g2.bh hp
      exact q _ _ _ _ _ r ((g1.trans g2).trans (.of0 g)) (m2.of0 g) (Dp.tup (SqT.of upd_same) ((q2.take k).up (Same.new (g2.bh.nn hp))))
theorem we_slFromT (h : WE c te Δ μ fun s μ1 => WE c tb Δ μ1 fun t μ2 => ∃ (k : Nat) (ds : List D), t = .d (.int (k : Int)) ∧ s = .d (.tuple ds) ∧ k ≤ ds.length ∧ R (.d (.tuple (ds.drop k))) μ2) : WE c (tSl (rSlA c.K) te (tPart tb) tNoPart) Δ μ R := fun B σ H bh e mm Q q =>
  h B σ H bh e mm _ fun x B1 H1 s μ1 r1 g1 m1 hx => r1 B1 σ H1 g1.bh (e.up g1.bb) m1 _ fun y B2 H2 t μ2 ⟨k, ds, ht, hs, hkl, r⟩ g2 m2 hy => by
    subst ht hs
    refine ⟨k, Dp.int_inv hy, ?_⟩
    have hx2 : Dp c.K B2 x (.tuple ds) := Dp.up hx g2.bb
    obtain ⟨a, ys, rfl, q1, q2⟩ := Dp.tup_inv hx2
    have hl := q2.length
    have ec : cutV ys (some (k : Int)) none = ys.drop k := by
      unfold cutV
      rw [HT.sIx_none, HT.sIx_nat, Nat.min_eq_left (by omega)]
      rw [List.take_of_length_le (by simp)]
    refine ⟨a, ys, rfl, same_t g2.bh q1, fun z => ?_, fun z p hp => ?_⟩
    · rw [HT.sIx_nat] at z
      have hk : k = 0 ∨ ds.length = 0 := by have := z.1; omega
      have hk : ds.drop k = ds := by rcases hk with hk | hk
                                     · subst hk; rfl
                                     · have : ds = [] := List.length_eq_zero_iff.mp hk
                                       subst this; simp
      rw [hk] at r
      exact q _ _ _ _ _ r (g1.trans g2) m2 hx2
    · rw [ec]
      have g : Gr [] B2 H2 (upd B2 p (.tup (ys.drop k))) (upd H2 p (.tup (ys.drop k))) := Gr.new g2.bh hp
      exact q _ _ _ _ _ r ((g1.trans g2).trans (.of0 g)) (m2.of0 g) (Dp.tup (SqT.of upd_same) ((q2.drop k).up (Same.new (g2.bh.nn hp))))
end
end Sw
/-! SwIter -/
set_option Elab.async false
set_option linter.all false
set_option maxRecDepth 100000
set_option maxHeartbeats 2000000
namespace Sw
open PySem L2 SwH
/-- s is a list with these elements; keep: what must not change -/
def ListK (s : Sl) (μ : M) (ss : List Sl) (keep : M) : Prop := (∃ ds, (s = .d (.list ds) ∨ s = .l ds) ∧ ss = ds.map .d ∧ keep = []) ∨ (∃ p, s = .x (.ref p) ∧ (p, .lst ss) ∈ μ ∧ keep = [(p, .lst ss)])
/-- pairs with their places -/
def enumD : Nat → List D → List D
  | _, [] => []
  | k, d :: ds => .tuple [.int k, d] :: enumD (k + 1) ds
def zipD : List D → List D → List D
  | d :: ds, e :: es => .tuple [d, e] :: zipD ds es
  | _, _ => []
def rgS (a b : Int) : List Sl := (List.range (b - a).toNat).map fun (i : Nat) => .d (.int (a + i))
theorem enumD_get : ∀ (ds : List D) (k i : Nat), (enumD k ds)[i]? = (ds[i]?).map fun d => .tuple [.int (k + i : Nat), d]
  | [], k, i => rfl
  | d :: ds, k, 0 => rfl
  | d :: ds, k, i + 1 => by
    show (enumD (k + 1) ds)[i]? = _
    rw [enumD_get ds (k + 1) i]
    simp only [List.getElem?_cons_succ]
    rw [show k + 1 + i = k + (i + 1) by omega]
theorem enumD_len : ∀ (ds : List D) (k : Nat), (enumD k ds).length = ds.length
  | [], k => rfl
  | d :: ds, k => by show (enumD (k + 1) ds).length + 1 = _; rw [enumD_len ds]; rfl
theorem zipD_get : ∀ (ds es : List D) (i : Nat) (x : D), (zipD ds es)[i]? = some x → ∃ d e, ds[i]? = some d ∧ es[i]? = some e ∧ x = .tuple [d, e]
  | [], es, i, x, h => by simp [zipD] at h
  | d :: ds, [], i, x, h => by simp [zipD] at h
  | d :: ds, e :: es, 0, x, h => by simp [zipD] at h; exact ⟨d, e, rfl, rfl, h.symm⟩
  | d :: ds, e :: es, i + 1, x, h => by simpa using zipD_get ds es i x (by simpa [zipD] using h)
theorem zipD_len : ∀ (ds es : List D), ds.length = es.length → (zipD ds es).length = ds.length
  | [], es, h => by cases es <;> rfl
  | d :: ds, [], h => by simp at h
  | d :: ds, e :: es, h => by simp [zipD, zipD_len ds es (by simpa using h)]
theorem relV_inj : ∀ {v w : V} {u : Value}, RelV v u → RelV w u → v = w := by
  intro v w u h k
  have a1 := vals_fm (xs := [v]) (us := [u]) (.cons h .nil)
  have a2 := vals_fm (xs := [w]) (us := [u]) (.cons k .nil)
  rw [a1] at a2
  exact List.head_eq_of_cons_eq a2
section
variable {c : Ct} {Δ Δ' : Vt} {μ μ' : M} {R : RE} {RI : List Sl → M → M → Prop} {te ta tb : TE} {tl : TA} {s t s' : Sl} {ss ts : List Sl} {keep : M} {A A' : AE} {i : Nat} {p a b : Addr} {B H B' H' : Hp} {v : V} {d e : D} {ds es : List D}
theorem lk_d : ListK (.d (.list ds)) μ (ds.map .d) [] := .inl ⟨ds, .inl rfl, rfl, rfl⟩
theorem lk_l : ListK (.l ds) μ (ds.map .d) [] := .inl ⟨ds, .inr rfl, rfl, rfl⟩
theorem lk_m (i : Nat) (h : μ[i]? = some (p, .lst ss)) : ListK (.x (.ref p)) μ ss [(p, .lst ss)] := .inr ⟨p, rfl, List.mem_of_getElem? h, rfl⟩
theorem ListK.of (h : ListK s μ ss keep) : ListOf s μ ss := by
  rcases h with ⟨ds, rfl | rfl, rfl, rfl⟩ | ⟨p, rfl, hp, rfl⟩
  · exact lo_d
  · exact lo_l
  · exact .inr (.inr ⟨p, rfl, hp⟩)
/-- it stands so as long as keep does -/
theorem ListK.sq (h : ListK s μ ss keep) (hv : Slot c B v s) : ∃ a, v = .ref a ∧ ∀ B' H', Same B B' → Same B' H' → (∀ p o, (p, o) ∈ keep → Real c B' H' p o) → ∃ xs, SqL c.K H' a xs ∧ Slots c B' xs ss := by
  rcases h with ⟨ds, rfl | rfl, rfl, rfl⟩ | ⟨p, rfl, hp, rfl⟩
  · obtain ⟨a, xs, h1, h2, h3⟩ := Dp.list_inv hv
    exact ⟨a, h1, fun B' H' e1 e2 _ => ⟨xs, same_l (e1.trans e2) h2, .ofAll (h3.up e1)⟩⟩
  · obtain ⟨a, xs, h1, h2, h3⟩ := hv
    exact ⟨a, h1, fun B' H' e1 e2 _ => ⟨xs, SqL.of (e2 _ _ (e1 _ _ h2)), .ofAll (h3.up e1)⟩⟩
  · exact ⟨p, hv, fun B' H' e1 e2 k => by
      obtain ⟨xs, h1, h2⟩ := k p (.lst ss) (List.mem_singleton.mpr rfl)
      exact ⟨xs, SqL.of h1, h2⟩⟩
theorem yi_list (k : ∀ B' H', Same B B' → Same B' H' → (∀ p o, (p, o) ∈ keep → Real c B' H' p o) → ∃ xs, SqL c.K H' a xs ∧ Slots c B' xs ss) : YI c (Itl c.K a) ss keep B := fun i B' H' e1 e2 q => by
  obtain ⟨xs, h1, h2⟩ := k B' H' e1 e2 q
  refine ⟨fun z => ⟨xs, h1, by rw [h2.length]; omega⟩, fun s hs => ?_⟩
  obtain ⟨v, h3, h4⟩ := h2.get hs
  refine ⟨⟨xs, v, h1, h3⟩, fun x H'' ⟨y1, y2⟩ => ?_⟩
  subst y1
  have := y2 xs h1
  rw [h3] at this
  cases this
  exact ⟨B', .refl e2, h4⟩
theorem wi_list (h : WE c te Δ μ fun s μ1 => ∃ ss keep, ListK s μ1 ss keep ∧ RI ss keep μ1) : WI c (iList c.K te) Δ μ RI := fun B σ H bh e mm T q =>
  h B σ H bh e mm _ fun v B1 H1 s μ1 ⟨ss, keep, hl, r⟩ g1 m1 hv => by
    obtain ⟨a, e1, k⟩ := hl.sq hv
    obtain ⟨b, xs, e2, h2, h3⟩ := hl.of.get g1.bh m1 hv
    rw [e1] at e2
    cases e2
    exact ⟨a, e1, ⟨xs, h2⟩, q _ B1 H1 ss keep μ1 r g1 m1 (yi_list k)⟩
theorem yi_rg {lo : Int} {n : Nat} : YI c (Itr lo n) ((List.range n).map fun (i : Nat) => .d (.int (lo + i))) keep B := fun i B' H' e1 e2 q => by
  refine ⟨fun z => by simp at z; show n ≤ i; omega, fun s hs => ?_⟩
  have hi : i < n := by
    have := (List.getElem?_eq_some_iff.mp hs).1
    simpa using this
  refine ⟨hi, fun x H'' ⟨y1, y2⟩ => ?_⟩
  subst y1 y2
  have : s = .d (.int (lo + i)) := by
    rw [List.getElem?_map, List.getElem?_range hi] at hs
    simpa using hs.symm
  subst this
  exact ⟨B', .refl e2, Dp.int _⟩
theorem wi_rng1 (h : WA c tl Δ μ fun ss μ1 => ∃ j : Int, ss = [.d (.int j)] ∧ (-100000 ≤ j ∧ j ≤ 100000) ∧ RI (rgS 0 j) [] μ1) : WI c (iRng1 tl) Δ μ RI := fun B σ H bh e mm T q =>
  h B σ H bh e mm _ fun vs B1 H1 ss μ1 ⟨j, hs, hb, r⟩ g1 m1 hv => by
    subst hs
    cases hv with
    | cons h1 h2 =>
      cases h2
      rw [Dp.int_inv h1]
      refine ⟨j, rfl, by omega, by omega, q _ B1 H1 _ _ μ1 r g1 m1 ?_⟩
      unfold rgS
      rw [Int.sub_zero]
      exact yi_rg
theorem wi_rng2 (h : WA c tl Δ μ fun ss μ1 => ∃ i j : Int, ss = [.d (.int i), .d (.int j)] ∧ (-100000 ≤ i ∧ i ≤ 100000 ∧ -100000 ≤ j ∧ j ≤ 100000) ∧ RI (rgS i j) [] μ1) : WI c (iRng2 tl) Δ μ RI := fun B σ H bh e mm T q =>
  h B σ H bh e mm _ fun vs B1 H1 ss μ1 ⟨i, j, hs, hb, r⟩ g1 m1 hv => by
    subst hs
    cases hv with
    | cons h1 h2 => cases h2 with
      | cons h2 h3 =>
        cases h3
        rw [Dp.int_inv h1, Dp.int_inv h2]
        exact ⟨i, j, rfl, ⟨by omega, by omega, by omega, by omega⟩, q _ B1 H1 _ _ μ1 r g1 m1 yi_rg⟩
theorem pair_new {x y : V} {T : Addr} (e2 : Same B H) (hT : H T = none) (hx : Dp c.K B x d) (hy : Dp c.K B y e) : ∃ B'', Gr [] B H B'' (upd H T (.tup [x, y])) ∧ Slot c B'' (.ref T) (.d (.tuple [d, e])) :=
  ⟨_, Gr.new e2 hT, Dp.tup (SqT.of upd_same) (.cons (hx.up (Same.new (e2.nn hT))) (.cons (hy.up (Same.new (e2.nn hT))) .nil))⟩
theorem wi_enum (h : WA c tl Δ μ fun ss μ1 => ∃ s ds, ss = [s] ∧ (s = .d (.list ds) ∨ s = .l ds) ∧ RI ((enumD 0 ds).map .d) [] μ1) : WI c (iEnum c.K tl) Δ μ RI := fun B σ H bh e mm T q =>
  h B σ H bh e mm _ fun vs B1 H1 ss μ1 ⟨s, ds, hs, hs2, r⟩ g1 m1 hv => by
    subst hs
    cases hv with
    | cons h1 h2 =>
      cases h2
      have hl : ListK s μ1 (ds.map .d) [] := .inl ⟨ds, hs2, rfl, rfl⟩
      obtain ⟨a, e1, k⟩ := hl.sq h1
      obtain ⟨b, xs, e2, h2, h3⟩ := hl.of.get g1.bh m1 h1
      rw [e1] at e2
      cases e2
      refine ⟨a, xs, by rw [e1], h2, q _ B1 H1 _ _ μ1 r g1 m1 ?_⟩
      intro i B' H' f1 f2 f3
      obtain ⟨ys, k1, k2⟩ := k B' H' f1 f2 (by intro _ _ z; cases z)
      refine ⟨fun z => ⟨ys, k1, by rw [k2.length]; simp [enumD_len] at z ⊢; omega⟩, fun s hs => ?_⟩
      rw [List.getElem?_map, enumD_get] at hs
      simp only [Option.map_map, Option.map_eq_some_iff, Function.comp_def] at hs
      obtain ⟨d, hd1, hd2⟩ := hs
      obtain ⟨x, hx1, hx2⟩ := k2.all.get hd1
      refine ⟨⟨ys, x, k1, hx1⟩, fun w H'' ⟨T', x', w1, w2, w3, w4⟩ => ?_⟩
      subst w1 w3 hd2
      have := w4 ys k1
      rw [hx1] at this
      cases this
      have e0 : ((0 : Nat) + i : Nat) = i := by omega
      rw [e0]
      exact pair_new f2 w2 (.int i) hx2
theorem wi_zip (h : WA c tl Δ μ fun ss μ1 => ∃ s t ds es, ss = [s, t] ∧ (s = .d (.list ds) ∨ s = .l ds) ∧ (t = .d (.list es) ∨ t = .l es) ∧ ds.length = es.length ∧ RI ((zipD ds es).map .d) [] μ1) : WI c (iZip c.K tl) Δ μ RI := fun B σ H bh e mm T q =>
  h B σ H bh e mm _ fun vs B1 H1 ss μ1 ⟨s, t, ds, es, hs, hs2, ht2, hlen, r⟩ g1 m1 hv => by
    subst hs
    cases hv with
    | cons h1 h2 => cases h2 with
      | cons h2 h3 =>
        cases h3
        have hl : ListK s μ1 (ds.map .d) [] := .inl ⟨ds, hs2, rfl, rfl⟩
        have hl' : ListK t μ1 (es.map .d) [] := .inl ⟨es, ht2, rfl, rfl⟩
        obtain ⟨a, e1, k⟩ := hl.sq h1
        obtain ⟨_, xs, e2, j2, j3⟩ := hl.of.get g1.bh m1 h1
        rw [e1] at e2
        cases e2
        obtain ⟨a', e1', k'⟩ := hl'.sq h2
        obtain ⟨_, xs', e2', j2', j3'⟩ := hl'.of.get g1.bh m1 h2
        rw [e1'] at e2'
        cases e2'
        refine ⟨a, a', xs, xs', by rw [e1, e1'], j2, j2', q _ B1 H1 _ _ μ1 r g1 m1 ?_⟩
        intro i B' H' f1 f2 f3
        obtain ⟨ys, k1, k2⟩ := k B' H' f1 f2 (by intro _ _ z; cases z)
        obtain ⟨zs, k3, k4⟩ := k' B' H' f1 f2 (by intro _ _ z; cases z)
        refine ⟨fun z => ⟨ys, zs, k1, k3, by rw [k2.length]; simp [zipD_len _ _ hlen] at z ⊢; omega⟩, fun s hs => ?_⟩
        rw [List.getElem?_map] at hs
        simp only [Option.map_eq_some_iff] at hs
        obtain ⟨dd, hd1, hd2⟩ := hs
        obtain ⟨d, e, z1, z2, z3⟩ := zipD_get _ _ _ _ hd1
        obtain ⟨x, hx1, hx2⟩ := k2.all.get z1
        obtain ⟨y, hy1, hy2⟩ := k4.all.get z2
        refine ⟨⟨ys, zs, x, y, k1, k3, hx1, hy1⟩, fun w H'' ⟨T', x', y', w1, w2, w3, w4, w5⟩ => ?_⟩
        subst w1 w3 hd2 z3
        have a1 := w4 ys k1
        have a2 := w5 zs k3
        rw [hx1] at a1; rw [hy1] at a2
        cases a1; cases a2
        exact pair_new f2 w2 hx2 hy2
theorem wi_zipM (h : WA c tl Δ μ fun ss μ1 => ∃ s ds es, ss = [s, .d (.tuple es)] ∧ (s = .d (.list ds) ∨ s = .l ds) ∧ ds.length = es.length ∧ RI ((zipD ds es).map .d) [] μ1) : WI c (iZipM c.K tl) Δ μ RI := fun B σ H bh e mm T q =>
  h B σ H bh e mm _ fun vs B1 H1 ss μ1 ⟨s, ds, es, hs, hs2, hlen, r⟩ g1 m1 hv => by
    subst hs
    cases hv with
    | cons h1 h2 => cases h2 with
      | cons h2 h3 =>
        cases h3
        have hl : ListK s μ1 (ds.map .d) [] := .inl ⟨ds, hs2, rfl, rfl⟩
        obtain ⟨a, e1, k⟩ := hl.sq h1
        obtain ⟨_, xs, e2, j2, j3⟩ := hl.of.get g1.bh m1 h1
        rw [e1] at e2
        cases e2
        obtain ⟨a', xs', e1', j2', j3'⟩ := Dp.tup_inv h2
        refine ⟨a, a', by rw [e1, e1'], ⟨xs, j2⟩, ⟨xs', same_t g1.bh j2'⟩, q _ B1 H1 _ _ μ1 r g1 m1 ?_⟩
        intro i B' H' f1 f2 f3
        obtain ⟨ys, k1, k2⟩ := k B' H' f1 f2 (by intro _ _ z; cases z)
        have k3 : SqT c.K H' a' xs' := same_t (f1.trans f2) j2'
        have k4 := j3'.up f1
        refine ⟨fun z => ⟨ys, xs', k1, k3, by rw [k2.length]; simp [zipD_len _ _ hlen] at z ⊢; omega, by rw [k4.length]; simp [zipD_len _ _ hlen] at z ⊢; omega⟩, fun s hs => ?_⟩
        rw [List.getElem?_map] at hs
        simp only [Option.map_eq_some_iff] at hs
        obtain ⟨dd, hd1, hd2⟩ := hs
        obtain ⟨d, e, z1, z2, z3⟩ := zipD_get _ _ _ _ hd1
        obtain ⟨x, hx1, hx2⟩ := k2.all.get z1
        obtain ⟨y, hy1, hy2⟩ := k4.get z2
        refine ⟨⟨ys, xs', x, y, k1, k3, hx1, hy1⟩, fun w H'' ⟨T', x', y', w1, w2, w3, w4, w5⟩ => ?_⟩
        subst w1 w3 hd2 z3
        have a1 := w4 ys k1
        have a2 := w5 xs' k3
        rw [hx1] at a1; rw [hy1] at a2
        cases a1; cases a2
        exact pair_new f2 w2 hx2 hy2
/-! over a nested dict that stands still -/
theorem kn_get {kvs : List (NK × V)} {xs : List Ent} (h : KN c.K B kvs xs) {i : Nat} {kv : NK × V} (e : kvs[i]? = some kv) : ∃ x, xs[i]? = some x ∧ x.1 = kv.1 ∧ KeyAt c.K B x.2.1 kv.1 ∧ RelV kv.2 x.2.2 := by
  induction h generalizing i with
  | nil => simp at e
  | @cons a b l1 l2 h1 _ ih =>
    cases i with
    | zero => simp at e; subst e; exact ⟨b, rfl, h1.1.symm, h1.2.1, h1.2.2⟩
    | succ i => simpa using ih (by simpa using e)
theorem kvd_get {ws : List (NK × V)} {kvs : List (NK × D)} (h : KVD c.K B ws kvs) {i : Nat} {k : NK} {d : D} (e : kvs[i]? = some (k, d)) : ∃ v, ws[i]? = some (k, v) ∧ Dp c.K B v d := by
  induction h generalizing i with
  | nil => simp at e
  | @cons k' v' d' ws ds h1 _ ih =>
    cases i with
    | zero => simp at e; obtain ⟨rfl, rfl⟩ := e; exact ⟨v', rfl, h1⟩
    | succ i => simpa using ih (by simpa using e)
theorem wi_keysN (h : WE c te Δ μ fun s μ1 => ∃ kvs, s = .nd kvs ∧ ((kvs.map (·.1)).Nodup → RI (kvs.map fun kv => .d kv.1.data) [] μ1)) : WI c (iKeysN c.P c.w te) Δ μ RI := fun B σ H bh e mm T q =>
  h B σ H bh e mm _ fun v B1 H1 s μ1 ⟨kvs, hs, r⟩ g1 m1 hv => by
    subst hs
    obtain ⟨a, ws, rfl, ⟨xs, ep, h1, h2, h3⟩, h4⟩ := hv
    have hk : xs.map (·.1) = kvs.map (·.1) := by
      rw [← h4.keys]
      clear h4 h3 h1 r
      induction h2 with
      | nil => rfl
      | cons k1 _ ih => simp [ih, k1.1]
    have hlen : xs.length = kvs.length := by have := congrArg List.length hk; simpa using this
    refine ⟨a, xs, ep, rfl, g1.bh _ _ h1, q _ B1 H1 _ _ μ1 (r (hk ▸ h3)) g1 m1 ?_⟩
    intro i B' H' f1 f2 f3
    have h5 : H' a = some (dn c.P c.w a xs ep) := f2 _ _ (f1 _ _ h1)
    refine ⟨fun z => ⟨h5, by simp at z; omega⟩, fun s hs => ?_⟩
    rw [List.getElem?_map] at hs
    simp only [Option.map_eq_some_iff] at hs
    obtain ⟨⟨k, d⟩, z1, z2⟩ := hs
    subst z2
    obtain ⟨v, y1, y2⟩ := kvd_get h4 z1
    obtain ⟨x, x1, x2, x3, x4⟩ := kn_get h2 y1
    refine ⟨⟨h5, (List.getElem?_eq_some_iff.mp x1).1⟩, fun w H'' ⟨w1, e', w2, w3⟩ => ?_⟩
    subst w1 w3
    rw [x1] at w2
    cases w2
    exact ⟨B', .refl f2, (x3.up f1).1⟩
theorem wi_itemsN (h : WE c te Δ μ fun s μ1 => ∃ kvs, s = .nd kvs ∧ ((kvs.map (·.1)).Nodup → RI (kvs.map fun kv => .d (.tuple [kv.1.data, kv.2])) [] μ1)) : WI c (iItemsN c.P c.w te) Δ μ RI := fun B σ H bh e mm T q =>
  h B σ H bh e mm _ fun v B1 H1 s μ1 ⟨kvs, hs, r⟩ g1 m1 hv => by
    subst hs
    obtain ⟨a, ws, rfl, ⟨xs, ep, h1, h2, h3⟩, h4⟩ := hv
    have hk : xs.map (·.1) = kvs.map (·.1) := by
      rw [← h4.keys]
      clear h4 h3 h1 r
      induction h2 with
      | nil => rfl
      | cons k1 _ ih => simp [ih, k1.1]
    have hlen : xs.length = kvs.length := by have := congrArg List.length hk; simpa using this
    refine ⟨a, xs, ep, rfl, g1.bh _ _ h1, q _ B1 H1 _ _ μ1 (r (hk ▸ h3)) g1 m1 ?_⟩
    intro i B' H' f1 f2 f3
    have h5 : H' a = some (dn c.P c.w a xs ep) := f2 _ _ (f1 _ _ h1)
    refine ⟨fun z => ⟨h5, by simp at z; omega⟩, fun s hs => ?_⟩
    rw [List.getElem?_map] at hs
    simp only [Option.map_eq_some_iff] at hs
    obtain ⟨⟨k, d⟩, z1, z2⟩ := hs
    subst z2
    obtain ⟨v, y1, y2⟩ := kvd_get h4 z1
    obtain ⟨x, x1, x2, x3, x4⟩ := kn_get h2 y1
    refine ⟨⟨h5, x, v, x1, x4⟩, fun w H'' ⟨T', e', v', w1, w2, w3, w4, w5⟩ => ?_⟩
    subst w3 w5
    rw [x1] at w1
    cases w1
    have : v' = v := relV_inj w2 x4
    subst this
    exact pair_new f2 w4 (x3.up f1).1 (y2.up f1)
/-! over a dict by text, locked -/
theorem kvs_get {κ : Type} {ws : List (κ × V)} {kvs : List (κ × Sl)} (h : KVs c B ws kvs) {i : Nat} {k : κ} {s : Sl} (e : kvs[i]? = some (k, s)) : ∃ v, ws[i]? = some (k, v) ∧ Slot c B v s := by
  induction h generalizing i with
  | nil => simp at e
  | @cons k' v' d' ws ds h1 _ ih =>
    cases i with
    | zero => simp at e; obtain ⟨rfl, rfl⟩ := e; exact ⟨v', rfl, h1⟩
    | succ i => simpa using ih (by simpa using e)
theorem wi_keys (h : WE c te Δ μ fun s μ1 => ∃ (p : Addr) (i : Nat) (o : Obj) (ws : List (Str × V)) (kvs : List (Str × Sl)), s = .x (.ref p) ∧ μ1[i]? = some (p, .dkF o ws kvs) ∧ RI (kvs.map fun kv => .d (.str kv.1)) [(p, .dkF o ws kvs)] μ1) : WI c (iKeys te) Δ μ RI := fun B σ H bh e mm T q =>
  h B σ H bh e mm _ fun v B1 H1 s μ1 ⟨p, i, o, ws, kvs, hs, hi, r⟩ g1 m1 hv => by
    subst hs
    obtain ⟨h1, h2⟩ := m1.re p _ (List.mem_of_getElem? hi)
    refine ⟨p, o, hv, .inl ⟨_, h1, q _ B1 H1 _ _ μ1 r g1 m1 ?_⟩⟩
    intro i B' H' f1 f2 f3
    obtain ⟨h5, h6⟩ := f3 p (.dkF o ws kvs) (List.mem_singleton.mpr rfl)
    refine ⟨fun z => ⟨h5, by rw [inrK_len, h6.length]; simp at z; omega⟩, fun s hs => ?_⟩
    rw [List.getElem?_map] at hs
    simp only [Option.map_eq_some_iff] at hs
    obtain ⟨⟨k, d⟩, z1, z2⟩ := hs
    subst z2
    obtain ⟨v, y1, y2⟩ := kvs_get h6 z1
    refine ⟨⟨h5, by rw [inrK_len]; exact (List.getElem?_eq_some_iff.mp y1).1⟩, fun w H'' ⟨w1, k', v', w2, w3⟩ => ?_⟩
    subst w1 w3
    have : (inrK ws)[i]? = some (.inr k, v) := by unfold inrK; rw [List.getElem?_map, y1]; rfl
    rw [this] at w2
    cases w2
    exact ⟨B', .refl f2, Dp.str k⟩
theorem ws_lock {tb : TS} {kvs : List (Str × Sl)} (i : Nat) (hi : μ[i]? = some (p, .dk kvs)) (h : ∀ o ws, WS c tb Δ (μ.set i (p, .dkF o ws kvs)) { nx := fun Δ' μ' => ∃ j, μ'[j]? = some (p, .dkF o ws kvs) ∧ A.nx Δ' (μ'.set j (p, .dk kvs)), rt := fun _ _ => False }) : WS c (tLock tb) Δ μ A := fun B σ H bh e mm E e1 e2 e3 e4 => by
  obtain ⟨ws, h1, h2⟩ := mm.re p _ (List.mem_of_getElem? hi)
  refine ⟨p, .dK (inrK ws), h1, True.intro, fun od => ?_⟩
  have ch := GM.chg (i := i) (o := .dkF od ws kvs) (u := .frz od (.dK (inrK ws))) bh mm hi ⟨upd_same, h2⟩
  refine h od ws B σ _ ch.1.bh e ch.2 _ (fun B' σ' H' Δ' μ' ⟨j, hj, r⟩ g h m => ?_) (fun _ _ _ _ _ z => z.elim) (fun _ _ _ _ _ z => z.elim) (fun _ _ _ _ _ z => z.elim)
  obtain ⟨k1, k2⟩ := m.re p _ (List.mem_of_getElem? hj)
  have ch2 := GM.chg (i := j) (o := .dk kvs) (u := .dK (inrK ws)) g.bh m hj ⟨ws, upd_same, k2⟩
  exact ⟨k1, e1 B' σ' _ Δ' _ r ((ch.1.trans g).trans ch2.1) h ch2.2⟩
/-! list(d), sorted(d) of a nested dict -/
theorem kn_all {ws : List (NK × V)} {xs : List Ent} {kvs : List (NK × D)} (h : KN c.K B ws xs) (k : KVD c.K B ws kvs) : DpAll c.K B (xs.map fun x => .ref x.2.1) (kvs.map fun kv => kv.1.data) := by
  induction h generalizing kvs with
  | nil => cases k; exact .nil
  | @cons a b l1 l2 h1 _ ih =>
    cases k with
    | cons k1 k2 => exact .cons h1.2.1.1 (ih k2)
theorem dn_nodup {ws : List (NK × V)} {kvs : List (NK × D)} (h : DN c.P c.w c.K B H a ws) (k : KVD c.K B ws kvs) : (kvs.map (·.1)).Nodup := by
  obtain ⟨xs, ep, h1, h2, h3⟩ := h
  rw [← k.keys]
  have : xs.map (·.1) = ws.map (·.1) := by
    clear h3 h1 k
    induction h2 with
    | nil => rfl
    | cons k1 _ ih => simp [ih, k1.1]
  rw [← this]; exact h3
theorem wc_listN {kvs : List (NK × D)} (h : NdOf s μ kvs) (r : (kvs.map (·.1)).Nodup → R (.l (kvs.map fun kv => kv.1.data)) μ) : WC c (rListN c.P c.w) μ [s] R := fun B H xs bh mm hx Q q => by
  cases hx with
  | cons h1 h2 =>
    cases h2
    obtain ⟨a, ws, rfl, q1, q2⟩ := h.get bh mm h1
    have nd := dn_nodup q1 q2
    obtain ⟨xs, ep, k1, k2, k3⟩ := q1
    refine ⟨a, xs, ep, rfl, k1, fun p hp => ?_⟩
    have g : Gr [] B H (upd B p (.lst (xs.map fun x => .ref x.2.1))) (upd H p (.lst (xs.map fun x => .ref x.2.1))) := Gr.new bh hp
    exact q _ _ _ _ _ (r nd) (.of0 g) (mm.of0 g) ⟨p, _, rfl, upd_same, (kn_all k2 q2).up (Same.new (bh.nn hp))⟩
theorem wc_sortN {kvs : List (NK × D)} (h : NdOf s μ kvs) (hs : Srt (kvs.map fun kv => kv.1.data)) (r : ∀ es, es.Perm (kvs.map fun kv => kv.1.data) → R (.l es) μ) : WC c (rSortN c.P c.w c.K) μ [s] R := fun B H xs bh mm hx Q q => by
  cases hx with
  | cons h1 h2 =>
    cases h2
    obtain ⟨a, ws, rfl, q1, q2⟩ := h.get bh mm h1
    obtain ⟨xs, ep, k1, k2, k3⟩ := q1
    have ka := kn_all k2 q2
    refine ⟨a, xs, ep, _, rfl, k1, ka.up bh, hs, fun zs p hp hn => ?_⟩
    obtain ⟨es, e1, e2⟩ := slots_perm hp ka
    have g : Gr [] B H (upd B p (.lst zs)) (upd H p (.lst zs)) := Gr.new bh hn
    exact q _ _ _ _ _ (r es e1) (.of0 g) (mm.of0 g) ⟨p, _, rfl, upd_same, e2.up (Same.new (bh.nn hn))⟩
/-! isinstance -/
def tyS : Sl → String
  | .d .none => "NoneType"
  | .d (.bool _) => "bool"
  | .d (.int _) => "int"
  | .d (.str _) => "str"
  | .d (.list _) => "list"
  | .d (.tuple _) => "tuple"
  | .d (.dict _) => "dict"
  | .l _ => "list"
  | .pl _ _ => "tuple"
  | _ => "dict"
theorem sqL_ty {xs : List V} (h : SqL c.K H a xs) : TyX c.K H (.ref a) (.type "list") := by
  rcases h with (h | ⟨o, h⟩) | ⟨o, its, n, h1, h2, _⟩
  · exact .base (.lst h)
  · exact .base (.frz h)
  · exact .kList h1 h2
theorem sqT_ty {xs : List V} (h : SqT c.K H a xs) : TyX c.K H (.ref a) (.type "tuple") := by
  rcases h with (h | ⟨o, h⟩) | ⟨o, its, n, h1, h2, _⟩
  · exact .base (.tup h)
  · exact .fTuple h
  · exact .kTuple h1 h2
def isTyS : Sl → Bool
  | .d (.dict _) => false
  | .d _ => true
  | .l _ => true
  | .pl _ _ => true
  | _ => false
theorem slot_ty (h : isTyS s = true) (bh : Same B H) (hv : Slot c B v s) : TyX c.K H v (.type (tyS s)) := by
  cases s with
  | d x => cases x with
    | none => rw [Dp.non_inv hv]; exact .base .non
    | bool y => rw [Dp.bl_inv hv]; exact .base (.bl y)
    | int y => rw [Dp.int_inv hv]; exact .base (.int y)
    | str y => rw [Dp.str_inv hv]; exact .base (.str y)
    | list y => obtain ⟨a, xs, rfl, h1, _⟩ := Dp.list_inv hv; exact sqL_ty (same_l bh h1)
    | tuple y => obtain ⟨a, xs, rfl, h1, _⟩ := Dp.tup_inv hv; exact sqT_ty (same_t bh h1)
    | dict y => cases h
  | x w => cases h
  | l ds => obtain ⟨a, xs, rfl, h1, _⟩ := hv; exact sqL_ty (SqL.of (bh _ _ h1))
  | pl x ds => obtain ⟨a, u, w, rfl, h1, _⟩ := hv; exact sqT_ty (same_t bh h1)
  | nd x => cases h
theorem wc_isi {n : String} {r : Bool} (hs : isTyS s = true) (hk : kitB (tyS s) n = some r) (k : R (.d (.bool r)) μ) : WC c (rIsi c.K) μ [s, .x (.ty n)] R := fun B H xs bh mm hx Q q => by
  cases hx with
  | cons h1 h2 => cases h2 with
    | cons h2 h3 =>
      cases h3
      have : _ = V.ty n := h2
      subst this
      exact ⟨_, _, _, _, r, rfl, .ty n, slot_ty hs bh h1, kit_ty hk, q _ B H _ μ k (.refl bh) mm (Dp.bl r)⟩
/-! two dicts of the same data -/
theorem wo_neDD {q : Addr} {ks ls : List (Str × Sl)} (i j : Nat) (hi : μ[i]? = some (p, .dk ks)) (hj : μ[j]? = some (q, .dk ls)) (hl : ks.length = ls.length)
    (h : ∀ k s, (k, s) ∈ ks → ∃ s' d, getS ls k = some s' ∧ dataS s = some d ∧ dataS s' = some d ∧ SeqAt.shaped d = true ∧ PyData.eqv d d = true) (r : R (.d (.bool false)) μ) : WO c (rNeDD c.K) μ (.x (.ref p)) (.x (.ref q)) R := fun B H x y bh mm hx hy Q k => by
  obtain ⟨ws, h1, h2⟩ := mm.re p _ (List.mem_of_getElem? hi)
  obtain ⟨us, h3, h4⟩ := mm.re q _ (List.mem_of_getElem? hj)
  refine ⟨p, q, inrK ws, inrK us, hx, hy, h1, h3, by rw [inrK_len, inrK_len, h2.length, h4.length, hl], fun e he => ?_, k _ B H _ μ r (.refl bh) mm (Dp.bl false)⟩
  obtain ⟨m, hm⟩ := List.mem_iff_getElem?.mp he
  unfold inrK at hm
  rw [List.getElem?_map] at hm
  simp only [Option.map_eq_some_iff] at hm
  obtain ⟨⟨k0, v0⟩, e1, e2⟩ := hm
  subst e2
  obtain ⟨s0, e3, e4⟩ : ∃ s0, ks[m]? = some (k0, s0) ∧ Slot c B v0 s0 := by
    clear h hi hl he h1
    induction h2 generalizing m with
    | nil => simp at e1
    | @cons k' v' s' ws ss g1 _ ih =>
      cases m with
      | zero => simp at e1; obtain ⟨rfl, rfl⟩ := e1; exact ⟨s', rfl, g1⟩
      | succ m => simpa using ih m (by simpa using e1)
  obtain ⟨s', d, f1, f2, f3, f4, f5⟩ := h k0 s0 (List.mem_of_getElem? e3)
  obtain ⟨u, f6, f7⟩ := h4.getv f1
  exact ⟨u, d, d, by rw [inrK_val]; exact f6, (dataS_ok f2 e4).up bh, (dataS_ok f3 f7).up bh, f4, f4, f5⟩
/-- the elements of what is data -/
theorem sl_d (h : dataS s = some d) : SlI c s (.d d) := fun B v hv => dataS_ok h hv
end
end Sw
/-! SwOk -/
set_option Elab.async false
set_option linter.all false
set_option maxRecDepth 100000
set_option maxHeartbeats 4000000
namespace Sw
open PySem L2 SwH
def N_Inputs_init : List Str := ["self", "program", "level"]
def P_Inputs_init : List Str := ["self", "program"]
theorem sc_Inputs_init : FnScope N_Inputs_init P_Inputs_init (defScope SwH.s_Inputs_init) := ⟨rfl, rfl, rfl, by decide +kernel, rfl, by decide +kernel, by decide +kernel⟩
def t_Inputs_init (P : Program) (w : World) (K : PySem.W.Frag) (C : Addr) (s_Inputs_next_level s_first_standing_ways : Sp) : TS :=
(tSeq (sFld K (tVar 0) (tVar 1) "program")
(tSeq (sFld K (tVar 0) (tNNew P w) "shortest")
(tSeq (tAsg (tLst (tCons (tTup (tCons (tCall s_first_standing_ways [] E0 (tCons (tVar 1) tNil)) (tCons (tTup tNil) tNil))) tNil)) (gName 2))
(tWhile (tTest (tOp (rNeNil K) (tVar 2) (tLst tNil))) (tAsg (tMeth C "next_level" s_Inputs_next_level [] E0 (tVar 0) (tCons (tVar 2) tNil)) (gName 2))))))
theorem ok_Inputs_init {P : Program} {w : World} {K : PySem.W.Frag} {mg : Str → Option Value} {base : Heap} {C : Addr} {f : Addr} {fd : FuncData} {s_Inputs_next_level s_first_standing_ways : Sp} {aOne : Addr} (T : Txt K mg aOne) (F : FnP K "__init__" "Inputs.__init__" SwH.s_Inputs_init f fd) (MI_next_level : MI P w K mg base C "next_level" 8 P_Inputs_next_level s_Inputs_next_level) (G_first_standing_ways : GF P w K mg base "first_standing_ways" 1 P_first_standing_ways s_first_standing_ways)
    (sp : Sp) (len : ∀ vs H Q E, sp vs H Q E → vs.length = 2) (rd : ∀ vs H Q E, sp vs H Q E → t_Inputs_init P w K C s_Inputs_next_level s_first_standing_ways { nx := fun _ H' => Q .non H', rt := Q } (start N_Inputs_init vs) H) : FnOk P w K mg base CX0 9 f fd P_Inputs_init sp := by
  refine F.ok sc_Inputs_init len (fun cdv A outer s H vs Q E hr h => ⟨t_Inputs_init P w K C s_Inputs_next_level s_first_standing_ways, PSs.nox ?_, rd vs H Q E h⟩)
  have hu : _ + 64 < cLine := hr.units
  have hud : _ + 65 < cLine := units65 hr
  have hu1 : _ + 1 < cLine := hu_of hr
  have huc : _ < cLine := hr.units0
  exact (pss_cons (ps_fld (pv 0) (pv 1) rfl)
(pss_cons (ps_fld (pv 0) pe_nnew rfl)
(pss_cons (ps_set (i := 2) sc_Inputs_init.nd rfl (Or.inl rfl) (pe_lst (pa_cons (pe_tup (pa_cons (pe_fn G_first_standing_ways (hr.mono (by decide)) rfl (pa_cons (pv 1) pa_nil)) (pa_cons (pe_tup pa_nil) pa_nil))) pa_nil)))
(pss_one (ps_while PassesOwn.never (pt_cmpR (op_neNil huc) (pv 2) (pe_lst pa_nil) (nomark _)) (pss_one (ps_set (i := 2) sc_Inputs_init.nd rfl (Or.inl rfl) (pe_mi (pv 0) MI_next_level hr (pa_cons (pv 2) pa_nil)))))))))
def N_Inputs_next_level : List Str := ["self", "level", "found", "begin", "numbers", "standing"]
def P_Inputs_next_level : List Str := ["self", "level"]
theorem sc_Inputs_next_level : FnScope N_Inputs_next_level P_Inputs_next_level (defScope SwH.s_Inputs_next_level) := ⟨rfl, rfl, rfl, by decide +kernel, rfl, by decide +kernel, by decide +kernel⟩
def t_Inputs_next_level (P : Program) (w : World) (K : PySem.W.Frag) (C : Addr) (s_Inputs_gone_on : Sp) : TS :=
(tSeq (tAsg (tLst tNil) (gName 2))
(tSeq (tFor (iList K (tVar 1)) (gTup K 2 (gCons (gName 3) (gCons (gName 4) gNil))) (tSeq (tAsg (tVar 3) (gName 5))
(tWhile (tAnd (tTest (tOp rNotN (tVar 5) (tC .non))) (tB (tNNotIn P w K (tVar 5) (tFld K (tVar 0) "shortest")))) (tSeq (sNPut P w K (tFld K (tVar 0) "shortest") (tVar 5) (tVar 4))
(tAsg (tMeth C "gone_on" s_Inputs_gone_on [] E0 (tVar 0) (tCons (tVar 5) (tCons (tVar 4) (tCons (tVar 2) tNil)))) (gName 5))))))
(tRet (tVar 2))))
theorem ok_Inputs_next_level {P : Program} {w : World} {K : PySem.W.Frag} {mg : Str → Option Value} {base : Heap} {C : Addr} {f : Addr} {fd : FuncData} {s_Inputs_gone_on : Sp} {aOne : Addr} (T : Txt K mg aOne) (F : FnP K "next_level" "Inputs.next_level" SwH.s_Inputs_next_level f fd) (MI_gone_on : MI P w K mg base C "gone_on" 7 P_Inputs_gone_on s_Inputs_gone_on) 
    (sp : Sp) (len : ∀ vs H Q E, sp vs H Q E → vs.length = 2) (rd : ∀ vs H Q E, sp vs H Q E → t_Inputs_next_level P w K C s_Inputs_gone_on { nx := fun _ H' => Q .non H', rt := Q } (start N_Inputs_next_level vs) H) : FnOk P w K mg base CX0 8 f fd P_Inputs_next_level sp := by
  refine F.ok sc_Inputs_next_level len (fun cdv A outer s H vs Q E hr h => ⟨t_Inputs_next_level P w K C s_Inputs_gone_on, PSs.nox ?_, rd vs H Q E h⟩)
  have hu : _ + 64 < cLine := hr.units
  have hud : _ + 65 < cLine := units65 hr
  have hu1 : _ + 1 < cLine := hu_of hr
  have huc : _ < cLine := hr.units0
  exact (pss_cons (ps_set (i := 2) sc_Inputs_next_level.nd rfl (Or.inl rfl) (pe_lst pa_nil))
(pss_cons (ps_for PassesOwn.never rfl (pi_list (pv 1)) (pg_tup rfl (pgs_cons (pg_name (i := 3) sc_Inputs_next_level.nd rfl (Or.inl rfl)) (pgs_cons (pg_name (i := 4) sc_Inputs_next_level.nd rfl (Or.inl rfl)) pgs_nil))) (pss_cons (ps_set (i := 5) sc_Inputs_next_level.nd rfl (Or.inl rfl) (pv 3))
(pss_one (ps_while PassesOwn.never (PW.pt (pw_and (pt_cmpR op_notN1 (pv 5) pe_non (nomark _)) (pw_and1 (pt_cmp (pc_nnotin hu (pv 5) (pe_fld (pv 0) rfl)))))) (pss_cons (ps_nput hu (pe_fld (pv 0) rfl) (pv 5) (pv 4) rfl)
(pss_one (ps_set (i := 5) sc_Inputs_next_level.nd rfl (Or.inl rfl) (pe_mi (pv 0) MI_gone_on hr (pa_cons (pv 5) (pa_cons (pv 4) (pa_cons (pv 2) pa_nil)))))))))))
(pss_one (ps_ret (pv 2)))))
def N_Inputs_gone_on : List Str := ["self", "standing", "numbers", "found", "kind", "number"]
def P_Inputs_gone_on : List Str := ["self", "standing", "numbers", "found"]
theorem sc_Inputs_gone_on : FnScope N_Inputs_gone_on P_Inputs_gone_on (defScope SwH.s_Inputs_gone_on) := ⟨rfl, rfl, rfl, by decide +kernel, rfl, by decide +kernel, by decide +kernel⟩
def t_Inputs_gone_on (P : Program) (w : World) (K : PySem.W.Frag) (s_step s_kind_at s_numbers_for : Sp) : TS :=
(tSeq (tAsg (tCall s_kind_at [] E0 (tCons (tFld K (tVar 0) "program") (tCons (tVar 1) tNil))) (gName 4))
(tSeq (tIfS (tTest (tOp (rIn K false) (tVar 4) (tLst (tCons (tC (.str "end")) (tCons (tC (.str "stop")) tNil))))) (tRet (tC .non)) tNext)
(tSeq (tIfS (tTest (tOp rNe (tVar 4) (tC (.str "ask")))) (tRet (tCall s_step [] E0 (tCons (tFld K (tVar 0) "program") (tCons (tVar 1) (tCons (tC .non) tNil))))) tNext)
(tSeq (tFor (iList K (tCall s_numbers_for [] E0 (tCons (tFld K (tVar 0) "program") (tCons (tVar 1) tNil)))) (gName 5) (tDrop (tBM K "list" rAppend (tVar 3) (tCons (tTup (tCons (tCall s_step [] E0 (tCons (tFld K (tVar 0) "program") (tCons (tVar 1) (tCons (tVar 5) tNil)))) (tCons (tOp (rCatA K) (tVar 2) (tTup (tCons (tVar 5) tNil))) tNil))) tNil))))
(tRet (tC .non))))))
theorem ok_Inputs_gone_on {P : Program} {w : World} {K : PySem.W.Frag} {mg : Str → Option Value} {base : Heap} {f : Addr} {fd : FuncData} {s_step s_kind_at s_numbers_for : Sp} {aOne : Addr} (T : Txt K mg aOne) (F : FnP K "gone_on" "Inputs.gone_on" SwH.s_Inputs_gone_on f fd) (G_step : GF P w K mg base "step" 6 P_step s_step) (G_kind_at : GF P w K mg base "kind_at" 1 P_kind_at s_kind_at) (G_numbers_for : GF P w K mg base "numbers_for" 1 P_numbers_for s_numbers_for)
    (sp : Sp) (len : ∀ vs H Q E, sp vs H Q E → vs.length = 4) (rd : ∀ vs H Q E, sp vs H Q E → t_Inputs_gone_on P w K s_step s_kind_at s_numbers_for { nx := fun _ H' => Q .non H', rt := Q } (start N_Inputs_gone_on vs) H) : FnOk P w K mg base CX0 7 f fd P_Inputs_gone_on sp := by
  refine F.ok sc_Inputs_gone_on len (fun cdv A outer s H vs Q E hr h => ⟨t_Inputs_gone_on P w K s_step s_kind_at s_numbers_for, PSs.nox ?_, rd vs H Q E h⟩)
  have hu : _ + 64 < cLine := hr.units
  have hud : _ + 65 < cLine := units65 hr
  have hu1 : _ + 1 < cLine := hu_of hr
  have huc : _ < cLine := hr.units0
  exact (pss_cons (ps_set (i := 4) sc_Inputs_gone_on.nd rfl (Or.inl rfl) (pe_fn G_kind_at (hr.mono (by decide)) rfl (pa_cons (pe_fld (pv 0) rfl) (pa_cons (pv 1) pa_nil))))
(pss_cons (ps_if (pt_cmpR op_in_seq (pv 4) (pe_lst (pa_cons pe_str (pa_cons pe_str pa_nil))) (by rfl)) (pss_one (ps_ret pe_non)) pss_nil)
(pss_cons (ps_if (pt_cmpR op_ne (pv 4) pe_str (nomark _)) (pss_one (ps_ret (pe_fn G_step hr rfl (pa_cons (pe_fld (pv 0) rfl) (pa_cons (pv 1) (pa_cons pe_non pa_nil)))))) pss_nil)
(pss_cons (ps_for PassesOwn.never rfl (pi_list (pe_fn G_numbers_for (hr.mono (by decide)) rfl (pa_cons (pe_fld (pv 0) rfl) (pa_cons (pv 1) pa_nil)))) (pg_name (i := 5) sc_Inputs_gone_on.nd rfl (Or.inl rfl)) (pss_one (ps_expr (pe_bm PySem.F.plainAttrs_list PySem.F.slot_list_append PySem.F.type_list_append mt_append (pv 3) (pa_cons (pe_tup (pa_cons (pe_fn G_step hr rfl (pa_cons (pe_fld (pv 0) rfl) (pa_cons (pv 1) (pa_cons (pv 5) pa_nil)))) (pa_cons (pe_op op_catA (pv 2) (pe_tup (pa_cons (pv 5) pa_nil))) pa_nil))) pa_nil)))))
(pss_one (ps_ret pe_non))))))
def N_worth : List Str := ["e", "values", "one", "other"]
def P_worth : List Str := ["e", "values"]
theorem sc_worth : FnScope N_worth P_worth (defScope SwH.s_worth) := ⟨rfl, rfl, rfl, by decide +kernel, rfl, by decide +kernel, by decide +kernel⟩
def t_worth (P : Program) (w : World) (K : PySem.W.Frag) (s_worth : Sp) : TS :=
(tSeq (tIfS (tTest (tOp rEq (tOp (rIxT K) (tVar 0) (tC (.int 0))) (tC (.str "number")))) (tRet (tOp (rIxT K) (tVar 0) (tC (.int 1)))) tNext)
(tSeq (tIfS (tTest (tOp rEq (tOp (rIxT K) (tVar 0) (tC (.int 0))) (tC (.str "box")))) (tRet (tDGet (tVar 1) (tOp (rIxT K) (tVar 0) (tC (.int 1))))) tNext)
(tSeq (tAsg (tCall s_worth [] E0 (tCons (tOp (rIxT K) (tVar 0) (tC (.int 1))) (tCons (tVar 1) tNil))) (gName 2))
(tSeq (tAsg (tCall s_worth [] E0 (tCons (tOp (rIxT K) (tVar 0) (tC (.int 2))) (tCons (tVar 1) tNil))) (gName 3))
(tSeq (tIfS (tTest (tOp rEq (tOp (rIxT K) (tVar 0) (tC (.int 0))) (tC (.str "+")))) (tRet (tOp rAdd2 (tVar 2) (tVar 3))) tNext)
(tSeq (tIfS (tTest (tOp rEq (tOp (rIxT K) (tVar 0) (tC (.int 0))) (tC (.str "-")))) (tRet (tOp rSub2 (tVar 2) (tVar 3))) tNext)
(tRet (tOp rMul2 (tVar 2) (tVar 3)))))))))
theorem ok_worth {P : Program} {w : World} {K : PySem.W.Frag} {mg : Str → Option Value} {base : Heap} {f : Addr} {fd : FuncData} {s_worth : Sp} {aOne : Addr} (T : Txt K mg aOne) (F : FnP K "worth" "worth" SwH.s_worth f fd) {k : Nat} (G_worth : GF P w K mg base "worth" k P_worth s_worth)
    (sp : Sp) (len : ∀ vs H Q E, sp vs H Q E → vs.length = 2) (rd : ∀ vs H Q E, sp vs H Q E → t_worth P w K s_worth { nx := fun _ H' => Q .non H', rt := Q } (start N_worth vs) H) : FnOk P w K mg base CX0 (k + 1) f fd P_worth sp := by
  refine F.ok sc_worth len (fun cdv A outer s H vs Q E hr h => ⟨t_worth P w K s_worth, PSs.nox ?_, rd vs H Q E h⟩)
  have hu : _ + 64 < cLine := hr.units
  have hud : _ + 65 < cLine := units65 hr
  have hu1 : _ + 1 < cLine := hu_of hr
  have huc : _ < cLine := hr.units0
  exact (pss_cons (ps_if (pt_cmpR op_eq (pe_ix ix_tup (pv 0) pe_int (fun _ _ => rfl)) pe_str (nomark _)) (pss_one (ps_ret (pe_ix ix_tup (pv 0) pe_int (fun _ _ => rfl)))) pss_nil)
(pss_cons (ps_if (pt_cmpR op_eq (pe_ix ix_tup (pv 0) pe_int (fun _ _ => rfl)) pe_str (nomark _)) (pss_one (ps_ret (pe_dget hu1 (pv 1) (pe_ix ix_tup (pv 0) pe_int (fun _ _ => rfl)) (fun _ _ => rfl)))) pss_nil)
(pss_cons (ps_set (i := 2) sc_worth.nd rfl (Or.inl rfl) (pe_fn G_worth hr rfl (pa_cons (pe_ix ix_tup (pv 0) pe_int (fun _ _ => rfl)) (pa_cons (pv 1) pa_nil))))
(pss_cons (ps_set (i := 3) sc_worth.nd rfl (Or.inl rfl) (pe_fn G_worth hr rfl (pa_cons (pe_ix ix_tup (pv 0) pe_int (fun _ _ => rfl)) (pa_cons (pv 1) pa_nil))))
(pss_cons (ps_if (pt_cmpR op_eq (pe_ix ix_tup (pv 0) pe_int (fun _ _ => rfl)) pe_str (nomark _)) (pss_one (ps_ret (pe_op o_add (pv 2) (pv 3)))) pss_nil)
(pss_cons (ps_if (pt_cmpR op_eq (pe_ix ix_tup (pv 0) pe_int (fun _ _ => rfl)) pe_str (nomark _)) (pss_one (ps_ret (pe_op o_sub (pv 2) (pv 3)))) pss_nil)
(pss_one (ps_ret (pe_op o_mul (pv 2) (pv 3))))))))))
def N_box_bounds : List Str := ["program", "name", "low", "high", "first"]
def P_box_bounds : List Str := ["program"]
theorem sc_box_bounds : FnScope N_box_bounds P_box_bounds (defScope SwH.s_box_bounds) := ⟨rfl, rfl, rfl, by decide +kernel, rfl, by decide +kernel, by decide +kernel⟩
def t_box_bounds (P : Program) (w : World) (K : PySem.W.Frag) : TS :=
(tRet (tLc (iList K (tOp (rIxT K) (tVar 0) (tC (.int 0)))) (gTup K 4 (gCons (gName 1) (gCons (gName 2) (gCons (gName 3) (gCons (gName 4) gNil))))) tYes (tTup (tCons (tVar 2) (tCons (tVar 3) tNil))) [1, 2, 3, 4]))
theorem ok_box_bounds {P : Program} {w : World} {K : PySem.W.Frag} {mg : Str → Option Value} {base : Heap} {f : Addr} {fd : FuncData} {aOne : Addr} (T : Txt K mg aOne) (F : FnP K "box_bounds" "box_bounds" SwH.s_box_bounds f fd) 
    (sp : Sp) (len : ∀ vs H Q E, sp vs H Q E → vs.length = 1) (rd : ∀ vs H Q E, sp vs H Q E → t_box_bounds P w K { nx := fun _ H' => Q .non H', rt := Q } (start N_box_bounds vs) H) : FnOk P w K mg base CX0 1 f fd P_box_bounds sp := by
  refine F.ok sc_box_bounds len (fun cdv A outer s H vs Q E hr h => ⟨t_box_bounds P w K, PSs.nox ?_, rd vs H Q E h⟩)
  have hu : _ + 64 < cLine := hr.units
  have hud : _ + 65 < cLine := units65 hr
  have hu1 : _ + 1 < cLine := hu_of hr
  have huc : _ < cLine := hr.units0
  exact (pss_one (ps_ret (pe_lc (own := [("name", 1), ("low", 2), ("high", 3), ("first", 4)]) (g := (gTup K 4 (gCons (gName 1) (gCons (gName 2) (gCons (gName 3) (gCons (gName 4) gNil)))))) (tt := tYes) rfl sc_box_bounds.nd (pi_list (pe_ix ix_tup (pv 0) pe_int (fun _ _ => rfl))) (blkOk_by (own := [("name", 1), ("low", 2), ("high", 3), ("first", 4)]) (N := N_box_bounds) (sc := defScope SwH.s_box_bounds) (by decide +kernel)) (fun _ _ _ _ _ => (pg_tup rfl (pgs_cons (pg_name (i := 1) sc_box_bounds.nd rfl (Or.inl rfl)) (pgs_cons (pg_name (i := 2) sc_box_bounds.nd rfl (Or.inl rfl)) (pgs_cons (pg_name (i := 3) sc_box_bounds.nd rfl (Or.inl rfl)) (pgs_cons (pg_name (i := 4) sc_box_bounds.nd rfl (Or.inl rfl)) pgs_nil)))))) (fun _ _ _ _ _ => pts_nil) (fun _ _ _ _ _ => (pe_tup (pa_cons (pv 2) (pa_cons (pv 3) pa_nil)))))))
def N_plain_ones : List Str := ["bounds", "found", "a", "low", "high", "n"]
def P_plain_ones : List Str := ["bounds"]
theorem sc_plain_ones : FnScope N_plain_ones P_plain_ones (defScope SwH.s_plain_ones) := ⟨rfl, rfl, rfl, by decide +kernel, rfl, by decide +kernel, by decide +kernel⟩
def t_plain_ones (P : Program) (w : World) (K : PySem.W.Frag) : TS :=
(tSeq (tAsg (tLst tNil) (gName 1))
(tSeq (tFor (iEnum K (tCons (tVar 0) tNil)) (gTup K 2 (gCons (gName 2) (gCons (gTup K 2 (gCons (gName 3) (gCons (gName 4) gNil))) gNil))) (tDrop (tBM K "list" rExtend (tVar 1) (tCons (tLc (iRng2 (tCons (tVar 3) (tCons (tOp rAdd2 (tVar 4) (tC (.int 1))) tNil))) (gName 5) tYes (tTup (tCons (tC (.str "is")) (tCons (tVar 2) (tCons (tVar 5) tNil)))) [5]) tNil))))
(tSeq (tFor (iEnum K (tCons (tVar 0) tNil)) (gTup K 2 (gCons (gName 2) (gCons (gTup K 2 (gCons (gName 3) (gCons (gName 4) gNil))) gNil))) (tDrop (tBM K "list" rExtend (tVar 1) (tCons (tLc (iRng2 (tCons (tOp rAdd2 (tVar 3) (tC (.int 1))) (tCons (tOp rAdd2 (tVar 4) (tC (.int 1))) tNil))) (gName 5) tYes (tTup (tCons (tC (.str "from")) (tCons (tVar 2) (tCons (tVar 5) tNil)))) [5]) tNil))))
(tSeq (tFor (iEnum K (tCons (tVar 0) tNil)) (gTup K 2 (gCons (gName 2) (gCons (gTup K 2 (gCons (gName 3) (gCons (gName 4) gNil))) gNil))) (tDrop (tBM K "list" rExtend (tVar 1) (tCons (tLc (iRng2 (tCons (tVar 3) (tCons (tVar 4) tNil))) (gName 5) tYes (tTup (tCons (tC (.str "to")) (tCons (tVar 2) (tCons (tVar 5) tNil)))) [5]) tNil))))
(tRet (tVar 1))))))
theorem ok_plain_ones {P : Program} {w : World} {K : PySem.W.Frag} {mg : Str → Option Value} {base : Heap} {f : Addr} {fd : FuncData} {aOne : Addr} (T : Txt K mg aOne) (F : FnP K "plain_ones" "plain_ones" SwH.s_plain_ones f fd) 
    (sp : Sp) (len : ∀ vs H Q E, sp vs H Q E → vs.length = 1) (rd : ∀ vs H Q E, sp vs H Q E → t_plain_ones P w K { nx := fun _ H' => Q .non H', rt := Q } (start N_plain_ones vs) H) : FnOk P w K mg base CX0 1 f fd P_plain_ones sp := by
  refine F.ok sc_plain_ones len (fun cdv A outer s H vs Q E hr h => ⟨t_plain_ones P w K, PSs.nox ?_, rd vs H Q E h⟩)
  have hu : _ + 64 < cLine := hr.units
  have hud : _ + 65 < cLine := units65 hr
  have hu1 : _ + 1 < cLine := hu_of hr
  have huc : _ < cLine := hr.units0
  exact (pss_cons (ps_set (i := 1) sc_plain_ones.nd rfl (Or.inl rfl) (pe_lst pa_nil))
(pss_cons (ps_for PassesOwn.never rfl (pi_enum rfl T.enumerate (pa_cons (pv 0) pa_nil)) (pg_tup rfl (pgs_cons (pg_name (i := 2) sc_plain_ones.nd rfl (Or.inr rfl)) (pgs_cons (pg_tup rfl (pgs_cons (pg_name (i := 3) sc_plain_ones.nd rfl (Or.inl rfl)) (pgs_cons (pg_name (i := 4) sc_plain_ones.nd rfl (Or.inl rfl)) pgs_nil))) pgs_nil))) (pss_one (ps_expr (pe_bm PySem.F.plainAttrs_list PySem.F.slot_list_extend PySem.F.type_list_extend mt_extend (pv 1) (pa_cons (pe_lc (own := [("n", 5)]) (g := (gName 5)) (tt := tYes) rfl sc_plain_ones.nd (pi_range2 rfl T.range (pa_cons (pv 3) (pa_cons (pe_op o_add (pv 4) pe_int) pa_nil))) (blkOk_by (own := [("n", 5)]) (N := N_plain_ones) (sc := defScope SwH.s_plain_ones) (by decide +kernel)) (fun _ _ _ _ _ => (pg_name (i := 5) sc_plain_ones.nd rfl (Or.inl rfl))) (fun _ _ _ _ _ => pts_nil) (fun _ _ _ _ _ => (pe_tup (pa_cons pe_str (pa_cons (pv 2) (pa_cons (pv 5) pa_nil)))))) pa_nil)))))
(pss_cons (ps_for PassesOwn.never rfl (pi_enum rfl T.enumerate (pa_cons (pv 0) pa_nil)) (pg_tup rfl (pgs_cons (pg_name (i := 2) sc_plain_ones.nd rfl (Or.inr rfl)) (pgs_cons (pg_tup rfl (pgs_cons (pg_name (i := 3) sc_plain_ones.nd rfl (Or.inl rfl)) (pgs_cons (pg_name (i := 4) sc_plain_ones.nd rfl (Or.inl rfl)) pgs_nil))) pgs_nil))) (pss_one (ps_expr (pe_bm PySem.F.plainAttrs_list PySem.F.slot_list_extend PySem.F.type_list_extend mt_extend (pv 1) (pa_cons (pe_lc (own := [("n", 5)]) (g := (gName 5)) (tt := tYes) rfl sc_plain_ones.nd (pi_range2 rfl T.range (pa_cons (pe_op o_add (pv 3) pe_int) (pa_cons (pe_op o_add (pv 4) pe_int) pa_nil))) (blkOk_by (own := [("n", 5)]) (N := N_plain_ones) (sc := defScope SwH.s_plain_ones) (by decide +kernel)) (fun _ _ _ _ _ => (pg_name (i := 5) sc_plain_ones.nd rfl (Or.inl rfl))) (fun _ _ _ _ _ => pts_nil) (fun _ _ _ _ _ => (pe_tup (pa_cons pe_str (pa_cons (pv 2) (pa_cons (pv 5) pa_nil)))))) pa_nil)))))
(pss_cons (ps_for PassesOwn.never rfl (pi_enum rfl T.enumerate (pa_cons (pv 0) pa_nil)) (pg_tup rfl (pgs_cons (pg_name (i := 2) sc_plain_ones.nd rfl (Or.inr rfl)) (pgs_cons (pg_tup rfl (pgs_cons (pg_name (i := 3) sc_plain_ones.nd rfl (Or.inl rfl)) (pgs_cons (pg_name (i := 4) sc_plain_ones.nd rfl (Or.inl rfl)) pgs_nil))) pgs_nil))) (pss_one (ps_expr (pe_bm PySem.F.plainAttrs_list PySem.F.slot_list_extend PySem.F.type_list_extend mt_extend (pv 1) (pa_cons (pe_lc (own := [("n", 5)]) (g := (gName 5)) (tt := tYes) rfl sc_plain_ones.nd (pi_range2 rfl T.range (pa_cons (pv 3) (pa_cons (pv 4) pa_nil))) (blkOk_by (own := [("n", 5)]) (N := N_plain_ones) (sc := defScope SwH.s_plain_ones) (by decide +kernel)) (fun _ _ _ _ _ => (pg_name (i := 5) sc_plain_ones.nd rfl (Or.inl rfl))) (fun _ _ _ _ _ => pts_nil) (fun _ _ _ _ _ => (pe_tup (pa_cons pe_str (pa_cons (pv 2) (pa_cons (pv 5) pa_nil)))))) pa_nil)))))
(pss_one (ps_ret (pv 1)))))))
def N_looser_ones : List Str := ["bounds", "found", "a", "m", "low", "high", "n", "r", "k"]
def P_looser_ones : List Str := ["bounds"]
theorem sc_looser_ones : FnScope N_looser_ones P_looser_ones (defScope SwH.s_looser_ones) := ⟨rfl, rfl, rfl, by decide +kernel, rfl, by decide +kernel, by decide +kernel⟩
def t_looser_ones (P : Program) (w : World) (K : PySem.W.Frag) : TS :=
(tSeq (tAsg (tLst tNil) (gName 1))
(tSeq (tFor (iRng1 (tCons (tCB (rLen2 K) (tCons (tVar 0) tNil)) tNil)) (gName 2) (tFor (iRng2 (tCons (tC (.int 2)) (tCons (tOp rAdd2 (tC (.int 6)) (tC (.int 1))) tNil))) (gName 3) (tDrop (tBM K "list" rExtend (tVar 1) (tCons (tLc (iRng1 (tCons (tVar 3) tNil)) (gName 7) tYes (tTup (tCons (tC (.str "rest")) (tCons (tVar 2) (tCons (tVar 3) (tCons (tVar 7) tNil))))) [7]) tNil)))))
(tSeq (tFor (iEnum K (tCons (tVar 0) tNil)) (gTup K 2 (gCons (gName 2) (gCons (gTup K 2 (gCons (gName 4) (gCons (gName 5) gNil))) gNil))) (tFor (iRng2 (tCons (tVar 4) (tCons (tOp rAdd2 (tVar 5) (tC (.int 1))) tNil))) (gName 6) (tDrop (tBM K "list" rExtend (tVar 1) (tCons (tLc (iRng2 (tCons (tOp rAdd2 (tVar 6) (tC (.int 1))) (tCons (tOp rAdd2 (tVar 5) (tC (.int 1))) tNil))) (gName 8) tYes (tTup (tCons (tC (.str "either")) (tCons (tVar 2) (tCons (tVar 6) (tCons (tVar 8) tNil))))) [8]) tNil)))))
(tSeq (tFor (iEnum K (tCons (tVar 0) tNil)) (gTup K 2 (gCons (gName 2) (gCons (gTup K 2 (gCons (gName 4) (gCons (gName 5) gNil))) gNil))) (tDrop (tBM K "list" rExtend (tVar 1) (tCons (tLc (iRng2 (tCons (tVar 4) (tCons (tOp rAdd2 (tVar 5) (tC (.int 1))) tNil))) (gName 6) tYes (tTup (tCons (tC (.str "never")) (tCons (tVar 2) (tCons (tVar 6) tNil)))) [6]) tNil))))
(tRet (tVar 1))))))
theorem ok_looser_ones {P : Program} {w : World} {K : PySem.W.Frag} {mg : Str → Option Value} {base : Heap} {f : Addr} {fd : FuncData} {aOne : Addr} (T : Txt K mg aOne) (F : FnP K "looser_ones" "looser_ones" SwH.s_looser_ones f fd) 
    (sp : Sp) (len : ∀ vs H Q E, sp vs H Q E → vs.length = 1) (rd : ∀ vs H Q E, sp vs H Q E → t_looser_ones P w K { nx := fun _ H' => Q .non H', rt := Q } (start N_looser_ones vs) H) : FnOk P w K mg base CX0 1 f fd P_looser_ones sp := by
  refine F.ok sc_looser_ones len (fun cdv A outer s H vs Q E hr h => ⟨t_looser_ones P w K, PSs.nox ?_, rd vs H Q E h⟩)
  have hu : _ + 64 < cLine := hr.units
  have hud : _ + 65 < cLine := units65 hr
  have hu1 : _ + 1 < cLine := hu_of hr
  have huc : _ < cLine := hr.units0
  exact (pss_cons (ps_set (i := 1) sc_looser_ones.nd rfl (Or.inl rfl) (pe_lst pa_nil))
(pss_cons (ps_for PassesOwn.never rfl (pi_range1 rfl T.range (pa_cons (pe_callB c_len rfl T.len bt_len (pa_cons (pv 0) pa_nil)) pa_nil)) (pg_name (i := 2) sc_looser_ones.nd rfl (Or.inr rfl)) (pss_one (ps_for PassesOwn.never rfl (pi_range2 rfl T.range (pa_cons (pe_glob rfl T.cLEAST_DIVISOR.choose_spec ⟨_, rfl⟩) (pa_cons (pe_op o_add (pe_glob rfl T.cGREATEST_DIVISOR.choose_spec ⟨_, rfl⟩) pe_int) pa_nil))) (pg_name (i := 3) sc_looser_ones.nd rfl (Or.inr rfl)) (pss_one (ps_expr (pe_bm PySem.F.plainAttrs_list PySem.F.slot_list_extend PySem.F.type_list_extend mt_extend (pv 1) (pa_cons (pe_lc (own := [("r", 7)]) (g := (gName 7)) (tt := tYes) rfl sc_looser_ones.nd (pi_range1 rfl T.range (pa_cons (pv 3) pa_nil)) (blkOk_by (own := [("r", 7)]) (N := N_looser_ones) (sc := defScope SwH.s_looser_ones) (by decide +kernel)) (fun _ _ _ _ _ => (pg_name (i := 7) sc_looser_ones.nd rfl (Or.inl rfl))) (fun _ _ _ _ _ => pts_nil) (fun _ _ _ _ _ => (pe_tup (pa_cons pe_str (pa_cons (pv 2) (pa_cons (pv 3) (pa_cons (pv 7) pa_nil))))))) pa_nil)))))))
(pss_cons (ps_for PassesOwn.never rfl (pi_enum rfl T.enumerate (pa_cons (pv 0) pa_nil)) (pg_tup rfl (pgs_cons (pg_name (i := 2) sc_looser_ones.nd rfl (Or.inr rfl)) (pgs_cons (pg_tup rfl (pgs_cons (pg_name (i := 4) sc_looser_ones.nd rfl (Or.inl rfl)) (pgs_cons (pg_name (i := 5) sc_looser_ones.nd rfl (Or.inl rfl)) pgs_nil))) pgs_nil))) (pss_one (ps_for PassesOwn.never rfl (pi_range2 rfl T.range (pa_cons (pv 4) (pa_cons (pe_op o_add (pv 5) pe_int) pa_nil))) (pg_name (i := 6) sc_looser_ones.nd rfl (Or.inr rfl)) (pss_one (ps_expr (pe_bm PySem.F.plainAttrs_list PySem.F.slot_list_extend PySem.F.type_list_extend mt_extend (pv 1) (pa_cons (pe_lc (own := [("k", 8)]) (g := (gName 8)) (tt := tYes) rfl sc_looser_ones.nd (pi_range2 rfl T.range (pa_cons (pe_op o_add (pv 6) pe_int) (pa_cons (pe_op o_add (pv 5) pe_int) pa_nil))) (blkOk_by (own := [("k", 8)]) (N := N_looser_ones) (sc := defScope SwH.s_looser_ones) (by decide +kernel)) (fun _ _ _ _ _ => (pg_name (i := 8) sc_looser_ones.nd rfl (Or.inl rfl))) (fun _ _ _ _ _ => pts_nil) (fun _ _ _ _ _ => (pe_tup (pa_cons pe_str (pa_cons (pv 2) (pa_cons (pv 6) (pa_cons (pv 8) pa_nil))))))) pa_nil)))))))
(pss_cons (ps_for PassesOwn.never rfl (pi_enum rfl T.enumerate (pa_cons (pv 0) pa_nil)) (pg_tup rfl (pgs_cons (pg_name (i := 2) sc_looser_ones.nd rfl (Or.inr rfl)) (pgs_cons (pg_tup rfl (pgs_cons (pg_name (i := 4) sc_looser_ones.nd rfl (Or.inl rfl)) (pgs_cons (pg_name (i := 5) sc_looser_ones.nd rfl (Or.inl rfl)) pgs_nil))) pgs_nil))) (pss_one (ps_expr (pe_bm PySem.F.plainAttrs_list PySem.F.slot_list_extend PySem.F.type_list_extend mt_extend (pv 1) (pa_cons (pe_lc (own := [("n", 6)]) (g := (gName 6)) (tt := tYes) rfl sc_looser_ones.nd (pi_range2 rfl T.range (pa_cons (pv 4) (pa_cons (pe_op o_add (pv 5) pe_int) pa_nil))) (blkOk_by (own := [("n", 6)]) (N := N_looser_ones) (sc := defScope SwH.s_looser_ones) (by decide +kernel)) (fun _ _ _ _ _ => (pg_name (i := 6) sc_looser_ones.nd rfl (Or.inl rfl))) (fun _ _ _ _ _ => pts_nil) (fun _ _ _ _ _ => (pe_tup (pa_cons pe_str (pa_cons (pv 2) (pa_cons (pv 6) pa_nil)))))) pa_nil)))))
(pss_one (ps_ret (pv 1)))))))
def N_pairs_going_up : List Str := ["many", "found", "a", "b"]
def P_pairs_going_up : List Str := ["many"]
theorem sc_pairs_going_up : FnScope N_pairs_going_up P_pairs_going_up (defScope SwH.s_pairs_going_up) := ⟨rfl, rfl, rfl, by decide +kernel, rfl, by decide +kernel, by decide +kernel⟩
def t_pairs_going_up (P : Program) (w : World) (K : PySem.W.Frag) : TS :=
(tSeq (tAsg (tLst tNil) (gName 1))
(tSeq (tFor (iRng1 (tCons (tVar 0) tNil)) (gName 2) (tDrop (tBM K "list" rExtend (tVar 1) (tCons (tLc (iRng2 (tCons (tOp rAdd2 (tVar 2) (tC (.int 1))) (tCons (tVar 0) tNil))) (gName 3) tYes (tTup (tCons (tVar 2) (tCons (tVar 3) tNil))) [3]) tNil))))
(tRet (tVar 1))))
theorem ok_pairs_going_up {P : Program} {w : World} {K : PySem.W.Frag} {mg : Str → Option Value} {base : Heap} {f : Addr} {fd : FuncData} {aOne : Addr} (T : Txt K mg aOne) (F : FnP K "pairs_going_up" "pairs_going_up" SwH.s_pairs_going_up f fd) 
    (sp : Sp) (len : ∀ vs H Q E, sp vs H Q E → vs.length = 1) (rd : ∀ vs H Q E, sp vs H Q E → t_pairs_going_up P w K { nx := fun _ H' => Q .non H', rt := Q } (start N_pairs_going_up vs) H) : FnOk P w K mg base CX0 1 f fd P_pairs_going_up sp := by
  refine F.ok sc_pairs_going_up len (fun cdv A outer s H vs Q E hr h => ⟨t_pairs_going_up P w K, PSs.nox ?_, rd vs H Q E h⟩)
  have hu : _ + 64 < cLine := hr.units
  have hud : _ + 65 < cLine := units65 hr
  have hu1 : _ + 1 < cLine := hu_of hr
  have huc : _ < cLine := hr.units0
  exact (pss_cons (ps_set (i := 1) sc_pairs_going_up.nd rfl (Or.inl rfl) (pe_lst pa_nil))
(pss_cons (ps_for PassesOwn.never rfl (pi_range1 rfl T.range (pa_cons (pv 0) pa_nil)) (pg_name (i := 2) sc_pairs_going_up.nd rfl (Or.inr rfl)) (pss_one (ps_expr (pe_bm PySem.F.plainAttrs_list PySem.F.slot_list_extend PySem.F.type_list_extend mt_extend (pv 1) (pa_cons (pe_lc (own := [("b", 3)]) (g := (gName 3)) (tt := tYes) rfl sc_pairs_going_up.nd (pi_range2 rfl T.range (pa_cons (pe_op o_add (pv 2) pe_int) (pa_cons (pv 0) pa_nil))) (blkOk_by (own := [("b", 3)]) (N := N_pairs_going_up) (sc := defScope SwH.s_pairs_going_up) (by decide +kernel)) (fun _ _ _ _ _ => (pg_name (i := 3) sc_pairs_going_up.nd rfl (Or.inl rfl))) (fun _ _ _ _ _ => pts_nil) (fun _ _ _ _ _ => (pe_tup (pa_cons (pv 2) (pa_cons (pv 3) pa_nil))))) pa_nil)))))
(pss_one (ps_ret (pv 1)))))
def N_pairs_unlike : List Str := ["many", "found", "a", "b"]
def P_pairs_unlike : List Str := ["many"]
theorem sc_pairs_unlike : FnScope N_pairs_unlike P_pairs_unlike (defScope SwH.s_pairs_unlike) := ⟨rfl, rfl, rfl, by decide +kernel, rfl, by decide +kernel, by decide +kernel⟩
def t_pairs_unlike (P : Program) (w : World) (K : PySem.W.Frag) : TS :=
(tSeq (tAsg (tLst tNil) (gName 1))
(tSeq (tFor (iRng1 (tCons (tVar 0) tNil)) (gName 2) (tDrop (tBM K "list" rExtend (tVar 1) (tCons (tLc (iRng1 (tCons (tVar 0) tNil)) (gName 3) (tTest (tOp rNe (tVar 3) (tVar 2))) (tTup (tCons (tVar 2) (tCons (tVar 3) tNil))) [3]) tNil))))
(tRet (tVar 1))))
theorem ok_pairs_unlike {P : Program} {w : World} {K : PySem.W.Frag} {mg : Str → Option Value} {base : Heap} {f : Addr} {fd : FuncData} {aOne : Addr} (T : Txt K mg aOne) (F : FnP K "pairs_unlike" "pairs_unlike" SwH.s_pairs_unlike f fd) 
    (sp : Sp) (len : ∀ vs H Q E, sp vs H Q E → vs.length = 1) (rd : ∀ vs H Q E, sp vs H Q E → t_pairs_unlike P w K { nx := fun _ H' => Q .non H', rt := Q } (start N_pairs_unlike vs) H) : FnOk P w K mg base CX0 1 f fd P_pairs_unlike sp := by
  refine F.ok sc_pairs_unlike len (fun cdv A outer s H vs Q E hr h => ⟨t_pairs_unlike P w K, PSs.nox ?_, rd vs H Q E h⟩)
  have hu : _ + 64 < cLine := hr.units
  have hud : _ + 65 < cLine := units65 hr
  have hu1 : _ + 1 < cLine := hu_of hr
  have huc : _ < cLine := hr.units0
  exact (pss_cons (ps_set (i := 1) sc_pairs_unlike.nd rfl (Or.inl rfl) (pe_lst pa_nil))
(pss_cons (ps_for PassesOwn.never rfl (pi_range1 rfl T.range (pa_cons (pv 0) pa_nil)) (pg_name (i := 2) sc_pairs_unlike.nd rfl (Or.inr rfl)) (pss_one (ps_expr (pe_bm PySem.F.plainAttrs_list PySem.F.slot_list_extend PySem.F.type_list_extend mt_extend (pv 1) (pa_cons (pe_lc (own := [("b", 3)]) (g := (gName 3)) (tt := (tTest (tOp rNe (tVar 3) (tVar 2)))) rfl sc_pairs_unlike.nd (pi_range1 rfl T.range (pa_cons (pv 0) pa_nil)) (blkOk_by (own := [("b", 3)]) (N := N_pairs_unlike) (sc := defScope SwH.s_pairs_unlike) (by decide +kernel)) (fun _ _ _ _ _ => (pg_name (i := 3) sc_pairs_unlike.nd rfl (Or.inl rfl))) (fun _ _ _ _ _ => pts_one (pt_cmpR op_ne (pv 3) (pv 2) (nomark _))) (fun _ _ _ _ _ => (pe_tup (pa_cons (pv 2) (pa_cons (pv 3) pa_nil))))) pa_nil)))))
(pss_one (ps_ret (pv 1)))))
def N_joined_ones : List Str := ["many", "rising", "found", "form", "a", "b", "n", "c"]
def P_joined_ones : List Str := ["many"]
theorem sc_joined_ones : FnScope N_joined_ones P_joined_ones (defScope SwH.s_joined_ones) := ⟨rfl, rfl, rfl, by decide +kernel, rfl, by decide +kernel, by decide +kernel⟩
def t_joined_ones (P : Program) (w : World) (K : PySem.W.Frag) (s_pairs_going_up s_pairs_unlike : Sp) : TS :=
(tSeq (tAsg (tCall s_pairs_going_up [] E0 (tCons (tVar 0) tNil)) (gName 1))
(tSeq (tAsg (tLc (iList K (tVar 1)) (gTup K 2 (gCons (gName 4) (gCons (gName 5) gNil))) tYes (tTup (tCons (tC (.str "same")) (tCons (tVar 4) (tCons (tVar 5) tNil)))) [4, 5]) (gName 2))
(tSeq (tFor (iList K (tLst (tCons (tC (.str "below")) (tCons (tC (.str "most")) tNil)))) (gName 3) (tDrop (tBM K "list" rExtend (tVar 2) (tCons (tLc (iList K (tCall s_pairs_unlike [] E0 (tCons (tVar 0) tNil))) (gTup K 2 (gCons (gName 4) (gCons (gName 5) gNil))) tYes (tTup (tCons (tVar 3) (tCons (tVar 4) (tCons (tVar 5) tNil)))) [4, 5]) tNil))))
(tSeq (tFor (iList K (tVar 1)) (gTup K 2 (gCons (gName 4) (gCons (gName 5) gNil))) (tDrop (tBM K "list" rExtend (tVar 2) (tCons (tLc (iRng2 (tCons (tOp rSub2 (tC (.int 0)) (tC (.int 20))) (tCons (tOp rAdd2 (tC (.int 20)) (tC (.int 1))) tNil))) (gName 6) (tTest (tOp rNe (tVar 6) (tC (.int 0)))) (tTup (tCons (tC (.str "gap")) (tCons (tVar 4) (tCons (tVar 5) (tCons (tVar 6) tNil))))) [6]) tNil))))
(tSeq (tFor (iList K (tVar 1)) (gTup K 2 (gCons (gName 4) (gCons (gName 5) gNil))) (tDrop (tBM K "list" rExtend (tVar 2) (tCons (tLc (iRng2 (tCons (tOp rSub2 (tC (.int 0)) (tC (.int 40))) (tCons (tOp rAdd2 (tC (.int 40)) (tC (.int 1))) tNil))) (gName 6) tYes (tTup (tCons (tC (.str "sum")) (tCons (tVar 4) (tCons (tVar 5) (tCons (tVar 6) tNil))))) [6]) tNil))))
(tSeq (tFor (iList K (tLst (tCons (tC (.str "adds")) (tCons (tC (.str "times")) tNil)))) (gName 3) (tFor (iList K (tVar 1)) (gTup K 2 (gCons (gName 4) (gCons (gName 5) gNil))) (tDrop (tBM K "list" rExtend (tVar 2) (tCons (tLc (iRng1 (tCons (tVar 0) tNil)) (gName 7) (tAnd (tTest (tOp rNe (tVar 7) (tVar 4))) (tTest (tOp rNe (tVar 7) (tVar 5)))) (tTup (tCons (tVar 3) (tCons (tVar 4) (tCons (tVar 5) (tCons (tVar 7) tNil))))) [7]) tNil)))))
(tRet (tVar 2))))))))
theorem ok_joined_ones {P : Program} {w : World} {K : PySem.W.Frag} {mg : Str → Option Value} {base : Heap} {f : Addr} {fd : FuncData} {s_pairs_going_up s_pairs_unlike : Sp} {aOne : Addr} (T : Txt K mg aOne) (F : FnP K "joined_ones" "joined_ones" SwH.s_joined_ones f fd) (G_pairs_going_up : GF P w K mg base "pairs_going_up" 1 P_pairs_going_up s_pairs_going_up) (G_pairs_unlike : GF P w K mg base "pairs_unlike" 1 P_pairs_unlike s_pairs_unlike)
    (sp : Sp) (len : ∀ vs H Q E, sp vs H Q E → vs.length = 1) (rd : ∀ vs H Q E, sp vs H Q E → t_joined_ones P w K s_pairs_going_up s_pairs_unlike { nx := fun _ H' => Q .non H', rt := Q } (start N_joined_ones vs) H) : FnOk P w K mg base CX0 2 f fd P_joined_ones sp := by
  refine F.ok sc_joined_ones len (fun cdv A outer s H vs Q E hr h => ⟨t_joined_ones P w K s_pairs_going_up s_pairs_unlike, PSs.nox ?_, rd vs H Q E h⟩)
  have hu : _ + 64 < cLine := hr.units
  have hud : _ + 65 < cLine := units65 hr
  have hu1 : _ + 1 < cLine := hu_of hr
  have huc : _ < cLine := hr.units0
  exact (pss_cons (ps_set (i := 1) sc_joined_ones.nd rfl (Or.inl rfl) (pe_fn G_pairs_going_up hr rfl (pa_cons (pv 0) pa_nil)))
(pss_cons (ps_setLc (i := 2) (own := [("a", 4), ("b", 5)]) (g := (gTup K 2 (gCons (gName 4) (gCons (gName 5) gNil)))) (tt := tYes) rfl sc_joined_ones.nd rfl rfl (sw_true rfl rfl rfl (by decide +kernel)) (pi_list (pv 1)) (blkOk_by (own := [("a", 4), ("b", 5)]) (N := N_joined_ones) (sc := defScope SwH.s_joined_ones) (by decide +kernel)) (fun _ _ _ _ _ => (pg_tup rfl (pgs_cons (pg_name (i := 4) sc_joined_ones.nd rfl (Or.inl rfl)) (pgs_cons (pg_name (i := 5) sc_joined_ones.nd rfl (Or.inl rfl)) pgs_nil)))) (fun _ _ _ _ _ => pts_nil) (fun _ _ _ _ _ => (pe_tup (pa_cons pe_str (pa_cons (pv 4) (pa_cons (pv 5) pa_nil))))))
(pss_cons (ps_for PassesOwn.never rfl (pi_list (pe_lst (pa_cons pe_str (pa_cons pe_str pa_nil)))) (pg_name (i := 3) sc_joined_ones.nd rfl (Or.inr rfl)) (pss_one (ps_expr (pe_bm PySem.F.plainAttrs_list PySem.F.slot_list_extend PySem.F.type_list_extend mt_extend (pv 2) (pa_cons (pe_lc (own := [("a", 4), ("b", 5)]) (g := (gTup K 2 (gCons (gName 4) (gCons (gName 5) gNil)))) (tt := tYes) rfl sc_joined_ones.nd (pi_list (pe_fn G_pairs_unlike hr rfl (pa_cons (pv 0) pa_nil))) (blkOk_by (own := [("a", 4), ("b", 5)]) (N := N_joined_ones) (sc := defScope SwH.s_joined_ones) (by decide +kernel)) (fun _ _ _ _ _ => (pg_tup rfl (pgs_cons (pg_name (i := 4) sc_joined_ones.nd rfl (Or.inl rfl)) (pgs_cons (pg_name (i := 5) sc_joined_ones.nd rfl (Or.inl rfl)) pgs_nil)))) (fun _ _ _ _ _ => pts_nil) (fun _ _ _ _ _ => (pe_tup (pa_cons (pv 3) (pa_cons (pv 4) (pa_cons (pv 5) pa_nil)))))) pa_nil)))))
(pss_cons (ps_for PassesOwn.never rfl (pi_list (pv 1)) (pg_tup rfl (pgs_cons (pg_name (i := 4) sc_joined_ones.nd rfl (Or.inr rfl)) (pgs_cons (pg_name (i := 5) sc_joined_ones.nd rfl (Or.inr rfl)) pgs_nil))) (pss_one (ps_expr (pe_bm PySem.F.plainAttrs_list PySem.F.slot_list_extend PySem.F.type_list_extend mt_extend (pv 2) (pa_cons (pe_lc (own := [("n", 6)]) (g := (gName 6)) (tt := (tTest (tOp rNe (tVar 6) (tC (.int 0))))) rfl sc_joined_ones.nd (pi_range2 rfl T.range (pa_cons (pe_op o_sub pe_int (pe_glob rfl T.cWIDEST_GAP.choose_spec ⟨_, rfl⟩)) (pa_cons (pe_op o_add (pe_glob rfl T.cWIDEST_GAP.choose_spec ⟨_, rfl⟩) pe_int) pa_nil))) (blkOk_by (own := [("n", 6)]) (N := N_joined_ones) (sc := defScope SwH.s_joined_ones) (by decide +kernel)) (fun _ _ _ _ _ => (pg_name (i := 6) sc_joined_ones.nd rfl (Or.inl rfl))) (fun _ _ _ _ _ => pts_one (pt_cmpR op_ne (pv 6) pe_int (nomark _))) (fun _ _ _ _ _ => (pe_tup (pa_cons pe_str (pa_cons (pv 4) (pa_cons (pv 5) (pa_cons (pv 6) pa_nil))))))) pa_nil)))))
(pss_cons (ps_for PassesOwn.never rfl (pi_list (pv 1)) (pg_tup rfl (pgs_cons (pg_name (i := 4) sc_joined_ones.nd rfl (Or.inr rfl)) (pgs_cons (pg_name (i := 5) sc_joined_ones.nd rfl (Or.inr rfl)) pgs_nil))) (pss_one (ps_expr (pe_bm PySem.F.plainAttrs_list PySem.F.slot_list_extend PySem.F.type_list_extend mt_extend (pv 2) (pa_cons (pe_lc (own := [("n", 6)]) (g := (gName 6)) (tt := tYes) rfl sc_joined_ones.nd (pi_range2 rfl T.range (pa_cons (pe_op o_sub pe_int (pe_glob rfl T.cWIDEST_SUM.choose_spec ⟨_, rfl⟩)) (pa_cons (pe_op o_add (pe_glob rfl T.cWIDEST_SUM.choose_spec ⟨_, rfl⟩) pe_int) pa_nil))) (blkOk_by (own := [("n", 6)]) (N := N_joined_ones) (sc := defScope SwH.s_joined_ones) (by decide +kernel)) (fun _ _ _ _ _ => (pg_name (i := 6) sc_joined_ones.nd rfl (Or.inl rfl))) (fun _ _ _ _ _ => pts_nil) (fun _ _ _ _ _ => (pe_tup (pa_cons pe_str (pa_cons (pv 4) (pa_cons (pv 5) (pa_cons (pv 6) pa_nil))))))) pa_nil)))))
(pss_cons (ps_for PassesOwn.never rfl (pi_list (pe_lst (pa_cons pe_str (pa_cons pe_str pa_nil)))) (pg_name (i := 3) sc_joined_ones.nd rfl (Or.inr rfl)) (pss_one (ps_for PassesOwn.never rfl (pi_list (pv 1)) (pg_tup rfl (pgs_cons (pg_name (i := 4) sc_joined_ones.nd rfl (Or.inr rfl)) (pgs_cons (pg_name (i := 5) sc_joined_ones.nd rfl (Or.inr rfl)) pgs_nil))) (pss_one (ps_expr (pe_bm PySem.F.plainAttrs_list PySem.F.slot_list_extend PySem.F.type_list_extend mt_extend (pv 2) (pa_cons (pe_lc (own := [("c", 7)]) (g := (gName 7)) (tt := (tAnd (tTest (tOp rNe (tVar 7) (tVar 4))) (tTest (tOp rNe (tVar 7) (tVar 5))))) rfl sc_joined_ones.nd (pi_range1 rfl T.range (pa_cons (pv 0) pa_nil)) (blkOk_by (own := [("c", 7)]) (N := N_joined_ones) (sc := defScope SwH.s_joined_ones) (by decide +kernel)) (fun _ _ _ _ _ => (pg_name (i := 7) sc_joined_ones.nd rfl (Or.inl rfl))) (fun _ _ _ _ _ => pts_one (PW.pt (pw_and (pt_cmpR op_ne (pv 7) (pv 4) (nomark _)) (pw_and1 (pt_cmpR op_ne (pv 7) (pv 5) (nomark _)))))) (fun _ _ _ _ _ => (pe_tup (pa_cons (pv 3) (pa_cons (pv 4) (pa_cons (pv 5) (pa_cons (pv 7) pa_nil))))))) pa_nil)))))))
(pss_one (ps_ret (pv 2)))))))))
def N_sayings : List Str := ["program", "bounds"]
def P_sayings : List Str := ["program"]
theorem sc_sayings : FnScope N_sayings P_sayings (defScope SwH.s_sayings) := ⟨rfl, rfl, rfl, by decide +kernel, rfl, by decide +kernel, by decide +kernel⟩
def t_sayings (P : Program) (w : World) (K : PySem.W.Frag) (s_box_bounds s_plain_ones s_looser_ones s_joined_ones : Sp) : TS :=
(tSeq (tAsg (tCall s_box_bounds [] E0 (tCons (tVar 0) tNil)) (gName 1))
(tRet (tOp rCat (tOp rCat (tCall s_plain_ones [] E0 (tCons (tVar 1) tNil)) (tCall s_looser_ones [] E0 (tCons (tVar 1) tNil))) (tCall s_joined_ones [] E0 (tCons (tCB (rLen2 K) (tCons (tVar 1) tNil)) tNil)))))
theorem ok_sayings {P : Program} {w : World} {K : PySem.W.Frag} {mg : Str → Option Value} {base : Heap} {f : Addr} {fd : FuncData} {s_box_bounds s_plain_ones s_looser_ones s_joined_ones : Sp} {aOne : Addr} (T : Txt K mg aOne) (F : FnP K "sayings" "sayings" SwH.s_sayings f fd) (G_box_bounds : GF P w K mg base "box_bounds" 1 P_box_bounds s_box_bounds) (G_plain_ones : GF P w K mg base "plain_ones" 1 P_plain_ones s_plain_ones) (G_looser_ones : GF P w K mg base "looser_ones" 1 P_looser_ones s_looser_ones) (G_joined_ones : GF P w K mg base "joined_ones" 2 P_joined_ones s_joined_ones)
    (sp : Sp) (len : ∀ vs H Q E, sp vs H Q E → vs.length = 1) (rd : ∀ vs H Q E, sp vs H Q E → t_sayings P w K s_box_bounds s_plain_ones s_looser_ones s_joined_ones { nx := fun _ H' => Q .non H', rt := Q } (start N_sayings vs) H) : FnOk P w K mg base CX0 3 f fd P_sayings sp := by
  refine F.ok sc_sayings len (fun cdv A outer s H vs Q E hr h => ⟨t_sayings P w K s_box_bounds s_plain_ones s_looser_ones s_joined_ones, PSs.nox ?_, rd vs H Q E h⟩)
  have hu : _ + 64 < cLine := hr.units
  have hud : _ + 65 < cLine := units65 hr
  have hu1 : _ + 1 < cLine := hu_of hr
  have huc : _ < cLine := hr.units0
  exact (pss_cons (ps_set (i := 1) sc_sayings.nd rfl (Or.inl rfl) (pe_fn G_box_bounds (hr.mono (by decide)) rfl (pa_cons (pv 0) pa_nil)))
(pss_one (ps_ret (pe_op op_cat (pe_op op_cat (pe_fn G_plain_ones (hr.mono (by decide)) rfl (pa_cons (pv 1) pa_nil)) (pe_fn G_looser_ones (hr.mono (by decide)) rfl (pa_cons (pv 1) pa_nil))) (pe_fn G_joined_ones hr rfl (pa_cons (pe_callB c_len rfl T.len bt_len (pa_cons (pv 1) pa_nil)) pa_nil))))))
def N_so_of_one : List Str := ["saying", "one", "form"]
def P_so_of_one : List Str := ["saying", "one"]
theorem sc_so_of_one : FnScope N_so_of_one P_so_of_one (defScope SwH.s_so_of_one) := ⟨rfl, rfl, rfl, by decide +kernel, rfl, by decide +kernel, by decide +kernel⟩
def t_so_of_one (P : Program) (w : World) (K : PySem.W.Frag) : TS :=
(tSeq (tAsg (tOp (rIxT K) (tVar 0) (tC (.int 0))) (gName 2))
(tSeq (tIfS (tTest (tOp rEq (tVar 2) (tC (.str "is")))) (tRet (tOp rEq (tVar 1) (tOp (rIxT K) (tVar 0) (tC (.int 2))))) tNext)
(tSeq (tIfS (tTest (tOp rEq (tVar 2) (tC (.str "from")))) (tRet (tOp rGtE2 (tVar 1) (tOp (rIxT K) (tVar 0) (tC (.int 2))))) tNext)
(tSeq (tIfS (tTest (tOp rEq (tVar 2) (tC (.str "to")))) (tRet (tOp rLtE2 (tVar 1) (tOp (rIxT K) (tVar 0) (tC (.int 2))))) tNext)
(tSeq (tIfS (tTest (tOp rEq (tVar 2) (tC (.str "rest")))) (tRet (tOp rEq (tOp rMd2 (tVar 1) (tOp (rIxT K) (tVar 0) (tC (.int 2)))) (tOp (rIxT K) (tVar 0) (tC (.int 3))))) tNext)
(tSeq (tIfS (tTest (tOp rEq (tVar 2) (tC (.str "either")))) (tRet (tOrV (tOp rEq (tVar 1) (tOp (rIxT K) (tVar 0) (tC (.int 2)))) (tOp rEq (tVar 1) (tOp (rIxT K) (tVar 0) (tC (.int 3)))))) tNext)
(tRet (tOp rNe (tVar 1) (tOp (rIxT K) (tVar 0) (tC (.int 2)))))))))))
theorem ok_so_of_one {P : Program} {w : World} {K : PySem.W.Frag} {mg : Str → Option Value} {base : Heap} {f : Addr} {fd : FuncData} {aOne : Addr} (T : Txt K mg aOne) (F : FnP K "so_of_one" "so_of_one" SwH.s_so_of_one f fd) 
    (sp : Sp) (len : ∀ vs H Q E, sp vs H Q E → vs.length = 2) (rd : ∀ vs H Q E, sp vs H Q E → t_so_of_one P w K { nx := fun _ H' => Q .non H', rt := Q } (start N_so_of_one vs) H) : FnOk P w K mg base CX0 1 f fd P_so_of_one sp := by
  refine F.ok sc_so_of_one len (fun cdv A outer s H vs Q E hr h => ⟨t_so_of_one P w K, PSs.nox ?_, rd vs H Q E h⟩)
  have hu : _ + 64 < cLine := hr.units
  have hud : _ + 65 < cLine := units65 hr
  have hu1 : _ + 1 < cLine := hu_of hr
  have huc : _ < cLine := hr.units0
  exact (pss_cons (ps_set (i := 2) sc_so_of_one.nd rfl (Or.inl rfl) (pe_ix ix_tup (pv 0) pe_int (fun _ _ => rfl)))
(pss_cons (ps_if (pt_cmpR op_eq (pv 2) pe_str (nomark _)) (pss_one (ps_ret (pe_cmpR op_eq (pv 1) (pe_ix ix_tup (pv 0) pe_int (fun _ _ => rfl)) (nomark _)))) pss_nil)
(pss_cons (ps_if (pt_cmpR op_eq (pv 2) pe_str (nomark _)) (pss_one (ps_ret (pe_cmpR o_gte (pv 1) (pe_ix ix_tup (pv 0) pe_int (fun _ _ => rfl)) (nomark _)))) pss_nil)
(pss_cons (ps_if (pt_cmpR op_eq (pv 2) pe_str (nomark _)) (pss_one (ps_ret (pe_cmpR o_lte (pv 1) (pe_ix ix_tup (pv 0) pe_int (fun _ _ => rfl)) (nomark _)))) pss_nil)
(pss_cons (ps_if (pt_cmpR op_eq (pv 2) pe_str (nomark _)) (pss_one (ps_ret (pe_cmpR op_eq (pe_op o_md (pv 1) (pe_ix ix_tup (pv 0) pe_int (fun _ _ => rfl))) (pe_ix ix_tup (pv 0) pe_int (fun _ _ => rfl)) (nomark _)))) pss_nil)
(pss_cons (ps_if (pt_cmpR op_eq (pv 2) pe_str (nomark _)) (pss_one (ps_ret (pe_or (pe_cmpR op_eq (pv 1) (pe_ix ix_tup (pv 0) pe_int (fun _ _ => rfl)) (nomark _)) (pe_one (pe_cmpR op_eq (pv 1) (pe_ix ix_tup (pv 0) pe_int (fun _ _ => rfl)) (nomark _)))))) pss_nil)
(pss_one (ps_ret (pe_cmpR op_ne (pv 1) (pe_ix ix_tup (pv 0) pe_int (fun _ _ => rfl)) (nomark _))))))))))
def N_so_of_more : List Str := ["saying", "one", "values", "form", "other"]
def P_so_of_more : List Str := ["saying", "one", "values"]
theorem sc_so_of_more : FnScope N_so_of_more P_so_of_more (defScope SwH.s_so_of_more) := ⟨rfl, rfl, rfl, by decide +kernel, rfl, by decide +kernel, by decide +kernel⟩
def t_so_of_more (P : Program) (w : World) (K : PySem.W.Frag) : TS :=
(tSeq (tAsg (tOp (rIxT K) (tVar 0) (tC (.int 0))) (gName 3))
(tSeq (tAsg (tOp (rIxT K) (tVar 2) (tOp (rIxT K) (tVar 0) (tC (.int 2)))) (gName 4))
(tSeq (tIfS (tTest (tOp rEq (tVar 3) (tC (.str "same")))) (tRet (tOp rEq (tVar 1) (tVar 4))) tNext)
(tSeq (tIfS (tTest (tOp rEq (tVar 3) (tC (.str "below")))) (tRet (tOp rLt2 (tVar 1) (tVar 4))) tNext)
(tSeq (tIfS (tTest (tOp rEq (tVar 3) (tC (.str "most")))) (tRet (tOp rLtE2 (tVar 1) (tVar 4))) tNext)
(tSeq (tIfS (tTest (tOp rEq (tVar 3) (tC (.str "gap")))) (tRet (tOp rEq (tOp rSub2 (tVar 1) (tVar 4)) (tOp (rIxT K) (tVar 0) (tC (.int 3))))) tNext)
(tSeq (tIfS (tTest (tOp rEq (tVar 3) (tC (.str "sum")))) (tRet (tOp rEq (tOp rAdd2 (tVar 1) (tVar 4)) (tOp (rIxT K) (tVar 0) (tC (.int 3))))) tNext)
(tSeq (tIfS (tTest (tOp rEq (tVar 3) (tC (.str "adds")))) (tRet (tOp rEq (tOp rAdd2 (tVar 1) (tVar 4)) (tOp (rIxT K) (tVar 2) (tOp (rIxT K) (tVar 0) (tC (.int 3)))))) tNext)
(tRet (tOp rEq (tOp rMul2 (tVar 1) (tVar 4)) (tOp (rIxT K) (tVar 2) (tOp (rIxT K) (tVar 0) (tC (.int 3))))))))))))))
theorem ok_so_of_more {P : Program} {w : World} {K : PySem.W.Frag} {mg : Str → Option Value} {base : Heap} {f : Addr} {fd : FuncData} {aOne : Addr} (T : Txt K mg aOne) (F : FnP K "so_of_more" "so_of_more" SwH.s_so_of_more f fd) 
    (sp : Sp) (len : ∀ vs H Q E, sp vs H Q E → vs.length = 3) (rd : ∀ vs H Q E, sp vs H Q E → t_so_of_more P w K { nx := fun _ H' => Q .non H', rt := Q } (start N_so_of_more vs) H) : FnOk P w K mg base CX0 1 f fd P_so_of_more sp := by
  refine F.ok sc_so_of_more len (fun cdv A outer s H vs Q E hr h => ⟨t_so_of_more P w K, PSs.nox ?_, rd vs H Q E h⟩)
  have hu : _ + 64 < cLine := hr.units
  have hud : _ + 65 < cLine := units65 hr
  have hu1 : _ + 1 < cLine := hu_of hr
  have huc : _ < cLine := hr.units0
  exact (pss_cons (ps_set (i := 3) sc_so_of_more.nd rfl (Or.inl rfl) (pe_ix ix_tup (pv 0) pe_int (fun _ _ => rfl)))
(pss_cons (ps_set (i := 4) sc_so_of_more.nd rfl (Or.inl rfl) (pe_ix ix_tup (pv 2) (pe_ix ix_tup (pv 0) pe_int (fun _ _ => rfl)) (fun _ _ => rfl)))
(pss_cons (ps_if (pt_cmpR op_eq (pv 3) pe_str (nomark _)) (pss_one (ps_ret (pe_cmpR op_eq (pv 1) (pv 4) (nomark _)))) pss_nil)
(pss_cons (ps_if (pt_cmpR op_eq (pv 3) pe_str (nomark _)) (pss_one (ps_ret (pe_cmpR o_lt (pv 1) (pv 4) (nomark _)))) pss_nil)
(pss_cons (ps_if (pt_cmpR op_eq (pv 3) pe_str (nomark _)) (pss_one (ps_ret (pe_cmpR o_lte (pv 1) (pv 4) (nomark _)))) pss_nil)
(pss_cons (ps_if (pt_cmpR op_eq (pv 3) pe_str (nomark _)) (pss_one (ps_ret (pe_cmpR op_eq (pe_op o_sub (pv 1) (pv 4)) (pe_ix ix_tup (pv 0) pe_int (fun _ _ => rfl)) (nomark _)))) pss_nil)
(pss_cons (ps_if (pt_cmpR op_eq (pv 3) pe_str (nomark _)) (pss_one (ps_ret (pe_cmpR op_eq (pe_op o_add (pv 1) (pv 4)) (pe_ix ix_tup (pv 0) pe_int (fun _ _ => rfl)) (nomark _)))) pss_nil)
(pss_cons (ps_if (pt_cmpR op_eq (pv 3) pe_str (nomark _)) (pss_one (ps_ret (pe_cmpR op_eq (pe_op o_add (pv 1) (pv 4)) (pe_ix ix_tup (pv 2) (pe_ix ix_tup (pv 0) pe_int (fun _ _ => rfl)) (fun _ _ => rfl)) (nomark _)))) pss_nil)
(pss_one (ps_ret (pe_cmpR op_eq (pe_op o_mul (pv 1) (pv 4)) (pe_ix ix_tup (pv 2) (pe_ix ix_tup (pv 0) pe_int (fun _ _ => rfl)) (fun _ _ => rfl)) (nomark _))))))))))))
def N_is_so : List Str := ["saying", "values", "one"]
def P_is_so : List Str := ["saying", "values"]
theorem sc_is_so : FnScope N_is_so P_is_so (defScope SwH.s_is_so) := ⟨rfl, rfl, rfl, by decide +kernel, rfl, by decide +kernel, by decide +kernel⟩
def t_is_so (P : Program) (w : World) (K : PySem.W.Frag) (aOne : Addr) (s_so_of_one s_so_of_more : Sp) : TS :=
(tSeq (tAsg (tOp (rIxT K) (tVar 1) (tOp (rIxT K) (tVar 0) (tC (.int 1)))) (gName 2))
(tSeq (tIfS (tTest (tOp (rIn K false) (tOp (rIxT K) (tVar 0) (tC (.int 0))) (tC (.ref aOne)))) (tRet (tCall s_so_of_one [] E0 (tCons (tVar 0) (tCons (tVar 2) tNil)))) tNext)
(tRet (tCall s_so_of_more [] E0 (tCons (tVar 0) (tCons (tVar 2) (tCons (tVar 1) tNil)))))))
theorem ok_is_so {P : Program} {w : World} {K : PySem.W.Frag} {mg : Str → Option Value} {base : Heap} {f : Addr} {fd : FuncData} {s_so_of_one s_so_of_more : Sp} {aOne : Addr} (T : Txt K mg aOne) (F : FnP K "is_so" "is_so" SwH.s_is_so f fd) (G_so_of_one : GF P w K mg base "so_of_one" 1 P_so_of_one s_so_of_one) (G_so_of_more : GF P w K mg base "so_of_more" 1 P_so_of_more s_so_of_more)
    (sp : Sp) (len : ∀ vs H Q E, sp vs H Q E → vs.length = 2) (rd : ∀ vs H Q E, sp vs H Q E → t_is_so P w K aOne s_so_of_one s_so_of_more { nx := fun _ H' => Q .non H', rt := Q } (start N_is_so vs) H) : FnOk P w K mg base CX0 2 f fd P_is_so sp := by
  refine F.ok sc_is_so len (fun cdv A outer s H vs Q E hr h => ⟨t_is_so P w K aOne s_so_of_one s_so_of_more, PSs.nox ?_, rd vs H Q E h⟩)
  have hu : _ + 64 < cLine := hr.units
  have hud : _ + 65 < cLine := units65 hr
  have hu1 : _ + 1 < cLine := hu_of hr
  have huc : _ < cLine := hr.units0
  exact (pss_cons (ps_set (i := 2) sc_is_so.nd rfl (Or.inl rfl) (pe_ix ix_tup (pv 1) (pe_ix ix_tup (pv 0) pe_int (fun _ _ => rfl)) (fun _ _ => rfl)))
(pss_cons (ps_if (pt_cmpR op_in_seq (pe_ix ix_tup (pv 0) pe_int (fun _ _ => rfl)) (pe_glob rfl T.ofOne.1 rfl) (by rfl)) (pss_one (ps_ret (pe_fn G_so_of_one hr rfl (pa_cons (pv 0) (pa_cons (pv 2) pa_nil))))) pss_nil)
(pss_one (ps_ret (pe_fn G_so_of_more hr rfl (pa_cons (pv 0) (pa_cons (pv 2) (pa_cons (pv 1) pa_nil))))))))
def N_first_standing_machine : List Str := ["program", "box"]
def P_first_standing_machine : List Str := ["program"]
theorem sc_first_standing_machine : FnScope N_first_standing_machine P_first_standing_machine (defScope SwH.s_first_standing_machine) := ⟨rfl, rfl, rfl, by decide +kernel, rfl, by decide +kernel, by decide +kernel⟩
def t_first_standing_machine (P : Program) (w : World) (K : PySem.W.Frag) : TS :=
(tRet (tTup (tCons (tC (.int 0)) (tCons (tCB (rTup2 K) (tCons (tLc (iList K (tOp (rIxT K) (tVar 0) (tC (.int 0)))) (gName 1) tYes (tOp (rIxT K) (tVar 1) (tC (.int 3))) [1]) tNil)) tNil))))
theorem ok_first_standing_machine {P : Program} {w : World} {K : PySem.W.Frag} {mg : Str → Option Value} {base : Heap} {f : Addr} {fd : FuncData} {aOne : Addr} (T : Txt K mg aOne) (F : FnP K "first_standing" "first_standing" SwH.s_first_standing_machine f fd) 
    (sp : Sp) (len : ∀ vs H Q E, sp vs H Q E → vs.length = 1) (rd : ∀ vs H Q E, sp vs H Q E → t_first_standing_machine P w K { nx := fun _ H' => Q .non H', rt := Q } (start N_first_standing_machine vs) H) : FnOk P w K mg base CX0 1 f fd P_first_standing_machine sp := by
  refine F.ok sc_first_standing_machine len (fun cdv A outer s H vs Q E hr h => ⟨t_first_standing_machine P w K, PSs.nox ?_, rd vs H Q E h⟩)
  have hu : _ + 64 < cLine := hr.units
  have hud : _ + 65 < cLine := units65 hr
  have hu1 : _ + 1 < cLine := hu_of hr
  have huc : _ < cLine := hr.units0
  exact (pss_one (ps_ret (pe_tup (pa_cons pe_int (pa_cons (pe_callTy c_tuple rfl T.tuple bt_tuple (pa_cons (pe_lc (own := [("box", 1)]) (g := (gName 1)) (tt := tYes) rfl sc_first_standing_machine.nd (pi_list (pe_ix ix_tup (pv 0) pe_int (fun _ _ => rfl))) (blkOk_by (own := [("box", 1)]) (N := N_first_standing_machine) (sc := defScope SwH.s_first_standing_machine) (by decide +kernel)) (fun _ _ _ _ _ => (pg_name (i := 1) sc_first_standing_machine.nd rfl (Or.inl rfl))) (fun _ _ _ _ _ => pts_nil) (fun _ _ _ _ _ => (pe_ix ix_tup (pv 1) pe_int (fun _ _ => rfl)))) pa_nil)) pa_nil)))))
def N_by_names : List Str := ["program", "values", "found", "box", "number"]
def P_by_names : List Str := ["program", "values"]
theorem sc_by_names : FnScope N_by_names P_by_names (defScope SwH.s_by_names) := ⟨rfl, rfl, rfl, by decide +kernel, rfl, by decide +kernel, by decide +kernel⟩
def t_by_names (P : Program) (w : World) (K : PySem.W.Frag) : TS :=
(tSeq (tAsg tDNewK (gName 2))
(tSeq (tFor (iZipM K (tCons (tOp (rIxT K) (tVar 0) (tC (.int 0))) (tCons (tVar 1) tNil))) (gTup K 2 (gCons (gName 3) (gCons (gName 4) gNil))) (sDPut (tVar 2) (tOp (rIxT K) (tVar 3) (tC (.int 0))) (tVar 4)))
(tRet (tVar 2))))
theorem ok_by_names {P : Program} {w : World} {K : PySem.W.Frag} {mg : Str → Option Value} {base : Heap} {f : Addr} {fd : FuncData} {aOne : Addr} (T : Txt K mg aOne) (F : FnP K "by_names" "by_names" SwH.s_by_names f fd) 
    (sp : Sp) (len : ∀ vs H Q E, sp vs H Q E → vs.length = 2) (rd : ∀ vs H Q E, sp vs H Q E → t_by_names P w K { nx := fun _ H' => Q .non H', rt := Q } (start N_by_names vs) H) : FnOk P w K mg base CX0 1 f fd P_by_names sp := by
  refine F.ok sc_by_names len (fun cdv A outer s H vs Q E hr h => ⟨t_by_names P w K, PSs.nox ?_, rd vs H Q E h⟩)
  have hu : _ + 64 < cLine := hr.units
  have hud : _ + 65 < cLine := units65 hr
  have hu1 : _ + 1 < cLine := hu_of hr
  have huc : _ < cLine := hr.units0
  exact (pss_cons (ps_set (i := 2) sc_by_names.nd rfl (Or.inl rfl) pe_dnewK)
(pss_cons (ps_for PassesOwn.never rfl (pi_zipM rfl T.zip (pa_cons (pe_ix ix_tup (pv 0) pe_int (fun _ _ => rfl)) (pa_cons (pv 1) pa_nil))) (pg_tup rfl (pgs_cons (pg_name (i := 3) sc_by_names.nd rfl (Or.inl rfl)) (pgs_cons (pg_name (i := 4) sc_by_names.nd rfl (Or.inl rfl)) pgs_nil))) (pss_one (ps_dput hu1 (pv 2) (pe_ix ix_tup (pv 3) pe_int (fun _ _ => rfl)) (pv 4) rfl)))
(pss_one (ps_ret (pv 2)))))
def N_with_number : List Str := ["values", "at", "number", "some"]
def P_with_number : List Str := ["values", "at", "number"]
theorem sc_with_number : FnScope N_with_number P_with_number (defScope SwH.s_with_number) := ⟨rfl, rfl, rfl, by decide +kernel, rfl, by decide +kernel, by decide +kernel⟩
def t_with_number (P : Program) (w : World) (K : PySem.W.Frag) : TS :=
(tSeq (tAsg (tCB (rList2 K) (tCons (tVar 0) tNil)) (gName 3))
(tSeq (tAsg (tVar 2) (gSub (tVar 3) (tVar 1) rSetL))
(tRet (tCB (rTup2 K) (tCons (tVar 3) tNil)))))
theorem ok_with_number {P : Program} {w : World} {K : PySem.W.Frag} {mg : Str → Option Value} {base : Heap} {f : Addr} {fd : FuncData} {aOne : Addr} (T : Txt K mg aOne) (F : FnP K "with_number" "with_number" SwH.s_with_number f fd) 
    (sp : Sp) (len : ∀ vs H Q E, sp vs H Q E → vs.length = 3) (rd : ∀ vs H Q E, sp vs H Q E → t_with_number P w K { nx := fun _ H' => Q .non H', rt := Q } (start N_with_number vs) H) : FnOk P w K mg base CX0 1 f fd P_with_number sp := by
  refine F.ok sc_with_number len (fun cdv A outer s H vs Q E hr h => ⟨t_with_number P w K, PSs.nox ?_, rd vs H Q E h⟩)
  have hu : _ + 64 < cLine := hr.units
  have hud : _ + 65 < cLine := units65 hr
  have hu1 : _ + 1 < cLine := hu_of hr
  have huc : _ < cLine := hr.units0
  exact (pss_cons (ps_set (i := 3) sc_with_number.nd rfl (Or.inl rfl) (pe_callTy c_list rfl T.list bt_list (pa_cons (pv 0) pa_nil)))
(pss_cons (ps_asg (pv 2) (pg_sub (pv 3) (pv 1) set_list))
(pss_one (ps_ret (pe_callTy c_tuple rfl T.tuple bt_tuple (pa_cons (pv 3) pa_nil))))))
def N_taken_in : List Str := ["program", "standing", "at", "number", "box"]
def P_taken_in : List Str := ["program", "standing", "at", "number"]
theorem sc_taken_in : FnScope N_taken_in P_taken_in (defScope SwH.s_taken_in) := ⟨rfl, rfl, rfl, by decide +kernel, rfl, by decide +kernel, by decide +kernel⟩
def t_taken_in (P : Program) (w : World) (K : PySem.W.Frag) (s_with_number : Sp) : TS :=
(tSeq (tAsg (tOp (rIxL K) (tOp (rIxT K) (tVar 0) (tC (.int 0))) (tVar 2)) (gName 4))
(tSeq (tIfS (tOr (tTest (tOp rLt2 (tVar 3) (tOp (rIxT K) (tVar 4) (tC (.int 1))))) (tTest (tOp rGt2 (tVar 3) (tOp (rIxT K) (tVar 4) (tC (.int 2)))))) (tRet (tC .non)) tNext)
(tRet (tTup (tCons (tOp rAdd2 (tOp (rIxT K) (tVar 1) (tC (.int 0))) (tC (.int 1))) (tCons (tCall s_with_number [] E0 (tCons (tOp (rIxT K) (tVar 1) (tC (.int 1))) (tCons (tVar 2) (tCons (tVar 3) tNil)))) tNil))))))
theorem ok_taken_in {P : Program} {w : World} {K : PySem.W.Frag} {mg : Str → Option Value} {base : Heap} {f : Addr} {fd : FuncData} {s_with_number : Sp} {aOne : Addr} (T : Txt K mg aOne) (F : FnP K "taken_in" "taken_in" SwH.s_taken_in f fd) (G_with_number : GF P w K mg base "with_number" 1 P_with_number s_with_number)
    (sp : Sp) (len : ∀ vs H Q E, sp vs H Q E → vs.length = 4) (rd : ∀ vs H Q E, sp vs H Q E → t_taken_in P w K s_with_number { nx := fun _ H' => Q .non H', rt := Q } (start N_taken_in vs) H) : FnOk P w K mg base CX0 2 f fd P_taken_in sp := by
  refine F.ok sc_taken_in len (fun cdv A outer s H vs Q E hr h => ⟨t_taken_in P w K s_with_number, PSs.nox ?_, rd vs H Q E h⟩)
  have hu : _ + 64 < cLine := hr.units
  have hud : _ + 65 < cLine := units65 hr
  have hu1 : _ + 1 < cLine := hu_of hr
  have huc : _ < cLine := hr.units0
  exact (pss_cons (ps_set (i := 4) sc_taken_in.nd rfl (Or.inl rfl) (pe_ix ix_list (pe_ix ix_tup (pv 0) pe_int (fun _ _ => rfl)) (pv 2) (fun _ _ => rfl)))
(pss_cons (ps_if (PW.pt (pw_or (pt_cmpR o_lt (pv 3) (pe_ix ix_tup (pv 4) pe_int (fun _ _ => rfl)) (nomark _)) (pw_or1 (pt_cmpR o_gt (pv 3) (pe_ix ix_tup (pv 4) pe_int (fun _ _ => rfl)) (nomark _))))) (pss_one (ps_ret pe_non)) pss_nil)
(pss_one (ps_ret (pe_tup (pa_cons (pe_op o_add (pe_ix ix_tup (pv 1) pe_int (fun _ _ => rfl)) pe_int) (pa_cons (pe_fn G_with_number hr rfl (pa_cons (pe_ix ix_tup (pv 1) pe_int (fun _ _ => rfl)) (pa_cons (pv 2) (pa_cons (pv 3) pa_nil)))) pa_nil)))))))
def N_holds : List Str := ["sign", "one", "other"]
def P_holds : List Str := ["sign", "one", "other"]
theorem sc_holds : FnScope N_holds P_holds (defScope SwH.s_holds) := ⟨rfl, rfl, rfl, by decide +kernel, rfl, by decide +kernel, by decide +kernel⟩
def t_holds (P : Program) (w : World) (K : PySem.W.Frag) : TS :=
(tSeq (tIfS (tTest (tOp rEq (tVar 0) (tC (.str "<")))) (tRet (tOp rLt2 (tVar 1) (tVar 2))) tNext)
(tRet (tOp rEq (tVar 1) (tVar 2))))
theorem ok_holds {P : Program} {w : World} {K : PySem.W.Frag} {mg : Str → Option Value} {base : Heap} {f : Addr} {fd : FuncData} {aOne : Addr} (T : Txt K mg aOne) (F : FnP K "holds" "holds" SwH.s_holds f fd) 
    (sp : Sp) (len : ∀ vs H Q E, sp vs H Q E → vs.length = 3) (rd : ∀ vs H Q E, sp vs H Q E → t_holds P w K { nx := fun _ H' => Q .non H', rt := Q } (start N_holds vs) H) : FnOk P w K mg base CX0 1 f fd P_holds sp := by
  refine F.ok sc_holds len (fun cdv A outer s H vs Q E hr h => ⟨t_holds P w K, PSs.nox ?_, rd vs H Q E h⟩)
  have hu : _ + 64 < cLine := hr.units
  have hud : _ + 65 < cLine := units65 hr
  have hu1 : _ + 1 < cLine := hu_of hr
  have huc : _ < cLine := hr.units0
  exact (pss_cons (ps_if (pt_cmpR op_eq (pv 0) pe_str (nomark _)) (pss_one (ps_ret (pe_cmpR o_lt (pv 1) (pv 2) (nomark _)))) pss_nil)
(pss_one (ps_ret (pe_cmpR op_eq (pv 1) (pv 2) (nomark _)))))
def N_step : List Str := ["program", "standing", "number", "at", "values", "row", "named"]
def P_step : List Str := ["program", "standing", "number"]
theorem sc_step : FnScope N_step P_step (defScope SwH.s_step) := ⟨rfl, rfl, rfl, by decide +kernel, rfl, by decide +kernel, by decide +kernel⟩
def t_step (P : Program) (w : World) (K : PySem.W.Frag) (s_worth s_by_names s_taken_in s_holds : Sp) : TS :=
(tSeq (tAsg (tVar 1) (gTup K 2 (gCons (gName 3) (gCons (gName 4) gNil))))
(tSeq (tAsg (tOp (rIxL K) (tOp (rIxT K) (tVar 0) (tC (.int 1))) (tVar 3)) (gName 5))
(tSeq (tIfS (tTest (tOp rEq (tOp (rIxT K) (tVar 5) (tC (.int 0))) (tC (.str "ask")))) (tRet (tCall s_taken_in [] E0 (tCons (tVar 0) (tCons (tVar 1) (tCons (tOp (rIxT K) (tVar 5) (tC (.int 1))) (tCons (tVar 2) tNil)))))) tNext)
(tSeq (tIfS (tTest (tOp rEq (tOp (rIxT K) (tVar 5) (tC (.int 0))) (tC (.str "put")))) (tRet (tCall s_taken_in [] E0 (tCons (tVar 0) (tCons (tVar 1) (tCons (tOp (rIxT K) (tVar 5) (tC (.int 1))) (tCons (tCall s_worth [] E0 (tCons (tOp (rIxT K) (tVar 5) (tC (.int 2))) (tCons (tCall s_by_names [] E0 (tCons (tVar 0) (tCons (tVar 4) tNil))) tNil))) tNil)))))) tNext)
(tSeq (tIfS (tTest (tOp rEq (tOp (rIxT K) (tVar 5) (tC (.int 0))) (tC (.str "go")))) (tRet (tTup (tCons (tOp (rIxT K) (tVar 5) (tC (.int 1))) (tCons (tVar 4) tNil)))) tNext)
(tSeq (tIfS (tTest (tOp rEq (tOp (rIxT K) (tVar 5) (tC (.int 0))) (tC (.str "if")))) (tSeq (tAsg (tCall s_by_names [] E0 (tCons (tVar 0) (tCons (tVar 4) tNil))) (gName 6))
(tIfS (tB (tCall s_holds [] E0 (tCons (tOp (rIxT K) (tVar 5) (tC (.int 1))) (tCons (tCall s_worth [] E0 (tCons (tOp (rIxT K) (tVar 5) (tC (.int 2))) (tCons (tVar 6) tNil))) (tCons (tCall s_worth [] E0 (tCons (tOp (rIxT K) (tVar 5) (tC (.int 3))) (tCons (tVar 6) tNil))) tNil))))) (tRet (tTup (tCons (tOp (rIxT K) (tVar 5) (tC (.int 4))) (tCons (tVar 4) tNil)))) tNext)) tNext)
(tRet (tTup (tCons (tOp rAdd2 (tVar 3) (tC (.int 1))) (tCons (tVar 4) tNil))))))))))
theorem ok_step {P : Program} {w : World} {K : PySem.W.Frag} {mg : Str → Option Value} {base : Heap} {f : Addr} {fd : FuncData} {s_worth s_by_names s_taken_in s_holds : Sp} {aOne : Addr} (T : Txt K mg aOne) (F : FnP K "step" "step" SwH.s_step f fd) (G_worth : GF P w K mg base "worth" 5 P_worth s_worth) (G_by_names : GF P w K mg base "by_names" 1 P_by_names s_by_names) (G_taken_in : GF P w K mg base "taken_in" 2 P_taken_in s_taken_in) (G_holds : GF P w K mg base "holds" 1 P_holds s_holds)
    (sp : Sp) (len : ∀ vs H Q E, sp vs H Q E → vs.length = 3) (rd : ∀ vs H Q E, sp vs H Q E → t_step P w K s_worth s_by_names s_taken_in s_holds { nx := fun _ H' => Q .non H', rt := Q } (start N_step vs) H) : FnOk P w K mg base CX0 6 f fd P_step sp := by
  refine F.ok sc_step len (fun cdv A outer s H vs Q E hr h => ⟨t_step P w K s_worth s_by_names s_taken_in s_holds, PSs.nox ?_, rd vs H Q E h⟩)
  have hu : _ + 64 < cLine := hr.units
  have hud : _ + 65 < cLine := units65 hr
  have hu1 : _ + 1 < cLine := hu_of hr
  have huc : _ < cLine := hr.units0
  exact (pss_cons (ps_asg (pv 1) (pg_tup rfl (pgs_cons (pg_name (i := 3) sc_step.nd rfl (Or.inl rfl)) (pgs_cons (pg_name (i := 4) sc_step.nd rfl (Or.inl rfl)) pgs_nil))))
(pss_cons (ps_set (i := 5) sc_step.nd rfl (Or.inl rfl) (pe_ix ix_list (pe_ix ix_tup (pv 0) pe_int (fun _ _ => rfl)) (pv 3) (fun _ _ => rfl)))
(pss_cons (ps_if (pt_cmpR op_eq (pe_ix ix_tup (pv 5) pe_int (fun _ _ => rfl)) pe_str (nomark _)) (pss_one (ps_ret (pe_fn G_taken_in (hr.mono (by decide)) rfl (pa_cons (pv 0) (pa_cons (pv 1) (pa_cons (pe_ix ix_tup (pv 5) pe_int (fun _ _ => rfl)) (pa_cons (pv 2) pa_nil))))))) pss_nil)
(pss_cons (ps_if (pt_cmpR op_eq (pe_ix ix_tup (pv 5) pe_int (fun _ _ => rfl)) pe_str (nomark _)) (pss_one (ps_ret (pe_fn G_taken_in (hr.mono (by decide)) rfl (pa_cons (pv 0) (pa_cons (pv 1) (pa_cons (pe_ix ix_tup (pv 5) pe_int (fun _ _ => rfl)) (pa_cons (pe_fn G_worth hr rfl (pa_cons (pe_ix ix_tup (pv 5) pe_int (fun _ _ => rfl)) (pa_cons (pe_fn G_by_names (hr.mono (by decide)) rfl (pa_cons (pv 0) (pa_cons (pv 4) pa_nil))) pa_nil))) pa_nil))))))) pss_nil)
(pss_cons (ps_if (pt_cmpR op_eq (pe_ix ix_tup (pv 5) pe_int (fun _ _ => rfl)) pe_str (nomark _)) (pss_one (ps_ret (pe_tup (pa_cons (pe_ix ix_tup (pv 5) pe_int (fun _ _ => rfl)) (pa_cons (pv 4) pa_nil))))) pss_nil)
(pss_cons (ps_if (pt_cmpR op_eq (pe_ix ix_tup (pv 5) pe_int (fun _ _ => rfl)) pe_str (nomark _)) (pss_cons (ps_set (i := 6) sc_step.nd rfl (Or.inl rfl) (pe_fn G_by_names (hr.mono (by decide)) rfl (pa_cons (pv 0) (pa_cons (pv 4) pa_nil))))
(pss_one (ps_if (pt_val (pe_fn G_holds (hr.mono (by decide)) rfl (pa_cons (pe_ix ix_tup (pv 5) pe_int (fun _ _ => rfl)) (pa_cons (pe_fn G_worth hr rfl (pa_cons (pe_ix ix_tup (pv 5) pe_int (fun _ _ => rfl)) (pa_cons (pv 6) pa_nil))) (pa_cons (pe_fn G_worth hr rfl (pa_cons (pe_ix ix_tup (pv 5) pe_int (fun _ _ => rfl)) (pa_cons (pv 6) pa_nil))) pa_nil))))) (pss_one (ps_ret (pe_tup (pa_cons (pe_ix ix_tup (pv 5) pe_int (fun _ _ => rfl)) (pa_cons (pv 4) pa_nil))))) pss_nil))) pss_nil)
(pss_one (ps_ret (pe_tup (pa_cons (pe_op o_add (pv 3) pe_int) (pa_cons (pv 4) pa_nil)))))))))))
def N_word_at : List Str := ["program", "at"]
def P_word_at : List Str := ["program", "at"]
theorem sc_word_at : FnScope N_word_at P_word_at (defScope SwH.s_word_at) := ⟨rfl, rfl, rfl, by decide +kernel, rfl, by decide +kernel, by decide +kernel⟩
def t_word_at (P : Program) (w : World) (K : PySem.W.Frag) : TS :=
(tSeq (tIfS (tTest (tOp rLt2 (tVar 1) (tCB (rLen2 K) (tCons (tOp (rIxT K) (tVar 0) (tC (.int 1))) tNil)))) (tRet (tOp (rIxT K) (tOp (rIxL K) (tOp (rIxT K) (tVar 0) (tC (.int 1))) (tVar 1)) (tC (.int 0)))) tNext)
(tRet (tC (.str "stop"))))
theorem ok_word_at {P : Program} {w : World} {K : PySem.W.Frag} {mg : Str → Option Value} {base : Heap} {f : Addr} {fd : FuncData} {aOne : Addr} (T : Txt K mg aOne) (F : FnP K "word_at" "word_at" SwH.s_word_at f fd) 
    (sp : Sp) (len : ∀ vs H Q E, sp vs H Q E → vs.length = 2) (rd : ∀ vs H Q E, sp vs H Q E → t_word_at P w K { nx := fun _ H' => Q .non H', rt := Q } (start N_word_at vs) H) : FnOk P w K mg base CX0 1 f fd P_word_at sp := by
  refine F.ok sc_word_at len (fun cdv A outer s H vs Q E hr h => ⟨t_word_at P w K, PSs.nox ?_, rd vs H Q E h⟩)
  have hu : _ + 64 < cLine := hr.units
  have hud : _ + 65 < cLine := units65 hr
  have hu1 : _ + 1 < cLine := hu_of hr
  have huc : _ < cLine := hr.units0
  exact (pss_cons (ps_if (pt_cmpR o_lt (pv 1) (pe_callB c_len rfl T.len bt_len (pa_cons (pe_ix ix_tup (pv 0) pe_int (fun _ _ => rfl)) pa_nil)) (nomark _)) (pss_one (ps_ret (pe_ix ix_tup (pe_ix ix_list (pe_ix ix_tup (pv 0) pe_int (fun _ _ => rfl)) (pv 1) (fun _ _ => rfl)) pe_int (fun _ _ => rfl)))) pss_nil)
(pss_one (ps_ret pe_str)))
def N_run : List Str := ["program", "numbers", "left", "passed", "came", "standing", "word", "number", "behind"]
def P_run : List Str := ["program", "numbers"]
theorem sc_run : FnScope N_run P_run (defScope SwH.s_run) := ⟨rfl, rfl, rfl, by decide +kernel, rfl, by decide +kernel, by decide +kernel⟩
def t_run (P : Program) (w : World) (K : PySem.W.Frag) (s_first_standing_machine s_step s_word_at : Sp) : TS :=
(tSeq (tAsg (tCB (rList2 K) (tCons (tVar 1) tNil)) (gName 2))
(tSeq (tAsg (tLst tNil) (gName 3))
(tSeq (tAsg (tNNew P w) (gName 4))
(tSeq (tAsg (tCall s_first_standing_machine [] E0 (tCons (tVar 0) tNil)) (gName 5))
(tSeq (tWhile (tB (tNNotIn P w K (tVar 5) (tVar 4))) (tSeq (tAsg (tCall s_word_at [] E0 (tCons (tVar 0) (tCons (tOp (rIxT K) (tVar 5) (tC (.int 0))) tNil))) (gName 6))
(tSeq (tAsg (tC .non) (gName 7))
(tSeq (tIfS (tTest (tOp rEq (tVar 6) (tC (.str "stop")))) (tRet (tTup (tCons (tVar 3) (tCons (tTup (tCons (tC (.str "end")) tNil)) tNil)))) tNext)
(tSeq (tIfS (tTest (tOp rEq (tVar 6) (tC (.str "mark")))) (tDrop (tBM K "list" rAppend (tVar 3) (tCons (tTup (tCons (tOp (rIxT K) (tOp (rIxL K) (tOp (rIxT K) (tVar 0) (tC (.int 1))) (tOp (rIxT K) (tVar 5) (tC (.int 0)))) (tC (.int 1))) (tCons (tOp (rIxT K) (tVar 5) (tC (.int 1))) tNil))) tNil))) tNext)
(tSeq (sNPut P w K (tVar 4) (tVar 5) (tC (.bl true)))
(tSeq (tIfS (tTest (tOp rEq (tVar 6) (tC (.str "ask")))) (tSeq (tIfS (tTest (tOp (rEqNil K) (tVar 2) (tLst tNil))) (tRet (tTup (tCons (tVar 3) (tCons (tTup (tCons (tC (.str "out")) tNil)) tNil)))) tNext)
(tSeq (tAsg (tBM K "list" rPopAt (tVar 2) (tCons (tC (.int 0)) tNil)) (gName 7))
(tAsg (tNNew P w) (gName 4)))) tNext)
(tSeq (tAsg (tCall s_step [] E0 (tCons (tVar 0) (tCons (tVar 5) (tCons (tVar 7) tNil)))) (gName 8))
(tSeq (tIfS (tTest (tOp rIsN (tVar 8) (tC .non))) (tRet (tTup (tCons (tVar 3) (tCons (tTup (tCons (tC (.str "far")) (tCons (tOp (rIxT K) (tVar 5) (tC (.int 0))) tNil))) tNil)))) tNext)
(tAsg (tVar 8) (gName 5)))))))))))
(tRet (tTup (tCons (tVar 3) (tCons (tTup (tCons (tC (.str "round")) tNil)) tNil)))))))))
theorem ok_run {P : Program} {w : World} {K : PySem.W.Frag} {mg : Str → Option Value} {base : Heap} {f : Addr} {fd : FuncData} {s_first_standing_machine s_step s_word_at : Sp} {aOne : Addr} (T : Txt K mg aOne) (F : FnP K "run" "run" SwH.s_run f fd) (G_first_standing_machine : GF P w K mg base "first_standing_machine" 1 P_first_standing_machine s_first_standing_machine) (G_step : GF P w K mg base "step" 6 P_step s_step) (G_word_at : GF P w K mg base "word_at" 1 P_word_at s_word_at)
    (sp : Sp) (len : ∀ vs H Q E, sp vs H Q E → vs.length = 2) (rd : ∀ vs H Q E, sp vs H Q E → t_run P w K s_first_standing_machine s_step s_word_at { nx := fun _ H' => Q .non H', rt := Q } (start N_run vs) H) : FnOk P w K mg base CX0 7 f fd P_run sp := by
  refine F.ok sc_run len (fun cdv A outer s H vs Q E hr h => ⟨t_run P w K s_first_standing_machine s_step s_word_at, PSs.nox ?_, rd vs H Q E h⟩)
  have hu : _ + 64 < cLine := hr.units
  have hud : _ + 65 < cLine := units65 hr
  have hu1 : _ + 1 < cLine := hu_of hr
  have huc : _ < cLine := hr.units0
  exact (pss_cons (ps_set (i := 2) sc_run.nd rfl (Or.inl rfl) (pe_callTy c_list rfl T.list bt_list (pa_cons (pv 1) pa_nil)))
(pss_cons (ps_set (i := 3) sc_run.nd rfl (Or.inl rfl) (pe_lst pa_nil))
(pss_cons (ps_set (i := 4) sc_run.nd rfl (Or.inl rfl) pe_nnew)
(pss_cons (ps_set (i := 5) sc_run.nd rfl (Or.inl rfl) (pe_fn G_first_standing_machine (hr.mono (by decide)) rfl (pa_cons (pv 0) pa_nil)))
(pss_cons (ps_while PassesOwn.never (pt_cmp (pc_nnotin hu (pv 5) (pv 4))) (pss_cons (ps_set (i := 6) sc_run.nd rfl (Or.inl rfl) (pe_fn G_word_at (hr.mono (by decide)) rfl (pa_cons (pv 0) (pa_cons (pe_ix ix_tup (pv 5) pe_int (fun _ _ => rfl)) pa_nil))))
(pss_cons (ps_set (i := 7) sc_run.nd rfl (Or.inl rfl) pe_non)
(pss_cons (ps_if (pt_cmpR op_eq (pv 6) pe_str (nomark _)) (pss_one (ps_ret (pe_tup (pa_cons (pv 3) (pa_cons (pe_tup (pa_cons pe_str pa_nil)) pa_nil))))) pss_nil)
(pss_cons (ps_if (pt_cmpR op_eq (pv 6) pe_str (nomark _)) (pss_one (ps_expr (pe_bm PySem.F.plainAttrs_list PySem.F.slot_list_append PySem.F.type_list_append mt_append (pv 3) (pa_cons (pe_tup (pa_cons (pe_ix ix_tup (pe_ix ix_list (pe_ix ix_tup (pv 0) pe_int (fun _ _ => rfl)) (pe_ix ix_tup (pv 5) pe_int (fun _ _ => rfl)) (fun _ _ => rfl)) pe_int (fun _ _ => rfl)) (pa_cons (pe_ix ix_tup (pv 5) pe_int (fun _ _ => rfl)) pa_nil))) pa_nil)))) pss_nil)
(pss_cons (ps_nput hu (pv 4) (pv 5) pe_bl rfl)
(pss_cons (ps_if (pt_cmpR op_eq (pv 6) pe_str (nomark _)) (pss_cons (ps_if (pt_cmpR (op_eqNil huc) (pv 2) (pe_lst pa_nil) (nomark _)) (pss_one (ps_ret (pe_tup (pa_cons (pv 3) (pa_cons (pe_tup (pa_cons pe_str pa_nil)) pa_nil))))) pss_nil)
(pss_cons (ps_set (i := 7) sc_run.nd rfl (Or.inl rfl) (pe_bm PySem.F.plainAttrs_list PySem.F.slot_list_pop PySem.F.type_list_pop mt_popAt (pv 2) (pa_cons pe_int pa_nil)))
(pss_one (ps_set (i := 4) sc_run.nd rfl (Or.inl rfl) pe_nnew)))) pss_nil)
(pss_cons (ps_set (i := 8) sc_run.nd rfl (Or.inl rfl) (pe_fn G_step hr rfl (pa_cons (pv 0) (pa_cons (pv 5) (pa_cons (pv 7) pa_nil)))))
(pss_cons (ps_if (pt_cmpR op_isN1 (pv 8) pe_non (nomark _)) (pss_one (ps_ret (pe_tup (pa_cons (pv 3) (pa_cons (pe_tup (pa_cons pe_str (pa_cons (pe_ix ix_tup (pv 5) pe_int (fun _ _ => rfl)) pa_nil))) pa_nil))))) pss_nil)
(pss_one (ps_set (i := 5) sc_run.nd rfl (Or.inl rfl) (pv 8))))))))))))
(pss_one (ps_ret (pe_tup (pa_cons (pv 3) (pa_cons (pe_tup (pa_cons pe_str pa_nil)) pa_nil))))))))))
def N_value_tuples : List Str := ["program", "found", "name", "low", "high", "first", "longer", "values", "n"]
def P_value_tuples : List Str := ["program"]
theorem sc_value_tuples : FnScope N_value_tuples P_value_tuples (defScope SwH.s_value_tuples) := ⟨rfl, rfl, rfl, by decide +kernel, rfl, by decide +kernel, by decide +kernel⟩
def t_value_tuples (P : Program) (w : World) (K : PySem.W.Frag) : TS :=
(tSeq (tAsg (tLst (tCons (tTup tNil) tNil)) (gName 1))
(tSeq (tFor (iList K (tOp (rIxT K) (tVar 0) (tC (.int 0)))) (gTup K 4 (gCons (gName 2) (gCons (gName 3) (gCons (gName 4) (gCons (gName 5) gNil))))) (tSeq (tAsg (tLst tNil) (gName 6))
(tSeq (tFor (iList K (tVar 1)) (gName 7) (tDrop (tBM K "list" rExtend (tVar 6) (tCons (tLc (iRng2 (tCons (tVar 3) (tCons (tOp rAdd2 (tVar 4) (tC (.int 1))) tNil))) (gName 8) tYes (tOp (rCatA K) (tVar 7) (tTup (tCons (tVar 8) tNil))) [8]) tNil))))
(tAsg (tVar 6) (gName 1)))))
(tRet (tVar 1))))
theorem ok_value_tuples {P : Program} {w : World} {K : PySem.W.Frag} {mg : Str → Option Value} {base : Heap} {f : Addr} {fd : FuncData} {aOne : Addr} (T : Txt K mg aOne) (F : FnP K "value_tuples" "value_tuples" SwH.s_value_tuples f fd) 
    (sp : Sp) (len : ∀ vs H Q E, sp vs H Q E → vs.length = 1) (rd : ∀ vs H Q E, sp vs H Q E → t_value_tuples P w K { nx := fun _ H' => Q .non H', rt := Q } (start N_value_tuples vs) H) : FnOk P w K mg base CX0 1 f fd P_value_tuples sp := by
  refine F.ok sc_value_tuples len (fun cdv A outer s H vs Q E hr h => ⟨t_value_tuples P w K, PSs.nox ?_, rd vs H Q E h⟩)
  have hu : _ + 64 < cLine := hr.units
  have hud : _ + 65 < cLine := units65 hr
  have hu1 : _ + 1 < cLine := hu_of hr
  have huc : _ < cLine := hr.units0
  exact (pss_cons (ps_set (i := 1) sc_value_tuples.nd rfl (Or.inl rfl) (pe_lst (pa_cons (pe_tup pa_nil) pa_nil)))
(pss_cons (ps_for PassesOwn.never rfl (pi_list (pe_ix ix_tup (pv 0) pe_int (fun _ _ => rfl))) (pg_tup rfl (pgs_cons (pg_name (i := 2) sc_value_tuples.nd rfl (Or.inl rfl)) (pgs_cons (pg_name (i := 3) sc_value_tuples.nd rfl (Or.inl rfl)) (pgs_cons (pg_name (i := 4) sc_value_tuples.nd rfl (Or.inl rfl)) (pgs_cons (pg_name (i := 5) sc_value_tuples.nd rfl (Or.inl rfl)) pgs_nil))))) (pss_cons (ps_set (i := 6) sc_value_tuples.nd rfl (Or.inl rfl) (pe_lst pa_nil))
(pss_cons (ps_for PassesOwn.never rfl (pi_list (pv 1)) (pg_name (i := 7) sc_value_tuples.nd rfl (Or.inr rfl)) (pss_one (ps_expr (pe_bm PySem.F.plainAttrs_list PySem.F.slot_list_extend PySem.F.type_list_extend mt_extend (pv 6) (pa_cons (pe_lc (own := [("n", 8)]) (g := (gName 8)) (tt := tYes) rfl sc_value_tuples.nd (pi_range2 rfl T.range (pa_cons (pv 3) (pa_cons (pe_op o_add (pv 4) pe_int) pa_nil))) (blkOk_by (own := [("n", 8)]) (N := N_value_tuples) (sc := defScope SwH.s_value_tuples) (by decide +kernel)) (fun _ _ _ _ _ => (pg_name (i := 8) sc_value_tuples.nd rfl (Or.inl rfl))) (fun _ _ _ _ _ => pts_nil) (fun _ _ _ _ _ => (pe_op op_catA (pv 7) (pe_tup (pa_cons (pv 8) pa_nil))))) pa_nil)))))
(pss_one (ps_set (i := 1) sc_value_tuples.nd rfl (Or.inl rfl) (pv 6))))))
(pss_one (ps_ret (pv 1)))))
def N_marks_of : List Str := ["program", "row"]
def P_marks_of : List Str := ["program"]
theorem sc_marks_of : FnScope N_marks_of P_marks_of (defScope SwH.s_marks_of) := ⟨rfl, rfl, rfl, by decide +kernel, rfl, by decide +kernel, by decide +kernel⟩
def t_marks_of (P : Program) (w : World) (K : PySem.W.Frag) : TS :=
(tRet (tLc (iList K (tOp (rIxT K) (tVar 0) (tC (.int 1)))) (gName 1) (tTest (tOp rEq (tOp (rIxT K) (tVar 1) (tC (.int 0))) (tC (.str "mark")))) (tOp (rIxT K) (tVar 1) (tC (.int 1))) [1]))
theorem ok_marks_of {P : Program} {w : World} {K : PySem.W.Frag} {mg : Str → Option Value} {base : Heap} {f : Addr} {fd : FuncData} {aOne : Addr} (T : Txt K mg aOne) (F : FnP K "marks_of" "marks_of" SwH.s_marks_of f fd) 
    (sp : Sp) (len : ∀ vs H Q E, sp vs H Q E → vs.length = 1) (rd : ∀ vs H Q E, sp vs H Q E → t_marks_of P w K { nx := fun _ H' => Q .non H', rt := Q } (start N_marks_of vs) H) : FnOk P w K mg base CX0 1 f fd P_marks_of sp := by
  refine F.ok sc_marks_of len (fun cdv A outer s H vs Q E hr h => ⟨t_marks_of P w K, PSs.nox ?_, rd vs H Q E h⟩)
  have hu : _ + 64 < cLine := hr.units
  have hud : _ + 65 < cLine := units65 hr
  have hu1 : _ + 1 < cLine := hu_of hr
  have huc : _ < cLine := hr.units0
  exact (pss_one (ps_ret (pe_lc (own := [("row", 1)]) (g := (gName 1)) (tt := (tTest (tOp rEq (tOp (rIxT K) (tVar 1) (tC (.int 0))) (tC (.str "mark"))))) rfl sc_marks_of.nd (pi_list (pe_ix ix_tup (pv 0) pe_int (fun _ _ => rfl))) (blkOk_by (own := [("row", 1)]) (N := N_marks_of) (sc := defScope SwH.s_marks_of) (by decide +kernel)) (fun _ _ _ _ _ => (pg_name (i := 1) sc_marks_of.nd rfl (Or.inl rfl))) (fun _ _ _ _ _ => pts_one (pt_cmpR op_eq (pe_ix ix_tup (pv 1) pe_int (fun _ _ => rfl)) pe_str (nomark _))) (fun _ _ _ _ _ => (pe_ix ix_tup (pv 1) pe_int (fun _ _ => rfl))))))
def N_first_standing_ways : List Str := ["program", "name", "low", "high", "first"]
def P_first_standing_ways : List Str := ["program"]
theorem sc_first_standing_ways : FnScope N_first_standing_ways P_first_standing_ways (defScope SwH.s_first_standing_ways) := ⟨rfl, rfl, rfl, by decide +kernel, rfl, by decide +kernel, by decide +kernel⟩
def t_first_standing_ways (P : Program) (w : World) (K : PySem.W.Frag) : TS :=
(tRet (tTup (tCons (tC (.int 0)) (tCons (tCB (rTup2 K) (tCons (tLc (iList K (tOp (rIxT K) (tVar 0) (tC (.int 0)))) (gTup K 4 (gCons (gName 1) (gCons (gName 2) (gCons (gName 3) (gCons (gName 4) gNil))))) tYes (tVar 4) [1, 2, 3, 4]) tNil)) tNil))))
theorem ok_first_standing_ways {P : Program} {w : World} {K : PySem.W.Frag} {mg : Str → Option Value} {base : Heap} {f : Addr} {fd : FuncData} {aOne : Addr} (T : Txt K mg aOne) (F : FnP K "first_standing" "first_standing" SwH.s_first_standing_ways f fd) 
    (sp : Sp) (len : ∀ vs H Q E, sp vs H Q E → vs.length = 1) (rd : ∀ vs H Q E, sp vs H Q E → t_first_standing_ways P w K { nx := fun _ H' => Q .non H', rt := Q } (start N_first_standing_ways vs) H) : FnOk P w K mg base CX0 1 f fd P_first_standing_ways sp := by
  refine F.ok sc_first_standing_ways len (fun cdv A outer s H vs Q E hr h => ⟨t_first_standing_ways P w K, PSs.nox ?_, rd vs H Q E h⟩)
  have hu : _ + 64 < cLine := hr.units
  have hud : _ + 65 < cLine := units65 hr
  have hu1 : _ + 1 < cLine := hu_of hr
  have huc : _ < cLine := hr.units0
  exact (pss_one (ps_ret (pe_tup (pa_cons pe_int (pa_cons (pe_callTy c_tuple rfl T.tuple bt_tuple (pa_cons (pe_lc (own := [("name", 1), ("low", 2), ("high", 3), ("first", 4)]) (g := (gTup K 4 (gCons (gName 1) (gCons (gName 2) (gCons (gName 3) (gCons (gName 4) gNil)))))) (tt := tYes) rfl sc_first_standing_ways.nd (pi_list (pe_ix ix_tup (pv 0) pe_int (fun _ _ => rfl))) (blkOk_by (own := [("name", 1), ("low", 2), ("high", 3), ("first", 4)]) (N := N_first_standing_ways) (sc := defScope SwH.s_first_standing_ways) (by decide +kernel)) (fun _ _ _ _ _ => (pg_tup rfl (pgs_cons (pg_name (i := 1) sc_first_standing_ways.nd rfl (Or.inl rfl)) (pgs_cons (pg_name (i := 2) sc_first_standing_ways.nd rfl (Or.inl rfl)) (pgs_cons (pg_name (i := 3) sc_first_standing_ways.nd rfl (Or.inl rfl)) (pgs_cons (pg_name (i := 4) sc_first_standing_ways.nd rfl (Or.inl rfl)) pgs_nil)))))) (fun _ _ _ _ _ => pts_nil) (fun _ _ _ _ _ => (pv 4))) pa_nil)) pa_nil)))))
def N_kind_at : List Str := ["program", "standing"]
def P_kind_at : List Str := ["program", "standing"]
theorem sc_kind_at : FnScope N_kind_at P_kind_at (defScope SwH.s_kind_at) := ⟨rfl, rfl, rfl, by decide +kernel, rfl, by decide +kernel, by decide +kernel⟩
def t_kind_at (P : Program) (w : World) (K : PySem.W.Frag) : TS :=
(tSeq (tIfS (tTest (tOp rEq (tOp (rIxT K) (tVar 1) (tC (.int 0))) (tCB (rLen2 K) (tCons (tOp (rIxT K) (tVar 0) (tC (.int 1))) tNil)))) (tRet (tC (.str "end"))) tNext)
(tRet (tOp (rIxT K) (tOp (rIxL K) (tOp (rIxT K) (tVar 0) (tC (.int 1))) (tOp (rIxT K) (tVar 1) (tC (.int 0)))) (tC (.int 0)))))
theorem ok_kind_at {P : Program} {w : World} {K : PySem.W.Frag} {mg : Str → Option Value} {base : Heap} {f : Addr} {fd : FuncData} {aOne : Addr} (T : Txt K mg aOne) (F : FnP K "kind_at" "kind_at" SwH.s_kind_at f fd) 
    (sp : Sp) (len : ∀ vs H Q E, sp vs H Q E → vs.length = 2) (rd : ∀ vs H Q E, sp vs H Q E → t_kind_at P w K { nx := fun _ H' => Q .non H', rt := Q } (start N_kind_at vs) H) : FnOk P w K mg base CX0 1 f fd P_kind_at sp := by
  refine F.ok sc_kind_at len (fun cdv A outer s H vs Q E hr h => ⟨t_kind_at P w K, PSs.nox ?_, rd vs H Q E h⟩)
  have hu : _ + 64 < cLine := hr.units
  have hud : _ + 65 < cLine := units65 hr
  have hu1 : _ + 1 < cLine := hu_of hr
  have huc : _ < cLine := hr.units0
  exact (pss_cons (ps_if (pt_cmpR op_eq (pe_ix ix_tup (pv 1) pe_int (fun _ _ => rfl)) (pe_callB c_len rfl T.len bt_len (pa_cons (pe_ix ix_tup (pv 0) pe_int (fun _ _ => rfl)) pa_nil)) (nomark _)) (pss_one (ps_ret pe_str)) pss_nil)
(pss_one (ps_ret (pe_ix ix_tup (pe_ix ix_list (pe_ix ix_tup (pv 0) pe_int (fun _ _ => rfl)) (pe_ix ix_tup (pv 1) pe_int (fun _ _ => rfl)) (fun _ _ => rfl)) pe_int (fun _ _ => rfl)))))
def N_numbers_for : List Str := ["program", "standing", "name", "low", "high", "first"]
def P_numbers_for : List Str := ["program", "standing"]
theorem sc_numbers_for : FnScope N_numbers_for P_numbers_for (defScope SwH.s_numbers_for) := ⟨rfl, rfl, rfl, by decide +kernel, rfl, by decide +kernel, by decide +kernel⟩
def t_numbers_for (P : Program) (w : World) (K : PySem.W.Frag) : TS :=
(tSeq (tAsg (tOp (rIxL K) (tOp (rIxT K) (tVar 0) (tC (.int 0))) (tOp (rIxT K) (tOp (rIxL K) (tOp (rIxT K) (tVar 0) (tC (.int 1))) (tOp (rIxT K) (tVar 1) (tC (.int 0)))) (tC (.int 1)))) (gTup K 4 (gCons (gName 2) (gCons (gName 3) (gCons (gName 4) (gCons (gName 5) gNil))))))
(tRet (tLstRg (tRg2 (tVar 3) (tOp rAdd2 (tVar 4) (tC (.int 1)))))))
theorem ok_numbers_for {P : Program} {w : World} {K : PySem.W.Frag} {mg : Str → Option Value} {base : Heap} {f : Addr} {fd : FuncData} {aOne : Addr} (T : Txt K mg aOne) (F : FnP K "numbers_for" "numbers_for" SwH.s_numbers_for f fd) 
    (sp : Sp) (len : ∀ vs H Q E, sp vs H Q E → vs.length = 2) (rd : ∀ vs H Q E, sp vs H Q E → t_numbers_for P w K { nx := fun _ H' => Q .non H', rt := Q } (start N_numbers_for vs) H) : FnOk P w K mg base CX0 1 f fd P_numbers_for sp := by
  refine F.ok sc_numbers_for len (fun cdv A outer s H vs Q E hr h => ⟨t_numbers_for P w K, PSs.nox ?_, rd vs H Q E h⟩)
  have hu : _ + 64 < cLine := hr.units
  have hud : _ + 65 < cLine := units65 hr
  have hu1 : _ + 1 < cLine := hu_of hr
  have huc : _ < cLine := hr.units0
  exact (pss_cons (ps_asg (pe_ix ix_list (pe_ix ix_tup (pv 0) pe_int (fun _ _ => rfl)) (pe_ix ix_tup (pe_ix ix_list (pe_ix ix_tup (pv 0) pe_int (fun _ _ => rfl)) (pe_ix ix_tup (pv 1) pe_int (fun _ _ => rfl)) (fun _ _ => rfl)) pe_int (fun _ _ => rfl)) (fun _ _ => rfl)) (pg_tup rfl (pgs_cons (pg_name (i := 2) sc_numbers_for.nd rfl (Or.inl rfl)) (pgs_cons (pg_name (i := 3) sc_numbers_for.nd rfl (Or.inl rfl)) (pgs_cons (pg_name (i := 4) sc_numbers_for.nd rfl (Or.inl rfl)) (pgs_cons (pg_name (i := 5) sc_numbers_for.nd rfl (Or.inl rfl)) pgs_nil))))))
(pss_one (ps_ret (pe_listRg rfl rfl T.list (prg_2 rfl T.range (pv 3) (pe_op o_add (pv 4) pe_int))))))
def N_behind : List Str := ["program", "standing", "kind", "one", "number"]
def P_behind : List Str := ["program", "standing"]
theorem sc_behind : FnScope N_behind P_behind (defScope SwH.s_behind) := ⟨rfl, rfl, rfl, by decide +kernel, rfl, by decide +kernel, by decide +kernel⟩
def t_behind (P : Program) (w : World) (K : PySem.W.Frag) (s_step s_kind_at s_numbers_for : Sp) : TS :=
(tSeq (tAsg (tCall s_kind_at [] E0 (tCons (tVar 0) (tCons (tVar 1) tNil))) (gName 2))
(tSeq (tIfS (tTest (tOp (rIn K false) (tVar 2) (tLst (tCons (tC (.str "end")) (tCons (tC (.str "stop")) tNil))))) (tRet (tLst tNil)) tNext)
(tSeq (tIfS (tTest (tOp rEq (tVar 2) (tC (.str "ask")))) (tRet (tLc (iList K (tCall s_numbers_for [] E0 (tCons (tVar 0) (tCons (tVar 1) tNil)))) (gName 4) tYes (tCall s_step [] E0 (tCons (tVar 0) (tCons (tVar 1) (tCons (tVar 4) tNil)))) [4])) tNext)
(tRet (tLc (iList K (tLst (tCons (tCall s_step [] E0 (tCons (tVar 0) (tCons (tVar 1) (tCons (tC .non) tNil)))) tNil))) (gName 3) (tTest (tOp rNotN (tVar 3) (tC .non))) (tVar 3) [3])))))
theorem ok_behind {P : Program} {w : World} {K : PySem.W.Frag} {mg : Str → Option Value} {base : Heap} {f : Addr} {fd : FuncData} {s_step s_kind_at s_numbers_for : Sp} {aOne : Addr} (T : Txt K mg aOne) (F : FnP K "behind" "behind" SwH.s_behind f fd) (G_step : GF P w K mg base "step" 6 P_step s_step) (G_kind_at : GF P w K mg base "kind_at" 1 P_kind_at s_kind_at) (G_numbers_for : GF P w K mg base "numbers_for" 1 P_numbers_for s_numbers_for)
    (sp : Sp) (len : ∀ vs H Q E, sp vs H Q E → vs.length = 2) (rd : ∀ vs H Q E, sp vs H Q E → t_behind P w K s_step s_kind_at s_numbers_for { nx := fun _ H' => Q .non H', rt := Q } (start N_behind vs) H) : FnOk P w K mg base CX0 7 f fd P_behind sp := by
  refine F.ok sc_behind len (fun cdv A outer s H vs Q E hr h => ⟨t_behind P w K s_step s_kind_at s_numbers_for, PSs.nox ?_, rd vs H Q E h⟩)
  have hu : _ + 64 < cLine := hr.units
  have hud : _ + 65 < cLine := units65 hr
  have hu1 : _ + 1 < cLine := hu_of hr
  have huc : _ < cLine := hr.units0
  exact (pss_cons (ps_set (i := 2) sc_behind.nd rfl (Or.inl rfl) (pe_fn G_kind_at (hr.mono (by decide)) rfl (pa_cons (pv 0) (pa_cons (pv 1) pa_nil))))
(pss_cons (ps_if (pt_cmpR op_in_seq (pv 2) (pe_lst (pa_cons pe_str (pa_cons pe_str pa_nil))) (by rfl)) (pss_one (ps_ret (pe_lst pa_nil))) pss_nil)
(pss_cons (ps_if (pt_cmpR op_eq (pv 2) pe_str (nomark _)) (pss_one (ps_ret (pe_lc (own := [("number", 4)]) (g := (gName 4)) (tt := tYes) rfl sc_behind.nd (pi_list (pe_fn G_numbers_for (hr.mono (by decide)) rfl (pa_cons (pv 0) (pa_cons (pv 1) pa_nil)))) (blkOk_by (own := [("number", 4)]) (N := N_behind) (sc := defScope SwH.s_behind) (by decide +kernel)) (fun _ _ _ _ _ => (pg_name (i := 4) sc_behind.nd rfl (Or.inl rfl))) (fun _ _ _ _ _ => pts_nil) (fun _ _ _ _ _ => (pe_fn G_step hr rfl (pa_cons (pv 0) (pa_cons (pv 1) (pa_cons (pv 4) pa_nil)))))))) pss_nil)
(pss_one (ps_ret (pe_lc (own := [("one", 3)]) (g := (gName 3)) (tt := (tTest (tOp rNotN (tVar 3) (tC .non)))) rfl sc_behind.nd (pi_list (pe_lst (pa_cons (pe_fn G_step hr rfl (pa_cons (pv 0) (pa_cons (pv 1) (pa_cons pe_non pa_nil)))) pa_nil))) (blkOk_by (own := [("one", 3)]) (N := N_behind) (sc := defScope SwH.s_behind) (by decide +kernel)) (fun _ _ _ _ _ => (pg_name (i := 3) sc_behind.nd rfl (Or.inl rfl))) (fun _ _ _ _ _ => pts_one (pt_cmpR op_notN1 (pv 3) pe_non (nomark _))) (fun _ _ _ _ _ => (pv 3))))))))
def N_next_marks : List Str := ["program", "begin", "waiting", "known", "found", "standing", "one"]
def P_next_marks : List Str := ["program", "begin"]
theorem sc_next_marks : FnScope N_next_marks P_next_marks (defScope SwH.s_next_marks) := ⟨rfl, rfl, rfl, by decide +kernel, rfl, by decide +kernel, by decide +kernel⟩
def t_next_marks (P : Program) (w : World) (K : PySem.W.Frag) (s_kind_at s_behind : Sp) : TS :=
(tSeq (tAsg (tLst (tCons (tVar 1) tNil)) (gName 2))
(tSeq (tAsg (tNDisp P w K (tVar 1) (tC (.bl true))) (gName 3))
(tSeq (tAsg (tNNew P w) (gName 4))
(tSeq (tWhile (tTest (tOp (rNeNil K) (tVar 2) (tLst tNil))) (tSeq (tAsg (tBM0 K "list" rPop (tVar 2)) (gName 5))
(tIfS (tTest (tOp rEq (tCall s_kind_at [] E0 (tCons (tVar 0) (tCons (tVar 5) tNil))) (tC (.str "mark")))) (sNPut P w K (tVar 4) (tTup (tCons (tOp (rIxT K) (tOp (rIxL K) (tOp (rIxT K) (tVar 0) (tC (.int 1))) (tOp (rIxT K) (tVar 5) (tC (.int 0)))) (tC (.int 1))) (tCons (tOp (rIxT K) (tVar 5) (tC (.int 1))) tNil))) (tC (.bl true))) (tFor (iList K (tCall s_behind [] E0 (tCons (tVar 0) (tCons (tVar 5) tNil)))) (gName 6) (tIfS (tB (tNNotIn P w K (tVar 6) (tVar 3))) (tSeq (sNPut P w K (tVar 3) (tVar 6) (tC (.bl true)))
(tDrop (tBM K "list" rAppend (tVar 2) (tCons (tVar 6) tNil)))) tNext)))))
(tRet (tCB (rSortN P w K) (tCons (tVar 4) tNil)))))))
theorem ok_next_marks {P : Program} {w : World} {K : PySem.W.Frag} {mg : Str → Option Value} {base : Heap} {f : Addr} {fd : FuncData} {s_kind_at s_behind : Sp} {aOne : Addr} (T : Txt K mg aOne) (F : FnP K "next_marks" "next_marks" SwH.s_next_marks f fd) (G_kind_at : GF P w K mg base "kind_at" 1 P_kind_at s_kind_at) (G_behind : GF P w K mg base "behind" 7 P_behind s_behind)
    (sp : Sp) (len : ∀ vs H Q E, sp vs H Q E → vs.length = 2) (rd : ∀ vs H Q E, sp vs H Q E → t_next_marks P w K s_kind_at s_behind { nx := fun _ H' => Q .non H', rt := Q } (start N_next_marks vs) H) : FnOk P w K mg base CX0 8 f fd P_next_marks sp := by
  refine F.ok sc_next_marks len (fun cdv A outer s H vs Q E hr h => ⟨t_next_marks P w K s_kind_at s_behind, PSs.nox ?_, rd vs H Q E h⟩)
  have hu : _ + 64 < cLine := hr.units
  have hud : _ + 65 < cLine := units65 hr
  have hu1 : _ + 1 < cLine := hu_of hr
  have huc : _ < cLine := hr.units0
  exact (pss_cons (ps_set (i := 2) sc_next_marks.nd rfl (Or.inl rfl) (pe_lst (pa_cons (pv 1) pa_nil)))
(pss_cons (ps_set (i := 3) sc_next_marks.nd rfl (Or.inl rfl) (pe_ndisp hu (pv 1) pe_bl))
(pss_cons (ps_set (i := 4) sc_next_marks.nd rfl (Or.inl rfl) pe_nnew)
(pss_cons (ps_while PassesOwn.never (pt_cmpR (op_neNil huc) (pv 2) (pe_lst pa_nil) (nomark _)) (pss_cons (ps_set (i := 5) sc_next_marks.nd rfl (Or.inl rfl) (pe_bm0 PySem.F.plainAttrs_list PySem.F.slot_list_pop PySem.F.type_list_pop mt_pop (pv 2)))
(pss_one (ps_if (pt_cmpR op_eq (pe_fn G_kind_at (hr.mono (by decide)) rfl (pa_cons (pv 0) (pa_cons (pv 5) pa_nil))) pe_str (nomark _)) (pss_one (ps_nput hu (pv 4) (pe_tup (pa_cons (pe_ix ix_tup (pe_ix ix_list (pe_ix ix_tup (pv 0) pe_int (fun _ _ => rfl)) (pe_ix ix_tup (pv 5) pe_int (fun _ _ => rfl)) (fun _ _ => rfl)) pe_int (fun _ _ => rfl)) (pa_cons (pe_ix ix_tup (pv 5) pe_int (fun _ _ => rfl)) pa_nil))) pe_bl rfl)) (pss_one (ps_for PassesOwn.never rfl (pi_list (pe_fn G_behind hr rfl (pa_cons (pv 0) (pa_cons (pv 5) pa_nil)))) (pg_name (i := 6) sc_next_marks.nd rfl (Or.inl rfl)) (pss_one (ps_if (pt_cmp (pc_nnotin hu (pv 6) (pv 3))) (pss_cons (ps_nput hu (pv 3) (pv 6) pe_bl rfl)
(pss_one (ps_expr (pe_bm PySem.F.plainAttrs_list PySem.F.slot_list_append PySem.F.type_list_append mt_append (pv 2) (pa_cons (pv 6) pa_nil))))) pss_nil))))))))
(pss_one (ps_ret (pe_callB (call_sortN rfl hu) rfl T.sorted bt_sorted (pa_cons (pv 4) pa_nil))))))))
def N_next_of : List Str := ["program", "mark", "values"]
def P_next_of : List Str := ["program", "mark", "values"]
theorem sc_next_of : FnScope N_next_of P_next_of (defScope SwH.s_next_of) := ⟨rfl, rfl, rfl, by decide +kernel, rfl, by decide +kernel, by decide +kernel⟩
def t_next_of (P : Program) (w : World) (K : PySem.W.Frag) (s_next_marks : Sp) : TS :=
(tRet (tCall s_next_marks [] E0 (tCons (tVar 0) (tCons (tTup (tCons (tOp rAdd2 (tBM K "list" (rIndexD K) (tOp (rIxT K) (tVar 0) (tC (.int 1))) (tCons (tTup (tCons (tC (.str "mark")) (tCons (tVar 1) tNil))) tNil)) (tC (.int 1))) (tCons (tCB (rTup2 K) (tCons (tVar 2) tNil)) tNil))) tNil))))
theorem ok_next_of {P : Program} {w : World} {K : PySem.W.Frag} {mg : Str → Option Value} {base : Heap} {f : Addr} {fd : FuncData} {s_next_marks : Sp} {aOne : Addr} (T : Txt K mg aOne) (F : FnP K "next_of" "next_of" SwH.s_next_of f fd) (G_next_marks : GF P w K mg base "next_marks" 8 P_next_marks s_next_marks)
    (sp : Sp) (len : ∀ vs H Q E, sp vs H Q E → vs.length = 3) (rd : ∀ vs H Q E, sp vs H Q E → t_next_of P w K s_next_marks { nx := fun _ H' => Q .non H', rt := Q } (start N_next_of vs) H) : FnOk P w K mg base CX0 9 f fd P_next_of sp := by
  refine F.ok sc_next_of len (fun cdv A outer s H vs Q E hr h => ⟨t_next_of P w K s_next_marks, PSs.nox ?_, rd vs H Q E h⟩)
  have hu : _ + 64 < cLine := hr.units
  have hud : _ + 65 < cLine := units65 hr
  have hu1 : _ + 1 < cLine := hu_of hr
  have huc : _ < cLine := hr.units0
  exact (pss_one (ps_ret (pe_fn G_next_marks hr rfl (pa_cons (pv 0) (pa_cons (pe_tup (pa_cons (pe_op o_add (pe_bm PySem.F.plainAttrs_list PySem.F.slot_list_index PySem.F.type_list_index (mt_indexD hud) (pe_ix ix_tup (pv 0) pe_int (fun _ _ => rfl)) (pa_cons (pe_tup (pa_cons pe_str (pa_cons (pv 1) pa_nil))) pa_nil)) pe_int) (pa_cons (pe_callTy c_tuple rfl T.tuple bt_tuple (pa_cons (pv 2) pa_nil)) pa_nil))) pa_nil)))))
def N_first_of : List Str := ["program"]
def P_first_of : List Str := ["program"]
theorem sc_first_of : FnScope N_first_of P_first_of (defScope SwH.s_first_of) := ⟨rfl, rfl, rfl, by decide +kernel, rfl, by decide +kernel, by decide +kernel⟩
def t_first_of (P : Program) (w : World) (K : PySem.W.Frag) (s_first_standing_ways s_next_marks : Sp) : TS :=
(tRet (tCall s_next_marks [] E0 (tCons (tVar 0) (tCons (tCall s_first_standing_ways [] E0 (tCons (tVar 0) tNil)) tNil))))
theorem ok_first_of {P : Program} {w : World} {K : PySem.W.Frag} {mg : Str → Option Value} {base : Heap} {f : Addr} {fd : FuncData} {s_first_standing_ways s_next_marks : Sp} {aOne : Addr} (T : Txt K mg aOne) (F : FnP K "first_of" "first_of" SwH.s_first_of f fd) (G_first_standing_ways : GF P w K mg base "first_standing_ways" 1 P_first_standing_ways s_first_standing_ways) (G_next_marks : GF P w K mg base "next_marks" 8 P_next_marks s_next_marks)
    (sp : Sp) (len : ∀ vs H Q E, sp vs H Q E → vs.length = 1) (rd : ∀ vs H Q E, sp vs H Q E → t_first_of P w K s_first_standing_ways s_next_marks { nx := fun _ H' => Q .non H', rt := Q } (start N_first_of vs) H) : FnOk P w K mg base CX0 9 f fd P_first_of sp := by
  refine F.ok sc_first_of len (fun cdv A outer s H vs Q E hr h => ⟨t_first_of P w K s_first_standing_ways s_next_marks, PSs.nox ?_, rd vs H Q E h⟩)
  have hu : _ + 64 < cLine := hr.units
  have hud : _ + 65 < cLine := units65 hr
  have hu1 : _ + 1 < cLine := hu_of hr
  have huc : _ < cLine := hr.units0
  exact (pss_one (ps_ret (pe_fn G_next_marks hr rfl (pa_cons (pv 0) (pa_cons (pe_fn G_first_standing_ways (hr.mono (by decide)) rfl (pa_cons (pv 0) pa_nil)) pa_nil)))))
def N_inputs_of : List Str := ["program", "known", "found", "standing"]
def P_inputs_of : List Str := ["program"]
theorem sc_inputs_of : FnScope N_inputs_of P_inputs_of (defScope SwH.s_inputs_of) := ⟨rfl, rfl, rfl, by decide +kernel, rfl, by decide +kernel, by decide +kernel⟩
def t_inputs_of (P : Program) (w : World) (K : PySem.W.Frag) (C : Addr) (s_Inputs_init s_kind_at : Sp) : TS :=
(tSeq (tAsg (tFld K (tMake C s_Inputs_init [] E0 (tCons (tVar 0) tNil)) "shortest") (gName 1))
(tSeq (tAsg (tNNew P w) (gName 2))
(tSeq (tFor (iKeysN P w (tVar 1)) (gName 3) (tIfS (tTest (tOp rEq (tCall s_kind_at [] E0 (tCons (tVar 0) (tCons (tVar 3) tNil))) (tC (.str "mark")))) (sNPut P w K (tVar 2) (tTup (tCons (tOp (rIxT K) (tOp (rIxL K) (tOp (rIxT K) (tVar 0) (tC (.int 1))) (tOp (rIxT K) (tVar 3) (tC (.int 0)))) (tC (.int 1))) (tCons (tOp (rIxT K) (tVar 3) (tC (.int 1))) tNil))) (tNGet P w K (tVar 1) (tVar 3))) tNext))
(tRet (tVar 2)))))
theorem ok_inputs_of {P : Program} {w : World} {K : PySem.W.Frag} {mg : Str → Option Value} {base : Heap} {C : Addr} {f : Addr} {fd : FuncData} {s_Inputs_init s_kind_at : Sp} {aOne : Addr} (T : Txt K mg aOne) (F : FnP K "inputs_of" "inputs_of" SwH.s_inputs_of f fd) (KI_Inputs : KI P w K mg base C 9 P_Inputs_init s_Inputs_init) (G_kind_at : GF P w K mg base "kind_at" 1 P_kind_at s_kind_at)
    (sp : Sp) (len : ∀ vs H Q E, sp vs H Q E → vs.length = 1) (rd : ∀ vs H Q E, sp vs H Q E → t_inputs_of P w K C s_Inputs_init s_kind_at { nx := fun _ H' => Q .non H', rt := Q } (start N_inputs_of vs) H) : FnOk P w K mg base CX0 11 f fd P_inputs_of sp := by
  refine F.ok sc_inputs_of len (fun cdv A outer s H vs Q E hr h => ⟨t_inputs_of P w K C s_Inputs_init s_kind_at, PSs.nox ?_, rd vs H Q E h⟩)
  have hu : _ + 64 < cLine := hr.units
  have hud : _ + 65 < cLine := units65 hr
  have hu1 : _ + 1 < cLine := hu_of hr
  have huc : _ < cLine := hr.units0
  exact (pss_cons (ps_set (i := 1) sc_inputs_of.nd rfl (Or.inl rfl) (pe_fld (pe_ki KI_Inputs hr rfl (pa_cons (pv 0) pa_nil)) rfl))
(pss_cons (ps_set (i := 2) sc_inputs_of.nd rfl (Or.inl rfl) pe_nnew)
(pss_cons (ps_for PassesOwn.never rfl (pi_keysN (pv 1)) (pg_name (i := 3) sc_inputs_of.nd rfl (Or.inl rfl)) (pss_one (ps_if (pt_cmpR op_eq (pe_fn G_kind_at (hr.mono (by decide)) rfl (pa_cons (pv 0) (pa_cons (pv 3) pa_nil))) pe_str (nomark _)) (pss_one (ps_nput hu (pv 2) (pe_tup (pa_cons (pe_ix ix_tup (pe_ix ix_list (pe_ix ix_tup (pv 0) pe_int (fun _ _ => rfl)) (pe_ix ix_tup (pv 3) pe_int (fun _ _ => rfl)) (fun _ _ => rfl)) pe_int (fun _ _ => rfl)) (pa_cons (pe_ix ix_tup (pv 3) pe_int (fun _ _ => rfl)) pa_nil))) (pe_nget hu (pv 1) (pv 3) (fun _ _ => rfl)) rfl)) pss_nil)))
(pss_one (ps_ret (pv 2))))))
def N_all_so : List Str := ["some", "values", "saying"]
def P_all_so : List Str := ["some", "values"]
theorem sc_all_so : FnScope N_all_so P_all_so (defScope SwH.s_all_so) := ⟨rfl, rfl, rfl, by decide +kernel, rfl, by decide +kernel, by decide +kernel⟩
def t_all_so (P : Program) (w : World) (K : PySem.W.Frag) (s_is_so : Sp) : TS :=
(tSeq (tFor (iList K (tVar 0)) (gName 2) (tIfS (tNot (tB (tCall s_is_so [] E0 (tCons (tVar 2) (tCons (tVar 1) tNil))))) (tRet (tC (.bl false))) tNext))
(tRet (tC (.bl true))))
theorem ok_all_so {P : Program} {w : World} {K : PySem.W.Frag} {mg : Str → Option Value} {base : Heap} {f : Addr} {fd : FuncData} {s_is_so : Sp} {aOne : Addr} (T : Txt K mg aOne) (F : FnP K "all_so" "all_so" SwH.s_all_so f fd) (G_is_so : GF P w K mg base "is_so" 2 P_is_so s_is_so)
    (sp : Sp) (len : ∀ vs H Q E, sp vs H Q E → vs.length = 2) (rd : ∀ vs H Q E, sp vs H Q E → t_all_so P w K s_is_so { nx := fun _ H' => Q .non H', rt := Q } (start N_all_so vs) H) : FnOk P w K mg base CX0 3 f fd P_all_so sp := by
  refine F.ok sc_all_so len (fun cdv A outer s H vs Q E hr h => ⟨t_all_so P w K s_is_so, PSs.nox ?_, rd vs H Q E h⟩)
  have hu : _ + 64 < cLine := hr.units
  have hud : _ + 65 < cLine := units65 hr
  have hu1 : _ + 1 < cLine := hu_of hr
  have huc : _ < cLine := hr.units0
  exact (pss_cons (ps_for PassesOwn.never rfl (pi_list (pv 0)) (pg_name (i := 2) sc_all_so.nd rfl (Or.inl rfl)) (pss_one (ps_if (pt_not (pt_val (pe_fn G_is_so hr rfl (pa_cons (pv 2) (pa_cons (pv 1) pa_nil))))) (pss_one (ps_ret pe_bl)) pss_nil)))
(pss_one (ps_ret pe_bl)))
def N_keep_so : List Str := ["left", "coming", "met", "mark", "values", "saying"]
def P_keep_so : List Str := ["left", "coming", "met"]
theorem sc_keep_so : FnScope N_keep_so P_keep_so (defScope SwH.s_keep_so) := ⟨rfl, rfl, rfl, by decide +kernel, rfl, by decide +kernel, by decide +kernel⟩
def t_keep_so (P : Program) (w : World) (K : PySem.W.Frag) (s_is_so : Sp) : TS :=
(tFor (iList K (tVar 1)) (gTup K 2 (gCons (gName 3) (gCons (gName 4) gNil))) (tIfS (tB (tNNotIn P w K (tTup (tCons (tVar 3) (tCons (tVar 4) tNil))) (tVar 2))) (tSeq (sNPut P w K (tVar 2) (tTup (tCons (tVar 3) (tCons (tVar 4) tNil))) (tC (.bl true)))
(sDPut (tVar 0) (tVar 3) (tLc (iList K (tDGet (tVar 0) (tVar 3))) (gName 5) (tB (tCall s_is_so [] E0 (tCons (tVar 5) (tCons (tVar 4) tNil)))) (tVar 5) [5]))) tNext))
theorem ok_keep_so {P : Program} {w : World} {K : PySem.W.Frag} {mg : Str → Option Value} {base : Heap} {f : Addr} {fd : FuncData} {s_is_so : Sp} {aOne : Addr} (T : Txt K mg aOne) (F : FnP K "keep_so" "keep_so" SwH.s_keep_so f fd) (G_is_so : GF P w K mg base "is_so" 2 P_is_so s_is_so)
    (sp : Sp) (len : ∀ vs H Q E, sp vs H Q E → vs.length = 3) (rd : ∀ vs H Q E, sp vs H Q E → t_keep_so P w K s_is_so { nx := fun _ H' => Q .non H', rt := Q } (start N_keep_so vs) H) : FnOk P w K mg base CX0 3 f fd P_keep_so sp := by
  refine F.ok sc_keep_so len (fun cdv A outer s H vs Q E hr h => ⟨t_keep_so P w K s_is_so, PSs.nox ?_, rd vs H Q E h⟩)
  have hu : _ + 64 < cLine := hr.units
  have hud : _ + 65 < cLine := units65 hr
  have hu1 : _ + 1 < cLine := hu_of hr
  have huc : _ < cLine := hr.units0
  exact (pss_one (ps_for PassesOwn.never rfl (pi_list (pv 1)) (pg_tup rfl (pgs_cons (pg_name (i := 3) sc_keep_so.nd rfl (Or.inl rfl)) (pgs_cons (pg_name (i := 4) sc_keep_so.nd rfl (Or.inr rfl)) pgs_nil))) (pss_one (ps_if (pt_cmp (pc_nnotin hu (pe_tup (pa_cons (pv 3) (pa_cons (pv 4) pa_nil))) (pv 2))) (pss_cons (ps_nput hu (pv 2) (pe_tup (pa_cons (pv 3) (pa_cons (pv 4) pa_nil))) pe_bl rfl)
(pss_one (ps_dput hu1 (pv 0) (pv 3) (pe_lc (own := [("saying", 5)]) (g := (gName 5)) (tt := (tB (tCall s_is_so [] E0 (tCons (tVar 5) (tCons (tVar 4) tNil))))) rfl sc_keep_so.nd (pi_list (pe_dget hu1 (pv 0) (pv 3) (fun _ _ => rfl))) (blkOk_by (own := [("saying", 5)]) (N := N_keep_so) (sc := defScope SwH.s_keep_so) (by decide +kernel)) (fun _ _ _ _ _ => (pg_name (i := 5) sc_keep_so.nd rfl (Or.inl rfl))) (fun _ _ _ _ _ => pts_one (pt_val (pe_fn G_is_so hr rfl (pa_cons (pv 5) (pa_cons (pv 4) pa_nil))))) (fun _ _ _ _ _ => (pv 5))) rfl))) pss_nil))))
def N_greatest : List Str := ["program", "paper", "left", "mark", "some", "met", "gone", "again", "values"]
def P_greatest : List Str := ["program", "paper"]
theorem sc_greatest : FnScope N_greatest P_greatest (defScope SwH.s_greatest) := ⟨rfl, rfl, rfl, by decide +kernel, rfl, by decide +kernel, by decide +kernel⟩
def t_greatest (P : Program) (w : World) (K : PySem.W.Frag) (s_value_tuples s_next_of s_first_of s_all_so s_keep_so : Sp) : TS :=
(tSeq (tAsg tDNewK (gName 2))
(tSeq (tFor (iList K (tVar 1)) (gTup K 2 (gCons (gName 3) (gCons (gName 4) gNil))) (sDPut (tVar 2) (tVar 3) (tCB (rList2 K) (tCons (tVar 4) tNil))))
(tSeq (tAsg (tNNew P w) (gName 5))
(tSeq (tAsg (tNNew P w) (gName 6))
(tSeq (tDrop (tCall s_keep_so [] E0 (tCons (tVar 2) (tCons (tCall s_first_of [] E0 (tCons (tVar 0) tNil)) (tCons (tVar 5) tNil)))))
(tSeq (tAsg (tC (.bl true)) (gName 7))
(tSeq (tWhile (tB (tVar 7)) (tSeq (tAsg (tC (.bl false)) (gName 7))
(tFor (iList K (tVar 1)) (gTup K 2 (gCons (gName 3) (gCons (gName 4) gNil))) (tFor (iList K (tCall s_value_tuples [] E0 (tCons (tVar 0) tNil))) (gName 8) (tIfS (tAnd (tB (tNNotIn P w K (tTup (tCons (tVar 3) (tCons (tVar 8) tNil))) (tVar 6))) (tB (tCall s_all_so [] E0 (tCons (tDGet (tVar 2) (tVar 3)) (tCons (tVar 8) tNil))))) (tSeq (sNPut P w K (tVar 6) (tTup (tCons (tVar 3) (tCons (tVar 8) tNil))) (tC (.bl true)))
(tSeq (tAsg (tC (.bl true)) (gName 7))
(tDrop (tCall s_keep_so [] E0 (tCons (tVar 2) (tCons (tCall s_next_of [] E0 (tCons (tVar 0) (tCons (tVar 3) (tCons (tVar 8) tNil)))) (tCons (tVar 5) tNil))))))) tNext)))))
(tRet (tLc (iList K (tVar 1)) (gTup K 2 (gCons (gName 3) (gCons (gName 4) gNil))) tYes (tTup (tCons (tVar 3) (tCons (tDGet (tVar 2) (tVar 3)) tNil))) [3, 4])))))))))
theorem ok_greatest {P : Program} {w : World} {K : PySem.W.Frag} {mg : Str → Option Value} {base : Heap} {f : Addr} {fd : FuncData} {s_value_tuples s_next_of s_first_of s_all_so s_keep_so : Sp} {aOne : Addr} (T : Txt K mg aOne) (F : FnP K "greatest" "greatest" SwH.s_greatest f fd) (G_value_tuples : GF P w K mg base "value_tuples" 1 P_value_tuples s_value_tuples) (G_next_of : GF P w K mg base "next_of" 9 P_next_of s_next_of) (G_first_of : GF P w K mg base "first_of" 9 P_first_of s_first_of) (G_all_so : GF P w K mg base "all_so" 3 P_all_so s_all_so) (G_keep_so : GF P w K mg base "keep_so" 3 P_keep_so s_keep_so)
    (sp : Sp) (len : ∀ vs H Q E, sp vs H Q E → vs.length = 2) (rd : ∀ vs H Q E, sp vs H Q E → t_greatest P w K s_value_tuples s_next_of s_first_of s_all_so s_keep_so { nx := fun _ H' => Q .non H', rt := Q } (start N_greatest vs) H) : FnOk P w K mg base CX0 10 f fd P_greatest sp := by
  refine F.ok sc_greatest len (fun cdv A outer s H vs Q E hr h => ⟨t_greatest P w K s_value_tuples s_next_of s_first_of s_all_so s_keep_so, PSs.nox ?_, rd vs H Q E h⟩)
  have hu : _ + 64 < cLine := hr.units
  have hud : _ + 65 < cLine := units65 hr
  have hu1 : _ + 1 < cLine := hu_of hr
  have huc : _ < cLine := hr.units0
  exact (pss_cons (ps_set (i := 2) sc_greatest.nd rfl (Or.inr rfl) pe_dnewK)
(pss_cons (ps_for PassesOwn.never rfl (pi_list (pv 1)) (pg_tup rfl (pgs_cons (pg_name (i := 3) sc_greatest.nd rfl (Or.inl rfl)) (pgs_cons (pg_name (i := 4) sc_greatest.nd rfl (Or.inl rfl)) pgs_nil))) (pss_one (ps_dput hu1 (pv 2) (pv 3) (pe_callTy c_list rfl T.list bt_list (pa_cons (pv 4) pa_nil)) rfl)))
(pss_cons (ps_set (i := 5) sc_greatest.nd rfl (Or.inl rfl) pe_nnew)
(pss_cons (ps_set (i := 6) sc_greatest.nd rfl (Or.inl rfl) pe_nnew)
(pss_cons (ps_expr (pe_fn G_keep_so (hr.mono (by decide)) rfl (pa_cons (pv 2) (pa_cons (pe_fn G_first_of hr rfl (pa_cons (pv 0) pa_nil)) (pa_cons (pv 5) pa_nil)))))
(pss_cons (ps_set (i := 7) sc_greatest.nd rfl (Or.inl rfl) pe_bl)
(pss_cons (ps_while PassesOwn.never (pt_val (pv 7)) (pss_cons (ps_set (i := 7) sc_greatest.nd rfl (Or.inl rfl) pe_bl)
(pss_one (ps_for PassesOwn.never rfl (pi_list (pv 1)) (pg_tup rfl (pgs_cons (pg_name (i := 3) sc_greatest.nd rfl (Or.inl rfl)) (pgs_cons (pg_name (i := 4) sc_greatest.nd rfl (Or.inl rfl)) pgs_nil))) (pss_one (ps_for PassesOwn.never rfl (pi_list (pe_fn G_value_tuples (hr.mono (by decide)) rfl (pa_cons (pv 0) pa_nil))) (pg_name (i := 8) sc_greatest.nd rfl (Or.inl rfl)) (pss_one (ps_if (PW.pt (pw_and (pt_cmp (pc_nnotin hu (pe_tup (pa_cons (pv 3) (pa_cons (pv 8) pa_nil))) (pv 6))) (pw_and1 (pt_val (pe_fn G_all_so (hr.mono (by decide)) rfl (pa_cons (pe_dget hu1 (pv 2) (pv 3) (fun _ _ => rfl)) (pa_cons (pv 8) pa_nil))))))) (pss_cons (ps_nput hu (pv 6) (pe_tup (pa_cons (pv 3) (pa_cons (pv 8) pa_nil))) pe_bl rfl)
(pss_cons (ps_set (i := 7) sc_greatest.nd rfl (Or.inl rfl) pe_bl)
(pss_one (ps_expr (pe_fn G_keep_so (hr.mono (by decide)) rfl (pa_cons (pv 2) (pa_cons (pe_fn G_next_of hr rfl (pa_cons (pv 0) (pa_cons (pv 3) (pa_cons (pv 8) pa_nil)))) (pa_cons (pv 5) pa_nil)))))))) pss_nil))))))))
(pss_one (ps_ret (pe_lc (own := [("mark", 3), ("some", 4)]) (g := (gTup K 2 (gCons (gName 3) (gCons (gName 4) gNil)))) (tt := tYes) rfl sc_greatest.nd (pi_list (pv 1)) (blkOk_by (own := [("mark", 3), ("some", 4)]) (N := N_greatest) (sc := defScope SwH.s_greatest) (by decide +kernel)) (fun _ _ _ _ _ => (pg_tup rfl (pgs_cons (pg_name (i := 3) sc_greatest.nd rfl (Or.inl rfl)) (pgs_cons (pg_name (i := 4) sc_greatest.nd rfl (Or.inl rfl)) pgs_nil)))) (fun _ _ _ _ _ => pts_nil) (fun _ _ _ _ _ => (pe_tup (pa_cons (pv 3) (pa_cons (pe_dget hu1 (pv 2) (pv 3) (fun _ _ => rfl)) pa_nil))))))))))))))
def N_seen : List Str := ["program", "runs", "found", "mark", "numbers", "values"]
def P_seen : List Str := ["program", "runs"]
theorem sc_seen : FnScope N_seen P_seen (defScope SwH.s_seen) := ⟨rfl, rfl, rfl, by decide +kernel, rfl, by decide +kernel, by decide +kernel⟩
def t_seen (P : Program) (w : World) (K : PySem.W.Frag) (s_run s_marks_of : Sp) : TS :=
(tSeq (tAsg tDNewK (gName 2))
(tSeq (tFor (iList K (tCall s_marks_of [] E0 (tCons (tVar 0) tNil))) (gName 3) (sDPut (tVar 2) (tVar 3) (tNNew P w)))
(tSeq (tFor (iList K (tVar 1)) (gName 4) (tFor (iList K (tOp (rIxT K) (tCall s_run [] E0 (tCons (tVar 0) (tCons (tVar 4) tNil))) (tC (.int 0)))) (gTup K 2 (gCons (gName 3) (gCons (gName 5) gNil))) (sNPut P w K (tDGet (tVar 2) (tVar 3)) (tVar 5) (tC (.bl true)))))
(tRet (tLc (iList K (tCall s_marks_of [] E0 (tCons (tVar 0) tNil))) (gName 3) tYes (tTup (tCons (tVar 3) (tCons (tCB (rListN P w) (tCons (tDGet (tVar 2) (tVar 3)) tNil)) tNil))) [3])))))
theorem ok_seen {P : Program} {w : World} {K : PySem.W.Frag} {mg : Str → Option Value} {base : Heap} {f : Addr} {fd : FuncData} {s_run s_marks_of : Sp} {aOne : Addr} (T : Txt K mg aOne) (F : FnP K "seen" "seen" SwH.s_seen f fd) (G_run : GF P w K mg base "run" 7 P_run s_run) (G_marks_of : GF P w K mg base "marks_of" 1 P_marks_of s_marks_of)
    (sp : Sp) (len : ∀ vs H Q E, sp vs H Q E → vs.length = 2) (rd : ∀ vs H Q E, sp vs H Q E → t_seen P w K s_run s_marks_of { nx := fun _ H' => Q .non H', rt := Q } (start N_seen vs) H) : FnOk P w K mg base CX0 8 f fd P_seen sp := by
  refine F.ok sc_seen len (fun cdv A outer s H vs Q E hr h => ⟨t_seen P w K s_run s_marks_of, PSs.nox ?_, rd vs H Q E h⟩)
  have hu : _ + 64 < cLine := hr.units
  have hud : _ + 65 < cLine := units65 hr
  have hu1 : _ + 1 < cLine := hu_of hr
  have huc : _ < cLine := hr.units0
  exact (pss_cons (ps_set (i := 2) sc_seen.nd rfl (Or.inr rfl) pe_dnewK)
(pss_cons (ps_for PassesOwn.never rfl (pi_list (pe_fn G_marks_of (hr.mono (by decide)) rfl (pa_cons (pv 0) pa_nil))) (pg_name (i := 3) sc_seen.nd rfl (Or.inl rfl)) (pss_one (ps_dput hu1 (pv 2) (pv 3) pe_nnew rfl)))
(pss_cons (ps_for PassesOwn.never rfl (pi_list (pv 1)) (pg_name (i := 4) sc_seen.nd rfl (Or.inl rfl)) (pss_one (ps_for PassesOwn.never rfl (pi_list (pe_ix ix_tup (pe_fn G_run hr rfl (pa_cons (pv 0) (pa_cons (pv 4) pa_nil))) pe_int (fun _ _ => rfl))) (pg_tup rfl (pgs_cons (pg_name (i := 3) sc_seen.nd rfl (Or.inl rfl)) (pgs_cons (pg_name (i := 5) sc_seen.nd rfl (Or.inl rfl)) pgs_nil))) (pss_one (ps_nput hu (pe_dget hu1 (pv 2) (pv 3) (fun _ _ => rfl)) (pv 5) pe_bl rfl)))))
(pss_one (ps_ret (pe_lc (own := [("mark", 3)]) (g := (gName 3)) (tt := tYes) rfl sc_seen.nd (pi_list (pe_fn G_marks_of (hr.mono (by decide)) rfl (pa_cons (pv 0) pa_nil))) (blkOk_by (own := [("mark", 3)]) (N := N_seen) (sc := defScope SwH.s_seen) (by decide +kernel)) (fun _ _ _ _ _ => (pg_name (i := 3) sc_seen.nd rfl (Or.inl rfl))) (fun _ _ _ _ _ => pts_nil) (fun _ _ _ _ _ => (pe_tup (pa_cons (pv 3) (pa_cons (pe_callTy (call_listN rfl) rfl T.list bt_list (pa_cons (pe_dget hu1 (pv 2) (pv 3) (fun _ _ => rfl)) pa_nil)) pa_nil))))))))))
def N_so_of_all : List Str := ["saying", "some", "values"]
def P_so_of_all : List Str := ["saying", "some"]
theorem sc_so_of_all : FnScope N_so_of_all P_so_of_all (defScope SwH.s_so_of_all) := ⟨rfl, rfl, rfl, by decide +kernel, rfl, by decide +kernel, by decide +kernel⟩
def t_so_of_all (P : Program) (w : World) (K : PySem.W.Frag) (s_is_so : Sp) : TS :=
(tSeq (tFor (iList K (tVar 1)) (gName 2) (tIfS (tNot (tB (tCall s_is_so [] E0 (tCons (tVar 0) (tCons (tVar 2) tNil))))) (tRet (tC (.bl false))) tNext))
(tRet (tC (.bl true))))
theorem ok_so_of_all {P : Program} {w : World} {K : PySem.W.Frag} {mg : Str → Option Value} {base : Heap} {f : Addr} {fd : FuncData} {s_is_so : Sp} {aOne : Addr} (T : Txt K mg aOne) (F : FnP K "so_of_all" "so_of_all" SwH.s_so_of_all f fd) (G_is_so : GF P w K mg base "is_so" 2 P_is_so s_is_so)
    (sp : Sp) (len : ∀ vs H Q E, sp vs H Q E → vs.length = 2) (rd : ∀ vs H Q E, sp vs H Q E → t_so_of_all P w K s_is_so { nx := fun _ H' => Q .non H', rt := Q } (start N_so_of_all vs) H) : FnOk P w K mg base CX0 3 f fd P_so_of_all sp := by
  refine F.ok sc_so_of_all len (fun cdv A outer s H vs Q E hr h => ⟨t_so_of_all P w K s_is_so, PSs.nox ?_, rd vs H Q E h⟩)
  have hu : _ + 64 < cLine := hr.units
  have hud : _ + 65 < cLine := units65 hr
  have hu1 : _ + 1 < cLine := hu_of hr
  have huc : _ < cLine := hr.units0
  exact (pss_cons (ps_for PassesOwn.never rfl (pi_list (pv 1)) (pg_name (i := 2) sc_so_of_all.nd rfl (Or.inl rfl)) (pss_one (ps_if (pt_not (pt_val (pe_fn G_is_so hr rfl (pa_cons (pv 0) (pa_cons (pv 2) pa_nil))))) (pss_one (ps_ret pe_bl)) pss_nil)))
(pss_one (ps_ret pe_bl)))
def N_held : List Str := ["program", "runs", "mark", "some", "name", "values", "saying"]
def P_held : List Str := ["program", "runs", "mark"]
theorem sc_held : FnScope N_held P_held (defScope SwH.s_held) := ⟨rfl, rfl, rfl, by decide +kernel, rfl, by decide +kernel, by decide +kernel⟩
def t_held (P : Program) (w : World) (K : PySem.W.Frag) (s_sayings s_seen s_so_of_all : Sp) : TS :=
(tSeq (tAsg (tLst tNil) (gName 3))
(tSeq (tFor (iList K (tCall s_seen [] E0 (tCons (tVar 0) (tCons (tVar 1) tNil)))) (gTup K 2 (gCons (gName 4) (gCons (gName 5) gNil))) (tIfS (tTest (tOp rEq (tVar 4) (tVar 2))) (tAsg (tVar 5) (gName 3)) tNext))
(tSeq (tIfS (tTest (tOp (rEqNil K) (tVar 3) (tLst tNil))) (tRet (tC .non)) tNext)
(tRet (tLc (iList K (tCall s_sayings [] E0 (tCons (tVar 0) tNil))) (gName 6) (tB (tCall s_so_of_all [] E0 (tCons (tVar 6) (tCons (tVar 3) tNil)))) (tVar 6) [6])))))
theorem ok_held {P : Program} {w : World} {K : PySem.W.Frag} {mg : Str → Option Value} {base : Heap} {f : Addr} {fd : FuncData} {s_sayings s_seen s_so_of_all : Sp} {aOne : Addr} (T : Txt K mg aOne) (F : FnP K "held" "held" SwH.s_held f fd) (G_sayings : GF P w K mg base "sayings" 3 P_sayings s_sayings) (G_seen : GF P w K mg base "seen" 8 P_seen s_seen) (G_so_of_all : GF P w K mg base "so_of_all" 3 P_so_of_all s_so_of_all)
    (sp : Sp) (len : ∀ vs H Q E, sp vs H Q E → vs.length = 3) (rd : ∀ vs H Q E, sp vs H Q E → t_held P w K s_sayings s_seen s_so_of_all { nx := fun _ H' => Q .non H', rt := Q } (start N_held vs) H) : FnOk P w K mg base CX0 9 f fd P_held sp := by
  refine F.ok sc_held len (fun cdv A outer s H vs Q E hr h => ⟨t_held P w K s_sayings s_seen s_so_of_all, PSs.nox ?_, rd vs H Q E h⟩)
  have hu : _ + 64 < cLine := hr.units
  have hud : _ + 65 < cLine := units65 hr
  have hu1 : _ + 1 < cLine := hu_of hr
  have huc : _ < cLine := hr.units0
  exact (pss_cons (ps_set (i := 3) sc_held.nd rfl (Or.inr rfl) (pe_lst pa_nil))
(pss_cons (ps_for PassesOwn.never rfl (pi_list (pe_fn G_seen hr rfl (pa_cons (pv 0) (pa_cons (pv 1) pa_nil)))) (pg_tup rfl (pgs_cons (pg_name (i := 4) sc_held.nd rfl (Or.inl rfl)) (pgs_cons (pg_name (i := 5) sc_held.nd rfl (Or.inl rfl)) pgs_nil))) (pss_one (ps_if (pt_cmpR op_eq (pv 4) (pv 2) (nomark _)) (pss_one (ps_set (i := 3) sc_held.nd rfl (Or.inr rfl) (pv 5))) pss_nil)))
(pss_cons (ps_if (pt_cmpR (op_eqNil huc) (pv 3) (pe_lst pa_nil) (nomark _)) (pss_one (ps_ret pe_non)) pss_nil)
(pss_one (ps_ret (pe_lc (own := [("saying", 6)]) (g := (gName 6)) (tt := (tB (tCall s_so_of_all [] E0 (tCons (tVar 6) (tCons (tVar 3) tNil))))) rfl sc_held.nd (pi_list (pe_fn G_sayings (hr.mono (by decide)) rfl (pa_cons (pv 0) pa_nil))) (blkOk_by (own := [("saying", 6)]) (N := N_held) (sc := defScope SwH.s_held) (by decide +kernel)) (fun _ _ _ _ _ => (pg_name (i := 6) sc_held.nd rfl (Or.inl rfl))) (fun _ _ _ _ _ => pts_one (pt_val (pe_fn G_so_of_all (hr.mono (by decide)) rfl (pa_cons (pv 6) (pa_cons (pv 3) pa_nil))))) (fun _ _ _ _ _ => (pv 6))))))))
def N_inputs_by_marks : List Str := ["program", "found", "mark", "values", "numbers"]
def P_inputs_by_marks : List Str := ["program"]
theorem sc_inputs_by_marks : FnScope N_inputs_by_marks P_inputs_by_marks (defScope SwH.s_inputs_by_marks) := ⟨rfl, rfl, rfl, by decide +kernel, rfl, by decide +kernel, by decide +kernel⟩
def t_inputs_by_marks (P : Program) (w : World) (K : PySem.W.Frag) (s_marks_of s_inputs_of : Sp) : TS :=
(tSeq (tAsg tDNewK (gName 1))
(tSeq (tFor (iList K (tCall s_marks_of [] E0 (tCons (tVar 0) tNil))) (gName 2) (sDPut (tVar 1) (tVar 2) (tLst tNil)))
(tSeq (tFor (iItemsN P w (tCall s_inputs_of [] E0 (tCons (tVar 0) tNil))) (gTup K 2 (gCons (gTup K 2 (gCons (gName 2) (gCons (gName 3) gNil))) (gCons (gName 4) gNil))) (tDrop (tBM K "list" rAppend (tDGet (tVar 1) (tVar 2)) (tCons (tTup (tCons (tCB (rLen2 K) (tCons (tVar 4) tNil)) (tCons (tVar 4) (tCons (tVar 3) tNil)))) tNil))))
(tSeq (tFor (iList K (tCall s_marks_of [] E0 (tCons (tVar 0) tNil))) (gName 2) (sDPut (tVar 1) (tVar 2) (tCB (rSortL K) (tCons (tDGet (tVar 1) (tVar 2)) tNil))))
(tRet (tVar 1))))))
theorem ok_inputs_by_marks {P : Program} {w : World} {K : PySem.W.Frag} {mg : Str → Option Value} {base : Heap} {f : Addr} {fd : FuncData} {s_marks_of s_inputs_of : Sp} {aOne : Addr} (T : Txt K mg aOne) (F : FnP K "inputs_by_marks" "inputs_by_marks" SwH.s_inputs_by_marks f fd) (G_marks_of : GF P w K mg base "marks_of" 1 P_marks_of s_marks_of) (G_inputs_of : GF P w K mg base "inputs_of" 11 P_inputs_of s_inputs_of)
    (sp : Sp) (len : ∀ vs H Q E, sp vs H Q E → vs.length = 1) (rd : ∀ vs H Q E, sp vs H Q E → t_inputs_by_marks P w K s_marks_of s_inputs_of { nx := fun _ H' => Q .non H', rt := Q } (start N_inputs_by_marks vs) H) : FnOk P w K mg base CX0 12 f fd P_inputs_by_marks sp := by
  refine F.ok sc_inputs_by_marks len (fun cdv A outer s H vs Q E hr h => ⟨t_inputs_by_marks P w K s_marks_of s_inputs_of, PSs.nox ?_, rd vs H Q E h⟩)
  have hu : _ + 64 < cLine := hr.units
  have hud : _ + 65 < cLine := units65 hr
  have hu1 : _ + 1 < cLine := hu_of hr
  have huc : _ < cLine := hr.units0
  exact (pss_cons (ps_set (i := 1) sc_inputs_by_marks.nd rfl (Or.inl rfl) pe_dnewK)
(pss_cons (ps_for PassesOwn.never rfl (pi_list (pe_fn G_marks_of (hr.mono (by decide)) rfl (pa_cons (pv 0) pa_nil))) (pg_name (i := 2) sc_inputs_by_marks.nd rfl (Or.inl rfl)) (pss_one (ps_dput hu1 (pv 1) (pv 2) (pe_lst pa_nil) rfl)))
(pss_cons (ps_for PassesOwn.never rfl (pi_itemsN (pe_fn G_inputs_of hr rfl (pa_cons (pv 0) pa_nil))) (pg_tup rfl (pgs_cons (pg_tup rfl (pgs_cons (pg_name (i := 2) sc_inputs_by_marks.nd rfl (Or.inl rfl)) (pgs_cons (pg_name (i := 3) sc_inputs_by_marks.nd rfl (Or.inl rfl)) pgs_nil))) (pgs_cons (pg_name (i := 4) sc_inputs_by_marks.nd rfl (Or.inl rfl)) pgs_nil))) (pss_one (ps_expr (pe_bm PySem.F.plainAttrs_list PySem.F.slot_list_append PySem.F.type_list_append mt_append (pe_dget hu1 (pv 1) (pv 2) (fun _ _ => rfl)) (pa_cons (pe_tup (pa_cons (pe_callB c_len rfl T.len bt_len (pa_cons (pv 4) pa_nil)) (pa_cons (pv 4) (pa_cons (pv 3) pa_nil)))) pa_nil)))))
(pss_cons (ps_for PassesOwn.never rfl (pi_list (pe_fn G_marks_of (hr.mono (by decide)) rfl (pa_cons (pv 0) pa_nil))) (pg_name (i := 2) sc_inputs_by_marks.nd rfl (Or.inl rfl)) (pss_one (ps_dput hu1 (pv 1) (pv 2) (pe_callB (call_sortL hu) rfl T.sorted bt_sorted (pa_cons (pe_dget hu1 (pv 1) (pv 2) (fun _ _ => rfl)) pa_nil)) rfl)))
(pss_one (ps_ret (pv 1)))))))
def N_breaking : List Str := ["inputs", "saying", "many", "numbers", "values"]
def P_breaking : List Str := ["inputs", "saying"]
theorem sc_breaking : FnScope N_breaking P_breaking (defScope SwH.s_breaking) := ⟨rfl, rfl, rfl, by decide +kernel, rfl, by decide +kernel, by decide +kernel⟩
def t_breaking (P : Program) (w : World) (K : PySem.W.Frag) (s_is_so : Sp) : TS :=
(tSeq (tFor (iList K (tVar 0)) (gTup K 3 (gCons (gName 2) (gCons (gName 3) (gCons (gName 4) gNil)))) (tIfS (tNot (tB (tCall s_is_so [] E0 (tCons (tVar 1) (tCons (tVar 4) tNil))))) (tRet (tVar 3)) tNext))
(tRet (tC .non)))
theorem ok_breaking {P : Program} {w : World} {K : PySem.W.Frag} {mg : Str → Option Value} {base : Heap} {f : Addr} {fd : FuncData} {s_is_so : Sp} {aOne : Addr} (T : Txt K mg aOne) (F : FnP K "breaking" "breaking" SwH.s_breaking f fd) (G_is_so : GF P w K mg base "is_so" 2 P_is_so s_is_so)
    (sp : Sp) (len : ∀ vs H Q E, sp vs H Q E → vs.length = 2) (rd : ∀ vs H Q E, sp vs H Q E → t_breaking P w K s_is_so { nx := fun _ H' => Q .non H', rt := Q } (start N_breaking vs) H) : FnOk P w K mg base CX0 3 f fd P_breaking sp := by
  refine F.ok sc_breaking len (fun cdv A outer s H vs Q E hr h => ⟨t_breaking P w K s_is_so, PSs.nox ?_, rd vs H Q E h⟩)
  have hu : _ + 64 < cLine := hr.units
  have hud : _ + 65 < cLine := units65 hr
  have hu1 : _ + 1 < cLine := hu_of hr
  have huc : _ < cLine := hr.units0
  exact (pss_cons (ps_for PassesOwn.never rfl (pi_list (pv 0)) (pg_tup rfl (pgs_cons (pg_name (i := 2) sc_breaking.nd rfl (Or.inl rfl)) (pgs_cons (pg_name (i := 3) sc_breaking.nd rfl (Or.inl rfl)) (pgs_cons (pg_name (i := 4) sc_breaking.nd rfl (Or.inl rfl)) pgs_nil)))) (pss_one (ps_if (pt_not (pt_val (pe_fn G_is_so hr rfl (pa_cons (pv 1) (pa_cons (pv 4) pa_nil))))) (pss_one (ps_ret (pv 3))) pss_nil)))
(pss_one (ps_ret pe_non)))
def N_all_held : List Str := ["program", "runs", "mark"]
def P_all_held : List Str := ["program", "runs"]
theorem sc_all_held : FnScope N_all_held P_all_held (defScope SwH.s_all_held) := ⟨rfl, rfl, rfl, by decide +kernel, rfl, by decide +kernel, by decide +kernel⟩
def t_all_held (P : Program) (w : World) (K : PySem.W.Frag) (s_marks_of s_held : Sp) : TS :=
(tRet (tLc (iList K (tCall s_marks_of [] E0 (tCons (tVar 0) tNil))) (gName 2) tYes (tTup (tCons (tVar 2) (tCons (tCall s_held [] E0 (tCons (tVar 0) (tCons (tVar 1) (tCons (tVar 2) tNil)))) tNil))) [2]))
theorem ok_all_held {P : Program} {w : World} {K : PySem.W.Frag} {mg : Str → Option Value} {base : Heap} {f : Addr} {fd : FuncData} {s_marks_of s_held : Sp} {aOne : Addr} (T : Txt K mg aOne) (F : FnP K "all_held" "all_held" SwH.s_all_held f fd) (G_marks_of : GF P w K mg base "marks_of" 1 P_marks_of s_marks_of) (G_held : GF P w K mg base "held" 9 P_held s_held)
    (sp : Sp) (len : ∀ vs H Q E, sp vs H Q E → vs.length = 2) (rd : ∀ vs H Q E, sp vs H Q E → t_all_held P w K s_marks_of s_held { nx := fun _ H' => Q .non H', rt := Q } (start N_all_held vs) H) : FnOk P w K mg base CX0 10 f fd P_all_held sp := by
  refine F.ok sc_all_held len (fun cdv A outer s H vs Q E hr h => ⟨t_all_held P w K s_marks_of s_held, PSs.nox ?_, rd vs H Q E h⟩)
  have hu : _ + 64 < cLine := hr.units
  have hud : _ + 65 < cLine := units65 hr
  have hu1 : _ + 1 < cLine := hu_of hr
  have huc : _ < cLine := hr.units0
  exact (pss_one (ps_ret (pe_lc (own := [("mark", 2)]) (g := (gName 2)) (tt := tYes) rfl sc_all_held.nd (pi_list (pe_fn G_marks_of (hr.mono (by decide)) rfl (pa_cons (pv 0) pa_nil))) (blkOk_by (own := [("mark", 2)]) (N := N_all_held) (sc := defScope SwH.s_all_held) (by decide +kernel)) (fun _ _ _ _ _ => (pg_name (i := 2) sc_all_held.nd rfl (Or.inl rfl))) (fun _ _ _ _ _ => pts_nil) (fun _ _ _ _ _ => (pe_tup (pa_cons (pv 2) (pa_cons (pe_fn G_held hr rfl (pa_cons (pv 0) (pa_cons (pv 1) (pa_cons (pv 2) pa_nil)))) pa_nil)))))))
def N_paper_of : List Str := ["program", "pairs", "paper", "mark", "some"]
def P_paper_of : List Str := ["program", "pairs"]
theorem sc_paper_of : FnScope N_paper_of P_paper_of (defScope SwH.s_paper_of) := ⟨rfl, rfl, rfl, by decide +kernel, rfl, by decide +kernel, by decide +kernel⟩
def t_paper_of (P : Program) (w : World) (K : PySem.W.Frag) (s_sayings : Sp) : TS :=
(tSeq (tAsg (tLst tNil) (gName 2))
(tSeq (tFor (iList K (tVar 1)) (gTup K 2 (gCons (gName 3) (gCons (gName 4) gNil))) (tSeq (tIfS (tTest (tOp rIsN (tVar 4) (tC .non))) (tAsg (tCall s_sayings [] E0 (tCons (tVar 0) tNil)) (gName 4)) tNext)
(tDrop (tBM K "list" rAppend (tVar 2) (tCons (tTup (tCons (tVar 3) (tCons (tCB (rList2 K) (tCons (tVar 4) tNil)) tNil))) tNil)))))
(tRet (tVar 2))))
theorem ok_paper_of {P : Program} {w : World} {K : PySem.W.Frag} {mg : Str → Option Value} {base : Heap} {f : Addr} {fd : FuncData} {s_sayings : Sp} {aOne : Addr} (T : Txt K mg aOne) (F : FnP K "paper_of" "paper_of" SwH.s_paper_of f fd) (G_sayings : GF P w K mg base "sayings" 3 P_sayings s_sayings)
    (sp : Sp) (len : ∀ vs H Q E, sp vs H Q E → vs.length = 2) (rd : ∀ vs H Q E, sp vs H Q E → t_paper_of P w K s_sayings { nx := fun _ H' => Q .non H', rt := Q } (start N_paper_of vs) H) : FnOk P w K mg base CX0 4 f fd P_paper_of sp := by
  refine F.ok sc_paper_of len (fun cdv A outer s H vs Q E hr h => ⟨t_paper_of P w K s_sayings, PSs.nox ?_, rd vs H Q E h⟩)
  have hu : _ + 64 < cLine := hr.units
  have hud : _ + 65 < cLine := units65 hr
  have hu1 : _ + 1 < cLine := hu_of hr
  have huc : _ < cLine := hr.units0
  exact (pss_cons (ps_set (i := 2) sc_paper_of.nd rfl (Or.inl rfl) (pe_lst pa_nil))
(pss_cons (ps_for PassesOwn.never rfl (pi_list (pv 1)) (pg_tup rfl (pgs_cons (pg_name (i := 3) sc_paper_of.nd rfl (Or.inl rfl)) (pgs_cons (pg_name (i := 4) sc_paper_of.nd rfl (Or.inl rfl)) pgs_nil))) (pss_cons (ps_if (pt_cmpR op_isN1 (pv 4) pe_non (nomark _)) (pss_one (ps_set (i := 4) sc_paper_of.nd rfl (Or.inl rfl) (pe_fn G_sayings hr rfl (pa_cons (pv 0) pa_nil)))) pss_nil)
(pss_one (ps_expr (pe_bm PySem.F.plainAttrs_list PySem.F.slot_list_append PySem.F.type_list_append mt_append (pv 2) (pa_cons (pe_tup (pa_cons (pv 3) (pa_cons (pe_callTy c_list rfl T.list bt_list (pa_cons (pv 4) pa_nil)) pa_nil))) pa_nil))))))
(pss_one (ps_ret (pv 2)))))
def N_verdict_of : List Str := ["inputs", "saying", "shown", "numbers"]
def P_verdict_of : List Str := ["inputs", "saying", "shown"]
theorem sc_verdict_of : FnScope N_verdict_of P_verdict_of (defScope SwH.s_verdict_of) := ⟨rfl, rfl, rfl, by decide +kernel, rfl, by decide +kernel, by decide +kernel⟩
def t_verdict_of (P : Program) (w : World) (K : PySem.W.Frag) (s_breaking : Sp) : TS :=
(tSeq (tIfS (tB (tNIn P w K (tVar 1) (tVar 2))) (tRet (tC (.str "shown"))) tNext)
(tSeq (tAsg (tCall s_breaking [] E0 (tCons (tVar 0) (tCons (tVar 1) tNil))) (gName 3))
(tSeq (tIfS (tTest (tOp rIsN (tVar 3) (tC .non))) (tRet (tC (.str "open"))) tNext)
(tRet (tTup (tCons (tC (.str "broken")) (tCons (tCB (rList2 K) (tCons (tVar 3) tNil)) tNil)))))))
theorem ok_verdict_of {P : Program} {w : World} {K : PySem.W.Frag} {mg : Str → Option Value} {base : Heap} {f : Addr} {fd : FuncData} {s_breaking : Sp} {aOne : Addr} (T : Txt K mg aOne) (F : FnP K "verdict_of" "verdict_of" SwH.s_verdict_of f fd) (G_breaking : GF P w K mg base "breaking" 3 P_breaking s_breaking)
    (sp : Sp) (len : ∀ vs H Q E, sp vs H Q E → vs.length = 3) (rd : ∀ vs H Q E, sp vs H Q E → t_verdict_of P w K s_breaking { nx := fun _ H' => Q .non H', rt := Q } (start N_verdict_of vs) H) : FnOk P w K mg base CX0 4 f fd P_verdict_of sp := by
  refine F.ok sc_verdict_of len (fun cdv A outer s H vs Q E hr h => ⟨t_verdict_of P w K s_breaking, PSs.nox ?_, rd vs H Q E h⟩)
  have hu : _ + 64 < cLine := hr.units
  have hud : _ + 65 < cLine := units65 hr
  have hu1 : _ + 1 < cLine := hu_of hr
  have huc : _ < cLine := hr.units0
  exact (pss_cons (ps_if (pt_cmp (pc_nin hu (pv 1) (pv 2))) (pss_one (ps_ret pe_str)) pss_nil)
(pss_cons (ps_set (i := 3) sc_verdict_of.nd rfl (Or.inl rfl) (pe_fn G_breaking hr rfl (pa_cons (pv 0) (pa_cons (pv 1) pa_nil))))
(pss_cons (ps_if (pt_cmpR op_isN1 (pv 3) pe_non (nomark _)) (pss_one (ps_ret pe_str)) pss_nil)
(pss_one (ps_ret (pe_tup (pa_cons pe_str (pa_cons (pe_callTy c_list rfl T.list bt_list (pa_cons (pv 3) pa_nil)) pa_nil))))))))
def N_judged : List Str := ["program", "runs", "pairs", "paper", "inputs", "told", "k", "mark", "some", "shown", "saying"]
def P_judged : List Str := ["program", "runs"]
theorem sc_judged : FnScope N_judged P_judged (defScope SwH.s_judged) := ⟨rfl, rfl, rfl, by decide +kernel, rfl, by decide +kernel, by decide +kernel⟩
def t_judged (P : Program) (w : World) (K : PySem.W.Frag) (s_greatest s_inputs_by_marks s_all_held s_paper_of s_verdict_of : Sp) : TS :=
(tSeq (tAsg (tCall s_all_held [] E0 (tCons (tVar 0) (tCons (tVar 1) tNil))) (gName 2))
(tSeq (tAsg (tCall s_greatest [] E0 (tCons (tVar 0) (tCons (tCall s_paper_of [] E0 (tCons (tVar 0) (tCons (tVar 2) tNil))) tNil))) (gName 3))
(tSeq (tAsg (tCall s_inputs_by_marks [] E0 (tCons (tVar 0) tNil)) (gName 4))
(tSeq (tAsg (tLst tNil) (gName 5))
(tSeq (tFor (iEnum K (tCons (tVar 2) tNil)) (gTup K 2 (gCons (gName 6) (gCons (gTup K 2 (gCons (gName 7) (gCons (gName 8) gNil))) gNil))) (tSeq (tIfS (tTest (tOp rIsN (tVar 8) (tC .non))) tCont tNext)
(tSeq (tAsg (tNNew P w) (gName 9))
(tSeq (tFor (iList K (tOp (rIxT K) (tOp (rIxL K) (tVar 3) (tVar 6)) (tC (.int 1)))) (gName 10) (sNPut P w K (tVar 9) (tVar 10) (tC (.bl true))))
(tFor (iList K (tVar 8)) (gName 10) (tDrop (tBM K "list" rAppend (tVar 5) (tCons (tTup (tCons (tVar 7) (tCons (tVar 10) (tCons (tCall s_verdict_of [] E0 (tCons (tDGet (tVar 4) (tVar 7)) (tCons (tVar 10) (tCons (tVar 9) tNil)))) tNil)))) tNil))))))))
(tRet (tVar 5)))))))
theorem ok_judged {P : Program} {w : World} {K : PySem.W.Frag} {mg : Str → Option Value} {base : Heap} {f : Addr} {fd : FuncData} {s_greatest s_inputs_by_marks s_all_held s_paper_of s_verdict_of : Sp} {aOne : Addr} (T : Txt K mg aOne) (F : FnP K "judged" "judged" SwH.s_judged f fd) (G_greatest : GF P w K mg base "greatest" 10 P_greatest s_greatest) (G_inputs_by_marks : GF P w K mg base "inputs_by_marks" 12 P_inputs_by_marks s_inputs_by_marks) (G_all_held : GF P w K mg base "all_held" 10 P_all_held s_all_held) (G_paper_of : GF P w K mg base "paper_of" 4 P_paper_of s_paper_of) (G_verdict_of : GF P w K mg base "verdict_of" 4 P_verdict_of s_verdict_of)
    (sp : Sp) (len : ∀ vs H Q E, sp vs H Q E → vs.length = 2) (rd : ∀ vs H Q E, sp vs H Q E → t_judged P w K s_greatest s_inputs_by_marks s_all_held s_paper_of s_verdict_of { nx := fun _ H' => Q .non H', rt := Q } (start N_judged vs) H) : FnOk P w K mg base CX0 13 f fd P_judged sp := by
  refine F.ok sc_judged len (fun cdv A outer s H vs Q E hr h => ⟨t_judged P w K s_greatest s_inputs_by_marks s_all_held s_paper_of s_verdict_of, PSs.nox ?_, rd vs H Q E h⟩)
  have hu : _ + 64 < cLine := hr.units
  have hud : _ + 65 < cLine := units65 hr
  have hu1 : _ + 1 < cLine := hu_of hr
  have huc : _ < cLine := hr.units0
  exact (pss_cons (ps_set (i := 2) sc_judged.nd rfl (Or.inl rfl) (pe_fn G_all_held (hr.mono (by decide)) rfl (pa_cons (pv 0) (pa_cons (pv 1) pa_nil))))
(pss_cons (ps_set (i := 3) sc_judged.nd rfl (Or.inl rfl) (pe_fn G_greatest (hr.mono (by decide)) rfl (pa_cons (pv 0) (pa_cons (pe_fn G_paper_of (hr.mono (by decide)) rfl (pa_cons (pv 0) (pa_cons (pv 2) pa_nil))) pa_nil))))
(pss_cons (ps_set (i := 4) sc_judged.nd rfl (Or.inl rfl) (pe_fn G_inputs_by_marks hr rfl (pa_cons (pv 0) pa_nil)))
(pss_cons (ps_set (i := 5) sc_judged.nd rfl (Or.inl rfl) (pe_lst pa_nil))
(pss_cons (ps_for PassesOwn.never rfl (pi_enum rfl T.enumerate (pa_cons (pv 2) pa_nil)) (pg_tup rfl (pgs_cons (pg_name (i := 6) sc_judged.nd rfl (Or.inl rfl)) (pgs_cons (pg_tup rfl (pgs_cons (pg_name (i := 7) sc_judged.nd rfl (Or.inl rfl)) (pgs_cons (pg_name (i := 8) sc_judged.nd rfl (Or.inl rfl)) pgs_nil))) pgs_nil))) (pss_cons (ps_if (pt_cmpR op_isN1 (pv 8) pe_non (nomark _)) (pss_one ps_continue) pss_nil)
(pss_cons (ps_set (i := 9) sc_judged.nd rfl (Or.inl rfl) pe_nnew)
(pss_cons (ps_for PassesOwn.never rfl (pi_list (pe_ix ix_tup (pe_ix ix_list (pv 3) (pv 6) (fun _ _ => rfl)) pe_int (fun _ _ => rfl))) (pg_name (i := 10) sc_judged.nd rfl (Or.inl rfl)) (pss_one (ps_nput hu (pv 9) (pv 10) pe_bl rfl)))
(pss_one (ps_for PassesOwn.never rfl (pi_list (pv 8)) (pg_name (i := 10) sc_judged.nd rfl (Or.inl rfl)) (pss_one (ps_expr (pe_bm PySem.F.plainAttrs_list PySem.F.slot_list_append PySem.F.type_list_append mt_append (pv 5) (pa_cons (pe_tup (pa_cons (pv 7) (pa_cons (pv 10) (pa_cons (pe_fn G_verdict_of (hr.mono (by decide)) rfl (pa_cons (pe_dget hu1 (pv 4) (pv 7) (fun _ _ => rfl)) (pa_cons (pv 10) (pa_cons (pv 9) pa_nil)))) pa_nil)))) pa_nil))))))))))
(pss_one (ps_ret (pv 5))))))))
def N_with_all_marks : List Str := ["program", "inputs", "runs", "told", "passed", "numbers", "mark", "values", "name"]
def P_with_all_marks : List Str := ["program", "inputs", "runs"]
theorem sc_with_all_marks : FnScope N_with_all_marks P_with_all_marks (defScope SwH.s_with_all_marks) := ⟨rfl, rfl, rfl, by decide +kernel, rfl, by decide +kernel, by decide +kernel⟩
def t_with_all_marks (P : Program) (w : World) (K : PySem.W.Frag) (s_run s_marks_of : Sp) : TS :=
(tSeq (tAsg (tLc (iList K (tVar 2)) (gName 5) tYes (tCB (rList2 K) (tCons (tVar 5) tNil)) [5]) (gName 3))
(tSeq (tAsg tDNewK (gName 4))
(tSeq (tFor (iList K (tVar 3)) (gName 5) (tFor (iList K (tOp (rIxT K) (tCall s_run [] E0 (tCons (tVar 0) (tCons (tVar 5) tNil))) (tC (.int 0)))) (gTup K 2 (gCons (gName 6) (gCons (gName 7) gNil))) (sDPut (tVar 4) (tVar 6) (tC (.bl true)))))
(tSeq (tFor (iList K (tCall s_marks_of [] E0 (tCons (tVar 0) tNil))) (gName 6) (tIfS (tAnd (tB (tDNotIn (tVar 6) (tVar 4))) (tTest (tOp (rNeNil K) (tDGet (tVar 1) (tVar 6)) (tLst tNil)))) (tSeq (tAsg (tCB (rList2 K) (tCons (tOp (rIxT K) (tOp (rIxL K) (tDGet (tVar 1) (tVar 6)) (tC (.int 0))) (tC (.int 1))) tNil)) (gName 5))
(tSeq (tDrop (tBM K "list" rAppend (tVar 3) (tCons (tVar 5) tNil)))
(tFor (iList K (tOp (rIxT K) (tCall s_run [] E0 (tCons (tVar 0) (tCons (tVar 5) tNil))) (tC (.int 0)))) (gTup K 2 (gCons (gName 8) (gCons (gName 7) gNil))) (sDPut (tVar 4) (tVar 8) (tC (.bl true)))))) tNext))
(tRet (tVar 3))))))
theorem ok_with_all_marks {P : Program} {w : World} {K : PySem.W.Frag} {mg : Str → Option Value} {base : Heap} {f : Addr} {fd : FuncData} {s_run s_marks_of : Sp} {aOne : Addr} (T : Txt K mg aOne) (F : FnP K "with_all_marks" "with_all_marks" SwH.s_with_all_marks f fd) (G_run : GF P w K mg base "run" 7 P_run s_run) (G_marks_of : GF P w K mg base "marks_of" 1 P_marks_of s_marks_of)
    (sp : Sp) (len : ∀ vs H Q E, sp vs H Q E → vs.length = 3) (rd : ∀ vs H Q E, sp vs H Q E → t_with_all_marks P w K s_run s_marks_of { nx := fun _ H' => Q .non H', rt := Q } (start N_with_all_marks vs) H) : FnOk P w K mg base CX0 8 f fd P_with_all_marks sp := by
  refine F.ok sc_with_all_marks len (fun cdv A outer s H vs Q E hr h => ⟨t_with_all_marks P w K s_run s_marks_of, PSs.nox ?_, rd vs H Q E h⟩)
  have hu : _ + 64 < cLine := hr.units
  have hud : _ + 65 < cLine := units65 hr
  have hu1 : _ + 1 < cLine := hu_of hr
  have huc : _ < cLine := hr.units0
  exact (pss_cons (ps_setLc (i := 3) (own := [("numbers", 5)]) (g := (gName 5)) (tt := tYes) rfl sc_with_all_marks.nd rfl rfl (sw_true rfl rfl rfl (by decide +kernel)) (pi_list (pv 2)) (blkOk_by (own := [("numbers", 5)]) (N := N_with_all_marks) (sc := defScope SwH.s_with_all_marks) (by decide +kernel)) (fun _ _ _ _ _ => (pg_name (i := 5) sc_with_all_marks.nd rfl (Or.inl rfl))) (fun _ _ _ _ _ => pts_nil) (fun _ _ _ _ _ => (pe_callTy c_list rfl T.list bt_list (pa_cons (pv 5) pa_nil))))
(pss_cons (ps_set (i := 4) sc_with_all_marks.nd rfl (Or.inl rfl) pe_dnewK)
(pss_cons (ps_for PassesOwn.never rfl (pi_list (pv 3)) (pg_name (i := 5) sc_with_all_marks.nd rfl (Or.inl rfl)) (pss_one (ps_for PassesOwn.never rfl (pi_list (pe_ix ix_tup (pe_fn G_run hr rfl (pa_cons (pv 0) (pa_cons (pv 5) pa_nil))) pe_int (fun _ _ => rfl))) (pg_tup rfl (pgs_cons (pg_name (i := 6) sc_with_all_marks.nd rfl (Or.inl rfl)) (pgs_cons (pg_name (i := 7) sc_with_all_marks.nd rfl (Or.inl rfl)) pgs_nil))) (pss_one (ps_dput hu1 (pv 4) (pv 6) pe_bl rfl)))))
(pss_cons (ps_for PassesOwn.never rfl (pi_list (pe_fn G_marks_of (hr.mono (by decide)) rfl (pa_cons (pv 0) pa_nil))) (pg_name (i := 6) sc_with_all_marks.nd rfl (Or.inl rfl)) (pss_one (ps_if (PW.pt (pw_and (pt_cmp (pc_dnotin hu1 (pv 6) (pv 4))) (pw_and1 (pt_cmpR (op_neNil huc) (pe_dget hu1 (pv 1) (pv 6) (fun _ _ => rfl)) (pe_lst pa_nil) (nomark _))))) (pss_cons (ps_set (i := 5) sc_with_all_marks.nd rfl (Or.inl rfl) (pe_callTy c_list rfl T.list bt_list (pa_cons (pe_ix ix_tup (pe_ix ix_list (pe_dget hu1 (pv 1) (pv 6) (fun _ _ => rfl)) pe_int (fun _ _ => rfl)) pe_int (fun _ _ => rfl)) pa_nil)))
(pss_cons (ps_expr (pe_bm PySem.F.plainAttrs_list PySem.F.slot_list_append PySem.F.type_list_append mt_append (pv 3) (pa_cons (pv 5) pa_nil)))
(pss_one (ps_for PassesOwn.never rfl (pi_list (pe_ix ix_tup (pe_fn G_run hr rfl (pa_cons (pv 0) (pa_cons (pv 5) pa_nil))) pe_int (fun _ _ => rfl))) (pg_tup rfl (pgs_cons (pg_name (i := 8) sc_with_all_marks.nd rfl (Or.inl rfl)) (pgs_cons (pg_name (i := 7) sc_with_all_marks.nd rfl (Or.inl rfl)) pgs_nil))) (pss_one (ps_dput hu1 (pv 4) (pv 8) pe_bl rfl)))))) pss_nil)))
(pss_one (ps_ret (pv 3)))))))
def N_first_broken : List Str := ["program", "inputs", "runs", "safe", "mark", "some", "saying", "numbers"]
def P_first_broken : List Str := ["program", "inputs", "runs", "safe"]
theorem sc_first_broken : FnScope N_first_broken P_first_broken (defScope SwH.s_first_broken) := ⟨rfl, rfl, rfl, by decide +kernel, rfl, by decide +kernel, by decide +kernel⟩
def t_first_broken (P : Program) (w : World) (K : PySem.W.Frag) (s_breaking s_all_held : Sp) : TS :=
(tSeq (tFor (iList K (tCall s_all_held [] E0 (tCons (tVar 0) (tCons (tVar 2) tNil)))) (gTup K 2 (gCons (gName 4) (gCons (gName 5) gNil))) (tSeq (tIfS (tTest (tOp rIsN (tVar 5) (tC .non))) tCont tNext)
(tFor (iList K (tVar 5)) (gName 6) (tIfS (tB (tNNotIn P w K (tTup (tCons (tVar 4) (tCons (tVar 6) tNil))) (tVar 3))) (tSeq (tAsg (tCall s_breaking [] E0 (tCons (tDGet (tVar 1) (tVar 4)) (tCons (tVar 6) tNil))) (gName 7))
(tSeq (tIfS (tTest (tOp rNotN (tVar 7) (tC .non))) (tRet (tVar 7)) tNext)
(sNPut P w K (tVar 3) (tTup (tCons (tVar 4) (tCons (tVar 6) tNil))) (tC (.bl true))))) tNext))))
(tRet (tC .non)))
theorem ok_first_broken {P : Program} {w : World} {K : PySem.W.Frag} {mg : Str → Option Value} {base : Heap} {f : Addr} {fd : FuncData} {s_breaking s_all_held : Sp} {aOne : Addr} (T : Txt K mg aOne) (F : FnP K "first_broken" "first_broken" SwH.s_first_broken f fd) (G_breaking : GF P w K mg base "breaking" 3 P_breaking s_breaking) (G_all_held : GF P w K mg base "all_held" 10 P_all_held s_all_held)
    (sp : Sp) (len : ∀ vs H Q E, sp vs H Q E → vs.length = 4) (rd : ∀ vs H Q E, sp vs H Q E → t_first_broken P w K s_breaking s_all_held { nx := fun _ H' => Q .non H', rt := Q } (start N_first_broken vs) H) : FnOk P w K mg base CX0 11 f fd P_first_broken sp := by
  refine F.ok sc_first_broken len (fun cdv A outer s H vs Q E hr h => ⟨t_first_broken P w K s_breaking s_all_held, PSs.nox ?_, rd vs H Q E h⟩)
  have hu : _ + 64 < cLine := hr.units
  have hud : _ + 65 < cLine := units65 hr
  have hu1 : _ + 1 < cLine := hu_of hr
  have huc : _ < cLine := hr.units0
  exact (pss_cons (ps_for PassesOwn.never rfl (pi_list (pe_fn G_all_held hr rfl (pa_cons (pv 0) (pa_cons (pv 2) pa_nil)))) (pg_tup rfl (pgs_cons (pg_name (i := 4) sc_first_broken.nd rfl (Or.inl rfl)) (pgs_cons (pg_name (i := 5) sc_first_broken.nd rfl (Or.inl rfl)) pgs_nil))) (pss_cons (ps_if (pt_cmpR op_isN1 (pv 5) pe_non (nomark _)) (pss_one ps_continue) pss_nil)
(pss_one (ps_for PassesOwn.never rfl (pi_list (pv 5)) (pg_name (i := 6) sc_first_broken.nd rfl (Or.inl rfl)) (pss_one (ps_if (pt_cmp (pc_nnotin hu (pe_tup (pa_cons (pv 4) (pa_cons (pv 6) pa_nil))) (pv 3))) (pss_cons (ps_set (i := 7) sc_first_broken.nd rfl (Or.inl rfl) (pe_fn G_breaking (hr.mono (by decide)) rfl (pa_cons (pe_dget hu1 (pv 1) (pv 4) (fun _ _ => rfl)) (pa_cons (pv 6) pa_nil))))
(pss_cons (ps_if (pt_cmpR op_notN1 (pv 7) pe_non (nomark _)) (pss_one (ps_ret (pv 7))) pss_nil)
(pss_one (ps_nput hu (pv 3) (pe_tup (pa_cons (pv 4) (pa_cons (pv 6) pa_nil))) pe_bl rfl)))) pss_nil))))))
(pss_one (ps_ret pe_non)))
def N_settled : List Str := ["program", "runs", "inputs", "told", "safe", "numbers"]
def P_settled : List Str := ["program", "runs"]
theorem sc_settled : FnScope N_settled P_settled (defScope SwH.s_settled) := ⟨rfl, rfl, rfl, by decide +kernel, rfl, by decide +kernel, by decide +kernel⟩
def t_settled (P : Program) (w : World) (K : PySem.W.Frag) (s_inputs_by_marks s_with_all_marks s_first_broken : Sp) : TS :=
(tSeq (tAsg (tCall s_inputs_by_marks [] E0 (tCons (tVar 0) tNil)) (gName 2))
(tSeq (tAsg (tCall s_with_all_marks [] E0 (tCons (tVar 0) (tCons (tVar 2) (tCons (tVar 1) tNil)))) (gName 3))
(tSeq (tAsg (tNNew P w) (gName 4))
(tSeq (tAsg (tCall s_first_broken [] E0 (tCons (tVar 0) (tCons (tVar 2) (tCons (tVar 3) (tCons (tVar 4) tNil))))) (gName 5))
(tSeq (tWhile (tTest (tOp rNotN (tVar 5) (tC .non))) (tSeq (tDrop (tBM K "list" rAppend (tVar 3) (tCons (tCB (rList2 K) (tCons (tVar 5) tNil)) tNil)))
(tAsg (tCall s_first_broken [] E0 (tCons (tVar 0) (tCons (tVar 2) (tCons (tVar 3) (tCons (tVar 4) tNil))))) (gName 5))))
(tRet (tVar 3)))))))
theorem ok_settled {P : Program} {w : World} {K : PySem.W.Frag} {mg : Str → Option Value} {base : Heap} {f : Addr} {fd : FuncData} {s_inputs_by_marks s_with_all_marks s_first_broken : Sp} {aOne : Addr} (T : Txt K mg aOne) (F : FnP K "settled" "settled" SwH.s_settled f fd) (G_inputs_by_marks : GF P w K mg base "inputs_by_marks" 12 P_inputs_by_marks s_inputs_by_marks) (G_with_all_marks : GF P w K mg base "with_all_marks" 8 P_with_all_marks s_with_all_marks) (G_first_broken : GF P w K mg base "first_broken" 11 P_first_broken s_first_broken)
    (sp : Sp) (len : ∀ vs H Q E, sp vs H Q E → vs.length = 2) (rd : ∀ vs H Q E, sp vs H Q E → t_settled P w K s_inputs_by_marks s_with_all_marks s_first_broken { nx := fun _ H' => Q .non H', rt := Q } (start N_settled vs) H) : FnOk P w K mg base CX0 13 f fd P_settled sp := by
  refine F.ok sc_settled len (fun cdv A outer s H vs Q E hr h => ⟨t_settled P w K s_inputs_by_marks s_with_all_marks s_first_broken, PSs.nox ?_, rd vs H Q E h⟩)
  have hu : _ + 64 < cLine := hr.units
  have hud : _ + 65 < cLine := units65 hr
  have hu1 : _ + 1 < cLine := hu_of hr
  have huc : _ < cLine := hr.units0
  exact (pss_cons (ps_set (i := 2) sc_settled.nd rfl (Or.inl rfl) (pe_fn G_inputs_by_marks hr rfl (pa_cons (pv 0) pa_nil)))
(pss_cons (ps_set (i := 3) sc_settled.nd rfl (Or.inl rfl) (pe_fn G_with_all_marks (hr.mono (by decide)) rfl (pa_cons (pv 0) (pa_cons (pv 2) (pa_cons (pv 1) pa_nil)))))
(pss_cons (ps_set (i := 4) sc_settled.nd rfl (Or.inl rfl) pe_nnew)
(pss_cons (ps_set (i := 5) sc_settled.nd rfl (Or.inl rfl) (pe_fn G_first_broken (hr.mono (by decide)) rfl (pa_cons (pv 0) (pa_cons (pv 2) (pa_cons (pv 3) (pa_cons (pv 4) pa_nil))))))
(pss_cons (ps_while PassesOwn.never (pt_cmpR op_notN1 (pv 5) pe_non (nomark _)) (pss_cons (ps_expr (pe_bm PySem.F.plainAttrs_list PySem.F.slot_list_append PySem.F.type_list_append mt_append (pv 3) (pa_cons (pe_callTy c_list rfl T.list bt_list (pa_cons (pv 5) pa_nil)) pa_nil)))
(pss_one (ps_set (i := 5) sc_settled.nd rfl (Or.inl rfl) (pe_fn G_first_broken (hr.mono (by decide)) rfl (pa_cons (pv 0) (pa_cons (pv 2) (pa_cons (pv 3) (pa_cons (pv 4) pa_nil)))))))))
(pss_one (ps_ret (pv 3))))))))
def N_law_cell : List Str := ["script", "k"]
def P_law_cell : List Str := ["script", "k"]
theorem sc_law_cell : FnScope N_law_cell P_law_cell (defScope SwH.s_law_cell) := ⟨rfl, rfl, rfl, by decide +kernel, rfl, by decide +kernel, by decide +kernel⟩
def t_law_cell (P : Program) (w : World) (K : PySem.W.Frag) : TS :=
(tSeq (tIfS (tTest (tOp rLt2 (tVar 1) (tCB (rLen2 K) (tCons (tVar 0) tNil)))) (tRet (tOp (rIxL K) (tVar 0) (tVar 1))) tNext)
(tRet (tOp rAdd2 (tOp rAdd2 (tOp rMul2 (tOp rMul2 (tC (.int 7)) (tVar 1)) (tVar 1)) (tOp rMul2 (tC (.int 3)) (tVar 1))) (tC (.int 11)))))
theorem ok_law_cell {P : Program} {w : World} {K : PySem.W.Frag} {mg : Str → Option Value} {base : Heap} {f : Addr} {fd : FuncData} {aOne : Addr} (T : Txt K mg aOne) (F : FnP K "_law_cell" "_law_cell" SwH.s_law_cell f fd) 
    (sp : Sp) (len : ∀ vs H Q E, sp vs H Q E → vs.length = 2) (rd : ∀ vs H Q E, sp vs H Q E → t_law_cell P w K { nx := fun _ H' => Q .non H', rt := Q } (start N_law_cell vs) H) : FnOk P w K mg base CX0 1 f fd P_law_cell sp := by
  refine F.ok sc_law_cell len (fun cdv A outer s H vs Q E hr h => ⟨t_law_cell P w K, PSs.nox ?_, rd vs H Q E h⟩)
  have hu : _ + 64 < cLine := hr.units
  have hud : _ + 65 < cLine := units65 hr
  have hu1 : _ + 1 < cLine := hu_of hr
  have huc : _ < cLine := hr.units0
  exact (pss_cons (ps_if (pt_cmpR o_lt (pv 1) (pe_callB c_len rfl T.len bt_len (pa_cons (pv 0) pa_nil)) (nomark _)) (pss_one (ps_ret (pe_ix ix_list (pv 0) (pv 1) (fun _ _ => rfl)))) pss_nil)
(pss_one (ps_ret (pe_op o_add (pe_op o_add (pe_op o_mul (pe_op o_mul pe_int (pv 1)) (pv 1)) (pe_op o_mul pe_int (pv 1))) pe_int))))
def N_law_store : List Str := ["cell", "great"]
def P_law_store : List Str := ["cell"]
theorem sc_law_store : FnScope N_law_store P_law_store (defScope SwH.s_law_store) := ⟨rfl, rfl, rfl, by decide +kernel, rfl, by decide +kernel, by decide +kernel⟩
def t_law_store (P : Program) (w : World) (K : PySem.W.Frag) : TS :=
(tSeq (tAsg (tC (.int 0)) (gName 1))
(tSeq (tIfS (tTest (tOp rGtE2 (tVar 0) (tOp rPw2 (tC (.int 10)) (tC (.int 18))))) (tAsg (tVar 0) (gName 1)) tNext)
(tRet (tLst (tCons (tVar 1) (tCons (tOp rMd2 (tVar 0) (tC (.int 2147483629))) (tCons (tC (.int 1)) tNil)))))))
theorem ok_law_store {P : Program} {w : World} {K : PySem.W.Frag} {mg : Str → Option Value} {base : Heap} {f : Addr} {fd : FuncData} {aOne : Addr} (T : Txt K mg aOne) (F : FnP K "_law_store" "_law_store" SwH.s_law_store f fd) 
    (sp : Sp) (len : ∀ vs H Q E, sp vs H Q E → vs.length = 1) (rd : ∀ vs H Q E, sp vs H Q E → t_law_store P w K { nx := fun _ H' => Q .non H', rt := Q } (start N_law_store vs) H) : FnOk P w K mg base CX0 1 f fd P_law_store sp := by
  refine F.ok sc_law_store len (fun cdv A outer s H vs Q E hr h => ⟨t_law_store P w K, PSs.nox ?_, rd vs H Q E h⟩)
  have hu : _ + 64 < cLine := hr.units
  have hud : _ + 65 < cLine := units65 hr
  have hu1 : _ + 1 < cLine := hu_of hr
  have huc : _ < cLine := hr.units0
  exact (pss_cons (ps_set (i := 1) sc_law_store.nd rfl (Or.inl rfl) pe_int)
(pss_cons (ps_if (pt_cmpR o_gte (pv 0) (pe_op o_pw pe_int pe_int) (nomark _)) (pss_one (ps_set (i := 1) sc_law_store.nd rfl (Or.inl rfl) (pv 0))) pss_nil)
(pss_one (ps_ret (pe_lst (pa_cons (pv 1) (pa_cons (pe_op o_md (pv 0) pe_int) (pa_cons pe_int pa_nil))))))))
def N_law_take : List Str := ["store", "many", "told", "one"]
def P_law_take : List Str := ["store", "many"]
theorem sc_law_take : FnScope N_law_take P_law_take (defScope SwH.s_law_take) := ⟨rfl, rfl, rfl, by decide +kernel, rfl, by decide +kernel, by decide +kernel⟩
def t_law_take (P : Program) (w : World) (K : PySem.W.Frag) : TS :=
(tSeq (tIfS (tTest (tOp rGt2 (tOp (rIxL K) (tVar 0) (tC (.int 0))) (tC (.int 0)))) (tSeq (tAsg (tOp rMd2 (tOp (rIxL K) (tVar 0) (tC (.int 0))) (tVar 1)) (gName 2))
(tSeq (tAsg (tOp rFd2 (tOp (rIxL K) (tVar 0) (tC (.int 0))) (tVar 1)) (gSub (tVar 0) (tC (.int 0)) rSetL))
(tRet (tVar 2)))) tNext)
(tSeq (tAsg (tOp rAdd2 (tOp (rIxL K) (tVar 0) (tC (.int 2))) (tC (.int 1))) (gSub (tVar 0) (tC (.int 2)) rSetL))
(tSeq (tAsg (tOp rMd2 (tOp rMul2 (tOp rAdd2 (tOp (rIxL K) (tVar 0) (tC (.int 1))) (tOp rMul2 (tC (.int 7919)) (tOp (rIxL K) (tVar 0) (tC (.int 2))))) (tC (.int 48271))) (tC (.int 2147483647))) (gName 3))
(tSeq (tAsg (tOp rMd2 (tOp rMul2 (tVar 3) (tVar 3)) (tC (.int 2147483629))) (gName 3))
(tSeq (tAsg (tOp rMd2 (tOp rMul2 (tOp rAdd2 (tVar 3) (tOp rMul2 (tC (.int 40692)) (tOp (rIxL K) (tVar 0) (tC (.int 2))))) (tC (.int 69621))) (tC (.int 2147483587))) (gName 3))
(tRet (tOp rMd2 (tOp rFd2 (tVar 3) (tC (.int 8))) (tVar 1))))))))
theorem ok_law_take {P : Program} {w : World} {K : PySem.W.Frag} {mg : Str → Option Value} {base : Heap} {f : Addr} {fd : FuncData} {aOne : Addr} (T : Txt K mg aOne) (F : FnP K "_law_take" "_law_take" SwH.s_law_take f fd) 
    (sp : Sp) (len : ∀ vs H Q E, sp vs H Q E → vs.length = 2) (rd : ∀ vs H Q E, sp vs H Q E → t_law_take P w K { nx := fun _ H' => Q .non H', rt := Q } (start N_law_take vs) H) : FnOk P w K mg base CX0 1 f fd P_law_take sp := by
  refine F.ok sc_law_take len (fun cdv A outer s H vs Q E hr h => ⟨t_law_take P w K, PSs.nox ?_, rd vs H Q E h⟩)
  have hu : _ + 64 < cLine := hr.units
  have hud : _ + 65 < cLine := units65 hr
  have hu1 : _ + 1 < cLine := hu_of hr
  have huc : _ < cLine := hr.units0
  exact (pss_cons (ps_if (pt_cmpR o_gt (pe_ix ix_list (pv 0) pe_int (fun _ _ => rfl)) pe_int (nomark _)) (pss_cons (ps_set (i := 2) sc_law_take.nd rfl (Or.inl rfl) (pe_op o_md (pe_ix ix_list (pv 0) pe_int (fun _ _ => rfl)) (pv 1)))
(pss_cons (ps_asg (pe_op o_fd (pe_ix ix_list (pv 0) pe_int (fun _ _ => rfl)) (pv 1)) (pg_sub (pv 0) pe_int set_list))
(pss_one (ps_ret (pv 2))))) pss_nil)
(pss_cons (ps_asg (pe_op o_add (pe_ix ix_list (pv 0) pe_int (fun _ _ => rfl)) pe_int) (pg_sub (pv 0) pe_int set_list))
(pss_cons (ps_set (i := 3) sc_law_take.nd rfl (Or.inl rfl) (pe_op o_md (pe_op o_mul (pe_op o_add (pe_ix ix_list (pv 0) pe_int (fun _ _ => rfl)) (pe_op o_mul pe_int (pe_ix ix_list (pv 0) pe_int (fun _ _ => rfl)))) pe_int) pe_int))
(pss_cons (ps_set (i := 3) sc_law_take.nd rfl (Or.inl rfl) (pe_op o_md (pe_op o_mul (pv 3) (pv 3)) pe_int))
(pss_cons (ps_set (i := 3) sc_law_take.nd rfl (Or.inl rfl) (pe_op o_md (pe_op o_mul (pe_op o_add (pv 3) (pe_op o_mul pe_int (pe_ix ix_list (pv 0) pe_int (fun _ _ => rfl)))) pe_int) pe_int))
(pss_one (ps_ret (pe_op o_md (pe_op o_fd (pv 3) pe_int) (pv 1)))))))))
def N_law_names : List Str := ["store", "many", "words", "first", "some", "k", "word"]
def P_law_names : List Str := ["store", "many"]
theorem sc_law_names : FnScope N_law_names P_law_names (defScope SwH.s_law_names) := ⟨rfl, rfl, rfl, by decide +kernel, rfl, by decide +kernel, by decide +kernel⟩
def t_law_names (P : Program) (w : World) (K : PySem.W.Frag) (s_law_take : Sp) : TS :=
(tSeq (tAsg (tLst (tCons (tC (.str "")) (tCons (tC (.str "a")) (tCons (tC (.str "go")) (tCons (tC (.str "box")) (tCons (tC (.str "stop")) (tCons (tC (.str "zz")) (tCons (tC (.str "mark")) (tCons (tC (.str "ab")) tNil))))))))) (gName 2))
(tSeq (tAsg (tOp (rIxL K) (tVar 2) (tCall s_law_take [] E0 (tCons (tVar 0) (tCons (tC (.int 8)) tNil)))) (gName 3))
(tSeq (tAsg (tLst tNil) (gName 4))
(tSeq (tFor (iRng1 (tCons (tVar 1) tNil)) (gName 5) (tSeq (tAsg (tVar 3) (gName 6))
(tSeq (tIfS (tTest (tOp rEq (tCall s_law_take [] E0 (tCons (tVar 0) (tCons (tC (.int 2)) tNil))) (tC (.int 1)))) (tAsg (tOp (rIxL K) (tVar 2) (tCall s_law_take [] E0 (tCons (tVar 0) (tCons (tC (.int 8)) tNil)))) (gName 6)) tNext)
(tIfS (tTest (tOp rEq (tCall s_law_take [] E0 (tCons (tVar 0) (tCons (tC (.int 2)) tNil))) (tC (.int 1)))) (tDrop (tBM K "list" rAppend (tVar 4) (tCons (tOp rAddS (tVar 6) (tOp rIxS (tC (.str "cdehjlqr")) (tVar 5))) tNil))) (tDrop (tBM K "list" rAppend (tVar 4) (tCons (tOp rAddS (tOp rIxS (tC (.str "cdehjlqr")) (tVar 5)) (tVar 6)) tNil)))))))
(tRet (tVar 4))))))
theorem ok_law_names {P : Program} {w : World} {K : PySem.W.Frag} {mg : Str → Option Value} {base : Heap} {f : Addr} {fd : FuncData} {s_law_take : Sp} {aOne : Addr} (T : Txt K mg aOne) (F : FnP K "_law_names" "_law_names" SwH.s_law_names f fd) (G_law_take : GF P w K mg base "_law_take" 1 P_law_take s_law_take)
    (sp : Sp) (len : ∀ vs H Q E, sp vs H Q E → vs.length = 2) (rd : ∀ vs H Q E, sp vs H Q E → t_law_names P w K s_law_take { nx := fun _ H' => Q .non H', rt := Q } (start N_law_names vs) H) : FnOk P w K mg base CX0 2 f fd P_law_names sp := by
  refine F.ok sc_law_names len (fun cdv A outer s H vs Q E hr h => ⟨t_law_names P w K s_law_take, PSs.nox ?_, rd vs H Q E h⟩)
  have hu : _ + 64 < cLine := hr.units
  have hud : _ + 65 < cLine := units65 hr
  have hu1 : _ + 1 < cLine := hu_of hr
  have huc : _ < cLine := hr.units0
  exact (pss_cons (ps_set (i := 2) sc_law_names.nd rfl (Or.inl rfl) (pe_lst (pa_cons pe_str (pa_cons pe_str (pa_cons pe_str (pa_cons pe_str (pa_cons pe_str (pa_cons pe_str (pa_cons pe_str (pa_cons pe_str pa_nil))))))))))
(pss_cons (ps_set (i := 3) sc_law_names.nd rfl (Or.inl rfl) (pe_ix ix_list (pv 2) (pe_fn G_law_take hr rfl (pa_cons (pv 0) (pa_cons pe_int pa_nil))) (fun _ _ => rfl)))
(pss_cons (ps_set (i := 4) sc_law_names.nd rfl (Or.inl rfl) (pe_lst pa_nil))
(pss_cons (ps_for PassesOwn.never rfl (pi_range1 rfl T.range (pa_cons (pv 1) pa_nil)) (pg_name (i := 5) sc_law_names.nd rfl (Or.inl rfl)) (pss_cons (ps_set (i := 6) sc_law_names.nd rfl (Or.inl rfl) (pv 3))
(pss_cons (ps_if (pt_cmpR op_eq (pe_fn G_law_take hr rfl (pa_cons (pv 0) (pa_cons pe_int pa_nil))) pe_int (nomark _)) (pss_one (ps_set (i := 6) sc_law_names.nd rfl (Or.inl rfl) (pe_ix ix_list (pv 2) (pe_fn G_law_take hr rfl (pa_cons (pv 0) (pa_cons pe_int pa_nil))) (fun _ _ => rfl)))) pss_nil)
(pss_one (ps_if (pt_cmpR op_eq (pe_fn G_law_take hr rfl (pa_cons (pv 0) (pa_cons pe_int pa_nil))) pe_int (nomark _)) (pss_one (ps_expr (pe_bm PySem.F.plainAttrs_list PySem.F.slot_list_append PySem.F.type_list_append mt_append (pv 4) (pa_cons (pe_op o_addS (pv 6) (pe_ix ix_str pe_str (pv 5) (fun _ _ => rfl))) pa_nil)))) (pss_one (ps_expr (pe_bm PySem.F.plainAttrs_list PySem.F.slot_list_append PySem.F.type_list_append mt_append (pv 4) (pa_cons (pe_op o_addS (pe_ix ix_str pe_str (pv 5) (fun _ _ => rfl)) (pv 6)) pa_nil)))))))))
(pss_one (ps_ret (pv 4)))))))
def N_law_boxes : List Str := ["store", "counts", "names", "boxes", "k", "many", "low"]
def P_law_boxes : List Str := ["store", "counts"]
theorem sc_law_boxes : FnScope N_law_boxes P_law_boxes (defScope SwH.s_law_boxes) := ⟨rfl, rfl, rfl, by decide +kernel, rfl, by decide +kernel, by decide +kernel⟩
def t_law_boxes (P : Program) (w : World) (K : PySem.W.Frag) (s_law_take s_law_names : Sp) : TS :=
(tSeq (tAsg (tCall s_law_names [] E0 (tCons (tVar 0) (tCons (tCB (rLen2 K) (tCons (tVar 1) tNil)) tNil))) (gName 2))
(tSeq (tAsg (tLst tNil) (gName 3))
(tSeq (tFor (iEnum K (tCons (tVar 1) tNil)) (gTup K 2 (gCons (gName 4) (gCons (gName 5) gNil))) (tSeq (tAsg (tOp rSub2 (tCall s_law_take [] E0 (tCons (tVar 0) (tCons (tC (.int 3)) tNil))) (tC (.int 1))) (gName 6))
(tSeq (tIfS (tTest (tOp rEq (tCall s_law_take [] E0 (tCons (tVar 0) (tCons (tC (.int 4)) tNil))) (tC (.int 0)))) (tAsg (tOp rSub2 (tCall s_law_take [] E0 (tCons (tVar 0) (tCons (tOp rSub2 (tC (.int 200)) (tVar 5)) tNil))) (tC (.int 99))) (gName 6)) tNext)
(tDrop (tBM K "list" rAppend (tVar 3) (tCons (tTup (tCons (tOp (rIxL K) (tVar 2) (tVar 4)) (tCons (tVar 6) (tCons (tOp rSub2 (tOp rAdd2 (tVar 6) (tVar 5)) (tC (.int 1))) (tCons (tOp rAdd2 (tVar 6) (tCall s_law_take [] E0 (tCons (tVar 0) (tCons (tVar 5) tNil)))) tNil))))) tNil))))))
(tRet (tVar 3)))))
theorem ok_law_boxes {P : Program} {w : World} {K : PySem.W.Frag} {mg : Str → Option Value} {base : Heap} {f : Addr} {fd : FuncData} {s_law_take s_law_names : Sp} {aOne : Addr} (T : Txt K mg aOne) (F : FnP K "_law_boxes" "_law_boxes" SwH.s_law_boxes f fd) (G_law_take : GF P w K mg base "_law_take" 1 P_law_take s_law_take) (G_law_names : GF P w K mg base "_law_names" 2 P_law_names s_law_names)
    (sp : Sp) (len : ∀ vs H Q E, sp vs H Q E → vs.length = 2) (rd : ∀ vs H Q E, sp vs H Q E → t_law_boxes P w K s_law_take s_law_names { nx := fun _ H' => Q .non H', rt := Q } (start N_law_boxes vs) H) : FnOk P w K mg base CX0 3 f fd P_law_boxes sp := by
  refine F.ok sc_law_boxes len (fun cdv A outer s H vs Q E hr h => ⟨t_law_boxes P w K s_law_take s_law_names, PSs.nox ?_, rd vs H Q E h⟩)
  have hu : _ + 64 < cLine := hr.units
  have hud : _ + 65 < cLine := units65 hr
  have hu1 : _ + 1 < cLine := hu_of hr
  have huc : _ < cLine := hr.units0
  exact (pss_cons (ps_set (i := 2) sc_law_boxes.nd rfl (Or.inl rfl) (pe_fn G_law_names hr rfl (pa_cons (pv 0) (pa_cons (pe_callB c_len rfl T.len bt_len (pa_cons (pv 1) pa_nil)) pa_nil))))
(pss_cons (ps_set (i := 3) sc_law_boxes.nd rfl (Or.inl rfl) (pe_lst pa_nil))
(pss_cons (ps_for PassesOwn.never rfl (pi_enum rfl T.enumerate (pa_cons (pv 1) pa_nil)) (pg_tup rfl (pgs_cons (pg_name (i := 4) sc_law_boxes.nd rfl (Or.inl rfl)) (pgs_cons (pg_name (i := 5) sc_law_boxes.nd rfl (Or.inl rfl)) pgs_nil))) (pss_cons (ps_set (i := 6) sc_law_boxes.nd rfl (Or.inl rfl) (pe_op o_sub (pe_fn G_law_take (hr.mono (by decide)) rfl (pa_cons (pv 0) (pa_cons pe_int pa_nil))) pe_int))
(pss_cons (ps_if (pt_cmpR op_eq (pe_fn G_law_take (hr.mono (by decide)) rfl (pa_cons (pv 0) (pa_cons pe_int pa_nil))) pe_int (nomark _)) (pss_one (ps_set (i := 6) sc_law_boxes.nd rfl (Or.inl rfl) (pe_op o_sub (pe_fn G_law_take (hr.mono (by decide)) rfl (pa_cons (pv 0) (pa_cons (pe_op o_sub pe_int (pv 5)) pa_nil))) pe_int))) pss_nil)
(pss_one (ps_expr (pe_bm PySem.F.plainAttrs_list PySem.F.slot_list_append PySem.F.type_list_append mt_append (pv 3) (pa_cons (pe_tup (pa_cons (pe_ix ix_list (pv 2) (pv 4) (fun _ _ => rfl)) (pa_cons (pv 6) (pa_cons (pe_op o_sub (pe_op o_add (pv 6) (pv 5)) pe_int) (pa_cons (pe_op o_add (pv 6) (pe_fn G_law_take (hr.mono (by decide)) rfl (pa_cons (pv 0) (pa_cons (pv 5) pa_nil)))) pa_nil))))) pa_nil)))))))
(pss_one (ps_ret (pv 3))))))
def N_law_number : List Str := ["number"]
def P_law_number : List Str := ["number"]
theorem sc_law_number : FnScope N_law_number P_law_number (defScope SwH.s_law_number) := ⟨rfl, rfl, rfl, by decide +kernel, rfl, by decide +kernel, by decide +kernel⟩
def t_law_number (P : Program) (w : World) (K : PySem.W.Frag) : TS :=
(tSeq (tIfS (tTest (tOp rLt2 (tVar 0) (tC (.int 0)))) (tRet (tTup (tCons (tC (.str "-")) (tCons (tTup (tCons (tC (.str "number")) (tCons (tC (.int 0)) tNil))) (tCons (tTup (tCons (tC (.str "number")) (tCons (tOp rSub2 (tC (.int 0)) (tVar 0)) tNil))) tNil))))) tNext)
(tRet (tTup (tCons (tC (.str "number")) (tCons (tVar 0) tNil)))))
theorem ok_law_number {P : Program} {w : World} {K : PySem.W.Frag} {mg : Str → Option Value} {base : Heap} {f : Addr} {fd : FuncData} {aOne : Addr} (T : Txt K mg aOne) (F : FnP K "_law_number" "_law_number" SwH.s_law_number f fd) 
    (sp : Sp) (len : ∀ vs H Q E, sp vs H Q E → vs.length = 1) (rd : ∀ vs H Q E, sp vs H Q E → t_law_number P w K { nx := fun _ H' => Q .non H', rt := Q } (start N_law_number vs) H) : FnOk P w K mg base CX0 1 f fd P_law_number sp := by
  refine F.ok sc_law_number len (fun cdv A outer s H vs Q E hr h => ⟨t_law_number P w K, PSs.nox ?_, rd vs H Q E h⟩)
  have hu : _ + 64 < cLine := hr.units
  have hud : _ + 65 < cLine := units65 hr
  have hu1 : _ + 1 < cLine := hu_of hr
  have huc : _ < cLine := hr.units0
  exact (pss_cons (ps_if (pt_cmpR o_lt (pv 0) pe_int (nomark _)) (pss_one (ps_ret (pe_tup (pa_cons pe_str (pa_cons (pe_tup (pa_cons pe_str (pa_cons pe_int pa_nil))) (pa_cons (pe_tup (pa_cons pe_str (pa_cons (pe_op o_sub pe_int (pv 0)) pa_nil))) pa_nil)))))) pss_nil)
(pss_one (ps_ret (pe_tup (pa_cons pe_str (pa_cons (pv 0) pa_nil))))))
def N_law_drawn : List Str := ["store", "boxes", "at", "box", "other", "kind"]
def P_law_drawn : List Str := ["store", "boxes", "at"]
theorem sc_law_drawn : FnScope N_law_drawn P_law_drawn (defScope SwH.s_law_drawn) := ⟨rfl, rfl, rfl, by decide +kernel, rfl, by decide +kernel, by decide +kernel⟩
def t_law_drawn (P : Program) (w : World) (K : PySem.W.Frag) (s_law_take s_law_number : Sp) : TS :=
(tSeq (tAsg (tOp (rIxL K) (tVar 1) (tVar 2)) (gName 3))
(tSeq (tAsg (tOp (rIxL K) (tVar 1) (tCall s_law_take [] E0 (tCons (tVar 0) (tCons (tCB (rLen2 K) (tCons (tVar 1) tNil)) tNil)))) (gName 4))
(tSeq (tAsg (tCall s_law_take [] E0 (tCons (tVar 0) (tCons (tC (.int 8)) tNil))) (gName 5))
(tSeq (tIfS (tTest (tOp rEq (tVar 5) (tC (.int 0)))) (tRet (tCall s_law_number [] E0 (tCons (tOp rAdd2 (tOp (rIxT K) (tVar 3) (tC (.int 1))) (tCall s_law_take [] E0 (tCons (tVar 0) (tCons (tOp rAdd2 (tOp rSub2 (tOp (rIxT K) (tVar 3) (tC (.int 2))) (tOp (rIxT K) (tVar 3) (tC (.int 1)))) (tC (.int 1))) tNil)))) tNil))) tNext)
(tSeq (tIfS (tTest (tOp rLt2 (tVar 5) (tC (.int 3)))) (tRet (tTup (tCons (tC (.str "-")) (tCons (tCall s_law_number [] E0 (tCons (tOp rAdd2 (tOp (rIxT K) (tVar 3) (tC (.int 1))) (tOp (rIxT K) (tVar 3) (tC (.int 2)))) tNil)) (tCons (tTup (tCons (tC (.str "box")) (tCons (tOp (rIxT K) (tVar 3) (tC (.int 0))) tNil))) tNil))))) tNext)
(tSeq (tIfS (tTest (tOp rLt2 (tVar 5) (tC (.int 5)))) (tRet (tTup (tCons (tOp rIxS (tC (.str "+-")) (tOp rSub2 (tVar 5) (tC (.int 3)))) (tCons (tTup (tCons (tC (.str "box")) (tCons (tOp (rIxT K) (tVar 3) (tC (.int 0))) tNil))) (tCons (tTup (tCons (tC (.str "number")) (tCons (tC (.int 1)) tNil))) tNil))))) tNext)
(tSeq (tIfS (tTest (tOp rEq (tVar 5) (tC (.int 5)))) (tRet (tTup (tCons (tC (.str "box")) (tCons (tOp (rIxT K) (tVar 4) (tC (.int 0))) tNil)))) tNext)
(tSeq (tIfS (tTest (tOp rEq (tVar 5) (tC (.int 6)))) (tRet (tTup (tCons (tC (.str "-")) (tCons (tTup (tCons (tC (.str "+")) (tCons (tTup (tCons (tC (.str "box")) (tCons (tOp (rIxT K) (tVar 3) (tC (.int 0))) tNil))) (tCons (tTup (tCons (tC (.str "box")) (tCons (tOp (rIxT K) (tVar 4) (tC (.int 0))) tNil))) tNil)))) (tCons (tCall s_law_number [] E0 (tCons (tOp (rIxT K) (tVar 4) (tC (.int 1))) tNil)) tNil))))) tNext)
(tRet (tTup (tCons (tC (.str "*")) (tCons (tTup (tCons (tC (.str "box")) (tCons (tOp (rIxT K) (tVar 3) (tC (.int 0))) tNil))) (tCons (tTup (tCons (tC (.str "box")) (tCons (tOp (rIxT K) (tVar 4) (tC (.int 0))) tNil))) tNil)))))))))))))
theorem ok_law_drawn {P : Program} {w : World} {K : PySem.W.Frag} {mg : Str → Option Value} {base : Heap} {f : Addr} {fd : FuncData} {s_law_take s_law_number : Sp} {aOne : Addr} (T : Txt K mg aOne) (F : FnP K "_law_drawn" "_law_drawn" SwH.s_law_drawn f fd) (G_law_take : GF P w K mg base "_law_take" 1 P_law_take s_law_take) (G_law_number : GF P w K mg base "_law_number" 1 P_law_number s_law_number)
    (sp : Sp) (len : ∀ vs H Q E, sp vs H Q E → vs.length = 3) (rd : ∀ vs H Q E, sp vs H Q E → t_law_drawn P w K s_law_take s_law_number { nx := fun _ H' => Q .non H', rt := Q } (start N_law_drawn vs) H) : FnOk P w K mg base CX0 2 f fd P_law_drawn sp := by
  refine F.ok sc_law_drawn len (fun cdv A outer s H vs Q E hr h => ⟨t_law_drawn P w K s_law_take s_law_number, PSs.nox ?_, rd vs H Q E h⟩)
  have hu : _ + 64 < cLine := hr.units
  have hud : _ + 65 < cLine := units65 hr
  have hu1 : _ + 1 < cLine := hu_of hr
  have huc : _ < cLine := hr.units0
  exact (pss_cons (ps_set (i := 3) sc_law_drawn.nd rfl (Or.inl rfl) (pe_ix ix_list (pv 1) (pv 2) (fun _ _ => rfl)))
(pss_cons (ps_set (i := 4) sc_law_drawn.nd rfl (Or.inl rfl) (pe_ix ix_list (pv 1) (pe_fn G_law_take hr rfl (pa_cons (pv 0) (pa_cons (pe_callB c_len rfl T.len bt_len (pa_cons (pv 1) pa_nil)) pa_nil))) (fun _ _ => rfl)))
(pss_cons (ps_set (i := 5) sc_law_drawn.nd rfl (Or.inl rfl) (pe_fn G_law_take hr rfl (pa_cons (pv 0) (pa_cons pe_int pa_nil))))
(pss_cons (ps_if (pt_cmpR op_eq (pv 5) pe_int (nomark _)) (pss_one (ps_ret (pe_fn G_law_number hr rfl (pa_cons (pe_op o_add (pe_ix ix_tup (pv 3) pe_int (fun _ _ => rfl)) (pe_fn G_law_take hr rfl (pa_cons (pv 0) (pa_cons (pe_op o_add (pe_op o_sub (pe_ix ix_tup (pv 3) pe_int (fun _ _ => rfl)) (pe_ix ix_tup (pv 3) pe_int (fun _ _ => rfl))) pe_int) pa_nil)))) pa_nil)))) pss_nil)
(pss_cons (ps_if (pt_cmpR o_lt (pv 5) pe_int (nomark _)) (pss_one (ps_ret (pe_tup (pa_cons pe_str (pa_cons (pe_fn G_law_number hr rfl (pa_cons (pe_op o_add (pe_ix ix_tup (pv 3) pe_int (fun _ _ => rfl)) (pe_ix ix_tup (pv 3) pe_int (fun _ _ => rfl))) pa_nil)) (pa_cons (pe_tup (pa_cons pe_str (pa_cons (pe_ix ix_tup (pv 3) pe_int (fun _ _ => rfl)) pa_nil))) pa_nil)))))) pss_nil)
(pss_cons (ps_if (pt_cmpR o_lt (pv 5) pe_int (nomark _)) (pss_one (ps_ret (pe_tup (pa_cons (pe_ix ix_str pe_str (pe_op o_sub (pv 5) pe_int) (fun _ _ => rfl)) (pa_cons (pe_tup (pa_cons pe_str (pa_cons (pe_ix ix_tup (pv 3) pe_int (fun _ _ => rfl)) pa_nil))) (pa_cons (pe_tup (pa_cons pe_str (pa_cons pe_int pa_nil))) pa_nil)))))) pss_nil)
(pss_cons (ps_if (pt_cmpR op_eq (pv 5) pe_int (nomark _)) (pss_one (ps_ret (pe_tup (pa_cons pe_str (pa_cons (pe_ix ix_tup (pv 4) pe_int (fun _ _ => rfl)) pa_nil))))) pss_nil)
(pss_cons (ps_if (pt_cmpR op_eq (pv 5) pe_int (nomark _)) (pss_one (ps_ret (pe_tup (pa_cons pe_str (pa_cons (pe_tup (pa_cons pe_str (pa_cons (pe_tup (pa_cons pe_str (pa_cons (pe_ix ix_tup (pv 3) pe_int (fun _ _ => rfl)) pa_nil))) (pa_cons (pe_tup (pa_cons pe_str (pa_cons (pe_ix ix_tup (pv 4) pe_int (fun _ _ => rfl)) pa_nil))) pa_nil)))) (pa_cons (pe_fn G_law_number hr rfl (pa_cons (pe_ix ix_tup (pv 4) pe_int (fun _ _ => rfl)) pa_nil)) pa_nil)))))) pss_nil)
(pss_one (ps_ret (pe_tup (pa_cons pe_str (pa_cons (pe_tup (pa_cons pe_str (pa_cons (pe_ix ix_tup (pv 3) pe_int (fun _ _ => rfl)) pa_nil))) (pa_cons (pe_tup (pa_cons pe_str (pa_cons (pe_ix ix_tup (pv 4) pe_int (fun _ _ => rfl)) pa_nil))) pa_nil))))))))))))))
def N_law_row : List Str := ["store", "boxes", "places", "kind", "at", "to", "box", "other"]
def P_law_row : List Str := ["store", "boxes", "places"]
theorem sc_law_row : FnScope N_law_row P_law_row (defScope SwH.s_law_row) := ⟨rfl, rfl, rfl, by decide +kernel, rfl, by decide +kernel, by decide +kernel⟩
def t_law_row (P : Program) (w : World) (K : PySem.W.Frag) (s_law_take s_law_number s_law_drawn : Sp) : TS :=
(tSeq (tAsg (tCall s_law_take [] E0 (tCons (tVar 0) (tCons (tC (.int 10)) tNil))) (gName 3))
(tSeq (tAsg (tCall s_law_take [] E0 (tCons (tVar 0) (tCons (tCB (rLen2 K) (tCons (tVar 1) tNil)) tNil))) (gName 4))
(tSeq (tIfS (tTest (tOp rLt2 (tVar 3) (tC (.int 3)))) (tRet (tTup (tCons (tC (.str "ask")) (tCons (tVar 4) tNil)))) tNext)
(tSeq (tIfS (tOr (tTest (tOp rLt2 (tVar 3) (tC (.int 6)))) (tTest (tOp (rEqNil K) (tVar 2) (tLst tNil)))) (tRet (tTup (tCons (tC (.str "put")) (tCons (tVar 4) (tCons (tCall s_law_drawn [] E0 (tCons (tVar 0) (tCons (tVar 1) (tCons (tVar 4) tNil)))) tNil))))) tNext)
(tSeq (tAsg (tOp (rIxL K) (tVar 2) (tCall s_law_take [] E0 (tCons (tVar 0) (tCons (tCB (rLen2 K) (tCons (tVar 2) tNil)) tNil)))) (gName 5))
(tSeq (tIfS (tTest (tOp rEq (tVar 3) (tC (.int 8)))) (tRet (tTup (tCons (tC (.str "go")) (tCons (tVar 5) tNil)))) tNext)
(tSeq (tIfS (tTest (tOp rEq (tVar 3) (tC (.int 9)))) (tRet (tTup (tCons (tC (.str "stop")) tNil))) tNext)
(tSeq (tAsg (tOp (rIxL K) (tVar 1) (tVar 4)) (gName 6))
(tSeq (tAsg (tTup (tCons (tC (.str "box")) (tCons (tOp (rIxT K) (tOp (rIxL K) (tVar 1) (tCall s_law_take [] E0 (tCons (tVar 0) (tCons (tCB (rLen2 K) (tCons (tVar 1) tNil)) tNil)))) (tC (.int 0))) tNil))) (gName 7))
(tSeq (tIfS (tTest (tOp rEq (tCall s_law_take [] E0 (tCons (tVar 0) (tCons (tC (.int 2)) tNil))) (tC (.int 0)))) (tAsg (tCall s_law_number [] E0 (tCons (tOp rAdd2 (tOp (rIxT K) (tVar 6) (tC (.int 1))) (tCall s_law_take [] E0 (tCons (tVar 0) (tCons (tOp rAdd2 (tOp rSub2 (tOp (rIxT K) (tVar 6) (tC (.int 2))) (tOp (rIxT K) (tVar 6) (tC (.int 1)))) (tC (.int 1))) tNil)))) tNil)) (gName 7)) tNext)
(tRet (tTup (tCons (tC (.str "if")) (tCons (tOp rIxS (tC (.str "<=")) (tCall s_law_take [] E0 (tCons (tVar 0) (tCons (tC (.int 2)) tNil)))) (tCons (tTup (tCons (tC (.str "box")) (tCons (tOp (rIxT K) (tVar 6) (tC (.int 0))) tNil))) (tCons (tVar 7) (tCons (tVar 5) tNil)))))))))))))))))
theorem ok_law_row {P : Program} {w : World} {K : PySem.W.Frag} {mg : Str → Option Value} {base : Heap} {f : Addr} {fd : FuncData} {s_law_take s_law_number s_law_drawn : Sp} {aOne : Addr} (T : Txt K mg aOne) (F : FnP K "_law_row" "_law_row" SwH.s_law_row f fd) (G_law_take : GF P w K mg base "_law_take" 1 P_law_take s_law_take) (G_law_number : GF P w K mg base "_law_number" 1 P_law_number s_law_number) (G_law_drawn : GF P w K mg base "_law_drawn" 2 P_law_drawn s_law_drawn)
    (sp : Sp) (len : ∀ vs H Q E, sp vs H Q E → vs.length = 3) (rd : ∀ vs H Q E, sp vs H Q E → t_law_row P w K s_law_take s_law_number s_law_drawn { nx := fun _ H' => Q .non H', rt := Q } (start N_law_row vs) H) : FnOk P w K mg base CX0 3 f fd P_law_row sp := by
  refine F.ok sc_law_row len (fun cdv A outer s H vs Q E hr h => ⟨t_law_row P w K s_law_take s_law_number s_law_drawn, PSs.nox ?_, rd vs H Q E h⟩)
  have hu : _ + 64 < cLine := hr.units
  have hud : _ + 65 < cLine := units65 hr
  have hu1 : _ + 1 < cLine := hu_of hr
  have huc : _ < cLine := hr.units0
  exact (pss_cons (ps_set (i := 3) sc_law_row.nd rfl (Or.inl rfl) (pe_fn G_law_take (hr.mono (by decide)) rfl (pa_cons (pv 0) (pa_cons pe_int pa_nil))))
(pss_cons (ps_set (i := 4) sc_law_row.nd rfl (Or.inl rfl) (pe_fn G_law_take (hr.mono (by decide)) rfl (pa_cons (pv 0) (pa_cons (pe_callB c_len rfl T.len bt_len (pa_cons (pv 1) pa_nil)) pa_nil))))
(pss_cons (ps_if (pt_cmpR o_lt (pv 3) pe_int (nomark _)) (pss_one (ps_ret (pe_tup (pa_cons pe_str (pa_cons (pv 4) pa_nil))))) pss_nil)
(pss_cons (ps_if (PW.pt (pw_or (pt_cmpR o_lt (pv 3) pe_int (nomark _)) (pw_or1 (pt_cmpR (op_eqNil huc) (pv 2) (pe_lst pa_nil) (nomark _))))) (pss_one (ps_ret (pe_tup (pa_cons pe_str (pa_cons (pv 4) (pa_cons (pe_fn G_law_drawn hr rfl (pa_cons (pv 0) (pa_cons (pv 1) (pa_cons (pv 4) pa_nil)))) pa_nil)))))) pss_nil)
(pss_cons (ps_set (i := 5) sc_law_row.nd rfl (Or.inl rfl) (pe_ix ix_list (pv 2) (pe_fn G_law_take (hr.mono (by decide)) rfl (pa_cons (pv 0) (pa_cons (pe_callB c_len rfl T.len bt_len (pa_cons (pv 2) pa_nil)) pa_nil))) (fun _ _ => rfl)))
(pss_cons (ps_if (pt_cmpR op_eq (pv 3) pe_int (nomark _)) (pss_one (ps_ret (pe_tup (pa_cons pe_str (pa_cons (pv 5) pa_nil))))) pss_nil)
(pss_cons (ps_if (pt_cmpR op_eq (pv 3) pe_int (nomark _)) (pss_one (ps_ret (pe_tup (pa_cons pe_str pa_nil)))) pss_nil)
(pss_cons (ps_set (i := 6) sc_law_row.nd rfl (Or.inl rfl) (pe_ix ix_list (pv 1) (pv 4) (fun _ _ => rfl)))
(pss_cons (ps_set (i := 7) sc_law_row.nd rfl (Or.inl rfl) (pe_tup (pa_cons pe_str (pa_cons (pe_ix ix_tup (pe_ix ix_list (pv 1) (pe_fn G_law_take (hr.mono (by decide)) rfl (pa_cons (pv 0) (pa_cons (pe_callB c_len rfl T.len bt_len (pa_cons (pv 1) pa_nil)) pa_nil))) (fun _ _ => rfl)) pe_int (fun _ _ => rfl)) pa_nil))))
(pss_cons (ps_if (pt_cmpR op_eq (pe_fn G_law_take (hr.mono (by decide)) rfl (pa_cons (pv 0) (pa_cons pe_int pa_nil))) pe_int (nomark _)) (pss_one (ps_set (i := 7) sc_law_row.nd rfl (Or.inl rfl) (pe_fn G_law_number (hr.mono (by decide)) rfl (pa_cons (pe_op o_add (pe_ix ix_tup (pv 6) pe_int (fun _ _ => rfl)) (pe_fn G_law_take (hr.mono (by decide)) rfl (pa_cons (pv 0) (pa_cons (pe_op o_add (pe_op o_sub (pe_ix ix_tup (pv 6) pe_int (fun _ _ => rfl)) (pe_ix ix_tup (pv 6) pe_int (fun _ _ => rfl))) pe_int) pa_nil)))) pa_nil)))) pss_nil)
(pss_one (ps_ret (pe_tup (pa_cons pe_str (pa_cons (pe_ix ix_str pe_str (pe_fn G_law_take (hr.mono (by decide)) rfl (pa_cons (pv 0) (pa_cons pe_int pa_nil))) (fun _ _ => rfl)) (pa_cons (pe_tup (pa_cons pe_str (pa_cons (pe_ix ix_tup (pv 6) pe_int (fun _ _ => rfl)) pa_nil))) (pa_cons (pv 7) (pa_cons (pv 5) pa_nil))))))))))))))))))
def N_law_rows : List Str := ["store", "boxes", "many", "marks", "names", "places", "k", "rows"]
def P_law_rows : List Str := ["store", "boxes", "many", "marks"]
theorem sc_law_rows : FnScope N_law_rows P_law_rows (defScope SwH.s_law_rows) := ⟨rfl, rfl, rfl, by decide +kernel, rfl, by decide +kernel, by decide +kernel⟩
def t_law_rows (P : Program) (w : World) (K : PySem.W.Frag) (s_law_take s_law_names s_law_row : Sp) : TS :=
(tSeq (tAsg (tCall s_law_names [] E0 (tCons (tVar 0) (tCons (tVar 3) tNil))) (gName 4))
(tSeq (tAsg (tLst tNil) (gName 5))
(tSeq (tFor (iRng1 (tCons (tVar 2) tNil)) (gName 6) (tIfS (tAnd (tTest (tOp rEq (tCall s_law_take [] E0 (tCons (tVar 0) (tCons (tC (.int 3)) tNil))) (tC (.int 0)))) (tTest (tOp rLt2 (tCB (rLen2 K) (tCons (tVar 5) tNil)) (tVar 3)))) (tDrop (tBM K "list" rAppend (tVar 5) (tCons (tVar 6) tNil))) tNext))
(tSeq (tAsg (tLst tNil) (gName 7))
(tSeq (tFor (iRng1 (tCons (tVar 2) tNil)) (gName 6) (tIfS (tTest (tOp (rIn K false) (tVar 6) (tVar 5))) (tDrop (tBM K "list" rAppend (tVar 7) (tCons (tTup (tCons (tC (.str "mark")) (tCons (tOp (rIxL K) (tVar 4) (tBM K "list" (rIndex K) (tVar 5) (tCons (tVar 6) tNil))) tNil))) tNil))) (tDrop (tBM K "list" rAppend (tVar 7) (tCons (tCall s_law_row [] E0 (tCons (tVar 0) (tCons (tVar 1) (tCons (tVar 5) tNil)))) tNil)))))
(tRet (tVar 7)))))))
theorem ok_law_rows {P : Program} {w : World} {K : PySem.W.Frag} {mg : Str → Option Value} {base : Heap} {f : Addr} {fd : FuncData} {s_law_take s_law_names s_law_row : Sp} {aOne : Addr} (T : Txt K mg aOne) (F : FnP K "_law_rows" "_law_rows" SwH.s_law_rows f fd) (G_law_take : GF P w K mg base "_law_take" 1 P_law_take s_law_take) (G_law_names : GF P w K mg base "_law_names" 2 P_law_names s_law_names) (G_law_row : GF P w K mg base "_law_row" 3 P_law_row s_law_row)
    (sp : Sp) (len : ∀ vs H Q E, sp vs H Q E → vs.length = 4) (rd : ∀ vs H Q E, sp vs H Q E → t_law_rows P w K s_law_take s_law_names s_law_row { nx := fun _ H' => Q .non H', rt := Q } (start N_law_rows vs) H) : FnOk P w K mg base CX0 4 f fd P_law_rows sp := by
  refine F.ok sc_law_rows len (fun cdv A outer s H vs Q E hr h => ⟨t_law_rows P w K s_law_take s_law_names s_law_row, PSs.nox ?_, rd vs H Q E h⟩)
  have hu : _ + 64 < cLine := hr.units
  have hud : _ + 65 < cLine := units65 hr
  have hu1 : _ + 1 < cLine := hu_of hr
  have huc : _ < cLine := hr.units0
  exact (pss_cons (ps_set (i := 4) sc_law_rows.nd rfl (Or.inl rfl) (pe_fn G_law_names (hr.mono (by decide)) rfl (pa_cons (pv 0) (pa_cons (pv 3) pa_nil))))
(pss_cons (ps_set (i := 5) sc_law_rows.nd rfl (Or.inl rfl) (pe_lst pa_nil))
(pss_cons (ps_for PassesOwn.never rfl (pi_range1 rfl T.range (pa_cons (pv 2) pa_nil)) (pg_name (i := 6) sc_law_rows.nd rfl (Or.inl rfl)) (pss_one (ps_if (PW.pt (pw_and (pt_cmpR op_eq (pe_fn G_law_take (hr.mono (by decide)) rfl (pa_cons (pv 0) (pa_cons pe_int pa_nil))) pe_int (nomark _)) (pw_and1 (pt_cmpR o_lt (pe_callB c_len rfl T.len bt_len (pa_cons (pv 5) pa_nil)) (pv 3) (nomark _))))) (pss_one (ps_expr (pe_bm PySem.F.plainAttrs_list PySem.F.slot_list_append PySem.F.type_list_append mt_append (pv 5) (pa_cons (pv 6) pa_nil)))) pss_nil)))
(pss_cons (ps_set (i := 7) sc_law_rows.nd rfl (Or.inl rfl) (pe_lst pa_nil))
(pss_cons (ps_for PassesOwn.never rfl (pi_range1 rfl T.range (pa_cons (pv 2) pa_nil)) (pg_name (i := 6) sc_law_rows.nd rfl (Or.inl rfl)) (pss_one (ps_if (pt_cmpR op_in_seq (pv 6) (pv 5) (by rfl)) (pss_one (ps_expr (pe_bm PySem.F.plainAttrs_list PySem.F.slot_list_append PySem.F.type_list_append mt_append (pv 7) (pa_cons (pe_tup (pa_cons pe_str (pa_cons (pe_ix ix_list (pv 4) (pe_bm PySem.F.plainAttrs_list PySem.F.slot_list_index PySem.F.type_list_index mt_index (pv 5) (pa_cons (pv 6) pa_nil)) (fun _ _ => rfl)) pa_nil))) pa_nil)))) (pss_one (ps_expr (pe_bm PySem.F.plainAttrs_list PySem.F.slot_list_append PySem.F.type_list_append mt_append (pv 7) (pa_cons (pe_fn G_law_row hr rfl (pa_cons (pv 0) (pa_cons (pv 1) (pa_cons (pv 5) pa_nil)))) pa_nil)))))))
(pss_one (ps_ret (pv 7))))))))
def N_law_runs : List Str := ["script", "boxes", "store", "runs", "many", "k", "one", "box", "number"]
def P_law_runs : List Str := ["script", "boxes"]
theorem sc_law_runs : FnScope N_law_runs P_law_runs (defScope SwH.s_law_runs) := ⟨rfl, rfl, rfl, by decide +kernel, rfl, by decide +kernel, by decide +kernel⟩
def t_law_runs (P : Program) (w : World) (K : PySem.W.Frag) (s_law_cell s_law_store s_law_take : Sp) : TS :=
(tSeq (tAsg (tCall s_law_store [] E0 (tCons (tCall s_law_cell [] E0 (tCons (tVar 0) (tCons (tC (.int 2)) tNil))) tNil)) (gName 2))
(tSeq (tAsg (tLc (iRng1 (tCons (tCall s_law_take [] E0 (tCons (tVar 2) (tCons (tC (.int 5)) tNil))) tNil)) (gName 5) tYes (tLst tNil) [5]) (gName 3))
(tSeq (tAsg (tCB rMin2 (tCons (tCB rMax2 (tCons (tOp rSub2 (tCB (rLen2 K) (tCons (tVar 0) tNil)) (tC (.int 3))) (tCons (tCall s_law_take [] E0 (tCons (tVar 2) (tCons (tC (.int 12)) tNil))) tNil))) (tCons (tC (.int 60)) tNil))) (gName 4))
(tSeq (tFor (iRng1 (tCons (tVar 4) tNil)) (gName 5) (tSeq (tAsg (tCall s_law_store [] E0 (tCons (tCall s_law_cell [] E0 (tCons (tVar 0) (tCons (tOp rAdd2 (tC (.int 3)) (tVar 5)) tNil))) tNil)) (gName 6))
(tSeq (tAsg (tOp (rIxL K) (tVar 1) (tCall s_law_take [] E0 (tCons (tVar 6) (tCons (tCB (rLen2 K) (tCons (tVar 1) tNil)) tNil)))) (gName 7))
(tSeq (tAsg (tOp rAdd2 (tOp (rIxT K) (tVar 7) (tC (.int 1))) (tCall s_law_take [] E0 (tCons (tVar 6) (tCons (tOp rAdd2 (tOp rSub2 (tOp (rIxT K) (tVar 7) (tC (.int 2))) (tOp (rIxT K) (tVar 7) (tC (.int 1)))) (tC (.int 1))) tNil)))) (gName 8))
(tSeq (tIfS (tTest (tOp rEq (tCall s_law_take [] E0 (tCons (tVar 6) (tCons (tC (.int 9)) tNil))) (tC (.int 0)))) (tAsg (tOp (rIxL K) (tLst (tCons (tOp rSub2 (tOp (rIxT K) (tVar 7) (tC (.int 1))) (tC (.int 1))) (tCons (tOp rAdd2 (tOp (rIxT K) (tVar 7) (tC (.int 2))) (tC (.int 1))) (tCons (tOp rAdd2 (tOp rPw2 (tC (.int 10)) (tC (.int 29))) (tC (.int 7))) (tCons (tOp rSub2 (tC (.int 0)) (tOp rPw2 (tC (.int 10)) (tC (.int 29)))) tNil))))) (tCall s_law_take [] E0 (tCons (tVar 6) (tCons (tC (.int 4)) tNil)))) (gName 8)) tNext)
(tIfS (tTest (tOp (rNeNil K) (tVar 3) (tLst tNil))) (tDrop (tBM K "list" rAppend (tOp (rIxL K) (tVar 3) (tOp rMd2 (tVar 5) (tCB (rLen2 K) (tCons (tVar 3) tNil)))) (tCons (tVar 8) tNil))) tNext))))))
(tRet (tVar 3))))))
theorem ok_law_runs {P : Program} {w : World} {K : PySem.W.Frag} {mg : Str → Option Value} {base : Heap} {f : Addr} {fd : FuncData} {s_law_cell s_law_store s_law_take : Sp} {aOne : Addr} (T : Txt K mg aOne) (F : FnP K "_law_runs" "_law_runs" SwH.s_law_runs f fd) (G_law_cell : GF P w K mg base "_law_cell" 1 P_law_cell s_law_cell) (G_law_store : GF P w K mg base "_law_store" 1 P_law_store s_law_store) (G_law_take : GF P w K mg base "_law_take" 1 P_law_take s_law_take)
    (sp : Sp) (len : ∀ vs H Q E, sp vs H Q E → vs.length = 2) (rd : ∀ vs H Q E, sp vs H Q E → t_law_runs P w K s_law_cell s_law_store s_law_take { nx := fun _ H' => Q .non H', rt := Q } (start N_law_runs vs) H) : FnOk P w K mg base CX0 2 f fd P_law_runs sp := by
  refine F.ok sc_law_runs len (fun cdv A outer s H vs Q E hr h => ⟨t_law_runs P w K s_law_cell s_law_store s_law_take, PSs.nox ?_, rd vs H Q E h⟩)
  have hu : _ + 64 < cLine := hr.units
  have hud : _ + 65 < cLine := units65 hr
  have hu1 : _ + 1 < cLine := hu_of hr
  have huc : _ < cLine := hr.units0
  exact (pss_cons (ps_set (i := 2) sc_law_runs.nd rfl (Or.inl rfl) (pe_fn G_law_store hr rfl (pa_cons (pe_fn G_law_cell hr rfl (pa_cons (pv 0) (pa_cons pe_int pa_nil))) pa_nil)))
(pss_cons (ps_setLc (i := 3) (own := [("k", 5)]) (g := (gName 5)) (tt := tYes) rfl sc_law_runs.nd rfl rfl (sw_true rfl rfl rfl (by decide +kernel)) (pi_range1 rfl T.range (pa_cons (pe_fn G_law_take hr rfl (pa_cons (pv 2) (pa_cons pe_int pa_nil))) pa_nil)) (blkOk_by (own := [("k", 5)]) (N := N_law_runs) (sc := defScope SwH.s_law_runs) (by decide +kernel)) (fun _ _ _ _ _ => (pg_name (i := 5) sc_law_runs.nd rfl (Or.inl rfl))) (fun _ _ _ _ _ => pts_nil) (fun _ _ _ _ _ => (pe_lst pa_nil)))
(pss_cons (ps_set (i := 4) sc_law_runs.nd rfl (Or.inl rfl) (pe_callB (c_min rfl) rfl T.min bt_min (pa_cons (pe_callB (c_max rfl) rfl T.max bt_max (pa_cons (pe_op o_sub (pe_callB c_len rfl T.len bt_len (pa_cons (pv 0) pa_nil)) pe_int) (pa_cons (pe_fn G_law_take hr rfl (pa_cons (pv 2) (pa_cons pe_int pa_nil))) pa_nil))) (pa_cons pe_int pa_nil))))
(pss_cons (ps_for PassesOwn.never rfl (pi_range1 rfl T.range (pa_cons (pv 4) pa_nil)) (pg_name (i := 5) sc_law_runs.nd rfl (Or.inl rfl)) (pss_cons (ps_set (i := 6) sc_law_runs.nd rfl (Or.inl rfl) (pe_fn G_law_store hr rfl (pa_cons (pe_fn G_law_cell hr rfl (pa_cons (pv 0) (pa_cons (pe_op o_add pe_int (pv 5)) pa_nil))) pa_nil)))
(pss_cons (ps_set (i := 7) sc_law_runs.nd rfl (Or.inl rfl) (pe_ix ix_list (pv 1) (pe_fn G_law_take hr rfl (pa_cons (pv 6) (pa_cons (pe_callB c_len rfl T.len bt_len (pa_cons (pv 1) pa_nil)) pa_nil))) (fun _ _ => rfl)))
(pss_cons (ps_set (i := 8) sc_law_runs.nd rfl (Or.inl rfl) (pe_op o_add (pe_ix ix_tup (pv 7) pe_int (fun _ _ => rfl)) (pe_fn G_law_take hr rfl (pa_cons (pv 6) (pa_cons (pe_op o_add (pe_op o_sub (pe_ix ix_tup (pv 7) pe_int (fun _ _ => rfl)) (pe_ix ix_tup (pv 7) pe_int (fun _ _ => rfl))) pe_int) pa_nil)))))
(pss_cons (ps_if (pt_cmpR op_eq (pe_fn G_law_take hr rfl (pa_cons (pv 6) (pa_cons pe_int pa_nil))) pe_int (nomark _)) (pss_one (ps_set (i := 8) sc_law_runs.nd rfl (Or.inl rfl) (pe_ix ix_list (pe_lst (pa_cons (pe_op o_sub (pe_ix ix_tup (pv 7) pe_int (fun _ _ => rfl)) pe_int) (pa_cons (pe_op o_add (pe_ix ix_tup (pv 7) pe_int (fun _ _ => rfl)) pe_int) (pa_cons (pe_op o_add (pe_op o_pw pe_int pe_int) pe_int) (pa_cons (pe_op o_sub pe_int (pe_op o_pw pe_int pe_int)) pa_nil))))) (pe_fn G_law_take hr rfl (pa_cons (pv 6) (pa_cons pe_int pa_nil))) (fun _ _ => rfl)))) pss_nil)
(pss_one (ps_if (pt_cmpR (op_neNil huc) (pv 3) (pe_lst pa_nil) (nomark _)) (pss_one (ps_expr (pe_bm PySem.F.plainAttrs_list PySem.F.slot_list_append PySem.F.type_list_append mt_append (pe_ix ix_list (pv 3) (pe_op o_md (pv 5) (pe_callB c_len rfl T.len bt_len (pa_cons (pv 3) pa_nil))) (fun _ _ => rfl)) (pa_cons (pv 8) pa_nil)))) pss_nil)))))))
(pss_one (ps_ret (pv 3)))))))
def N_law_worth : List Str := ["e", "boxes", "values", "one", "other", "box"]
def P_law_worth : List Str := ["e", "boxes", "values"]
theorem sc_law_worth : FnScope N_law_worth P_law_worth (defScope SwH.s_law_worth) := ⟨rfl, rfl, rfl, by decide +kernel, rfl, by decide +kernel, by decide +kernel⟩
def t_law_worth (P : Program) (w : World) (K : PySem.W.Frag) (s_law_worth : Sp) : TS :=
(tSeq (tIfS (tTest (tOp rEq (tOp (rIxT K) (tVar 0) (tC (.int 0))) (tC (.str "number")))) (tRet (tOp (rIxT K) (tVar 0) (tC (.int 1)))) tNext)
(tSeq (tIfS (tTest (tOp rEq (tOp (rIxT K) (tVar 0) (tC (.int 0))) (tC (.str "box")))) (tRet (tOp (rIxT K) (tVar 2) (tBM K "list" (rIndex K) (tLc (iList K (tVar 1)) (gName 5) tYes (tOp (rIxT K) (tVar 5) (tC (.int 0))) [5]) (tCons (tOp (rIxT K) (tVar 0) (tC (.int 1))) tNil)))) tNext)
(tSeq (tAsg (tCall s_law_worth [] E0 (tCons (tOp (rIxT K) (tVar 0) (tC (.int 1))) (tCons (tVar 1) (tCons (tVar 2) tNil)))) (gName 3))
(tSeq (tAsg (tCall s_law_worth [] E0 (tCons (tOp (rIxT K) (tVar 0) (tC (.int 2))) (tCons (tVar 1) (tCons (tVar 2) tNil)))) (gName 4))
(tSeq (tIfS (tTest (tOp rEq (tOp (rIxT K) (tVar 0) (tC (.int 0))) (tC (.str "*")))) (tRet (tOp rMul2 (tVar 3) (tVar 4))) tNext)
(tSeq (tIfS (tTest (tOp rEq (tOp (rIxT K) (tVar 0) (tC (.int 0))) (tC (.str "-")))) (tRet (tOp rSub2 (tVar 3) (tVar 4))) tNext)
(tRet (tOp rAdd2 (tVar 3) (tVar 4)))))))))
theorem ok_law_worth {P : Program} {w : World} {K : PySem.W.Frag} {mg : Str → Option Value} {base : Heap} {f : Addr} {fd : FuncData} {s_law_worth : Sp} {aOne : Addr} (T : Txt K mg aOne) (F : FnP K "_law_worth" "_law_worth" SwH.s_law_worth f fd) {k : Nat} (G_law_worth : GF P w K mg base "_law_worth" k P_law_worth s_law_worth)
    (sp : Sp) (len : ∀ vs H Q E, sp vs H Q E → vs.length = 3) (rd : ∀ vs H Q E, sp vs H Q E → t_law_worth P w K s_law_worth { nx := fun _ H' => Q .non H', rt := Q } (start N_law_worth vs) H) : FnOk P w K mg base CX0 (k + 1) f fd P_law_worth sp := by
  refine F.ok sc_law_worth len (fun cdv A outer s H vs Q E hr h => ⟨t_law_worth P w K s_law_worth, PSs.nox ?_, rd vs H Q E h⟩)
  have hu : _ + 64 < cLine := hr.units
  have hud : _ + 65 < cLine := units65 hr
  have hu1 : _ + 1 < cLine := hu_of hr
  have huc : _ < cLine := hr.units0
  exact (pss_cons (ps_if (pt_cmpR op_eq (pe_ix ix_tup (pv 0) pe_int (fun _ _ => rfl)) pe_str (nomark _)) (pss_one (ps_ret (pe_ix ix_tup (pv 0) pe_int (fun _ _ => rfl)))) pss_nil)
(pss_cons (ps_if (pt_cmpR op_eq (pe_ix ix_tup (pv 0) pe_int (fun _ _ => rfl)) pe_str (nomark _)) (pss_one (ps_ret (pe_ix ix_tup (pv 2) (pe_bm PySem.F.plainAttrs_list PySem.F.slot_list_index PySem.F.type_list_index mt_index (pe_lc (own := [("box", 5)]) (g := (gName 5)) (tt := tYes) rfl sc_law_worth.nd (pi_list (pv 1)) (blkOk_by (own := [("box", 5)]) (N := N_law_worth) (sc := defScope SwH.s_law_worth) (by decide +kernel)) (fun _ _ _ _ _ => (pg_name (i := 5) sc_law_worth.nd rfl (Or.inl rfl))) (fun _ _ _ _ _ => pts_nil) (fun _ _ _ _ _ => (pe_ix ix_tup (pv 5) pe_int (fun _ _ => rfl)))) (pa_cons (pe_ix ix_tup (pv 0) pe_int (fun _ _ => rfl)) pa_nil)) (fun _ _ => rfl)))) pss_nil)
(pss_cons (ps_set (i := 3) sc_law_worth.nd rfl (Or.inl rfl) (pe_fn G_law_worth hr rfl (pa_cons (pe_ix ix_tup (pv 0) pe_int (fun _ _ => rfl)) (pa_cons (pv 1) (pa_cons (pv 2) pa_nil)))))
(pss_cons (ps_set (i := 4) sc_law_worth.nd rfl (Or.inl rfl) (pe_fn G_law_worth hr rfl (pa_cons (pe_ix ix_tup (pv 0) pe_int (fun _ _ => rfl)) (pa_cons (pv 1) (pa_cons (pv 2) pa_nil)))))
(pss_cons (ps_if (pt_cmpR op_eq (pe_ix ix_tup (pv 0) pe_int (fun _ _ => rfl)) pe_str (nomark _)) (pss_one (ps_ret (pe_op o_mul (pv 3) (pv 4)))) pss_nil)
(pss_cons (ps_if (pt_cmpR op_eq (pe_ix ix_tup (pv 0) pe_int (fun _ _ => rfl)) pe_str (nomark _)) (pss_one (ps_ret (pe_op o_sub (pv 3) (pv 4)))) pss_nil)
(pss_one (ps_ret (pe_op o_add (pv 3) (pv 4))))))))))
def N_law_next : List Str := ["program", "at", "values", "number", "row", "one", "other", "box"]
def P_law_next : List Str := ["program", "at", "values", "number"]
theorem sc_law_next : FnScope N_law_next P_law_next (defScope SwH.s_law_next) := ⟨rfl, rfl, rfl, by decide +kernel, rfl, by decide +kernel, by decide +kernel⟩
def t_law_next (P : Program) (w : World) (K : PySem.W.Frag) (s_law_worth : Sp) : TS :=
(tSeq (tAsg (tOp (rIxL K) (tOp (rIxT K) (tVar 0) (tC (.int 1))) (tVar 1)) (gName 4))
(tSeq (tIfS (tTest (tOp rEq (tOp (rIxT K) (tVar 4) (tC (.int 0))) (tC (.str "mark")))) (tRet (tTup (tCons (tOp rAdd2 (tVar 1) (tC (.int 1))) (tCons (tVar 2) tNil)))) tNext)
(tSeq (tIfS (tTest (tOp rEq (tOp (rIxT K) (tVar 4) (tC (.int 0))) (tC (.str "stop")))) (tRet (tC .non)) tNext)
(tSeq (tIfS (tTest (tOp rEq (tOp (rIxT K) (tVar 4) (tC (.int 0))) (tC (.str "go")))) (tRet (tTup (tCons (tOp (rIxT K) (tVar 4) (tC (.int 1))) (tCons (tVar 2) tNil)))) tNext)
(tSeq (tIfS (tTest (tOp rEq (tOp (rIxT K) (tVar 4) (tC (.int 0))) (tC (.str "if")))) (tSeq (tAsg (tCall s_law_worth [] E0 (tCons (tOp (rIxT K) (tVar 4) (tC (.int 2))) (tCons (tOp (rIxT K) (tVar 0) (tC (.int 0))) (tCons (tVar 2) tNil)))) (gName 5))
(tSeq (tAsg (tCall s_law_worth [] E0 (tCons (tOp (rIxT K) (tVar 4) (tC (.int 3))) (tCons (tOp (rIxT K) (tVar 0) (tC (.int 0))) (tCons (tVar 2) tNil)))) (gName 6))
(tSeq (tIfS (tOr (tAnd (tTest (tOp rEq (tOp (rIxT K) (tVar 4) (tC (.int 1))) (tC (.str "<")))) (tTest (tOp rLt2 (tVar 5) (tVar 6)))) (tAnd (tTest (tOp rEq (tOp (rIxT K) (tVar 4) (tC (.int 1))) (tC (.str "=")))) (tTest (tOp rEq (tVar 5) (tVar 6))))) (tRet (tTup (tCons (tOp (rIxT K) (tVar 4) (tC (.int 4))) (tCons (tVar 2) tNil)))) tNext)
(tRet (tTup (tCons (tOp rAdd2 (tVar 1) (tC (.int 1))) (tCons (tVar 2) tNil))))))) tNext)
(tSeq (tIfS (tTest (tOp rEq (tOp (rIxT K) (tVar 4) (tC (.int 0))) (tC (.str "put")))) (tAsg (tCall s_law_worth [] E0 (tCons (tOp (rIxT K) (tVar 4) (tC (.int 2))) (tCons (tOp (rIxT K) (tVar 0) (tC (.int 0))) (tCons (tVar 2) tNil)))) (gName 3)) tNext)
(tSeq (tAsg (tOp (rIxL K) (tOp (rIxT K) (tVar 0) (tC (.int 0))) (tOp (rIxT K) (tVar 4) (tC (.int 1)))) (gName 7))
(tSeq (tIfS (tOr (tTest (tOp rLt2 (tVar 3) (tOp (rIxT K) (tVar 7) (tC (.int 1))))) (tTest (tOp rGt2 (tVar 3) (tOp (rIxT K) (tVar 7) (tC (.int 2)))))) (tRet (tC .non)) tNext)
(tRet (tTup (tCons (tOp rAdd2 (tVar 1) (tC (.int 1))) (tCons (tOp (rCatA K) (tOp (rCatA K) (tSl (rSlA K) (tVar 2) tNoPart (tPart (tOp (rIxT K) (tVar 4) (tC (.int 1))))) (tTup (tCons (tVar 3) tNil))) (tSl (rSlA K) (tVar 2) (tPart (tOp rAdd2 (tOp (rIxT K) (tVar 4) (tC (.int 1))) (tC (.int 1)))) tNoPart)) tNil))))))))))))
theorem ok_law_next {P : Program} {w : World} {K : PySem.W.Frag} {mg : Str → Option Value} {base : Heap} {f : Addr} {fd : FuncData} {s_law_worth : Sp} {aOne : Addr} (T : Txt K mg aOne) (F : FnP K "_law_next" "_law_next" SwH.s_law_next f fd) (G_law_worth : GF P w K mg base "_law_worth" 5 P_law_worth s_law_worth)
    (sp : Sp) (len : ∀ vs H Q E, sp vs H Q E → vs.length = 4) (rd : ∀ vs H Q E, sp vs H Q E → t_law_next P w K s_law_worth { nx := fun _ H' => Q .non H', rt := Q } (start N_law_next vs) H) : FnOk P w K mg base CX0 6 f fd P_law_next sp := by
  refine F.ok sc_law_next len (fun cdv A outer s H vs Q E hr h => ⟨t_law_next P w K s_law_worth, PSs.nox ?_, rd vs H Q E h⟩)
  have hu : _ + 64 < cLine := hr.units
  have hud : _ + 65 < cLine := units65 hr
  have hu1 : _ + 1 < cLine := hu_of hr
  have huc : _ < cLine := hr.units0
  exact (pss_cons (ps_set (i := 4) sc_law_next.nd rfl (Or.inl rfl) (pe_ix ix_list (pe_ix ix_tup (pv 0) pe_int (fun _ _ => rfl)) (pv 1) (fun _ _ => rfl)))
(pss_cons (ps_if (pt_cmpR op_eq (pe_ix ix_tup (pv 4) pe_int (fun _ _ => rfl)) pe_str (nomark _)) (pss_one (ps_ret (pe_tup (pa_cons (pe_op o_add (pv 1) pe_int) (pa_cons (pv 2) pa_nil))))) pss_nil)
(pss_cons (ps_if (pt_cmpR op_eq (pe_ix ix_tup (pv 4) pe_int (fun _ _ => rfl)) pe_str (nomark _)) (pss_one (ps_ret pe_non)) pss_nil)
(pss_cons (ps_if (pt_cmpR op_eq (pe_ix ix_tup (pv 4) pe_int (fun _ _ => rfl)) pe_str (nomark _)) (pss_one (ps_ret (pe_tup (pa_cons (pe_ix ix_tup (pv 4) pe_int (fun _ _ => rfl)) (pa_cons (pv 2) pa_nil))))) pss_nil)
(pss_cons (ps_if (pt_cmpR op_eq (pe_ix ix_tup (pv 4) pe_int (fun _ _ => rfl)) pe_str (nomark _)) (pss_cons (ps_set (i := 5) sc_law_next.nd rfl (Or.inl rfl) (pe_fn G_law_worth hr rfl (pa_cons (pe_ix ix_tup (pv 4) pe_int (fun _ _ => rfl)) (pa_cons (pe_ix ix_tup (pv 0) pe_int (fun _ _ => rfl)) (pa_cons (pv 2) pa_nil)))))
(pss_cons (ps_set (i := 6) sc_law_next.nd rfl (Or.inl rfl) (pe_fn G_law_worth hr rfl (pa_cons (pe_ix ix_tup (pv 4) pe_int (fun _ _ => rfl)) (pa_cons (pe_ix ix_tup (pv 0) pe_int (fun _ _ => rfl)) (pa_cons (pv 2) pa_nil)))))
(pss_cons (ps_if (PW.pt (pw_or (PW.pt (pw_and (pt_cmpR op_eq (pe_ix ix_tup (pv 4) pe_int (fun _ _ => rfl)) pe_str (nomark _)) (pw_and1 (pt_cmpR o_lt (pv 5) (pv 6) (nomark _))))) (pw_or1 (PW.pt (pw_and (pt_cmpR op_eq (pe_ix ix_tup (pv 4) pe_int (fun _ _ => rfl)) pe_str (nomark _)) (pw_and1 (pt_cmpR op_eq (pv 5) (pv 6) (nomark _)))))))) (pss_one (ps_ret (pe_tup (pa_cons (pe_ix ix_tup (pv 4) pe_int (fun _ _ => rfl)) (pa_cons (pv 2) pa_nil))))) pss_nil)
(pss_one (ps_ret (pe_tup (pa_cons (pe_op o_add (pv 1) pe_int) (pa_cons (pv 2) pa_nil)))))))) pss_nil)
(pss_cons (ps_if (pt_cmpR op_eq (pe_ix ix_tup (pv 4) pe_int (fun _ _ => rfl)) pe_str (nomark _)) (pss_one (ps_set (i := 3) sc_law_next.nd rfl (Or.inl rfl) (pe_fn G_law_worth hr rfl (pa_cons (pe_ix ix_tup (pv 4) pe_int (fun _ _ => rfl)) (pa_cons (pe_ix ix_tup (pv 0) pe_int (fun _ _ => rfl)) (pa_cons (pv 2) pa_nil)))))) pss_nil)
(pss_cons (ps_set (i := 7) sc_law_next.nd rfl (Or.inl rfl) (pe_ix ix_list (pe_ix ix_tup (pv 0) pe_int (fun _ _ => rfl)) (pe_ix ix_tup (pv 4) pe_int (fun _ _ => rfl)) (fun _ _ => rfl)))
(pss_cons (ps_if (PW.pt (pw_or (pt_cmpR o_lt (pv 3) (pe_ix ix_tup (pv 7) pe_int (fun _ _ => rfl)) (nomark _)) (pw_or1 (pt_cmpR o_gt (pv 3) (pe_ix ix_tup (pv 7) pe_int (fun _ _ => rfl)) (nomark _))))) (pss_one (ps_ret pe_non)) pss_nil)
(pss_one (ps_ret (pe_tup (pa_cons (pe_op o_add (pv 1) pe_int) (pa_cons (pe_op op_catA (pe_op op_catA (pe_slice sl_tupA (pv 2) po_none (po_some (pe_ix ix_tup (pv 4) pe_int (fun _ _ => rfl)))) (pe_tup (pa_cons (pv 3) pa_nil))) (pe_slice sl_tupA (pv 2) (po_some (pe_op o_add (pe_ix ix_tup (pv 4) pe_int (fun _ _ => rfl)) pe_int)) po_none)) pa_nil)))))))))))))
def N_law_passed : List Str := ["program", "numbers", "told", "met", "at", "place", "row", "number", "box"]
def P_law_passed : List Str := ["program", "numbers"]
theorem sc_law_passed : FnScope N_law_passed P_law_passed (defScope SwH.s_law_passed) := ⟨rfl, rfl, rfl, by decide +kernel, rfl, by decide +kernel, by decide +kernel⟩
def t_law_passed (P : Program) (w : World) (K : PySem.W.Frag) (s_law_next : Sp) : TS :=
(tSeq (tAsg (tLst tNil) (gName 2))
(tSeq (tAsg (tNNew P w) (gName 3))
(tSeq (tAsg (tC (.int 0)) (gName 4))
(tSeq (tAsg (tTup (tCons (tC (.int 0)) (tCons (tCB (rTup2 K) (tCons (tLc (iList K (tOp (rIxT K) (tVar 0) (tC (.int 0)))) (gName 8) tYes (tOp (rIxT K) (tVar 8) (tC (.int 3))) [8]) tNil)) tNil))) (gName 5))
(tSeq (tWhile (tAnd (tTest (tOp rNotN (tVar 5) (tC .non))) (tAnd (tTest (tOp rLt2 (tOp (rIxT K) (tVar 5) (tC (.int 0))) (tCB (rLen2 K) (tCons (tOp (rIxT K) (tVar 0) (tC (.int 1))) tNil)))) (tB (tNNotIn P w K (tVar 5) (tVar 3))))) (tSeq (sNPut P w K (tVar 3) (tVar 5) (tC (.bl true)))
(tSeq (tAsg (tOp (rIxL K) (tOp (rIxT K) (tVar 0) (tC (.int 1))) (tOp (rIxT K) (tVar 5) (tC (.int 0)))) (gName 6))
(tSeq (tAsg (tC (.int 0)) (gName 7))
(tSeq (tIfS (tTest (tOp rEq (tOp (rIxT K) (tVar 6) (tC (.int 0))) (tC (.str "mark")))) (tDrop (tBM K "list" rAppend (tVar 2) (tCons (tTup (tCons (tOp (rIxT K) (tVar 6) (tC (.int 1))) (tCons (tOp (rIxT K) (tVar 5) (tC (.int 1))) tNil))) tNil))) tNext)
(tSeq (tIfS (tTest (tOp rEq (tOp (rIxT K) (tVar 6) (tC (.int 0))) (tC (.str "ask")))) (tSeq (tIfS (tTest (tOp rEq (tVar 4) (tCB (rLen2 K) (tCons (tVar 1) tNil)))) (tRet (tVar 2)) tNext)
(tSeq (tAsg (tOp (rIxL K) (tVar 1) (tVar 4)) (gName 7))
(tSeq (tAsg (tOp rAdd2 (tVar 4) (tC (.int 1))) (gName 4))
(tAsg (tNNew P w) (gName 3))))) tNext)
(tAsg (tCall s_law_next [] E0 (tCons (tVar 0) (tCons (tOp (rIxT K) (tVar 5) (tC (.int 0))) (tCons (tOp (rIxT K) (tVar 5) (tC (.int 1))) (tCons (tVar 7) tNil))))) (gName 5))))))))
(tRet (tVar 2)))))))
theorem ok_law_passed {P : Program} {w : World} {K : PySem.W.Frag} {mg : Str → Option Value} {base : Heap} {f : Addr} {fd : FuncData} {s_law_next : Sp} {aOne : Addr} (T : Txt K mg aOne) (F : FnP K "_law_passed" "_law_passed" SwH.s_law_passed f fd) (G_law_next : GF P w K mg base "_law_next" 6 P_law_next s_law_next)
    (sp : Sp) (len : ∀ vs H Q E, sp vs H Q E → vs.length = 2) (rd : ∀ vs H Q E, sp vs H Q E → t_law_passed P w K s_law_next { nx := fun _ H' => Q .non H', rt := Q } (start N_law_passed vs) H) : FnOk P w K mg base CX0 7 f fd P_law_passed sp := by
  refine F.ok sc_law_passed len (fun cdv A outer s H vs Q E hr h => ⟨t_law_passed P w K s_law_next, PSs.nox ?_, rd vs H Q E h⟩)
  have hu : _ + 64 < cLine := hr.units
  have hud : _ + 65 < cLine := units65 hr
  have hu1 : _ + 1 < cLine := hu_of hr
  have huc : _ < cLine := hr.units0
  exact (pss_cons (ps_set (i := 2) sc_law_passed.nd rfl (Or.inl rfl) (pe_lst pa_nil))
(pss_cons (ps_set (i := 3) sc_law_passed.nd rfl (Or.inl rfl) pe_nnew)
(pss_cons (ps_set (i := 4) sc_law_passed.nd rfl (Or.inl rfl) pe_int)
(pss_cons (ps_set (i := 5) sc_law_passed.nd rfl (Or.inl rfl) (pe_tup (pa_cons pe_int (pa_cons (pe_callTy c_tuple rfl T.tuple bt_tuple (pa_cons (pe_lc (own := [("box", 8)]) (g := (gName 8)) (tt := tYes) rfl sc_law_passed.nd (pi_list (pe_ix ix_tup (pv 0) pe_int (fun _ _ => rfl))) (blkOk_by (own := [("box", 8)]) (N := N_law_passed) (sc := defScope SwH.s_law_passed) (by decide +kernel)) (fun _ _ _ _ _ => (pg_name (i := 8) sc_law_passed.nd rfl (Or.inl rfl))) (fun _ _ _ _ _ => pts_nil) (fun _ _ _ _ _ => (pe_ix ix_tup (pv 8) pe_int (fun _ _ => rfl)))) pa_nil)) pa_nil))))
(pss_cons (ps_while PassesOwn.never (PW.pt (pw_and (pt_cmpR op_notN1 (pv 5) pe_non (nomark _)) (pw_and (pt_cmpR o_lt (pe_ix ix_tup (pv 5) pe_int (fun _ _ => rfl)) (pe_callB c_len rfl T.len bt_len (pa_cons (pe_ix ix_tup (pv 0) pe_int (fun _ _ => rfl)) pa_nil)) (nomark _)) (pw_and1 (pt_cmp (pc_nnotin hu (pv 5) (pv 3))))))) (pss_cons (ps_nput hu (pv 3) (pv 5) pe_bl rfl)
(pss_cons (ps_set (i := 6) sc_law_passed.nd rfl (Or.inl rfl) (pe_ix ix_list (pe_ix ix_tup (pv 0) pe_int (fun _ _ => rfl)) (pe_ix ix_tup (pv 5) pe_int (fun _ _ => rfl)) (fun _ _ => rfl)))
(pss_cons (ps_set (i := 7) sc_law_passed.nd rfl (Or.inl rfl) pe_int)
(pss_cons (ps_if (pt_cmpR op_eq (pe_ix ix_tup (pv 6) pe_int (fun _ _ => rfl)) pe_str (nomark _)) (pss_one (ps_expr (pe_bm PySem.F.plainAttrs_list PySem.F.slot_list_append PySem.F.type_list_append mt_append (pv 2) (pa_cons (pe_tup (pa_cons (pe_ix ix_tup (pv 6) pe_int (fun _ _ => rfl)) (pa_cons (pe_ix ix_tup (pv 5) pe_int (fun _ _ => rfl)) pa_nil))) pa_nil)))) pss_nil)
(pss_cons (ps_if (pt_cmpR op_eq (pe_ix ix_tup (pv 6) pe_int (fun _ _ => rfl)) pe_str (nomark _)) (pss_cons (ps_if (pt_cmpR op_eq (pv 4) (pe_callB c_len rfl T.len bt_len (pa_cons (pv 1) pa_nil)) (nomark _)) (pss_one (ps_ret (pv 2))) pss_nil)
(pss_cons (ps_set (i := 7) sc_law_passed.nd rfl (Or.inl rfl) (pe_ix ix_list (pv 1) (pv 4) (fun _ _ => rfl)))
(pss_cons (ps_set (i := 4) sc_law_passed.nd rfl (Or.inl rfl) (pe_op o_add (pv 4) pe_int))
(pss_one (ps_set (i := 3) sc_law_passed.nd rfl (Or.inl rfl) pe_nnew))))) pss_nil)
(pss_one (ps_set (i := 5) sc_law_passed.nd rfl (Or.inl rfl) (pe_fn G_law_next hr rfl (pa_cons (pv 0) (pa_cons (pe_ix ix_tup (pv 5) pe_int (fun _ _ => rfl)) (pa_cons (pe_ix ix_tup (pv 5) pe_int (fun _ _ => rfl)) (pa_cons (pv 7) pa_nil)))))))))))))
(pss_one (ps_ret (pv 2))))))))
def N_law_go_on : List Str := ["program", "place", "numbers", "met", "told", "asks", "row"]
def P_law_go_on : List Str := ["program", "place", "numbers", "met", "told"]
theorem sc_law_go_on : FnScope N_law_go_on P_law_go_on (defScope SwH.s_law_go_on) := ⟨rfl, rfl, rfl, by decide +kernel, rfl, by decide +kernel, by decide +kernel⟩
def t_law_go_on (P : Program) (w : World) (K : PySem.W.Frag) (s_law_next : Sp) : TS :=
(tSeq (tAsg (tLst tNil) (gName 5))
(tSeq (tWhile (tAnd (tTest (tOp rNotN (tVar 1) (tC .non))) (tAnd (tTest (tOp rLt2 (tOp (rIxT K) (tVar 1) (tC (.int 0))) (tCB (rLen2 K) (tCons (tOp (rIxT K) (tVar 0) (tC (.int 1))) tNil)))) (tB (tNNotIn P w K (tVar 1) (tVar 3))))) (tSeq (sNPut P w K (tVar 3) (tVar 1) (tC (.bl true)))
(tSeq (tAsg (tOp (rIxL K) (tOp (rIxT K) (tVar 0) (tC (.int 1))) (tOp (rIxT K) (tVar 1) (tC (.int 0)))) (gName 6))
(tSeq (tIfS (tTest (tOp rEq (tOp (rIxT K) (tVar 6) (tC (.int 0))) (tC (.str "mark")))) (sNPut P w K (tVar 4) (tTup (tCons (tOp (rIxT K) (tVar 6) (tC (.int 1))) (tCons (tOp (rIxT K) (tVar 1) (tC (.int 1))) tNil))) (tVar 2)) tNext)
(tIfS (tTest (tOp rEq (tOp (rIxT K) (tVar 6) (tC (.int 0))) (tC (.str "ask")))) (tSeq (tDrop (tBM K "list" rAppend (tVar 5) (tCons (tTup (tCons (tVar 1) (tCons (tVar 2) tNil))) tNil)))
(tAsg (tC .non) (gName 1))) (tAsg (tCall s_law_next [] E0 (tCons (tVar 0) (tCons (tOp (rIxT K) (tVar 1) (tC (.int 0))) (tCons (tOp (rIxT K) (tVar 1) (tC (.int 1))) (tCons (tC (.int 0)) tNil))))) (gName 1)))))))
(tRet (tVar 5))))
theorem ok_law_go_on {P : Program} {w : World} {K : PySem.W.Frag} {mg : Str → Option Value} {base : Heap} {f : Addr} {fd : FuncData} {s_law_next : Sp} {aOne : Addr} (T : Txt K mg aOne) (F : FnP K "_law_go_on" "_law_go_on" SwH.s_law_go_on f fd) (G_law_next : GF P w K mg base "_law_next" 6 P_law_next s_law_next)
    (sp : Sp) (len : ∀ vs H Q E, sp vs H Q E → vs.length = 5) (rd : ∀ vs H Q E, sp vs H Q E → t_law_go_on P w K s_law_next { nx := fun _ H' => Q .non H', rt := Q } (start N_law_go_on vs) H) : FnOk P w K mg base CX0 7 f fd P_law_go_on sp := by
  refine F.ok sc_law_go_on len (fun cdv A outer s H vs Q E hr h => ⟨t_law_go_on P w K s_law_next, PSs.nox ?_, rd vs H Q E h⟩)
  have hu : _ + 64 < cLine := hr.units
  have hud : _ + 65 < cLine := units65 hr
  have hu1 : _ + 1 < cLine := hu_of hr
  have huc : _ < cLine := hr.units0
  exact (pss_cons (ps_set (i := 5) sc_law_go_on.nd rfl (Or.inl rfl) (pe_lst pa_nil))
(pss_cons (ps_while PassesOwn.never (PW.pt (pw_and (pt_cmpR op_notN1 (pv 1) pe_non (nomark _)) (pw_and (pt_cmpR o_lt (pe_ix ix_tup (pv 1) pe_int (fun _ _ => rfl)) (pe_callB c_len rfl T.len bt_len (pa_cons (pe_ix ix_tup (pv 0) pe_int (fun _ _ => rfl)) pa_nil)) (nomark _)) (pw_and1 (pt_cmp (pc_nnotin hu (pv 1) (pv 3))))))) (pss_cons (ps_nput hu (pv 3) (pv 1) pe_bl rfl)
(pss_cons (ps_set (i := 6) sc_law_go_on.nd rfl (Or.inl rfl) (pe_ix ix_list (pe_ix ix_tup (pv 0) pe_int (fun _ _ => rfl)) (pe_ix ix_tup (pv 1) pe_int (fun _ _ => rfl)) (fun _ _ => rfl)))
(pss_cons (ps_if (pt_cmpR op_eq (pe_ix ix_tup (pv 6) pe_int (fun _ _ => rfl)) pe_str (nomark _)) (pss_one (ps_nput hu (pv 4) (pe_tup (pa_cons (pe_ix ix_tup (pv 6) pe_int (fun _ _ => rfl)) (pa_cons (pe_ix ix_tup (pv 1) pe_int (fun _ _ => rfl)) pa_nil))) (pv 2) rfl)) pss_nil)
(pss_one (ps_if (pt_cmpR op_eq (pe_ix ix_tup (pv 6) pe_int (fun _ _ => rfl)) pe_str (nomark _)) (pss_cons (ps_expr (pe_bm PySem.F.plainAttrs_list PySem.F.slot_list_append PySem.F.type_list_append mt_append (pv 5) (pa_cons (pe_tup (pa_cons (pv 1) (pa_cons (pv 2) pa_nil))) pa_nil)))
(pss_one (ps_set (i := 1) sc_law_go_on.nd rfl (Or.inl rfl) pe_non))) (pss_one (ps_set (i := 1) sc_law_go_on.nd rfl (Or.inl rfl) (pe_fn G_law_next hr rfl (pa_cons (pv 0) (pa_cons (pe_ix ix_tup (pv 1) pe_int (fun _ _ => rfl)) (pa_cons (pe_ix ix_tup (pv 1) pe_int (fun _ _ => rfl)) (pa_cons pe_int pa_nil)))))))))))))
(pss_one (ps_ret (pv 5)))))
def N_law_inputs : List Str := ["program", "told", "met", "fresh", "asks", "place", "numbers", "box", "number"]
def P_law_inputs : List Str := ["program"]
theorem sc_law_inputs : FnScope N_law_inputs P_law_inputs (defScope SwH.s_law_inputs) := ⟨rfl, rfl, rfl, by decide +kernel, rfl, by decide +kernel, by decide +kernel⟩
def t_law_inputs (P : Program) (w : World) (K : PySem.W.Frag) (s_law_next s_law_go_on : Sp) : TS :=
(tSeq (tAsg (tNNew P w) (gName 1))
(tSeq (tAsg (tNNew P w) (gName 2))
(tSeq (tAsg (tLst (tCons (tTup (tCons (tTup (tCons (tC (.int 0)) (tCons (tCB (rTup2 K) (tCons (tLc (iList K (tOp (rIxT K) (tVar 0) (tC (.int 0)))) (gName 7) tYes (tOp (rIxT K) (tVar 7) (tC (.int 3))) [7]) tNil)) tNil))) (tCons (tLst tNil) tNil))) tNil)) (gName 3))
(tSeq (tWhile (tTest (tOp (rNeNil K) (tVar 3) (tLst tNil))) (tSeq (tAsg (tLst tNil) (gName 4))
(tSeq (tFor (iList K (tVar 3)) (gTup K 2 (gCons (gName 5) (gCons (gName 6) gNil))) (tAsg (tOp rCat (tVar 4) (tCall s_law_go_on [] E0 (tCons (tVar 0) (tCons (tVar 5) (tCons (tVar 6) (tCons (tVar 2) (tCons (tVar 1) tNil))))))) (gName 4)))
(tSeq (tAsg (tLst tNil) (gName 3))
(tFor (iList K (tVar 4)) (gTup K 2 (gCons (gName 5) (gCons (gName 6) gNil))) (tSeq (tAsg (tOp (rIxL K) (tOp (rIxT K) (tVar 0) (tC (.int 0))) (tOp (rIxT K) (tOp (rIxL K) (tOp (rIxT K) (tVar 0) (tC (.int 1))) (tOp (rIxT K) (tVar 5) (tC (.int 0)))) (tC (.int 1)))) (gName 7))
(tFor (iRng2 (tCons (tOp (rIxT K) (tVar 7) (tC (.int 1))) (tCons (tOp rAdd2 (tOp (rIxT K) (tVar 7) (tC (.int 2))) (tC (.int 1))) tNil))) (gName 8) (tDrop (tBM K "list" rAppend (tVar 3) (tCons (tTup (tCons (tCall s_law_next [] E0 (tCons (tVar 0) (tCons (tOp (rIxT K) (tVar 5) (tC (.int 0))) (tCons (tOp (rIxT K) (tVar 5) (tC (.int 1))) (tCons (tVar 8) tNil))))) (tCons (tOp rCat (tVar 6) (tLst (tCons (tVar 8) tNil))) tNil))) tNil))))))))))
(tRet (tVar 1))))))
theorem ok_law_inputs {P : Program} {w : World} {K : PySem.W.Frag} {mg : Str → Option Value} {base : Heap} {f : Addr} {fd : FuncData} {s_law_next s_law_go_on : Sp} {aOne : Addr} (T : Txt K mg aOne) (F : FnP K "_law_inputs" "_law_inputs" SwH.s_law_inputs f fd) (G_law_next : GF P w K mg base "_law_next" 6 P_law_next s_law_next) (G_law_go_on : GF P w K mg base "_law_go_on" 7 P_law_go_on s_law_go_on)
    (sp : Sp) (len : ∀ vs H Q E, sp vs H Q E → vs.length = 1) (rd : ∀ vs H Q E, sp vs H Q E → t_law_inputs P w K s_law_next s_law_go_on { nx := fun _ H' => Q .non H', rt := Q } (start N_law_inputs vs) H) : FnOk P w K mg base CX0 8 f fd P_law_inputs sp := by
  refine F.ok sc_law_inputs len (fun cdv A outer s H vs Q E hr h => ⟨t_law_inputs P w K s_law_next s_law_go_on, PSs.nox ?_, rd vs H Q E h⟩)
  have hu : _ + 64 < cLine := hr.units
  have hud : _ + 65 < cLine := units65 hr
  have hu1 : _ + 1 < cLine := hu_of hr
  have huc : _ < cLine := hr.units0
  exact (pss_cons (ps_set (i := 1) sc_law_inputs.nd rfl (Or.inl rfl) pe_nnew)
(pss_cons (ps_set (i := 2) sc_law_inputs.nd rfl (Or.inl rfl) pe_nnew)
(pss_cons (ps_set (i := 3) sc_law_inputs.nd rfl (Or.inl rfl) (pe_lst (pa_cons (pe_tup (pa_cons (pe_tup (pa_cons pe_int (pa_cons (pe_callTy c_tuple rfl T.tuple bt_tuple (pa_cons (pe_lc (own := [("box", 7)]) (g := (gName 7)) (tt := tYes) rfl sc_law_inputs.nd (pi_list (pe_ix ix_tup (pv 0) pe_int (fun _ _ => rfl))) (blkOk_by (own := [("box", 7)]) (N := N_law_inputs) (sc := defScope SwH.s_law_inputs) (by decide +kernel)) (fun _ _ _ _ _ => (pg_name (i := 7) sc_law_inputs.nd rfl (Or.inl rfl))) (fun _ _ _ _ _ => pts_nil) (fun _ _ _ _ _ => (pe_ix ix_tup (pv 7) pe_int (fun _ _ => rfl)))) pa_nil)) pa_nil))) (pa_cons (pe_lst pa_nil) pa_nil))) pa_nil)))
(pss_cons (ps_while PassesOwn.never (pt_cmpR (op_neNil huc) (pv 3) (pe_lst pa_nil) (nomark _)) (pss_cons (ps_set (i := 4) sc_law_inputs.nd rfl (Or.inl rfl) (pe_lst pa_nil))
(pss_cons (ps_for PassesOwn.never rfl (pi_list (pv 3)) (pg_tup rfl (pgs_cons (pg_name (i := 5) sc_law_inputs.nd rfl (Or.inl rfl)) (pgs_cons (pg_name (i := 6) sc_law_inputs.nd rfl (Or.inl rfl)) pgs_nil))) (pss_one (ps_set (i := 4) sc_law_inputs.nd rfl (Or.inl rfl) (pe_op op_cat (pv 4) (pe_fn G_law_go_on hr rfl (pa_cons (pv 0) (pa_cons (pv 5) (pa_cons (pv 6) (pa_cons (pv 2) (pa_cons (pv 1) pa_nil))))))))))
(pss_cons (ps_set (i := 3) sc_law_inputs.nd rfl (Or.inl rfl) (pe_lst pa_nil))
(pss_one (ps_for PassesOwn.never rfl (pi_list (pv 4)) (pg_tup rfl (pgs_cons (pg_name (i := 5) sc_law_inputs.nd rfl (Or.inl rfl)) (pgs_cons (pg_name (i := 6) sc_law_inputs.nd rfl (Or.inl rfl)) pgs_nil))) (pss_cons (ps_set (i := 7) sc_law_inputs.nd rfl (Or.inl rfl) (pe_ix ix_list (pe_ix ix_tup (pv 0) pe_int (fun _ _ => rfl)) (pe_ix ix_tup (pe_ix ix_list (pe_ix ix_tup (pv 0) pe_int (fun _ _ => rfl)) (pe_ix ix_tup (pv 5) pe_int (fun _ _ => rfl)) (fun _ _ => rfl)) pe_int (fun _ _ => rfl)) (fun _ _ => rfl)))
(pss_one (ps_for PassesOwn.never rfl (pi_range2 rfl T.range (pa_cons (pe_ix ix_tup (pv 7) pe_int (fun _ _ => rfl)) (pa_cons (pe_op o_add (pe_ix ix_tup (pv 7) pe_int (fun _ _ => rfl)) pe_int) pa_nil))) (pg_name (i := 8) sc_law_inputs.nd rfl (Or.inl rfl)) (pss_one (ps_expr (pe_bm PySem.F.plainAttrs_list PySem.F.slot_list_append PySem.F.type_list_append mt_append (pv 3) (pa_cons (pe_tup (pa_cons (pe_fn G_law_next (hr.mono (by decide)) rfl (pa_cons (pv 0) (pa_cons (pe_ix ix_tup (pv 5) pe_int (fun _ _ => rfl)) (pa_cons (pe_ix ix_tup (pv 5) pe_int (fun _ _ => rfl)) (pa_cons (pv 8) pa_nil))))) (pa_cons (pe_op op_cat (pv 6) (pe_lst (pa_cons (pv 8) pa_nil))) pa_nil))) pa_nil)))))))))))))
(pss_one (ps_ret (pv 1)))))))
def N_law_so : List Str := ["saying", "values", "word", "one", "other"]
def P_law_so : List Str := ["saying", "values"]
theorem sc_law_so : FnScope N_law_so P_law_so (defScope SwH.s_law_so) := ⟨rfl, rfl, rfl, by decide +kernel, rfl, by decide +kernel, by decide +kernel⟩
def t_law_so (P : Program) (w : World) (K : PySem.W.Frag) : TS :=
(tSeq (tAsg (tOp (rIxT K) (tVar 0) (tC (.int 0))) (gName 2))
(tSeq (tAsg (tOp (rIxT K) (tVar 1) (tOp (rIxT K) (tVar 0) (tC (.int 1)))) (gName 3))
(tSeq (tIfS (tTest (tOp rEq (tVar 2) (tC (.str "is")))) (tRet (tOp rEq (tVar 3) (tOp (rIxT K) (tVar 0) (tC (.int 2))))) tNext)
(tSeq (tIfS (tTest (tOp rEq (tVar 2) (tC (.str "from")))) (tRet (tOp rGtE2 (tVar 3) (tOp (rIxT K) (tVar 0) (tC (.int 2))))) tNext)
(tSeq (tIfS (tTest (tOp rEq (tVar 2) (tC (.str "to")))) (tRet (tOp rLtE2 (tVar 3) (tOp (rIxT K) (tVar 0) (tC (.int 2))))) tNext)
(tSeq (tIfS (tTest (tOp rEq (tVar 2) (tC (.str "never")))) (tRet (tOp rNe (tVar 3) (tOp (rIxT K) (tVar 0) (tC (.int 2))))) tNext)
(tSeq (tIfS (tTest (tOp rEq (tVar 2) (tC (.str "rest")))) (tRet (tOp rEq (tOp rMd2 (tVar 3) (tOp (rIxT K) (tVar 0) (tC (.int 2)))) (tOp (rIxT K) (tVar 0) (tC (.int 3))))) tNext)
(tSeq (tIfS (tTest (tOp rEq (tVar 2) (tC (.str "either")))) (tRet (tOrV (tOp rEq (tVar 3) (tOp (rIxT K) (tVar 0) (tC (.int 2)))) (tOp rEq (tVar 3) (tOp (rIxT K) (tVar 0) (tC (.int 3)))))) tNext)
(tSeq (tAsg (tOp (rIxT K) (tVar 1) (tOp (rIxT K) (tVar 0) (tC (.int 2)))) (gName 4))
(tSeq (tIfS (tTest (tOp rEq (tVar 2) (tC (.str "same")))) (tRet (tOp rEq (tVar 3) (tVar 4))) tNext)
(tSeq (tIfS (tTest (tOp rEq (tVar 2) (tC (.str "below")))) (tRet (tOp rLt2 (tVar 3) (tVar 4))) tNext)
(tSeq (tIfS (tTest (tOp rEq (tVar 2) (tC (.str "most")))) (tRet (tOp rLtE2 (tVar 3) (tVar 4))) tNext)
(tSeq (tIfS (tTest (tOp rEq (tVar 2) (tC (.str "gap")))) (tRet (tOp rEq (tOp rSub2 (tVar 3) (tVar 4)) (tOp (rIxT K) (tVar 0) (tC (.int 3))))) tNext)
(tSeq (tIfS (tTest (tOp rEq (tVar 2) (tC (.str "sum")))) (tRet (tOp rEq (tOp rAdd2 (tVar 3) (tVar 4)) (tOp (rIxT K) (tVar 0) (tC (.int 3))))) tNext)
(tSeq (tIfS (tTest (tOp rEq (tVar 2) (tC (.str "adds")))) (tRet (tOp rEq (tOp rAdd2 (tVar 3) (tVar 4)) (tOp (rIxT K) (tVar 1) (tOp (rIxT K) (tVar 0) (tC (.int 3)))))) tNext)
(tRet (tOp rEq (tOp rMul2 (tVar 3) (tVar 4)) (tOp (rIxT K) (tVar 1) (tOp (rIxT K) (tVar 0) (tC (.int 3)))))))))))))))))))))
theorem ok_law_so {P : Program} {w : World} {K : PySem.W.Frag} {mg : Str → Option Value} {base : Heap} {f : Addr} {fd : FuncData} {aOne : Addr} (T : Txt K mg aOne) (F : FnP K "_law_so" "_law_so" SwH.s_law_so f fd) 
    (sp : Sp) (len : ∀ vs H Q E, sp vs H Q E → vs.length = 2) (rd : ∀ vs H Q E, sp vs H Q E → t_law_so P w K { nx := fun _ H' => Q .non H', rt := Q } (start N_law_so vs) H) : FnOk P w K mg base CX0 1 f fd P_law_so sp := by
  refine F.ok sc_law_so len (fun cdv A outer s H vs Q E hr h => ⟨t_law_so P w K, PSs.nox ?_, rd vs H Q E h⟩)
  have hu : _ + 64 < cLine := hr.units
  have hud : _ + 65 < cLine := units65 hr
  have hu1 : _ + 1 < cLine := hu_of hr
  have huc : _ < cLine := hr.units0
  exact (pss_cons (ps_set (i := 2) sc_law_so.nd rfl (Or.inl rfl) (pe_ix ix_tup (pv 0) pe_int (fun _ _ => rfl)))
(pss_cons (ps_set (i := 3) sc_law_so.nd rfl (Or.inl rfl) (pe_ix ix_tup (pv 1) (pe_ix ix_tup (pv 0) pe_int (fun _ _ => rfl)) (fun _ _ => rfl)))
(pss_cons (ps_if (pt_cmpR op_eq (pv 2) pe_str (nomark _)) (pss_one (ps_ret (pe_cmpR op_eq (pv 3) (pe_ix ix_tup (pv 0) pe_int (fun _ _ => rfl)) (nomark _)))) pss_nil)
(pss_cons (ps_if (pt_cmpR op_eq (pv 2) pe_str (nomark _)) (pss_one (ps_ret (pe_cmpR o_gte (pv 3) (pe_ix ix_tup (pv 0) pe_int (fun _ _ => rfl)) (nomark _)))) pss_nil)
(pss_cons (ps_if (pt_cmpR op_eq (pv 2) pe_str (nomark _)) (pss_one (ps_ret (pe_cmpR o_lte (pv 3) (pe_ix ix_tup (pv 0) pe_int (fun _ _ => rfl)) (nomark _)))) pss_nil)
(pss_cons (ps_if (pt_cmpR op_eq (pv 2) pe_str (nomark _)) (pss_one (ps_ret (pe_cmpR op_ne (pv 3) (pe_ix ix_tup (pv 0) pe_int (fun _ _ => rfl)) (nomark _)))) pss_nil)
(pss_cons (ps_if (pt_cmpR op_eq (pv 2) pe_str (nomark _)) (pss_one (ps_ret (pe_cmpR op_eq (pe_op o_md (pv 3) (pe_ix ix_tup (pv 0) pe_int (fun _ _ => rfl))) (pe_ix ix_tup (pv 0) pe_int (fun _ _ => rfl)) (nomark _)))) pss_nil)
(pss_cons (ps_if (pt_cmpR op_eq (pv 2) pe_str (nomark _)) (pss_one (ps_ret (pe_or (pe_cmpR op_eq (pv 3) (pe_ix ix_tup (pv 0) pe_int (fun _ _ => rfl)) (nomark _)) (pe_one (pe_cmpR op_eq (pv 3) (pe_ix ix_tup (pv 0) pe_int (fun _ _ => rfl)) (nomark _)))))) pss_nil)
(pss_cons (ps_set (i := 4) sc_law_so.nd rfl (Or.inl rfl) (pe_ix ix_tup (pv 1) (pe_ix ix_tup (pv 0) pe_int (fun _ _ => rfl)) (fun _ _ => rfl)))
(pss_cons (ps_if (pt_cmpR op_eq (pv 2) pe_str (nomark _)) (pss_one (ps_ret (pe_cmpR op_eq (pv 3) (pv 4) (nomark _)))) pss_nil)
(pss_cons (ps_if (pt_cmpR op_eq (pv 2) pe_str (nomark _)) (pss_one (ps_ret (pe_cmpR o_lt (pv 3) (pv 4) (nomark _)))) pss_nil)
(pss_cons (ps_if (pt_cmpR op_eq (pv 2) pe_str (nomark _)) (pss_one (ps_ret (pe_cmpR o_lte (pv 3) (pv 4) (nomark _)))) pss_nil)
(pss_cons (ps_if (pt_cmpR op_eq (pv 2) pe_str (nomark _)) (pss_one (ps_ret (pe_cmpR op_eq (pe_op o_sub (pv 3) (pv 4)) (pe_ix ix_tup (pv 0) pe_int (fun _ _ => rfl)) (nomark _)))) pss_nil)
(pss_cons (ps_if (pt_cmpR op_eq (pv 2) pe_str (nomark _)) (pss_one (ps_ret (pe_cmpR op_eq (pe_op o_add (pv 3) (pv 4)) (pe_ix ix_tup (pv 0) pe_int (fun _ _ => rfl)) (nomark _)))) pss_nil)
(pss_cons (ps_if (pt_cmpR op_eq (pv 2) pe_str (nomark _)) (pss_one (ps_ret (pe_cmpR op_eq (pe_op o_add (pv 3) (pv 4)) (pe_ix ix_tup (pv 1) (pe_ix ix_tup (pv 0) pe_int (fun _ _ => rfl)) (fun _ _ => rfl)) (nomark _)))) pss_nil)
(pss_one (ps_ret (pe_cmpR op_eq (pe_op o_mul (pv 3) (pv 4)) (pe_ix ix_tup (pv 1) (pe_ix ix_tup (pv 0) pe_int (fun _ _ => rfl)) (fun _ _ => rfl)) (nomark _)))))))))))))))))))
def N_law_all : List Str := ["saying", "some", "values"]
def P_law_all : List Str := ["saying", "some"]
theorem sc_law_all : FnScope N_law_all P_law_all (defScope SwH.s_law_all) := ⟨rfl, rfl, rfl, by decide +kernel, rfl, by decide +kernel, by decide +kernel⟩
def t_law_all (P : Program) (w : World) (K : PySem.W.Frag) (s_law_so : Sp) : TS :=
(tSeq (tFor (iList K (tVar 1)) (gName 2) (tIfS (tNot (tB (tCall s_law_so [] E0 (tCons (tVar 0) (tCons (tVar 2) tNil))))) (tRet (tC (.bl false))) tNext))
(tRet (tC (.bl true))))
theorem ok_law_all {P : Program} {w : World} {K : PySem.W.Frag} {mg : Str → Option Value} {base : Heap} {f : Addr} {fd : FuncData} {s_law_so : Sp} {aOne : Addr} (T : Txt K mg aOne) (F : FnP K "_law_all" "_law_all" SwH.s_law_all f fd) (G_law_so : GF P w K mg base "_law_so" 1 P_law_so s_law_so)
    (sp : Sp) (len : ∀ vs H Q E, sp vs H Q E → vs.length = 2) (rd : ∀ vs H Q E, sp vs H Q E → t_law_all P w K s_law_so { nx := fun _ H' => Q .non H', rt := Q } (start N_law_all vs) H) : FnOk P w K mg base CX0 2 f fd P_law_all sp := by
  refine F.ok sc_law_all len (fun cdv A outer s H vs Q E hr h => ⟨t_law_all P w K s_law_so, PSs.nox ?_, rd vs H Q E h⟩)
  have hu : _ + 64 < cLine := hr.units
  have hud : _ + 65 < cLine := units65 hr
  have hu1 : _ + 1 < cLine := hu_of hr
  have huc : _ < cLine := hr.units0
  exact (pss_cons (ps_for PassesOwn.never rfl (pi_list (pv 1)) (pg_name (i := 2) sc_law_all.nd rfl (Or.inl rfl)) (pss_one (ps_if (pt_not (pt_val (pe_fn G_law_so hr rfl (pa_cons (pv 0) (pa_cons (pv 2) pa_nil))))) (pss_one (ps_ret pe_bl)) pss_nil)))
(pss_one (ps_ret pe_bl)))
def N_law_like : List Str := ["found", "due", "one", "other"]
def P_law_like : List Str := ["found", "due"]
theorem sc_law_like : FnScope N_law_like P_law_like (defScope SwH.s_law_like) := ⟨rfl, rfl, rfl, by decide +kernel, rfl, by decide +kernel, by decide +kernel⟩
def t_law_like (P : Program) (w : World) (K : PySem.W.Frag) (s_law_like : Sp) : TS :=
(tSeq (tIfS (tTest (tOp rIsN (tVar 1) (tC .non))) (tRet (tOp rIsN (tVar 0) (tC .non))) tNext)
(tSeq (tIfS (tB (tCB (rIsi K) (tCons (tVar 1) (tCons (tC (.ty "str")) tNil)))) (tRet (tAndV (tCB (rIsi K) (tCons (tVar 0) (tCons (tC (.ty "str")) tNil))) (tOp rEq (tVar 0) (tVar 1)))) tNext)
(tSeq (tIfS (tB (tCB (rIsi K) (tCons (tVar 1) (tCons (tC (.ty "int")) tNil)))) (tRet (tAndV (tCB (rIsi K) (tCons (tVar 0) (tCons (tC (.ty "int")) tNil))) (tAndV (tNotV (tCB (rIsi K) (tCons (tVar 0) (tCons (tC (.ty "bool")) tNil)))) (tOp rEq (tVar 0) (tVar 1))))) tNext)
(tSeq (tIfS (tAnd (tB (tCB (rIsi K) (tCons (tVar 1) (tCons (tC (.ty "list")) tNil)))) (tNot (tB (tCB (rIsi K) (tCons (tVar 0) (tCons (tC (.ty "list")) tNil)))))) (tRet (tC (.bl false))) tNext)
(tSeq (tIfS (tAnd (tB (tCB (rIsi K) (tCons (tVar 1) (tCons (tC (.ty "tuple")) tNil)))) (tNot (tB (tCB (rIsi K) (tCons (tVar 0) (tCons (tC (.ty "tuple")) tNil)))))) (tRet (tC (.bl false))) tNext)
(tSeq (tIfS (tTest (tOp rNe (tCB (rLen2 K) (tCons (tVar 0) tNil)) (tCB (rLen2 K) (tCons (tVar 1) tNil)))) (tRet (tC (.bl false))) tNext)
(tSeq (tFor (iZip K (tCons (tVar 0) (tCons (tVar 1) tNil))) (gTup K 2 (gCons (gName 2) (gCons (gName 3) gNil))) (tIfS (tNot (tB (tCall s_law_like [] E0 (tCons (tVar 2) (tCons (tVar 3) tNil))))) (tRet (tC (.bl false))) tNext))
(tRet (tC (.bl true))))))))))
theorem ok_law_like {P : Program} {w : World} {K : PySem.W.Frag} {mg : Str → Option Value} {base : Heap} {f : Addr} {fd : FuncData} {s_law_like : Sp} {aOne : Addr} (T : Txt K mg aOne) (F : FnP K "_law_like" "_law_like" SwH.s_law_like f fd) {k : Nat} (G_law_like : GF P w K mg base "_law_like" k P_law_like s_law_like)
    (sp : Sp) (len : ∀ vs H Q E, sp vs H Q E → vs.length = 2) (rd : ∀ vs H Q E, sp vs H Q E → t_law_like P w K s_law_like { nx := fun _ H' => Q .non H', rt := Q } (start N_law_like vs) H) : FnOk P w K mg base CX0 (k + 1) f fd P_law_like sp := by
  refine F.ok sc_law_like len (fun cdv A outer s H vs Q E hr h => ⟨t_law_like P w K s_law_like, PSs.nox ?_, rd vs H Q E h⟩)
  have hu : _ + 64 < cLine := hr.units
  have hud : _ + 65 < cLine := units65 hr
  have hu1 : _ + 1 < cLine := hu_of hr
  have huc : _ < cLine := hr.units0
  exact (pss_cons (ps_if (pt_cmpR op_isN1 (pv 1) pe_non (nomark _)) (pss_one (ps_ret (pe_cmpR op_isN1 (pv 0) pe_non (nomark _)))) pss_nil)
(pss_cons (ps_if (pt_val (pe_callB call_isi rfl T.isinstance bt_isinstance (pa_cons (pv 1) (pa_cons (pe_bltn rfl T.str bt_str rfl) pa_nil)))) (pss_one (ps_ret (pe_and (pe_callB call_isi rfl T.isinstance bt_isinstance (pa_cons (pv 0) (pa_cons (pe_bltn rfl T.str bt_str rfl) pa_nil))) (pe_one (pe_cmpR op_eq (pv 0) (pv 1) (nomark _)))))) pss_nil)
(pss_cons (ps_if (pt_val (pe_callB call_isi rfl T.isinstance bt_isinstance (pa_cons (pv 1) (pa_cons (pe_bltn rfl T.int bt_int rfl) pa_nil)))) (pss_one (ps_ret (pe_and (pe_callB call_isi rfl T.isinstance bt_isinstance (pa_cons (pv 0) (pa_cons (pe_bltn rfl T.int bt_int rfl) pa_nil))) (pe_and (pe_not (pe_callB call_isi rfl T.isinstance bt_isinstance (pa_cons (pv 0) (pa_cons (pe_bltn rfl T.bool bt_bool rfl) pa_nil)))) (pe_one (pe_cmpR op_eq (pv 0) (pv 1) (nomark _))))))) pss_nil)
(pss_cons (ps_if (PW.pt (pw_and (pt_val (pe_callB call_isi rfl T.isinstance bt_isinstance (pa_cons (pv 1) (pa_cons (pe_bltn rfl T.list bt_list rfl) pa_nil)))) (pw_and1 (pt_not (pt_val (pe_callB call_isi rfl T.isinstance bt_isinstance (pa_cons (pv 0) (pa_cons (pe_bltn rfl T.list bt_list rfl) pa_nil)))))))) (pss_one (ps_ret pe_bl)) pss_nil)
(pss_cons (ps_if (PW.pt (pw_and (pt_val (pe_callB call_isi rfl T.isinstance bt_isinstance (pa_cons (pv 1) (pa_cons (pe_bltn rfl T.tuple bt_tuple rfl) pa_nil)))) (pw_and1 (pt_not (pt_val (pe_callB call_isi rfl T.isinstance bt_isinstance (pa_cons (pv 0) (pa_cons (pe_bltn rfl T.tuple bt_tuple rfl) pa_nil)))))))) (pss_one (ps_ret pe_bl)) pss_nil)
(pss_cons (ps_if (pt_cmpR op_ne (pe_callB c_len rfl T.len bt_len (pa_cons (pv 0) pa_nil)) (pe_callB c_len rfl T.len bt_len (pa_cons (pv 1) pa_nil)) (nomark _)) (pss_one (ps_ret pe_bl)) pss_nil)
(pss_cons (ps_for PassesOwn.never rfl (pi_zip rfl T.zip (pa_cons (pv 0) (pa_cons (pv 1) pa_nil))) (pg_tup rfl (pgs_cons (pg_name (i := 2) sc_law_like.nd rfl (Or.inl rfl)) (pgs_cons (pg_name (i := 3) sc_law_like.nd rfl (Or.inl rfl)) pgs_nil))) (pss_one (ps_if (pt_not (pt_val (pe_fn G_law_like hr rfl (pa_cons (pv 2) (pa_cons (pv 3) pa_nil))))) (pss_one (ps_ret pe_bl)) pss_nil)))
(pss_one (ps_ret pe_bl)))))))))
def N_law_fall : List Str := ["program", "some", "left", "numbers", "mark", "values", "base", "saying"]
def P_law_fall : List Str := ["program", "some", "left", "numbers"]
theorem sc_law_fall : FnScope N_law_fall P_law_fall (defScope SwH.s_law_fall) := ⟨rfl, rfl, rfl, by decide +kernel, rfl, by decide +kernel, by decide +kernel⟩
def t_law_fall (P : Program) (w : World) (K : PySem.W.Frag) (s_law_passed s_law_so : Sp) : TS :=
(tFor (iList K (tCall s_law_passed [] E0 (tCons (tVar 0) (tCons (tVar 3) tNil)))) (gTup K 2 (gCons (gName 4) (gCons (gName 5) gNil))) (tSeq (tAsg (tVar 1) (gName 6))
(tSeq (tIfS (tB (tDIn (tVar 4) (tVar 2))) (tAsg (tDGet (tVar 2) (tVar 4)) (gName 6)) tNext)
(sDPut (tVar 2) (tVar 4) (tLc (iList K (tVar 6)) (gName 7) (tB (tCall s_law_so [] E0 (tCons (tVar 7) (tCons (tVar 5) tNil)))) (tVar 7) [7])))))
theorem ok_law_fall {P : Program} {w : World} {K : PySem.W.Frag} {mg : Str → Option Value} {base : Heap} {f : Addr} {fd : FuncData} {s_law_passed s_law_so : Sp} {aOne : Addr} (T : Txt K mg aOne) (F : FnP K "_law_fall" "_law_fall" SwH.s_law_fall f fd) (G_law_passed : GF P w K mg base "_law_passed" 7 P_law_passed s_law_passed) (G_law_so : GF P w K mg base "_law_so" 1 P_law_so s_law_so)
    (sp : Sp) (len : ∀ vs H Q E, sp vs H Q E → vs.length = 4) (rd : ∀ vs H Q E, sp vs H Q E → t_law_fall P w K s_law_passed s_law_so { nx := fun _ H' => Q .non H', rt := Q } (start N_law_fall vs) H) : FnOk P w K mg base CX0 8 f fd P_law_fall sp := by
  refine F.ok sc_law_fall len (fun cdv A outer s H vs Q E hr h => ⟨t_law_fall P w K s_law_passed s_law_so, PSs.nox ?_, rd vs H Q E h⟩)
  have hu : _ + 64 < cLine := hr.units
  have hud : _ + 65 < cLine := units65 hr
  have hu1 : _ + 1 < cLine := hu_of hr
  have huc : _ < cLine := hr.units0
  exact (pss_one (ps_for PassesOwn.never rfl (pi_list (pe_fn G_law_passed hr rfl (pa_cons (pv 0) (pa_cons (pv 3) pa_nil)))) (pg_tup rfl (pgs_cons (pg_name (i := 4) sc_law_fall.nd rfl (Or.inl rfl)) (pgs_cons (pg_name (i := 5) sc_law_fall.nd rfl (Or.inr rfl)) pgs_nil))) (pss_cons (ps_set (i := 6) sc_law_fall.nd rfl (Or.inl rfl) (pv 1))
(pss_cons (ps_if (pt_cmp (pc_din hu1 (pv 4) (pv 2))) (pss_one (ps_set (i := 6) sc_law_fall.nd rfl (Or.inl rfl) (pe_dget hu1 (pv 2) (pv 4) (fun _ _ => rfl)))) pss_nil)
(pss_one (ps_dput hu1 (pv 2) (pv 4) (pe_lc (own := [("saying", 7)]) (g := (gName 7)) (tt := (tB (tCall s_law_so [] E0 (tCons (tVar 7) (tCons (tVar 5) tNil))))) rfl sc_law_fall.nd (pi_list (pv 6)) (blkOk_by (own := [("saying", 7)]) (N := N_law_fall) (sc := defScope SwH.s_law_fall) (by decide +kernel)) (fun _ _ _ _ _ => (pg_name (i := 7) sc_law_fall.nd rfl (Or.inl rfl))) (fun _ _ _ _ _ => pts_one (pt_val (pe_fn G_law_so (hr.mono (by decide)) rfl (pa_cons (pv 7) (pa_cons (pv 5) pa_nil))))) (fun _ _ _ _ _ => (pv 7))) rfl))))))
def N_law_program : List Str := ["script", "store", "some", "boxes", "many"]
def P_law_program : List Str := ["script"]
theorem sc_law_program : FnScope N_law_program P_law_program (defScope SwH.s_law_program) := ⟨rfl, rfl, rfl, by decide +kernel, rfl, by decide +kernel, by decide +kernel⟩
def t_law_program (P : Program) (w : World) (K : PySem.W.Frag) (s_law_cell s_law_store s_law_take s_law_boxes s_law_rows : Sp) : TS :=
(tSeq (tAsg (tCall s_law_store [] E0 (tCons (tCall s_law_cell [] E0 (tCons (tVar 0) (tCons (tC (.int 0)) tNil))) tNil)) (gName 1))
(tSeq (tAsg (tLst (tCons (tLst (tCons (tC (.int 2)) tNil)) (tCons (tLst (tCons (tC (.int 3)) tNil)) (tCons (tLst (tCons (tC (.int 4)) tNil)) (tCons (tLst (tCons (tC (.int 2)) (tCons (tC (.int 2)) tNil))) (tCons (tLst (tCons (tC (.int 3)) (tCons (tC (.int 2)) tNil))) (tCons (tLst (tCons (tC (.int 2)) (tCons (tC (.int 3)) tNil))) (tCons (tLst (tCons (tC (.int 8)) tNil)) (tCons (tLst (tCons (tC (.int 3)) (tCons (tC (.int 3)) tNil))) tNil))))))))) (gName 2))
(tSeq (tAsg (tCall s_law_boxes [] E0 (tCons (tVar 1) (tCons (tOp (rIxL K) (tVar 2) (tCall s_law_take [] E0 (tCons (tVar 1) (tCons (tC (.int 8)) tNil)))) tNil))) (gName 3))
(tSeq (tAsg (tCall s_law_store [] E0 (tCons (tCall s_law_cell [] E0 (tCons (tVar 0) (tCons (tC (.int 1)) tNil))) tNil)) (gName 1))
(tSeq (tAsg (tOp rAdd2 (tC (.int 2)) (tCall s_law_take [] E0 (tCons (tVar 1) (tCons (tC (.int 8)) tNil)))) (gName 4))
(tRet (tTup (tCons (tVar 3) (tCons (tCall s_law_rows [] E0 (tCons (tVar 1) (tCons (tVar 3) (tCons (tVar 4) (tCons (tOp rAdd2 (tC (.int 1)) (tCall s_law_take [] E0 (tCons (tVar 1) (tCons (tC (.int 2)) tNil)))) tNil))))) tNil)))))))))
theorem ok_law_program {P : Program} {w : World} {K : PySem.W.Frag} {mg : Str → Option Value} {base : Heap} {f : Addr} {fd : FuncData} {s_law_cell s_law_store s_law_take s_law_boxes s_law_rows : Sp} {aOne : Addr} (T : Txt K mg aOne) (F : FnP K "_law_program" "_law_program" SwH.s_law_program f fd) (G_law_cell : GF P w K mg base "_law_cell" 1 P_law_cell s_law_cell) (G_law_store : GF P w K mg base "_law_store" 1 P_law_store s_law_store) (G_law_take : GF P w K mg base "_law_take" 1 P_law_take s_law_take) (G_law_boxes : GF P w K mg base "_law_boxes" 3 P_law_boxes s_law_boxes) (G_law_rows : GF P w K mg base "_law_rows" 4 P_law_rows s_law_rows)
    (sp : Sp) (len : ∀ vs H Q E, sp vs H Q E → vs.length = 1) (rd : ∀ vs H Q E, sp vs H Q E → t_law_program P w K s_law_cell s_law_store s_law_take s_law_boxes s_law_rows { nx := fun _ H' => Q .non H', rt := Q } (start N_law_program vs) H) : FnOk P w K mg base CX0 5 f fd P_law_program sp := by
  refine F.ok sc_law_program len (fun cdv A outer s H vs Q E hr h => ⟨t_law_program P w K s_law_cell s_law_store s_law_take s_law_boxes s_law_rows, PSs.nox ?_, rd vs H Q E h⟩)
  have hu : _ + 64 < cLine := hr.units
  have hud : _ + 65 < cLine := units65 hr
  have hu1 : _ + 1 < cLine := hu_of hr
  have huc : _ < cLine := hr.units0
  exact (pss_cons (ps_set (i := 1) sc_law_program.nd rfl (Or.inl rfl) (pe_fn G_law_store (hr.mono (by decide)) rfl (pa_cons (pe_fn G_law_cell (hr.mono (by decide)) rfl (pa_cons (pv 0) (pa_cons pe_int pa_nil))) pa_nil)))
(pss_cons (ps_set (i := 2) sc_law_program.nd rfl (Or.inl rfl) (pe_lst (pa_cons (pe_lst (pa_cons pe_int pa_nil)) (pa_cons (pe_lst (pa_cons pe_int pa_nil)) (pa_cons (pe_lst (pa_cons pe_int pa_nil)) (pa_cons (pe_lst (pa_cons pe_int (pa_cons pe_int pa_nil))) (pa_cons (pe_lst (pa_cons pe_int (pa_cons pe_int pa_nil))) (pa_cons (pe_lst (pa_cons pe_int (pa_cons pe_int pa_nil))) (pa_cons (pe_lst (pa_cons pe_int pa_nil)) (pa_cons (pe_lst (pa_cons pe_int (pa_cons pe_int pa_nil))) pa_nil))))))))))
(pss_cons (ps_set (i := 3) sc_law_program.nd rfl (Or.inl rfl) (pe_fn G_law_boxes (hr.mono (by decide)) rfl (pa_cons (pv 1) (pa_cons (pe_ix ix_list (pv 2) (pe_fn G_law_take (hr.mono (by decide)) rfl (pa_cons (pv 1) (pa_cons pe_int pa_nil))) (fun _ _ => rfl)) pa_nil))))
(pss_cons (ps_set (i := 1) sc_law_program.nd rfl (Or.inl rfl) (pe_fn G_law_store (hr.mono (by decide)) rfl (pa_cons (pe_fn G_law_cell (hr.mono (by decide)) rfl (pa_cons (pv 0) (pa_cons pe_int pa_nil))) pa_nil)))
(pss_cons (ps_set (i := 4) sc_law_program.nd rfl (Or.inl rfl) (pe_op o_add pe_int (pe_fn G_law_take (hr.mono (by decide)) rfl (pa_cons (pv 1) (pa_cons pe_int pa_nil)))))
(pss_one (ps_ret (pe_tup (pa_cons (pv 3) (pa_cons (pe_fn G_law_rows hr rfl (pa_cons (pv 1) (pa_cons (pv 3) (pa_cons (pv 4) (pa_cons (pe_op o_add pe_int (pe_fn G_law_take (hr.mono (by decide)) rfl (pa_cons (pv 1) (pa_cons pe_int pa_nil)))) pa_nil))))) pa_nil))))))))))
def N_law_whole_lists : List Str := ["told", "numbers", "number"]
def P_law_whole_lists : List Str := ["told"]
theorem sc_law_whole_lists : FnScope N_law_whole_lists P_law_whole_lists (defScope SwH.s_law_whole_lists) := ⟨rfl, rfl, rfl, by decide +kernel, rfl, by decide +kernel, by decide +kernel⟩
def t_law_whole_lists (P : Program) (w : World) (K : PySem.W.Frag) : TS :=
(tSeq (tIfS (tNot (tB (tCB (rIsi K) (tCons (tVar 0) (tCons (tC (.ty "list")) tNil))))) (tRet (tC (.bl false))) tNext)
(tSeq (tFor (iList K (tVar 0)) (gName 1) (tSeq (tIfS (tNot (tB (tCB (rIsi K) (tCons (tVar 1) (tCons (tC (.ty "list")) tNil))))) (tRet (tC (.bl false))) tNext)
(tFor (iList K (tVar 1)) (gName 2) (tIfS (tOr (tNot (tB (tCB (rIsi K) (tCons (tVar 2) (tCons (tC (.ty "int")) tNil))))) (tB (tCB (rIsi K) (tCons (tVar 2) (tCons (tC (.ty "bool")) tNil))))) (tRet (tC (.bl false))) tNext))))
(tRet (tC (.bl true)))))
theorem ok_law_whole_lists {P : Program} {w : World} {K : PySem.W.Frag} {mg : Str → Option Value} {base : Heap} {f : Addr} {fd : FuncData} {aOne : Addr} (T : Txt K mg aOne) (F : FnP K "_law_whole_lists" "_law_whole_lists" SwH.s_law_whole_lists f fd) 
    (sp : Sp) (len : ∀ vs H Q E, sp vs H Q E → vs.length = 1) (rd : ∀ vs H Q E, sp vs H Q E → t_law_whole_lists P w K { nx := fun _ H' => Q .non H', rt := Q } (start N_law_whole_lists vs) H) : FnOk P w K mg base CX0 1 f fd P_law_whole_lists sp := by
  refine F.ok sc_law_whole_lists len (fun cdv A outer s H vs Q E hr h => ⟨t_law_whole_lists P w K, PSs.nox ?_, rd vs H Q E h⟩)
  have hu : _ + 64 < cLine := hr.units
  have hud : _ + 65 < cLine := units65 hr
  have hu1 : _ + 1 < cLine := hu_of hr
  have huc : _ < cLine := hr.units0
  exact (pss_cons (ps_if (pt_not (pt_val (pe_callB call_isi rfl T.isinstance bt_isinstance (pa_cons (pv 0) (pa_cons (pe_bltn rfl T.list bt_list rfl) pa_nil))))) (pss_one (ps_ret pe_bl)) pss_nil)
(pss_cons (ps_for PassesOwn.never rfl (pi_list (pv 0)) (pg_name (i := 1) sc_law_whole_lists.nd rfl (Or.inl rfl)) (pss_cons (ps_if (pt_not (pt_val (pe_callB call_isi rfl T.isinstance bt_isinstance (pa_cons (pv 1) (pa_cons (pe_bltn rfl T.list bt_list rfl) pa_nil))))) (pss_one (ps_ret pe_bl)) pss_nil)
(pss_one (ps_for PassesOwn.never rfl (pi_list (pv 1)) (pg_name (i := 2) sc_law_whole_lists.nd rfl (Or.inl rfl)) (pss_one (ps_if (PW.pt (pw_or (pt_not (pt_val (pe_callB call_isi rfl T.isinstance bt_isinstance (pa_cons (pv 2) (pa_cons (pe_bltn rfl T.int bt_int rfl) pa_nil))))) (pw_or1 (pt_val (pe_callB call_isi rfl T.isinstance bt_isinstance (pa_cons (pv 2) (pa_cons (pe_bltn rfl T.bool bt_bool rfl) pa_nil))))))) (pss_one (ps_ret pe_bl)) pss_nil))))))
(pss_one (ps_ret pe_bl))))
def N_law_settles : List Str := ["program", "runs", "every", "due", "told", "left", "numbers", "entry"]
def P_law_settles : List Str := ["program", "runs", "every", "due"]
theorem sc_law_settles : FnScope N_law_settles P_law_settles (defScope SwH.s_law_settles) := ⟨rfl, rfl, rfl, by decide +kernel, rfl, by decide +kernel, by decide +kernel⟩
def t_law_settles (P : Program) (w : World) (K : PySem.W.Frag) (s_judged s_settled s_law_like s_law_fall s_law_whole_lists : Sp) : TS :=
(tSeq (tAsg (tCall s_settled [] E0 (tCons (tTup (tCons (tCB (rList2 K) (tCons (tOp (rIxT K) (tVar 0) (tC (.int 0))) tNil)) (tCons (tCB (rList2 K) (tCons (tOp (rIxT K) (tVar 0) (tC (.int 1))) tNil)) tNil))) (tCons (tLc (iList K (tVar 1)) (gName 6) tYes (tCB (rList2 K) (tCons (tVar 6) tNil)) [6]) tNil))) (gName 4))
(tSeq (tIfS (tOr (tNot (tB (tCall s_law_whole_lists [] E0 (tCons (tVar 4) tNil)))) (tNot (tB (tCall s_law_like [] E0 (tCons (tSl (rSlL K) (tVar 4) tNoPart (tPart (tCB (rLen2 K) (tCons (tVar 1) tNil)))) (tCons (tVar 1) tNil)))))) (tRet (tC (.bl false))) tNext)
(tSeq (tAsg tDNewK (gName 5))
(tSeq (tFor (iList K (tVar 4)) (gName 6) (tDrop (tCall s_law_fall [] E0 (tCons (tVar 0) (tCons (tVar 2) (tCons (tVar 5) (tCons (tVar 6) tNil)))))))
(tSeq (tIfS (tTest (tOp (rNeDD K) (tVar 5) (tVar 3))) (tRet (tC (.bl false))) tNext)
(tSeq (tFor (iList K (tCall s_judged [] E0 (tCons (tTup (tCons (tCB (rList2 K) (tCons (tOp (rIxT K) (tVar 0) (tC (.int 0))) tNil)) (tCons (tCB (rList2 K) (tCons (tOp (rIxT K) (tVar 0) (tC (.int 1))) tNil)) tNil))) (tCons (tLc (iList K (tVar 4)) (gName 6) tYes (tCB (rList2 K) (tCons (tVar 6) tNil)) [6]) tNil)))) (gName 7) (tIfS (tAnd (tNot (tB (tCall s_law_like [] E0 (tCons (tOp (rIxT K) (tVar 7) (tC (.int 2))) (tCons (tC (.str "shown")) tNil))))) (tNot (tB (tCall s_law_like [] E0 (tCons (tOp (rIxT K) (tVar 7) (tC (.int 2))) (tCons (tC (.str "open")) tNil)))))) (tRet (tC (.bl false))) tNext))
(tRet (tCall s_law_like [] E0 (tCons (tCall s_settled [] E0 (tCons (tTup (tCons (tCB (rList2 K) (tCons (tOp (rIxT K) (tVar 0) (tC (.int 0))) tNil)) (tCons (tCB (rList2 K) (tCons (tOp (rIxT K) (tVar 0) (tC (.int 1))) tNil)) tNil))) (tCons (tLc (iList K (tVar 4)) (gName 6) tYes (tCB (rList2 K) (tCons (tVar 6) tNil)) [6]) tNil))) (tCons (tVar 4) tNil))))))))))
theorem ok_law_settles {P : Program} {w : World} {K : PySem.W.Frag} {mg : Str → Option Value} {base : Heap} {f : Addr} {fd : FuncData} {s_judged s_settled s_law_like s_law_fall s_law_whole_lists : Sp} {aOne : Addr} (T : Txt K mg aOne) (F : FnP K "_law_settles" "_law_settles" SwH.s_law_settles f fd) (G_judged : GF P w K mg base "judged" 13 P_judged s_judged) (G_settled : GF P w K mg base "settled" 13 P_settled s_settled) (G_law_like : GF P w K mg base "_law_like" 4 P_law_like s_law_like) (G_law_fall : GF P w K mg base "_law_fall" 8 P_law_fall s_law_fall) (G_law_whole_lists : GF P w K mg base "_law_whole_lists" 1 P_law_whole_lists s_law_whole_lists)
    (sp : Sp) (len : ∀ vs H Q E, sp vs H Q E → vs.length = 4) (rd : ∀ vs H Q E, sp vs H Q E → t_law_settles P w K s_judged s_settled s_law_like s_law_fall s_law_whole_lists { nx := fun _ H' => Q .non H', rt := Q } (start N_law_settles vs) H) : FnOk P w K mg base CX0 14 f fd P_law_settles sp := by
  refine F.ok sc_law_settles len (fun cdv A outer s H vs Q E hr h => ⟨t_law_settles P w K s_judged s_settled s_law_like s_law_fall s_law_whole_lists, PSs.nox ?_, rd vs H Q E h⟩)
  have hu : _ + 64 < cLine := hr.units
  have hud : _ + 65 < cLine := units65 hr
  have hu1 : _ + 1 < cLine := hu_of hr
  have huc : _ < cLine := hr.units0
  exact (pss_cons (ps_set (i := 4) sc_law_settles.nd rfl (Or.inl rfl) (pe_fn G_settled hr rfl (pa_cons (pe_tup (pa_cons (pe_callTy c_list rfl T.list bt_list (pa_cons (pe_ix ix_tup (pv 0) pe_int (fun _ _ => rfl)) pa_nil)) (pa_cons (pe_callTy c_list rfl T.list bt_list (pa_cons (pe_ix ix_tup (pv 0) pe_int (fun _ _ => rfl)) pa_nil)) pa_nil))) (pa_cons (pe_lc (own := [("numbers", 6)]) (g := (gName 6)) (tt := tYes) rfl sc_law_settles.nd (pi_list (pv 1)) (blkOk_by (own := [("numbers", 6)]) (N := N_law_settles) (sc := defScope SwH.s_law_settles) (by decide +kernel)) (fun _ _ _ _ _ => (pg_name (i := 6) sc_law_settles.nd rfl (Or.inl rfl))) (fun _ _ _ _ _ => pts_nil) (fun _ _ _ _ _ => (pe_callTy c_list rfl T.list bt_list (pa_cons (pv 6) pa_nil)))) pa_nil))))
(pss_cons (ps_if (PW.pt (pw_or (pt_not (pt_val (pe_fn G_law_whole_lists (hr.mono (by decide)) rfl (pa_cons (pv 4) pa_nil)))) (pw_or1 (pt_not (pt_val (pe_fn G_law_like (hr.mono (by decide)) rfl (pa_cons (pe_slice sl_list (pv 4) po_none (po_some (pe_callB c_len rfl T.len bt_len (pa_cons (pv 1) pa_nil)))) (pa_cons (pv 1) pa_nil)))))))) (pss_one (ps_ret pe_bl)) pss_nil)
(pss_cons (ps_set (i := 5) sc_law_settles.nd rfl (Or.inl rfl) pe_dnewK)
(pss_cons (ps_for PassesOwn.never rfl (pi_list (pv 4)) (pg_name (i := 6) sc_law_settles.nd rfl (Or.inl rfl)) (pss_one (ps_expr (pe_fn G_law_fall (hr.mono (by decide)) rfl (pa_cons (pv 0) (pa_cons (pv 2) (pa_cons (pv 5) (pa_cons (pv 6) pa_nil))))))))
(pss_cons (ps_if (pt_cmpR (op_neDD hud) (pv 5) (pv 3) (nomark _)) (pss_one (ps_ret pe_bl)) pss_nil)
(pss_cons (ps_for PassesOwn.never rfl (pi_list (pe_fn G_judged hr rfl (pa_cons (pe_tup (pa_cons (pe_callTy c_list rfl T.list bt_list (pa_cons (pe_ix ix_tup (pv 0) pe_int (fun _ _ => rfl)) pa_nil)) (pa_cons (pe_callTy c_list rfl T.list bt_list (pa_cons (pe_ix ix_tup (pv 0) pe_int (fun _ _ => rfl)) pa_nil)) pa_nil))) (pa_cons (pe_lc (own := [("numbers", 6)]) (g := (gName 6)) (tt := tYes) rfl sc_law_settles.nd (pi_list (pv 4)) (blkOk_by (own := [("numbers", 6)]) (N := N_law_settles) (sc := defScope SwH.s_law_settles) (by decide +kernel)) (fun _ _ _ _ _ => (pg_name (i := 6) sc_law_settles.nd rfl (Or.inl rfl))) (fun _ _ _ _ _ => pts_nil) (fun _ _ _ _ _ => (pe_callTy c_list rfl T.list bt_list (pa_cons (pv 6) pa_nil)))) pa_nil)))) (pg_name (i := 7) sc_law_settles.nd rfl (Or.inl rfl)) (pss_one (ps_if (PW.pt (pw_and (pt_not (pt_val (pe_fn G_law_like (hr.mono (by decide)) rfl (pa_cons (pe_ix ix_tup (pv 7) pe_int (fun _ _ => rfl)) (pa_cons pe_str pa_nil))))) (pw_and1 (pt_not (pt_val (pe_fn G_law_like (hr.mono (by decide)) rfl (pa_cons (pe_ix ix_tup (pv 7) pe_int (fun _ _ => rfl)) (pa_cons pe_str pa_nil)))))))) (pss_one (ps_ret pe_bl)) pss_nil)))
(pss_one (ps_ret (pe_fn G_law_like (hr.mono (by decide)) rfl (pa_cons (pe_fn G_settled hr rfl (pa_cons (pe_tup (pa_cons (pe_callTy c_list rfl T.list bt_list (pa_cons (pe_ix ix_tup (pv 0) pe_int (fun _ _ => rfl)) pa_nil)) (pa_cons (pe_callTy c_list rfl T.list bt_list (pa_cons (pe_ix ix_tup (pv 0) pe_int (fun _ _ => rfl)) pa_nil)) pa_nil))) (pa_cons (pe_lc (own := [("numbers", 6)]) (g := (gName 6)) (tt := tYes) rfl sc_law_settles.nd (pi_list (pv 4)) (blkOk_by (own := [("numbers", 6)]) (N := N_law_settles) (sc := defScope SwH.s_law_settles) (by decide +kernel)) (fun _ _ _ _ _ => (pg_name (i := 6) sc_law_settles.nd rfl (Or.inl rfl))) (fun _ _ _ _ _ => pts_nil) (fun _ _ _ _ _ => (pe_callTy c_list rfl T.list bt_list (pa_cons (pv 6) pa_nil)))) pa_nil))) (pa_cons (pv 4) pa_nil)))))))))))
def N_law : List Str := ["script", "program", "runs", "every", "reach", "mark", "values", "due", "saying"]
def P_law : List Str := ["script"]
theorem sc_law : FnScope N_law P_law (defScope SwH.s_law) := ⟨rfl, rfl, rfl, by decide +kernel, rfl, by decide +kernel, by decide +kernel⟩
def t_law (P : Program) (w : World) (K : PySem.W.Frag) (s_sayings s_law_runs s_law_inputs s_law_all s_law_program s_law_settles : Sp) : TS :=
(tSeq (tAsg (tCall s_law_program [] E0 (tCons (tVar 0) tNil)) (gName 1))
(tSeq (tAsg (tCall s_law_runs [] E0 (tCons (tVar 0) (tCons (tOp (rIxT K) (tVar 1) (tC (.int 0))) tNil))) (gName 2))
(tSeq (tAsg (tCall s_sayings [] E0 (tCons (tVar 1) tNil)) (gName 3))
(tSeq (tAsg tDNewK (gName 4))
(tSeq (tFor (iKeysN P w (tCall s_law_inputs [] E0 (tCons (tVar 1) tNil))) (gTup K 2 (gCons (gName 5) (gCons (gName 6) gNil))) (tSeq (tIfS (tB (tDNotIn (tVar 5) (tVar 4))) (sDPut (tVar 4) (tVar 5) (tLst tNil)) tNext)
(tDrop (tBM K "list" rAppend (tDGet (tVar 4) (tVar 5)) (tCons (tVar 6) tNil)))))
(tSeq (tAsg tDNewK (gName 7))
(tSeq (tLock (tFor (iKeys (tVar 4)) (gName 5) (sDPut (tVar 7) (tVar 5) (tLc (iList K (tVar 3)) (gName 8) (tB (tCall s_law_all [] E0 (tCons (tVar 8) (tCons (tDGet (tVar 4) (tVar 5)) tNil)))) (tVar 8) [8]))))
(tSeq (tIfS (tNot (tB (tCall s_law_settles [] E0 (tCons (tVar 1) (tCons (tVar 2) (tCons (tVar 3) (tCons (tVar 7) tNil))))))) (tRet (tC (.bl false))) tNext)
(tRet (tCall s_law_settles [] E0 (tCons (tVar 1) (tCons (tRevL K (tVar 2)) (tCons (tVar 3) (tCons (tVar 7) tNil))))))))))))))
theorem ok_law {P : Program} {w : World} {K : PySem.W.Frag} {mg : Str → Option Value} {base : Heap} {f : Addr} {fd : FuncData} {s_sayings s_law_runs s_law_inputs s_law_all s_law_program s_law_settles : Sp} {aOne : Addr} (T : Txt K mg aOne) (F : FnP K "law" "law" SwH.s_law f fd) (G_sayings : GF P w K mg base "sayings" 3 P_sayings s_sayings) (G_law_runs : GF P w K mg base "_law_runs" 2 P_law_runs s_law_runs) (G_law_inputs : GF P w K mg base "_law_inputs" 8 P_law_inputs s_law_inputs) (G_law_all : GF P w K mg base "_law_all" 2 P_law_all s_law_all) (G_law_program : GF P w K mg base "_law_program" 5 P_law_program s_law_program) (G_law_settles : GF P w K mg base "_law_settles" 14 P_law_settles s_law_settles)
    (sp : Sp) (len : ∀ vs H Q E, sp vs H Q E → vs.length = 1) (rd : ∀ vs H Q E, sp vs H Q E → t_law P w K s_sayings s_law_runs s_law_inputs s_law_all s_law_program s_law_settles { nx := fun _ H' => Q .non H', rt := Q } (start N_law vs) H) : FnOk P w K mg base CX0 15 f fd P_law sp := by
  refine F.ok sc_law len (fun cdv A outer s H vs Q E hr h => ⟨t_law P w K s_sayings s_law_runs s_law_inputs s_law_all s_law_program s_law_settles, PSs.nox ?_, rd vs H Q E h⟩)
  have hu : _ + 64 < cLine := hr.units
  have hud : _ + 65 < cLine := units65 hr
  have hu1 : _ + 1 < cLine := hu_of hr
  have huc : _ < cLine := hr.units0
  exact (pss_cons (ps_set (i := 1) sc_law.nd rfl (Or.inl rfl) (pe_fn G_law_program (hr.mono (by decide)) rfl (pa_cons (pv 0) pa_nil)))
(pss_cons (ps_set (i := 2) sc_law.nd rfl (Or.inl rfl) (pe_fn G_law_runs (hr.mono (by decide)) rfl (pa_cons (pv 0) (pa_cons (pe_ix ix_tup (pv 1) pe_int (fun _ _ => rfl)) pa_nil))))
(pss_cons (ps_set (i := 3) sc_law.nd rfl (Or.inl rfl) (pe_fn G_sayings (hr.mono (by decide)) rfl (pa_cons (pv 1) pa_nil)))
(pss_cons (ps_set (i := 4) sc_law.nd rfl (Or.inr rfl) pe_dnewK)
(pss_cons (ps_for PassesOwn.never rfl (pi_keysN (pe_fn G_law_inputs (hr.mono (by decide)) rfl (pa_cons (pv 1) pa_nil))) (pg_tup rfl (pgs_cons (pg_name (i := 5) sc_law.nd rfl (Or.inr rfl)) (pgs_cons (pg_name (i := 6) sc_law.nd rfl (Or.inl rfl)) pgs_nil))) (pss_cons (ps_if (pt_cmp (pc_dnotin hu1 (pv 5) (pv 4))) (pss_one (ps_dput hu1 (pv 4) (pv 5) (pe_lst pa_nil) rfl)) pss_nil)
(pss_one (ps_expr (pe_bm PySem.F.plainAttrs_list PySem.F.slot_list_append PySem.F.type_list_append mt_append (pe_dget hu1 (pv 4) (pv 5) (fun _ _ => rfl)) (pa_cons (pv 6) pa_nil))))))
(pss_cons (ps_set (i := 7) sc_law.nd rfl (Or.inl rfl) pe_dnewK)
(pss_cons (ps_lock (ps_for PassesOwn.never rfl (pi_keys (pv 4)) (pg_name (i := 5) sc_law.nd rfl (Or.inr rfl)) (pss_one (ps_dput hu1 (pv 7) (pv 5) (pe_lc (own := [("saying", 8)]) (g := (gName 8)) (tt := (tB (tCall s_law_all [] E0 (tCons (tVar 8) (tCons (tDGet (tVar 4) (tVar 5)) tNil))))) rfl sc_law.nd (pi_list (pv 3)) (blkOk_by (own := [("saying", 8)]) (N := N_law) (sc := defScope SwH.s_law) (by decide +kernel)) (fun _ _ _ _ _ => (pg_name (i := 8) sc_law.nd rfl (Or.inl rfl))) (fun _ _ _ _ _ => pts_one (pt_val (pe_fn G_law_all (hr.mono (by decide)) rfl (pa_cons (pv 8) (pa_cons (pe_dget hu1 (pv 4) (pv 5) (fun _ _ => rfl)) pa_nil))))) (fun _ _ _ _ _ => (pv 8))) rfl))))
(pss_cons (ps_if (pt_not (pt_val (pe_fn G_law_settles hr rfl (pa_cons (pv 1) (pa_cons (pv 2) (pa_cons (pv 3) (pa_cons (pv 7) pa_nil))))))) (pss_one (ps_ret pe_bl)) pss_nil)
(pss_one (ps_ret (pe_fn G_law_settles hr rfl (pa_cons (pv 1) (pa_cons (pe_revL (pv 2)) (pa_cons (pv 3) (pa_cons (pv 7) pa_nil)))))))))))))))
end Sw
/-! SwTac -/
set_option Elab.async false
set_option linter.all false
set_option maxRecDepth 100000
set_option maxHeartbeats 2000000
namespace Sw
open PySem L2 SwH
section
variable {c : Ct} {Δ Δ' : Vt} {μ μ' : M} {R R' : RE} {te ta tb : TE} {tl : TA} {s t s' : Sl} {ss ts : List Sl} {A : AE} {i : Nat} {p : Addr}
theorem we_eqNil (h : WE c ta Δ μ fun s μ1 => ∃ ss, ListOf s μ1 ss ∧ R (.d (.bool ss.isEmpty)) μ1) : WE c (tOp (rEqNil c.K) ta (tLst tNil)) Δ μ R :=
  we_op (h.mono fun s μ1 ⟨ss, h1, h2⟩ => we_lstL (wa_nil ⟨by simp, [], rfl, wo_eqNil h1 lo_l h2⟩))
theorem we_neNil (h : WE c ta Δ μ fun s μ1 => ∃ ss, ListOf s μ1 ss ∧ R (.d (.bool (!ss.isEmpty))) μ1) : WE c (tOp (rNeNil c.K) ta (tLst tNil)) Δ μ R :=
  we_op (h.mono fun s μ1 ⟨ss, h1, h2⟩ => we_lstL (wa_nil ⟨by simp, [], rfl, wo_neNil h1 lo_l h2⟩))
theorem ws_asgL (h : WA c tl Δ μ fun ss μ1 => ss.length ≤ 10000000 ∧ ∀ p, A.nx (Δ.set i (some (.x (.ref p)))) (μ1 ++ [(p, .lst ss)])) : WS c (tAsg (tLst tl) (gName i)) Δ μ A := ws_asg (we_lst h)
end
section
variable {c : Ct} {μ μ' : M} {R : RE} {s t : Sl} {ss : List Sl} {p : Addr} {L L' : List D} {d : D} {Δ : Vt} {v : V} {B H : Hp}
theorem wb_appendD (i : Nat) (L : List D) (hi : μ[i]? = some (p, .lst (L.map .d))) (hd : dataS t = some d) (hl : L.length < 10000000) (r : R (.d .none) (μ.set i (p, .lst ((L ++ [d]).map .d)))) : WB c rAppend μ (.x (.ref p)) [t] R := fun B H x xs bh mm hx hxs Q q => by
  cases hxs with
  | cons h1 h2 =>
    cases h2
    have := wb_append (c := c) (t := .d d) (R := R) i hi (by simpa using hl) (by simpa using r)
    exact this B H x _ bh mm hx (.cons (dataS_ok hd h1) .nil) Q q
theorem wb_extendD (i : Nat) (L L' : List D) (hi : μ[i]? = some (p, .lst (L.map .d))) (ho : LiveOf t μ (L'.map .d)) (hl : L.length + L'.length ≤ 10000000) (r : R (.d .none) (μ.set i (p, .lst ((L ++ L').map .d)))) : WB c rExtend μ (.x (.ref p)) [t] R :=
  wb_extend i hi ho (by simpa using hl) (by simpa using r)
theorem li_last : LiveOf (.x (.ref p)) (μ ++ [(p, .lst ss)]) ss := .inr ⟨p, rfl, by simp⟩
theorem lo_last : ListOf (.x (.ref p)) (μ ++ [(p, .lst ss)]) ss := .inr (.inr ⟨p, rfl, by simp⟩)
theorem we_cd {v : V} (h : ∀ B, Dp c.K B v d) (r : R (.d d) μ) : WE c (tC v) Δ μ R := fun B σ H bh e m Q q => q _ B H _ μ r (.refl bh) m (h B)
end
/-- with their places -/
def enN {α : Type} : Nat → List α → List (Nat × α)
  | _, [] => []
  | k, b :: bs => (k, b) :: enN (k + 1) bs
theorem enumD_en {α : Type} (f : α → D) : ∀ (bs : List α) (k : Nat), enumD k (bs.map f) = (enN k bs).map fun kb => .tuple [.int kb.1, f kb.2]
  | [], k => rfl
  | b :: bs, k => by simp [enumD, enN, enumD_en f bs (k + 1)]
theorem enN_len {α : Type} : ∀ (bs : List α) (k : Nat), (enN k bs).length = bs.length
  | [], k => rfl
  | b :: bs, k => by simp [enN, enN_len bs (k + 1)]
theorem mem_enN {α : Type} : ∀ {bs : List α} {k i : Nat} {b : α}, (i, b) ∈ enN k bs → k ≤ i ∧ bs[i - k]? = some b
  | [], k, i, b, h => by cases h
  | a :: bs, k, i, b, h => by
    rcases List.mem_cons.mp h with h | h
    · cases h; simp
    · have := mem_enN h
      refine ⟨by omega, ?_⟩
      rw [show i - k = (i - (k + 1)) + 1 by omega]
      simpa using this.2
/-- a for over xs -/
theorem for_x {c : Ct} {g : TG} {tb : TS} {ss : List Sl} {keep : M} {Δ : Vt} {μ : M} {A : AE} {α : Type} (xs : List α) (inj : α → Sl) (hss : ss = xs.map inj) (I : List α → Vt → M → Prop) (h0 : I [] Δ μ)
    (hk : ∀ done Δ μ, I done Δ μ → ∀ e, e ∈ keep → e ∈ μ)
    (hs : ∀ done x rest Δ μ, xs = done ++ x :: rest → I done Δ μ → ∃ Δ1 is, GT c g (inj x) Δ Δ1 is ∧ WS c tb Δ1 μ { nx := I (done ++ [x]), rt := A.rt, bk := A.nx, ct := I (done ++ [x]) })
    (hd : ∀ Δ μ, I xs Δ μ → A.nx Δ μ) : LoopS c g tb ss keep Δ μ A := by
  subst hss
  refine ⟨fun r Δ μ => ∃ done rest, xs = done ++ rest ∧ r = rest.map inj ∧ I done Δ μ, ⟨[], xs, rfl, rfl, h0⟩, fun r Δ μ ⟨done, rest, _, _, h⟩ => hk done Δ μ h, ?_, ?_⟩
  · rintro s r Δ μ ⟨done, rest, e1, e2, h⟩
    cases rest with
    | nil => cases e2
    | cons x rest =>
      cases e2
      obtain ⟨Δ1, is, gt, ws⟩ := hs done x rest Δ μ e1 h
      have e3 : xs = (done ++ [x]) ++ rest := by simpa using e1
      exact ⟨Δ1, is, gt, ws.mono (fun Δ' μ' q => ⟨done ++ [x], rest, e3, rfl, q⟩) (fun _ _ q => q) (fun _ _ q => q) (fun Δ' μ' q => ⟨done ++ [x], rest, e3, rfl, q⟩)⟩
  · rintro Δ μ ⟨done, rest, e1, e2, h⟩
    cases rest with
    | nil => rw [List.append_nil] at e1; subst e1; exact hd Δ μ h
    | cons x rest => cases e2
theorem nokeep {μ : M} : ∀ e, e ∈ ([] : M) → e ∈ μ := fun e h => by cases h
/-- a comprehension over xs, of data, that changes nothing -/
theorem lc_x {c : Ct} {g : TG} {tt : TT} {te : TE} {vs : List Nat} {ss : List Sl} {keep : M} {Δ : Vt} {μ : M} {R : RE} {α : Type} (xs : List α) (inj : α → Sl) (hss : ss = xs.map inj) (F : α → Option D) (hl : xs.length ≤ 10000000)
    (hk : ∀ e, e ∈ keep → e ∈ μ)
    (hs : ∀ x, x ∈ xs → ∃ Δ1, GT c g (inj x) (wipeD Δ vs) Δ1 vs ∧ WT c tt Δ1 μ fun b μ2 => μ2 = μ ∧ Cs b (WE c te Δ1 μ fun s' μ3 => (∃ d, dataS s' = some d ∧ F x = some d) ∧ μ3 = μ) (F x = none))
    (hd : ∀ p, R (.x (.ref p)) (μ ++ [(p, .lst ((xs.filterMap F).map .d))])) : LoopC c g tt te vs ss keep Δ μ R := by
  subst hss
  refine ⟨fun r acc μ' => μ' = μ ∧ ∃ done rest, xs = done ++ rest ∧ r = rest.map inj ∧ acc = (done.filterMap F).map .d, ⟨rfl, [], xs, rfl, rfl, rfl⟩, fun r acc μ' ⟨e, _⟩ => e ▸ hk, ?_, ?_⟩
  · rintro s r acc μ' ⟨rfl, done, rest, e1, e2, rfl⟩
    cases rest with
    | nil => cases e2
    | cons x rest =>
      cases e2
      obtain ⟨Δ1, gt, wt⟩ := hs x (by rw [e1]; simp)
      have e3 : xs = (done ++ [x]) ++ rest := by simpa using e1
      have hdl : (done.filterMap F).length ≤ done.length := List.length_filterMap_le _ _
      have hxl : xs.length = done.length + (rest.length + 1) := by rw [e1]; simp
      refine ⟨Δ1, gt, fun B σ H bh e m Q q => wt B σ H bh e m Q fun b B' H' μ2 ⟨r1, r2⟩ => q b B' H' μ2 ?_⟩
      subst r1
      refine ⟨fun hb => ?_, fun hb => ⟨rfl, done ++ [x], rest, e3, rfl, by simp [r2.2 hb]⟩⟩
      exact (we_sl (r2.1 hb) fun s' μ3 ⟨⟨d, h1, h2⟩, h3⟩ => ⟨.d d, sl_d h1, by simp; omega, h3, done ++ [x], rest, e3, rfl, by simp [h2]⟩)
  · rintro acc μ' p ⟨rfl, done, rest, e1, e2, rfl⟩
    cases rest with
    | nil => rw [List.append_nil] at e1; subst e1; exact hd p
    | cons x rest => cases e2
theorem lc_map {c : Ct} {g : TG} {te : TE} {vs : List Nat} {ss : List Sl} {keep : M} {Δ : Vt} {μ : M} {R : RE} {α : Type} (xs : List α) (inj : α → Sl) (hss : ss = xs.map inj) (F : α → D) (hl : xs.length ≤ 10000000)
    (hk : ∀ e, e ∈ keep → e ∈ μ)
    (hs : ∀ x, x ∈ xs → ∃ Δ1, GT c g (inj x) (wipeD Δ vs) Δ1 vs ∧ WE c te Δ1 μ fun s' μ3 => dataS s' = some (F x) ∧ μ3 = μ)
    (hd : ∀ p, R (.x (.ref p)) (μ ++ [(p, .lst ((xs.map F).map .d))])) : LoopC c g tYes te vs ss keep Δ μ R :=
  lc_x xs inj hss (fun x => some (F x)) hl hk (fun x hx => by
    obtain ⟨Δ1, gt, we⟩ := hs x hx
    exact ⟨Δ1, gt, wt_yes ⟨rfl, cs_t rfl (we.mono fun s' μ3 ⟨h1, h2⟩ => ⟨⟨_, h1, rfl⟩, h2⟩)⟩⟩) (by simpa using hd)
/-- half open -/
def rg (a b : Int) : List Int := (List.range (b - a).toNat).map fun (i : Nat) => a + i
theorem rgS_rg (a b : Int) : rgS a b = (rg a b).map fun n => .d (.int n) := by simp [rgS, rg]
theorem rg_len (a b : Int) : (rg a b).length = (b - a).toNat := by simp [rg]
theorem mem_rg {a b x : Int} : x ∈ rg a b ↔ a ≤ x ∧ x < b := by
  simp only [rg, List.mem_map, List.mem_range]
  constructor
  · rintro ⟨i, h1, rfl⟩; omega
  · intro h; exact ⟨(x - a).toNat, by omega, by omega⟩

end Sw
/-! SwMath -/
set_option Elab.async false
set_option linter.all false
set_option maxRecDepth 100000
set_option maxHeartbeats 2000000
namespace Sw
open PySem L2
/-! ### the program that is asked about -/
structure Box where
  name : Str
  low : Int
  high : Int
  first : Int
inductive Ex where
  | num (n : Int) | box (x : Str) | add (a b : Ex) | sub (a b : Ex) | mul (a b : Ex)
inductive Row where
  | ask (a : Nat) | put (a : Nat) (e : Ex) | go (t : Nat) | iff (lt : Bool) (e f : Ex) (t : Nat) | stop | mark (m : Str)
structure Prog where
  boxes : List Box
  rows : List Row
abbrev Box.d (b : Box) : D := .tuple [.str b.name, .int b.low, .int b.high, .int b.first]
def Ex.d : Ex → D
  | .num n => .tuple [.str "number", .int n]
  | .box x => .tuple [.str "box", .str x]
  | .add a b => .tuple [.str "+", a.d, b.d]
  | .sub a b => .tuple [.str "-", a.d, b.d]
  | .mul a b => .tuple [.str "*", a.d, b.d]
def sgS (lt : Bool) : Str := if lt then "<" else "="
@[reducible] def Row.kind : Row → Str
  | .ask _ => "ask"
  | .put _ _ => "put"
  | .go _ => "go"
  | .iff _ _ _ _ => "if"
  | .stop => "stop"
  | .mark _ => "mark"
@[reducible] def Row.args : Row → List D
  | .ask a => [.int a]
  | .put a e => [.int a, e.d]
  | .go t => [.int t]
  | .iff lt e f t => [.str (sgS lt), e.d, f.d, .int t]
  | .stop => []
  | .mark m => [.str m]
@[reducible] def Row.d (r : Row) : D := .tuple (.str r.kind :: r.args)
abbrev Prog.d (p : Prog) : D := .tuple [.list (p.boxes.map Box.d), .list (p.rows.map Row.d)]
abbrev Stt := Nat × List Int
abbrev MV := Str × List Int
abbrev vD (v : List Int) : D := .tuple (v.map .int)
abbrev stD (s : Stt) : D := .tuple [.int s.1, vD s.2]
def oD : Option Stt → D
  | none => .none
  | some s => stD s
abbrev mvD (x : MV) : D := .tuple [.str x.1, vD x.2]
abbrev nL (ns : List Int) : D := .list (ns.map .int)
/-! keys -/
def vK (v : List Int) : NK := .tup (v.map .num)
def stK (s : Stt) : NK := .tup [.num s.1, vK s.2]
def mvK (x : MV) : NK := .tup [.text x.1, vK x.2]
theorem datas_num (v : List Int) : NestedKey.datas (v.map .num) = v.map .int := by
  induction v with
  | nil => rfl
  | cons a r ih => simp [NestedKey.datas, NestedKey.data, ih]
theorem depth_num (v : List Int) : NestedKey.depthAll (v.map .num) = 0 := by
  induction v with
  | nil => rfl
  | cons a r ih => simp [NestedKey.depthAll, NestedKey.depth, ih]
theorem vK_data (v : List Int) : (vK v).data = vD v := by simp [vK, vD, NestedKey.data, datas_num]
theorem stK_data (s : Stt) : (stK s).data = stD s := by simp [stK, stD, NestedKey.data, NestedKey.datas, vK_data]
theorem mvK_data (s : MV) : (mvK s).data = mvD s := by simp [mvK, mvD, NestedKey.data, NestedKey.datas, vK_data]
theorem vK_depth (v : List Int) : (vK v).depth = 1 := by simp [vK, NestedKey.depth, depth_num]
theorem isK_v (v : List Int) : IsK (.d (vD v)) (vK v) := ⟨by rw [vK_data], ⟨_, rfl⟩, by rw [vK_depth]; decide⟩
theorem isK_st (s : Stt) : IsK (.d (stD s)) (stK s) := ⟨by rw [stK_data], ⟨_, rfl⟩, by simp [stK, NestedKey.depth, NestedKey.depthAll, vK_depth]⟩
theorem isK_mv (s : MV) : IsK (.d (mvD s)) (mvK s) := ⟨by rw [mvK_data], ⟨_, rfl⟩, by simp [mvK, NestedKey.depth, NestedKey.depthAll, vK_depth]⟩
theorem map_num_inj {v w : List Int} (h : v.map NestedKey.num = w.map NestedKey.num) : v = w := by
  induction v generalizing w with
  | nil => cases w with
    | nil => rfl
    | cons b t => simp at h
  | cons a r ih => cases w with
    | nil => simp at h
    | cons b t => simp at h; rw [h.1, ih h.2]
theorem vK_inj {v w : List Int} (h : vK v = vK w) : v = w := map_num_inj (NestedKey.tup.inj h)
theorem stK_inj {s t : Stt} (h : stK s = stK t) : s = t := by
  simp only [stK, NestedKey.tup.injEq, List.cons.injEq, NestedKey.num.injEq, and_true] at h
  exact Prod.ext (Int.ofNat.inj h.1) (vK_inj h.2)
theorem mvK_inj {s t : MV} (h : mvK s = mvK t) : s = t := by
  simp only [mvK, NestedKey.tup.injEq, List.cons.injEq, NestedKey.text.injEq, and_true] at h
  exact Prod.ext h.1 (vK_inj h.2)
/-! ### a step -/
def Ex.val (bs : List Box) (v : List Int) : Ex → Int
  | .num n => n
  | .box x => (v[bs.findIdx fun b => decide (b.name = x)]?).getD 0
  | .add a b => a.val bs v + b.val bs v
  | .sub a b => a.val bs v - b.val bs v
  | .mul a b => a.val bs v * b.val bs v
def takeF (p : Prog) (a : Nat) (n : Int) (s : Stt) : Option Stt := match p.boxes[a]? with
  | none => none
  | some b => if n < b.low ∨ b.high < n then none else some (s.1 + 1, s.2.set a n)
def tells (lt : Bool) (x y : Int) : Bool := if lt then decide (x < y) else decide (x = y)
def nxt (p : Prog) (s : Stt) (n : Int) : Option Stt := match p.rows[s.1]? with
  | none => none
  | some .stop => none
  | some (.mark _) => some (s.1 + 1, s.2)
  | some (.go t) => some (t, s.2)
  | some (.ask a) => takeF p a n s
  | some (.put a e) => takeF p a (e.val p.boxes s.2) s
  | some (.iff lt e f t) => if tells lt (e.val p.boxes s.2) (f.val p.boxes s.2) = true then some (t, s.2) else some (s.1 + 1, s.2)
def first (p : Prog) : Stt := (0, p.boxes.map Box.first)
def cstep (p : Prog) (s : Stt) (r : List Int) : Option (Stt × List Int) := match p.rows[s.1]? with
  | some (.ask a) => match r with
    | [] => none
    | n :: r => (takeF p a n s).map fun s' => (s', r)
  | _ => (nxt p s 0).map fun s' => (s', r)
inductive Rc (p : Prog) (ns : List Int) : Stt → List Int → Prop
  | start : Rc p ns (first p) ns
  | step {s s' : Stt} {r r' : List Int} : Rc p ns s r → cstep p s r = some (s', r') → Rc p ns s' r'
def MarkAt (p : Prog) (s : Stt) (x : MV) : Prop := p.rows[s.1]? = some (.mark x.1) ∧ x.2 = s.2
def Passed (p : Prog) (ns : List Int) (x : MV) : Prop := ∃ s r, Rc p ns s r ∧ MarkAt p s x
def Reach (p : Prog) (x : MV) : Prop := ∃ ns, Passed p ns x
/-! ### well formed -/
def Ex.wf (names : List Str) : Ex → Prop
  | .num _ => True
  | .box x => x ∈ names
  | .add a b => a.wf names ∧ b.wf names
  | .sub a b => a.wf names ∧ b.wf names
  | .mul a b => (∃ x, a = .box x ∧ x ∈ names) ∧ ∃ x, b = .box x ∧ x ∈ names
def Ex.dep : Ex → Nat
  | .num _ => 0
  | .box _ => 0
  | .add a b => max a.dep b.dep + 1
  | .sub a b => max a.dep b.dep + 1
  | .mul a b => max a.dep b.dep + 1
def Prog.names (p : Prog) : List Str := p.boxes.map Box.name
def Row.wf (p : Prog) : Row → Prop
  | .ask a => a < p.boxes.length
  | .put a e => a < p.boxes.length ∧ e.wf p.names ∧ e.dep ≤ 3
  | .go t => t < p.rows.length
  | .iff _ e f t => (e.wf p.names ∧ e.dep ≤ 3) ∧ (f.wf p.names ∧ f.dep ≤ 3) ∧ t < p.rows.length
  | .stop => True
  | .mark m => PyData.strOk m = true
structure Box.wf (b : Box) : Prop where
  lo : -200 ≤ b.low
  hi : b.high ≤ 300
  wd : b.high - b.low < 8
  f1 : b.low ≤ b.first
  f2 : b.first ≤ b.high
structure WFp (p : Prog) : Prop where
  b1 : 1 ≤ p.boxes.length
  b2 : p.boxes.length ≤ 2
  nd : p.names.Nodup
  st : ∀ x, x ∈ p.names → PyData.strOk x = true
  bx : ∀ b, b ∈ p.boxes → b.wf
  rl : p.rows.length ≤ 9
  rw : ∀ r, r ∈ p.rows → r.wf p
/-- values that are within -/
def VW : List Box → List Int → Prop
  | [], [] => True
  | b :: bs, x :: xs => (b.low ≤ x ∧ x ≤ b.high) ∧ VW bs xs
  | _, _ => False
def SW (p : Prog) (s : Stt) : Prop := s.1 ≤ p.rows.length ∧ VW p.boxes s.2
theorem VW.len : ∀ {bs : List Box} {v : List Int}, VW bs v → v.length = bs.length
  | [], [], _ => rfl
  | _ :: _, _ :: _, h => by simp [VW.len h.2]
  | [], _ :: _, h => h.elim
  | _ :: _, [], h => h.elim
theorem VW.set : ∀ {bs : List Box} {v : List Int} {a : Nat} {b : Box} {n : Int}, VW bs v → bs[a]? = some b → b.low ≤ n → n ≤ b.high → VW bs (v.set a n)
  | [], [], _, _, _, h, e, _, _ => by simp at e
  | _ :: _, _ :: _, 0, _, _, h, e, l, u => by simp at e; subst e; exact ⟨⟨l, u⟩, h.2⟩
  | _ :: _, _ :: _, a + 1, _, _, h, e, l, u => ⟨h.1, VW.set h.2 (by simpa using e) l u⟩
  | [], _ :: _, _, _, _, h, _, _, _ => h.elim
  | _ :: _, [], _, _, _, h, _, _, _ => h.elim
theorem VW.get : ∀ {bs : List Box} {v : List Int} {i : Nat} {b : Box}, VW bs v → bs[i]? = some b → ∃ x, v[i]? = some x ∧ b.low ≤ x ∧ x ≤ b.high
  | [], [], _, _, h, e => by simp at e
  | _ :: _, _ :: _, 0, _, h, e => by simp at e; subst e; exact ⟨_, rfl, h.1⟩
  | _ :: _, _ :: _, i + 1, _, h, e => by simpa using VW.get h.2 (by simpa using e)
  | [], _ :: _, _, _, h, _ => h.elim
  | _ :: _, [], _, _, h, _ => h.elim
theorem VW.bd : ∀ {bs : List Box} {v : List Int}, (∀ b, b ∈ bs → b.wf) → VW bs v → ∀ x, x ∈ v → -1000 ≤ x ∧ x ≤ 1000
  | [], [], _, _, x, hx => by cases hx
  | b :: bs, y :: ys, w, h, x, hx => by
    rcases List.mem_cons.mp hx with rfl | hx
    · have := w b (by simp); have := this.lo; have := (w b (by simp)).hi; have := h.1; omega
    · exact VW.bd (fun b hb => w b (by simp [hb])) h.2 x hx
  | [], _ :: _, _, h, _, _ => h.elim
  | _ :: _, [], _, h, _, _ => h.elim
theorem first_vw : ∀ {bs : List Box}, (∀ b, b ∈ bs → b.wf) → VW bs (bs.map Box.first)
  | [], _ => True.intro
  | b :: bs, w => ⟨⟨(w b (by simp)).f1, (w b (by simp)).f2⟩, first_vw fun b hb => w b (by simp [hb])⟩
section
variable {p : Prog} (W : WFp p)
include W
theorem first_sw : SW p (first p) := ⟨Nat.zero_le _, first_vw W.bx⟩
theorem take_sw {a : Nat} {n : Int} {s s' : Stt} (h : SW p s) (hl : s.1 < p.rows.length) (e : takeF p a n s = some s') : SW p s' := by
  unfold takeF at e
  split at e
  · cases e
  · rename_i b hb
    split at e
    · cases e
    · rename_i hn
      cases e
      exact ⟨hl, h.2.set hb (by omega) (by omega)⟩
theorem nxt_sw {s s' : Stt} {n : Int} (h : SW p s) (e : nxt p s n = some s') : SW p s' := by
  unfold nxt at e
  split at e
  · cases e
  · cases e
  · rename_i m hm
    cases e
    exact ⟨(List.getElem?_eq_some_iff.mp hm).1, h.2⟩
  · rename_i t hm
    cases e
    have := W.rw _ (List.mem_of_getElem? hm)
    exact ⟨Nat.le_of_lt this, h.2⟩
  · rename_i a hm
    exact take_sw W h (List.getElem?_eq_some_iff.mp hm).1 e
  · rename_i a x hm
    exact take_sw W h (List.getElem?_eq_some_iff.mp hm).1 e
  · rename_i lt x y t hm
    have := W.rw _ (List.mem_of_getElem? hm)
    split at e <;> cases e
    · exact ⟨Nat.le_of_lt this.2.2, h.2⟩
    · exact ⟨(List.getElem?_eq_some_iff.mp hm).1, h.2⟩
theorem cstep_sw {s s' : Stt} {r r' : List Int} (h : SW p s) (e : cstep p s r = some (s', r')) : SW p s' := by
  unfold cstep at e
  split at e
  · rename_i a hm
    cases r with
    | nil => cases e
    | cons n r =>
      simp only [Option.map_eq_some_iff] at e
      obtain ⟨s2, e1, e2⟩ := e
      cases e2
      exact take_sw W h (List.getElem?_eq_some_iff.mp hm).1 e1
  · simp only [Option.map_eq_some_iff] at e
    obtain ⟨s2, e1, e2⟩ := e
    cases e2
    exact nxt_sw W h e1
theorem Rc.sw {ns : List Int} {s : Stt} {r : List Int} (h : Rc p ns s r) : SW p s := by
  induction h with
  | start => exact first_sw W
  | step _ e ih => exact cstep_sw W ih e
end
/-! ### runs -/
theorem Rc.ext {p : Prog} {ns e : List Int} {s : Stt} {r : List Int} (h : Rc p ns s r) : Rc p (ns ++ e) s (r ++ e) := by
  induction h with
  | start => exact .start
  | @step s s' r r' _ e1 ih =>
    refine .step ih ?_
    unfold cstep at e1 ⊢
    split at e1
    · rename_i a hm
      cases r with
      | nil => cases e1
      | cons n r =>
        simp only [Option.map_eq_some_iff] at e1
        obtain ⟨s2, q1, q2⟩ := e1
        cases q2
        simp [q1]
    · simp only [Option.map_eq_some_iff] at e1
      obtain ⟨s2, q1, q2⟩ := e1
      cases q2
      simp only [q1, Option.map_some]
theorem Rc.pre {p : Prog} {ns : List Int} {s : Stt} {r : List Int} (h : Rc p ns s r) : ∃ q, ns = q ++ r ∧ Rc p q s [] := by
  induction h with
  | start => exact ⟨[], rfl, .start⟩
  | @step s s' r r' _ e1 ih =>
    obtain ⟨q, rfl, hq⟩ := ih
    unfold cstep at e1
    split at e1
    · rename_i a hm
      cases r with
      | nil => cases e1
      | cons n r =>
        simp only [Option.map_eq_some_iff] at e1
        obtain ⟨s2, q1, q2⟩ := e1
        cases q2
        refine ⟨q ++ [n], by simp, .step (hq.ext (e := [n])) ?_⟩
        unfold cstep
        rw [hm]
        simp [q1]
    · rename_i hm
      simp only [Option.map_eq_some_iff] at e1
      obtain ⟨s2, q1, q2⟩ := e1
      cases q2
      refine ⟨q, rfl, .step hq ?_⟩
      unfold cstep
      split
      · rename_i a hm2; exact absurd hm2 (hm a)
      · simp [q1]
def IsAsk (p : Prog) (s : Stt) (a : Nat) : Prop := p.rows[s.1]? = some (.ask a)
/-- a standing that some input comes to -/
def SR (p : Prog) (s : Stt) : Prop := ∃ ns, Rc p ns s []
theorem SR.of {p : Prog} {ns : List Int} {s : Stt} {r : List Int} (h : Rc p ns s r) : SR p s := by
  obtain ⟨q, _, h⟩ := h.pre
  exact ⟨q, h⟩
theorem Rc.ask {p : Prog} {q : List Int} {s s' : Stt} {a : Nat} {n : Int} (h : Rc p q s []) (ha : IsAsk p s a) (e : takeF p a n s = some s') : Rc p (q ++ [n]) s' [] := by
  refine .step (h.ext (e := [n])) ?_
  unfold cstep
  unfold IsAsk at ha
  rw [ha]
  simp [e]
theorem Rc.go {p : Prog} {q r : List Int} {s s' : Stt} (h : Rc p q s r) (ha : ∀ a, ¬ IsAsk p s a) (e : nxt p s 0 = some s') : Rc p q s' r := by
  refine .step h ?_
  unfold cstep
  split
  · rename_i a hm; exact absurd hm (ha a)
  · simp [e]
/-- what is closed holds all that is reached -/
theorem SR.closed {p : Prog} {S : Stt → Prop} (h0 : S (first p)) (h1 : ∀ s a n s', S s → IsAsk p s a → takeF p a n s = some s' → S s') (h2 : ∀ s s', S s → (∀ a, ¬ IsAsk p s a) → nxt p s 0 = some s' → S s') : ∀ s, SR p s → S s := by
  rintro s ⟨ns, h⟩
  have : ∀ s r, Rc p ns s r → S s := by
    intro s r h
    induction h with
    | start => exact h0
    | @step s s' r r' _ e ih =>
      unfold cstep at e
      split at e
      · rename_i a hm
        cases r with
        | nil => cases e
        | cons n r =>
          simp only [Option.map_eq_some_iff] at e
          obtain ⟨s2, q1, q2⟩ := e
          cases q2
          exact h1 _ _ _ _ ih hm q1
      · rename_i hm
        simp only [Option.map_eq_some_iff] at e
        obtain ⟨s2, q1, q2⟩ := e
        cases q2
        exact h2 _ _ ih (fun a ha => hm a ha) q1
  exact this s [] h
theorem reach_iff {p : Prog} {x : MV} : Reach p x ↔ ∃ s, SR p s ∧ MarkAt p s x :=
  ⟨fun ⟨ns, s, r, h, m⟩ => ⟨s, SR.of h, m⟩, fun ⟨s, ⟨ns, h⟩, m⟩ => ⟨ns, s, [], h, m⟩⟩
/-- a run's visited places, closed but for the present one: all are there when it ends -/
theorem Rc.closed {p : Prog} {ns : List Int} {S : Stt → List Int → Prop} (h0 : S (first p) ns) (h1 : ∀ s r s' r', S s r → cstep p s r = some (s', r') → S s' r') : ∀ s r, Rc p ns s r → S s r := by
  intro s r h
  induction h with
  | start => exact h0
  | step _ e ih => exact h1 _ _ _ _ ih e
/-! ### all standings -/
def rgI (lo hi : Int) : List Int := (List.range (hi + 1 - lo).toNat).map fun (i : Nat) => lo + i
theorem mem_rgI {lo hi x : Int} : x ∈ rgI lo hi ↔ lo ≤ x ∧ x ≤ hi := by
  simp only [rgI, List.mem_map, List.mem_range]
  constructor
  · rintro ⟨i, h1, rfl⟩; omega
  · intro h; exact ⟨(x - lo).toNat, by omega, by omega⟩
theorem rgI_len {lo hi : Int} : (rgI lo hi).length = (hi + 1 - lo).toNat := by simp [rgI]
def valsL : List Box → List (List Int)
  | [] => [[]]
  | b :: bs => (rgI b.low b.high).flatMap fun x => (valsL bs).map (x :: ·)
theorem flat_len {α β : Type} (f : α → List β) (k : Nat) : ∀ (xs : List α), (∀ x, x ∈ xs → (f x).length ≤ k) → (xs.flatMap f).length ≤ xs.length * k
  | [], _ => by simp
  | x :: xs, h => by
    have := flat_len f k xs fun y hy => h y (by simp [hy])
    have := h x (by simp)
    simp only [List.flatMap_cons, List.length_append, List.length_cons, Nat.add_mul]
    omega
theorem valsL_len : ∀ {bs : List Box}, (∀ b, b ∈ bs → b.wf) → (valsL bs).length ≤ 8 ^ bs.length
  | [], _ => by simp [valsL]
  | b :: bs, w => by
    have ih := valsL_len (bs := bs) fun b hb => w b (by simp [hb])
    have := flat_len (fun x => (valsL bs).map (x :: ·)) (8 ^ bs.length) (rgI b.low b.high) (by intro x _; simpa using ih)
    have wb := (w b (by simp)).wd
    have l : (rgI b.low b.high).length ≤ 8 := by rw [rgI_len]; omega
    simp only [valsL, List.length_cons, Nat.pow_succ]
    refine Nat.le_trans this ?_
    rw [Nat.mul_comm (8 ^ _)]
    exact Nat.mul_le_mul_right _ l
theorem mem_valsL : ∀ {bs : List Box} {v : List Int}, VW bs v → v ∈ valsL bs
  | [], [], _ => by simp [valsL]
  | b :: bs, x :: xs, h => by
    simp only [valsL, List.mem_flatMap, List.mem_map]
    exact ⟨x, mem_rgI.mpr h.1, xs, mem_valsL h.2, rfl⟩
  | [], _ :: _, h => h.elim
  | _ :: _, [], h => h.elim
theorem vw_of_valsL : ∀ {bs : List Box} {v : List Int}, v ∈ valsL bs → VW bs v
  | [], v, h => by simp [valsL] at h; subst h; exact True.intro
  | b :: bs, v, h => by
    simp only [valsL, List.mem_flatMap, List.mem_map] at h
    obtain ⟨x, hx, y, hy, rfl⟩ := h
    exact ⟨mem_rgI.mp hx, vw_of_valsL hy⟩
def allSt (p : Prog) : List Stt := (List.range (p.rows.length + 1)).flatMap fun a => (valsL p.boxes).map fun v => (a, v)
theorem mem_allSt {p : Prog} {s : Stt} (h : SW p s) : s ∈ allSt p := by
  simp only [allSt, List.mem_flatMap, List.mem_range, List.mem_map]
  exact ⟨s.1, by have := h.1; omega, s.2, mem_valsL h.2, rfl⟩
theorem allSt_len {p : Prog} (W : WFp p) : (allSt p).length ≤ 640 := by
  have h1 := valsL_len W.bx
  have h2 : 8 ^ p.boxes.length ≤ 64 := by
    have := W.b2
    have : 8 ^ p.boxes.length ≤ 8 ^ 2 := Nat.pow_le_pow_right (by decide) this
    simpa using this
  have := flat_len (fun a => (valsL p.boxes).map fun v => (a, v)) 64 (List.range (p.rows.length + 1)) (by intro x _; simp; omega)
  simp only [List.length_range] at this
  have := W.rl
  unfold allSt
  omega
theorem nodup_len {α : Type} [DecidableEq α] {xs ys : List α} (h : xs.Nodup) (hs : ∀ x, x ∈ xs → x ∈ ys) : xs.length ≤ ys.length := by
  induction xs generalizing ys with
  | nil => simp
  | cons a r ih =>
    rw [List.nodup_cons] at h
    have ha := hs a (by simp)
    have := ih (ys := ys.erase a) h.2 fun x hx => by
      have : x ≠ a := fun e => h.1 (e ▸ hx)
      exact (List.mem_erase_of_ne this).mpr (hs x (by simp [hx]))
    rw [List.length_erase_of_mem ha] at this
    have : 0 < ys.length := List.length_pos_of_mem ha
    simp only [List.length_cons]
    omega
/-- the keys of a dict of standings -/
structure StKeys (p : Prog) (ks : List NK) : Prop where
  nd : ks.Nodup
  sw : ∀ k, k ∈ ks → ∃ s, SW p s ∧ k = stK s
theorem StKeys.len {p : Prog} {ks : List NK} (h : StKeys p ks) : ks.length ≤ (allSt p).length := by
  have := nodup_len (ys := (allSt p).map stK) h.nd fun k hk => by
    obtain ⟨s, hs, rfl⟩ := h.sw k hk
    exact List.mem_map.mpr ⟨s, mem_allSt hs, rfl⟩
  simpa using this
theorem StKeys.nil {p : Prog} : StKeys p [] := ⟨List.nodup_nil, fun _ h => by cases h⟩
theorem StKeys.snoc {p : Prog} {ks : List NK} {s : Stt} (h : StKeys p ks) (hs : SW p s) (n : stK s ∉ ks) : StKeys p (ks ++ [stK s]) :=
  ⟨List.nodup_append.mpr ⟨h.nd, by simp, fun a ha b hb => by simp at hb; subst hb; intro e; subst e; exact n ha⟩, fun k hk => by
    rcases List.mem_append.mp hk with hk | hk
    · exact h.sw k hk
    · simp at hk; exact ⟨s, hs, hk⟩⟩
end Sw
/-! SwSay -/
set_option Elab.async false
set_option linter.all false
set_option maxRecDepth 100000
set_option maxHeartbeats 2000000
namespace Sw
open PySem L2 SwH
local macro_rules | `(tactic| walk_at "w1") => `(tactic| first
  | with_reducible refine ws_seq ?_
  | with_reducible refine ws_asgL ?_
  | with_reducible refine ws_asg ?_
  | with_reducible refine ws_setL ?_
  | with_reducible refine ws_asgT ?_
  | with_reducible refine ws_drop ?_
  | with_reducible refine ws_next ?_
  | with_reducible refine ws_cont ?_
  | with_reducible refine ws_if ?_
  | with_reducible refine ws_for ?_
  | (with_reducible refine we_var rfl ?_)
  | with_reducible refine we_int ?_
  | with_reducible refine we_str ?_
  | with_reducible refine we_bl ?_
  | with_reducible refine we_non ?_
  | with_reducible refine we_eqNil ?_
  | with_reducible refine we_neNil ?_
  | with_reducible refine we_op ?_
  | (with_reducible refine wo_ixT 0 rfl rfl ?_)
  | (with_reducible refine wo_ixT 1 rfl rfl ?_)
  | (with_reducible refine wo_ixT 2 rfl rfl ?_)
  | (with_reducible refine wo_ixT 3 rfl rfl ?_)
  | (with_reducible refine wo_ixT 4 rfl rfl ?_)
  | with_reducible refine wo_add ?_
  | with_reducible refine wo_sub ?_
  | with_reducible refine wo_lt ?_
  | with_reducible refine wo_le ?_
  | with_reducible refine wo_gt ?_
  | with_reducible refine wo_ge ?_
  | with_reducible refine wo_eqI ?_
  | with_reducible refine wo_neI ?_
  | with_reducible refine wo_eqS ?_
  | with_reducible refine wo_neS ?_
  | with_reducible refine wt_test ?_
  | with_reducible refine wt_B ?_
  | with_reducible refine wt_not ?_
  | with_reducible refine wt_and ?_
  | with_reducible refine wt_or ?_
  | with_reducible refine wt_yes ?_
  | with_reducible refine we_andV ?_
  | with_reducible refine we_orV ?_
  | with_reducible refine we_notV ?_
  | with_reducible refine wa_nil ?_
  | with_reducible refine wa_cons ?_
  | with_reducible refine we_bm ?_
  | with_reducible refine we_bm0 ?_
  | with_reducible refine we_tup ?_
  | with_reducible refine we_cb ?_
  | (with_reducible refine ⟨_, rfl, ?_⟩)
  | (refine ⟨by simp, _, rfl, ?_⟩)
  | (refine ⟨ListOf.ty (lo_m 0 rfl), ?_⟩)
  | (refine ⟨ListOf.ty (lo_m 1 rfl), ?_⟩)
  | (refine ⟨ListOf.ty (lo_m 2 rfl), ?_⟩)
  | (refine ⟨ListOf.ty (lo_m 3 rfl), ?_⟩)
  | (refine cs_t (by decide) ?_)
  | (refine cs_f (by decide) ?_))
local macro_rules | `(tactic| walk_at "w") => `(tactic| repeat walk_at "w1")


local macro_rules | `(tactic| walk_at "gs") => `(tactic| first
  | exact gts_nil
  | (refine gts_cons (gt_name (by decide)) ?_; walk_at "gs")
  | (refine gts_cons (gt_tup (by walk_at "gs") rfl) ?_; walk_at "gs"))
local macro_rules | `(tactic| walk_at "g") => `(tactic| first
  | exact gt_name (by decide)
  | exact gt_tup (by walk_at "gs") rfl
  | exact gt_pl (by walk_at "gs"))

abbrev is12 : List Nat := [0, 1, 2, 3, 4, 5, 6, 7, 8, 9, 10, 11]
/-! ### what is said -/
inductive Say where
  | is (a n : Int) | frm (a n : Int) | to (a n : Int) | rest (a m r : Int) | either (a n k : Int) | never (a n : Int)
  | same (a b : Int) | below (a b : Int) | most (a b : Int) | gap (a b n : Int) | sum (a b n : Int) | adds (a b e : Int) | times (a b e : Int)
@[reducible] def Say.d : Say → D
  | .is a n => .tuple [.str "is", .int a, .int n]
  | .frm a n => .tuple [.str "from", .int a, .int n]
  | .to a n => .tuple [.str "to", .int a, .int n]
  | .rest a m r => .tuple [.str "rest", .int a, .int m, .int r]
  | .either a n k => .tuple [.str "either", .int a, .int n, .int k]
  | .never a n => .tuple [.str "never", .int a, .int n]
  | .same a b => .tuple [.str "same", .int a, .int b]
  | .below a b => .tuple [.str "below", .int a, .int b]
  | .most a b => .tuple [.str "most", .int a, .int b]
  | .gap a b n => .tuple [.str "gap", .int a, .int b, .int n]
  | .sum a b n => .tuple [.str "sum", .int a, .int b, .int n]
  | .adds a b e => .tuple [.str "adds", .int a, .int b, .int e]
  | .times a b e => .tuple [.str "times", .int a, .int b, .int e]
def inN (n : Nat) (a : Int) : Prop := 0 ≤ a ∧ a < n
def Say.wf (n : Nat) : Say → Prop
  | .is a _ => inN n a
  | .frm a _ => inN n a
  | .to a _ => inN n a
  | .rest a m _ => inN n a ∧ 0 < m
  | .either a _ _ => inN n a
  | .never a _ => inN n a
  | .same a b => inN n a ∧ inN n b
  | .below a b => inN n a ∧ inN n b
  | .most a b => inN n a ∧ inN n b
  | .gap a b _ => inN n a ∧ inN n b
  | .sum a b _ => inN n a ∧ inN n b
  | .adds a b e => inN n a ∧ inN n b ∧ inN n e
  | .times a b e => inN n a ∧ inN n b ∧ inN n e
def gv (v : List Int) (a : Int) : Int := (v[a.toNat]?).getD 0
def so : Say → List Int → Bool
  | .is a n, v => decide (gv v a = n)
  | .frm a n, v => decide (n ≤ gv v a)
  | .to a n, v => decide (gv v a ≤ n)
  | .rest a m r, v => decide (gv v a % m = r)
  | .either a n k, v => decide (gv v a = n) || decide (gv v a = k)
  | .never a n, v => !decide (gv v a = n)
  | .same a b, v => decide (gv v a = gv v b)
  | .below a b, v => decide (gv v a < gv v b)
  | .most a b, v => decide (gv v a ≤ gv v b)
  | .gap a b n, v => decide (gv v a - gv v b = n)
  | .sum a b n, v => decide (gv v a + gv v b = n)
  | .adds a b e, v => decide (gv v a + gv v b = gv v e)
  | .times a b e, v => decide (gv v a * gv v b = gv v e)
def Bd (v : List Int) : Prop := ∀ x, x ∈ v → -1000 ≤ x ∧ x ≤ 1000
theorem gv_get {v : List Int} {a : Int} (h : inN v.length a) : a = (a.toNat : Int) ∧ (v.map PyData.int)[a.toNat]? = some (.int (gv v a)) := by
  have h1 := h.1
  have h2 : a.toNat < v.length := by have := h.2; omega
  refine ⟨by omega, ?_⟩
  simp [gv, h2]
theorem gv_bd {v : List Int} (hb : Bd v) (a : Int) : -1000 ≤ gv v a ∧ gv v a ≤ 1000 := by
  unfold gv
  cases h : v[a.toNat]? with
  | none => simp
  | some x => simpa using hb x (List.mem_of_getElem? h)
theorem cmul_bd {v : List Int} (hb : Bd v) (a b : Int) : CMul (gv v a) (gv v b) := by
  have := gv_bd hb a
  left
  omega
/-- the same law of all: is_so, _law_so -/
def pre_so : List Sl → M → RE → Prop := fun ss μ R => ∃ sy v, Say.wf v.length sy ∧ Bd v ∧ ss = [.d sy.d, .d (vD v)] ∧ μ = [] ∧ R (.d (.bool (so sy v))) []
variable {c : Ct}
theorem rd_law_so : ∀ ss μ R, pre_so ss μ R → WS c (t_law_so c.P c.w c.K) (startD N_law_so ss) μ { nx := fun _ μ' => R (.d .none) μ', rt := R } := by
  rintro ss μ R ⟨sy, v, hw, hb, rfl, rfl, h⟩
  unfold t_law_so
  cases sy with
  | is a n =>
    obtain ⟨e1, e2⟩ := gv_get hw
    walk_at "w"; refine wo_ixT _ e1 e2 ?_; walk_at "w"
    exact ws_ret (by walk_at "w"; exact h)
  | frm a n =>
    obtain ⟨e1, e2⟩ := gv_get hw
    walk_at "w"; refine wo_ixT _ e1 e2 ?_; walk_at "w"
    exact ws_ret (by walk_at "w"; exact h)
  | to a n =>
    obtain ⟨e1, e2⟩ := gv_get hw
    walk_at "w"; refine wo_ixT _ e1 e2 ?_; walk_at "w"
    exact ws_ret (by walk_at "w"; exact h)
  | never a n =>
    obtain ⟨e1, e2⟩ := gv_get hw
    walk_at "w"; refine wo_ixT _ e1 e2 ?_; walk_at "w"
    exact ws_ret (by walk_at "w"; exact h)
  | rest a m r =>
    obtain ⟨e1, e2⟩ := gv_get hw.1
    walk_at "w"; refine wo_ixT _ e1 e2 ?_; walk_at "w"
    refine ws_ret ?_; walk_at "w"; refine wo_md hw.2 ?_; walk_at "w"; exact h
  | either a n k =>
    obtain ⟨e1, e2⟩ := gv_get hw
    walk_at "w"; refine wo_ixT _ e1 e2 ?_; walk_at "w"
    refine ws_ret ?_; walk_at "w"
    refine ⟨fun z => ?_, fun z => ?_⟩
    · simpa [so, z] using h
    · walk_at "w"; simpa [so, z] using h
  | same a b =>
    obtain ⟨e1, e2⟩ := gv_get hw.1
    obtain ⟨f1, f2⟩ := gv_get hw.2
    walk_at "w"; refine wo_ixT _ e1 e2 ?_; walk_at "w"; refine wo_ixT _ f1 f2 ?_; walk_at "w"
    exact ws_ret (by walk_at "w"; exact h)
  | below a b =>
    obtain ⟨e1, e2⟩ := gv_get hw.1
    obtain ⟨f1, f2⟩ := gv_get hw.2
    walk_at "w"; refine wo_ixT _ e1 e2 ?_; walk_at "w"; refine wo_ixT _ f1 f2 ?_; walk_at "w"
    exact ws_ret (by walk_at "w"; exact h)
  | most a b =>
    obtain ⟨e1, e2⟩ := gv_get hw.1
    obtain ⟨f1, f2⟩ := gv_get hw.2
    walk_at "w"; refine wo_ixT _ e1 e2 ?_; walk_at "w"; refine wo_ixT _ f1 f2 ?_; walk_at "w"
    exact ws_ret (by walk_at "w"; exact h)
  | gap a b n =>
    obtain ⟨e1, e2⟩ := gv_get hw.1
    obtain ⟨f1, f2⟩ := gv_get hw.2
    walk_at "w"; refine wo_ixT _ e1 e2 ?_; walk_at "w"; refine wo_ixT _ f1 f2 ?_; walk_at "w"
    exact ws_ret (by walk_at "w"; exact h)
  | sum a b n =>
    obtain ⟨e1, e2⟩ := gv_get hw.1
    obtain ⟨f1, f2⟩ := gv_get hw.2
    walk_at "w"; refine wo_ixT _ e1 e2 ?_; walk_at "w"; refine wo_ixT _ f1 f2 ?_; walk_at "w"
    exact ws_ret (by walk_at "w"; exact h)
  | adds a b e =>
    obtain ⟨e1, e2⟩ := gv_get hw.1
    obtain ⟨f1, f2⟩ := gv_get hw.2.1
    obtain ⟨g1, g2⟩ := gv_get hw.2.2
    walk_at "w"; refine wo_ixT _ e1 e2 ?_; walk_at "w"; refine wo_ixT _ f1 f2 ?_; walk_at "w"
    refine ws_ret ?_; walk_at "w"; refine wo_ixT _ g1 g2 ?_; walk_at "w"; exact h
  | times a b e =>
    obtain ⟨e1, e2⟩ := gv_get hw.1
    obtain ⟨f1, f2⟩ := gv_get hw.2.1
    obtain ⟨g1, g2⟩ := gv_get hw.2.2
    walk_at "w"; refine wo_ixT _ e1 e2 ?_; walk_at "w"; refine wo_ixT _ f1 f2 ?_; walk_at "w"
    refine ws_ret ?_; walk_at "w"; refine wo_mul (cmul_bd hb _ _) ?_; walk_at "w"; refine wo_ixT _ g1 g2 ?_; walk_at "w"; exact h
end Sw
/-! SwSay2 -/
set_option Elab.async false
set_option linter.all false
set_option maxRecDepth 100000
set_option maxHeartbeats 2000000
namespace Sw
open PySem L2 SwH
local macro_rules | `(tactic| walk_at "w1") => `(tactic| first
  | with_reducible refine ws_seq ?_
  | with_reducible refine ws_asgL ?_
  | with_reducible refine ws_asg ?_
  | with_reducible refine ws_setL ?_
  | with_reducible refine ws_asgT ?_
  | with_reducible refine ws_drop ?_
  | with_reducible refine ws_next ?_
  | with_reducible refine ws_cont ?_
  | with_reducible refine ws_if ?_
  | with_reducible refine ws_for ?_
  | (with_reducible refine we_var rfl ?_)
  | with_reducible refine we_int ?_
  | with_reducible refine we_str ?_
  | with_reducible refine we_bl ?_
  | with_reducible refine we_non ?_
  | with_reducible refine we_eqNil ?_
  | with_reducible refine we_neNil ?_
  | with_reducible refine we_op ?_
  | (with_reducible refine wo_ixT 0 rfl rfl ?_)
  | (with_reducible refine wo_ixT 1 rfl rfl ?_)
  | (with_reducible refine wo_ixT 2 rfl rfl ?_)
  | (with_reducible refine wo_ixT 3 rfl rfl ?_)
  | (with_reducible refine wo_ixT 4 rfl rfl ?_)
  | with_reducible refine wo_add ?_
  | with_reducible refine wo_sub ?_
  | with_reducible refine wo_lt ?_
  | with_reducible refine wo_le ?_
  | with_reducible refine wo_gt ?_
  | with_reducible refine wo_ge ?_
  | with_reducible refine wo_eqI ?_
  | with_reducible refine wo_neI ?_
  | with_reducible refine wo_eqS ?_
  | with_reducible refine wo_neS ?_
  | with_reducible refine wt_test ?_
  | with_reducible refine wt_B ?_
  | with_reducible refine wt_not ?_
  | with_reducible refine wt_and ?_
  | with_reducible refine wt_or ?_
  | with_reducible refine wt_yes ?_
  | with_reducible refine we_andV ?_
  | with_reducible refine we_orV ?_
  | with_reducible refine we_notV ?_
  | with_reducible refine wa_nil ?_
  | with_reducible refine wa_cons ?_
  | with_reducible refine we_bm ?_
  | with_reducible refine we_bm0 ?_
  | with_reducible refine we_tup ?_
  | with_reducible refine we_cb ?_
  | (with_reducible refine ⟨_, rfl, ?_⟩)
  | (refine ⟨by simp, _, rfl, ?_⟩)
  | (refine ⟨ListOf.ty (lo_m 0 rfl), ?_⟩)
  | (refine ⟨ListOf.ty (lo_m 1 rfl), ?_⟩)
  | (refine ⟨ListOf.ty (lo_m 2 rfl), ?_⟩)
  | (refine ⟨ListOf.ty (lo_m 3 rfl), ?_⟩)
  | (refine cs_t (by decide) ?_)
  | (refine cs_f (by decide) ?_))
local macro_rules | `(tactic| walk_at "w") => `(tactic| repeat walk_at "w1")


local macro_rules | `(tactic| walk_at "gs") => `(tactic| first
  | exact gts_nil
  | (refine gts_cons (gt_name (by decide)) ?_; walk_at "gs")
  | (refine gts_cons (gt_tup (by walk_at "gs") rfl) ?_; walk_at "gs"))
local macro_rules | `(tactic| walk_at "g") => `(tactic| first
  | exact gt_name (by decide)
  | exact gt_tup (by walk_at "gs") rfl
  | exact gt_pl (by walk_at "gs"))

variable {c : Ct}
def isOne : Say → Bool
  | .is _ _ => true | .frm _ _ => true | .to _ _ => true | .rest _ _ _ => true | .either _ _ _ => true | .never _ _ => true | _ => false
def ixS : Say → Int
  | .is a _ => a | .frm a _ => a | .to a _ => a | .rest a _ _ => a | .either a _ _ => a | .never a _ => a
  | .same a _ => a | .below a _ => a | .most a _ => a | .gap a _ _ => a | .sum a _ _ => a | .adds a _ _ => a | .times a _ _ => a
def pre_so1 : List Sl → M → RE → Prop := fun ss μ R => ∃ sy v, Say.wf v.length sy ∧ isOne sy = true ∧ ss = [.d sy.d, .d (.int (gv v (ixS sy)))] ∧ μ = [] ∧ R (.d (.bool (so sy v))) []
def pre_so2 : List Sl → M → RE → Prop := fun ss μ R => ∃ sy v, Say.wf v.length sy ∧ Bd v ∧ isOne sy = false ∧ ss = [.d sy.d, .d (.int (gv v (ixS sy))), .d (vD v)] ∧ μ = [] ∧ R (.d (.bool (so sy v))) []
theorem rd_so_of_one : ∀ ss μ R, pre_so1 ss μ R → WS c (t_so_of_one c.P c.w c.K) (startD N_so_of_one ss) μ { nx := fun _ μ' => R (.d .none) μ', rt := R } := by
  rintro ss μ R ⟨sy, v, hw, ho, rfl, rfl, h⟩
  unfold t_so_of_one
  cases sy with
  | is a n => walk_at "w"; exact ws_ret (by walk_at "w"; exact h)
  | frm a n => walk_at "w"; exact ws_ret (by walk_at "w"; exact h)
  | to a n => walk_at "w"; exact ws_ret (by walk_at "w"; exact h)
  | never a n => walk_at "w"; exact ws_ret (by walk_at "w"; exact h)
  | rest a m r => walk_at "w"; refine ws_ret ?_; walk_at "w"; refine wo_md hw.2 ?_; walk_at "w"; exact h
  | either a n k =>
    walk_at "w"; refine ws_ret ?_; walk_at "w"
    refine ⟨fun z => ?_, fun z => ?_⟩
    · change decide (gv v a = n) = true at z
      have e : so (.either a n k) v = true := by simp only [so]; rw [z]; rfl
      rw [e] at h; exact h
    · walk_at "w"
      change decide (gv v a = n) = false at z
      have e : so (.either a n k) v = decide (gv v a = k) := by simp only [so]; rw [z]; rfl
      rw [e] at h; exact h
  | _ => cases ho
theorem rd_so_of_more : ∀ ss μ R, pre_so2 ss μ R → WS c (t_so_of_more c.P c.w c.K) (startD N_so_of_more ss) μ { nx := fun _ μ' => R (.d .none) μ', rt := R } := by
  rintro ss μ R ⟨sy, v, hw, hb, ho, rfl, rfl, h⟩
  unfold t_so_of_more
  cases sy with
  | same a b => obtain ⟨f1, f2⟩ := gv_get hw.2; walk_at "w"; refine wo_ixT _ f1 f2 ?_; walk_at "w"; exact ws_ret (by walk_at "w"; exact h)
  | below a b => obtain ⟨f1, f2⟩ := gv_get hw.2; walk_at "w"; refine wo_ixT _ f1 f2 ?_; walk_at "w"; exact ws_ret (by walk_at "w"; exact h)
  | most a b => obtain ⟨f1, f2⟩ := gv_get hw.2; walk_at "w"; refine wo_ixT _ f1 f2 ?_; walk_at "w"; exact ws_ret (by walk_at "w"; exact h)
  | gap a b n => obtain ⟨f1, f2⟩ := gv_get hw.2; walk_at "w"; refine wo_ixT _ f1 f2 ?_; walk_at "w"; exact ws_ret (by walk_at "w"; exact h)
  | sum a b n => obtain ⟨f1, f2⟩ := gv_get hw.2; walk_at "w"; refine wo_ixT _ f1 f2 ?_; walk_at "w"; exact ws_ret (by walk_at "w"; exact h)
  | adds a b e => obtain ⟨f1, f2⟩ := gv_get hw.2.1; obtain ⟨g1, g2⟩ := gv_get hw.2.2; walk_at "w"; refine wo_ixT _ f1 f2 ?_; walk_at "w"; refine ws_ret ?_; walk_at "w"; refine wo_ixT _ g1 g2 ?_; walk_at "w"; exact h
  | times a b e => obtain ⟨f1, f2⟩ := gv_get hw.2.1; obtain ⟨g1, g2⟩ := gv_get hw.2.2; walk_at "w"; refine wo_ixT _ f1 f2 ?_; walk_at "w"; refine ws_ret ?_; walk_at "w"; refine wo_mul (cmul_bd hb _ _) ?_; walk_at "w"; refine wo_ixT _ g1 g2 ?_; walk_at "w"; exact h
  | _ => cases ho
def oneD : List D := [.str "is", .str "from", .str "to", .str "rest", .str "either", .str "never"]
theorem one_dp {aOne : Addr} (T : ∀ H, SqT c.K H aOne oneV) (B : Hp) : Dp c.K B (.ref aOne) (.tuple oneD) := .tup (T B) (.cons (.str _) (.cons (.str _) (.cons (.str _) (.cons (.str _) (.cons (.str _) (.cons (.str _) .nil))))))
theorem say_ix {n : Nat} {sy : Say} (h : sy.wf n) : inN n (ixS sy) := by
  cases sy <;> first | exact h | exact h.1
theorem rd_is_so {aOne : Addr} (T : ∀ H, SqT c.K H aOne oneV) : ∀ ss μ R, pre_so ss μ R → WS c (t_is_so c.P c.w c.K aOne (SPM c pre_so1) (SPM c pre_so2)) (startD N_is_so ss) μ { nx := fun _ μ' => R (.d .none) μ', rt := R } := by
  rintro ss μ R ⟨sy, v, hw, hb, rfl, rfl, h⟩
  unfold t_is_so
  obtain ⟨e1, e2⟩ := gv_get (say_ix hw)
  cases sy <;> simp only [ixS] at e1 e2 <;> (walk_at "w"; refine wo_ixT _ e1 e2 ?_; walk_at "w"; refine we_cd (one_dp T) ?_; refine wo_inT rfl (xs := oneV) rfl ?_; walk_at "w"; refine ws_ret (we_call0 ?_); walk_at "w")
  · exact ⟨_, v, hw, rfl, rfl, rfl, h⟩
  · exact ⟨_, v, hw, rfl, rfl, rfl, h⟩
  · exact ⟨_, v, hw, rfl, rfl, rfl, h⟩
  · exact ⟨_, v, hw, rfl, rfl, rfl, h⟩
  · exact ⟨_, v, hw, rfl, rfl, rfl, h⟩
  · exact ⟨_, v, hw, rfl, rfl, rfl, h⟩
  · exact ⟨_, v, hw, hb, rfl, rfl, rfl, h⟩
  · exact ⟨_, v, hw, hb, rfl, rfl, rfl, h⟩
  · exact ⟨_, v, hw, hb, rfl, rfl, rfl, h⟩
  · exact ⟨_, v, hw, hb, rfl, rfl, rfl, h⟩
  · exact ⟨_, v, hw, hb, rfl, rfl, rfl, h⟩
  · exact ⟨_, v, hw, hb, rfl, rfl, rfl, h⟩
  · exact ⟨_, v, hw, hb, rfl, rfl, rfl, h⟩
/-- one saying of many values -/
def pre_all : List Sl → M → RE → Prop := fun ss μ R => ∃ (sy : Say) (vs : List (List Int)) (s : Sl), (∀ v, v ∈ vs → Say.wf v.length sy ∧ Bd v) ∧ ss = [.d sy.d, s] ∧ (s = .d (.list (vs.map vD)) ∨ s = .l (vs.map vD)) ∧ μ = [] ∧ R (.d (.bool (vs.all (so sy)))) []
theorem all_loop {s_is : Sp} (hs : s_is = SPM c pre_so) : ∀ ss μ R, pre_all ss μ R → WS c (tSeq (tFor (iList c.K (tVar 1)) (gName 2) (tIfS (tNot (tB (tCall s_is [] E0 (tCons (tVar 0) (tCons (tVar 2) tNil))))) (tRet (tC (.bl false))) tNext)) (tRet (tC (.bl true)))) (startD ["saying", "some", "values"] ss) μ { nx := fun _ μ' => R (.d .none) μ', rt := R } := by
  subst hs
  rintro ss μ R ⟨sy, vs, s, hw, rfl, hs, rfl, h⟩
  refine ws_seq (ws_for (wi_list ?_))
  walk_at "w"
  refine ⟨(vs.map vD).map .d, [], .inl ⟨_, hs, rfl, rfl⟩, ?_⟩
  refine for_x vs (fun v => .d (vD v)) (by simp) (fun done Δ μ => ∃ x2, Δ = [some (.d sy.d), some s, x2] ∧ μ = [] ∧ done.all (so sy) = true) ⟨_, rfl, rfl, rfl⟩ (fun _ _ _ _ => nokeep) ?_ ?_
  · rintro done v rest Δ μ e ⟨x2, rfl, rfl, hd⟩
    have hv := hw v (by rw [e]; simp)
    refine ⟨_, is12, gt_name (by decide), ?_⟩
    walk_at "w"
    refine we_call0 ?_
    walk_at "w"
    refine ⟨sy, v, hv.1, hv.2, rfl, rfl, ?_⟩
    walk_at "w"
    refine ⟨fun z => ?_, fun z => ?_⟩
    · refine ws_ret (we_bl ?_)
      have : vs.all (so sy) = false := by
        rw [e]; simp at z; simp [z]
      rw [this] at h
      exact h
    · refine ws_next ⟨_, rfl, rfl, ?_⟩
      simp at z
      simp [hd, z]
  · rintro Δ μ ⟨x2, rfl, rfl, hd⟩
    refine ws_ret (we_bl ?_)
    rw [hd] at h
    exact h
theorem rd_so_of_all : ∀ ss μ R, pre_all ss μ R → WS c (t_so_of_all c.P c.w c.K (SPM c pre_so)) (startD N_so_of_all ss) μ { nx := fun _ μ' => R (.d .none) μ', rt := R } := all_loop rfl
theorem rd_law_all : ∀ ss μ R, pre_all ss μ R → WS c (t_law_all c.P c.w c.K (SPM c pre_so)) (startD N_law_all ss) μ { nx := fun _ μ' => R (.d .none) μ', rt := R } := all_loop rfl
/-- many sayings of one value -/
def pre_allso : List Sl → M → RE → Prop := fun ss μ R => ∃ (sys : List Say) (v : List Int) (s : Sl), (∀ sy, sy ∈ sys → Say.wf v.length sy) ∧ Bd v ∧ ss = [s, .d (vD v)] ∧ (s = .d (.list (sys.map Say.d)) ∨ s = .l (sys.map Say.d)) ∧ μ = [] ∧ R (.d (.bool (sys.all fun sy => so sy v))) []
theorem rd_all_so : ∀ ss μ R, pre_allso ss μ R → WS c (t_all_so c.P c.w c.K (SPM c pre_so)) (startD N_all_so ss) μ { nx := fun _ μ' => R (.d .none) μ', rt := R } := by
  rintro ss μ R ⟨sys, v, s, hw, hb, rfl, hs, rfl, h⟩
  unfold t_all_so
  refine ws_seq (ws_for (wi_list ?_))
  walk_at "w"
  refine ⟨(sys.map Say.d).map .d, [], .inl ⟨_, hs, rfl, rfl⟩, ?_⟩
  refine for_x sys (fun v => .d (Say.d v)) (by simp) (fun done Δ μ => ∃ x2, Δ = [some s, some (.d (vD v)), x2] ∧ μ = [] ∧ (done.all fun sy => so sy v) = true) ⟨_, rfl, rfl, rfl⟩ (fun _ _ _ _ => nokeep) ?_ ?_
  · rintro done sy rest Δ μ e ⟨x2, rfl, rfl, hd⟩
    have hv := hw sy (by rw [e]; simp)
    refine ⟨_, is12, gt_name (by decide), ?_⟩
    walk_at "w"
    refine we_call0 ?_
    walk_at "w"
    refine ⟨sy, v, hv, hb, rfl, rfl, ?_⟩
    walk_at "w"
    refine ⟨fun z => ?_, fun z => ?_⟩
    · refine ws_ret (we_bl ?_)
      have : (sys.all fun sy => so sy v) = false := by
        rw [e]; simp at z; simp [z]
      rw [this] at h
      exact h
    · refine ws_next ⟨_, rfl, rfl, ?_⟩
      simp at z
      simp [hd, z]
  · rintro Δ μ ⟨x2, rfl, rfl, hd⟩
    refine ws_ret (we_bl ?_)
    rw [hd] at h
    exact h
end Sw
/-! SwSay3 -/
set_option Elab.async false
set_option linter.all false
set_option maxRecDepth 100000
set_option maxHeartbeats 2000000
namespace Sw
open PySem L2 SwH
local macro_rules | `(tactic| walk_at "w1") => `(tactic| first
  | with_reducible refine ws_seq ?_
  | with_reducible refine ws_asgL ?_
  | with_reducible refine ws_asg ?_
  | with_reducible refine ws_setL ?_
  | with_reducible refine ws_asgT ?_
  | with_reducible refine ws_drop ?_
  | with_reducible refine ws_next ?_
  | with_reducible refine ws_cont ?_
  | with_reducible refine ws_if ?_
  | with_reducible refine ws_for ?_
  | (with_reducible refine we_var rfl ?_)
  | with_reducible refine we_int ?_
  | with_reducible refine we_str ?_
  | with_reducible refine we_bl ?_
  | with_reducible refine we_non ?_
  | with_reducible refine we_eqNil ?_
  | with_reducible refine we_neNil ?_
  | with_reducible refine we_op ?_
  | (with_reducible refine wo_ixT 0 rfl rfl ?_)
  | (with_reducible refine wo_ixT 1 rfl rfl ?_)
  | (with_reducible refine wo_ixT 2 rfl rfl ?_)
  | (with_reducible refine wo_ixT 3 rfl rfl ?_)
  | (with_reducible refine wo_ixT 4 rfl rfl ?_)
  | with_reducible refine wo_add ?_
  | with_reducible refine wo_sub ?_
  | with_reducible refine wo_lt ?_
  | with_reducible refine wo_le ?_
  | with_reducible refine wo_gt ?_
  | with_reducible refine wo_ge ?_
  | with_reducible refine wo_eqI ?_
  | with_reducible refine wo_neI ?_
  | with_reducible refine wo_eqS ?_
  | with_reducible refine wo_neS ?_
  | with_reducible refine wt_test ?_
  | with_reducible refine wt_B ?_
  | with_reducible refine wt_not ?_
  | with_reducible refine wt_and ?_
  | with_reducible refine wt_or ?_
  | with_reducible refine wt_yes ?_
  | with_reducible refine we_andV ?_
  | with_reducible refine we_orV ?_
  | with_reducible refine we_notV ?_
  | with_reducible refine wa_nil ?_
  | with_reducible refine wa_cons ?_
  | with_reducible refine we_bm ?_
  | with_reducible refine we_bm0 ?_
  | with_reducible refine we_tup ?_
  | with_reducible refine we_cb ?_
  | (with_reducible refine ⟨_, rfl, ?_⟩)
  | (refine ⟨by simp, _, rfl, ?_⟩)
  | (refine ⟨ListOf.ty (lo_m 0 rfl), ?_⟩)
  | (refine ⟨ListOf.ty (lo_m 1 rfl), ?_⟩)
  | (refine ⟨ListOf.ty (lo_m 2 rfl), ?_⟩)
  | (refine ⟨ListOf.ty (lo_m 3 rfl), ?_⟩)
  | (refine cs_t (by decide) ?_)
  | (refine cs_f (by decide) ?_))
local macro_rules | `(tactic| walk_at "w") => `(tactic| repeat walk_at "w1")


local macro_rules | `(tactic| walk_at "gs") => `(tactic| first
  | exact gts_nil
  | (refine gts_cons (gt_name (by decide)) ?_; walk_at "gs")
  | (refine gts_cons (gt_tup (by walk_at "gs") rfl) ?_; walk_at "gs"))
local macro_rules | `(tactic| walk_at "g") => `(tactic| first
  | exact gt_name (by decide)
  | exact gt_tup (by walk_at "gs") rfl
  | exact gt_pl (by walk_at "gs"))

variable {c : Ct}
abbrev bdD (b : Box) : D := .tuple [.int b.low, .int b.high]
def pairsUp (n : Int) : List (Int × Int) := (rg 0 n).flatMap fun a => (rg (a + 1) n).map fun b => (a, b)
def pairsUn (n : Int) : List (Int × Int) := (rg 0 n).flatMap fun a => ((rg 0 n).filter fun b => !decide (b = a)).map fun b => (a, b)
abbrev pD (x : Int × Int) : D := .tuple [.int x.1, .int x.2]
def plainF (bs : List Box) : List Say :=
  ((enN 0 bs).flatMap fun x => (rg x.2.low (x.2.high + 1)).map fun n => Say.is x.1 n) ++
  ((enN 0 bs).flatMap fun x => (rg (x.2.low + 1) (x.2.high + 1)).map fun n => Say.frm x.1 n) ++
  ((enN 0 bs).flatMap fun x => (rg x.2.low x.2.high).map fun n => Say.to x.1 n)
def looserF (bs : List Box) : List Say :=
  ((rg 0 bs.length).flatMap fun a => (rg 2 7).flatMap fun m => (rg 0 m).map fun r => Say.rest a m r) ++
  ((enN 0 bs).flatMap fun x => (rg x.2.low (x.2.high + 1)).flatMap fun n => (rg (n + 1) (x.2.high + 1)).map fun k => Say.either x.1 n k) ++
  ((enN 0 bs).flatMap fun x => (rg x.2.low (x.2.high + 1)).map fun n => Say.never x.1 n)
def joinedF (n : Int) : List Say :=
  ((pairsUp n).map fun x => Say.same x.1 x.2) ++ ((pairsUn n).map fun x => Say.below x.1 x.2) ++ ((pairsUn n).map fun x => Say.most x.1 x.2) ++
  ((pairsUp n).flatMap fun x => ((rg (-20) 21).filter fun k => !decide (k = 0)).map fun k => Say.gap x.1 x.2 k) ++
  ((pairsUp n).flatMap fun x => (rg (-40) 41).map fun k => Say.sum x.1 x.2 k) ++
  ((pairsUp n).flatMap fun x => ((rg 0 n).filter fun k => !decide (k = x.1) && !decide (k = x.2)).map fun k => Say.adds x.1 x.2 k) ++
  ((pairsUp n).flatMap fun x => ((rg 0 n).filter fun k => !decide (k = x.1) && !decide (k = x.2)).map fun k => Say.times x.1 x.2 k)
def sayF (p : Prog) : List Say := plainF p.boxes ++ looserF p.boxes ++ joinedF p.boxes.length
/-- few, narrow boxes -/
structure Bx (bs : List Box) : Prop where
  n2 : bs.length ≤ 2
  wf : ∀ b, b ∈ bs → b.wf
theorem WFp.bxs {p : Prog} (W : WFp p) : Bx p.boxes := ⟨W.b2, W.bx⟩
theorem rg_small {a b : Int} {k : Nat} (h : b - a ≤ k) : (rg a b).length ≤ k := by rw [rg_len]; omega
def pre_bounds : List Sl → M → RE → Prop := fun ss μ R => ∃ p : Prog, WFp p ∧ ss = [.d p.d] ∧ μ = [] ∧ R (.l (p.boxes.map bdD)) []
theorem rd_box_bounds : ∀ ss μ R, pre_bounds ss μ R → WS c (t_box_bounds c.P c.w c.K) (startD N_box_bounds ss) μ { nx := fun _ μ' => R (.d .none) μ', rt := R } := by
  rintro ss μ R ⟨p, W, rfl, rfl, h⟩
  unfold t_box_bounds
  refine ws_retL 0 (we_lc (wi_list ?_))
  walk_at "w"
  refine ⟨_, _, lk_d, ?_⟩
  refine lc_map p.boxes (fun b => .d b.d) (by simp) bdD (by have := W.b2; omega) nokeep ?_ ?_
  · intro b hb
    refine ⟨_, gt_tup (gts_cons (gt_name (by decide)) (gts_cons (gt_name (by decide)) (gts_cons (gt_name (by decide)) (gts_cons (gt_name (by decide)) gts_nil)))) rfl, ?_⟩
    walk_at "w"
    exact ⟨rfl, rfl⟩
  · intro q
    exact ⟨0, q, _, _, rfl, rfl, rfl, h⟩
def pre_plain : List Sl → M → RE → Prop := fun ss μ R => ∃ bs : List Box, Bx bs ∧ ss = [.l (bs.map bdD)] ∧ μ = [] ∧ R (.l ((plainF bs).map Say.d)) []
theorem mem_en_mem {α : Type} {bs : List α} {k i : Nat} {b : α} (h : (i, b) ∈ enN k bs) : b ∈ bs := List.mem_of_getElem? (mem_enN h).2
/-- enumerate of bounds -/
theorem en_bounds (bs : List Box) : (enumD 0 (bs.map bdD)).map Sl.d = (enN 0 bs).map fun x => Sl.d (.tuple [.int x.1, bdD x.2]) := by
  rw [enumD_en bdD]; simp
/-- found.extend([F for n in range(lo, hi)]) for the bounds -/
theorem ext_loop (f : Nat × Box → Int → Say) (lo hi : Nat × Box → Int) (tl : TA) (te : TE) {bs : List Box} {A : AE} (hb : Bx bs) (base : List Say) (hbase : base.length ≤ 1000) {p : Addr} {x2 x3 x4 : Option Sl} {g : M}
    (hw : ∀ x, x ∈ enN 0 bs → hi x - lo x ≤ 10 ∧ -1000 ≤ lo x ∧ lo x ≤ 1000 ∧ -1000 ≤ hi x ∧ hi x ≤ 1000)
    (htl : ∀ x μ (RA : List Sl → M → Prop), x ∈ enN 0 bs → RA [.d (.int (lo x)), .d (.int (hi x))] μ → WA c tl [some (.l (bs.map bdD)), some (.x (.ref p)), some (.d (.int x.1)), some (.d (.int x.2.low)), some (.d (.int x.2.high)), none] μ RA)
    (hte : ∀ x n μ, WE c te [some (.l (bs.map bdD)), some (.x (.ref p)), some (.d (.int (x : Nat × Box).1)), some (.d (.int x.2.low)), some (.d (.int x.2.high)), some (.d (.int n))] μ fun s' μ3 => dataS s' = some (f x n).d ∧ μ3 = μ)
    (k : ∀ x2 x3 x4 g, A.nx [some (.l (bs.map bdD)), some (.x (.ref p)), x2, x3, x4, none] ((p, .lst (((base ++ (enN 0 bs).flatMap fun x => (rg (lo x) (hi x)).map (f x)).map Say.d).map .d)) :: g)) :
    WS c (tFor (iEnum c.K (tCons (tVar 0) tNil)) (gTup c.K 2 (gCons (gName 2) (gCons (gTup c.K 2 (gCons (gName 3) (gCons (gName 4) gNil))) gNil))) (tDrop (tBM c.K "list" rExtend (tVar 1) (tCons (tLc (iRng2 tl) (gName 5) tYes te [5]) tNil))))
      [some (.l (bs.map bdD)), some (.x (.ref p)), x2, x3, x4, none] ((p, .lst ((base.map Say.d).map .d)) :: g) A := by
  refine ws_for (wi_enum ?_)
  walk_at "w"
  refine ⟨_, _, rfl, .inr rfl, ?_⟩
  refine for_x (enN 0 bs) _ (en_bounds bs) (fun done Δ μ => ∃ x2 x3 x4 g, Δ = [some (.l (bs.map bdD)), some (.x (.ref p)), x2, x3, x4, none] ∧ μ = (p, .lst (((base ++ done.flatMap fun x => (rg (lo x) (hi x)).map (f x)).map Say.d).map .d)) :: g) ⟨_, _, _, g, rfl, by simp⟩ (fun _ _ _ _ => nokeep) ?_ ?_
  · rintro done x rest Δ μ e ⟨x2, x3, x4, g, rfl, rfl⟩
    have hx : x ∈ enN 0 bs := by rw [e]; simp
    refine ⟨_, is12, gt_tup (gts_cons (gt_name (by decide)) (gts_cons (gt_tup (gts_cons (gt_name (by decide)) (gts_cons (gt_name (by decide)) gts_nil)) rfl) gts_nil)) rfl, ?_⟩
    walk_at "w"
    refine we_lc (wi_rng2 (htl x _ _ hx ⟨_, _, rfl, by have := hw x hx; omega, ?_⟩))
    refine lc_map (rg (lo x) (hi x)) _ (rgS_rg _ _) (fun n => (f x n).d) (by rw [rg_len]; have := hw x hx; omega) nokeep (fun n hn => ⟨_, gt_name (by decide), hte x n _⟩) (fun q => ?_)
    walk_at "w"
    have l1 : (done.flatMap fun x => (rg (lo x) (hi x)).map (f x)).length ≤ 20 := by
      have a1 := flat_len (fun x => (rg (lo x) (hi x)).map (f x)) 10 done (by intro y hy; rw [List.length_map, rg_len]; have := hw y (by rw [e]; simp [hy]); omega)
      have a2 : done.length ≤ bs.length := by rw [← enN_len bs 0, e]; simp
      have := hb.n2
      omega
    refine wb_extendD 0 _ ((rg (lo x) (hi x)).map fun n => (f x n).d) rfl (by exact li_last) ?_ ?_
    · simp only [List.length_map, List.length_append, rg_len]
      have := hw x hx
      omega
    · exact ⟨_, _, _, g ++ [(q, _)], rfl, by simp; rfl⟩
  · rintro Δ μ ⟨x2, x3, x4, g, rfl, rfl⟩
    exact k x2 x3 x4 g
theorem rd_plain_ones : ∀ ss μ R, pre_plain ss μ R → WS c (t_plain_ones c.P c.w c.K) (startD N_plain_ones ss) μ { nx := fun _ μ' => R (.d .none) μ', rt := R } := by
  rintro ss μ R ⟨bs, hb, rfl, rfl, h⟩
  unfold t_plain_ones
  have hw : ∀ x : Nat × Box, x ∈ enN 0 bs → x.2.wf := fun x hx => hb.wf _ (mem_en_mem hx)
  walk_at "w"
  refine ⟨by simp, fun q => ?_⟩
  have bl (f : Nat × Box → Int → Say) (lo hi : Nat × Box → Int) (hl : ∀ x, x ∈ enN 0 bs → hi x - lo x ≤ 10) : ((enN 0 bs).flatMap fun x => (rg (lo x) (hi x)).map (f x)).length ≤ 20 := by
    have a1 := flat_len (fun x => (rg (lo x) (hi x)).map (f x)) 10 (enN 0 bs) (by intro y hy; rw [List.length_map, rg_len]; have := hl y hy; omega)
    rw [enN_len] at a1
    have := hb.n2
    omega
  refine ws_seq (ext_loop (fun x n => .is x.1 n) (fun x => x.2.low) (fun x => x.2.high + 1) _ _ hb [] (by simp) (fun x hx => by have := hw x hx; have := this.lo; have := (hw x hx).hi; have := (hw x hx).wd; have := (hw x hx).f1; have := (hw x hx).f2; omega) (fun x μ RA hx r => by walk_at "w"; exact r) (fun x n μ => by walk_at "w"; exact ⟨rfl, rfl⟩) ?_)
  intro x2 x3 x4 g
  refine ws_seq (ext_loop (fun x n => .frm x.1 n) (fun x => x.2.low + 1) (fun x => x.2.high + 1) _ _ hb _ ?_ (fun x hx => by have := hw x hx; have := this.lo; have := (hw x hx).hi; have := (hw x hx).wd; have := (hw x hx).f1; have := (hw x hx).f2; omega) (fun x μ RA hx r => by walk_at "w"; exact r) (fun x n μ => by walk_at "w"; exact ⟨rfl, rfl⟩) ?_)
  · have := bl (fun x n => .is x.1 n) (fun x => x.2.low) (fun x => x.2.high + 1) (fun x hx => by have := (hw x hx).wd; omega)
    simp only [List.nil_append]; omega
  intro x2 x3 x4 g
  refine ws_seq (ext_loop (fun x n => .to x.1 n) (fun x => x.2.low) (fun x => x.2.high) _ _ hb _ ?_ (fun x hx => by have := hw x hx; have := this.lo; have := (hw x hx).hi; have := (hw x hx).wd; have := (hw x hx).f1; have := (hw x hx).f2; omega) (fun x μ RA hx r => by walk_at "w"; exact r) (fun x n μ => by walk_at "w"; exact ⟨rfl, rfl⟩) ?_)
  · have := bl (fun x n => .is x.1 n) (fun x => x.2.low) (fun x => x.2.high + 1) (fun x hx => by have := (hw x hx).wd; omega)
    have := bl (fun x n => .frm x.1 n) (fun x => x.2.low + 1) (fun x => x.2.high + 1) (fun x hx => by have := (hw x hx).wd; omega)
    simp only [List.nil_append, List.length_append]; omega
  intro x2 x3 x4 g
  refine ws_retL 0 ?_
  walk_at "w"
  exact ⟨0, q, _, _, rfl, rfl, rfl, h⟩
end Sw
/-! SwSay4 -/
set_option Elab.async false
set_option linter.all false
set_option maxRecDepth 100000
set_option maxHeartbeats 2000000
namespace Sw
open PySem L2 SwH
local macro_rules | `(tactic| walk_at "w1") => `(tactic| first
  | with_reducible refine ws_seq ?_
  | with_reducible refine ws_asgL ?_
  | with_reducible refine ws_asg ?_
  | with_reducible refine ws_setL ?_
  | with_reducible refine ws_asgT ?_
  | with_reducible refine ws_drop ?_
  | with_reducible refine ws_next ?_
  | with_reducible refine ws_cont ?_
  | with_reducible refine ws_if ?_
  | with_reducible refine ws_for ?_
  | (with_reducible refine we_var rfl ?_)
  | with_reducible refine we_int ?_
  | with_reducible refine we_str ?_
  | with_reducible refine we_bl ?_
  | with_reducible refine we_non ?_
  | with_reducible refine we_eqNil ?_
  | with_reducible refine we_neNil ?_
  | with_reducible refine we_op ?_
  | (with_reducible refine wo_ixT 0 rfl rfl ?_)
  | (with_reducible refine wo_ixT 1 rfl rfl ?_)
  | (with_reducible refine wo_ixT 2 rfl rfl ?_)
  | (with_reducible refine wo_ixT 3 rfl rfl ?_)
  | (with_reducible refine wo_ixT 4 rfl rfl ?_)
  | with_reducible refine wo_add ?_
  | with_reducible refine wo_sub ?_
  | with_reducible refine wo_lt ?_
  | with_reducible refine wo_le ?_
  | with_reducible refine wo_gt ?_
  | with_reducible refine wo_ge ?_
  | with_reducible refine wo_eqI ?_
  | with_reducible refine wo_neI ?_
  | with_reducible refine wo_eqS ?_
  | with_reducible refine wo_neS ?_
  | with_reducible refine wt_test ?_
  | with_reducible refine wt_B ?_
  | with_reducible refine wt_not ?_
  | with_reducible refine wt_and ?_
  | with_reducible refine wt_or ?_
  | with_reducible refine wt_yes ?_
  | with_reducible refine we_andV ?_
  | with_reducible refine we_orV ?_
  | with_reducible refine we_notV ?_
  | with_reducible refine wa_nil ?_
  | with_reducible refine wa_cons ?_
  | with_reducible refine we_bm ?_
  | with_reducible refine we_bm0 ?_
  | with_reducible refine we_tup ?_
  | with_reducible refine we_cb ?_
  | (with_reducible refine ⟨_, rfl, ?_⟩)
  | (refine ⟨by simp, _, rfl, ?_⟩)
  | (refine ⟨ListOf.ty (lo_m 0 rfl), ?_⟩)
  | (refine ⟨ListOf.ty (lo_m 1 rfl), ?_⟩)
  | (refine ⟨ListOf.ty (lo_m 2 rfl), ?_⟩)
  | (refine ⟨ListOf.ty (lo_m 3 rfl), ?_⟩)
  | (refine cs_t (by decide) ?_)
  | (refine cs_f (by decide) ?_))
local macro_rules | `(tactic| walk_at "w") => `(tactic| repeat walk_at "w1")


local macro_rules | `(tactic| walk_at "gs") => `(tactic| first
  | exact gts_nil
  | (refine gts_cons (gt_name (by decide)) ?_; walk_at "gs")
  | (refine gts_cons (gt_tup (by walk_at "gs") rfl) ?_; walk_at "gs"))
local macro_rules | `(tactic| walk_at "g") => `(tactic| first
  | exact gt_name (by decide)
  | exact gt_tup (by walk_at "gs") rfl
  | exact gt_pl (by walk_at "gs"))

variable {c : Ct}
abbrev lstD {α : Type} (f : α → D) (L : List α) : MO := .lst ((L.map f).map .d)
theorem ws_ext {α : Type} {f : α → D} {Δ : Vt} {μ : M} {A : AE} {te : TE} {p : Addr} {L : List α} {g : M} {j : Nat} (hj : Δ[j]? = some (some (.x (.ref p)))) (hm : μ = (p, lstD f L) :: g)
    (h : WE c te Δ μ fun s μ1 => ∃ q L', s = .x (.ref q) ∧ μ1 = μ ++ [(q, lstD f L')] ∧ L.length + L'.length ≤ 10000000 ∧ A.nx Δ ((p, lstD f (L ++ L')) :: (g ++ [(q, lstD f L')]))) :
    WS c (tDrop (tBM c.K "list" rExtend (tVar j) (tCons te tNil))) Δ μ A := by
  subst hm
  refine ws_drop (we_bm (we_var hj ⟨ListOf.ty (lo_m 0 rfl), wa_cons (h.mono fun s μ1 ⟨q, L', hs, hm, hl, k⟩ => wa_nil ?_)⟩))
  subst hs hm
  refine wb_extendD 0 (L.map f) (L'.map f) rfl (by exact li_last) (by simpa using hl) ?_
  have e : ((p, lstD f L) :: g ++ [(q, lstD f L')]).set 0 (p, MO.lst ((L.map f ++ L'.map f).map .d)) = (p, lstD f (L ++ L')) :: (g ++ [(q, lstD f L')]) := by simp
  show A.nx Δ (((p, lstD f L) :: g ++ [(q, lstD f L')]).set 0 (p, MO.lst ((L.map f ++ L'.map f).map .d)))
  rw [e]; exact k
theorem filterMap_if {α β : Type} (P : α → Bool) (f : α → β) (xs : List α) : xs.filterMap (fun x => if P x = true then some (f x) else none) = (xs.filter P).map f := by
  induction xs with
  | nil => rfl
  | cons a r ih => by_cases h : P a = true <;> simp [h, ih]
/-- a comprehension over a range -/
theorem we_lcRg {β : Type} {fd : β → D} {Δ : Vt} {μ : M} {R : RE} {ta : TA} {tt : TT} {te : TE} {i : Nat} (a b : Int) (P : Int → Bool) (F : Int → β) (hb : -100000 ≤ a ∧ a ≤ 100000 ∧ -100000 ≤ b ∧ b ≤ 100000 ∧ b - a ≤ 100000)
    (h : ∀ RA : List Sl → M → Prop, RA [.d (.int a), .d (.int b)] μ → WA c ta Δ μ RA)
    (hs : ∀ n, a ≤ n → n < b → WT c tt ((wipeD Δ [i]).set i (some (.d (.int n)))) μ fun w μ2 => μ2 = μ ∧ w = P n)
    (he : ∀ n, a ≤ n → n < b → WE c te ((wipeD Δ [i]).set i (some (.d (.int n)))) μ fun s' μ3 => dataS s' = some (fd (F n)) ∧ μ3 = μ)
    (hd : ∀ q, R (.x (.ref q)) (μ ++ [(q, lstD fd (((rg a b).filter P).map F))])) : WE c (tLc (iRng2 ta) (gName i) tt te [i]) Δ μ R := by
  refine we_lc (wi_rng2 (h _ ⟨a, b, rfl, by omega, ?_⟩))
  refine lc_x (rg a b) _ (rgS_rg _ _) (fun n => if P n = true then some (fd (F n)) else none) (by rw [rg_len]; omega) nokeep (fun n hn => ⟨_, gt_name (by simp), ?_⟩) (fun q => ?_)
  · have hn' := mem_rg.mp hn
    intro B σ H bh e m Q q
    refine hs n hn'.1 hn'.2 B σ H bh e m Q fun w B' H' μ2 ⟨h1, h2⟩ => q w B' H' μ2 ?_
    subst h1
    refine ⟨rfl, fun z => (he n hn'.1 hn'.2).mono fun s' μ3 ⟨k1, k2⟩ => ⟨⟨_, k1, ?_⟩, k2⟩, fun z => ?_⟩
    · rw [h2] at z; simp [z]
    · rw [h2] at z; simp [z]
  · have := hd q
    rw [filterMap_if P (fun n => fd (F n))]
    simpa [lstD, Function.comp_def] using this
theorem we_lcRg1 {β : Type} {fd : β → D} {Δ : Vt} {μ : M} {R : RE} {ta : TA} {tt : TT} {te : TE} {i : Nat} (b : Int) (P : Int → Bool) (F : Int → β) (hb : 0 ≤ b ∧ b ≤ 100000)
    (h : ∀ RA : List Sl → M → Prop, RA [.d (.int b)] μ → WA c ta Δ μ RA)
    (hs : ∀ n, 0 ≤ n → n < b → WT c tt ((wipeD Δ [i]).set i (some (.d (.int n)))) μ fun w μ2 => μ2 = μ ∧ w = P n)
    (he : ∀ n, 0 ≤ n → n < b → WE c te ((wipeD Δ [i]).set i (some (.d (.int n)))) μ fun s' μ3 => dataS s' = some (fd (F n)) ∧ μ3 = μ)
    (hd : ∀ q, R (.x (.ref q)) (μ ++ [(q, lstD fd (((rg 0 b).filter P).map F))])) : WE c (tLc (iRng1 ta) (gName i) tt te [i]) Δ μ R := by
  refine we_lc (wi_rng1 (h _ ⟨b, rfl, by omega, ?_⟩))
  refine lc_x (rg 0 b) _ (rgS_rg _ _) (fun n => if P n = true then some (fd (F n)) else none) (by rw [rg_len]; omega) nokeep (fun n hn => ⟨_, gt_name (by simp), ?_⟩) (fun q => ?_)
  · have hn' := mem_rg.mp hn
    intro B σ H bh e m Q q
    refine hs n hn'.1 hn'.2 B σ H bh e m Q fun w B' H' μ2 ⟨h1, h2⟩ => q w B' H' μ2 ?_
    subst h1
    refine ⟨rfl, fun z => (he n hn'.1 hn'.2).mono fun s' μ3 ⟨k1, k2⟩ => ⟨⟨_, k1, ?_⟩, k2⟩, fun z => ?_⟩
    · rw [h2] at z; simp [z]
    · rw [h2] at z; simp [z]
  · have := hd q
    rw [filterMap_if P (fun n => fd (F n))]
    simpa [lstD, Function.comp_def] using this
theorem mcons {p : Addr} {a b : MO} {g : M} (h : a = b) : ((p, a) :: g) = (p, b) :: g := by rw [h]
theorem filter_tt {α : Type} (xs : List α) : xs.filter (fun _ => true) = xs := by simp
def pre_looser : List Sl → M → RE → Prop := fun ss μ R => ∃ bs : List Box, Bx bs ∧ ss = [.l (bs.map bdD)] ∧ μ = [] ∧ R (.l ((looserF bs).map Say.d)) []
theorem flat_snoc {α β : Type} (f : α → List β) (xs : List α) (x : α) : (xs ++ [x]).flatMap f = xs.flatMap f ++ f x := by simp
theorem app_flat_snoc {α β : Type} (b : List β) (f : α → List β) (xs : List α) (x : α) : b ++ (xs ++ [x]).flatMap f = (b ++ xs.flatMap f) ++ f x := by simp
theorem rd_looser_ones : ∀ ss μ R, pre_looser ss μ R → WS c (t_looser_ones c.P c.w c.K) (startD N_looser_ones ss) μ { nx := fun _ μ' => R (.d .none) μ', rt := R } := by
  rintro ss μ R ⟨bs, hb, rfl, rfl, h⟩
  unfold t_looser_ones
  have hw : ∀ x : Nat × Box, x ∈ enN 0 bs → x.2.wf := fun x hx => hb.wf _ (mem_en_mem hx)
  have hn := hb.n2
  walk_at "w"
  refine ⟨by simp, fun q => ?_⟩
  have lr (m : Int) (h2 : m < 7) : (rg 0 m).length ≤ 6 := by rw [rg_len]; omega
  have l1 (as : List Int) (ha : as.length ≤ 2) : (as.flatMap fun a => (rg 2 7).flatMap fun m => (rg 0 m).map fun r => Say.rest a m r).length ≤ 60 := by
    have := flat_len (fun a => (rg 2 7).flatMap fun m => (rg 0 m).map fun r => Say.rest a m r) 30 as (fun a _ => by
      have := flat_len (fun m => (rg 0 m).map fun r => Say.rest a m r) 6 (rg 2 7) (fun m hm => by rw [List.length_map]; exact lr m (mem_rg.mp hm).2)
      have e : (rg 2 7).length = 5 := rfl
      omega)
    omega
  refine ws_seq (ws_for (wi_rng1 ?_))
  walk_at "w"
  refine wc_lenL lo_l ?_
  walk_at "w"
  refine ⟨by simp; omega, ?_⟩
  refine for_x (rg 0 bs.length) (fun n => .d (.int n)) (by rw [rgS_rg]; simp) (fun done Δ μ => ∃ x2 x3 x4 x5 x6 g, Δ = [some (.l (bs.map bdD)), some (.x (.ref q)), x2, x3, x4, x5, x6, none, none] ∧ μ = (q, lstD Say.d (done.flatMap fun a => (rg 2 7).flatMap fun m => (rg 0 m).map fun r => Say.rest a m r)) :: g) ⟨_, _, _, _, _, [], rfl, by simp⟩ (fun _ _ _ _ => nokeep) ?_ ?_
  · rintro done a rest Δ μ e ⟨x2, x3, x4, x5, x6, g, rfl, rfl⟩
    have hdl : done.length ≤ 1 := by have := congrArg List.length e; simp [rg_len] at this; omega
    refine ⟨_, is12, gt_name (by decide), ?_⟩
    refine ws_for (wi_rng2 ?_)
    walk_at "w"
    refine ⟨_, _, rfl, by omega, ?_⟩
    refine for_x (rg 2 7) _ (rgS_rg _ _) (fun dn Δ μ => ∃ x3 x4 x5 x6 g, Δ = [some (.l (bs.map bdD)), some (.x (.ref q)), some (.d (.int a)), x3, x4, x5, x6, none, none] ∧ μ = (q, lstD Say.d ((done.flatMap fun a => (rg 2 7).flatMap fun m => (rg 0 m).map fun r => Say.rest a m r) ++ dn.flatMap fun m => (rg 0 m).map fun r => Say.rest a m r)) :: g) ⟨_, _, _, _, g, rfl, by simp⟩ (fun _ _ _ _ => nokeep) ?_ ?_
    · rintro dn m rest Δ μ e2 ⟨x3, x4, x5, x6, g, rfl, rfl⟩
      have hm : m ∈ rg 2 7 := by rw [e2]; simp
      have hm' := mem_rg.mp hm
      refine ⟨_, is12, gt_name (by decide), ?_⟩
      refine ws_ext rfl rfl (we_lcRg1 (fd := Say.d) m (fun _ => true) (fun r => Say.rest a m r) (by omega) (fun RA r => by walk_at "w"; exact r) (fun n _ _ => wt_yes ⟨rfl, rfl⟩) (fun n _ _ => by walk_at "w"; exact ⟨rfl, rfl⟩) fun q2 => ⟨q2, _, rfl, rfl, ?_, ?_⟩)
      · have a1 := l1 done (by omega)
        have a2 := flat_len (fun m => (rg 0 m).map fun r => Say.rest a m r) 6 dn (fun m hm => by rw [List.length_map]; exact lr m (mem_rg.mp (by rw [e2]; simp [hm])).2)
        have a3 : dn.length ≤ 5 := by have := congrArg List.length e2; simp [rg_len] at this; omega
        have a4 := lr m hm'.2
        simp only [List.length_append, List.length_map, filter_tt]
        omega
      · exact ⟨_, _, _, _, _, rfl, mcons (by rw [app_flat_snoc, filter_tt])⟩
    · rintro Δ μ ⟨x3, x4, x5, x6, g, rfl, rfl⟩
      refine ⟨_, _, _, _, _, g, rfl, ?_⟩
      rw [flat_snoc]
  rintro Δ μ ⟨x2, x3, x4, x5, x6, g, rfl, rfl⟩
  have L1 := l1 (rg 0 bs.length) (by rw [rg_len]; omega)
  generalize hB1 : ((rg 0 bs.length).flatMap fun a => (rg 2 7).flatMap fun m => (rg 0 m).map fun r => Say.rest a m r) = B1 at L1 ⊢
  have wd (x : Nat × Box) (hx : x ∈ enN 0 bs) : (rg x.2.low (x.2.high + 1)).length ≤ 8 := by rw [rg_len]; have := (hw x hx).wd; omega
  have wd2 (x : Nat × Box) (hx : x ∈ enN 0 bs) (n : Int) (h : x.2.low ≤ n) : (rg (n + 1) (x.2.high + 1)).length ≤ 8 := by rw [rg_len]; have := (hw x hx).wd; omega
  have l2 (as : List (Nat × Box)) (hs : ∀ x, x ∈ as → x ∈ enN 0 bs) (ha : as.length ≤ 2) : (as.flatMap fun x => (rg x.2.low (x.2.high + 1)).flatMap fun n => (rg (n + 1) (x.2.high + 1)).map fun k => Say.either x.1 n k).length ≤ 128 := by
    have := flat_len (fun x : Nat × Box => (rg x.2.low (x.2.high + 1)).flatMap fun n => (rg (n + 1) (x.2.high + 1)).map fun k => Say.either x.1 n k) 64 as (fun x hx => by
      have := flat_len (fun n => (rg (n + 1) (x.2.high + 1)).map fun k => Say.either x.1 n k) 8 (rg x.2.low (x.2.high + 1)) (fun n hn => by rw [List.length_map]; exact wd2 x (hs x hx) n (mem_rg.mp hn).1)
      have := wd x (hs x hx)
      omega)
    omega
  refine ws_seq (ws_for (wi_enum ?_))
  walk_at "w"
  refine ⟨_, _, rfl, .inr rfl, ?_⟩
  refine for_x (enN 0 bs) _ (en_bounds bs) (fun done Δ μ => ∃ x2 x3 x4 x5 x6 g, Δ = [some (.l (bs.map bdD)), some (.x (.ref q)), x2, x3, x4, x5, x6, none, none] ∧ μ = (q, lstD Say.d (B1 ++ done.flatMap fun x => (rg x.2.low (x.2.high + 1)).flatMap fun n => (rg (n + 1) (x.2.high + 1)).map fun k => Say.either x.1 n k)) :: g) ⟨_, _, _, _, _, g, rfl, by simp⟩ (fun _ _ _ _ => nokeep) ?_ ?_
  · rintro done x rest Δ μ e ⟨x2, x3, x4, x5, x6, g, rfl, rfl⟩
    have hx : x ∈ enN 0 bs := by rw [e]; simp
    have hdl : done.length ≤ 1 := by have := congrArg List.length e; simp [enN_len] at this; omega
    have hds : ∀ y, y ∈ done → y ∈ enN 0 bs := fun y hy => by rw [e]; simp [hy]
    have lo := (hw x hx).lo
    have hi := (hw x hx).hi
    have f1 := (hw x hx).f1
    have f2 := (hw x hx).f2
    refine ⟨_, is12, gt_tup (gts_cons (gt_name (by decide)) (gts_cons (gt_tup (gts_cons (gt_name (by decide)) (gts_cons (gt_name (by decide)) gts_nil)) rfl) gts_nil)) rfl, ?_⟩
    refine ws_for (wi_rng2 ?_)
    walk_at "w"
    refine ⟨_, _, rfl, by omega, ?_⟩
    refine for_x (rg x.2.low (x.2.high + 1)) _ (rgS_rg _ _) (fun dn Δ μ => ∃ x3 x6 g, Δ = [some (.l (bs.map bdD)), some (.x (.ref q)), some (.d (.int x.1)), x3, some (.d (.int x.2.low)), some (.d (.int x.2.high)), x6, none, none] ∧ μ = (q, lstD Say.d ((B1 ++ done.flatMap fun x => (rg x.2.low (x.2.high + 1)).flatMap fun n => (rg (n + 1) (x.2.high + 1)).map fun k => Say.either x.1 n k) ++ dn.flatMap fun n => (rg (n + 1) (x.2.high + 1)).map fun k => Say.either x.1 n k)) :: g) ⟨_, _, g, rfl, by simp⟩ (fun _ _ _ _ => nokeep) ?_ ?_
    · rintro dn n rest Δ μ e2 ⟨x3, x6, g, rfl, rfl⟩
      have hn' := mem_rg.mp (show n ∈ rg x.2.low (x.2.high + 1) by rw [e2]; simp)
      refine ⟨_, is12, gt_name (by decide), ?_⟩
      refine ws_ext rfl rfl (we_lcRg (fd := Say.d) (n + 1) (x.2.high + 1) (fun _ => true) (fun k => Say.either x.1 n k) (by omega) (fun RA r => by walk_at "w"; exact r) (fun n _ _ => wt_yes ⟨rfl, rfl⟩) (fun n _ _ => by walk_at "w"; exact ⟨rfl, rfl⟩) fun q2 => ⟨q2, _, rfl, rfl, ?_, ?_⟩)
      · have a1 := l2 done hds (by omega)
        have a2 := flat_len (fun n => (rg (n + 1) (x.2.high + 1)).map fun k => Say.either x.1 n k) 8 dn (fun m hm => by rw [List.length_map]; exact wd2 x hx m (mem_rg.mp (show m ∈ rg x.2.low (x.2.high + 1) by rw [e2]; simp [hm])).1)
        have a3 : dn.length ≤ 8 := by have := congrArg List.length e2; have := wd x hx; simp at *; omega
        have a4 := wd2 x hx n hn'.1
        simp only [List.length_append, List.length_map, filter_tt]
        omega
      · exact ⟨_, _, _, rfl, mcons (by rw [app_flat_snoc, filter_tt])⟩
    · rintro Δ μ ⟨x3, x6, g, rfl, rfl⟩
      refine ⟨_, _, _, _, _, g, rfl, ?_⟩
      rw [app_flat_snoc]
  rintro Δ μ ⟨x2, x3, x4, x5, x6, g, rfl, rfl⟩
  have L2 := l2 (enN 0 bs) (fun _ h => h) (by rw [enN_len]; omega)
  generalize hB2 : ((enN 0 bs).flatMap fun x => (rg x.2.low (x.2.high + 1)).flatMap fun n => (rg (n + 1) (x.2.high + 1)).map fun k => Say.either x.1 n k) = B2 at L2 ⊢
  refine ws_seq (ws_for (wi_enum ?_))
  walk_at "w"
  refine ⟨_, _, rfl, .inr rfl, ?_⟩
  refine for_x (enN 0 bs) _ (en_bounds bs) (fun done Δ μ => ∃ x2 x3 x4 x5 x6 g, Δ = [some (.l (bs.map bdD)), some (.x (.ref q)), x2, x3, x4, x5, x6, none, none] ∧ μ = (q, lstD Say.d ((B1 ++ B2) ++ done.flatMap fun x => (rg x.2.low (x.2.high + 1)).map fun n => Say.never x.1 n)) :: g) ⟨_, _, _, _, _, g, rfl, by simp⟩ (fun _ _ _ _ => nokeep) ?_ ?_
  · rintro done x rest Δ μ e ⟨x2, x3, x4, x5, x6, g, rfl, rfl⟩
    have hx : x ∈ enN 0 bs := by rw [e]; simp
    have hdl : done.length ≤ 1 := by have := congrArg List.length e; simp [enN_len] at this; omega
    have lo := (hw x hx).lo
    have hi := (hw x hx).hi
    have f1 := (hw x hx).f1
    have f2 := (hw x hx).f2
    have wx := (hw x hx).wd
    refine ⟨_, is12, gt_tup (gts_cons (gt_name (by decide)) (gts_cons (gt_tup (gts_cons (gt_name (by decide)) (gts_cons (gt_name (by decide)) gts_nil)) rfl) gts_nil)) rfl, ?_⟩
    refine ws_ext rfl rfl (we_lcRg (fd := Say.d) x.2.low (x.2.high + 1) (fun _ => true) (fun k => Say.never x.1 k) (by omega) (fun RA r => by walk_at "w"; exact r) (fun n _ _ => wt_yes ⟨rfl, rfl⟩) (fun n _ _ => by walk_at "w"; exact ⟨rfl, rfl⟩) fun q2 => ⟨q2, _, rfl, rfl, ?_, ?_⟩)
    · have a2 := flat_len (fun x : Nat × Box => (rg x.2.low (x.2.high + 1)).map fun n => Say.never x.1 n) 8 done (fun y hy => by rw [List.length_map]; exact wd y (by rw [e]; simp [hy]))
      have a4 := wd x hx
      simp only [List.length_append, List.length_map, filter_tt]
      omega
    · exact ⟨_, _, _, _, _, _, rfl, mcons (by rw [app_flat_snoc, filter_tt])⟩
  rintro Δ μ ⟨x2, x3, x4, x5, x6, g, rfl, rfl⟩
  refine ws_retL 0 ?_
  walk_at "w"
  subst hB1 hB2
  exact ⟨0, q, _, _, rfl, rfl, rfl, h⟩
end Sw
/-! SwSay5 -/
set_option Elab.async false
set_option linter.all false
set_option maxRecDepth 100000
set_option maxHeartbeats 2000000
namespace Sw
open PySem L2 SwH
local macro_rules | `(tactic| walk_at "w1") => `(tactic| first
  | with_reducible refine ws_seq ?_
  | with_reducible refine ws_asgL ?_
  | with_reducible refine ws_asg ?_
  | with_reducible refine ws_setL ?_
  | with_reducible refine ws_asgT ?_
  | with_reducible refine ws_drop ?_
  | with_reducible refine ws_next ?_
  | with_reducible refine ws_cont ?_
  | with_reducible refine ws_if ?_
  | with_reducible refine ws_for ?_
  | (with_reducible refine we_var rfl ?_)
  | with_reducible refine we_int ?_
  | with_reducible refine we_str ?_
  | with_reducible refine we_bl ?_
  | with_reducible refine we_non ?_
  | with_reducible refine we_eqNil ?_
  | with_reducible refine we_neNil ?_
  | with_reducible refine we_op ?_
  | (with_reducible refine wo_ixT 0 rfl rfl ?_)
  | (with_reducible refine wo_ixT 1 rfl rfl ?_)
  | (with_reducible refine wo_ixT 2 rfl rfl ?_)
  | (with_reducible refine wo_ixT 3 rfl rfl ?_)
  | (with_reducible refine wo_ixT 4 rfl rfl ?_)
  | with_reducible refine wo_add ?_
  | with_reducible refine wo_sub ?_
  | with_reducible refine wo_lt ?_
  | with_reducible refine wo_le ?_
  | with_reducible refine wo_gt ?_
  | with_reducible refine wo_ge ?_
  | with_reducible refine wo_eqI ?_
  | with_reducible refine wo_neI ?_
  | with_reducible refine wo_eqS ?_
  | with_reducible refine wo_neS ?_
  | with_reducible refine wt_test ?_
  | with_reducible refine wt_B ?_
  | with_reducible refine wt_not ?_
  | with_reducible refine wt_and ?_
  | with_reducible refine wt_or ?_
  | with_reducible refine wt_yes ?_
  | with_reducible refine we_andV ?_
  | with_reducible refine we_orV ?_
  | with_reducible refine we_notV ?_
  | with_reducible refine wa_nil ?_
  | with_reducible refine wa_cons ?_
  | with_reducible refine we_bm ?_
  | with_reducible refine we_bm0 ?_
  | with_reducible refine we_tup ?_
  | with_reducible refine we_cb ?_
  | (with_reducible refine ⟨_, rfl, ?_⟩)
  | (refine ⟨by simp, _, rfl, ?_⟩)
  | (refine ⟨ListOf.ty (lo_m 0 rfl), ?_⟩)
  | (refine ⟨ListOf.ty (lo_m 1 rfl), ?_⟩)
  | (refine ⟨ListOf.ty (lo_m 2 rfl), ?_⟩)
  | (refine ⟨ListOf.ty (lo_m 3 rfl), ?_⟩)
  | (refine cs_t (by decide) ?_)
  | (refine cs_f (by decide) ?_))
local macro_rules | `(tactic| walk_at "w") => `(tactic| repeat walk_at "w1")


local macro_rules | `(tactic| walk_at "gs") => `(tactic| first
  | exact gts_nil
  | (refine gts_cons (gt_name (by decide)) ?_; walk_at "gs")
  | (refine gts_cons (gt_tup (by walk_at "gs") rfl) ?_; walk_at "gs"))
local macro_rules | `(tactic| walk_at "g") => `(tactic| first
  | exact gt_name (by decide)
  | exact gt_tup (by walk_at "gs") rfl
  | exact gt_pl (by walk_at "gs"))

variable {c : Ct}
def pre_up : List Sl → M → RE → Prop := fun ss μ R => ∃ n : Int, 0 ≤ n ∧ n ≤ 2 ∧ ss = [.d (.int n)] ∧ μ = [] ∧ R (.l ((pairsUp n).map pD)) []
def pre_un : List Sl → M → RE → Prop := fun ss μ R => ∃ n : Int, 0 ≤ n ∧ n ≤ 2 ∧ ss = [.d (.int n)] ∧ μ = [] ∧ R (.l ((pairsUn n).map pD)) []
theorem rd_pairs_going_up : ∀ ss μ R, pre_up ss μ R → WS c (t_pairs_going_up c.P c.w c.K) (startD N_pairs_going_up ss) μ { nx := fun _ μ' => R (.d .none) μ', rt := R } := by
  rintro ss μ R ⟨n, h0, h2, rfl, rfl, h⟩
  unfold t_pairs_going_up
  walk_at "w"
  refine ⟨by simp, fun q => ?_⟩
  refine ws_seq (ws_for (wi_rng1 ?_))
  walk_at "w"
  refine ⟨by omega, ?_⟩
  refine for_x (rg 0 n) _ (rgS_rg _ _) (fun done Δ μ => ∃ x2 g, Δ = [some (.d (.int n)), some (.x (.ref q)), x2, none] ∧ μ = (q, lstD pD (done.flatMap fun a => (rg (a + 1) n).map fun b => (a, b))) :: g) ⟨_, [], rfl, by simp⟩ (fun _ _ _ _ => nokeep) ?_ ?_
  · rintro done a rest Δ μ e ⟨x2, g, rfl, rfl⟩
    have ha := mem_rg.mp (show a ∈ rg 0 n by rw [e]; simp)
    have hdl : done.length ≤ 2 := by have := congrArg List.length e; simp [rg_len] at this; omega
    refine ⟨_, is12, gt_name (by decide), ?_⟩
    refine ws_ext rfl rfl (we_lcRg (fd := pD) (a + 1) n (fun _ => true) (fun b => (a, b)) (by omega) (fun RA r => by walk_at "w"; exact r) (fun n _ _ => wt_yes ⟨rfl, rfl⟩) (fun n _ _ => by walk_at "w"; exact ⟨rfl, rfl⟩) fun q2 => ⟨q2, _, rfl, rfl, ?_, ?_⟩)
    · have := flat_len (fun a => (rg (a + 1) n).map fun b => (a, b)) 2 done (fun a ha => by rw [List.length_map, rg_len]; have := mem_rg.mp (show a ∈ rg 0 n by rw [e]; simp [ha]); omega)
      simp only [List.length_map, filter_tt, rg_len]
      omega
    · exact ⟨_, _, rfl, mcons (by rw [flat_snoc, filter_tt])⟩
  rintro Δ μ ⟨x2, g, rfl, rfl⟩
  refine ws_retL 0 ?_
  walk_at "w"
  exact ⟨0, q, _, _, rfl, rfl, rfl, h⟩
theorem rd_pairs_unlike : ∀ ss μ R, pre_un ss μ R → WS c (t_pairs_unlike c.P c.w c.K) (startD N_pairs_unlike ss) μ { nx := fun _ μ' => R (.d .none) μ', rt := R } := by
  rintro ss μ R ⟨n, h0, h2, rfl, rfl, h⟩
  unfold t_pairs_unlike
  walk_at "w"
  refine ⟨by simp, fun q => ?_⟩
  refine ws_seq (ws_for (wi_rng1 ?_))
  walk_at "w"
  refine ⟨by omega, ?_⟩
  refine for_x (rg 0 n) _ (rgS_rg _ _) (fun done Δ μ => ∃ x2 g, Δ = [some (.d (.int n)), some (.x (.ref q)), x2, none] ∧ μ = (q, lstD pD (done.flatMap fun a => ((rg 0 n).filter fun b => !decide (b = a)).map fun b => (a, b))) :: g) ⟨_, [], rfl, by simp⟩ (fun _ _ _ _ => nokeep) ?_ ?_
  · rintro done a rest Δ μ e ⟨x2, g, rfl, rfl⟩
    have ha := mem_rg.mp (show a ∈ rg 0 n by rw [e]; simp)
    have hdl : done.length ≤ 2 := by have := congrArg List.length e; simp [rg_len] at this; omega
    have fl (a : Int) : ((rg 0 n).filter fun b => !decide (b = a)).length ≤ 2 := Nat.le_trans (List.length_filter_le _ _) (by rw [rg_len]; omega)
    refine ⟨_, is12, gt_name (by decide), ?_⟩
    refine ws_ext rfl rfl (we_lcRg1 (fd := pD) n (fun b => !decide (b = a)) (fun b => (a, b)) (by omega) (fun RA r => by walk_at "w"; exact r) (fun n _ _ => by walk_at "w"; exact ⟨rfl, rfl⟩) (fun n _ _ => by walk_at "w"; exact ⟨rfl, rfl⟩) fun q2 => ⟨q2, _, rfl, rfl, ?_, ?_⟩)
    · have := flat_len (fun a => ((rg 0 n).filter fun b => !decide (b = a)).map fun b => (a, b)) 2 done (fun a ha => by rw [List.length_map]; exact fl a)
      have := fl a
      simp only [List.length_map]
      omega
    · exact ⟨_, _, rfl, mcons (by rw [flat_snoc])⟩
  rintro Δ μ ⟨x2, g, rfl, rfl⟩
  refine ws_retL 0 ?_
  walk_at "w"
  exact ⟨0, q, _, _, rfl, rfl, rfl, h⟩
theorem up_len {n : Int} (h : n ≤ 2) : (pairsUp n).length ≤ 4 := by
  have := flat_len (fun a => (rg (a + 1) n).map fun b => (a, b)) 2 (rg 0 n) (fun a ha => by rw [List.length_map, rg_len]; have := mem_rg.mp ha; omega)
  rw [rg_len] at this
  unfold pairsUp
  omega
theorem un_len {n : Int} (h : n ≤ 2) : (pairsUn n).length ≤ 4 := by
  have := flat_len (fun a => ((rg 0 n).filter fun b => !decide (b = a)).map fun b => (a, b)) 2 (rg 0 n) (fun a ha => by rw [List.length_map]; exact Nat.le_trans (List.length_filter_le _ _) (by rw [rg_len]; omega))
  rw [rg_len] at this
  unfold pairsUn
  omega
def pre_joined : List Sl → M → RE → Prop := fun ss μ R => ∃ n : Int, 0 ≤ n ∧ n ≤ 2 ∧ ss = [.d (.int n)] ∧ μ = [] ∧ R (.l ((joinedF n).map Say.d)) []
/-- a comprehension over pairs -/
theorem we_lcP {β : Type} {fd : β → D} {Δ : Vt} {μ : M} {R : RE} {tl : TE} {te : TE} {s : Sl} (xs : List (Int × Int)) (F : Int × Int → β) (hs : s = .l (xs.map pD)) (hl : xs.length ≤ 10000000)
    (ht : ∀ R' : RE, R' s μ → WE c tl Δ μ R')
    (he : ∀ x, WE c te (((wipeD Δ [4, 5]).set 4 (some (.d (.int x.1)))).set 5 (some (.d (.int x.2)))) μ fun s' μ3 => dataS s' = some (fd (F x)) ∧ μ3 = μ)
    (hd : ∀ q, R (.x (.ref q)) (μ ++ [(q, lstD fd (xs.map F))])) : WE c (tLc (iList c.K tl) (gTup c.K 2 (gCons (gName 4) (gCons (gName 5) gNil))) tYes te [4, 5]) Δ μ R := by
  subst hs
  refine we_lc (wi_list (ht _ ⟨_, _, lk_l, ?_⟩))
  refine lc_map xs (fun x => .d (pD x)) (by simp) (fun x => fd (F x)) hl nokeep (fun x hx => ⟨_, gt_tup (gts_cons (gt_name (by decide)) (gts_cons (gt_name (by decide)) gts_nil)) rfl, he x⟩) (fun q => ?_)
  have := hd q
  simpa [lstD, Function.comp_def] using this
theorem for_pairs {tb : TS} {Δ : Vt} {μ : M} {A : AE} {tl : TE} {s : Sl} (xs : List (Int × Int)) (hs : s = .l (xs.map pD)) (ht : ∀ R' : RE, R' s μ → WE c tl Δ μ R') (I : List (Int × Int) → Vt → M → Prop) (h0 : I [] Δ μ)
    (hb : ∀ done x rest Δ μ, xs = done ++ x :: rest → I done Δ μ → WS c tb ((Δ.set 4 (some (.d (.int x.1)))).set 5 (some (.d (.int x.2)))) μ { nx := I (done ++ [x]), rt := A.rt, bk := A.nx, ct := I (done ++ [x]) })
    (hd : ∀ Δ μ, I xs Δ μ → A.nx Δ μ) : WS c (tFor (iList c.K tl) (gTup c.K 2 (gCons (gName 4) (gCons (gName 5) gNil))) tb) Δ μ A := by
  subst hs
  refine ws_for (wi_list (ht _ ⟨_, _, lk_l, ?_⟩))
  exact for_x xs (fun x => .d (pD x)) (by simp) I h0 (fun _ _ _ _ => nokeep) (fun done x rest Δ μ e hI => ⟨_, is12, gt_tup (gts_cons (gt_name (by decide)) (gts_cons (gt_name (by decide)) gts_nil)) rfl, hb done x rest Δ μ e hI⟩) hd
theorem rd_joined_ones : ∀ ss μ R, pre_joined ss μ R → WS c (t_joined_ones c.P c.w c.K (SPM c pre_up) (SPM c pre_un)) (startD N_joined_ones ss) μ { nx := fun _ μ' => R (.d .none) μ', rt := R } := by
  rintro ss μ R ⟨n, h0, h2, rfl, rfl, h⟩
  unfold t_joined_ones
  have ul := up_len h2
  have nl := un_len h2
  have fl (P : Int → Bool) : ((rg 0 n).filter P).length ≤ 2 := Nat.le_trans (List.length_filter_le _ _) (by rw [rg_len]; omega)
  walk_at "w"
  refine we_call0 ?_
  walk_at "w"
  refine ⟨n, h0, h2, rfl, rfl, ?_⟩
  refine ws_seq (ws_asg (we_lcP (fd := Say.d) (pairsUp n) (fun x => Say.same x.1 x.2) rfl (by omega) (fun R' r => by walk_at "w"; exact r) (fun x => by walk_at "w"; exact ⟨rfl, rfl⟩) fun q => ?_))
  refine ws_seq (ws_for (wi_list (we_lstL ?_)))
  walk_at "w"
  refine ⟨_, _, lk_l, ?_⟩
  refine for_x [((Str.ofString "below"), Say.below), (Str.ofString "most", Say.most)] (fun x => .d (.str x.1)) rfl (fun done Δ μ => ∃ x3 x4 x5 g, Δ = [some (.d (.int n)), some (.l ((pairsUp n).map pD)), some (.x (.ref q)), x3, x4, x5, none, none] ∧ μ = (q, lstD Say.d (((pairsUp n).map fun x => Say.same x.1 x.2) ++ done.flatMap fun y => (pairsUn n).map fun x => y.2 x.1 x.2)) :: g) ⟨_, _, _, [], rfl, by simp⟩ (fun _ _ _ _ => nokeep) ?_ ?_
  · rintro done y rest Δ μ e ⟨x3, x4, x5, g, rfl, rfl⟩
    have hy : ∀ a b, (y.2 a b).d = .tuple [.str y.1, .int a, .int b] := by
      have : y ∈ [((Str.ofString "below"), Say.below), (Str.ofString "most", Say.most)] := by rw [e]; simp
      simp only [List.mem_cons, List.not_mem_nil, or_false] at this
      rcases this with rfl | rfl <;> (intro a b; rfl)
    have hdl : done.length ≤ 2 := by have := congrArg List.length e; simp at this; omega
    refine ⟨_, is12, gt_name (by decide), ?_⟩
    refine ws_ext rfl rfl (we_lcP (fd := Say.d) (pairsUn n) (fun x => y.2 x.1 x.2) rfl (by omega) (fun R' r => we_call0 (by walk_at "w"; exact ⟨n, h0, h2, rfl, rfl, r⟩)) (fun x => by walk_at "w"; exact ⟨by rw [hy]; rfl, rfl⟩) fun q2 => ⟨q2, _, rfl, rfl, ?_, ?_⟩)
    · have := flat_len (fun y : Str × (Int → Int → Say) => (pairsUn n).map fun x => y.2 x.1 x.2) 4 done (fun a ha => by rw [List.length_map]; exact nl)
      simp only [List.length_append, List.length_map]
      omega
    · exact ⟨_, _, _, _, rfl, mcons (by rw [app_flat_snoc])⟩
  rintro Δ μ ⟨x3, x4, x5, g, rfl, rfl⟩
  have e1 : (((pairsUp n).map fun x => Say.same x.1 x.2) ++ [((Str.ofString "below"), Say.below), (Str.ofString "most", Say.most)].flatMap fun y => (pairsUn n).map fun x => y.2 x.1 x.2) = ((pairsUp n).map fun x => Say.same x.1 x.2) ++ ((pairsUn n).map fun x => Say.below x.1 x.2) ++ ((pairsUn n).map fun x => Say.most x.1 x.2) := by simp
  rw [e1]
  generalize hB1 : ((pairsUp n).map fun x => Say.same x.1 x.2) ++ ((pairsUn n).map fun x => Say.below x.1 x.2) ++ ((pairsUn n).map fun x => Say.most x.1 x.2) = B1
  have L1 : B1.length ≤ 20 := by subst hB1; simp only [List.length_append, List.length_map]; omega
  refine ws_seq (for_pairs (pairsUp n) rfl (fun R' r => by walk_at "w"; exact r) (fun done Δ μ => ∃ x3 x4 x5 g, Δ = [some (.d (.int n)), some (.l ((pairsUp n).map pD)), some (.x (.ref q)), x3, x4, x5, none, none] ∧ μ = (q, lstD Say.d (B1 ++ done.flatMap fun x => ((rg (-20) 21).filter fun k => !decide (k = 0)).map fun k => Say.gap x.1 x.2 k)) :: g) ⟨_, _, _, g, rfl, by simp⟩ ?_ ?_)
  · rintro done x rest Δ μ e ⟨x3, x4, x5, g, rfl, rfl⟩
    have hdl : done.length ≤ 4 := by have := congrArg List.length e; simp at this; omega
    refine ws_ext rfl rfl (we_lcRg (fd := Say.d) (-20) 21 (fun k => !decide (k = 0)) (fun k => Say.gap x.1 x.2 k) (by omega) (fun RA r => by walk_at "w"; exact r) (fun n _ _ => by walk_at "w"; exact ⟨rfl, rfl⟩) (fun n _ _ => by walk_at "w"; exact ⟨rfl, rfl⟩) fun q2 => ⟨q2, _, rfl, rfl, ?_, ?_⟩)
    · have a1 : ((rg (-20) 21).filter fun k => !decide (k = 0)).length ≤ 41 := Nat.le_trans (List.length_filter_le _ _) (by rw [rg_len]; omega)
      have := flat_len (fun x : Int × Int => ((rg (-20) 21).filter fun k => !decide (k = 0)).map fun k => Say.gap x.1 x.2 k) 41 done (fun a ha => by rw [List.length_map]; exact a1)
      simp only [List.length_append, List.length_map]
      omega
    · exact ⟨_, _, _, _, rfl, mcons (by rw [app_flat_snoc])⟩
  rintro Δ μ ⟨x3, x4, x5, g, rfl, rfl⟩
  generalize hB2 : (B1 ++ (pairsUp n).flatMap fun x => ((rg (-20) 21).filter fun k => !decide (k = 0)).map fun k => Say.gap x.1 x.2 k) = B2
  have L2 : B2.length ≤ 200 := by
    have a1 : ((rg (-20) 21).filter fun k => !decide (k = 0)).length ≤ 41 := Nat.le_trans (List.length_filter_le _ _) (by rw [rg_len]; omega)
    have := flat_len (fun x : Int × Int => ((rg (-20) 21).filter fun k => !decide (k = 0)).map fun k => Say.gap x.1 x.2 k) 41 (pairsUp n) (fun a ha => by rw [List.length_map]; exact a1)
    subst hB2; simp only [List.length_append]; omega
  refine ws_seq (for_pairs (pairsUp n) rfl (fun R' r => by walk_at "w"; exact r) (fun done Δ μ => ∃ x3 x4 x5 g, Δ = [some (.d (.int n)), some (.l ((pairsUp n).map pD)), some (.x (.ref q)), x3, x4, x5, none, none] ∧ μ = (q, lstD Say.d (B2 ++ done.flatMap fun x => (rg (-40) 41).map fun k => Say.sum x.1 x.2 k)) :: g) ⟨_, _, _, g, rfl, by simp⟩ ?_ ?_)
  · rintro done x rest Δ μ e ⟨x3, x4, x5, g, rfl, rfl⟩
    have hdl : done.length ≤ 4 := by have := congrArg List.length e; simp at this; omega
    refine ws_ext rfl rfl (we_lcRg (fd := Say.d) (-40) 41 (fun _ => true) (fun k => Say.sum x.1 x.2 k) (by omega) (fun RA r => by walk_at "w"; exact r) (fun n _ _ => wt_yes ⟨rfl, rfl⟩) (fun n _ _ => by walk_at "w"; exact ⟨rfl, rfl⟩) fun q2 => ⟨q2, _, rfl, rfl, ?_, ?_⟩)
    · have := flat_len (fun x : Int × Int => (rg (-40) 41).map fun k => Say.sum x.1 x.2 k) 81 done (fun a ha => by rw [List.length_map, rg_len]; omega)
      simp only [List.length_append, List.length_map, filter_tt, rg_len]
      omega
    · exact ⟨_, _, _, _, rfl, mcons (by rw [app_flat_snoc, filter_tt])⟩
  rintro Δ μ ⟨x3, x4, x5, g, rfl, rfl⟩
  generalize hB3 : (B2 ++ (pairsUp n).flatMap fun x => (rg (-40) 41).map fun k => Say.sum x.1 x.2 k) = B3
  have L3 : B3.length ≤ 600 := by
    have := flat_len (fun x : Int × Int => (rg (-40) 41).map fun k => Say.sum x.1 x.2 k) 81 (pairsUp n) (fun a ha => by rw [List.length_map, rg_len]; omega)
    subst hB3; simp only [List.length_append]; omega
  have il (y : Str × (Int → Int → Int → Say)) (x : Int × Int) : (((rg 0 n).filter fun k => !decide (k = x.1) && !decide (k = x.2)).map fun k => y.2 x.1 x.2 k).length ≤ 2 := by rw [List.length_map]; exact fl _
  refine ws_seq (ws_for (wi_list (we_lstL ?_)))
  walk_at "w"
  refine ⟨_, _, lk_l, ?_⟩
  refine for_x [((Str.ofString "adds"), Say.adds), (Str.ofString "times", Say.times)] (fun x => .d (.str x.1)) rfl (fun done Δ μ => ∃ x3 x4 x5 g, Δ = [some (.d (.int n)), some (.l ((pairsUp n).map pD)), some (.x (.ref q)), x3, x4, x5, none, none] ∧ μ = (q, lstD Say.d (B3 ++ done.flatMap fun y => (pairsUp n).flatMap fun x => ((rg 0 n).filter fun k => !decide (k = x.1) && !decide (k = x.2)).map fun k => y.2 x.1 x.2 k)) :: g) ⟨_, _, _, g, rfl, by simp⟩ (fun _ _ _ _ => nokeep) ?_ ?_
  · rintro done y rest Δ μ e ⟨x3, x4, x5, g, rfl, rfl⟩
    have hy : ∀ a b k, (y.2 a b k).d = .tuple [.str y.1, .int a, .int b, .int k] := by
      have : y ∈ [((Str.ofString "adds"), Say.adds), (Str.ofString "times", Say.times)] := by rw [e]; simp
      simp only [List.mem_cons, List.not_mem_nil, or_false] at this
      rcases this with rfl | rfl <;> (intro a b k; rfl)
    have hdl : done.length ≤ 2 := by have := congrArg List.length e; simp at this; omega
    refine ⟨_, is12, gt_name (by decide), ?_⟩
    refine for_pairs (pairsUp n) rfl (fun R' r => by walk_at "w"; exact r) (fun dn Δ μ => ∃ x4 x5 g, Δ = [some (.d (.int n)), some (.l ((pairsUp n).map pD)), some (.x (.ref q)), some (.d (.str y.1)), x4, x5, none, none] ∧ μ = (q, lstD Say.d ((B3 ++ done.flatMap fun y => (pairsUp n).flatMap fun x => ((rg 0 n).filter fun k => !decide (k = x.1) && !decide (k = x.2)).map fun k => y.2 x.1 x.2 k) ++ dn.flatMap fun x => ((rg 0 n).filter fun k => !decide (k = x.1) && !decide (k = x.2)).map fun k => y.2 x.1 x.2 k)) :: g) ⟨_, _, g, rfl, by simp⟩ ?_ ?_
    · rintro dn x rest Δ μ e2 ⟨x4, x5, g, rfl, rfl⟩
      have hdn : dn.length ≤ 4 := by have := congrArg List.length e2; simp at this; omega
      refine ws_ext rfl rfl (we_lcRg1 (fd := Say.d) n (fun k => !decide (k = x.1) && !decide (k = x.2)) (fun k => y.2 x.1 x.2 k) (by omega) (fun RA r => by walk_at "w"; exact r) (fun m _ _ => ?_) (fun m _ _ => by walk_at "w"; exact ⟨by rw [hy]; rfl, rfl⟩) fun q2 => ⟨q2, _, rfl, rfl, ?_, ?_⟩)
      · walk_at "w"
        refine ⟨fun z => ?_, fun z => ?_⟩
        · walk_at "w"; exact ⟨rfl, by rw [z]; simp⟩
        · exact ⟨rfl, by rw [z]; simp⟩
      · have a1 := flat_len (fun x : Int × Int => ((rg 0 n).filter fun k => !decide (k = x.1) && !decide (k = x.2)).map fun k => y.2 x.1 x.2 k) 2 dn (fun a ha => il y a)
        have a2 := flat_len (fun y : Str × (Int → Int → Int → Say) => (pairsUp n).flatMap fun x => ((rg 0 n).filter fun k => !decide (k = x.1) && !decide (k = x.2)).map fun k => y.2 x.1 x.2 k) 8 done (fun y hy => by
          have := flat_len (fun x : Int × Int => ((rg 0 n).filter fun k => !decide (k = x.1) && !decide (k = x.2)).map fun k => y.2 x.1 x.2 k) 2 (pairsUp n) (fun a ha => il y a)
          omega)
        have a3 := il y x
        simp only [List.length_append]
        omega
      · exact ⟨_, _, _, rfl, mcons (by rw [app_flat_snoc])⟩
    · rintro Δ μ ⟨x4, x5, g, rfl, rfl⟩
      exact ⟨_, _, _, g, rfl, mcons (by rw [app_flat_snoc])⟩
  rintro Δ μ ⟨x3, x4, x5, g, rfl, rfl⟩
  have e2 : (B3 ++ [((Str.ofString "adds"), Say.adds), (Str.ofString "times", Say.times)].flatMap fun y => (pairsUp n).flatMap fun x => ((rg 0 n).filter fun k => !decide (k = x.1) && !decide (k = x.2)).map fun k => y.2 x.1 x.2 k) = joinedF n := by
    subst hB3 hB2 hB1
    simp [joinedF]
  rw [e2]
  refine ws_retL 0 ?_
  walk_at "w"
  exact ⟨0, q, _, _, rfl, rfl, rfl, h⟩
def pre_sayings : List Sl → M → RE → Prop := fun ss μ R => ∃ p : Prog, WFp p ∧ ss = [.d p.d] ∧ μ = [] ∧ R (.l ((sayF p).map Say.d)) []
theorem plain_len {bs : List Box} (hb : Bx bs) : (plainF bs).length ≤ 100 := by
  have hn := hb.n2
  have bl (f : Nat × Box → Int → Say) (lo hi : Nat × Box → Int) (hl : ∀ x, x ∈ enN 0 bs → hi x - lo x ≤ 10) : ((enN 0 bs).flatMap fun x => (rg (lo x) (hi x)).map (f x)).length ≤ 20 := by
    have a1 := flat_len (fun x => (rg (lo x) (hi x)).map (f x)) 10 (enN 0 bs) (by intro y hy; rw [List.length_map, rg_len]; have := hl y hy; omega)
    rw [enN_len] at a1
    omega
  have hw : ∀ x : Nat × Box, x ∈ enN 0 bs → x.2.wf := fun x hx => hb.wf _ (mem_en_mem hx)
  have b1 := bl (fun x n => .is x.1 n) (fun x => x.2.low) (fun x => x.2.high + 1) (fun x hx => by have := (hw x hx).wd; omega)
  have b2 := bl (fun x n => .frm x.1 n) (fun x => x.2.low + 1) (fun x => x.2.high + 1) (fun x hx => by have := (hw x hx).wd; omega)
  have b3 := bl (fun x n => .to x.1 n) (fun x => x.2.low) (fun x => x.2.high) (fun x hx => by have := (hw x hx).wd; omega)
  simp only [plainF, List.length_append]
  omega
theorem looser_len {bs : List Box} (hb : Bx bs) : (looserF bs).length ≤ 400 := by
  have hn := hb.n2
  have hw : ∀ x : Nat × Box, x ∈ enN 0 bs → x.2.wf := fun x hx => hb.wf _ (mem_en_mem hx)
  have b1 := flat_len (fun a : Int => (rg 2 7).flatMap fun m => (rg 0 m).map fun r => Say.rest a m r) 30 (rg 0 bs.length) (fun a _ => by
    have := flat_len (fun m => (rg 0 m).map fun r => Say.rest a m r) 6 (rg 2 7) (fun m hm => by rw [List.length_map, rg_len]; have := mem_rg.mp hm; omega)
    have e : (rg 2 7).length = 5 := rfl
    omega)
  have b2 := flat_len (fun x : Nat × Box => (rg x.2.low (x.2.high + 1)).flatMap fun n => (rg (n + 1) (x.2.high + 1)).map fun k => Say.either x.1 n k) 64 (enN 0 bs) (fun x hx => by
    have wd := (hw x hx).wd
    have := flat_len (fun n => (rg (n + 1) (x.2.high + 1)).map fun k => Say.either x.1 n k) 8 (rg x.2.low (x.2.high + 1)) (fun n hn => by rw [List.length_map, rg_len]; have := mem_rg.mp hn; omega)
    rw [rg_len] at this
    omega)
  have b3 := flat_len (fun x : Nat × Box => (rg x.2.low (x.2.high + 1)).map fun n => Say.never x.1 n) 8 (enN 0 bs) (fun x hx => by
    have wd := (hw x hx).wd
    rw [List.length_map, rg_len]; omega)
  rw [rg_len] at b1
  rw [enN_len] at b2 b3
  simp only [looserF, List.length_append]
  omega
theorem joined_len {n : Int} (h2 : n ≤ 2) : (joinedF n).length ≤ 1000 := by
  have ul := up_len h2
  have nl := un_len h2
  have fl (P : Int → Bool) : ((rg 0 n).filter P).length ≤ 2 := Nat.le_trans (List.length_filter_le _ _) (by rw [rg_len]; omega)
  have a1 : ((rg (-20) 21).filter fun k => !decide (k = 0)).length ≤ 41 := Nat.le_trans (List.length_filter_le _ _) (by rw [rg_len]; omega)
  have b1 := flat_len (fun x : Int × Int => ((rg (-20) 21).filter fun k => !decide (k = 0)).map fun k => Say.gap x.1 x.2 k) 41 (pairsUp n) (fun a ha => by rw [List.length_map]; exact a1)
  have b2 := flat_len (fun x : Int × Int => (rg (-40) 41).map fun k => Say.sum x.1 x.2 k) 81 (pairsUp n) (fun a ha => by rw [List.length_map, rg_len]; omega)
  have b3 := flat_len (fun x : Int × Int => ((rg 0 n).filter fun k => !decide (k = x.1) && !decide (k = x.2)).map fun k => Say.adds x.1 x.2 k) 2 (pairsUp n) (fun a ha => by rw [List.length_map]; exact fl _)
  have b4 := flat_len (fun x : Int × Int => ((rg 0 n).filter fun k => !decide (k = x.1) && !decide (k = x.2)).map fun k => Say.times x.1 x.2 k) 2 (pairsUp n) (fun a ha => by rw [List.length_map]; exact fl _)
  simp only [joinedF, List.length_append, List.length_map]
  omega
theorem say_len {p : Prog} (W : WFp p) : (sayF p).length ≤ 2000 := by
  have := plain_len W.bxs
  have := looser_len W.bxs
  have := joined_len (n := p.boxes.length) (by have := W.b2; omega)
  simp only [sayF, List.length_append]
  omega
theorem rd_sayings : ∀ ss μ R, pre_sayings ss μ R → WS c (t_sayings c.P c.w c.K (SPM c pre_bounds) (SPM c pre_plain) (SPM c pre_looser) (SPM c pre_joined)) (startD N_sayings ss) μ { nx := fun _ μ' => R (.d .none) μ', rt := R } := by
  rintro ss μ R ⟨p, W, rfl, rfl, h⟩
  unfold t_sayings
  have l1 := plain_len W.bxs
  have l2 := looser_len W.bxs
  have l3 := joined_len (n := p.boxes.length) (by have := W.b2; omega)
  have hb := W.b2
  walk_at "w"
  refine we_call0 ?_
  walk_at "w"
  refine ⟨p, W, rfl, rfl, ?_⟩
  refine ws_retK 0 ?_
  walk_at "w"
  refine we_call0 ?_
  walk_at "w"
  refine ⟨p.boxes, W.bxs, rfl, rfl, ?_⟩
  refine we_call0 ?_
  walk_at "w"
  refine ⟨p.boxes, W.bxs, rfl, rfl, ?_⟩
  refine wo_catL li_l li_l (by simp only [List.length_map]; omega) ?_
  refine we_call0 ?_
  walk_at "w"
  refine wc_lenL lo_l ?_
  walk_at "w"
  refine ⟨p.boxes.length, by omega, by omega, by simp, rfl, ?_⟩
  refine wo_catL li_l li_l (by simp only [List.length_append, List.length_map]; omega) ?_
  simpa [sayF] using h
end Sw
/-! SwMc -/
set_option Elab.async false
set_option linter.all false
set_option maxRecDepth 100000
set_option maxHeartbeats 2000000
namespace Sw
open PySem L2 SwH
local macro_rules | `(tactic| walk_at "w1") => `(tactic| first
  | with_reducible refine ws_seq ?_
  | with_reducible refine ws_asgL ?_
  | with_reducible refine ws_asg ?_
  | with_reducible refine ws_setL ?_
  | with_reducible refine ws_asgT ?_
  | with_reducible refine ws_drop ?_
  | with_reducible refine ws_next ?_
  | with_reducible refine ws_cont ?_
  | with_reducible refine ws_if ?_
  | with_reducible refine ws_for ?_
  | (with_reducible refine we_var rfl ?_)
  | with_reducible refine we_int ?_
  | with_reducible refine we_str ?_
  | with_reducible refine we_bl ?_
  | with_reducible refine we_non ?_
  | with_reducible refine we_eqNil ?_
  | with_reducible refine we_neNil ?_
  | with_reducible refine we_op ?_
  | (with_reducible refine wo_ixT 0 rfl rfl ?_)
  | (with_reducible refine wo_ixT 1 rfl rfl ?_)
  | (with_reducible refine wo_ixT 2 rfl rfl ?_)
  | (with_reducible refine wo_ixT 3 rfl rfl ?_)
  | (with_reducible refine wo_ixT 4 rfl rfl ?_)
  | with_reducible refine wo_add ?_
  | with_reducible refine wo_sub ?_
  | with_reducible refine wo_lt ?_
  | with_reducible refine wo_le ?_
  | with_reducible refine wo_gt ?_
  | with_reducible refine wo_ge ?_
  | with_reducible refine wo_eqI ?_
  | with_reducible refine wo_neI ?_
  | with_reducible refine wo_eqS ?_
  | with_reducible refine wo_neS ?_
  | with_reducible refine wt_test ?_
  | with_reducible refine wt_B ?_
  | with_reducible refine wt_not ?_
  | with_reducible refine wt_and ?_
  | with_reducible refine wt_or ?_
  | with_reducible refine wt_yes ?_
  | with_reducible refine we_andV ?_
  | with_reducible refine we_orV ?_
  | with_reducible refine we_notV ?_
  | with_reducible refine wa_nil ?_
  | with_reducible refine wa_cons ?_
  | with_reducible refine we_bm ?_
  | with_reducible refine we_bm0 ?_
  | with_reducible refine we_tup ?_
  | with_reducible refine we_cb ?_
  | (with_reducible refine ⟨_, rfl, ?_⟩)
  | (refine ⟨by simp, _, rfl, ?_⟩)
  | (refine ⟨ListOf.ty (lo_m 0 rfl), ?_⟩)
  | (refine ⟨ListOf.ty (lo_m 1 rfl), ?_⟩)
  | (refine ⟨ListOf.ty (lo_m 2 rfl), ?_⟩)
  | (refine ⟨ListOf.ty (lo_m 3 rfl), ?_⟩)
  | (refine cs_t (by decide) ?_)
  | (refine cs_f (by decide) ?_))
local macro_rules | `(tactic| walk_at "w") => `(tactic| repeat walk_at "w1")


local macro_rules | `(tactic| walk_at "gs") => `(tactic| first
  | exact gts_nil
  | (refine gts_cons (gt_name (by decide)) ?_; walk_at "gs")
  | (refine gts_cons (gt_tup (by walk_at "gs") rfl) ?_; walk_at "gs"))
local macro_rules | `(tactic| walk_at "g") => `(tactic| first
  | exact gt_name (by decide)
  | exact gt_tup (by walk_at "gs") rfl
  | exact gt_pl (by walk_at "gs"))

variable {c : Ct}
/-! ### the machine -/
def NmD (p : Prog) (v : List Int) (kvs : List (Str × Sl)) : Prop := ∀ x, x ∈ p.names → getS kvs x = some (.d (.int (Ex.val p.boxes v (.box x))))
theorem box_ix {bs : List Box} {v : List Int} {x : Str} (h : VW bs v) (hx : x ∈ bs.map Box.name) : ∃ b y, bs[bs.findIdx fun b => decide (b.name = x)]? = some b ∧ b.name = x ∧ v[bs.findIdx fun b => decide (b.name = x)]? = some y ∧ Ex.val bs v (.box x) = y ∧ b.low ≤ y ∧ y ≤ b.high := by
  obtain ⟨b0, h1, h2⟩ := List.mem_map.mp hx
  have hl : bs.findIdx (fun b => decide (b.name = x)) < bs.length := List.findIdx_lt_length_of_exists ⟨b0, h1, by simpa using h2⟩
  have hp := List.findIdx_getElem (w := hl)
  obtain ⟨y, h3, h4, h5⟩ := h.get (List.getElem?_eq_getElem hl)
  exact ⟨_, y, List.getElem?_eq_getElem hl, by simpa using hp, h3, by simp [Ex.val, h3], h4, h5⟩
theorem val_bd {p : Prog} (W : WFp p) {v : List Int} {x : Str} (h : VW p.boxes v) (hx : x ∈ p.names) : -1000 ≤ Ex.val p.boxes v (.box x) ∧ Ex.val p.boxes v (.box x) ≤ 1000 := by
  obtain ⟨b, y, h1, h2, h3, h4, h5, h6⟩ := box_ix h hx
  rw [h4]
  have wb := W.bx b (List.mem_of_getElem? h1)
  have := wb.lo
  have := wb.hi
  omega
def pre_worth (k : Nat) : List Sl → M → RE → Prop := fun ss μ R => ∃ p v kvs q e, WFp p ∧ VW p.boxes v ∧ NmD p v kvs ∧ Ex.wf p.names e ∧ e.dep < k ∧ ss = [.d e.d, .x (.ref q)] ∧ μ = [(q, .dk kvs)] ∧ R (.d (.int (e.val p.boxes v))) [(q, .dk kvs)]
theorem rd_worth (k : Nat) : ∀ ss μ R, pre_worth (k + 1) ss μ R → WS c (t_worth c.P c.w c.K (SPM c (pre_worth k))) (startD N_worth ss) μ { nx := fun _ μ' => R (.d .none) μ', rt := R } := by
  rintro ss μ R ⟨p, v, kvs, q, e, W, hv, hn, he, hd, rfl, rfl, h⟩
  unfold t_worth
  cases e with
  | num n => dsimp only [Ex.d]; walk_at "w"; exact ws_ret (by walk_at "w"; exact h)
  | box x =>
    dsimp only [Ex.d]
    walk_at "w"
    refine ws_ret (we_dget ?_)
    walk_at "w"
    exact ⟨kvs, x, _, dk_m 0 rfl, rfl, hn x he, h⟩
  | add a b =>
    simp only [Ex.dep] at hd
    dsimp only [Ex.d]
    walk_at "w"
    refine we_callI [0] ?_
    walk_at "w"
    refine ⟨p, v, kvs, q, a, W, hv, hn, he.1, by omega, rfl, rfl, ?_⟩
    walk_at "w"
    refine we_callI [0] ?_
    walk_at "w"
    refine ⟨p, v, kvs, q, b, W, hv, hn, he.2, by omega, rfl, rfl, ?_⟩
    walk_at "w"
    exact ws_ret (by walk_at "w"; exact h)
  | sub a b =>
    simp only [Ex.dep] at hd
    dsimp only [Ex.d]
    walk_at "w"
    refine we_callI [0] ?_
    walk_at "w"
    refine ⟨p, v, kvs, q, a, W, hv, hn, he.1, by omega, rfl, rfl, ?_⟩
    walk_at "w"
    refine we_callI [0] ?_
    walk_at "w"
    refine ⟨p, v, kvs, q, b, W, hv, hn, he.2, by omega, rfl, rfl, ?_⟩
    walk_at "w"
    exact ws_ret (by walk_at "w"; exact h)
  | mul a b =>
    simp only [Ex.dep] at hd
    dsimp only [Ex.d]
    obtain ⟨⟨x, rfl, hx⟩, y, rfl, hy⟩ := he
    dsimp only [Ex.d]
    walk_at "w"
    refine we_callI [0] ?_
    walk_at "w"
    refine ⟨p, v, kvs, q, .box x, W, hv, hn, hx, by omega, rfl, rfl, ?_⟩
    walk_at "w"
    refine we_callI [0] ?_
    walk_at "w"
    refine ⟨p, v, kvs, q, .box y, W, hv, hn, hy, by omega, rfl, rfl, ?_⟩
    walk_at "w"
    refine ws_ret ?_
    walk_at "w"
    refine wo_mul ?_ h
    left
    have := val_bd W hv hx
    omega
def pre_bynames : List Sl → M → RE → Prop := fun ss μ R => ∃ p v, WFp p ∧ VW p.boxes v ∧ ss = [.d p.d, .d (vD v)] ∧ μ = [] ∧ ∀ q kvs, NmD p v kvs → R (.x (.ref q)) [(q, .dk kvs)]
theorem zipD_zip {α β : Type} (f : α → D) (g : β → D) : ∀ (xs : List α) (ys : List β), zipD (xs.map f) (ys.map g) = (xs.zip ys).map fun x => .tuple [f x.1, g x.2]
  | [], ys => by simp [zipD]
  | x :: xs, [] => by simp [zipD]
  | x :: xs, y :: ys => by simp [zipD, zipD_zip f g xs ys]
theorem putS_len {κ σ : Type} [DecidableEq κ] {kvs : List (κ × σ)} {k : κ} {v : σ} : (putS kvs k v).length ≤ kvs.length + 1 := by
  unfold putS; split <;> simp
theorem rd_by_names : ∀ ss μ R, pre_bynames ss μ R → WS c (t_by_names c.P c.w c.K) (startD N_by_names ss) μ { nx := fun _ μ' => R (.d .none) μ', rt := R } := by
  rintro ss μ R ⟨p, v, W, hv, rfl, rfl, h⟩
  unfold t_by_names
  have hl := hv.len
  walk_at "w"
  refine we_dnew (fun q => ?_)
  refine ws_seq (ws_for (wi_zipM ?_))
  walk_at "w"
  refine ⟨_, _, _, rfl, .inl rfl, by simp [hl], ?_⟩
  have nd : ((p.boxes.zip v).map fun y => y.1.name).Nodup := by
    have e : ((p.boxes.zip v).map fun y => y.1.name) = ((p.boxes.zip v).map Prod.fst).map Box.name := by simp
    rw [e, List.map_fst_zip (by omega)]
    exact W.nd
  refine for_x (p.boxes.zip v) (fun x => .d (.tuple [x.1.d, .int x.2])) (by rw [zipD_zip]; simp) (fun done Δ μ => ∃ x3 x4 kvs, Δ = [some (.d p.d), some (.d (vD v)), some (.x (.ref q)), x3, x4] ∧ μ = [(q, .dk kvs)] ∧ kvs.length ≤ done.length ∧ ∀ y, y ∈ done → getS kvs y.1.name = some (.d (.int y.2))) ⟨_, _, [], rfl, rfl, by simp, by simp⟩ (fun _ _ _ _ => nokeep) ?_ ?_
  · rintro done x rest Δ μ e ⟨x3, x4, kvs, rfl, rfl, hkl, hg⟩
    have hdl : done.length ≤ 2 := by have := congrArg List.length e; have := W.b2; simp at *; omega
    refine ⟨_, is12, gt_tup (gts_cons (gt_name (by decide)) (gts_cons (gt_name (by decide)) gts_nil)) rfl, ?_⟩
    refine ws_dput ?_
    walk_at "w"
    refine ⟨0, q, kvs, _, rfl, rfl, rfl, by omega, _, _, _, rfl, rfl, by have := putS_len (kvs := kvs) (k := x.1.name) (v := Sl.d (.int x.2)); simp; omega, fun y hy => ?_⟩
    rw [getS_put]
    rcases List.mem_append.mp hy with hy | hy
    · rw [if_neg, hg y hy]
      intro z
      rw [e] at nd
      simp only [List.map_append, List.map_cons] at nd
      have := (List.nodup_append.mp nd).2.2 _ (List.mem_map.mpr ⟨y, hy, rfl⟩) x.1.name (by simp)
      exact this z.symm
    · simp only [List.mem_singleton] at hy
      subst hy
      rw [if_pos rfl]
  · rintro Δ μ ⟨x3, x4, kvs, rfl, rfl, hkl, hg⟩
    refine ws_ret ?_
    walk_at "w"
    refine h q kvs fun x hx => ?_
    obtain ⟨b, y, h1, h2, h3, h4, _⟩ := box_ix hv hx
    have := hg (b, y) (List.mem_iff_getElem?.mpr ⟨_, by rw [List.getElem?_zip_eq_some]; exact ⟨h1, h3⟩⟩)
    rw [h2] at this
    rw [h4]
    exact this
def pre_withn : List Sl → M → RE → Prop := fun ss μ R => ∃ (v : List Int) (a : Nat) (n : Int), a < v.length ∧ ss = [.d (vD v), .d (.int a), .d (.int n)] ∧ μ = [] ∧ R (.d (vD (v.set a n))) []
theorem rd_with_number : ∀ ss μ R, pre_withn ss μ R → WS c (t_with_number c.P c.w c.K) (startD N_with_number ss) μ { nx := fun _ μ' => R (.d .none) μ', rt := R } := by
  rintro ss μ R ⟨v, a, n, ha, rfl, rfl, h⟩
  unfold t_with_number
  walk_at "w"
  refine wc_listM so_t (fun q => ?_)
  walk_at "w"
  refine ⟨0, q, _, a, rfl, rfl, rfl, by simpa using ha, ?_⟩
  refine ws_retK 0 ?_
  walk_at "w"
  refine wc_tupL (ds := (v.set a n).map .int) (lo_m 0 ?_) h
  show some (q, MO.lst (((v.map PyData.int).map Sl.d).set a (.d (.int n)))) = _
  simp [List.map_set]
def pre_taken : List Sl → M → RE → Prop := fun ss μ R => ∃ p s a n, WFp p ∧ SW p s ∧ a < p.boxes.length ∧ ss = [.d p.d, .d (stD s), .d (.int (a : Nat)), .d (.int n)] ∧ μ = [] ∧ R (.d (oD (takeF p a n s))) []
theorem rd_taken_in : ∀ ss μ R, pre_taken ss μ R → WS c (t_taken_in c.P c.w c.K (SPM c pre_withn)) (startD N_taken_in ss) μ { nx := fun _ μ' => R (.d .none) μ', rt := R } := by
  rintro ss μ R ⟨p, s, a, n, W, hs, ha, rfl, rfl, h⟩
  unfold t_taken_in
  have hl := hs.2.len
  walk_at "w"
  refine wo_ixL a rfl lo_d (t := .d (p.boxes[a].d)) (by simp [ha]) ?_
  have hb : p.boxes[a]? = some p.boxes[a] := List.getElem?_eq_getElem ha
  generalize p.boxes[a] = b at hb ⊢
  walk_at "w"
  refine ⟨fun z => ?_, fun z => ?_⟩
  · walk_at "w"
    refine ws_ret (we_non ?_)
    have : takeF p a n s = none := by unfold takeF; rw [hb]; simp at z; simp [z]
    rw [this] at h; exact h
  · walk_at "w"
    refine ⟨fun z2 => ?_, fun z2 => ?_⟩
    · refine ws_ret (we_non ?_)
      have : takeF p a n s = none := by unfold takeF; rw [hb]; simp at z2; simp [z2]
      rw [this] at h; exact h
    · refine ws_next ?_
      refine ws_ret ?_
      walk_at "w"
      refine we_call0 ?_
      walk_at "w"
      refine ⟨s.2, a, n, by omega, rfl, rfl, ?_⟩
      walk_at "w"
      have : takeF p a n s = some (s.1 + 1, s.2.set a n) := by
        unfold takeF; rw [hb]; simp at z z2; simp; omega
      rw [this] at h
      exact h
def pre_holds : List Sl → M → RE → Prop := fun ss μ R => ∃ lt x y, ss = [.d (.str (sgS lt)), .d (.int x), .d (.int y)] ∧ μ = [] ∧ R (.d (.bool (tells lt x y))) []
theorem rd_holds : ∀ ss μ R, pre_holds ss μ R → WS c (t_holds c.P c.w c.K) (startD N_holds ss) μ { nx := fun _ μ' => R (.d .none) μ', rt := R } := by
  rintro ss μ R ⟨lt, x, y, rfl, rfl, h⟩
  unfold t_holds
  cases lt with
  | true => walk_at "w"; exact ws_ret (by walk_at "w"; exact h)
  | false => walk_at "w"; exact ws_ret (by walk_at "w"; exact h)
def pre_step : List Sl → M → RE → Prop := fun ss μ R => ∃ p s r n nd, WFp p ∧ SW p s ∧ p.rows[s.1]? = some r ∧ r ≠ .stop ∧ (∀ a, r = .ask a → nd = .int n) ∧ ss = [.d p.d, .d (stD s), .d nd] ∧ μ = [] ∧ R (.d (oD (nxt p s n))) []
theorem rd_step : ∀ ss μ R, pre_step ss μ R → WS c (t_step c.P c.w c.K (SPM c (pre_worth 4)) (SPM c pre_bynames) (SPM c pre_taken) (SPM c pre_holds)) (startD N_step ss) μ { nx := fun _ μ' => R (.d .none) μ', rt := R } := by
  rintro ss μ R ⟨p, s, r, n, nd, W, hs, hr, hstop, hn, rfl, rfl, h⟩
  unfold t_step
  have hrl := (List.getElem?_eq_some_iff.mp hr).1
  have wr := W.rw r (List.mem_of_getElem? hr)
  walk_at "w"
  refine ⟨_, is12, gt_tup (gts_cons (gt_name (by decide)) (gts_cons (gt_name (by decide)) gts_nil)) rfl, ?_⟩
  walk_at "w"
  refine wo_ixL s.1 rfl lo_d (t := .d r.d) (by simp [hr]) ?_
  cases r with
  | ask a =>
    dsimp only [Row.d, Row.kind, Row.args]
    have hn' := hn a rfl
    subst hn'
    walk_at "w"
    refine ws_ret (we_call0 ?_)
    walk_at "w"
    refine ⟨p, s, a, n, W, hs, wr, rfl, rfl, ?_⟩
    have : nxt p s n = takeF p a n s := by unfold nxt; rw [hr]
    rw [this] at h; exact h
  | put a e =>
    dsimp only [Row.d, Row.kind, Row.args]
    walk_at "w"
    refine ws_retK 0 (we_call0 ?_)
    walk_at "w"
    refine we_callI [0] ?_
    walk_at "w"
    refine we_call0 ?_
    walk_at "w"
    refine ⟨p, s.2, W, hs.2, rfl, rfl, fun q kvs hk => ?_⟩
    walk_at "w"
    refine ⟨p, s.2, kvs, q, e, W, hs.2, hk, wr.2.1, by have := wr.2.2; omega, rfl, rfl, ?_⟩
    walk_at "w"
    refine ⟨p, s, a, _, W, hs, wr.1, rfl, rfl, ?_⟩
    have : nxt p s n = takeF p a (e.val p.boxes s.2) s := by unfold nxt; rw [hr]
    rw [this] at h; exact h
  | go t =>
    dsimp only [Row.d, Row.kind, Row.args]
    walk_at "w"
    refine ws_ret ?_
    walk_at "w"
    have : nxt p s n = some (t, s.2) := by unfold nxt; rw [hr]
    rw [this] at h; exact h
  | iff lt e f t =>
    dsimp only [Row.d, Row.kind, Row.args]
    walk_at "w"
    refine we_call0 ?_
    walk_at "w"
    refine ⟨p, s.2, W, hs.2, rfl, rfl, fun q kvs hk => ?_⟩
    walk_at "w"
    refine we_call0 ?_
    walk_at "w"
    refine we_callI [0] ?_
    walk_at "w"
    refine ⟨p, s.2, kvs, q, e, W, hs.2, hk, wr.1.1, by have := wr.1.2; omega, rfl, rfl, ?_⟩
    walk_at "w"
    refine we_callI [0] ?_
    walk_at "w"
    refine ⟨p, s.2, kvs, q, f, W, hs.2, hk, wr.2.1.1, by have := wr.2.1.2; omega, rfl, rfl, ?_⟩
    walk_at "w"
    refine ⟨lt, _, _, rfl, rfl, ?_⟩
    walk_at "w"
    refine ⟨fun z => ?_, fun z => ?_⟩
    · refine ws_retK 0 ?_
      walk_at "w"
      have : nxt p s n = some (t, s.2) := by unfold nxt; rw [hr]; simp [z]
      rw [this] at h; exact h
    · walk_at "w"
      refine ws_retK 0 ?_
      walk_at "w"
      have : nxt p s n = some (s.1 + 1, s.2) := by unfold nxt; rw [hr]; simp [z]
      rw [this] at h; exact h
  | stop => exact absurd rfl hstop
  | mark m =>
    dsimp only [Row.d, Row.kind, Row.args]
    walk_at "w"
    refine ws_ret ?_
    walk_at "w"
    have : nxt p s n = some (s.1 + 1, s.2) := by unfold nxt; rw [hr]
    rw [this] at h; exact h
def kindF (p : Prog) (e : Str) (a : Nat) : Str := match p.rows[a]? with
  | none => e
  | some r => r.kind
def pre_word : List Sl → M → RE → Prop := fun ss μ R => ∃ p a, ss = [.d (Prog.d p), .d (.int (a : Nat))] ∧ μ = [] ∧ R (.d (.str (kindF p "stop" a))) []
theorem rd_word_at : ∀ ss μ R, pre_word ss μ R → WS c (t_word_at c.P c.w c.K) (startD N_word_at ss) μ { nx := fun _ μ' => R (.d .none) μ', rt := R } := by
  rintro ss μ R ⟨p, a, rfl, rfl, h⟩
  unfold t_word_at
  walk_at "w"
  refine wc_lenL lo_d ?_
  walk_at "w"
  refine ⟨fun z => ?_, fun z => ?_⟩
  · have hl : a < p.rows.length := by simpa using z
    refine ws_ret ?_
    walk_at "w"
    refine wo_ixL a rfl lo_d (t := .d p.rows[a].d) (by simp [hl]) ?_
    walk_at "w"
    have : kindF p "stop" a = p.rows[a].kind := by simp [kindF, hl]
    rw [this] at h; exact h
  · have hl : ¬ a < p.rows.length := by simpa using z
    walk_at "w"
    refine ws_ret (we_str ?_)
    have : kindF p "stop" a = "stop" := by unfold kindF; rw [List.getElem?_eq_none (by omega)]
    rw [this] at h; exact h
def pre_kind : List Sl → M → RE → Prop := fun ss μ R => ∃ p s, SW p s ∧ ss = [.d (Prog.d p), .d (stD s)] ∧ μ = [] ∧ R (.d (.str (kindF p "end" s.1))) []
theorem rd_kind_at : ∀ ss μ R, pre_kind ss μ R → WS c (t_kind_at c.P c.w c.K) (startD N_kind_at ss) μ { nx := fun _ μ' => R (.d .none) μ', rt := R } := by
  rintro ss μ R ⟨p, s, hs, rfl, rfl, h⟩
  unfold t_kind_at
  have hs1 := hs.1
  walk_at "w"
  refine wc_lenL lo_d ?_
  walk_at "w"
  refine ⟨fun z => ?_, fun z => ?_⟩
  · have hl : s.1 = p.rows.length := by simp at z; omega
    refine ws_ret (we_str ?_)
    have : kindF p "end" s.1 = "end" := by unfold kindF; rw [List.getElem?_eq_none (by omega)]
    rw [this] at h; exact h
  · have hl : s.1 < p.rows.length := by simp at z; omega
    walk_at "w"
    refine ws_ret ?_
    walk_at "w"
    refine wo_ixL s.1 rfl lo_d (t := .d p.rows[s.1].d) (by simp [hl]) ?_
    walk_at "w"
    have : kindF p "end" s.1 = p.rows[s.1].kind := by simp [kindF, hl]
    rw [this] at h; exact h
end Sw
/-! SwRunM -/
set_option Elab.async false
set_option linter.all false
set_option maxRecDepth 100000
set_option maxHeartbeats 2000000
namespace Sw
open PySem L2
/-! ### what a run has seen so far -/
def PassL (p : Prog) (ns : List Int) (L : List MV) : Prop := ∀ x, x ∈ L ↔ Passed p ns x
structure RunI (p : Prog) (ns left : List Int) (L : List MV) (ks : List NK) (s : Stt) : Prop where
  ex : ∃ V : Stt → List Int → Prop, (∀ s r, V s r → Rc p ns s r) ∧ (V (first p) ns ∨ (s = first p ∧ left = ns)) ∧
    (∀ x r x' r', V x r → cstep p x r = some (x', r') → V x' r' ∨ (x' = s ∧ r' = left)) ∧ (∀ y, y ∈ L ↔ ∃ x r, V x r ∧ MarkAt p x y) ∧ (∀ x, stK x ∈ ks ↔ V x left) ∧ ∀ x r, V x r → left.length ≤ r.length
  rc : Rc p ns s left
  ks : StKeys p ks
theorem cstep_len {p : Prog} {x x' : Stt} {r r' : List Int} (e : cstep p x r = some (x', r')) : r'.length ≤ r.length := by
  unfold cstep at e
  split at e
  · cases r with
    | nil => cases e
    | cons n r =>
      simp only [Option.map_eq_some_iff] at e
      obtain ⟨_, _, e2⟩ := e
      cases e2; simp
  · simp only [Option.map_eq_some_iff] at e
    obtain ⟨_, _, e2⟩ := e
    cases e2; simp
theorem runI_start {p : Prog} {ns : List Int} : RunI p ns ns [] [] (first p) :=
  ⟨⟨fun _ _ => False, fun _ _ h => h.elim, .inr ⟨rfl, rfl⟩, fun _ _ _ _ h => h.elim, fun y => by simp, fun x => by simp, fun _ _ h => h.elim⟩, .start, .nil⟩
section
variable {p : Prog} {ns left : List Int} {L : List MV} {ks : List NK} {s : Stt}
/-- it ends here -/
theorem RunI.done (h : RunI p ns left L ks s) (e : cstep p s left = none) (hm : ∀ y, ¬ MarkAt p s y) : PassL p ns L := by
  obtain ⟨V, h1, h2, h3, h4, h5, h6⟩ := h.ex
  have cl : ∀ x r, Rc p ns x r → V x r ∨ (x = s ∧ r = left) := Rc.closed (S := fun x r => V x r ∨ (x = s ∧ r = left)) (h2.imp id fun z => ⟨z.1.symm, z.2.symm⟩) (by
    rintro x r x' r' (q | ⟨rfl, rfl⟩) e'
    · exact h3 x r x' r' q e'
    · rw [e] at e'; cases e')
  intro y
  rw [h4]
  constructor
  · rintro ⟨x, r, v, m⟩; exact ⟨x, r, h1 _ _ v, m⟩
  · rintro ⟨x, r, c, m⟩
    rcases cl x r c with q | ⟨rfl, rfl⟩
    · exact ⟨x, r, q, m⟩
    · exact absurd m (hm y)
/-- it has been here -/
theorem RunI.round (h : RunI p ns left L ks s) (e : stK s ∈ ks) : PassL p ns L := by
  obtain ⟨V, h1, h2, h3, h4, h5, h6⟩ := h.ex
  have hv := (h5 s).mp e
  have cl : ∀ x r, Rc p ns x r → V x r := Rc.closed (S := V) (h2.elim id fun z => z.1 ▸ z.2 ▸ hv) (by
    intro x r x' r' q e'
    rcases h3 x r x' r' q e' with q | ⟨rfl, rfl⟩
    · exact q
    · exact hv)
  intro y
  rw [h4]
  constructor
  · rintro ⟨x, r, v, m⟩; exact ⟨x, r, h1 _ _ v, m⟩
  · rintro ⟨x, r, c, m⟩; exact ⟨x, r, cl x r c, m⟩
/-- one step on, the same left -/
theorem RunI.go (W : WFp p) (h : RunI p ns left L ks s) (n : stK s ∉ ks) {s' : Stt} {L' : List MV} (e : cstep p s left = some (s', left)) (hL : ∀ y, y ∈ L' ↔ y ∈ L ∨ MarkAt p s y) : RunI p ns left L' (ks ++ [stK s]) s' := by
  obtain ⟨V, h1, h2, h3, h4, h5, h6⟩ := h.ex
  refine ⟨⟨fun x r => V x r ∨ (x = s ∧ r = left), ?_, .inl ?_, ?_, ?_, ?_, ?_⟩, .step h.rc e, h.ks.snoc (h.rc.sw W) n⟩
  · rintro x r (q | ⟨rfl, rfl⟩)
    · exact h1 _ _ q
    · exact h.rc
  · rcases h2 with h2 | ⟨a, b⟩
    · exact .inl h2
    · exact .inr ⟨a.symm, b.symm⟩
  · rintro x r x' r' (q | ⟨rfl, rfl⟩) e'
    · exact .inl (h3 x r x' r' q e')
    · rw [e] at e'; cases e'; exact .inr ⟨rfl, rfl⟩
  · intro y
    rw [hL, h4]
    constructor
    · rintro (⟨x, r, v, m⟩ | m)
      · exact ⟨x, r, .inl v, m⟩
      · exact ⟨s, left, .inr ⟨rfl, rfl⟩, m⟩
    · rintro ⟨x, r, v | ⟨rfl, rfl⟩, m⟩
      · exact .inl ⟨x, r, v, m⟩
      · exact .inr m
  · intro x
    rw [List.mem_append, h5]
    simp only [List.mem_singleton]
    constructor
    · rintro (q | q)
      · exact .inl q
      · exact .inr ⟨stK_inj q, trivial⟩
    · rintro (q | ⟨rfl, _⟩)
      · exact .inl q
      · exact .inr rfl
  · rintro x r (q | ⟨rfl, rfl⟩)
    · exact h6 _ _ q
    · exact Nat.le_refl _
/-- a number is taken -/
theorem RunI.ask (h : RunI p ns left L ks s) {s' : Stt} {n : Int} {left' : List Int} (hl : left = n :: left') (e : cstep p s left = some (s', left')) (hm : ∀ y, ¬ MarkAt p s y) : RunI p ns left' L [] s' := by
  obtain ⟨V, h1, h2, h3, h4, h5, h6⟩ := h.ex
  refine ⟨⟨fun x r => V x r ∨ (x = s ∧ r = left), ?_, .inl ?_, ?_, ?_, ?_, ?_⟩, .step h.rc e, .nil⟩
  · rintro x r (q | ⟨rfl, rfl⟩)
    · exact h1 _ _ q
    · exact h.rc
  · rcases h2 with h2 | ⟨a, b⟩
    · exact .inl h2
    · exact .inr ⟨a.symm, b.symm⟩
  · rintro x r x' r' (q | ⟨rfl, rfl⟩) e'
    · exact .inl (h3 x r x' r' q e')
    · rw [e] at e'; cases e'; exact .inr ⟨rfl, rfl⟩
  · intro y
    rw [h4]
    constructor
    · rintro ⟨x, r, v, m⟩; exact ⟨x, r, .inl v, m⟩
    · rintro ⟨x, r, v | ⟨rfl, rfl⟩, m⟩
      · exact ⟨x, r, v, m⟩
      · exact absurd m (hm y)
  · intro x
    simp only [List.not_mem_nil, false_iff, not_or, not_and]
    refine ⟨fun v => ?_, fun _ z => ?_⟩
    · have := h6 x _ v; rw [hl] at this; simp at this; omega
    · rw [hl] at z; have := congrArg List.length z; simp at this
  · rintro x r (q | ⟨rfl, rfl⟩)
    · have := h6 _ _ q; rw [hl] at this; simp at this; omega
    · rw [hl]; simp
end
end Sw
/-! SwRun -/
set_option Elab.async false
set_option linter.all false
set_option maxRecDepth 100000
set_option maxHeartbeats 2000000
namespace Sw
open PySem L2 SwH
local macro_rules | `(tactic| walk_at "w1") => `(tactic| first
  | with_reducible refine ws_seq ?_
  | with_reducible refine ws_asgL ?_
  | with_reducible refine ws_asg ?_
  | with_reducible refine ws_setL ?_
  | with_reducible refine ws_asgT ?_
  | with_reducible refine ws_drop ?_
  | with_reducible refine ws_next ?_
  | with_reducible refine ws_cont ?_
  | with_reducible refine ws_if ?_
  | with_reducible refine ws_for ?_
  | (with_reducible refine we_var rfl ?_)
  | with_reducible refine we_int ?_
  | with_reducible refine we_str ?_
  | with_reducible refine we_bl ?_
  | with_reducible refine we_non ?_
  | with_reducible refine we_eqNil ?_
  | with_reducible refine we_neNil ?_
  | with_reducible refine we_op ?_
  | (with_reducible refine wo_ixT 0 rfl rfl ?_)
  | (with_reducible refine wo_ixT 1 rfl rfl ?_)
  | (with_reducible refine wo_ixT 2 rfl rfl ?_)
  | (with_reducible refine wo_ixT 3 rfl rfl ?_)
  | (with_reducible refine wo_ixT 4 rfl rfl ?_)
  | with_reducible refine wo_add ?_
  | with_reducible refine wo_sub ?_
  | with_reducible refine wo_lt ?_
  | with_reducible refine wo_le ?_
  | with_reducible refine wo_gt ?_
  | with_reducible refine wo_ge ?_
  | with_reducible refine wo_eqI ?_
  | with_reducible refine wo_neI ?_
  | with_reducible refine wo_eqS ?_
  | with_reducible refine wo_neS ?_
  | with_reducible refine wt_test ?_
  | with_reducible refine wt_B ?_
  | with_reducible refine wt_not ?_
  | with_reducible refine wt_and ?_
  | with_reducible refine wt_or ?_
  | with_reducible refine wt_yes ?_
  | with_reducible refine we_andV ?_
  | with_reducible refine we_orV ?_
  | with_reducible refine we_notV ?_
  | with_reducible refine wa_nil ?_
  | with_reducible refine wa_cons ?_
  | with_reducible refine we_bm ?_
  | with_reducible refine we_bm0 ?_
  | with_reducible refine we_tup ?_
  | with_reducible refine we_cb ?_
  | (with_reducible refine ⟨_, rfl, ?_⟩)
  | (refine ⟨by simp, _, rfl, ?_⟩)
  | (refine ⟨ListOf.ty (lo_m 0 rfl), ?_⟩)
  | (refine ⟨ListOf.ty (lo_m 1 rfl), ?_⟩)
  | (refine ⟨ListOf.ty (lo_m 2 rfl), ?_⟩)
  | (refine ⟨ListOf.ty (lo_m 3 rfl), ?_⟩)
  | (refine cs_t (by decide) ?_)
  | (refine cs_f (by decide) ?_))
local macro_rules | `(tactic| walk_at "w") => `(tactic| repeat walk_at "w1")


local macro_rules | `(tactic| walk_at "gs") => `(tactic| first
  | exact gts_nil
  | (refine gts_cons (gt_name (by decide)) ?_; walk_at "gs")
  | (refine gts_cons (gt_tup (by walk_at "gs") rfl) ?_; walk_at "gs"))
local macro_rules | `(tactic| walk_at "g") => `(tactic| first
  | exact gt_name (by decide)
  | exact gt_tup (by walk_at "gs") rfl
  | exact gt_pl (by walk_at "gs"))

variable {c : Ct}
theorem so_or {s : Sl} {μ : M} {ds : List D} (h : s = .d (.list ds) ∨ s = .l ds) : SeqOf s μ (ds.map .d) := .inl (h.elim (fun e => .inl ⟨ds, e, rfl⟩) fun e => .inr (.inl ⟨ds, e, rfl⟩))
theorem lo_or {s : Sl} {μ : M} {ds : List D} (h : s = .d (.list ds) ∨ s = .l ds) : ListOf s μ (ds.map .d) := h.elim (fun e => .inl ⟨ds, e, rfl⟩) fun e => .inr (.inl ⟨ds, e, rfl⟩)
theorem lk_or {s : Sl} {μ : M} {ds : List D} (h : s = .d (.list ds) ∨ s = .l ds) : ListK s μ (ds.map .d) [] := .inl ⟨ds, h, rfl, rfl⟩
def pre_first : List Sl → M → RE → Prop := fun ss μ R => ∃ p, WFp p ∧ ss = [.d (Prog.d p)] ∧ μ = [] ∧ R (.d (stD (first p))) []
theorem rd_first_standing_machine : ∀ ss μ R, pre_first ss μ R → WS c (t_first_standing_machine c.P c.w c.K) (startD N_first_standing_machine ss) μ { nx := fun _ μ' => R (.d .none) μ', rt := R } := by
  rintro ss μ R ⟨p, W, rfl, rfl, h⟩
  unfold t_first_standing_machine
  have := W.b2
  refine ws_retK 0 ?_
  walk_at "w"
  refine we_lc (wi_list ?_)
  walk_at "w"
  refine ⟨_, _, lk_d, ?_⟩
  refine lc_map p.boxes (fun b => .d b.d) (by simp) (fun b => .int b.first) (by omega) nokeep ?_ ?_
  · intro b hb
    refine ⟨_, gt_name (by decide), ?_⟩
    walk_at "w"
    exact ⟨rfl, rfl⟩
  · intro q
    walk_at "w"
    refine wc_tupL (lo_m 0 rfl) ?_
    walk_at "w"
    have e : (p.boxes.map fun b => PyData.int b.first) = (p.boxes.map Box.first).map PyData.int := by simp
    rw [e]
    exact h
theorem rd_first_standing_ways : ∀ ss μ R, pre_first ss μ R → WS c (t_first_standing_ways c.P c.w c.K) (startD N_first_standing_ways ss) μ { nx := fun _ μ' => R (.d .none) μ', rt := R } := by
  rintro ss μ R ⟨p, W, rfl, rfl, h⟩
  unfold t_first_standing_ways
  have := W.b2
  refine ws_retK 0 ?_
  walk_at "w"
  refine we_lc (wi_list ?_)
  walk_at "w"
  refine ⟨_, _, lk_d, ?_⟩
  refine lc_map p.boxes (fun b => .d b.d) (by simp) (fun b => .int b.first) (by omega) nokeep ?_ ?_
  · intro b hb
    refine ⟨_, gt_tup (gts_cons (gt_name (by decide)) (gts_cons (gt_name (by decide)) (gts_cons (gt_name (by decide)) (gts_cons (gt_name (by decide)) gts_nil)))) rfl, ?_⟩
    walk_at "w"
    exact ⟨rfl, rfl⟩
  · intro q
    walk_at "w"
    refine wc_tupL (lo_m 0 rfl) ?_
    walk_at "w"
    have e : (p.boxes.map fun b => PyData.int b.first) = (p.boxes.map Box.first).map PyData.int := by simp
    rw [e]
    exact h
theorem cstep_go {p : Prog} {s : Stt} {left : List Int} {r : Row} (hr : p.rows[s.1]? = some r) (h : ∀ a, r ≠ .ask a) : cstep p s left = (nxt p s 0).map fun s' => (s', left) := by
  unfold cstep
  split
  · rename_i a hm; rw [hr] at hm; cases hm; exact absurd rfl (h a)
  · rfl
theorem cstep_ask {p : Prog} {s : Stt} {n : Int} {left : List Int} {a : Nat} (hr : p.rows[s.1]? = some (.ask a)) : cstep p s (n :: left) = (nxt p s n).map fun s' => (s', left) := by
  unfold cstep nxt
  rw [hr]
theorem cstep_ask0 {p : Prog} {s : Stt} {a : Nat} (hr : p.rows[s.1]? = some (.ask a)) : cstep p s [] = none := by
  unfold cstep
  rw [hr]
theorem noMark {p : Prog} {s : Stt} {r : Row} (hr : p.rows[s.1]? = some r) (h : ∀ m, r ≠ .mark m) : ∀ y, ¬ MarkAt p s y := by
  rintro y ⟨h1, _⟩
  rw [hr] at h1; cases h1; exact h _ rfl
theorem not_key {kvs : List (NK × D)} {k : NK} (z : (!(getS kvs k).isSome) = true) : k ∉ kvs.map (·.1) := by
  rw [← getS_none_iff]
  cases h : getS kvs k with
  | none => rfl
  | some d => rw [h] at z; cases z
theorem is_key {kvs : List (NK × D)} {k : NK} (z : (!(getS kvs k).isSome) = false) : k ∈ kvs.map (·.1) := by
  apply Decidable.byContradiction
  intro n
  rw [← getS_none_iff] at n
  rw [n] at z; cases z
def PassD (L : List MV) : D := .list (L.map mvD)
def pre_run : List Sl → M → RE → Prop := fun ss μ R => ∃ p ns sn, WFp p ∧ ns.length ≤ 9000 ∧ (sn = .d (nL ns) ∨ sn = .l (ns.map .int)) ∧ ss = [.d (Prog.d p), sn] ∧ μ = [] ∧ ∀ L X, PassL p ns L → R (.d (.tuple [PassD L, X])) []
theorem rd_run : ∀ ss μ R, pre_run ss μ R → WS c (t_run c.P c.w c.K (SPM c pre_first) (SPM c pre_step) (SPM c pre_word)) (startD N_run ss) μ { nx := fun _ μ' => R (.d .none) μ', rt := R } := by
  rintro ss μ R ⟨p, ns, sn, W, hl, hsn, rfl, rfl, h⟩
  unfold t_run
  have hN := allSt_len W
  walk_at "w"
  refine wc_listM (so_or hsn) (fun pl => ?_)
  walk_at "w"
  refine ⟨by simp, fun pp => ?_⟩
  walk_at "w"
  refine we_nnew (fun pc => ?_)
  walk_at "w"
  refine we_call0 ?_
  walk_at "w"
  refine ⟨p, W, rfl, rfl, ?_⟩
  refine ws_seq (ws_while (fun m Δ μ => ∃ left L kvs s x6 x7 x8 pc, Δ = [some (.d p.d), some sn, some (.x (.ref pl)), some (.x (.ref pp)), some (.x (.ref pc)), some (.d (stD s)), x6, x7, x8] ∧
    μ = [(pl, .lst ((left.map PyData.int).map .d)), (pp, .lst ((L.map mvD).map .d)), (pc, .dn kvs)] ∧ RunI p ns left L (kvs.map (·.1)) s ∧ m = left.length * 1000 + (900 - kvs.length) ∧ L.length + m ≤ ns.length * 1000 + 900)
    ⟨_, ns, [], [], first p, _, _, _, pc, rfl, rfl, runI_start, rfl, by simp⟩ ?_)
  rintro m Δ μ ⟨left, L, kvs, s, x6, x7, x8, pc, rfl, rfl, hI, hm, hLm⟩
  have hkl : kvs.length ≤ 640 := by have := hI.ks.len; simp at this; omega
  have hsw := hI.rc.sw W
  have fin : ∀ (Δ : Vt) (left : List Int) (kvs : List (NK × D)) (L : List MV) (te : TE) (X : D) (A : AE), A.rt = R → Δ[3]? = some (some (.x (.ref pp))) → PassL p ns L → (∀ (Δ : Vt) (μ : M) (R' : RE), R' (.d X) μ → WE c te Δ μ R') → WS c (tRet (tTup (tCons (tVar 3) (tCons te tNil)))) Δ
      [(pl, .lst ((left.map PyData.int).map .d)), (pp, .lst ((L.map mvD).map .d)), (pc, .dn kvs)] A := by
    intro Δ left kvs L te X A hA h3 hp ht
    have hl3 : 3 < Δ.length := (List.getElem?_eq_some_iff.mp h3).1
    refine ws_co (co_list 3 1 rfl rfl h3) (ws_retK 0 (we_tup (wa_cons (we_var (s := .l (L.map mvD)) (by simp [hl3]) (wa_cons (ht _ _ _ (wa_nil ⟨by simp, _, rfl, ?_⟩)))))))
    rw [hA]
    exact h L X hp
  refine wt_B (we_nnotin ?_)
  walk_at "w"
  refine ⟨kvs, stK s, nd_m 2 rfl, isK_st s, ?_⟩
  walk_at "w"
  refine ⟨fun z => ?_, fun z => fin _ left kvs L _ _ _ rfl rfl (hI.round (is_key z)) (fun Δ μ R' r => by walk_at "w"; exact r)⟩
  have hnk := not_key z
  walk_at "w"
  refine we_call0 ?_
  walk_at "w"
  refine ⟨p, s.1, rfl, rfl, ?_⟩
  cases hr : p.rows[s.1]? with
  | none =>
    have hk : kindF p "stop" s.1 = "stop" := by unfold kindF; rw [hr]
    rw [hk]
    walk_at "w"
    refine fin _ left kvs L _ _ _ rfl rfl (hI.done ?_ ?_) (fun Δ μ R' r => by walk_at "w"; exact r)
    · unfold cstep nxt; rw [hr]; rfl
    · rintro y ⟨h1, _⟩; rw [hr] at h1; cases h1
  | some r =>
    have hk : kindF p "stop" s.1 = r.kind := by unfold kindF; rw [hr]
    rw [hk]
    cases r with
    | stop =>
      dsimp only [Row.kind]
      walk_at "w"
      refine fin _ left kvs L _ _ _ rfl rfl (hI.done ?_ (noMark hr (by intro m z; cases z))) (fun Δ μ R' r => by walk_at "w"; exact r)
      rw [cstep_go hr (by intro a z; cases z)]
      unfold nxt; rw [hr]; rfl
    | ask a =>
      dsimp only [Row.kind]
      walk_at "w"
      refine ws_nput ?_
      walk_at "w"
      refine ⟨2, pc, kvs, stK s, _, rfl, rfl, isK_st s, rfl, by omega, ?_⟩
      cases left with
      | nil =>
        walk_at "w"
        refine ⟨_, lo_m 0 rfl, ?_⟩
        walk_at "w"
        exact fin _ [] _ L _ _ _ rfl rfl (hI.done (cstep_ask0 hr) (noMark hr (by intro m z; cases z))) (fun Δ μ R' r => by walk_at "w"; exact r)
      | cons n left =>
        walk_at "w"
        refine ⟨_, lo_m 0 rfl, ?_⟩
        refine ⟨_, rfl, cs_f rfl ?_⟩
        walk_at "w"
        refine wb_pop0 0 rfl ?_
        walk_at "w"
        refine we_nnew (fun pc' => ?_)
        refine ws_co (co_drop 2) ?_
        walk_at "w"
        refine we_call0 ?_
        walk_at "w"
        refine ⟨p, s, .ask a, n, _, W, hsw, hr, (by intro z; cases z), fun _ _ => rfl, rfl, rfl, ?_⟩
        cases hx : nxt p s n with
        | none =>
          walk_at "w"
          refine wo_isN rfl ?_
          walk_at "w"
          exact ws_co (co_list 3 1 rfl rfl rfl) (ws_retK 0 (by walk_at "w"; exact h L _ (hI.done (by rw [cstep_ask hr, hx]; rfl) (noMark hr (by intro m z; cases z)))))
        | some s' =>
          walk_at "w"
          refine wo_isN rfl ?_
          walk_at "w"
          refine ⟨_, ?_, left, L, [], s', _, _, _, pc', rfl, rfl, hI.ask rfl (by rw [cstep_ask hr, hx]; rfl) (noMark hr (by intro m z; cases z)), rfl, ?_⟩
          · simp only [List.length_cons, List.length_nil] at hm ⊢; omega
          · simp only [List.length_cons, List.length_nil] at hm hLm ⊢; omega
    | mark mk =>
      dsimp only [Row.kind]
      walk_at "w"
      refine wo_ixL s.1 rfl lo_d (t := .d (Row.mark mk).d) (by simp [hr]) ?_
      dsimp only [Row.d, Row.kind, Row.args]
      walk_at "w"
      refine wb_appendD 1 (L.map mvD) rfl rfl (by simp only [List.length_map]; omega) ?_
      walk_at "w"
      refine ws_nput ?_
      walk_at "w"
      refine ⟨2, pc, kvs, stK s, _, rfl, rfl, isK_st s, rfl, by omega, ?_⟩
      rw [putS_new hnk]
      walk_at "w"
      refine we_call0 ?_
      walk_at "w"
      refine ⟨p, s, .mark mk, 0, _, W, hsw, hr, (by intro z; cases z), (by intro a z; cases z), rfl, rfl, ?_⟩
      have hx : nxt p s 0 = some (s.1 + 1, s.2) := by unfold nxt; rw [hr]
      rw [hx]
      walk_at "w"
      refine wo_isN rfl ?_
      walk_at "w"
      refine ⟨_, ?_, left, L ++ [(mk, s.2)], kvs ++ [(stK s, .bool true)], _, _, _, _, pc, rfl, by simp, ?_, rfl, ?_⟩
      · simp only [List.length_append, List.length_cons, List.length_nil] at hm ⊢; omega
      · have := hI.go W hnk (s' := (s.1 + 1, s.2)) (L' := L ++ [(mk, s.2)]) (by rw [cstep_go hr (by intro a z; cases z), hx]; rfl) (fun y => by
          rw [List.mem_append, List.mem_singleton]
          refine or_congr Iff.rfl ⟨fun e => by subst e; exact ⟨hr, rfl⟩, fun ⟨h1, h2⟩ => ?_⟩
          rw [hr] at h1
          simp only [Option.some.injEq, Row.mark.injEq] at h1
          exact Prod.ext h1.symm h2)
        simpa using this
      · simp only [List.length_append, List.length_cons, List.length_nil] at hm hLm ⊢; omega
    | _ =>
      dsimp only [Row.kind]
      walk_at "w"
      refine ws_nput ?_
      walk_at "w"
      refine ⟨2, pc, kvs, stK s, _, rfl, rfl, isK_st s, rfl, by omega, ?_⟩
      rw [putS_new hnk]
      walk_at "w"
      refine we_call0 ?_
      walk_at "w"
      refine ⟨p, s, _, 0, _, W, hsw, hr, (by intro z; cases z), (by intro a z; cases z), rfl, rfl, ?_⟩
      cases hx : nxt p s 0 with
      | none =>
        walk_at "w"
        refine wo_isN rfl ?_
        walk_at "w"
        exact ws_co (co_list 3 1 rfl rfl rfl) (ws_retK 0 (by walk_at "w"; exact h L _ (hI.done (by rw [cstep_go hr (by intro a z; cases z), hx]; rfl) (noMark hr (by intro m z; cases z)))))
      | some s' =>
        walk_at "w"
        refine wo_isN rfl ?_
        walk_at "w"
        refine ⟨_, ?_, left, L, kvs ++ [(stK s, .bool true)], s', _, _, _, pc, rfl, rfl, ?_, rfl, ?_⟩
        · simp only [List.length_append, List.length_cons, List.length_nil] at hm ⊢; omega
        · have := hI.go W hnk (s' := s') (L' := L) (by rw [cstep_go hr (by intro a z; cases z), hx]; rfl) (fun y => by
            refine ⟨fun e => .inl e, fun e => e.elim id fun m => absurd m (noMark hr (by intro m z; cases z) y)⟩)
          simpa using this
        · simp only [List.length_append, List.length_cons, List.length_nil] at hm hLm ⊢; omega
end Sw
/-! SwWays -/
set_option Elab.async false
set_option linter.all false
set_option maxRecDepth 100000
set_option maxHeartbeats 2000000
namespace Sw
open PySem L2 SwH
local macro_rules | `(tactic| walk_at "w1") => `(tactic| first
  | with_reducible refine ws_seq ?_
  | with_reducible refine ws_asgL ?_
  | with_reducible refine ws_asg ?_
  | with_reducible refine ws_setL ?_
  | with_reducible refine ws_asgT ?_
  | with_reducible refine ws_drop ?_
  | with_reducible refine ws_next ?_
  | with_reducible refine ws_cont ?_
  | with_reducible refine ws_if ?_
  | with_reducible refine ws_for ?_
  | (with_reducible refine we_var rfl ?_)
  | with_reducible refine we_int ?_
  | with_reducible refine we_str ?_
  | with_reducible refine we_bl ?_
  | with_reducible refine we_non ?_
  | with_reducible refine we_eqNil ?_
  | with_reducible refine we_neNil ?_
  | with_reducible refine we_op ?_
  | (with_reducible refine wo_ixT 0 rfl rfl ?_)
  | (with_reducible refine wo_ixT 1 rfl rfl ?_)
  | (with_reducible refine wo_ixT 2 rfl rfl ?_)
  | (with_reducible refine wo_ixT 3 rfl rfl ?_)
  | (with_reducible refine wo_ixT 4 rfl rfl ?_)
  | with_reducible refine wo_add ?_
  | with_reducible refine wo_sub ?_
  | with_reducible refine wo_lt ?_
  | with_reducible refine wo_le ?_
  | with_reducible refine wo_gt ?_
  | with_reducible refine wo_ge ?_
  | with_reducible refine wo_eqI ?_
  | with_reducible refine wo_neI ?_
  | with_reducible refine wo_eqS ?_
  | with_reducible refine wo_neS ?_
  | with_reducible refine wt_test ?_
  | with_reducible refine wt_B ?_
  | with_reducible refine wt_not ?_
  | with_reducible refine wt_and ?_
  | with_reducible refine wt_or ?_
  | with_reducible refine wt_yes ?_
  | with_reducible refine we_andV ?_
  | with_reducible refine we_orV ?_
  | with_reducible refine we_notV ?_
  | with_reducible refine wa_nil ?_
  | with_reducible refine wa_cons ?_
  | with_reducible refine we_bm ?_
  | with_reducible refine we_bm0 ?_
  | with_reducible refine we_tup ?_
  | with_reducible refine we_cb ?_
  | (with_reducible refine ⟨_, rfl, ?_⟩)
  | (refine ⟨by simp, _, rfl, ?_⟩)
  | (refine ⟨ListOf.ty (lo_m 0 rfl), ?_⟩)
  | (refine ⟨ListOf.ty (lo_m 1 rfl), ?_⟩)
  | (refine ⟨ListOf.ty (lo_m 2 rfl), ?_⟩)
  | (refine ⟨ListOf.ty (lo_m 3 rfl), ?_⟩)
  | (refine cs_t (by decide) ?_)
  | (refine cs_f (by decide) ?_))
local macro_rules | `(tactic| walk_at "w") => `(tactic| repeat walk_at "w1")


local macro_rules | `(tactic| walk_at "gs") => `(tactic| first
  | exact gts_nil
  | (refine gts_cons (gt_name (by decide)) ?_; walk_at "gs")
  | (refine gts_cons (gt_tup (by walk_at "gs") rfl) ?_; walk_at "gs"))
local macro_rules | `(tactic| walk_at "g") => `(tactic| first
  | exact gt_name (by decide)
  | exact gt_tup (by walk_at "gs") rfl
  | exact gt_pl (by walk_at "gs"))

variable {c : Ct}
def marksF (p : Prog) : List Str := p.rows.filterMap fun r => match r with
  | .mark m => some m
  | _ => none
def pre_marks : List Sl → M → RE → Prop := fun ss μ R => ∃ p, WFp p ∧ ss = [.d (Prog.d p)] ∧ μ = [] ∧ R (.l ((marksF p).map .str)) []
theorem rd_marks_of : ∀ ss μ R, pre_marks ss μ R → WS c (t_marks_of c.P c.w c.K) (startD N_marks_of ss) μ { nx := fun _ μ' => R (.d .none) μ', rt := R } := by
  rintro ss μ R ⟨p, W, rfl, rfl, h⟩
  unfold t_marks_of
  have := W.rl
  refine ws_retL 0 (we_lc (wi_list ?_))
  walk_at "w"
  refine ⟨_, _, lk_d, ?_⟩
  refine lc_x p.rows (fun r => .d r.d) (by simp) (fun r => match r with | .mark m => some (.str m) | _ => none) (by omega) nokeep ?_ ?_
  · intro r hr
    refine ⟨_, gt_name (by decide), ?_⟩
    cases r with
    | mark m =>
      dsimp only [Row.d, Row.kind, Row.args]
      walk_at "w"
      refine ⟨rfl, ?_⟩
      walk_at "w"
      exact ⟨⟨_, rfl, rfl⟩, rfl⟩
    | _ =>
      dsimp only [Row.d, Row.kind, Row.args]
      walk_at "w"
      exact ⟨rfl, cs_f (by decide) rfl⟩
  · intro q
    refine ⟨0, q, _, _, rfl, rfl, rfl, ?_⟩
    have e : (p.rows.filterMap fun r => match r with | .mark m => some (PyData.str m) | _ => none) = (marksF p).map PyData.str := by
      unfold marksF
      rw [List.map_filterMap]
      congr 1
      funext r
      cases r <;> rfl
    rw [e]
    exact h
theorem mem_marks {p : Prog} {m : Str} : m ∈ marksF p ↔ .mark m ∈ p.rows := by
  unfold marksF
  simp only [List.mem_filterMap]
  constructor
  · rintro ⟨r, h1, h2⟩
    cases r <;> simp at h2
    subst h2; exact h1
  · intro h; exact ⟨_, h, rfl⟩
theorem marks_len {p : Prog} (W : WFp p) : (marksF p).length ≤ 9 := Nat.le_trans (List.length_filterMap_le _ _) W.rl
/-- the numbers of an ask -/
def pre_numbers : List Sl → M → RE → Prop := fun ss μ R => ∃ p s a b, WFp p ∧ p.rows[s.1]? = some (.ask a) ∧ p.boxes[a]? = some b ∧ ss = [.d (Prog.d p), .d (stD s)] ∧ μ = [] ∧ R (.l ((rg b.low (b.high + 1)).map .int)) []
theorem rd_numbers_for : ∀ ss μ R, pre_numbers ss μ R → WS c (t_numbers_for c.P c.w c.K) (startD N_numbers_for ss) μ { nx := fun _ μ' => R (.d .none) μ', rt := R } := by
  rintro ss μ R ⟨p, s, a, b, W, hr, hb, rfl, rfl, h⟩
  unfold t_numbers_for
  have wb := W.bx b (List.mem_of_getElem? hb)
  have := wb.lo
  have := wb.hi
  have := wb.f1
  have := wb.f2
  walk_at "w"
  refine wo_ixL s.1 rfl lo_d (t := .d (Row.ask a).d) (by simp [hr]) ?_
  dsimp only [Row.d, Row.kind, Row.args]
  walk_at "w"
  refine wo_ixL a rfl lo_d (t := .d b.d) (by simp [hb]) ?_
  refine ⟨_, is12, gt_tup (gts_cons (gt_name (by decide)) (gts_cons (gt_name (by decide)) (gts_cons (gt_name (by decide)) (gts_cons (gt_name (by decide)) gts_nil)))) rfl, ?_⟩
  refine ws_ret (we_lstRg ?_)
  walk_at "w"
  refine ⟨_, _, rfl, rfl, by omega, ?_⟩
  have e : ((List.range (b.high + 1 - b.low).toNat).map fun (i : Nat) => PyData.int (b.low + i)) = (rg b.low (b.high + 1)).map PyData.int := by simp [rg]
  rw [e]
  exact h
def behindF (p : Prog) (s : Stt) : List Stt := match p.rows[s.1]? with
  | none => []
  | some .stop => []
  | some (.ask a) => (match p.boxes[a]? with
    | none => []
    | some b => (rg b.low (b.high + 1)).map fun n => (s.1 + 1, s.2.set a n))
  | some _ => (nxt p s 0).toList
theorem behind_sw {p : Prog} (W : WFp p) {s x : Stt} (h : SW p s) (hx : x ∈ behindF p s) : SW p x := by
  unfold behindF at hx
  split at hx
  · cases hx
  · cases hx
  · rename_i a hm
    split at hx
    · cases hx
    · rename_i b hb
      obtain ⟨n, hn, rfl⟩ := List.mem_map.mp hx
      have := mem_rg.mp hn
      exact ⟨(List.getElem?_eq_some_iff.mp hm).1, h.2.set hb this.1 (by omega)⟩
  · rw [Option.mem_toList] at hx
    exact nxt_sw W h hx
theorem ask_take {p : Prog} {s : Stt} {a : Nat} {b : Box} {n : Int} (hb : p.boxes[a]? = some b) (h1 : b.low ≤ n) (h2 : n < b.high + 1) : takeF p a n s = some (s.1 + 1, s.2.set a n) := by
  unfold takeF
  rw [hb]
  simp
  omega
def pre_behind : List Sl → M → RE → Prop := fun ss μ R => ∃ p s, WFp p ∧ SW p s ∧ ss = [.d (Prog.d p), .d (stD s)] ∧ μ = [] ∧ R (.l ((behindF p s).map stD)) []
theorem rd_behind : ∀ ss μ R, pre_behind ss μ R → WS c (t_behind c.P c.w c.K (SPM c pre_step) (SPM c pre_kind) (SPM c pre_numbers)) (startD N_behind ss) μ { nx := fun _ μ' => R (.d .none) μ', rt := R } := by
  rintro ss μ R ⟨p, s, W, hs, rfl, rfl, h⟩
  unfold t_behind
  walk_at "w"
  refine we_call0 ?_
  walk_at "w"
  refine ⟨p, s, hs, rfl, rfl, ?_⟩
  cases hr : p.rows[s.1]? with
  | none =>
    have hk : kindF p "end" s.1 = "end" := by unfold kindF; rw [hr]
    rw [hk]
    walk_at "w"
    refine we_lstL ?_
    walk_at "w"
    refine wo_inL (xs := [.str "end", .str "stop"]) rfl (lo_l (ds := [.str "end", .str "stop"])) rfl ?_
    walk_at "w"
    refine ws_ret (we_lstL (wa_nil ⟨by simp, _, rfl, ?_⟩))
    have : behindF p s = [] := by unfold behindF; rw [hr]
    rw [this] at h; exact h
  | some r =>
    have hk : kindF p "end" s.1 = r.kind := by unfold kindF; rw [hr]
    rw [hk]
    cases r with
    | stop =>
      dsimp only [Row.kind]
      walk_at "w"
      refine we_lstL ?_
      walk_at "w"
      refine wo_inL (xs := [.str "end", .str "stop"]) rfl (lo_l (ds := [.str "end", .str "stop"])) rfl ?_
      walk_at "w"
      refine ws_ret (we_lstL (wa_nil ⟨by simp, _, rfl, ?_⟩))
      have : behindF p s = [] := by unfold behindF; rw [hr]
      rw [this] at h; exact h
    | ask a =>
      have ha : a < p.boxes.length := W.rw _ (List.mem_of_getElem? hr)
      have hb : p.boxes[a]? = some p.boxes[a] := List.getElem?_eq_getElem ha
      generalize p.boxes[a] = b at hb
      have wb := W.bx b (List.mem_of_getElem? hb)
      have := wb.wd
      dsimp only [Row.kind]
      walk_at "w"
      refine we_lstL ?_
      walk_at "w"
      refine wo_inL (xs := [.str "end", .str "stop"]) rfl (lo_l (ds := [.str "end", .str "stop"])) rfl ?_
      walk_at "w"
      refine ws_retL 0 (we_lc (wi_list (we_call0 ?_)))
      walk_at "w"
      refine ⟨p, s, a, b, W, hr, hb, rfl, rfl, ?_⟩
      refine ⟨_, _, lk_l, ?_⟩
      refine lc_map (rg b.low (b.high + 1)) (fun n => .d (.int n)) (by simp) (fun n => stD (s.1 + 1, s.2.set a n)) (by rw [rg_len]; omega) nokeep ?_ ?_
      · intro n hn
        have hn' := mem_rg.mp hn
        refine ⟨_, gt_name (by decide), we_call0 ?_⟩
        walk_at "w"
        refine ⟨p, s, .ask a, n, _, W, hs, hr, (by intro z; cases z), fun _ _ => rfl, rfl, rfl, ?_⟩
        have : nxt p s n = some (s.1 + 1, s.2.set a n) := by unfold nxt; rw [hr]; exact ask_take hb hn'.1 hn'.2
        rw [this]
        exact ⟨rfl, rfl⟩
      · intro q
        refine ⟨0, q, _, _, rfl, rfl, rfl, ?_⟩
        have e : behindF p s = (rg b.low (b.high + 1)).map fun n => (s.1 + 1, s.2.set a n) := by unfold behindF; rw [hr]; simp [hb]
        rw [e] at h
        simpa [Function.comp_def] using h
    | _ =>
      dsimp only [Row.kind]
      walk_at "w"
      refine we_lstL ?_
      walk_at "w"
      refine wo_inL (xs := [.str "end", .str "stop"]) rfl (lo_l (ds := [.str "end", .str "stop"])) rfl ?_
      walk_at "w"
      refine ws_retL 0 (we_lc (wi_list (we_lstL ?_)))
      walk_at "w"
      refine we_call0 ?_
      walk_at "w"
      refine ⟨p, s, _, 0, _, W, hs, hr, (by intro z; cases z), (by intro a z; cases z), rfl, rfl, ?_⟩
      walk_at "w"
      refine ⟨_, _, lk_l, ?_⟩
      refine lc_x [nxt p s 0] (fun o => .d (oD o)) rfl (fun o => o.map stD) (by simp) nokeep ?_ ?_
      · intro o ho
        refine ⟨_, gt_name (by decide), ?_⟩
        walk_at "w"
        refine wo_notN (b := o.isNone) (by cases o <;> rfl) ?_
        walk_at "w"
        refine ⟨rfl, ?_⟩
        cases o with
        | none => exact cs_f rfl rfl
        | some x => refine cs_t rfl ?_; walk_at "w"; exact ⟨⟨_, rfl, rfl⟩, rfl⟩
      · intro q
        refine ⟨0, q, _, _, rfl, rfl, rfl, ?_⟩
        have e : behindF p s = (nxt p s 0).toList := by unfold behindF; rw [hr]
        rw [e] at h
        cases hx : nxt p s 0 with
        | none => rw [hx] at h; exact h
        | some x => rw [hx] at h; exact h
end Sw
/-! SwWays2 -/
set_option Elab.async false
set_option linter.all false
set_option maxRecDepth 100000
set_option maxHeartbeats 2000000
namespace Sw
open PySem L2 SwH
local macro_rules | `(tactic| walk_at "w1") => `(tactic| first
  | with_reducible refine ws_seq ?_
  | with_reducible refine ws_asgL ?_
  | with_reducible refine ws_asg ?_
  | with_reducible refine ws_setL ?_
  | with_reducible refine ws_asgT ?_
  | with_reducible refine ws_drop ?_
  | with_reducible refine ws_next ?_
  | with_reducible refine ws_cont ?_
  | with_reducible refine ws_if ?_
  | with_reducible refine ws_for ?_
  | (with_reducible refine we_var rfl ?_)
  | with_reducible refine we_int ?_
  | with_reducible refine we_str ?_
  | with_reducible refine we_bl ?_
  | with_reducible refine we_non ?_
  | with_reducible refine we_eqNil ?_
  | with_reducible refine we_neNil ?_
  | with_reducible refine we_op ?_
  | (with_reducible refine wo_ixT 0 rfl rfl ?_)
  | (with_reducible refine wo_ixT 1 rfl rfl ?_)
  | (with_reducible refine wo_ixT 2 rfl rfl ?_)
  | (with_reducible refine wo_ixT 3 rfl rfl ?_)
  | (with_reducible refine wo_ixT 4 rfl rfl ?_)
  | with_reducible refine wo_add ?_
  | with_reducible refine wo_sub ?_
  | with_reducible refine wo_lt ?_
  | with_reducible refine wo_le ?_
  | with_reducible refine wo_gt ?_
  | with_reducible refine wo_ge ?_
  | with_reducible refine wo_eqI ?_
  | with_reducible refine wo_neI ?_
  | with_reducible refine wo_eqS ?_
  | with_reducible refine wo_neS ?_
  | with_reducible refine wt_test ?_
  | with_reducible refine wt_B ?_
  | with_reducible refine wt_not ?_
  | with_reducible refine wt_and ?_
  | with_reducible refine wt_or ?_
  | with_reducible refine wt_yes ?_
  | with_reducible refine we_andV ?_
  | with_reducible refine we_orV ?_
  | with_reducible refine we_notV ?_
  | with_reducible refine wa_nil ?_
  | with_reducible refine wa_cons ?_
  | with_reducible refine we_bm ?_
  | with_reducible refine we_bm0 ?_
  | with_reducible refine we_tup ?_
  | with_reducible refine we_cb ?_
  | (with_reducible refine ⟨_, rfl, ?_⟩)
  | (refine ⟨by simp, _, rfl, ?_⟩)
  | (refine ⟨ListOf.ty (lo_m 0 rfl), ?_⟩)
  | (refine ⟨ListOf.ty (lo_m 1 rfl), ?_⟩)
  | (refine ⟨ListOf.ty (lo_m 2 rfl), ?_⟩)
  | (refine ⟨ListOf.ty (lo_m 3 rfl), ?_⟩)
  | (refine cs_t (by decide) ?_)
  | (refine cs_f (by decide) ?_))
local macro_rules | `(tactic| walk_at "w") => `(tactic| repeat walk_at "w1")


local macro_rules | `(tactic| walk_at "gs") => `(tactic| first
  | exact gts_nil
  | (refine gts_cons (gt_name (by decide)) ?_; walk_at "gs")
  | (refine gts_cons (gt_tup (by walk_at "gs") rfl) ?_; walk_at "gs"))
local macro_rules | `(tactic| walk_at "g") => `(tactic| first
  | exact gt_name (by decide)
  | exact gt_tup (by walk_at "gs") rfl
  | exact gt_pl (by walk_at "gs"))

variable {c : Ct}
/-! ### what sorts -/
theorem alike_ints (v w : List Int) : PySem.W.alikeAll (v.map .int) (w.map .int) = true := by
  induction v generalizing w with
  | nil => simp [PySem.W.alikeAll]
  | cons a r ih => cases w with
    | nil => simp [PySem.W.alikeAll]
    | cons b t => simp [PySem.W.alikeAll, PySem.W.alike, ih]
theorem depth_ints (v : List Int) : PyData.depthAll (v.map .int) = 0 := by
  induction v with
  | nil => rfl
  | cons a r ih => simp [PyData.depthAll, PyData.depth, ih]
theorem srt_mv (L : List MV) : Srt (L.map mvD) := by
  refine ⟨?_, .inl ?_, ?_⟩
  · intro d hd d' hd'
    obtain ⟨x, _, rfl⟩ := List.mem_map.mp hd
    obtain ⟨y, _, rfl⟩ := List.mem_map.mp hd'
    simp [mvD, vD, PySem.W.alike, PySem.W.alikeAll, alike_ints]
  · intro d hd
    obtain ⟨x, _, rfl⟩ := List.mem_map.mp hd
    exact ⟨_, _, rfl⟩
  · intro d hd
    obtain ⟨x, _, rfl⟩ := List.mem_map.mp hd
    simp [mvD, vD, PyData.depth, PyData.depthAll, depth_ints]
/-- an entry of the inputs: how many, the numbers, the values -/
abbrev enD (x : List Int × List Int) : D := .tuple [.int x.1.length, vD x.1, vD x.2]
theorem srt_en (L : List (List Int × List Int)) : Srt (L.map enD) := by
  refine ⟨?_, .inl ?_, ?_⟩
  · intro d hd d' hd'
    obtain ⟨x, _, rfl⟩ := List.mem_map.mp hd
    obtain ⟨y, _, rfl⟩ := List.mem_map.mp hd'
    simp [enD, vD, PySem.W.alike, PySem.W.alikeAll, alike_ints]
  · intro d hd
    obtain ⟨x, _, rfl⟩ := List.mem_map.mp hd
    exact ⟨_, _, rfl⟩
  · intro d hd
    obtain ⟨x, _, rfl⟩ := List.mem_map.mp hd
    simp [enD, vD, PyData.depth, PyData.depthAll, depth_ints]
theorem perm_map {α β : Type} (f : α → β) {es : List β} : ∀ {L : List α}, es.Perm (L.map f) → ∃ L' : List α, L'.Perm L ∧ es = L'.map f := by
  intro L h
  generalize hm : L.map f = m at h
  induction h generalizing L with
  | nil => exact ⟨[], by have : L = [] := List.map_eq_nil_iff.mp hm; subst this; exact .refl _, rfl⟩
  | cons x _ ih =>
    obtain ⟨a, r, rfl, rfl, h2⟩ := List.map_eq_cons_iff.mp hm
    obtain ⟨L', h3, rfl⟩ := ih h2
    exact ⟨a :: L', h3.cons a, rfl⟩
  | swap x y l =>
    obtain ⟨a, r, rfl, rfl, h2⟩ := List.map_eq_cons_iff.mp hm
    obtain ⟨b, r, rfl, rfl, h3⟩ := List.map_eq_cons_iff.mp h2
    exact ⟨b :: a :: r, .swap _ _ _, by rw [← h3]; rfl⟩
  | trans _ _ ih1 ih2 =>
    obtain ⟨L2, h3, rfl⟩ := ih2 hm
    obtain ⟨L3, h4, rfl⟩ := ih1 rfl
    exact ⟨L3, h4.trans h3, rfl⟩
theorem kind_mark {r : Row} (h : r.kind = "mark") : ∃ m, r = .mark m := by
  cases r <;> dsimp only [Row.kind] at h <;> first | exact ⟨_, rfl⟩ | exact absurd h (by decide)
/-! ### the next marks: only what they are made of is told -/
def MvOk (p : Prog) (x : MV) : Prop := x.1 ∈ marksF p ∧ VW p.boxes x.2
def pre_nm : List Sl → M → RE → Prop := fun ss μ R => ∃ p s, WFp p ∧ SW p s ∧ ss = [.d (Prog.d p), .d (stD s)] ∧ μ = [] ∧ ∀ L : List MV, (∀ x, x ∈ L → MvOk p x) → R (.l (L.map mvD)) []
theorem rd_next_marks : ∀ ss μ R, pre_nm ss μ R → WS c (t_next_marks c.P c.w c.K (SPM c pre_kind) (SPM c pre_behind)) (startD N_next_marks ss) μ { nx := fun _ μ' => R (.d .none) μ', rt := R } := by
  rintro ss μ R ⟨p, s0, W, hs0, rfl, rfl, h⟩
  unfold t_next_marks
  have hN := allSt_len W
  walk_at "w"
  refine ⟨by simp, fun pw => ?_⟩
  walk_at "w"
  refine we_ndisp ?_
  walk_at "w"
  refine ⟨stK s0, _, isK_st s0, rfl, fun pk => ?_⟩
  walk_at "w"
  refine we_nnew (fun pf => ?_)
  refine ws_seq (ws_while (fun m Δ μ => ∃ ws kk kf x5 x6, Δ = [some (.d p.d), some (.d (stD s0)), some (.x (.ref pw)), some (.x (.ref pk)), some (.x (.ref pf)), x5, x6] ∧
    μ = [(pw, .lst ((ws.map stD).map .d)), (pk, .dn kk), (pf, .dn kf)] ∧ (∀ s, s ∈ ws → SW p s) ∧ StKeys p (kk.map (·.1)) ∧ (∀ k, k ∈ kf.map (·.1) → ∃ x, MvOk p x ∧ k = mvK x) ∧ m = ws.length + 2 * (700 - kk.length) ∧ kf.length + m ≤ 1500)
    ⟨_, [s0], [(stK s0, .bool true)], [], _, _, rfl, rfl, by simpa using hs0, by simpa using StKeys.nil.snoc hs0 (by simp), by simp, rfl, by simp⟩ ?_)
  rintro m Δ μ ⟨ws, kk, kf, x5, x6, rfl, rfl, hws, hkk, hkf, hm, hml⟩
  have hkl : kk.length ≤ 640 := by have := hkk.len; simp at this; omega
  walk_at "w"
  refine ⟨_, lo_m 0 rfl, ?_⟩
  refine ⟨_, rfl, ?_⟩
  rcases List.eq_nil_or_concat ws with rfl | ⟨ws, s, rfl⟩
  · refine cs_f rfl ?_
    refine ws_retK 0 ?_
    walk_at "w"
    obtain ⟨L, hL1, hL2⟩ : ∃ L : List MV, (kf.map fun kv => kv.1.data) = L.map mvD ∧ ∀ x, x ∈ L → MvOk p x := by
      clear hm hml
      induction kf with
      | nil => exact ⟨[], rfl, by simp⟩
      | cons a r ih =>
        obtain ⟨L, h1, h2⟩ := ih fun k hk => hkf k (by simp at hk ⊢; exact .inr hk)
        obtain ⟨x, hx1, hx2⟩ := hkf a.1 (by simp)
        refine ⟨x :: L, by simp only [List.map_cons, h1, hx2, mvK_data], fun y hy => ?_⟩
        rcases List.mem_cons.mp hy with rfl | hy
        · exact hx1
        · exact h2 y hy
    refine wc_sortN (nd_m 2 rfl) (by rw [hL1]; exact srt_mv L) (fun es hes => ?_)
    rw [hL1] at hes
    obtain ⟨L', h1, rfl⟩ := perm_map mvD hes
    exact h L' fun x hx => hL2 x (h1.mem_iff.mp hx)
  · have hs : SW p s := hws s (by simp)
    refine cs_t (by simp) ?_
    have es : ((ws.concat s).map stD).map Sl.d = (ws.map stD).map Sl.d ++ [.d (stD s)] := by simp
    rw [es]
    walk_at "w"
    refine wb_pop 0 rfl ?_
    have hwl : (ws.concat s).length = ws.length + 1 := by simp
    walk_at "w"
    refine we_call0 ?_
    walk_at "w"
    refine ⟨p, s, hs, rfl, rfl, ?_⟩
    walk_at "w"
    refine ⟨fun z => ?_, fun z => ?_⟩
    · obtain ⟨mk, hr⟩ : ∃ mk, p.rows[s.1]? = some (.mark mk) := by
        simp only [decide_eq_true_eq] at z
        unfold kindF at z
        cases hr : p.rows[s.1]? with
        | none => rw [hr] at z; exact absurd z (by decide)
        | some r => rw [hr] at z; obtain ⟨m, rfl⟩ := kind_mark z; exact ⟨m, rfl⟩
      refine ws_nput ?_
      walk_at "w"
      refine wo_ixL s.1 rfl lo_d (t := .d (Row.mark mk).d) (by simp [hr]) ?_
      dsimp only [Row.d, Row.kind, Row.args]
      walk_at "w"
      refine ⟨2, pf, kf, mvK (mk, s.2), _, rfl, rfl, isK_mv (mk, s.2), rfl, by omega, ?_⟩
      refine ⟨_, ?_, ws, kk, putS kf (mvK (mk, s.2)) (.bool true), _, _, rfl, rfl, fun x hx => hws x (by simp [hx]), hkk, ?_, rfl, ?_⟩
      · rw [hwl] at hm; omega
      · intro k hk
        rw [putS_keys] at hk
        have hmv : MvOk p (mk, s.2) := ⟨mem_marks.mpr (List.mem_of_getElem? hr), hs.2⟩
        split at hk
        · exact hkf k hk
        · rcases List.mem_append.mp hk with hk | hk
          · exact hkf k hk
          · simp at hk; exact ⟨_, hmv, hk⟩
      · have := putS_len (kvs := kf) (k := mvK (mk, s.2)) (v := PyData.bool true)
        rw [hwl] at hm; omega
    · refine ws_for (wi_list (we_call0 ?_))
      walk_at "w"
      refine ⟨p, s, W, hs, rfl, rfl, ?_⟩
      refine ⟨_, _, lk_l, ?_⟩
      refine for_x (behindF p s) (fun x => .d (stD x)) (by simp) (fun done Δ μ => ∃ ws' kk' x6, Δ = [some (.d p.d), some (.d (stD s0)), some (.x (.ref pw)), some (.x (.ref pk)), some (.x (.ref pf)), some (.d (stD s)), x6] ∧
        μ = [(pw, .lst ((ws'.map stD).map .d)), (pk, .dn kk'), (pf, .dn kf)] ∧ (∀ s, s ∈ ws' → SW p s) ∧ StKeys p (kk'.map (·.1)) ∧ ws'.length + 2 * (700 - kk'.length) < m) ⟨ws, kk, _, rfl, rfl, fun x hx => hws x (by simp [hx]), hkk, by rw [hwl] at hm; omega⟩ (fun _ _ _ _ => nokeep) ?_ ?_
      · rintro done x rest Δ μ e ⟨ws', kk', x6, rfl, rfl, hws', hkk', hlt⟩
        have hx : SW p x := behind_sw W hs (by rw [e]; simp)
        have hkl' : kk'.length ≤ 640 := by have := hkk'.len; simp at this; omega
        refine ⟨_, is12, gt_name (by decide), ?_⟩
        refine ws_if (wt_B (we_nnotin ?_))
        walk_at "w"
        refine ⟨kk', stK x, nd_m 1 rfl, isK_st x, ?_⟩
        walk_at "w"
        refine ⟨fun z2 => ?_, fun z2 => ?_⟩
        · have hnk := not_key z2
          walk_at "w"
          refine ws_nput ?_
          walk_at "w"
          refine ⟨1, pk, kk', stK x, _, rfl, rfl, isK_st x, rfl, by omega, ?_⟩
          rw [putS_new hnk]
          walk_at "w"
          refine wb_appendD 0 (ws'.map stD) rfl rfl (by simp only [List.length_map]; omega) ?_
          refine ⟨ws' ++ [x], kk' ++ [(stK x, .bool true)], _, rfl, by simp, ?_, by simpa using hkk'.snoc hx hnk, ?_⟩
          · intro y hy
            rcases List.mem_append.mp hy with hy | hy
            · exact hws' y hy
            · simp at hy; subst hy; exact hx
          · simp only [List.length_append, List.length_cons, List.length_nil]; omega
        · exact ws_next ⟨ws', kk', _, rfl, rfl, hws', hkk', hlt⟩
      · rintro Δ μ ⟨ws', kk', x6, rfl, rfl, hws', hkk', hlt⟩
        exact ⟨_, hlt, ws', kk', kf, _, _, rfl, rfl, hws', hkk', hkf, rfl, by omega⟩
def pre_nextof : List Sl → M → RE → Prop := fun ss μ R => ∃ p m v, WFp p ∧ m ∈ marksF p ∧ VW p.boxes v ∧ ss = [.d (Prog.d p), .d (.str m), .d (vD v)] ∧ μ = [] ∧ ∀ L : List MV, (∀ x, x ∈ L → MvOk p x) → R (.l (L.map mvD)) []
def pre_firstof : List Sl → M → RE → Prop := fun ss μ R => ∃ p, WFp p ∧ ss = [.d (Prog.d p)] ∧ μ = [] ∧ ∀ L : List MV, (∀ x, x ∈ L → MvOk p x) → R (.l (L.map mvD)) []
theorem rd_first_of : ∀ ss μ R, pre_firstof ss μ R → WS c (t_first_of c.P c.w c.K (SPM c pre_first) (SPM c pre_nm)) (startD N_first_of ss) μ { nx := fun _ μ' => R (.d .none) μ', rt := R } := by
  rintro ss μ R ⟨p, W, rfl, rfl, h⟩
  unfold t_first_of
  refine ws_ret (we_call0 ?_)
  walk_at "w"
  refine we_call0 ?_
  walk_at "w"
  refine ⟨p, W, rfl, rfl, ?_⟩
  walk_at "w"
  exact ⟨p, first p, W, first_sw W, rfl, rfl, h⟩
end Sw
/-! SwWays3 -/
set_option Elab.async false
set_option linter.all false
set_option maxRecDepth 100000
set_option maxHeartbeats 2000000
namespace Sw
open PySem L2 SwH
local macro_rules | `(tactic| walk_at "w1") => `(tactic| first
  | with_reducible refine ws_seq ?_
  | with_reducible refine ws_asgL ?_
  | with_reducible refine ws_asg ?_
  | with_reducible refine ws_setL ?_
  | with_reducible refine ws_asgT ?_
  | with_reducible refine ws_drop ?_
  | with_reducible refine ws_next ?_
  | with_reducible refine ws_cont ?_
  | with_reducible refine ws_if ?_
  | with_reducible refine ws_for ?_
  | (with_reducible refine we_var rfl ?_)
  | with_reducible refine we_int ?_
  | with_reducible refine we_str ?_
  | with_reducible refine we_bl ?_
  | with_reducible refine we_non ?_
  | with_reducible refine we_eqNil ?_
  | with_reducible refine we_neNil ?_
  | with_reducible refine we_op ?_
  | (with_reducible refine wo_ixT 0 rfl rfl ?_)
  | (with_reducible refine wo_ixT 1 rfl rfl ?_)
  | (with_reducible refine wo_ixT 2 rfl rfl ?_)
  | (with_reducible refine wo_ixT 3 rfl rfl ?_)
  | (with_reducible refine wo_ixT 4 rfl rfl ?_)
  | with_reducible refine wo_add ?_
  | with_reducible refine wo_sub ?_
  | with_reducible refine wo_lt ?_
  | with_reducible refine wo_le ?_
  | with_reducible refine wo_gt ?_
  | with_reducible refine wo_ge ?_
  | with_reducible refine wo_eqI ?_
  | with_reducible refine wo_neI ?_
  | with_reducible refine wo_eqS ?_
  | with_reducible refine wo_neS ?_
  | with_reducible refine wt_test ?_
  | with_reducible refine wt_B ?_
  | with_reducible refine wt_not ?_
  | with_reducible refine wt_and ?_
  | with_reducible refine wt_or ?_
  | with_reducible refine wt_yes ?_
  | with_reducible refine we_andV ?_
  | with_reducible refine we_orV ?_
  | with_reducible refine we_notV ?_
  | with_reducible refine wa_nil ?_
  | with_reducible refine wa_cons ?_
  | with_reducible refine we_bm ?_
  | with_reducible refine we_bm0 ?_
  | with_reducible refine we_tup ?_
  | with_reducible refine we_cb ?_
  | (with_reducible refine ⟨_, rfl, ?_⟩)
  | (refine ⟨by simp, _, rfl, ?_⟩)
  | (refine ⟨ListOf.ty (lo_m 0 rfl), ?_⟩)
  | (refine ⟨ListOf.ty (lo_m 1 rfl), ?_⟩)
  | (refine ⟨ListOf.ty (lo_m 2 rfl), ?_⟩)
  | (refine ⟨ListOf.ty (lo_m 3 rfl), ?_⟩)
  | (refine cs_t (by decide) ?_)
  | (refine cs_f (by decide) ?_))
local macro_rules | `(tactic| walk_at "w") => `(tactic| repeat walk_at "w1")


local macro_rules | `(tactic| walk_at "gs") => `(tactic| first
  | exact gts_nil
  | (refine gts_cons (gt_name (by decide)) ?_; walk_at "gs")
  | (refine gts_cons (gt_tup (by walk_at "gs") rfl) ?_; walk_at "gs"))
local macro_rules | `(tactic| walk_at "g") => `(tactic| first
  | exact gt_name (by decide)
  | exact gt_tup (by walk_at "gs") rfl
  | exact gt_pl (by walk_at "gs"))

variable {c : Ct}
theorem lay_ex {ns : List Str} (hn : ∀ x, x ∈ ns → PyData.strOk x = true) (e : Ex) (h : e.wf ns) : e.d.canLay0 = true ∧ e.d.depth ≤ e.dep + 1 := by
  have k1 : PyData.strOk (Str.ofString "number") = true := by decide +kernel
  have k2 : PyData.strOk (Str.ofString "box") = true := by decide +kernel
  have k3 : PyData.strOk (Str.ofString "+") = true := by decide +kernel
  have k4 : PyData.strOk (Str.ofString "-") = true := by decide +kernel
  have k5 : PyData.strOk (Str.ofString "*") = true := by decide +kernel
  induction e with
  | num n => simp [Ex.d, PyData.canLay0, PyData.canLayAll0, PyData.depth, PyData.depthAll, k1]
  | box x => simp [Ex.d, PyData.canLay0, PyData.canLayAll0, PyData.depth, PyData.depthAll, k2, hn x h]
  | add a b ih1 ih2 => have ih1 := ih1 h.1; have ih2 := ih2 h.2; simp [Ex.d, PyData.canLay0, PyData.canLayAll0, PyData.depth, PyData.depthAll, ih1.1, ih2.1, Ex.dep, k3]; omega
  | sub a b ih1 ih2 => have ih1 := ih1 h.1; have ih2 := ih2 h.2; simp [Ex.d, PyData.canLay0, PyData.canLayAll0, PyData.depth, PyData.depthAll, ih1.1, ih2.1, Ex.dep, k4]; omega
  | mul a b ih1 ih2 =>
    obtain ⟨⟨x, rfl, hx⟩, y, rfl, hy⟩ := h
    have ih1 := ih1 hx; have ih2 := ih2 hy; simp [Ex.d, PyData.canLay0, PyData.canLayAll0, PyData.depth, PyData.depthAll, Ex.dep, k2, k5, hn x hx, hn y hy]
theorem lay_row {p : Prog} (W : WFp p) {r : Row} (h : r.wf p) : r.d.canLay0 = true ∧ r.d.depth ≤ 10 := by
  have k1 : PyData.strOk (Str.ofString "ask") = true := by decide +kernel
  have k2 : PyData.strOk (Str.ofString "put") = true := by decide +kernel
  have k3 : PyData.strOk (Str.ofString "go") = true := by decide +kernel
  have k4 : PyData.strOk (Str.ofString "if") = true := by decide +kernel
  have k5 : PyData.strOk (Str.ofString "stop") = true := by decide +kernel
  have k6 : PyData.strOk (Str.ofString "mark") = true := by decide +kernel
  have k7 (lt : Bool) : PyData.strOk (sgS lt) = true := by cases lt <;> decide +kernel
  cases r with
  | ask a => simp [Row.d, Row.kind, Row.args, PyData.canLay0, PyData.canLayAll0, PyData.depth, PyData.depthAll, k1]
  | put a e =>
    have := lay_ex W.st e h.2.1
    have h2 := h.2.2
    simp [Row.d, Row.kind, Row.args, PyData.canLay0, PyData.canLayAll0, PyData.depth, PyData.depthAll, this.1, k2]; omega
  | go t => simp [Row.d, Row.kind, Row.args, PyData.canLay0, PyData.canLayAll0, PyData.depth, PyData.depthAll, k3]
  | iff lt e f t =>
    have h1 := lay_ex W.st e h.1.1
    have h2 := lay_ex W.st f h.2.1.1
    have h3 := h.1.2
    have h4 := h.2.1.2
    simp [Row.d, Row.kind, Row.args, PyData.canLay0, PyData.canLayAll0, PyData.depth, PyData.depthAll, h1.1, h2.1, k4, k7]; omega
  | stop => simp [Row.d, Row.kind, Row.args, PyData.canLay0, PyData.canLayAll0, PyData.depth, PyData.depthAll, k5]
  | mark m => simp [Row.d, Row.kind, Row.args, PyData.canLay0, PyData.canLayAll0, PyData.depth, PyData.depthAll, k6]; exact h
theorem lay_all {α : Type} (f : α → D) (k : Nat) : ∀ (xs : List α), (∀ x, x ∈ xs → (f x).canLay0 = true ∧ (f x).depth ≤ k) → PyData.canLayAll0 (xs.map f) = true ∧ PyData.depthAll (xs.map f) ≤ k
  | [], _ => ⟨rfl, Nat.zero_le _⟩
  | x :: xs, h => by
    have h1 := h x (by simp)
    have h2 := lay_all f k xs fun y hy => h y (by simp [hy])
    simp [PyData.canLayAll0, PyData.depthAll, h1.1, h2.1]
    omega
theorem shaped_list {α : Type} (f : α → D) (k : Nat) (hk : k ≤ 60) (xs : List α) (h : ∀ x, x ∈ xs → (f x).canLay0 = true ∧ (f x).depth ≤ k) : SeqAt.shaped (.list (xs.map f)) = true := by
  have := lay_all f k xs h
  simp [SeqAt.shaped, PyData.canLay0, PyData.depth, this.1]
  omega
theorem rd_next_of : ∀ ss μ R, pre_nextof ss μ R → WS c (t_next_of c.P c.w c.K (SPM c pre_nm)) (startD N_next_of ss) μ { nx := fun _ μ' => R (.d .none) μ', rt := R } := by
  rintro ss μ R ⟨p, m, v, W, hm, hv, rfl, rfl, h⟩
  unfold t_next_of
  have hmr := mem_marks.mp hm
  refine ws_ret (we_call0 ?_)
  walk_at "w"
  refine ⟨ListOf.ty lo_d, ?_⟩
  walk_at "w"
  have hex : ∃ z, z ∈ p.rows.map Row.d ∧ PyData.eqv z (Row.d (.mark m)) = true := ⟨_, List.mem_map.mpr ⟨_, hmr, rfl⟩, by simp [Row.d, Row.kind, Row.args, PyData.eqv, PyData.eqvAll]⟩
  have hl : (p.rows.map Row.d).findIdx (fun z => PyData.eqv z (Row.d (.mark m))) < (p.rows.map Row.d).length := List.findIdx_lt_length_of_exists hex
  refine wb_indexD (ds := p.rows.map Row.d) (d := Row.d (.mark m)) (j := (p.rows.map Row.d).findIdx (fun z => PyData.eqv z (Row.d (.mark m)))) ⟨_, List.getElem?_eq_getElem hl, List.findIdx_getElem (w := hl), fun m' z' hm' hz' => ?_⟩ ?_ ?_ ?_
  · have := List.not_of_lt_findIdx hm'
    obtain ⟨hl', rfl⟩ := List.getElem?_eq_some_iff.mp hz'
    simpa using this
  · exact shaped_list Row.d 10 (by decide) p.rows fun r hr => lay_row W (W.rw r hr)
  · have := lay_row W (W.rw _ hmr)
    simp only [SeqAt.shaped, this.1, Bool.true_and, decide_eq_true_eq]; omega
  · generalize (p.rows.map Row.d).findIdx (fun z => PyData.eqv z (Row.d (.mark m))) = j at hl
    walk_at "w"
    refine wc_tupT ?_
    walk_at "w"
    exact ⟨p, (j + 1, v), W, ⟨by simp at hl; exact hl, hv⟩, by simp [stD], rfl, h⟩
/-! ### all values -/
def pre_values : List Sl → M → RE → Prop := fun ss μ R => ∃ p, WFp p ∧ ss = [.d (Prog.d p)] ∧ μ = [] ∧ ∀ L : List (List Int), L.length ≤ 1000 → (∀ v, v ∈ L → VW p.boxes v) → R (.l (L.map vD)) []
theorem VW.snoc : ∀ {bs : List Box} {v : List Int} {b : Box} {x : Int}, VW bs v → b.low ≤ x → x ≤ b.high → VW (bs ++ [b]) (v ++ [x])
  | [], [], _, _, _, h1, h2 => ⟨⟨h1, h2⟩, True.intro⟩
  | _ :: _, _ :: _, _, _, h, h1, h2 => ⟨h.1, VW.snoc h.2 h1 h2⟩
  | [], _ :: _, _, _, h, _, _ => h.elim
  | _ :: _, [], _, _, h, _, _ => h.elim
theorem rd_value_tuples : ∀ ss μ R, pre_values ss μ R → WS c (t_value_tuples c.P c.w c.K) (startD N_value_tuples ss) μ { nx := fun _ μ' => R (.d .none) μ', rt := R } := by
  rintro ss μ R ⟨p, W, rfl, rfl, h⟩
  unfold t_value_tuples
  have hb2 := W.b2
  refine ws_seq (ws_asg (we_lstL ?_))
  walk_at "w"
  refine wi_list ?_
  walk_at "w"
  refine ⟨_, _, lk_d, ?_⟩
  refine for_x p.boxes (fun b => .d b.d) (by simp) (fun done Δ μ => ∃ (x2 x3 x4 x5 x6 x7 : Option Sl) (L : List (List Int)), Δ = [some (.d p.d), some (.l (L.map vD)), x2, x3, x4, x5, x6, x7, none] ∧ μ = [] ∧ L.length ≤ 8 ^ done.length ∧ ∀ v, v ∈ L → VW done v) ⟨_, _, _, _, _, _, [[]], rfl, rfl, by simp, by intro v hv; simp at hv; subst hv; exact True.intro⟩ (fun _ _ _ _ => nokeep) ?_ ?_
  · rintro done b rest Δ μ e ⟨x2, x3, x4, x5, x6, x7, L, rfl, rfl, hL, hLv⟩
    have hbm : b ∈ p.boxes := by rw [e]; simp
    have wb := W.bx b hbm
    have := wb.lo
    have := wb.hi
    have := wb.wd
    have := wb.f1
    have := wb.f2
    have hdl : done.length ≤ 1 := by have := congrArg List.length e; simp at this; omega
    have hL8 : L.length ≤ 8 := Nat.le_trans hL (Nat.le_trans (Nat.pow_le_pow_right (by decide) hdl) (by decide))
    refine ⟨_, is12, gt_tup (gts_cons (gt_name (by decide)) (gts_cons (gt_name (by decide)) (gts_cons (gt_name (by decide)) (gts_cons (gt_name (by decide)) gts_nil)))) rfl, ?_⟩
    walk_at "w"
    refine ⟨by simp, fun q => ?_⟩
    refine ws_seq (ws_for (wi_list ?_))
    walk_at "w"
    refine ⟨_, _, lk_l, ?_⟩
    refine for_x L (fun v => .d (vD v)) (by simp) (fun dn Δ μ => ∃ x2 x5 x7 g, Δ = [some (.d p.d), some (.l (L.map vD)), x2, some (.d (.int b.low)), some (.d (.int b.high)), x5, some (.x (.ref q)), x7, none] ∧ μ = (q, lstD vD (dn.flatMap fun v => (rg b.low (b.high + 1)).map fun n => v ++ [n])) :: g) ⟨_, _, _, [], rfl, by simp⟩ (fun _ _ _ _ => nokeep) ?_ ?_
    · rintro dn v rest Δ μ e2 ⟨x2, x5, x7, g, rfl, rfl⟩
      have hvl : v.length ≤ 2 := by
        have := (hLv v (by rw [e2]; simp)).len
        omega
      refine ⟨_, is12, gt_name (by decide), ?_⟩
      refine ws_ext rfl rfl (we_lcRg (fd := vD) b.low (b.high + 1) (fun _ => true) (fun n => v ++ [n]) (by omega) (fun RA r => by walk_at "w"; exact r) (fun n _ _ => wt_yes ⟨rfl, rfl⟩) (fun n _ _ => ?_) fun q2 => ⟨q2, _, rfl, rfl, ?_, ?_⟩)
      · walk_at "w"
        exact wo_catA (by simp; omega) ⟨by simp [dataS], rfl⟩
      · have := flat_len (fun v : List Int => (rg b.low (b.high + 1)).map fun n => v ++ [n]) 8 dn (fun v hv => by rw [List.length_map, rg_len]; omega)
        have : dn.length ≤ 8 := by have := congrArg List.length e2; simp at this; omega
        simp only [List.length_map, filter_tt, rg_len]
        omega
      · exact ⟨_, _, _, _, rfl, mcons (by rw [flat_snoc, filter_tt])⟩
    · rintro Δ μ ⟨x2, x5, x7, g, rfl, rfl⟩
      refine ws_co (co_list 6 0 rfl rfl rfl) ?_
      refine ws_co (co_perm (μ' := []) (ν := _) (List.Perm.refl _)) ?_
      walk_at "w"
      refine ⟨_, _, _, _, _, _, L.flatMap fun v => (rg b.low (b.high + 1)).map fun n => v ++ [n], rfl, rfl, ?_, ?_⟩
      · have := flat_len (fun v : List Int => (rg b.low (b.high + 1)).map fun n => v ++ [n]) 8 L (fun v hv => by rw [List.length_map, rg_len]; omega)
        simp only [List.length_append, List.length_cons, List.length_nil, Nat.zero_add, Nat.pow_succ]
        omega
      · intro v hv
        obtain ⟨u, hu, hv⟩ := List.mem_flatMap.mp hv
        obtain ⟨n, hn, rfl⟩ := List.mem_map.mp hv
        have := mem_rg.mp hn
        exact (hLv u hu).snoc this.1 (by omega)
  · rintro Δ μ ⟨x2, x3, x4, x5, x6, x7, L, rfl, rfl, hL, hLv⟩
    refine ws_ret ?_
    walk_at "w"
    refine h L (Nat.le_trans hL (Nat.le_trans (Nat.pow_le_pow_right (by decide) hb2) (by decide))) hLv
end Sw
/-! SwInpM -/
set_option Elab.async false
set_option linter.all false
set_option maxRecDepth 100000
set_option maxHeartbeats 2000000
namespace Sw
open PySem L2
/-! ### all inputs, by levels -/
abbrev Lv := Stt × List Int
abbrev lvD (x : Lv) : D := .tuple [stD x.1, vD x.2]
abbrev shE (x : Lv) : NK × D := (stK x.1, vD x.2)
def Succ (p : Prog) (s s' : Stt) : Prop := ((∀ a, ¬ IsAsk p s a) ∧ nxt p s 0 = some s') ∨ ∃ a n, IsAsk p s a ∧ takeF p a n s = some s'
theorem SR.all {p : Prog} {S : Stt → Prop} (h0 : S (first p)) (h1 : ∀ s s', S s → Succ p s s' → S s') : ∀ s, SR p s → S s :=
  SR.closed h0 (fun s a n s' h ha e => h1 s s' h (.inr ⟨a, n, ha, e⟩)) fun s s' h ha e => h1 s s' h (.inl ⟨ha, e⟩)
def keysOf (Sh : List Lv) : List Stt := Sh.map (·.1)
structure Iv (p : Prog) (Sh : List Lv) (Pd : Stt → Prop) : Prop where
  snd : ∀ x, x ∈ Sh → Rc p x.2 x.1 []
  nd : (keysOf Sh).Nodup
  cl : ∀ s s', s ∈ keysOf Sh → Succ p s s' → s' ∈ keysOf Sh ∨ Pd s'
  fst : first p ∈ keysOf Sh ∨ Pd (first p)
theorem Iv.mono {p : Prog} {Sh : List Lv} {Pd Pd' : Stt → Prop} (h : Iv p Sh Pd) (k : ∀ s, Pd s → s ∈ keysOf Sh ∨ Pd' s) : Iv p Sh Pd' :=
  ⟨h.snd, h.nd, fun s s' a b => (h.cl s s' a b).elim .inl (k s'), h.fst.elim .inl (k _)⟩
theorem keysOf_snoc {Sh : List Lv} {x : Lv} : keysOf (Sh ++ [x]) = keysOf Sh ++ [x.1] := by simp [keysOf]
theorem Iv.add {p : Prog} {Sh : List Lv} {Pd Pd' : Stt → Prop} {s : Stt} {ns : List Int} (h : Iv p Sh Pd) (n : s ∉ keysOf Sh) (hr : Rc p ns s []) (k : ∀ x, Pd x → x = s ∨ Pd' x) (hs : ∀ x, Succ p s x → Pd' x) : Iv p (Sh ++ [(s, ns)]) Pd' := by
  have kk : ∀ x, Pd x → x ∈ keysOf (Sh ++ [(s, ns)]) ∨ Pd' x := fun x hx => (k x hx).elim (fun e => .inl (by rw [keysOf_snoc, e]; simp)) .inr
  refine ⟨fun x hx => ?_, ?_, fun x x' hx e => ?_, ?_⟩
  · rcases List.mem_append.mp hx with hx | hx
    · exact h.snd x hx
    · simp at hx; subst hx; exact hr
  · rw [keysOf_snoc]
    exact List.nodup_append.mpr ⟨h.nd, by simp, fun a ha b hb => by simp at hb; subst hb; intro e; subst e; exact n ha⟩
  · rw [keysOf_snoc, List.mem_append] at hx
    rcases hx with hx | hx
    · rcases h.cl x x' hx e with q | q
      · exact .inl (by rw [keysOf_snoc]; simp [q])
      · exact kk x' q
    · simp at hx; subst hx; exact .inr (hs x' e)
  · rcases h.fst with q | q
    · exact .inl (by rw [keysOf_snoc]; simp [q])
    · exact kk _ q
theorem Iv.full {p : Prog} {Sh : List Lv} {Pd : Stt → Prop} (h : Iv p Sh Pd) (k : ∀ s, ¬ Pd s) : ∀ s, SR p s → s ∈ keysOf Sh :=
  SR.all (S := fun s => s ∈ keysOf Sh) (h.fst.resolve_right (k _)) fun s s' a b => (h.cl s s' a b).resolve_right (k _)
theorem shE_keys (Sh : List Lv) : (Sh.map shE).map (·.1) = (keysOf Sh).map stK := by simp [keysOf]
theorem mem_keys {Sh : List Lv} {s : Stt} : stK s ∈ (Sh.map shE).map (·.1) ↔ s ∈ keysOf Sh := by
  rw [shE_keys]
  constructor
  · intro h; obtain ⟨x, hx, e⟩ := List.mem_map.mp h; exact stK_inj e ▸ hx
  · intro h; exact List.mem_map.mpr ⟨s, h, rfl⟩
theorem Iv.len {p : Prog} (W : WFp p) {Sh : List Lv} {Pd : Stt → Prop} (h : Iv p Sh Pd) : Sh.length ≤ 640 := by
  have h1 : (keysOf Sh).length ≤ (allSt p).length := nodup_len h.nd fun s hs => by
    obtain ⟨x, hx, rfl⟩ := List.mem_map.mp hs
    exact mem_allSt ((h.snd x hx).sw W)
  have := allSt_len W
  simp [keysOf] at h1
  omega
def goneS (p : Prog) (s : Stt) : Option Stt := match p.rows[s.1]? with
  | some (.ask _) => none
  | _ => nxt p s 0
def goneF (p : Prog) (s : Stt) (ns : List Int) : List Lv := match p.rows[s.1]? with
  | some (.ask a) => (match p.boxes[a]? with
    | none => []
    | some b => (rgI b.low b.high).map fun n => ((s.1 + 1, s.2.set a n), ns ++ [n]))
  | _ => []
theorem goneF_len {p : Prog} (W : WFp p) {s : Stt} {ns : List Int} : (goneF p s ns).length ≤ 8 := by
  unfold goneF
  split
  · split
    · simp
    · rename_i b hb
      have := (W.bx b (List.mem_of_getElem? hb)).wd
      rw [List.length_map, rgI_len]; omega
  · simp
/-- one key more -/
theorem goneF_ok {p : Prog} {s : Stt} {ns : List Int} (h : Rc p ns s []) : ∀ x, x ∈ goneF p s ns → Rc p x.2 x.1 [] ∧ x.2.length = ns.length + 1 := by
  intro x hx
  unfold goneF at hx
  split at hx
  · rename_i a hm
    split at hx
    · cases hx
    · rename_i b hb
      obtain ⟨n, hn, rfl⟩ := List.mem_map.mp hx
      have := mem_rgI.mp hn
      refine ⟨h.ask hm (n := n) ?_, by simp⟩
      unfold takeF
      rw [hb]
      simp
      omega
  · cases hx
theorem goneS_ok {p : Prog} {s s' : Stt} {ns : List Int} (h : Rc p ns s []) (e : goneS p s = some s') : Rc p ns s' [] := by
  unfold goneS at e
  split at e
  · cases e
  · rename_i hm
    exact h.go (fun a ha => hm a ha) e
theorem gone_succ {p : Prog} {s x : Stt} {ns : List Int} (e : Succ p s x) : goneS p s = some x ∨ ∃ y, y ∈ goneF p s ns ∧ y.1 = x := by
  rcases e with ⟨h1, h2⟩ | ⟨a, n, h1, h2⟩
  · left
    unfold goneS
    split
    · rename_i a hm; exact absurd hm (h1 a)
    · exact h2
  · right
    unfold takeF at h2
    cases hb : p.boxes[a]? with
    | none => rw [hb] at h2; cases h2
    | some b =>
      rw [hb] at h2
      simp only at h2
      split at h2
      · cases h2
      · rename_i hn
        cases h2
        have e : goneF p s ns = (rgI b.low b.high).map fun n => ((s.1 + 1, s.2.set a n), ns ++ [n]) := by
          unfold goneF
          unfold IsAsk at h1
          rw [h1]
          simp only [hb]
        rw [e]
        exact ⟨((s.1 + 1, s.2.set a n), ns ++ [n]), List.mem_map.mpr ⟨n, mem_rgI.mpr (by omega), rfl⟩, rfl⟩
end Sw
/-! SwInp -/
set_option Elab.async false
set_option linter.all false
set_option maxRecDepth 100000
set_option maxHeartbeats 2000000
namespace Sw
open PySem L2 SwH
local macro_rules | `(tactic| walk_at "w1") => `(tactic| first
  | with_reducible refine ws_seq ?_
  | with_reducible refine ws_asgL ?_
  | with_reducible refine ws_asg ?_
  | with_reducible refine ws_setL ?_
  | with_reducible refine ws_asgT ?_
  | with_reducible refine ws_drop ?_
  | with_reducible refine ws_next ?_
  | with_reducible refine ws_cont ?_
  | with_reducible refine ws_if ?_
  | with_reducible refine ws_for ?_
  | (with_reducible refine we_var rfl ?_)
  | with_reducible refine we_int ?_
  | with_reducible refine we_str ?_
  | with_reducible refine we_bl ?_
  | with_reducible refine we_non ?_
  | with_reducible refine we_eqNil ?_
  | with_reducible refine we_neNil ?_
  | with_reducible refine we_op ?_
  | (with_reducible refine wo_ixT 0 rfl rfl ?_)
  | (with_reducible refine wo_ixT 1 rfl rfl ?_)
  | (with_reducible refine wo_ixT 2 rfl rfl ?_)
  | (with_reducible refine wo_ixT 3 rfl rfl ?_)
  | (with_reducible refine wo_ixT 4 rfl rfl ?_)
  | with_reducible refine wo_add ?_
  | with_reducible refine wo_sub ?_
  | with_reducible refine wo_lt ?_
  | with_reducible refine wo_le ?_
  | with_reducible refine wo_gt ?_
  | with_reducible refine wo_ge ?_
  | with_reducible refine wo_eqI ?_
  | with_reducible refine wo_neI ?_
  | with_reducible refine wo_eqS ?_
  | with_reducible refine wo_neS ?_
  | with_reducible refine wt_test ?_
  | with_reducible refine wt_B ?_
  | with_reducible refine wt_not ?_
  | with_reducible refine wt_and ?_
  | with_reducible refine wt_or ?_
  | with_reducible refine wt_yes ?_
  | with_reducible refine we_andV ?_
  | with_reducible refine we_orV ?_
  | with_reducible refine we_notV ?_
  | with_reducible refine wa_nil ?_
  | with_reducible refine wa_cons ?_
  | with_reducible refine we_bm ?_
  | with_reducible refine we_bm0 ?_
  | with_reducible refine we_tup ?_
  | with_reducible refine we_cb ?_
  | (with_reducible refine ⟨_, rfl, ?_⟩)
  | (refine ⟨by simp, _, rfl, ?_⟩)
  | (refine ⟨ListOf.ty (lo_m 0 rfl), ?_⟩)
  | (refine ⟨ListOf.ty (lo_m 1 rfl), ?_⟩)
  | (refine ⟨ListOf.ty (lo_m 2 rfl), ?_⟩)
  | (refine ⟨ListOf.ty (lo_m 3 rfl), ?_⟩)
  | (refine cs_t (by decide) ?_)
  | (refine cs_f (by decide) ?_))
local macro_rules | `(tactic| walk_at "w") => `(tactic| repeat walk_at "w1")


local macro_rules | `(tactic| walk_at "gs") => `(tactic| first
  | exact gts_nil
  | (refine gts_cons (gt_name (by decide)) ?_; walk_at "gs")
  | (refine gts_cons (gt_tup (by walk_at "gs") rfl) ?_; walk_at "gs"))
local macro_rules | `(tactic| walk_at "g") => `(tactic| first
  | exact gt_name (by decide)
  | exact gt_tup (by walk_at "gs") rfl
  | exact gt_pl (by walk_at "gs"))

variable {c : Ct}
theorem oD_nonI (o : Option Stt) : nonS (.d (oD o)) = some o.isNone := by cases o <;> rfl
abbrev insO (C dx : Addr) (p : Prog) (pq : Addr) : MO := .ins C dx [("program", .d p.d), ("shortest", .x (.ref pq))]
abbrev lvL (F : List Lv) : MO := lstD lvD F
def pre_gone (K : PySem.W.Frag) : List Sl → M → RE → Prop := fun ss μ R => ∃ p C dx ps pq pf F s ns, InC K C ∧ WFp p ∧ SW p s ∧ F.length ≤ 100000 ∧ ns.length ≤ 1000 ∧ ss = [.x (.ref ps), .d (stD s), .d (vD ns), .x (.ref pf)] ∧
  μ = [(ps, insO C dx p pq), (pf, lvL F)] ∧ R (.d (oD (goneS p s))) [(ps, insO C dx p pq), (pf, lvL (F ++ goneF p s ns))]
theorem rd_gone_on : ∀ ss μ R, pre_gone c.K ss μ R → WS c (t_Inputs_gone_on c.P c.w c.K (SPM c pre_step) (SPM c pre_kind) (SPM c pre_numbers)) (startD N_Inputs_gone_on ss) μ { nx := fun _ μ' => R (.d .none) μ', rt := R } := by
  rintro ss μ R ⟨p, C, dx, ps, pq, pf, F, s, ns, hC, W, hs, hF, hns, rfl, rfl, h⟩
  unfold t_Inputs_gone_on
  have pr (Δ : Vt) (g : M) (R : RE) (h0 : Δ[0]? = some (some (.x (.ref ps)))) (r : R (.d p.d) ((ps, insO C dx p pq) :: g)) : WE c (tFld c.K (tVar 0) "program") Δ ((ps, insO C dx p pq) :: g) R :=
    we_fld (we_var h0 ⟨0, ps, C, dx, _, _, rfl, rfl, hC.cl, hC.nP, rfl, r⟩)
  walk_at "w"
  refine we_call0 (wa_cons (pr _ _ _ rfl ?_))
  walk_at "w"
  refine ⟨p, s, hs, rfl, rfl, ?_⟩
  cases hr : p.rows[s.1]? with
  | none =>
    have hk : kindF p "end" s.1 = "end" := by unfold kindF; rw [hr]
    rw [hk]
    walk_at "w"
    refine we_lstL ?_
    walk_at "w"
    refine wo_inL (xs := [.str "end", .str "stop"]) rfl (lo_l (ds := [.str "end", .str "stop"])) rfl ?_
    walk_at "w"
    refine ws_ret (we_non ?_)
    have e1 : goneS p s = none := by unfold goneS nxt; rw [hr]
    have e2 : goneF p s ns = [] := by unfold goneF; rw [hr]
    rw [e1, e2, List.append_nil] at h; exact h
  | some r =>
    have hk : kindF p "end" s.1 = r.kind := by unfold kindF; rw [hr]
    rw [hk]
    cases r with
    | stop =>
      dsimp only [Row.kind]
      walk_at "w"
      refine we_lstL ?_
      walk_at "w"
      refine wo_inL (xs := [.str "end", .str "stop"]) rfl (lo_l (ds := [.str "end", .str "stop"])) rfl ?_
      walk_at "w"
      refine ws_ret (we_non ?_)
      have e1 : goneS p s = none := by unfold goneS nxt; rw [hr]
      have e2 : goneF p s ns = [] := by unfold goneF; rw [hr]
      rw [e1, e2, List.append_nil] at h; exact h
    | ask a =>
      have ha : a < p.boxes.length := W.rw _ (List.mem_of_getElem? hr)
      have hb : p.boxes[a]? = some p.boxes[a] := List.getElem?_eq_getElem ha
      generalize p.boxes[a] = b at hb
      have wb := W.bx b (List.mem_of_getElem? hb)
      have wd := wb.wd
      dsimp only [Row.kind]
      walk_at "w"
      refine we_lstL ?_
      walk_at "w"
      refine wo_inL (xs := [.str "end", .str "stop"]) rfl (lo_l (ds := [.str "end", .str "stop"])) rfl ?_
      walk_at "w"
      refine wi_list (we_call0 (wa_cons (pr _ _ _ rfl ?_)))
      walk_at "w"
      refine ⟨p, s, a, b, W, hr, hb, rfl, rfl, ?_⟩
      refine ⟨_, _, lk_l, ?_⟩
      refine for_x (rg b.low (b.high + 1)) (fun n => .d (.int n)) (by simp) (fun done Δ μ => ∃ x5, Δ = [some (.x (.ref ps)), some (.d (stD s)), some (.d (vD ns)), some (.x (.ref pf)), some (.d (.str "ask")), x5] ∧
        μ = [(ps, insO C dx p pq), (pf, lvL (F ++ done.map fun n => ((s.1 + 1, s.2.set a n), ns ++ [n])))]) ⟨_, rfl, by simp⟩ (fun _ _ _ _ => nokeep) ?_ ?_
      · rintro done n rest Δ μ e ⟨x5, rfl, rfl⟩
        have hn' := mem_rg.mp (show n ∈ rg b.low (b.high + 1) by rw [e]; simp)
        have hdl : done.length ≤ 8 := by have := congrArg List.length e; simp [rg_len] at this; omega
        refine ⟨_, is12, gt_name (by decide), ?_⟩
        refine ws_drop (we_bm (we_var rfl ⟨ListOf.ty (lo_m 1 rfl), ?_⟩))
        refine wa_cons (we_tup (wa_cons (we_call0 (wa_cons (pr _ _ _ rfl ?_)))))
        walk_at "w"
        refine ⟨p, s, .ask a, n, _, W, hs, hr, (by intro z; cases z), fun _ _ => rfl, rfl, rfl, ?_⟩
        have e1 : nxt p s n = some (s.1 + 1, s.2.set a n) := by unfold nxt; rw [hr]; exact ask_take hb hn'.1 hn'.2
        rw [e1]
        walk_at "w"
        refine wo_catA (by simp; omega) ?_
        walk_at "w"
        refine wb_appendD 1 ((F ++ done.map fun n => ((s.1 + 1, s.2.set a n), ns ++ [n])).map lvD) rfl rfl (by simp; omega) ?_
        refine ⟨_, rfl, ?_⟩
        simp [oD]
      · rintro Δ μ ⟨x5, rfl, rfl⟩
        refine ws_ret (we_non ?_)
        have e1 : goneS p s = none := by unfold goneS; rw [hr]
        have e2 : goneF p s ns = (rg b.low (b.high + 1)).map fun n => ((s.1 + 1, s.2.set a n), ns ++ [n]) := by unfold goneF; rw [hr]; simp only [hb]; rfl
        rw [e1, e2] at h; exact h
    | _ =>
      dsimp only [Row.kind]
      walk_at "w"
      refine we_lstL ?_
      walk_at "w"
      refine wo_inL (xs := [.str "end", .str "stop"]) rfl (lo_l (ds := [.str "end", .str "stop"])) rfl ?_
      walk_at "w"
      refine ws_ret (we_call0 (wa_cons (pr _ _ _ rfl ?_)))
      walk_at "w"
      refine ⟨p, s, _, 0, _, W, hs, hr, (by intro z; cases z), (by intro a z; cases z), rfl, rfl, ?_⟩
      have e1 : goneS p s = nxt p s 0 := by unfold goneS; rw [hr]
      have e2 : goneF p s ns = [] := by unfold goneF; rw [hr]
      rw [e1, e2, List.append_nil] at h; exact h
end Sw
/-! SwInp2 -/
set_option Elab.async false
set_option linter.all false
set_option maxRecDepth 100000
set_option maxHeartbeats 2000000
namespace Sw
open PySem L2 SwH
local macro_rules | `(tactic| walk_at "w1") => `(tactic| first
  | with_reducible refine ws_seq ?_
  | with_reducible refine ws_asgL ?_
  | with_reducible refine ws_asg ?_
  | with_reducible refine ws_setL ?_
  | with_reducible refine ws_asgT ?_
  | with_reducible refine ws_drop ?_
  | with_reducible refine ws_next ?_
  | with_reducible refine ws_cont ?_
  | with_reducible refine ws_if ?_
  | with_reducible refine ws_for ?_
  | (with_reducible refine we_var rfl ?_)
  | with_reducible refine we_int ?_
  | with_reducible refine we_str ?_
  | with_reducible refine we_bl ?_
  | with_reducible refine we_non ?_
  | with_reducible refine we_eqNil ?_
  | with_reducible refine we_neNil ?_
  | with_reducible refine we_op ?_
  | (with_reducible refine wo_ixT 0 rfl rfl ?_)
  | (with_reducible refine wo_ixT 1 rfl rfl ?_)
  | (with_reducible refine wo_ixT 2 rfl rfl ?_)
  | (with_reducible refine wo_ixT 3 rfl rfl ?_)
  | (with_reducible refine wo_ixT 4 rfl rfl ?_)
  | with_reducible refine wo_add ?_
  | with_reducible refine wo_sub ?_
  | with_reducible refine wo_lt ?_
  | with_reducible refine wo_le ?_
  | with_reducible refine wo_gt ?_
  | with_reducible refine wo_ge ?_
  | with_reducible refine wo_eqI ?_
  | with_reducible refine wo_neI ?_
  | with_reducible refine wo_eqS ?_
  | with_reducible refine wo_neS ?_
  | with_reducible refine wt_test ?_
  | with_reducible refine wt_B ?_
  | with_reducible refine wt_not ?_
  | with_reducible refine wt_and ?_
  | with_reducible refine wt_or ?_
  | with_reducible refine wt_yes ?_
  | with_reducible refine we_andV ?_
  | with_reducible refine we_orV ?_
  | with_reducible refine we_notV ?_
  | with_reducible refine wa_nil ?_
  | with_reducible refine wa_cons ?_
  | with_reducible refine we_bm ?_
  | with_reducible refine we_bm0 ?_
  | with_reducible refine we_tup ?_
  | with_reducible refine we_cb ?_
  | (with_reducible refine ⟨_, rfl, ?_⟩)
  | (refine ⟨by simp, _, rfl, ?_⟩)
  | (refine ⟨ListOf.ty (lo_m 0 rfl), ?_⟩)
  | (refine ⟨ListOf.ty (lo_m 1 rfl), ?_⟩)
  | (refine ⟨ListOf.ty (lo_m 2 rfl), ?_⟩)
  | (refine ⟨ListOf.ty (lo_m 3 rfl), ?_⟩)
  | (refine cs_t (by decide) ?_)
  | (refine cs_f (by decide) ?_))
local macro_rules | `(tactic| walk_at "w") => `(tactic| repeat walk_at "w1")


local macro_rules | `(tactic| walk_at "gs") => `(tactic| first
  | exact gts_nil
  | (refine gts_cons (gt_name (by decide)) ?_; walk_at "gs")
  | (refine gts_cons (gt_tup (by walk_at "gs") rfl) ?_; walk_at "gs"))
local macro_rules | `(tactic| walk_at "g") => `(tactic| first
  | exact gt_name (by decide)
  | exact gt_tup (by walk_at "gs") rfl
  | exact gt_pl (by walk_at "gs"))

variable {c : Ct}
theorem we_nd {te : TE} {Δ : Vt} {μ : M} {R : RE} (h : (dom μ).Nodup → WE c te Δ μ R) : WE c te Δ μ R := fun B σ H bh e m Q q => h m.nd B σ H bh e m Q q
structure LvOk (p : Prog) (Sh P : List Lv) : Prop where
  iv : Iv p Sh fun x => x ∈ keysOf P
  snd : ∀ x, x ∈ P → Rc p x.2 x.1 [] ∧ x.2.length ≤ Sh.length
  len : ∀ x, x ∈ Sh → x.2.length ≤ 640
def pre_level (K : PySem.W.Frag) (C : Addr) : List Sl → M → RE → Prop := fun ss μ R => ∃ p dx ps pq Sh P, InC K C ∧ WFp p ∧ LvOk p Sh P ∧ ss = [.x (.ref ps), .l (P.map lvD)] ∧
  μ = [(ps, insO C dx p pq), (pq, .dn (Sh.map shE))] ∧ ∀ Sh' F, LvOk p Sh' F → (F ≠ [] → Sh.length < Sh'.length) → Sh.length ≤ Sh'.length → R (.l (F.map lvD)) [(ps, insO C dx p pq), (pq, .dn (Sh'.map shE))]
theorem rd_next_level {C : Addr} : ∀ ss μ R, pre_level c.K C ss μ R → WS c (t_Inputs_next_level c.P c.w c.K C (SPM c (pre_gone c.K))) (startD N_Inputs_next_level ss) μ { nx := fun _ μ' => R (.d .none) μ', rt := R } := by
  rintro ss μ R ⟨p, dx, ps, pq, Sh, P, hC, W, hok, rfl, rfl, h⟩
  unfold t_Inputs_next_level
  have sh (Δ : Vt) (g : M) (R : RE) (h0 : Δ[0]? = some (some (.x (.ref ps)))) (r : R (.x (.ref pq)) ((ps, insO C dx p pq) :: g)) : WE c (tFld c.K (tVar 0) "shortest") Δ ((ps, insO C dx p pq) :: g) R :=
    we_fld (we_var h0 ⟨0, ps, C, dx, _, _, rfl, rfl, hC.cl, hC.nS, rfl, r⟩)
  have hL0 := hok.iv.len W
  refine ws_seq (ws_asgL (wa_nil ⟨by simp, fun pf => ?_⟩))
  refine ws_co (co_perm (μ' := [(ps, insO C dx p pq), (pf, lvL []), (pq, .dn (Sh.map shE))]) (ν := []) ((List.Perm.swap _ _ _).cons _)) ?_
  refine ws_seq (ws_for (wi_list ?_))
  walk_at "w"
  refine ⟨_, _, lk_l, ?_⟩
  refine for_x P (fun x => .d (lvD x)) (by simp) (fun done Δ μ => ∃ x3 x4 x5 Sh1 F rest, Δ = [some (.x (.ref ps)), some (.l (P.map lvD)), some (.x (.ref pf)), x3, x4, x5] ∧ μ = [(ps, insO C dx p pq), (pf, lvL F), (pq, .dn (Sh1.map shE))] ∧ P = done ++ rest ∧
    Iv p Sh1 (fun x => x ∈ keysOf rest ∨ x ∈ keysOf F) ∧ (∀ x, x ∈ F → Rc p x.2 x.1 [] ∧ x.2.length ≤ Sh.length + 1) ∧ (F ≠ [] → Sh.length < Sh1.length) ∧ Sh.length ≤ Sh1.length ∧ (∀ x, x ∈ Sh1 → x.2.length ≤ 640) ∧ F.length ≤ 8 * Sh1.length)
    ⟨_, _, _, Sh, [], P, rfl, rfl, rfl, hok.iv.mono fun s hs => .inr (.inl hs), by simp, by simp, Nat.le_refl _, hok.len, by simp⟩ (fun _ _ _ _ => nokeep) ?_ ?_
  · rintro done ⟨b, ns⟩ rest0 Δ μ e ⟨x3, x4, x5, Sh1, F, rest, rfl, rfl, e2, hiv, hF, hFn, hlen, hns, hFl⟩
    have e3 : rest = (b, ns) :: rest0 := List.append_cancel_left (e2.symm.trans e)
    subst e3
    have hbn := hok.snd (b, ns) (by rw [e]; simp)
    refine ⟨_, is12, gt_tup (gts_cons (gt_name (by decide)) (gts_cons (gt_name (by decide)) gts_nil)) rfl, ?_⟩
    walk_at "w"
    refine ws_while (fun m Δ μ => ∃ o Sh1 F, Δ = [some (.x (.ref ps)), some (.l (P.map lvD)), some (.x (.ref pf)), some (.d (stD b)), some (.d (vD ns)), some (.d (oD o))] ∧ μ = [(ps, insO C dx p pq), (pf, lvL F), (pq, .dn (Sh1.map shE))] ∧
      Iv p Sh1 (fun x => o = some x ∨ x ∈ keysOf rest0 ∨ x ∈ keysOf F) ∧ (∀ s, o = some s → Rc p ns s []) ∧ (∀ x, x ∈ F → Rc p x.2 x.1 [] ∧ x.2.length ≤ Sh.length + 1) ∧ (F ≠ [] → Sh.length < Sh1.length) ∧ Sh.length ≤ Sh1.length ∧ (∀ x, x ∈ Sh1 → x.2.length ≤ 640) ∧ F.length ≤ 8 * Sh1.length ∧ m = 700 - Sh1.length)
      ⟨_, some b, Sh1, F, rfl, rfl, hiv.mono (fun s hs => .inr (by
        rcases hs with hs | hs
        · simp only [keysOf, List.map_cons, List.mem_cons] at hs
          rcases hs with hs | hs
          · exact .inl (by rw [hs])
          · exact .inr (.inl hs)
        · exact .inr (.inr hs))), (fun s e => by cases e; exact hbn.1), hF, hFn, hlen, hns, hFl, rfl⟩ ?_
    rintro m Δ μ ⟨o, Sh1, F, rfl, rfl, hiv, ho, hF, hFn, hlen, hns, hFl, hm⟩
    have hl1 := hiv.len W
    walk_at "w"
    refine wo_notN (oD_nonI o) ?_
    walk_at "w"
    have out : (∀ x, o = some x → x ∈ keysOf Sh1) → ∃ x3 x4 x5 Sh2 F2 rest, ([some (.x (.ref ps)), some (.l (P.map lvD)), some (.x (.ref pf)), some (.d (stD b)), some (.d (vD ns)), some (.d (oD o))] : Vt) = [some (.x (.ref ps)), some (.l (P.map lvD)), some (.x (.ref pf)), x3, x4, x5] ∧ ([(ps, insO C dx p pq), (pf, lvL F), (pq, .dn (Sh1.map shE))] : M) = [(ps, insO C dx p pq), (pf, lvL F2), (pq, .dn (Sh2.map shE))] ∧ P = (done ++ [(b, ns)]) ++ rest ∧
        Iv p Sh2 (fun x => x ∈ keysOf rest ∨ x ∈ keysOf F2) ∧ (∀ x, x ∈ F2 → Rc p x.2 x.1 [] ∧ x.2.length ≤ Sh.length + 1) ∧ (F2 ≠ [] → Sh.length < Sh2.length) ∧ Sh.length ≤ Sh2.length ∧ (∀ x, x ∈ Sh2 → x.2.length ≤ 640) ∧ F2.length ≤ 8 * Sh2.length := fun k =>
      ⟨_, _, _, Sh1, F, rest0, rfl, rfl, by simpa using e, hiv.mono (fun s hs => hs.elim (fun q => .inl (k s q)) .inr), hF, hFn, hlen, hns, hFl⟩
    cases o with
    | none => exact cs_f rfl (cs_f rfl (out fun x z => by cases z))
    | some s =>
      have hrc := ho s rfl
      have hsw := hrc.sw W
      refine cs_t rfl (wt_B (we_nnotin ?_))
      walk_at "w"
      refine sh _ _ _ rfl ?_
      refine ⟨Sh1.map shE, stK s, nd_m 2 rfl, isK_st s, ?_⟩
      walk_at "w"
      refine ⟨fun z => ?_, fun z => out fun x hx => by cases hx; exact mem_keys.mp (is_key z)⟩
      have hnk := not_key z
      have hnk' : s ∉ keysOf Sh1 := fun q => hnk (mem_keys.mpr q)
      walk_at "w"
      refine ws_nput ?_
      walk_at "w"
      refine sh _ _ _ rfl ?_
      walk_at "w"
      refine ⟨2, pq, _, stK s, vD ns, rfl, rfl, isK_st s, rfl, by simp; omega, ?_⟩
      rw [putS_new hnk]
      walk_at "w"
      refine we_meth [0, 0] ?_
      walk_at "w"
      refine ⟨0, ps, dx, [("program", .d p.d), ("shortest", .x (.ref pq))], rfl, rfl, rfl, ?_⟩
      walk_at "w"
      refine ⟨p, C, dx, ps, pq, pf, F, s, ns, hC, W, hsw, by omega, by have := hbn.2; simp only at this; omega, rfl, rfl, ?_⟩
      refine ⟨_, ?_, goneS p s, Sh1 ++ [(s, ns)], F ++ goneF p s ns, rfl, by simp, ?_, ?_, ?_, ?_, ?_, ?_, ?_, rfl⟩
      · simp only [List.length_append, List.length_cons, List.length_nil]; omega
      · refine hiv.add hnk' hrc (fun x hx => ?_) (fun x hx => ?_)
        · rcases hx with hx | hx | hx
          · cases hx; exact .inl rfl
          · exact .inr (.inr (.inl hx))
          · exact .inr (.inr (.inr (by simp only [keysOf, List.map_append, List.mem_append]; exact .inl hx)))
        · rcases gone_succ (ns := ns) hx with q | ⟨y, hy, rfl⟩
          · exact .inl q
          · exact .inr (.inr (by simp only [keysOf, List.map_append, List.mem_append]; exact .inr (List.mem_map.mpr ⟨y, hy, rfl⟩)))
      · intro s' hs'
        exact goneS_ok hrc hs'
      · intro x hx
        rcases List.mem_append.mp hx with hx | hx
        · exact hF x hx
        · have := goneF_ok hrc x hx
          have h2 := hbn.2
          simp only at h2
          exact ⟨this.1, by omega⟩
      · intro _
        simp only [List.length_append, List.length_cons, List.length_nil]; omega
      · simp only [List.length_append, List.length_cons, List.length_nil]; omega
      · intro x hx
        rcases List.mem_append.mp hx with hx | hx
        · exact hns x hx
        · simp at hx; subst hx; have := hbn.2; simp only at this ⊢; omega
      · have := goneF_len W (s := s) (ns := ns)
        simp only [List.length_append, List.length_cons, List.length_nil]; omega
  · rintro Δ μ ⟨x3, x4, x5, Sh1, F, rest, rfl, rfl, e2, hiv, hF, hFn, hlen, hns, hFl⟩
    have e3 : rest = [] := by simpa using e2
    subst e3
    refine ws_retL 2 ?_
    walk_at "w"
    refine ⟨1, pf, _, _, rfl, rfl, rfl, ?_⟩
    refine h Sh1 F ⟨hiv.mono fun s hs => .inr (hs.elim (fun q => by cases q) id), fun x hx => ⟨(hF x hx).1, ?_⟩, hns⟩ hFn hlen
    have h1 := (hF x hx).2
    have h2 := hFn (by intro z; subst z; cases hx)
    omega
end Sw
/-! SwInp3 -/
set_option Elab.async false
set_option linter.all false
set_option maxRecDepth 100000
set_option maxHeartbeats 2000000
namespace Sw
open PySem L2 SwH
local macro_rules | `(tactic| walk_at "w1") => `(tactic| first
  | with_reducible refine ws_seq ?_
  | with_reducible refine ws_asgL ?_
  | with_reducible refine ws_asg ?_
  | with_reducible refine ws_setL ?_
  | with_reducible refine ws_asgT ?_
  | with_reducible refine ws_drop ?_
  | with_reducible refine ws_next ?_
  | with_reducible refine ws_cont ?_
  | with_reducible refine ws_if ?_
  | with_reducible refine ws_for ?_
  | (with_reducible refine we_var rfl ?_)
  | with_reducible refine we_int ?_
  | with_reducible refine we_str ?_
  | with_reducible refine we_bl ?_
  | with_reducible refine we_non ?_
  | with_reducible refine we_eqNil ?_
  | with_reducible refine we_neNil ?_
  | with_reducible refine we_op ?_
  | (with_reducible refine wo_ixT 0 rfl rfl ?_)
  | (with_reducible refine wo_ixT 1 rfl rfl ?_)
  | (with_reducible refine wo_ixT 2 rfl rfl ?_)
  | (with_reducible refine wo_ixT 3 rfl rfl ?_)
  | (with_reducible refine wo_ixT 4 rfl rfl ?_)
  | with_reducible refine wo_add ?_
  | with_reducible refine wo_sub ?_
  | with_reducible refine wo_lt ?_
  | with_reducible refine wo_le ?_
  | with_reducible refine wo_gt ?_
  | with_reducible refine wo_ge ?_
  | with_reducible refine wo_eqI ?_
  | with_reducible refine wo_neI ?_
  | with_reducible refine wo_eqS ?_
  | with_reducible refine wo_neS ?_
  | with_reducible refine wt_test ?_
  | with_reducible refine wt_B ?_
  | with_reducible refine wt_not ?_
  | with_reducible refine wt_and ?_
  | with_reducible refine wt_or ?_
  | with_reducible refine wt_yes ?_
  | with_reducible refine we_andV ?_
  | with_reducible refine we_orV ?_
  | with_reducible refine we_notV ?_
  | with_reducible refine wa_nil ?_
  | with_reducible refine wa_cons ?_
  | with_reducible refine we_bm ?_
  | with_reducible refine we_bm0 ?_
  | with_reducible refine we_tup ?_
  | with_reducible refine we_cb ?_
  | (with_reducible refine ⟨_, rfl, ?_⟩)
  | (refine ⟨by simp, _, rfl, ?_⟩)
  | (refine ⟨ListOf.ty (lo_m 0 rfl), ?_⟩)
  | (refine ⟨ListOf.ty (lo_m 1 rfl), ?_⟩)
  | (refine ⟨ListOf.ty (lo_m 2 rfl), ?_⟩)
  | (refine ⟨ListOf.ty (lo_m 3 rfl), ?_⟩)
  | (refine cs_t (by decide) ?_)
  | (refine cs_f (by decide) ?_))
local macro_rules | `(tactic| walk_at "w") => `(tactic| repeat walk_at "w1")


local macro_rules | `(tactic| walk_at "gs") => `(tactic| first
  | exact gts_nil
  | (refine gts_cons (gt_name (by decide)) ?_; walk_at "gs")
  | (refine gts_cons (gt_tup (by walk_at "gs") rfl) ?_; walk_at "gs"))
local macro_rules | `(tactic| walk_at "g") => `(tactic| first
  | exact gt_name (by decide)
  | exact gt_tup (by walk_at "gs") rfl
  | exact gt_pl (by walk_at "gs"))

variable {c : Ct}
structure ShOk (p : Prog) (Sh : List Lv) : Prop where
  snd : ∀ x, x ∈ Sh → Rc p x.2 x.1 [] ∧ x.2.length ≤ 640
  full : ∀ s, SR p s → s ∈ keysOf Sh
  len : Sh.length ≤ 640
def pre_init (K : PySem.W.Frag) (C : Addr) : List Sl → M → RE → Prop := fun ss μ R => ∃ p dx ps, InC K C ∧ WFp p ∧ ss = [.x (.ref ps), .d (Prog.d p)] ∧ μ = [(ps, .ins C dx [])] ∧
  ∀ Sh pq, ShOk p Sh → R (.d .none) [(ps, insO C dx p pq), (pq, .dn (Sh.map shE))]
theorem rd_Inputs_init {C : Addr} : ∀ ss μ R, pre_init c.K C ss μ R → WS c (t_Inputs_init c.P c.w c.K C (SPM c (pre_level c.K C)) (SPM c pre_first)) (startD N_Inputs_init ss) μ { nx := fun _ μ' => R (.d .none) μ', rt := R } := by
  rintro ss μ R ⟨p, dx, ps, hC, W, rfl, rfl, h⟩
  unfold t_Inputs_init
  refine ws_seq (ws_fld ?_)
  walk_at "w"
  refine ⟨0, ps, C, dx, [], rfl, rfl, hC.cl, hC.nP, by simp, ?_⟩
  refine ws_seq (ws_fld (we_nnew fun pq => ?_))
  walk_at "w"
  refine ⟨0, ps, C, dx, [("program", .d p.d)], rfl, rfl, hC.cl, hC.nS, by simp, ?_⟩
  have e0 : putF2 "shortest" (.x (.ref pq)) [((Str.ofString "program"), Sl.d p.d)] = [(Str.ofString "program", Sl.d p.d), (Str.ofString "shortest", Sl.x (.ref pq))] := by
    simp only [putF2]
    rw [if_neg (by decide)]
  rw [e0]
  refine ws_seq (ws_asg (we_lstL ?_))
  walk_at "w"
  refine we_call0 ?_
  walk_at "w"
  refine ⟨p, W, rfl, rfl, ?_⟩
  walk_at "w"
  have iv0 : LvOk p [] [(first p, [])] := ⟨⟨(fun x h => by cases h), List.nodup_nil, (fun s s' h => by cases h), .inr (by simp [keysOf])⟩, (fun x hx => by simp at hx; subst hx; exact ⟨.start, by simp⟩), (fun x h => by cases h)⟩
  refine ws_while (fun m Δ μ => ∃ P Sh, Δ = [some (.x (.ref ps)), some (.d p.d), some (.l (P.map lvD))] ∧ μ = [(ps, insO C dx p pq), (pq, .dn (Sh.map shE))] ∧ LvOk p Sh P ∧ m = 2 * (700 - Sh.length) + (if P = [] then 0 else 1)) ⟨_, [(first p, [])], [], rfl, rfl, iv0, rfl⟩ ?_
  rintro m Δ μ ⟨P, Sh, rfl, rfl, hok, hm⟩
  have hl := hok.iv.len W
  walk_at "w"
  refine ⟨_, lo_l, ?_⟩
  refine ⟨_, rfl, ?_⟩
  cases P with
  | nil =>
    refine cs_f rfl ?_
    exact h Sh pq ⟨fun x hx => ⟨hok.iv.snd x hx, hok.len x hx⟩, hok.iv.full (fun s q => by cases q), hl⟩
  | cons x P =>
    refine cs_t rfl ?_
    walk_at "w"
    refine we_meth [0, 0] ?_
    walk_at "w"
    refine ⟨0, ps, dx, [("program", .d p.d), ("shortest", .x (.ref pq))], rfl, rfl, rfl, ?_⟩
    walk_at "w"
    refine ⟨p, dx, ps, pq, Sh, x :: P, hC, W, hok, rfl, rfl, fun Sh' F hok' hgrow hle => ?_⟩
    have hl' := hok'.iv.len W
    refine ⟨_, ?_, F, Sh', rfl, rfl, hok', rfl⟩
    simp only [List.cons_ne_nil, if_false] at hm
    cases F with
    | nil =>
      simp only [if_true]; omega
    | cons y F => have := hgrow (by simp); simp only [List.cons_ne_nil, if_false]; omega
/-! ### what comes to each mark -/
structure KfOk (p : Prog) (kf : List (NK × D)) : Prop where
  snd : ∀ e, e ∈ kf → ∃ x ns, e = (mvK x, vD ns) ∧ Passed p ns x ∧ ns.length ≤ 640
  full : ∀ x, Reach p x → mvK x ∈ kf.map (·.1)
  len : kf.length ≤ 640
def pre_inpof (K : PySem.W.Frag) (C : Addr) : List Sl → M → RE → Prop := fun ss μ R => ∃ p, InC K C ∧ WFp p ∧ ss = [.d (Prog.d p)] ∧ μ = [] ∧ ∀ kf, KfOk p kf → R (.nd kf) []
theorem mem_putS {κ σ : Type} [DecidableEq κ] {kvs : List (κ × σ)} {k : κ} {v : σ} {e : κ × σ} (h : e ∈ putS kvs k v) : e = (k, v) ∨ e ∈ kvs := by
  unfold putS at h
  split at h
  · obtain ⟨a, ha, rfl⟩ := List.mem_map.mp h
    split
    · rename_i z; left; rw [z]
    · exact .inr ha
  · rcases List.mem_append.mp h with h | h
    · exact .inr h
    · simp at h; exact .inl h
theorem getS_sh {Sh : List Lv} (nd : (keysOf Sh).Nodup) {x : Lv} (h : x ∈ Sh) : getS (Sh.map shE) (stK x.1) = some (vD x.2) := by
  induction Sh with
  | nil => cases h
  | cons a r ih =>
    simp only [keysOf, List.map_cons, List.nodup_cons] at nd
    rcases List.mem_cons.mp h with rfl | h
    · simp [getS]
    · have : stK a.1 ≠ stK x.1 := fun e => nd.1 (by rw [stK_inj e]; exact List.mem_map.mpr ⟨x, h, rfl⟩)
      have := ih nd.2 h
      simp only [getS, List.map_cons, List.find?_cons] at this ⊢
      rw [show decide ((shE a).1 = stK x.1) = false by simpa using ‹stK a.1 ≠ stK x.1›]
      exact this
theorem rd_inputs_of {C : Addr} : ∀ ss μ R, pre_inpof c.K C ss μ R → WS c (t_inputs_of c.P c.w c.K C (SPM c (pre_init c.K C)) (SPM c pre_kind)) (startD N_inputs_of ss) μ { nx := fun _ μ' => R (.d .none) μ', rt := R } := by
  rintro ss μ R ⟨p, hC, W, rfl, rfl, h⟩
  unfold t_inputs_of
  walk_at "w"
  refine we_fld (we_make ?_)
  walk_at "w"
  intro ps dx
  refine ⟨p, dx, ps, hC, W, rfl, rfl, fun Sh pq hsh => ⟨rfl, ?_⟩⟩
  refine ⟨0, ps, C, dx, _, _, rfl, rfl, hC.cl, hC.nS, rfl, ?_⟩
  refine ws_co (co_dn 1 1 rfl rfl) ?_
  refine ws_co (co_perm (μ' := []) (ν := _) (List.Perm.refl _)) ?_
  walk_at "w"
  refine we_nnew (fun pf => ?_)
  refine ws_seq (ws_for (wi_keysN ?_))
  walk_at "w"
  intro nd
  have nd' : (keysOf Sh).Nodup := by
    rw [shE_keys] at nd
    exact (List.pairwise_map.mp nd).imp fun h e => h (by rw [e])
  refine for_x Sh (fun x => .d (stD x.1)) (by simp [stK_data]) (fun done Δ μ => ∃ x3 kf, Δ = [some (.d p.d), some (.nd (Sh.map shE)), some (.x (.ref pf)), x3] ∧ μ = [(pf, .dn kf)] ∧ (∀ e, e ∈ kf → ∃ x ns, e = (mvK x, vD ns) ∧ Passed p ns x ∧ ns.length ≤ 640) ∧ (∀ y m, y ∈ done → p.rows[y.1.1]? = some (.mark m) → mvK (m, y.1.2) ∈ kf.map (·.1)) ∧ kf.length ≤ done.length)
    ⟨_, [], rfl, rfl, by simp, by simp, by simp⟩ (fun _ _ _ _ => nokeep) ?_ ?_
  · rintro done x rest Δ μ e ⟨x3, kf, rfl, rfl, hkf, hfull, hkl⟩
    have hx : x ∈ Sh := by rw [e]; simp
    have hxo := hsh.snd x hx
    have hsw := hxo.1.sw W
    have hdl : done.length ≤ 640 := by have := congrArg List.length e; have := hsh.len; simp at *; omega
    refine ⟨_, is12, gt_name (by decide), ?_⟩
    walk_at "w"
    refine we_call0 ?_
    walk_at "w"
    refine ⟨p, x.1, hsw, rfl, rfl, ?_⟩
    walk_at "w"
    refine ⟨fun z => ?_, fun z => ?_⟩
    · obtain ⟨mk, hr⟩ : ∃ mk, p.rows[x.1.1]? = some (.mark mk) := by
        simp only [decide_eq_true_eq] at z
        unfold kindF at z
        cases hr : p.rows[x.1.1]? with
        | none => rw [hr] at z; exact absurd z (by decide)
        | some r => rw [hr] at z; obtain ⟨m, rfl⟩ := kind_mark z; exact ⟨m, rfl⟩
      refine ws_nput (we_nget (kvs := []) (k := stK x.1) ?_)
      walk_at "w"
      refine ⟨Sh.map shE, stK x.1, vD x.2, nd_f, isK_st x.1, getS_sh nd' hx, ?_⟩
      walk_at "w"
      refine wo_ixL x.1.1 rfl lo_d (t := .d (Row.mark mk).d) (by simp [hr]) ?_
      dsimp only [Row.d, Row.kind, Row.args]
      walk_at "w"
      refine ⟨0, pf, kf, mvK (mk, x.1.2), _, rfl, rfl, isK_mv (mk, x.1.2), rfl, by omega, ?_⟩
      refine ⟨_, _, rfl, rfl, ?_, ?_, ?_⟩
      · intro e' he
        rcases mem_putS he with rfl | he
        · exact ⟨(mk, x.1.2), x.2, rfl, ⟨x.1, [], hxo.1, hr, rfl⟩, hxo.2⟩
        · exact hkf e' he
      · intro y m hy hm
        rw [putS_keys]
        rcases List.mem_append.mp hy with hy | hy
        · have := hfull y m hy hm
          split
          · exact this
          · simp only [List.mem_append]; exact .inl this
        · simp only [List.mem_singleton] at hy
          subst hy
          rw [hr] at hm
          cases hm
          split
          · assumption
          · simp
      · have := putS_len (kvs := kf) (k := mvK (mk, x.1.2)) (v := vD x.2)
        simp only [List.length_append, List.length_cons, List.length_nil]; omega
    · refine ws_next ⟨_, kf, rfl, rfl, hkf, ?_, by simp; omega⟩
      intro y m hy hm
      rcases List.mem_append.mp hy with hy | hy
      · exact hfull y m hy hm
      · simp only [List.mem_singleton] at hy
        subst hy
        simp only [decide_eq_false_iff_not] at z
        exact absurd (by unfold kindF; rw [hm]) z
  · rintro Δ μ ⟨x3, kf, rfl, rfl, hkf, hfull, hkl⟩
    refine ws_ret (we_keep 0 (we_frzN ?_))
    walk_at "w"
    refine ⟨0, pf, kf, rfl, rfl, h kf ⟨hkf, fun x hx => ?_, by have := hsh.len; omega⟩⟩
    obtain ⟨s, hs, hm⟩ := reach_iff.mp hx
    obtain ⟨y, hy, rfl⟩ := List.mem_map.mp (hsh.full s hs)
    have := hfull y x.1 hy hm.1
    rw [← hm.2] at this
    exact this
end Sw
/-! SwFam -/
set_option Elab.async false
set_option linter.all false
set_option maxRecDepth 100000
set_option maxHeartbeats 2000000
namespace Sw
open PySem L2
/-! ### a dict by text whose values are things that may change -/
structure Fam {α : Type} (mk : α → MO) (kvs : List (Str × Sl)) (μ : M) (V : Str → Option α) : Prop where
  get : ∀ m a, V m = some a → ∃ q i, getS kvs m = some (.x (.ref q)) ∧ μ[i + 1]? = some (q, mk a)
  non : ∀ m, V m = none → getS kvs m = none
  inj : ∀ m m' q, getS kvs m = some (.x (.ref q)) → getS kvs m' = some (.x (.ref q)) → m = m'
def updV {α : Type} (V : Str → Option α) (m : Str) (a : α) : Str → Option α := fun k => if m = k then some a else V k
section
variable {α : Type} {mk : α → MO} {kvs : List (Str × Sl)} {μ : M} {V : Str → Option α} {m : Str} {a b : α} {pd q : Addr} {o : MO}
theorem Fam.nil : Fam mk [] μ fun _ => none := ⟨fun m a h => by simp at h, fun m _ => rfl, fun m m' q h => by simp [getS] at h⟩
/-- a new one -/
theorem Fam.new (h : Fam mk kvs (o' :: μ) V) (nd : (dom ((o' :: μ) ++ [(q, mk a)])).Nodup) : Fam mk (putS kvs m (.x (.ref q))) ((pd, o) :: (μ ++ [(q, mk a)])) (updV V m a) := by
  have fresh : ∀ (i : Nat) (b : MO), (o' :: μ)[i]? = some (q, b) → False := by
    intro i b hi
    rw [dom_append] at nd
    exact (List.nodup_append.mp nd).2.2 q (mem_dom (List.mem_of_getElem? hi)) q (by simp [dom]) rfl
  have fr2 : ∀ m', getS kvs m' = some (.x (.ref q)) → False := by
    intro m' hm'
    cases hv : V m' with
    | none => rw [h.non m' hv] at hm'; cases hm'
    | some b =>
      obtain ⟨q', i, h1, h2⟩ := h.get m' b hv
      rw [h1] at hm'
      cases hm'
      exact fresh (i + 1) _ h2
  refine ⟨fun m' b hb => ?_, fun m' hb => ?_, fun m1 m2 q' h1 h2 => ?_⟩
  · unfold updV at hb
    by_cases e : m = m'
    · subst e
      rw [if_pos rfl] at hb
      cases hb
      exact ⟨q, μ.length, by rw [getS_put, if_pos rfl], by simp⟩
    · rw [if_neg e] at hb
      obtain ⟨q', i, h1, h2⟩ := h.get m' b hb
      refine ⟨q', i, by rw [getS_put, if_neg e]; exact h1, ?_⟩
      simp only [List.getElem?_cons_succ] at h2 ⊢
      rw [List.getElem?_append_left (List.getElem?_eq_some_iff.mp h2).1]
      exact h2
  · unfold updV at hb
    by_cases e : m = m'
    · rw [if_pos e] at hb; cases hb
    · rw [if_neg e] at hb
      rw [getS_put, if_neg e]; exact h.non m' hb
  · rw [getS_put] at h1 h2
    by_cases e1 : m = m1
    · by_cases e2 : m = m2
      · rw [← e1, ← e2]
      · rw [if_pos e1] at h1
        rw [if_neg e2] at h2
        cases h1
        exact (fr2 m2 h2).elim
    · rw [if_neg e1] at h1
      by_cases e2 : m = m2
      · rw [if_pos e2] at h2
        cases h2
        exact (fr2 m1 h1).elim
      · rw [if_neg e2] at h2
        exact h.inj m1 m2 q' h1 h2
/-- one changes -/
theorem Fam.upd {i : Nat} (h : Fam mk kvs ((pd, o) :: μ) V) (h1 : getS kvs m = some (.x (.ref q))) (h2 : ((pd, o) :: μ)[i + 1]? = some (q, b')) : Fam mk kvs (((pd, o) :: μ).set (i + 1) (q, mk b)) (updV V m b) := by
  refine ⟨fun m' a ha => ?_, fun m' ha => ?_, h.inj⟩
  · unfold updV at ha
    by_cases e : m = m'
    · subst e
      rw [if_pos rfl] at ha
      cases ha
      exact ⟨q, i, h1, by rw [List.getElem?_set, if_pos rfl, if_pos (List.getElem?_eq_some_iff.mp h2).1]⟩
    · rw [if_neg e] at ha
      obtain ⟨q', i', h3, h4⟩ := h.get m' a ha
      refine ⟨q', i', h3, ?_⟩
      rw [List.getElem?_set, if_neg]
      · exact h4
      · intro z
        rw [z, h4] at h2
        cases h2
        exact e (h.inj m m' _ h1 h3)
  · unfold updV at ha
    by_cases e : m = m'
    · rw [if_pos e] at ha; cases ha
    · rw [if_neg e] at ha; exact h.non m' ha
end
end Sw
/-! SwInp4 -/
set_option Elab.async false
set_option linter.all false
set_option maxRecDepth 100000
set_option maxHeartbeats 2000000
namespace Sw
open PySem L2 SwH
local macro_rules | `(tactic| walk_at "w1") => `(tactic| first
  | with_reducible refine ws_seq ?_
  | with_reducible refine ws_asgL ?_
  | with_reducible refine ws_asg ?_
  | with_reducible refine ws_setL ?_
  | with_reducible refine ws_asgT ?_
  | with_reducible refine ws_drop ?_
  | with_reducible refine ws_next ?_
  | with_reducible refine ws_cont ?_
  | with_reducible refine ws_if ?_
  | with_reducible refine ws_for ?_
  | (with_reducible refine we_var rfl ?_)
  | with_reducible refine we_int ?_
  | with_reducible refine we_str ?_
  | with_reducible refine we_bl ?_
  | with_reducible refine we_non ?_
  | with_reducible refine we_eqNil ?_
  | with_reducible refine we_neNil ?_
  | with_reducible refine we_op ?_
  | (with_reducible refine wo_ixT 0 rfl rfl ?_)
  | (with_reducible refine wo_ixT 1 rfl rfl ?_)
  | (with_reducible refine wo_ixT 2 rfl rfl ?_)
  | (with_reducible refine wo_ixT 3 rfl rfl ?_)
  | (with_reducible refine wo_ixT 4 rfl rfl ?_)
  | with_reducible refine wo_add ?_
  | with_reducible refine wo_sub ?_
  | with_reducible refine wo_lt ?_
  | with_reducible refine wo_le ?_
  | with_reducible refine wo_gt ?_
  | with_reducible refine wo_ge ?_
  | with_reducible refine wo_eqI ?_
  | with_reducible refine wo_neI ?_
  | with_reducible refine wo_eqS ?_
  | with_reducible refine wo_neS ?_
  | with_reducible refine wt_test ?_
  | with_reducible refine wt_B ?_
  | with_reducible refine wt_not ?_
  | with_reducible refine wt_and ?_
  | with_reducible refine wt_or ?_
  | with_reducible refine wt_yes ?_
  | with_reducible refine we_andV ?_
  | with_reducible refine we_orV ?_
  | with_reducible refine we_notV ?_
  | with_reducible refine wa_nil ?_
  | with_reducible refine wa_cons ?_
  | with_reducible refine we_bm ?_
  | with_reducible refine we_bm0 ?_
  | with_reducible refine we_tup ?_
  | with_reducible refine we_cb ?_
  | (with_reducible refine ⟨_, rfl, ?_⟩)
  | (refine ⟨by simp, _, rfl, ?_⟩)
  | (refine ⟨ListOf.ty (lo_m 0 rfl), ?_⟩)
  | (refine ⟨ListOf.ty (lo_m 1 rfl), ?_⟩)
  | (refine ⟨ListOf.ty (lo_m 2 rfl), ?_⟩)
  | (refine ⟨ListOf.ty (lo_m 3 rfl), ?_⟩)
  | (refine cs_t (by decide) ?_)
  | (refine cs_f (by decide) ?_))
local macro_rules | `(tactic| walk_at "w") => `(tactic| repeat walk_at "w1")


local macro_rules | `(tactic| walk_at "gs") => `(tactic| first
  | exact gts_nil
  | (refine gts_cons (gt_name (by decide)) ?_; walk_at "gs")
  | (refine gts_cons (gt_tup (by walk_at "gs") rfl) ?_; walk_at "gs"))
local macro_rules | `(tactic| walk_at "g") => `(tactic| first
  | exact gt_name (by decide)
  | exact gt_tup (by walk_at "gs") rfl
  | exact gt_pl (by walk_at "gs"))

variable {c : Ct}
structure InpD (p : Prog) (kvs : List (Str × Sl)) : Prop where
  ok : ∀ m, m ∈ marksF p → ∃ E : List (List Int × List Int), getS kvs m = some (.l (E.map enD)) ∧ (∀ e, e ∈ E → Passed p e.1 (m, e.2) ∧ e.1.length ≤ 640) ∧ ∀ v, Reach p (m, v) → ∃ ns, (ns, v) ∈ E
def pre_ibm (K : PySem.W.Frag) (C : Addr) : List Sl → M → RE → Prop := fun ss μ R => ∃ p, InC K C ∧ WFp p ∧ ss = [.d (Prog.d p)] ∧ μ = [] ∧ ∀ pd kvs, InpD p kvs → R (.x (.ref pd)) [(pd, .dk kvs)]
theorem passed_mark {p : Prog} {ns : List Int} {x : MV} (h : Passed p ns x) : x.1 ∈ marksF p := by
  obtain ⟨s, r, _, hm⟩ := h
  exact mem_marks.mpr (List.mem_of_getElem? hm.1)
theorem rd_inputs_by_marks {C : Addr} : ∀ ss μ R, pre_ibm c.K C ss μ R → WS c (t_inputs_by_marks c.P c.w c.K (SPM c pre_marks) (SPM c (pre_inpof c.K C))) (startD N_inputs_by_marks ss) μ { nx := fun _ μ' => R (.d .none) μ', rt := R } := by
  rintro ss μ R ⟨p, hC, W, rfl, rfl, h⟩
  unfold t_inputs_by_marks
  have hml := marks_len W
  walk_at "w"
  refine we_dnew (fun pd => ?_)
  refine ws_seq (ws_for (wi_list (we_call0 ?_)))
  walk_at "w"
  refine ⟨p, W, rfl, rfl, ?_⟩
  refine ⟨_, _, lk_l, ?_⟩
  refine for_x (marksF p) (fun m => .d (.str m)) (by simp) (fun done Δ μ => ∃ x2 kvs g V, Δ = [some (.d p.d), some (.x (.ref pd)), x2, none, none] ∧ μ = (pd, .dk kvs) :: g ∧ Fam (lstD enD) kvs μ V ∧ (∀ m, m ∈ done → V m = some []) ∧ kvs.length ≤ done.length)
    ⟨_, [], [], fun _ => none, rfl, rfl, Fam.nil, by simp, by simp⟩ (fun _ _ _ _ => nokeep) ?_ ?_
  · rintro done m rest Δ μ e ⟨x2, kvs, g, V, rfl, rfl, hf, hd, hkl⟩
    have hdl : done.length ≤ 9 := by have := congrArg List.length e; simp at this; omega
    refine ⟨_, is12, gt_name (by decide), ?_⟩
    refine ws_dput (we_lst (wa_nil ⟨by simp, fun q => we_nd fun nd => ?_⟩))
    walk_at "w"
    refine ⟨0, pd, kvs, m, rfl, rfl, rfl, by omega, ?_⟩
    refine ⟨_, _, g ++ [(q, lstD enD [])], updV V m [], rfl, rfl, hf.new (a := []) nd, ?_, ?_⟩
    · intro m' hm'
      unfold updV
      by_cases z : m = m'
      · rw [if_pos z]
      · rw [if_neg z]
        rcases List.mem_append.mp hm' with hm' | hm'
        · exact hd m' hm'
        · simp at hm'; exact absurd hm'.symm z
    · have := putS_len (kvs := kvs) (k := m) (v := Sl.x (.ref q)); simp only [List.length_append, List.length_cons, List.length_nil]; omega
  rintro Δ μ ⟨x2, kvs, g, V, rfl, rfl, hf, hd, hkl⟩
  refine ws_seq (ws_for (wi_itemsN (we_call0 ?_)))
  walk_at "w"
  refine ⟨p, hC, W, rfl, rfl, fun kf hkf => ?_⟩
  refine ⟨kf, rfl, fun _ => ?_⟩
  have hkfl := hkf.len
  refine for_x kf _ rfl (fun done Δ μ => ∃ x2 x3 x4 g V, Δ = [some (.d p.d), some (.x (.ref pd)), x2, x3, x4] ∧ μ = (pd, .dk kvs) :: g ∧ Fam (lstD enD) kvs μ V ∧ ∀ m, m ∈ marksF p → ∃ E, V m = some E ∧ (∀ e, e ∈ E → Passed p e.1 (m, e.2) ∧ e.1.length ≤ 640) ∧ (∀ y v, y ∈ done → y.1 = mvK (m, v) → ∃ ns, (ns, v) ∈ E) ∧ E.length ≤ done.length)
    ⟨_, _, _, g, V, rfl, rfl, hf, fun m hm => ⟨[], hd m hm, by simp, by simp, by simp⟩⟩ (fun _ _ _ _ => nokeep) ?_ ?_
  · rintro done y rest Δ μ e ⟨x2, x3, x4, g, V, rfl, rfl, hf, hV⟩
    have hdl : done.length ≤ 640 := by have := congrArg List.length e; simp at this; omega
    obtain ⟨⟨m, v⟩, ns, rfl, hp, hnl⟩ := hkf.snd y (by rw [e]; simp)
    have hm := passed_mark hp
    obtain ⟨E, hE, hE1, hE2, hE3⟩ := hV m hm
    obtain ⟨q, i, hq1, hq2⟩ := hf.get m E hE
    simp only [mvK_data]
    refine ⟨_, is12, gt_tup (gts_cons (gt_tup (gts_cons (gt_name (by decide)) (gts_cons (gt_name (by decide)) gts_nil)) rfl) (gts_cons (gt_name (by decide)) gts_nil)) rfl, ?_⟩
    walk_at "w"
    refine we_dget ?_
    walk_at "w"
    refine ⟨kvs, m, _, dk_m 0 rfl, rfl, hq1, ListOf.ty (lo_m (i + 1) hq2), ?_⟩
    walk_at "w"
    refine wc_lenT ?_
    walk_at "w"
    refine wb_appendD (i + 1) (E.map enD) hq2 rfl (by simp only [List.length_map]; omega) ?_
    have e1 : (E.map enD ++ [PyData.tuple [.int (ns.map PyData.int).length, vD ns, vD v]]) = (E ++ [(ns, v)]).map enD := by simp [enD]
    rw [e1]
    have hu := hf.upd (m := m) (b := E ++ [(ns, v)]) hq1 hq2
    refine ⟨_, _, _, g.set i (q, lstD enD (E ++ [(ns, v)])), updV V m (E ++ [(ns, v)]), rfl, rfl, hu, ?_⟩
    intro m' hm'
    unfold updV
    by_cases z : m = m'
    · subst z
      rw [if_pos rfl]
      refine ⟨_, rfl, ?_, ?_, by simp; omega⟩
      · intro e' he
        rcases List.mem_append.mp he with he | he
        · exact hE1 e' he
        · simp at he; subst he; exact ⟨hp, hnl⟩
      · intro y w hy hw
        rcases List.mem_append.mp hy with hy | hy
        · obtain ⟨n', h'⟩ := hE2 y w hy hw
          exact ⟨n', by simp [h']⟩
        · simp at hy
          subst hy
          have := mvK_inj hw
          simp at this
          subst this
          exact ⟨ns, by simp⟩
    · rw [if_neg z]
      obtain ⟨E', h1, h2, h3, h4⟩ := hV m' hm'
      refine ⟨E', h1, h2, ?_, by simp; omega⟩
      intro y w hy hw
      rcases List.mem_append.mp hy with hy | hy
      · exact h3 y w hy hw
      · simp at hy
        subst hy
        have := mvK_inj hw
        simp at this
        exact absurd this.1 z
  rintro Δ μ ⟨x2, x3, x4, g, V, rfl, rfl, hf, hV⟩
  refine ws_seq (ws_for (wi_list (we_call0 ?_)))
  walk_at "w"
  refine ⟨p, W, rfl, rfl, ?_⟩
  refine ⟨_, _, lk_l, ?_⟩
  have good : ∀ m, m ∈ marksF p → ∃ E : List (List Int × List Int), (∃ q i, getS kvs m = some (.x (.ref q)) ∧ ((pd, MO.dk kvs) :: g)[i + 1]? = some (q, lstD enD E)) ∧ (∀ e, e ∈ E → Passed p e.1 (m, e.2) ∧ e.1.length ≤ 640) ∧ ∀ v, Reach p (m, v) → ∃ ns, (ns, v) ∈ E := by
    intro m hm
    obtain ⟨E, h1, h2, h3, h4⟩ := hV m hm
    refine ⟨E, hf.get m E h1, h2, fun v hv => ?_⟩
    obtain ⟨y, hy, hy2⟩ := List.mem_map.mp (hkf.full _ hv)
    exact h3 y v hy hy2
  refine for_x (marksF p) (fun m => .d (.str m)) (by simp) (fun done Δ μ => ∃ x2 x3 x4 kvs', Δ = [some (.d p.d), some (.x (.ref pd)), x2, x3, x4] ∧ μ = (pd, .dk kvs') :: g ∧ kvs'.length ≤ 100 ∧ (∀ m, m ∈ done → ∃ E : List (List Int × List Int), getS kvs' m = some (.l (E.map enD)) ∧ (∀ e, e ∈ E → Passed p e.1 (m, e.2) ∧ e.1.length ≤ 640) ∧ ∀ v, Reach p (m, v) → ∃ ns, (ns, v) ∈ E) ∧
      (∀ m, m ∉ done → getS kvs' m = getS kvs m) ∧ kvs'.length ≤ kvs.length + done.length)
    ⟨_, _, _, kvs, rfl, rfl, by omega, by simp, fun _ _ => rfl, by simp⟩ (fun _ _ _ _ => nokeep) ?_ ?_
  · rintro done m rest Δ μ e ⟨x2, x3, x4, kvs', rfl, rfl, hkl1, hd1, hd2, hkl2⟩
    have hdl : done.length ≤ 9 := by have := congrArg List.length e; simp at this; omega
    have hm : m ∈ marksF p := by rw [e]; simp
    have cur : ∃ (s : Sl) (E : List (List Int × List Int)), getS kvs' m = some s ∧ ListOf s ((pd, .dk kvs') :: g) ((E.map enD).map .d) ∧ (∀ e, e ∈ E → Passed p e.1 (m, e.2) ∧ e.1.length ≤ 640) ∧ ∀ v, Reach p (m, v) → ∃ ns, (ns, v) ∈ E := by
      by_cases z : m ∈ done
      · obtain ⟨E, h1, h2, h3⟩ := hd1 m z
        exact ⟨_, E, h1, lo_l, h2, h3⟩
      · obtain ⟨E, ⟨q, i, h1, h2⟩, h3, h4⟩ := good m hm
        exact ⟨_, E, (hd2 m z).trans h1, lo_m (i + 1) (by exact h2), h3, h4⟩
    obtain ⟨s, E, hs, hl, hE1, hE2⟩ := cur
    refine ⟨_, is12, gt_name (by decide), ?_⟩
    refine ws_dput (we_cb (wa_cons (we_dget ?_)))
    walk_at "w"
    refine ⟨kvs', m, s, dk_m 0 rfl, rfl, hs, ?_⟩
    walk_at "w"
    refine wc_sortL hl (srt_en E) (fun es hes => ?_)
    obtain ⟨E', hp, rfl⟩ := perm_map enD hes
    walk_at "w"
    refine ⟨0, pd, kvs', m, rfl, rfl, rfl, by omega, ?_⟩
    have hpl := putS_len (kvs := kvs') (k := m) (v := Sl.l (E'.map enD))
    refine ⟨_, _, _, _, rfl, rfl, by omega, ?_, ?_, by simp only [List.length_append, List.length_cons, List.length_nil]; omega⟩
    · intro m' hm'
      rw [getS_put]
      by_cases z : m = m'
      · subst z
        rw [if_pos rfl]
        exact ⟨E', rfl, fun e' he => hE1 e' (hp.mem_iff.mp he), fun v hv => by obtain ⟨ns, h'⟩ := hE2 v hv; exact ⟨ns, hp.mem_iff.mpr h'⟩⟩
      · rw [if_neg z]
        rcases List.mem_append.mp hm' with hm' | hm'
        · exact hd1 m' hm'
        · simp at hm'; exact absurd hm'.symm z
    · intro m' hm'
      rw [getS_put, if_neg (by intro z; subst z; simp at hm')]
      exact hd2 m' (by intro z; apply hm'; simp [z])
  · rintro Δ μ ⟨x2, x3, x4, kvs', rfl, rfl, hkl1, hd1, hd2, hkl2⟩
    refine ws_retK 1 ?_
    walk_at "w"
    exact h pd kvs' ⟨fun m hm => hd1 m hm⟩
end Sw
/-! SwSee -/
set_option Elab.async false
set_option linter.all false
set_option maxRecDepth 100000
set_option maxHeartbeats 2000000
namespace Sw
open PySem L2 SwH
local macro_rules | `(tactic| walk_at "w1") => `(tactic| first
  | with_reducible refine ws_seq ?_
  | with_reducible refine ws_asgL ?_
  | with_reducible refine ws_asg ?_
  | with_reducible refine ws_setL ?_
  | with_reducible refine ws_asgT ?_
  | with_reducible refine ws_drop ?_
  | with_reducible refine ws_next ?_
  | with_reducible refine ws_cont ?_
  | with_reducible refine ws_if ?_
  | with_reducible refine ws_for ?_
  | (with_reducible refine we_var rfl ?_)
  | with_reducible refine we_int ?_
  | with_reducible refine we_str ?_
  | with_reducible refine we_bl ?_
  | with_reducible refine we_non ?_
  | with_reducible refine we_eqNil ?_
  | with_reducible refine we_neNil ?_
  | with_reducible refine we_op ?_
  | (with_reducible refine wo_ixT 0 rfl rfl ?_)
  | (with_reducible refine wo_ixT 1 rfl rfl ?_)
  | (with_reducible refine wo_ixT 2 rfl rfl ?_)
  | (with_reducible refine wo_ixT 3 rfl rfl ?_)
  | (with_reducible refine wo_ixT 4 rfl rfl ?_)
  | with_reducible refine wo_add ?_
  | with_reducible refine wo_sub ?_
  | with_reducible refine wo_lt ?_
  | with_reducible refine wo_le ?_
  | with_reducible refine wo_gt ?_
  | with_reducible refine wo_ge ?_
  | with_reducible refine wo_eqI ?_
  | with_reducible refine wo_neI ?_
  | with_reducible refine wo_eqS ?_
  | with_reducible refine wo_neS ?_
  | with_reducible refine wt_test ?_
  | with_reducible refine wt_B ?_
  | with_reducible refine wt_not ?_
  | with_reducible refine wt_and ?_
  | with_reducible refine wt_or ?_
  | with_reducible refine wt_yes ?_
  | with_reducible refine we_andV ?_
  | with_reducible refine we_orV ?_
  | with_reducible refine we_notV ?_
  | with_reducible refine wa_nil ?_
  | with_reducible refine wa_cons ?_
  | with_reducible refine we_bm ?_
  | with_reducible refine we_bm0 ?_
  | with_reducible refine we_tup ?_
  | with_reducible refine we_cb ?_
  | (with_reducible refine ⟨_, rfl, ?_⟩)
  | (refine ⟨by simp, _, rfl, ?_⟩)
  | (refine ⟨ListOf.ty (lo_m 0 rfl), ?_⟩)
  | (refine ⟨ListOf.ty (lo_m 1 rfl), ?_⟩)
  | (refine ⟨ListOf.ty (lo_m 2 rfl), ?_⟩)
  | (refine ⟨ListOf.ty (lo_m 3 rfl), ?_⟩)
  | (refine cs_t (by decide) ?_)
  | (refine cs_f (by decide) ?_))
local macro_rules | `(tactic| walk_at "w") => `(tactic| repeat walk_at "w1")


local macro_rules | `(tactic| walk_at "gs") => `(tactic| first
  | exact gts_nil
  | (refine gts_cons (gt_name (by decide)) ?_; walk_at "gs")
  | (refine gts_cons (gt_tup (by walk_at "gs") rfl) ?_; walk_at "gs"))
local macro_rules | `(tactic| walk_at "g") => `(tactic| first
  | exact gt_name (by decide)
  | exact gt_tup (by walk_at "gs") rfl
  | exact gt_pl (by walk_at "gs"))

variable {c : Ct}
theorem we_permK {te : TE} {Δ : Vt} {μ : M} {R : RE} (h : WE c te Δ μ fun s μ1 => ∃ μ' ν, μ1.Perm (μ' ++ ν) ∧ R s μ') : WE c te Δ μ R := we_coR h fun s μ1 ⟨μ', ν, hp, r⟩ => ⟨Δ, s, μ', co_perm hp, r⟩
theorem we_frzP {te : TE} {Δ : Vt} {μ : M} {R : RE} (h : WE c te Δ μ fun s μ1 => ∃ (p : Addr) (ds : List D) (μ' ν : M), s = .x (.ref p) ∧ μ1.Perm ((p, .lst (ds.map .d)) :: (μ' ++ ν)) ∧ R (.l ds) μ') : WE c te Δ μ R :=
  we_coR h fun s μ1 ⟨p, ds, μ', ν, hs, hp, r⟩ => by
    subst hs
    refine ⟨Δ, .l ds, μ', co_trans (co_perm (μ' := (p, .lst (ds.map .d)) :: (μ' ++ ν)) (ν := []) (by simpa using hp)) (co_trans (co_list (Δ := some (.x (.ref p)) :: Δ) 0 0 rfl rfl rfl) (co_perm (ν := ν) (List.Perm.refl _))), r⟩
def PassR (p : Prog) (told : List (List Int)) (x : MV) : Prop := ∃ ns, ns ∈ told ∧ Passed p ns x
abbrev snD (x : Str × List (List Int)) : D := .tuple [.str x.1, .list (x.2.map vD)]
structure SeenOk (p : Prog) (told : List (List Int)) (Sn : List (Str × List (List Int))) : Prop where
  ms : Sn.map (·.1) = marksF p
  ok : ∀ x, x ∈ Sn → ∀ v, v ∈ x.2 ↔ PassR p told (x.1, v)
abbrev RunsOk (told : List (List Int)) : Prop := (∀ ns, ns ∈ told → ns.length ≤ 9000) ∧ told.length ≤ 100000
def pre_seen : List Sl → M → RE → Prop := fun ss μ R => ∃ p told pr, WFp p ∧ RunsOk told ∧ ss = [.d (Prog.d p), .x (.ref pr)] ∧ μ = [(pr, lstD nL told)] ∧
  ∀ Sn, SeenOk p told Sn → R (.l (Sn.map snD)) [(pr, lstD nL told)]
abbrev vE (v : List Int) : NK × D := (vK v, .bool true)
abbrev dnV (vs : List (List Int)) : MO := .dn (vs.map vE)
def addV (vs : List (List Int)) (v : List Int) : List (List Int) := if v ∈ vs then vs else vs ++ [v]
theorem put_vE (vs : List (List Int)) (v : List Int) : putS (vs.map vE) (vK v) (.bool true) = (addV vs v).map vE := by
  unfold addV
  split
  · rename_i h
    unfold putS
    rw [if_pos (by simp; exact ⟨v, h, rfl⟩), List.map_map]
    apply List.map_congr_left
    intro a _
    simp only [Function.comp_def]
    split <;> rfl
  · rename_i h
    rw [putS_new]
    · simp
    · intro z
      simp only [List.map_map, List.mem_map, Function.comp_def] at z
      obtain ⟨a, ha, e⟩ := z
      exact h (vK_inj e ▸ ha)
theorem mem_addV {vs : List (List Int)} {v w : List Int} : w ∈ addV vs v ↔ w ∈ vs ∨ w = v := by
  unfold addV
  split
  · rename_i h; exact ⟨.inl, fun z => z.elim id fun e => e ▸ h⟩
  · simp
theorem addV_nd {vs : List (List Int)} {v : List Int} (h : vs.Nodup) : (addV vs v).Nodup := by
  unfold addV
  split
  · exact h
  · rename_i n
    exact List.nodup_append.mpr ⟨h, by simp, fun a ha b hb => by simp at hb; subst hb; intro e; subst e; exact n ha⟩
theorem passed_vw {p : Prog} (W : WFp p) {ns : List Int} {x : MV} (h : Passed p ns x) : VW p.boxes x.2 := by
  obtain ⟨s, r, hr, hm⟩ := h
  rw [hm.2]; exact (hr.sw W).2
theorem vals_len {p : Prog} (W : WFp p) {vs : List (List Int)} (h : vs.Nodup) (hv : ∀ v, v ∈ vs → VW p.boxes v) : vs.length ≤ 64 := by
  have h1 := nodup_len h fun v hv' => mem_valsL (hv v hv')
  have h2 := valsL_len W.bx
  have h3 : 8 ^ p.boxes.length ≤ 8 ^ 2 := Nat.pow_le_pow_right (by decide) W.b2
  omega
theorem rd_seen : ∀ ss μ R, pre_seen ss μ R → WS c (t_seen c.P c.w c.K (SPM c pre_run) (SPM c pre_marks)) (startD N_seen ss) μ { nx := fun _ μ' => R (.d .none) μ', rt := R } := by
  rintro ss μ R ⟨p, told, pr, W, hro, rfl, rfl, h⟩
  unfold t_seen
  have hml := marks_len W
  walk_at "w"
  refine we_dnew (fun pd => ?_)
  refine ws_co (co_perm (μ' := [(pd, .dk []), (pr, lstD nL told)]) (ν := []) (List.Perm.swap _ _ _)) ?_
  refine ws_seq (ws_for (wi_list (we_call0 ?_)))
  walk_at "w"
  refine ⟨p, W, rfl, rfl, ?_⟩
  refine ⟨_, _, lk_l, ?_⟩
  refine for_x (marksF p) (fun m => .d (.str m)) (by simp) (fun done Δ μ => ∃ x3 kvs g V, Δ = [some (.d p.d), some (.x (.ref pr)), some (.x (.ref pd)), x3, none, none] ∧ μ = (pd, .dk kvs) :: (pr, lstD nL told) :: g ∧ Fam dnV kvs μ V ∧ (∀ m, m ∈ done → V m = some []) ∧ kvs.length ≤ done.length)
    ⟨_, [], [], fun _ => none, rfl, rfl, Fam.nil, by simp, by simp⟩ (fun _ _ _ _ => nokeep) ?_ ?_
  · rintro done m rest Δ μ e ⟨x3, kvs, g, V, rfl, rfl, hf, hd, hkl⟩
    have hdl : done.length ≤ 9 := by have := congrArg List.length e; simp at this; omega
    refine ⟨_, is12, gt_name (by decide), ?_⟩
    refine ws_dput (we_nnew (fun q => we_nd fun nd => ?_))
    walk_at "w"
    refine ⟨0, pd, kvs, m, rfl, rfl, rfl, by omega, ?_⟩
    refine ⟨_, _, g ++ [(q, dnV [])], updV V m [], rfl, rfl, hf.new (a := []) nd, ?_, ?_⟩
    · intro m' hm'
      unfold updV
      by_cases z : m = m'
      · rw [if_pos z]
      · rw [if_neg z]
        rcases List.mem_append.mp hm' with hm' | hm'
        · exact hd m' hm'
        · simp at hm'; exact absurd hm'.symm z
    · have := putS_len (kvs := kvs) (k := m) (v := Sl.x (.ref q)); simp only [List.length_append, List.length_cons, List.length_nil]; omega
  rintro Δ μ ⟨x3, kvs, g, V, rfl, rfl, hf, hd, hkl⟩
  refine ws_seq (ws_for (wi_list ?_))
  walk_at "w"
  refine ⟨_, _, lk_m 1 rfl, ?_⟩
  refine for_x told (fun ns => .d (nL ns)) (by simp) (fun done Δ μ => ∃ x3 x4 x5 g V, Δ = [some (.d p.d), some (.x (.ref pr)), some (.x (.ref pd)), x3, x4, x5] ∧ μ = (pd, .dk kvs) :: (pr, lstD nL told) :: g ∧ Fam dnV kvs μ V ∧
      ∀ m, m ∈ marksF p → ∃ vs, V m = some vs ∧ vs.Nodup ∧ ∀ v, v ∈ vs ↔ PassR p done (m, v)) ⟨_, _, _, g, V, rfl, rfl, hf, fun m hm => ⟨[], hd m hm, List.nodup_nil, fun v => by simp [PassR]⟩⟩
      (fun done Δ μ ⟨x3, x4, x5, g, V, _, e, _⟩ => by subst e; intro e he; simp at he; subst he; simp) ?_ ?_
  · rintro done ns rest Δ μ e ⟨x3, x4, x5, g, V, rfl, rfl, hf, hV⟩
    have hns := hro.1 ns (by rw [e]; simp)
    refine ⟨_, is12, gt_name (by decide), ?_⟩
    refine ws_for (wi_list (we_op (we_call0 ?_)))
    walk_at "w"
    refine ⟨p, ns, _, W, hns, .inl rfl, rfl, rfl, fun L X hL => ?_⟩
    walk_at "w"
    refine ⟨_, _, lk_d, ?_⟩
    refine for_x L (fun x => .d (mvD x)) (by simp) (fun dn Δ μ => ∃ x3 x5 g V, Δ = [some (.d p.d), some (.x (.ref pr)), some (.x (.ref pd)), x3, some (.d (nL ns)), x5] ∧ μ = (pd, .dk kvs) :: (pr, lstD nL told) :: g ∧ Fam dnV kvs μ V ∧
      ∀ m, m ∈ marksF p → ∃ vs, V m = some vs ∧ vs.Nodup ∧ ∀ v, v ∈ vs ↔ PassR p done (m, v) ∨ (m, v) ∈ dn) ⟨_, _, g, V, rfl, rfl, hf, fun m hm => by obtain ⟨vs, h1, h2, h3⟩ := hV m hm; exact ⟨vs, h1, h2, fun v => by rw [h3]; simp⟩⟩ (fun _ _ _ _ => nokeep) ?_ ?_
    · rintro dn ⟨m, v⟩ rest2 Δ μ e2 ⟨x3, x5, g, V, rfl, rfl, hf, hV⟩
      have hp : Passed p ns (m, v) := (hL (m, v)).mp (by rw [e2]; simp)
      have hm := passed_mark hp
      obtain ⟨vs, hvs, hnd, hiff⟩ := hV m hm
      obtain ⟨q, i, hq1, hq2⟩ := hf.get m vs hvs
      have hi : i ≠ 0 := by intro z; subst z; simp at hq2
      have hvl : vs.length ≤ 64 := vals_len W hnd fun w hw => by
        rcases (hiff w).mp hw with ⟨n', hn', hp'⟩ | hw
        · exact passed_vw W hp'
        · exact passed_vw W (x := (m, w)) ((hL (m, w)).mp (by rw [e2]; simp [hw]))
      refine ⟨_, is12, gt_tup (gts_cons (gt_name (by decide)) (gts_cons (gt_name (by decide)) gts_nil)) rfl, ?_⟩
      refine ws_nput ?_
      walk_at "w"
      refine we_dget ?_
      walk_at "w"
      refine ⟨kvs, m, _, dk_m 0 rfl, rfl, hq1, ?_⟩
      walk_at "w"
      refine ⟨i + 1, q, _, vK v, _, rfl, hq2, isK_v v, rfl, by simp; omega, ?_⟩
      rw [put_vE]
      have hu := hf.upd (m := m) (b := addV vs v) hq1 hq2
      obtain ⟨j, rfl⟩ : ∃ j, i = j + 1 := ⟨i - 1, by omega⟩
      refine ⟨_, _, g.set j (q, dnV (addV vs v)), updV V m (addV vs v), rfl, rfl, hu, ?_⟩
      intro m' hm'
      unfold updV
      by_cases z : m = m'
      · subst z
        rw [if_pos rfl]
        refine ⟨_, rfl, addV_nd hnd, fun w => ?_⟩
        rw [mem_addV, hiff, List.mem_append, or_assoc]
        simp
      · rw [if_neg z]
        obtain ⟨vs', h1, h2, h3⟩ := hV m' hm'
        refine ⟨vs', h1, h2, fun w => ?_⟩
        rw [h3, List.mem_append]
        simp [Ne.symm z]
    · rintro Δ μ ⟨x3, x5, g, V, rfl, rfl, hf, hV⟩
      refine ⟨_, _, _, g, V, rfl, rfl, hf, fun m hm => ?_⟩
      obtain ⟨vs, h1, h2, h3⟩ := hV m hm
      refine ⟨vs, h1, h2, fun v => ?_⟩
      rw [h3, hL (m, v)]
      constructor
      · rintro (⟨n', a, b⟩ | b)
        · exact ⟨n', by simp [a], b⟩
        · exact ⟨ns, by simp, b⟩
      · rintro ⟨n', a, b⟩
        rcases List.mem_append.mp a with a | a
        · exact .inl ⟨n', a, b⟩
        · simp at a; subst a; exact .inr b
  rintro Δ μ ⟨x3, x4, x5, g, V, rfl, rfl, hf, hV⟩
  refine ws_ret (we_frzP (we_lc (wi_list (we_call0 ?_))))
  walk_at "w"
  refine ⟨p, W, rfl, rfl, ?_⟩
  refine ⟨_, _, lk_l, ?_⟩
  refine lc_map (marksF p) (fun m => .d (.str m)) (by simp) (fun m => snD (m, (V m).getD [])) (by omega) nokeep ?_ ?_
  · intro m hm
    obtain ⟨vs, h1, h2, h3⟩ := hV m hm
    obtain ⟨q, i, hq1, hq2⟩ := hf.get m vs h1
    refine ⟨_, gt_name (by decide), ?_⟩
    walk_at "w"
    refine we_dget ?_
    walk_at "w"
    refine ⟨kvs, m, _, dk_m 0 rfl, rfl, hq1, ?_⟩
    walk_at "w"
    refine wc_listN (nd_m (i + 1) hq2) (fun _ => ?_)
    walk_at "w"
    refine ⟨?_, rfl⟩
    simp [dataS, h1, vK_data, Function.comp_def]
  · intro q
    refine ⟨q, (marksF p).map fun m => snD (m, (V m).getD []), [(pr, lstD nL told)], (pd, .dk kvs) :: g, rfl, ?_, ?_⟩
    · have e1 : (pd, MO.dk kvs) :: (pr, lstD nL told) :: g ++ [(q, MO.lst (((marksF p).map fun m => snD (m, (V m).getD [])).map Sl.d))] = (pd, MO.dk kvs) :: (pr, lstD nL told) :: (g ++ [(q, MO.lst (((marksF p).map fun m => snD (m, (V m).getD [])).map Sl.d))]) := rfl
      show ((pd, MO.dk kvs) :: (pr, lstD nL told) :: g ++ [(q, MO.lst (((marksF p).map fun m => snD (m, (V m).getD [])).map Sl.d))]).Perm _
      refine (List.perm_append_comm (l₁ := (pd, MO.dk kvs) :: (pr, lstD nL told) :: g) (l₂ := [(q, _)])).trans ?_
      exact (List.Perm.swap _ _ _).cons _
    · have e2 : ((marksF p).map fun m => snD (m, (V m).getD [])) = ((marksF p).map fun m => (m, (V m).getD [])).map snD := by simp [Function.comp_def]
      rw [e2]
      refine h _ ⟨by simp [Function.comp_def], fun x hx v => ?_⟩
      obtain ⟨m, hm, rfl⟩ := List.mem_map.mp hx
      obtain ⟨vs, h1, h2, h3⟩ := hV m hm
      simp only [h1, Option.getD_some]
      exact h3 v
end Sw
/-! SwHeld -/
set_option Elab.async false
set_option linter.all false
set_option maxRecDepth 100000
set_option maxHeartbeats 2000000
namespace Sw
open PySem L2 SwH
local macro_rules | `(tactic| walk_at "w1") => `(tactic| first
  | with_reducible refine ws_seq ?_
  | with_reducible refine ws_asgL ?_
  | with_reducible refine ws_asg ?_
  | with_reducible refine ws_setL ?_
  | with_reducible refine ws_asgT ?_
  | with_reducible refine ws_drop ?_
  | with_reducible refine ws_next ?_
  | with_reducible refine ws_cont ?_
  | with_reducible refine ws_if ?_
  | with_reducible refine ws_for ?_
  | (with_reducible refine we_var rfl ?_)
  | with_reducible refine we_int ?_
  | with_reducible refine we_str ?_
  | with_reducible refine we_bl ?_
  | with_reducible refine we_non ?_
  | with_reducible refine we_eqNil ?_
  | with_reducible refine we_neNil ?_
  | with_reducible refine we_op ?_
  | (with_reducible refine wo_ixT 0 rfl rfl ?_)
  | (with_reducible refine wo_ixT 1 rfl rfl ?_)
  | (with_reducible refine wo_ixT 2 rfl rfl ?_)
  | (with_reducible refine wo_ixT 3 rfl rfl ?_)
  | (with_reducible refine wo_ixT 4 rfl rfl ?_)
  | with_reducible refine wo_add ?_
  | with_reducible refine wo_sub ?_
  | with_reducible refine wo_lt ?_
  | with_reducible refine wo_le ?_
  | with_reducible refine wo_gt ?_
  | with_reducible refine wo_ge ?_
  | with_reducible refine wo_eqI ?_
  | with_reducible refine wo_neI ?_
  | with_reducible refine wo_eqS ?_
  | with_reducible refine wo_neS ?_
  | with_reducible refine wt_test ?_
  | with_reducible refine wt_B ?_
  | with_reducible refine wt_not ?_
  | with_reducible refine wt_and ?_
  | with_reducible refine wt_or ?_
  | with_reducible refine wt_yes ?_
  | with_reducible refine we_andV ?_
  | with_reducible refine we_orV ?_
  | with_reducible refine we_notV ?_
  | with_reducible refine wa_nil ?_
  | with_reducible refine wa_cons ?_
  | with_reducible refine we_bm ?_
  | with_reducible refine we_bm0 ?_
  | with_reducible refine we_tup ?_
  | with_reducible refine we_cb ?_
  | (with_reducible refine ⟨_, rfl, ?_⟩)
  | (refine ⟨by simp, _, rfl, ?_⟩)
  | (refine ⟨ListOf.ty (lo_m 0 rfl), ?_⟩)
  | (refine ⟨ListOf.ty (lo_m 1 rfl), ?_⟩)
  | (refine ⟨ListOf.ty (lo_m 2 rfl), ?_⟩)
  | (refine ⟨ListOf.ty (lo_m 3 rfl), ?_⟩)
  | (refine cs_t (by decide) ?_)
  | (refine cs_f (by decide) ?_))
local macro_rules | `(tactic| walk_at "w") => `(tactic| repeat walk_at "w1")


local macro_rules | `(tactic| walk_at "gs") => `(tactic| first
  | exact gts_nil
  | (refine gts_cons (gt_name (by decide)) ?_; walk_at "gs")
  | (refine gts_cons (gt_tup (by walk_at "gs") rfl) ?_; walk_at "gs"))
local macro_rules | `(tactic| walk_at "g") => `(tactic| first
  | exact gt_name (by decide)
  | exact gt_tup (by walk_at "gs") rfl
  | exact gt_pl (by walk_at "gs"))

variable {c : Ct}
theorem en_in {α : Type} {bs : List α} {i : Nat} {b : α} (h : (i, b) ∈ enN 0 bs) : inN bs.length (i : Int) := by
  have := (mem_enN h).2
  have := (List.getElem?_eq_some_iff.mp this).1
  exact ⟨by omega, by omega⟩
theorem up_in {n : Nat} {x : Int × Int} (h : x ∈ pairsUp n) : inN n x.1 ∧ inN n x.2 := by
  obtain ⟨a, ha, h⟩ := List.mem_flatMap.mp h
  obtain ⟨b, hb, rfl⟩ := List.mem_map.mp h
  have := mem_rg.mp ha
  have := mem_rg.mp hb
  exact ⟨⟨by omega, by omega⟩, ⟨by simp only; omega, by simp only; omega⟩⟩
theorem un_in {n : Nat} {x : Int × Int} (h : x ∈ pairsUn n) : inN n x.1 ∧ inN n x.2 := by
  obtain ⟨a, ha, h⟩ := List.mem_flatMap.mp h
  obtain ⟨b, hb, rfl⟩ := List.mem_map.mp h
  have := mem_rg.mp ha
  have := mem_rg.mp (List.mem_filter.mp hb).1
  exact ⟨⟨by omega, by omega⟩, ⟨by simp only; omega, by simp only; omega⟩⟩
theorem say_wf {p : Prog} {s : Say} (h : s ∈ sayF p) : s.wf p.boxes.length := by
  unfold sayF plainF looserF joinedF at h
  simp only [List.mem_append] at h
  rcases h with (((h | h) | h) | ((h | h) | h)) | ((((((h | h) | h) | h) | h) | h) | h)
  · obtain ⟨x, hx, h⟩ := List.mem_flatMap.mp h; obtain ⟨n, hn, rfl⟩ := List.mem_map.mp h; exact en_in hx
  · obtain ⟨x, hx, h⟩ := List.mem_flatMap.mp h; obtain ⟨n, hn, rfl⟩ := List.mem_map.mp h; exact en_in hx
  · obtain ⟨x, hx, h⟩ := List.mem_flatMap.mp h; obtain ⟨n, hn, rfl⟩ := List.mem_map.mp h; exact en_in hx
  · obtain ⟨a, ha, h⟩ := List.mem_flatMap.mp h; obtain ⟨m, hm, h⟩ := List.mem_flatMap.mp h; obtain ⟨n, hn, rfl⟩ := List.mem_map.mp h
    have := mem_rg.mp ha
    have := mem_rg.mp hm
    exact ⟨⟨by omega, by omega⟩, by omega⟩
  · obtain ⟨x, hx, h⟩ := List.mem_flatMap.mp h; obtain ⟨m, hm, h⟩ := List.mem_flatMap.mp h; obtain ⟨n, hn, rfl⟩ := List.mem_map.mp h; exact en_in hx
  · obtain ⟨x, hx, h⟩ := List.mem_flatMap.mp h; obtain ⟨n, hn, rfl⟩ := List.mem_map.mp h; exact en_in hx
  · obtain ⟨x, hx, rfl⟩ := List.mem_map.mp h; exact up_in hx
  · obtain ⟨x, hx, rfl⟩ := List.mem_map.mp h; exact un_in hx
  · obtain ⟨x, hx, rfl⟩ := List.mem_map.mp h; exact un_in hx
  · obtain ⟨x, hx, h⟩ := List.mem_flatMap.mp h; obtain ⟨n, hn, rfl⟩ := List.mem_map.mp h; exact up_in hx
  · obtain ⟨x, hx, h⟩ := List.mem_flatMap.mp h; obtain ⟨n, hn, rfl⟩ := List.mem_map.mp h; exact up_in hx
  · obtain ⟨x, hx, h⟩ := List.mem_flatMap.mp h; obtain ⟨n, hn, rfl⟩ := List.mem_map.mp h
    have := mem_rg.mp (List.mem_filter.mp hn).1
    exact ⟨(up_in hx).1, (up_in hx).2, ⟨by omega, by omega⟩⟩
  · obtain ⟨x, hx, h⟩ := List.mem_flatMap.mp h; obtain ⟨n, hn, rfl⟩ := List.mem_map.mp h
    have := mem_rg.mp (List.mem_filter.mp hn).1
    exact ⟨(up_in hx).1, (up_in hx).2, ⟨by omega, by omega⟩⟩
theorem vw_so {p : Prog} (W : WFp p) {s : Say} (h : s ∈ sayF p) {v : List Int} (hv : VW p.boxes v) : s.wf v.length ∧ Bd v := ⟨by rw [hv.len]; exact say_wf h, fun x hx => hv.bd W.bx x hx⟩
/-! ### what is held -/
def heldP (p : Prog) (told : List (List Int)) (m : Str) (s : Say) : Prop := ∀ v, PassR p told (m, v) → so s v = true
def anyP (p : Prog) (told : List (List Int)) (m : Str) : Prop := ∃ v, PassR p told (m, v)
open Classical in
noncomputable def heldF (p : Prog) (told : List (List Int)) (m : Str) : List Say := (sayF p).filter fun s => decide (heldP p told m s)
open Classical in
noncomputable def hD (p : Prog) (told : List (List Int)) (m : Str) : D := if anyP p told m then .list ((heldF p told m).map Say.d) else .none
theorem mem_heldF {p : Prog} {told : List (List Int)} {m : Str} {s : Say} : s ∈ heldF p told m ↔ s ∈ sayF p ∧ heldP p told m s := by
  unfold heldF
  rw [List.mem_filter]
  simp
theorem passR_vw {p : Prog} (W : WFp p) {told : List (List Int)} {x : MV} (h : PassR p told x) : VW p.boxes x.2 := by
  obtain ⟨ns, _, h⟩ := h
  exact passed_vw W h
def pre_held : List Sl → M → RE → Prop := fun ss μ R => ∃ p told pr m, WFp p ∧ RunsOk told ∧ m ∈ marksF p ∧ ss = [.d (Prog.d p), .x (.ref pr), .d (.str m)] ∧ μ = [(pr, lstD nL told)] ∧
  (anyP p told m → R (.l ((heldF p told m).map Say.d)) [(pr, lstD nL told)]) ∧ (¬ anyP p told m → R (.d .none) [(pr, lstD nL told)])
theorem rd_held : ∀ ss μ R, pre_held ss μ R → WS c (t_held c.P c.w c.K (SPM c pre_sayings) (SPM c pre_seen) (SPM c pre_all)) (startD N_held ss) μ { nx := fun _ μ' => R (.d .none) μ', rt := R } := by
  rintro ss μ R ⟨p, told, pr, m, W, hro, hm, rfl, rfl, h1, h2⟩
  unfold t_held
  refine ws_seq (ws_asg (we_lstL (wa_nil ⟨by simp, [], rfl, ?_⟩)))
  refine ws_seq (ws_for (wi_list (we_callI [0] ?_)))
  walk_at "w"
  refine ⟨p, told, pr, W, hro, rfl, rfl, fun Sn hSn => ?_⟩
  refine ⟨_, _, lk_l, ?_⟩
  refine for_x Sn (fun x => .d (snD x)) (by simp) (fun done Δ μ => ∃ x4 x5 vs s, Δ = [some (.d p.d), some (.x (.ref pr)), some (.d (.str m)), some s, x4, x5, none] ∧ μ = [(pr, lstD nL told)] ∧ (s = .d (.list (vs.map vD)) ∨ s = .l (vs.map vD)) ∧
      (m ∈ done.map (·.1) → ∀ v, v ∈ vs ↔ PassR p told (m, v)) ∧ (m ∉ done.map (·.1) → vs = [])) ⟨_, _, [], _, rfl, rfl, .inr rfl, by simp, fun _ => rfl⟩ (fun _ _ _ _ => nokeep) ?_ ?_
  · rintro done ⟨m', vs'⟩ rest Δ μ e ⟨x4, x5, vs, s, rfl, rfl, hs, hd1, hd2⟩
    refine ⟨_, is12, gt_tup (gts_cons (gt_name (by decide)) (gts_cons (gt_name (by decide)) gts_nil)) rfl, ?_⟩
    walk_at "w"
    refine ⟨fun z => ?_, fun z => ?_⟩
    · have z' : m' = m := by simpa using z
      subst z'
      walk_at "w"
      exact ⟨_, _, vs', _, rfl, rfl, .inl rfl, fun _ v => hSn.ok (m', vs') (by rw [e]; simp) v, fun q => by simp at q⟩
    · have z' : m' ≠ m := by simpa using z
      refine ws_next ⟨_, _, vs, s, rfl, rfl, hs, fun q => hd1 ?_, fun q => hd2 ?_⟩
      · simp [Ne.symm z'] at q; simpa using q
      · intro q2; apply q; simp at q2 ⊢; exact .inl q2
  rintro Δ μ ⟨x4, x5, vs, s, rfl, rfl, hs, hd1, hd2⟩
  have hvs := hd1 (by rw [hSn.ms]; exact hm)
  walk_at "w"
  refine ⟨_, lo_or hs, ?_⟩
  refine ⟨_, rfl, ?_⟩
  have hany : anyP p told m ↔ vs ≠ [] := by
    constructor
    · rintro ⟨v, hv⟩ z; rw [z] at hvs; have := (hvs v).mpr hv; cases this
    · intro z
      obtain ⟨v, r, e⟩ := List.exists_cons_of_ne_nil z
      exact ⟨v, (hvs v).mp (by rw [e]; simp)⟩
  cases hv : vs with
  | nil =>
    refine cs_t rfl ?_
    exact ws_ret (we_non (h2 (by rw [hany]; simpa using hv)))
  | cons v0 r0 =>
    refine cs_f rfl (ws_next ?_)
    have hl := say_len W
    refine ws_retL 1 (we_lc (wi_list (we_call0 ?_)))
    walk_at "w"
    refine ⟨p, W, rfl, rfl, ?_⟩
    refine ⟨_, _, lk_l, ?_⟩
    refine lc_x (sayF p) (fun y => .d y.d) (by simp) (fun y => if vs.all (so y) = true then some y.d else none) (by omega) nokeep ?_ ?_
    · intro y hy
      refine ⟨_, gt_name (by decide), wt_B (we_call0 ?_)⟩
      walk_at "w"
      refine ⟨y, vs, s, fun v hv => vw_so W hy (passR_vw W (x := (m, v)) ((hvs v).mp hv)), rfl, hs, rfl, ?_⟩
      refine ⟨_, rfl, rfl, fun z => ?_, fun z => ?_⟩
      · walk_at "w"
        exact ⟨⟨_, rfl, by simp only [z, if_true]⟩, rfl⟩
      · simp only [z, Bool.false_eq_true, if_false]
    · intro q
      refine ⟨1, q, _, _, rfl, rfl, rfl, ?_⟩
      have e : (sayF p).filterMap (fun y => if vs.all (so y) = true then some y.d else none) = (heldF p told m).map Say.d := by
        rw [filterMap_if]
        unfold heldF
        congr 1
        apply List.filter_congr
        intro y _
        have : vs.all (so y) = true ↔ heldP p told m y := by
          simp only [List.all_eq_true]
          exact ⟨fun a v hv => a v ((hvs v).mpr hv), fun a v hv => a v ((hvs v).mp hv)⟩
        cases hh : vs.all (so y) with
        | true => exact (@decide_eq_true _ (Classical.propDecidable _) (this.mp hh)).symm
        | false => exact (@decide_eq_false _ (Classical.propDecidable _) (fun z => by rw [this.mpr z] at hh; cases hh)).symm
      rw [e]
      exact h1 (hany.mpr (by rw [hv]; simp))
def pre_allheld : List Sl → M → RE → Prop := fun ss μ R => ∃ p told pr, WFp p ∧ RunsOk told ∧ ss = [.d (Prog.d p), .x (.ref pr)] ∧ μ = [(pr, lstD nL told)] ∧
  R (.l ((marksF p).map fun m => .tuple [.str m, hD p told m])) [(pr, lstD nL told)]
theorem rd_all_held : ∀ ss μ R, pre_allheld ss μ R → WS c (t_all_held c.P c.w c.K (SPM c pre_marks) (SPM c pre_held)) (startD N_all_held ss) μ { nx := fun _ μ' => R (.d .none) μ', rt := R } := by
  rintro ss μ R ⟨p, told, pr, W, hro, rfl, rfl, h⟩
  unfold t_all_held
  have hml := marks_len W
  refine ws_retL 1 (we_lc (wi_list (we_call0 ?_)))
  walk_at "w"
  refine ⟨p, W, rfl, rfl, ?_⟩
  refine ⟨_, _, lk_l, ?_⟩
  refine lc_map (marksF p) (fun m => .d (.str m)) (by simp) (fun m => .tuple [.str m, hD p told m]) (by omega) nokeep ?_ ?_
  · intro m hm
    refine ⟨_, gt_name (by decide), ?_⟩
    walk_at "w"
    refine we_callI [0] ?_
    walk_at "w"
    refine ⟨p, told, pr, m, W, hro, hm, rfl, rfl, fun z => ?_, fun z => ?_⟩
    · walk_at "w"
      exact ⟨by simp [dataS, hD, z], rfl⟩
    · walk_at "w"
      exact ⟨by simp [dataS, hD, z], rfl⟩
  · intro q
    exact ⟨1, q, _, _, rfl, rfl, rfl, h⟩
end Sw
/-! SwJud -/
set_option Elab.async false
set_option linter.all false
set_option maxRecDepth 100000
set_option maxHeartbeats 2000000
namespace Sw
open PySem L2 SwH
local macro_rules | `(tactic| walk_at "w1") => `(tactic| first
  | with_reducible refine ws_seq ?_
  | with_reducible refine ws_asgL ?_
  | with_reducible refine ws_asg ?_
  | with_reducible refine ws_setL ?_
  | with_reducible refine ws_asgT ?_
  | with_reducible refine ws_drop ?_
  | with_reducible refine ws_next ?_
  | with_reducible refine ws_cont ?_
  | with_reducible refine ws_if ?_
  | with_reducible refine ws_for ?_
  | (with_reducible refine we_var rfl ?_)
  | with_reducible refine we_int ?_
  | with_reducible refine we_str ?_
  | with_reducible refine we_bl ?_
  | with_reducible refine we_non ?_
  | with_reducible refine we_eqNil ?_
  | with_reducible refine we_neNil ?_
  | with_reducible refine we_op ?_
  | (with_reducible refine wo_ixT 0 rfl rfl ?_)
  | (with_reducible refine wo_ixT 1 rfl rfl ?_)
  | (with_reducible refine wo_ixT 2 rfl rfl ?_)
  | (with_reducible refine wo_ixT 3 rfl rfl ?_)
  | (with_reducible refine wo_ixT 4 rfl rfl ?_)
  | with_reducible refine wo_add ?_
  | with_reducible refine wo_sub ?_
  | with_reducible refine wo_lt ?_
  | with_reducible refine wo_le ?_
  | with_reducible refine wo_gt ?_
  | with_reducible refine wo_ge ?_
  | with_reducible refine wo_eqI ?_
  | with_reducible refine wo_neI ?_
  | with_reducible refine wo_eqS ?_
  | with_reducible refine wo_neS ?_
  | with_reducible refine wt_test ?_
  | with_reducible refine wt_B ?_
  | with_reducible refine wt_not ?_
  | with_reducible refine wt_and ?_
  | with_reducible refine wt_or ?_
  | with_reducible refine wt_yes ?_
  | with_reducible refine we_andV ?_
  | with_reducible refine we_orV ?_
  | with_reducible refine we_notV ?_
  | with_reducible refine wa_nil ?_
  | with_reducible refine wa_cons ?_
  | with_reducible refine we_bm ?_
  | with_reducible refine we_bm0 ?_
  | with_reducible refine we_tup ?_
  | with_reducible refine we_cb ?_
  | (with_reducible refine ⟨_, rfl, ?_⟩)
  | (refine ⟨by simp, _, rfl, ?_⟩)
  | (refine ⟨ListOf.ty (lo_m 0 rfl), ?_⟩)
  | (refine ⟨ListOf.ty (lo_m 1 rfl), ?_⟩)
  | (refine ⟨ListOf.ty (lo_m 2 rfl), ?_⟩)
  | (refine ⟨ListOf.ty (lo_m 3 rfl), ?_⟩)
  | (refine cs_t (by decide) ?_)
  | (refine cs_f (by decide) ?_))
local macro_rules | `(tactic| walk_at "w") => `(tactic| repeat walk_at "w1")


local macro_rules | `(tactic| walk_at "gs") => `(tactic| first
  | exact gts_nil
  | (refine gts_cons (gt_name (by decide)) ?_; walk_at "gs")
  | (refine gts_cons (gt_tup (by walk_at "gs") rfl) ?_; walk_at "gs"))
local macro_rules | `(tactic| walk_at "g") => `(tactic| first
  | exact gt_name (by decide)
  | exact gt_tup (by walk_at "gs") rfl
  | exact gt_pl (by walk_at "gs"))

variable {c : Ct}
/-! ### papers -/
structure LfOk (p : Prog) (kvs : List (Str × Sl)) : Prop where
  ok : ∀ m, m ∈ marksF p → ∃ sys : List Say, getS kvs m = some (.l (sys.map Say.d)) ∧ sys.length ≤ 2000 ∧ ∀ y, y ∈ sys → y ∈ sayF p
  len : kvs.length ≤ 100
structure MvKeys (p : Prog) (ks : List NK) : Prop where
  nd : ks.Nodup
  ok : ∀ k, k ∈ ks → ∃ x, MvOk p x ∧ k = mvK x
theorem MvKeys.nil {p : Prog} : MvKeys p [] := ⟨List.nodup_nil, fun _ h => by cases h⟩
theorem MvKeys.put {p : Prog} {kvs : List (NK × D)} {x : MV} {d : D} (h : MvKeys p (kvs.map (·.1))) (hx : MvOk p x) : MvKeys p ((putS kvs (mvK x) d).map (·.1)) := by
  refine ⟨putS_nodup h.nd, fun k hk => ?_⟩
  rw [putS_keys] at hk
  split at hk
  · exact h.ok k hk
  · rcases List.mem_append.mp hk with hk | hk
    · exact h.ok k hk
    · simp at hk; exact ⟨x, hx, hk⟩
theorem MvKeys.len {p : Prog} (W : WFp p) {ks : List NK} (h : MvKeys p ks) : ks.length ≤ 576 := by
  have h1 := nodup_len (ys := (marksF p).flatMap fun m => (valsL p.boxes).map fun v => mvK (m, v)) h.nd fun k hk => by
    obtain ⟨x, hx, rfl⟩ := h.ok k hk
    exact List.mem_flatMap.mpr ⟨x.1, hx.1, List.mem_map.mpr ⟨x.2, mem_valsL hx.2, rfl⟩⟩
  have h2 := valsL_len W.bx
  have h3 : 8 ^ p.boxes.length ≤ 8 ^ 2 := Nat.pow_le_pow_right (by decide) W.b2
  have h4 := flat_len (fun m => (valsL p.boxes).map fun v => mvK (m, v)) 64 (marksF p) (by intro x _; rw [List.length_map]; omega)
  have := marks_len W
  omega
theorem putS_lenM {κ σ : Type} [DecidableEq κ] {kvs : List (κ × σ)} {k : κ} {v w : σ} (h : getS kvs k = some w) : (putS kvs k v).length = kvs.length := by
  have hm : k ∈ kvs.map (·.1) := by
    apply Decidable.byContradiction
    intro n
    rw [← getS_none_iff, h] at n
    cases n
  have := congrArg List.length (putS_keys (kvs := kvs) (k := k) (v := v))
  rw [if_pos hm] at this
  simpa using this
def pre_keep : List Sl → M → RE → Prop := fun ss μ R => ∃ (p : Prog) (kvs : List (Str × Sl)) (pl pm : Addr) (mk : List (NK × D)) (L : List MV), WFp p ∧ LfOk p kvs ∧ MvKeys p (mk.map (·.1)) ∧ (∀ x, x ∈ L → MvOk p x) ∧ ss = [.x (.ref pl), .l (L.map mvD), .x (.ref pm)] ∧ μ = [(pl, .dk kvs), (pm, .dn mk)] ∧
  ∀ kvs' mk', LfOk p kvs' → MvKeys p (mk'.map (·.1)) → R (.d .none) [(pl, .dk kvs'), (pm, .dn mk')]
theorem rd_keep_so : ∀ ss μ R, pre_keep ss μ R → WS c (t_keep_so c.P c.w c.K (SPM c pre_so)) (startD N_keep_so ss) μ { nx := fun _ μ' => R (.d .none) μ', rt := R } := by
  rintro ss μ R ⟨p, kvs, pl, pm, mk, L, W, hlf, hmk, hL, rfl, rfl, h⟩
  unfold t_keep_so
  refine ws_for (wi_list ?_)
  walk_at "w"
  refine ⟨_, _, lk_l, ?_⟩
  refine for_x L (fun x => .d (mvD x)) (by simp) (fun done Δ μ => ∃ x3 x4 kvs mk, Δ = [some (.x (.ref pl)), some (.l (L.map mvD)), some (.x (.ref pm)), x3, x4, none] ∧ μ = [(pl, .dk kvs), (pm, .dn mk)] ∧ LfOk p kvs ∧ MvKeys p (mk.map (·.1))) ⟨_, _, kvs, mk, rfl, rfl, hlf, hmk⟩ (fun _ _ _ _ => nokeep) ?_ ?_
  · rintro done ⟨m, v⟩ rest Δ μ e ⟨x3, x4, kvs, mk, rfl, rfl, hlf, hmk⟩
    have hx := hL (m, v) (by rw [e]; simp)
    have hml := hmk.len W
    rw [List.length_map] at hml
    obtain ⟨sys, h1, h2, h3⟩ := hlf.ok m hx.1
    refine ⟨_, is12, gt_tup (gts_cons (gt_name (by decide)) (gts_cons (gt_name (by decide)) gts_nil)) rfl, ?_⟩
    refine ws_if (wt_B (we_nnotin ?_))
    walk_at "w"
    refine ⟨mk, mvK (m, v), nd_m 1 rfl, isK_mv (m, v), ?_⟩
    walk_at "w"
    refine ⟨fun z => ?_, fun z => ?_⟩
    · walk_at "w"
      refine ws_nput ?_
      walk_at "w"
      refine ⟨1, pm, mk, mvK (m, v), _, rfl, rfl, isK_mv (m, v), rfl, by omega, ?_⟩
      refine ws_dput (we_frz (we_lc (wi_list (we_dget ?_))))
      walk_at "w"
      refine ⟨kvs, m, _, dk_m 0 rfl, rfl, h1, ?_⟩
      refine ⟨_, _, lk_l, ?_⟩
      refine lc_x sys (fun y => .d y.d) (by simp) (fun y => if so y v = true then some y.d else none) (by omega) nokeep ?_ ?_
      · intro y hy
        have hw := vw_so W (h3 y hy) hx.2
        refine ⟨_, gt_name (by decide), wt_B (we_call0 ?_)⟩
        walk_at "w"
        refine ⟨y, v, hw.1, hw.2, rfl, rfl, ?_⟩
        refine ⟨_, rfl, rfl, fun z => ?_, fun z => ?_⟩
        · walk_at "w"
          exact ⟨⟨_, rfl, by simp only [z, if_true]⟩, rfl⟩
        · simp only [z, Bool.false_eq_true, if_false]
      · intro q
        rw [filterMap_if]
        refine ⟨2, q, _, _, rfl, rfl, rfl, ?_⟩
        walk_at "w"
        refine ⟨0, pl, kvs, m, rfl, rfl, rfl, by have := hlf.len; omega, ?_⟩
        refine ⟨_, _, _, _, rfl, rfl, ⟨fun m' hm' => ?_, ?_⟩, hmk.put hx⟩
        · rw [getS_put]
          by_cases z : m = m'
          · subst z
            rw [if_pos rfl]
            exact ⟨_, rfl, Nat.le_trans (List.length_filter_le _ _) h2, fun y hy => h3 y (List.mem_filter.mp hy).1⟩
          · rw [if_neg z]; exact hlf.ok m' hm'
        · rw [putS_lenM h1]; exact hlf.len
    · exact ws_next ⟨_, _, kvs, mk, rfl, rfl, hlf, hmk⟩
  · rintro Δ μ ⟨x3, x4, kvs, mk, rfl, rfl, hlf, hmk⟩
    exact h kvs mk hlf hmk
abbrev ppD (x : Str × List Say) : D := .tuple [.str x.1, .list (x.2.map Say.d)]
structure PpOk (p : Prog) (Pp : List (Str × List Say)) : Prop where
  ms : Pp.map (·.1) = marksF p
  ok : ∀ x, x ∈ Pp → x.2.length ≤ 2000 ∧ ∀ y, y ∈ x.2 → y ∈ sayF p
def pre_greatest : List Sl → M → RE → Prop := fun ss μ R => ∃ p Pp, WFp p ∧ PpOk p Pp ∧ ss = [.d (Prog.d p), .l (Pp.map ppD)] ∧ μ = [] ∧ ∀ Pp', PpOk p Pp' → R (.l (Pp'.map ppD)) []
theorem rd_greatest : ∀ ss μ R, pre_greatest ss μ R → WS c (t_greatest c.P c.w c.K (SPM c pre_values) (SPM c pre_nextof) (SPM c pre_firstof) (SPM c pre_allso) (SPM c pre_keep)) (startD N_greatest ss) μ { nx := fun _ μ' => R (.d .none) μ', rt := R } := by
  rintro ss μ R ⟨p, Pp, W, hpp, rfl, rfl, h⟩
  unfold t_greatest
  have hml := marks_len W
  have hpl : Pp.length ≤ 9 := by have := congrArg List.length hpp.ms; simp at this; omega
  walk_at "w"
  refine we_dnew (fun pl => ?_)
  refine ws_seq (ws_for (wi_list ?_))
  walk_at "w"
  refine ⟨_, _, lk_l, ?_⟩
  refine for_x Pp (fun x => .d (ppD x)) (by simp) (fun done Δ μ => ∃ x3 x4 kvs, Δ = [some (.d p.d), some (.l (Pp.map ppD)), some (.x (.ref pl)), x3, x4, none, none, none, none] ∧ μ = [(pl, .dk kvs)] ∧ (∀ m, m ∈ done.map (·.1) → ∃ sys : List Say, getS kvs m = some (.l (sys.map Say.d)) ∧ sys.length ≤ 2000 ∧ ∀ y, y ∈ sys → y ∈ sayF p) ∧ kvs.length ≤ done.length)
    ⟨_, _, [], rfl, rfl, by simp, by simp⟩ (fun _ _ _ _ => nokeep) ?_ ?_
  · rintro done ⟨m, sys⟩ rest Δ μ e ⟨x3, x4, kvs, rfl, rfl, hd, hkl⟩
    have hdl : done.length ≤ 9 := by have := congrArg List.length e; simp at this; omega
    have ho := hpp.ok (m, sys) (by rw [e]; simp)
    refine ⟨_, is12, gt_tup (gts_cons (gt_name (by decide)) (gts_cons (gt_name (by decide)) gts_nil)) rfl, ?_⟩
    refine ws_dput ?_
    walk_at "w"
    refine wc_list (.inl lo_d) ?_
    walk_at "w"
    refine ⟨0, pl, kvs, m, rfl, rfl, rfl, by omega, ?_⟩
    refine ⟨_, _, _, rfl, rfl, fun m' hm' => ?_, by have := putS_len (kvs := kvs) (k := m) (v := Sl.l (sys.map Say.d)); simp; omega⟩
    rw [getS_put]
    by_cases z : m = m'
    · rw [if_pos z]; exact ⟨sys, rfl, ho⟩
    · rw [if_neg z]
      refine hd m' ?_
      simp only [List.map_append, List.map_cons, List.map_nil, List.mem_append, List.mem_singleton] at hm'
      exact hm'.resolve_right fun q => z q.symm
  rintro Δ μ ⟨x3, x4, kvs, rfl, rfl, hd, hkl⟩
  have hlf : LfOk p kvs := ⟨fun m hm => hd m (by rw [hpp.ms]; exact hm), by omega⟩
  walk_at "w"
  refine we_nnew (fun pm => ?_)
  walk_at "w"
  refine we_nnew (fun pg => ?_)
  refine ws_seq (ws_drop (we_callI [0, 0] ?_))
  walk_at "w"
  refine we_call0 ?_
  walk_at "w"
  refine ⟨p, W, rfl, rfl, fun L hL => ?_⟩
  walk_at "w"
  refine ⟨p, kvs, pl, pm, [], L, W, hlf, MvKeys.nil, hL, rfl, rfl, fun kvs mk hlf hmk => ?_⟩
  walk_at "w"
  refine ws_while (fun n Δ μ => ∃ x3 x4 x8 b kvs mk gk, Δ = [some (.d p.d), some (.l (Pp.map ppD)), some (.x (.ref pl)), x3, x4, some (.x (.ref pm)), some (.x (.ref pg)), some (.d (.bool b)), x8] ∧ μ = [(pl, .dk kvs), (pm, .dn mk), (pg, .dn gk)] ∧
    LfOk p kvs ∧ MvKeys p (mk.map (·.1)) ∧ MvKeys p (gk.map (·.1)) ∧ n = 2 * (600 - gk.length) + (if b = true then 1 else 0)) ⟨_, _, _, _, true, kvs, mk, [], rfl, rfl, hlf, hmk, MvKeys.nil, rfl⟩ ?_
  rintro n Δ μ ⟨x3, x4, x8, b, kvs, mk, gk, rfl, rfl, hlf, hmk, hgk, hn⟩
  have hgl := hgk.len W
  rw [List.length_map] at hgl
  walk_at "w"
  cases b with
  | false =>
    refine cs_f rfl ?_
    refine ws_ret (we_frzP (we_lc (wi_list ?_)))
    walk_at "w"
    refine ⟨_, _, lk_l, ?_⟩
    have hex : ∃ F : Str → List Say, ∀ m, m ∈ marksF p → getS kvs m = some (.l ((F m).map Say.d)) ∧ (F m).length ≤ 2000 ∧ ∀ y, y ∈ F m → y ∈ sayF p := by
      refine ⟨fun m => open Classical in if h : m ∈ marksF p then Classical.choose (hlf.ok m h) else [], fun m hm => ?_⟩
      simp only [hm, dif_pos]
      exact Classical.choose_spec (hlf.ok m hm)
    obtain ⟨F, hF⟩ := hex
    refine lc_map Pp (fun x => .d (ppD x)) (by simp) (fun x => ppD (x.1, F x.1)) (by omega) nokeep ?_ ?_
    · rintro ⟨m, sys⟩ hx
      have hm : m ∈ marksF p := by rw [← hpp.ms]; exact List.mem_map.mpr ⟨_, hx, rfl⟩
      refine ⟨_, gt_tup (gts_cons (gt_name (by decide)) (gts_cons (gt_name (by decide)) gts_nil)) rfl, ?_⟩
      walk_at "w"
      refine we_dget ?_
      walk_at "w"
      refine ⟨kvs, m, _, dk_m 0 rfl, rfl, (hF m hm).1, ?_⟩
      walk_at "w"
      exact ⟨rfl, rfl⟩
    · intro q
      refine ⟨q, Pp.map fun x => ppD (x.1, F x.1), [], [(pl, .dk kvs), (pm, .dn mk), (pg, .dn gk)], rfl, List.perm_append_comm (l₁ := [(pl, MO.dk kvs), (pm, .dn mk), (pg, .dn gk)]) (l₂ := [(q, _)]), ?_⟩
      have e : (Pp.map fun x => ppD (x.1, F x.1)) = (Pp.map fun x => (x.1, F x.1)).map ppD := by simp [Function.comp_def]
      rw [e]
      refine h _ ⟨by rw [← hpp.ms]; simp [Function.comp_def], fun x hx => ?_⟩
      obtain ⟨y, hy, rfl⟩ := List.mem_map.mp hx
      exact (hF y.1 (by rw [← hpp.ms]; exact List.mem_map.mpr ⟨_, hy, rfl⟩)).2
  | true =>
    refine cs_t rfl ?_
    simp only [if_true] at hn
    walk_at "w"
    refine wi_list ?_
    walk_at "w"
    refine ⟨_, _, lk_l, ?_⟩
    refine for_x Pp (fun x => .d (ppD x)) (by simp) (fun done Δ μ => ∃ x3 x4 x8 b kvs mk gk', Δ = [some (.d p.d), some (.l (Pp.map ppD)), some (.x (.ref pl)), x3, x4, some (.x (.ref pm)), some (.x (.ref pg)), some (.d (.bool b)), x8] ∧ μ = [(pl, .dk kvs), (pm, .dn mk), (pg, .dn gk')] ∧
      LfOk p kvs ∧ MvKeys p (mk.map (·.1)) ∧ MvKeys p (gk'.map (·.1)) ∧ gk.length ≤ gk'.length ∧ (b = true → gk.length < gk'.length)) ⟨_, _, _, false, kvs, mk, gk, rfl, rfl, hlf, hmk, hgk, Nat.le_refl _, by simp⟩ (fun _ _ _ _ => nokeep) ?_ ?_
    · rintro done ⟨m, sys⟩ rest Δ μ e ⟨x3, x4, x8, b, kvs, mk, gk', rfl, rfl, hlf, hmk, hgk', hle, hlt⟩
      have hm : m ∈ marksF p := by rw [← hpp.ms]; exact List.mem_map.mpr ⟨(m, sys), by rw [e]; simp, rfl⟩
      refine ⟨_, is12, gt_tup (gts_cons (gt_name (by decide)) (gts_cons (gt_name (by decide)) gts_nil)) rfl, ?_⟩
      refine ws_for (wi_list (we_call0 ?_))
      walk_at "w"
      refine ⟨p, W, rfl, rfl, fun L hLl hL => ?_⟩
      refine ⟨_, _, lk_l, ?_⟩
      refine for_x L (fun v => .d (vD v)) (by simp) (fun dn Δ μ => ∃ x8 b kvs mk gk', Δ = [some (.d p.d), some (.l (Pp.map ppD)), some (.x (.ref pl)), some (.d (.str m)), some (.d (.list (sys.map Say.d))), some (.x (.ref pm)), some (.x (.ref pg)), some (.d (.bool b)), x8] ∧ μ = [(pl, .dk kvs), (pm, .dn mk), (pg, .dn gk')] ∧
        LfOk p kvs ∧ MvKeys p (mk.map (·.1)) ∧ MvKeys p (gk'.map (·.1)) ∧ gk.length ≤ gk'.length ∧ (b = true → gk.length < gk'.length)) ⟨_, b, kvs, mk, gk', rfl, rfl, hlf, hmk, hgk', hle, hlt⟩ (fun _ _ _ _ => nokeep) ?_ ?_
      · rintro dn v rest2 Δ μ e2 ⟨x8, b, kvs, mk, gk', rfl, rfl, hlf, hmk, hgk', hle, hlt⟩
        have hv := hL v (by rw [e2]; simp)
        have hgl' := hgk'.len W
        rw [List.length_map] at hgl'
        obtain ⟨lf, h1, h2, h3⟩ := hlf.ok m hm
        refine ⟨_, is12, gt_name (by decide), ?_⟩
        refine ws_if (wt_and (wt_B (we_nnotin ?_)))
        walk_at "w"
        refine ⟨gk', mvK (m, v), nd_m 2 rfl, isK_mv (m, v), ?_⟩
        walk_at "w"
        refine ⟨fun z => ?_, fun z => cs_f rfl (ws_next ⟨_, b, kvs, mk, gk', rfl, rfl, hlf, hmk, hgk', hle, hlt⟩)⟩
        have hnk := not_key z
        walk_at "w"
        refine we_call0 ?_
        refine wa_cons (we_dget ?_)
        walk_at "w"
        refine ⟨kvs, m, _, dk_m 0 rfl, rfl, h1, ?_⟩
        walk_at "w"
        refine ⟨lf, v, _, fun y hy => (vw_so W (h3 y hy) hv).1, (fun x hx => hv.bd W.bx x hx), rfl, .inr rfl, rfl, ?_⟩
        walk_at "w"
        refine ⟨fun z2 => ?_, fun z2 => ws_next ⟨_, b, kvs, mk, gk', rfl, rfl, hlf, hmk, hgk', hle, hlt⟩⟩
        walk_at "w"
        refine ws_nput ?_
        walk_at "w"
        refine ⟨2, pg, gk', mvK (m, v), _, rfl, rfl, isK_mv (m, v), rfl, by omega, ?_⟩
        walk_at "w"
        refine we_callI [0, 0] ?_
        walk_at "w"
        refine we_call0 ?_
        walk_at "w"
        refine ⟨p, m, v, W, hm, hv, rfl, rfl, fun L2 hL2 => ?_⟩
        walk_at "w"
        refine ⟨p, kvs, pl, pm, mk, L2, W, hlf, hmk, hL2, rfl, rfl, fun kvs3 mk3 hlf3 hmk3 => ?_⟩
        have hlen : (putS gk' (mvK (m, v)) (PyData.bool true)).length = gk'.length + 1 := by rw [putS_new hnk]; simp
        exact ⟨_, true, kvs3, mk3, _, rfl, rfl, hlf3, hmk3, hgk'.put (x := (m, v)) ⟨hm, hv⟩, by omega, fun _ => by omega⟩
      · rintro Δ μ ⟨x8, b, kvs, mk, gk', rfl, rfl, hlf, hmk, hgk', hle, hlt⟩
        exact ⟨_, _, _, b, kvs, mk, gk', rfl, rfl, hlf, hmk, hgk', hle, hlt⟩
    · rintro Δ μ ⟨x3, x4, x8, b, kvs, mk, gk', rfl, rfl, hlf, hmk, hgk', hle, hlt⟩
      have hgl' := hgk'.len W
      rw [List.length_map] at hgl'
      refine ⟨_, ?_, _, _, _, b, kvs, mk, gk', rfl, rfl, hlf, hmk, hgk', rfl⟩
      cases b with
      | true => have := hlt rfl; simp only [if_true]; omega
      | false => simp only [Bool.false_eq_true, if_false]; omega
end Sw
/-! SwJud2 -/
set_option Elab.async false
set_option linter.all false
set_option maxRecDepth 100000
set_option maxHeartbeats 2000000
namespace Sw
open PySem L2 SwH
local macro_rules | `(tactic| walk_at "w1") => `(tactic| first
  | with_reducible refine ws_seq ?_
  | with_reducible refine ws_asgL ?_
  | with_reducible refine ws_asg ?_
  | with_reducible refine ws_setL ?_
  | with_reducible refine ws_asgT ?_
  | with_reducible refine ws_drop ?_
  | with_reducible refine ws_next ?_
  | with_reducible refine ws_cont ?_
  | with_reducible refine ws_if ?_
  | with_reducible refine ws_for ?_
  | (with_reducible refine we_var rfl ?_)
  | with_reducible refine we_int ?_
  | with_reducible refine we_str ?_
  | with_reducible refine we_bl ?_
  | with_reducible refine we_non ?_
  | with_reducible refine we_eqNil ?_
  | with_reducible refine we_neNil ?_
  | with_reducible refine we_op ?_
  | (with_reducible refine wo_ixT 0 rfl rfl ?_)
  | (with_reducible refine wo_ixT 1 rfl rfl ?_)
  | (with_reducible refine wo_ixT 2 rfl rfl ?_)
  | (with_reducible refine wo_ixT 3 rfl rfl ?_)
  | (with_reducible refine wo_ixT 4 rfl rfl ?_)
  | with_reducible refine wo_add ?_
  | with_reducible refine wo_sub ?_
  | with_reducible refine wo_lt ?_
  | with_reducible refine wo_le ?_
  | with_reducible refine wo_gt ?_
  | with_reducible refine wo_ge ?_
  | with_reducible refine wo_eqI ?_
  | with_reducible refine wo_neI ?_
  | with_reducible refine wo_eqS ?_
  | with_reducible refine wo_neS ?_
  | with_reducible refine wt_test ?_
  | with_reducible refine wt_B ?_
  | with_reducible refine wt_not ?_
  | with_reducible refine wt_and ?_
  | with_reducible refine wt_or ?_
  | with_reducible refine wt_yes ?_
  | with_reducible refine we_andV ?_
  | with_reducible refine we_orV ?_
  | with_reducible refine we_notV ?_
  | with_reducible refine wa_nil ?_
  | with_reducible refine wa_cons ?_
  | with_reducible refine we_bm ?_
  | with_reducible refine we_bm0 ?_
  | with_reducible refine we_tup ?_
  | with_reducible refine we_cb ?_
  | (with_reducible refine ⟨_, rfl, ?_⟩)
  | (refine ⟨by simp, _, rfl, ?_⟩)
  | (refine ⟨ListOf.ty (lo_m 0 rfl), ?_⟩)
  | (refine ⟨ListOf.ty (lo_m 1 rfl), ?_⟩)
  | (refine ⟨ListOf.ty (lo_m 2 rfl), ?_⟩)
  | (refine ⟨ListOf.ty (lo_m 3 rfl), ?_⟩)
  | (refine cs_t (by decide) ?_)
  | (refine cs_f (by decide) ?_))
local macro_rules | `(tactic| walk_at "w") => `(tactic| repeat walk_at "w1")


local macro_rules | `(tactic| walk_at "gs") => `(tactic| first
  | exact gts_nil
  | (refine gts_cons (gt_name (by decide)) ?_; walk_at "gs")
  | (refine gts_cons (gt_tup (by walk_at "gs") rfl) ?_; walk_at "gs"))
local macro_rules | `(tactic| walk_at "g") => `(tactic| first
  | exact gt_name (by decide)
  | exact gt_tup (by walk_at "gs") rfl
  | exact gt_pl (by walk_at "gs"))

variable {c : Ct}
theorem set_permI {α : Type} : ∀ {μ : List α} {i : Nat} {a b : α}, μ[i]? = some a → (b :: μ.eraseIdx i).Perm (μ.set i b)
  | [], _, _, _, h => by simp at h
  | x :: r, 0, a, b, h => .refl _
  | x :: r, i + 1, a, b, h => (List.Perm.swap _ _ _).trans ((set_permI (μ := r) (i := i) (a := a) (by simpa using h)).cons x)
theorem set_self {α : Type} : ∀ {μ : List α} {i : Nat} {a : α}, μ[i]? = some a → μ.set i a = μ
  | [], _, _, h => by simp at h
  | x :: r, 0, a, h => by simp at h; subst h; rfl
  | x :: r, i + 1, a, h => by show x :: r.set i a = _; rw [set_self (by simpa using h)]
theorem we_callRd {Pre : List Sl → M → RE → Prop} (mono : ∀ ss μ R R', Pre ss μ R → (∀ s μ', R s μ' → R' s μ') → Pre ss μ R') {tl : TA} {Δ : Vt} {μ : M} {R : RE} (i : Nat) (h : WA c tl Δ μ fun ss μ1 => ∃ p o, μ1[i]? = some (p, o) ∧ Pre ss [(p, o)] fun s μ' => μ' = [(p, o)] ∧ R s μ1) : WE c (tCall (SPM c Pre) [] E0 tl) Δ μ R :=
  we_permK (we_callP fun B σ H bh e m Q q => h B σ H bh e m Q fun vs B' H' ss μ1 ⟨p, o, hi, hp⟩ => q vs B' H' ss μ1 ⟨[(p, o)], μ1.eraseIdx i, perm_erase hi, mono _ _ _ _ hp fun s μ' ⟨h1, h2⟩ => by
    subst h1
    exact ⟨μ1, [], by simpa using (perm_erase hi).symm, h2⟩⟩)
abbrev Entry := List Int × List Int
def pre_breaking : List Sl → M → RE → Prop := fun ss μ R => ∃ (p : Prog) (E : List Entry) (sy : Say) (si : Sl), WFp p ∧ sy ∈ sayF p ∧ (∀ e, e ∈ E → VW p.boxes e.2) ∧ (si = .d (.list (E.map enD)) ∨ si = .l (E.map enD)) ∧ ss = [si, .d sy.d] ∧ μ = [] ∧
  ((∀ e, e ∈ E → so sy e.2 = true) → R (.d .none) []) ∧ ∀ e, e ∈ E → so sy e.2 = false → R (.d (vD e.1)) []
theorem rd_breaking : ∀ ss μ R, pre_breaking ss μ R → WS c (t_breaking c.P c.w c.K (SPM c pre_so)) (startD N_breaking ss) μ { nx := fun _ μ' => R (.d .none) μ', rt := R } := by
  rintro ss μ R ⟨p, E, sy, si, W, hsy, hE, hsi, rfl, rfl, h1, h2⟩
  unfold t_breaking
  refine ws_seq (ws_for (wi_list ?_))
  walk_at "w"
  refine ⟨_, _, lk_or hsi, ?_⟩
  refine for_x E (fun x => .d (enD x)) (by simp) (fun done Δ μ => ∃ x2 x3 x4, Δ = [some si, some (.d sy.d), x2, x3, x4] ∧ μ = [] ∧ ∀ e, e ∈ done → so sy e.2 = true) ⟨_, _, _, rfl, rfl, by simp⟩ (fun _ _ _ _ => nokeep) ?_ ?_
  · rintro done ⟨ns, v⟩ rest Δ μ e ⟨x2, x3, x4, rfl, rfl, hd⟩
    have hm : (ns, v) ∈ E := by rw [e]; simp
    have hw := vw_so W hsy (hE _ hm)
    refine ⟨_, is12, gt_tup (gts_cons (gt_name (by decide)) (gts_cons (gt_name (by decide)) (gts_cons (gt_name (by decide)) gts_nil))) rfl, ?_⟩
    refine ws_if (wt_not (wt_B (we_call0 ?_)))
    walk_at "w"
    refine ⟨sy, v, hw.1, hw.2, rfl, rfl, ?_⟩
    refine ⟨_, rfl, fun z => ?_, fun z => ?_⟩
    · refine ws_ret ?_
      walk_at "w"
      exact h2 _ hm (by simpa using z)
    · refine ws_next ⟨_, _, _, rfl, rfl, fun e' he => ?_⟩
      rcases List.mem_append.mp he with he | he
      · exact hd e' he
      · simp at he; subst he; simpa using z
  · rintro Δ μ ⟨x2, x3, x4, rfl, rfl, hd⟩
    exact ws_ret (we_non (h1 hd))
noncomputable abbrev prD (p : Prog) (told : List (List Int)) (m : Str) : D := .tuple [.str m, hD p told m]
def pre_paper : List Sl → M → RE → Prop := fun ss μ R => ∃ p told, WFp p ∧ ss = [.d (Prog.d p), .l ((marksF p).map (prD p told))] ∧ μ = [] ∧ ∀ Pp, PpOk p Pp → R (.l (Pp.map ppD)) []
theorem held_len {p : Prog} (W : WFp p) {told : List (List Int)} {m : Str} : (heldF p told m).length ≤ 2000 := Nat.le_trans (List.length_filter_le _ _) (say_len W)
theorem rd_paper_of : ∀ ss μ R, pre_paper ss μ R → WS c (t_paper_of c.P c.w c.K (SPM c pre_sayings)) (startD N_paper_of ss) μ { nx := fun _ μ' => R (.d .none) μ', rt := R } := by
  rintro ss μ R ⟨p, told, W, rfl, rfl, h⟩
  unfold t_paper_of
  have hml := marks_len W
  have hsl := say_len W
  walk_at "w"
  refine ⟨by simp, fun pp => ?_⟩
  refine ws_seq (ws_for (wi_list ?_))
  walk_at "w"
  refine ⟨_, _, lk_l, ?_⟩
  refine for_x (marksF p) (fun m => .d (prD p told m)) (by simp) (fun done Δ μ => ∃ x3 x4 Pp, Δ = [some (.d p.d), some (.l ((marksF p).map (prD p told))), some (.x (.ref pp)), x3, x4] ∧ μ = [(pp, lstD ppD Pp)] ∧ Pp.map (·.1) = done ∧ ∀ x, x ∈ Pp → x.2.length ≤ 2000 ∧ ∀ y, y ∈ x.2 → y ∈ sayF p)
    ⟨_, _, [], rfl, rfl, rfl, by simp⟩ (fun _ _ _ _ => nokeep) ?_ ?_
  · rintro done m rest Δ μ e ⟨x3, x4, Pp, rfl, rfl, hd, hok⟩
    have hdl : Pp.length ≤ 9 := by have := congrArg List.length e; have := congrArg List.length hd; simp at *; omega
    refine ⟨_, is12, gt_tup (gts_cons (gt_name (by decide)) (gts_cons (gt_name (by decide)) gts_nil)) rfl, ?_⟩
    by_cases ha : anyP p told m
    · have eh : hD p told m = .list ((heldF p told m).map Say.d) := by unfold hD; rw [if_pos ha]
      rw [eh]
      walk_at "w"
      refine wo_isN rfl ?_
      walk_at "w"
      refine wc_list (.inl lo_d) ?_
      walk_at "w"
      refine wb_appendD 0 (Pp.map ppD) rfl rfl (by simp only [List.length_map]; omega) ?_
      refine ⟨_, _, Pp ++ [(m, heldF p told m)], rfl, by simp, by simp [hd], fun x hx => ?_⟩
      rcases List.mem_append.mp hx with hx | hx
      · exact hok x hx
      · simp at hx; subst hx; exact ⟨held_len W, fun y hy => (mem_heldF.mp hy).1⟩
    · have eh : hD p told m = .none := by unfold hD; rw [if_neg ha]
      rw [eh]
      walk_at "w"
      refine wo_isN rfl ?_
      walk_at "w"
      refine we_call0 ?_
      walk_at "w"
      refine ⟨p, W, rfl, rfl, ?_⟩
      walk_at "w"
      refine wc_list (.inl lo_l) ?_
      walk_at "w"
      refine wb_appendD 0 (Pp.map ppD) rfl rfl (by simp only [List.length_map]; omega) ?_
      refine ⟨_, _, Pp ++ [(m, sayF p)], rfl, by simp, by simp [hd], fun x hx => ?_⟩
      rcases List.mem_append.mp hx with hx | hx
      · exact hok x hx
      · simp at hx; subst hx; exact ⟨hsl, fun y hy => hy⟩
  · rintro Δ μ ⟨x3, x4, Pp, rfl, rfl, hd, hok⟩
    refine ws_retL 0 ?_
    walk_at "w"
    exact ⟨0, pp, _, _, rfl, rfl, rfl, h Pp ⟨hd, hok⟩⟩
/-! ### sayings as keys -/
def sayK : Say → NK
  | .is a n => .tup [.text "is", .num a, .num n]
  | .frm a n => .tup [.text "from", .num a, .num n]
  | .to a n => .tup [.text "to", .num a, .num n]
  | .rest a m r => .tup [.text "rest", .num a, .num m, .num r]
  | .either a n k => .tup [.text "either", .num a, .num n, .num k]
  | .never a n => .tup [.text "never", .num a, .num n]
  | .same a b => .tup [.text "same", .num a, .num b]
  | .below a b => .tup [.text "below", .num a, .num b]
  | .most a b => .tup [.text "most", .num a, .num b]
  | .gap a b n => .tup [.text "gap", .num a, .num b, .num n]
  | .sum a b n => .tup [.text "sum", .num a, .num b, .num n]
  | .adds a b e => .tup [.text "adds", .num a, .num b, .num e]
  | .times a b e => .tup [.text "times", .num a, .num b, .num e]
theorem sayK_data (s : Say) : (sayK s).data = s.d := by cases s <;> rfl
theorem sayK_depth (s : Say) : (sayK s).depth = 1 := by cases s <;> rfl
theorem isK_say (s : Say) : IsK (.d s.d) (sayK s) := ⟨by rw [sayK_data], by cases s <;> exact ⟨_, rfl⟩, by rw [sayK_depth]; decide⟩
def vdS (b : Bool) : Str := if b then "shown" else "open"
def pre_verdict : List Sl → M → RE → Prop := fun ss μ R => ∃ (p : Prog) (E : List Entry) (sy : Say) (sk : List (NK × D)) (ps : Addr), WFp p ∧ sy ∈ sayF p ∧ (∀ e, e ∈ E → VW p.boxes e.2) ∧ (∀ e, e ∈ E → so sy e.2 = true) ∧ ss = [.l (E.map enD), .d sy.d, .x (.ref ps)] ∧ μ = [(ps, .dn sk)] ∧
  ∀ b, R (.d (.str (vdS b))) [(ps, .dn sk)]
theorem rd_verdict_of : ∀ ss μ R, pre_verdict ss μ R → WS c (t_verdict_of c.P c.w c.K (SPM c pre_breaking)) (startD N_verdict_of ss) μ { nx := fun _ μ' => R (.d .none) μ', rt := R } := by
  rintro ss μ R ⟨p, E, sy, sk, ps, W, hsy, hE, hso, rfl, rfl, h⟩
  unfold t_verdict_of
  refine ws_seq (ws_if (wt_B (we_nin ?_)))
  walk_at "w"
  refine ⟨sk, sayK sy, nd_m 0 rfl, isK_say sy, ?_⟩
  walk_at "w"
  refine ⟨fun z => ws_ret (we_str (h true)), fun z => ?_⟩
  walk_at "w"
  refine we_call0 ?_
  walk_at "w"
  refine ⟨p, E, sy, _, W, hsy, hE, .inr rfl, rfl, rfl, fun _ => ?_, fun e he hf => by rw [hso e he] at hf; cases hf⟩
  walk_at "w"
  refine wo_isN rfl ?_
  walk_at "w"
  exact ws_ret (we_str (h false))
/-! ### settled -/
structure Settled (p : Prog) (told : List (List Int)) : Prop where
  all : ∀ x : MV, Reach p x → anyP p told x.1
  ok : ∀ m s, s ∈ sayF p → anyP p told m → heldP p told m s → ∀ v, Reach p (m, v) → so s v = true
abbrev jD (x : Str × Say × Bool) : D := .tuple [.str x.1, x.2.1.d, .str (vdS x.2.2)]
def pre_judged (K : PySem.W.Frag) (C : Addr) : List Sl → M → RE → Prop := fun ss μ R => ∃ p told pr, InC K C ∧ WFp p ∧ RunsOk told ∧ Settled p told ∧ ss = [.d (Prog.d p), .x (.ref pr)] ∧ μ = [(pr, lstD nL told)] ∧
  ∀ J : List (Str × Say × Bool), R (.l (J.map jD)) []
theorem inp_vw {p : Prog} (W : WFp p) {m : Str} {E : List Entry} (h : ∀ e, e ∈ E → Passed p e.1 (m, e.2) ∧ e.1.length ≤ 640) : ∀ e, e ∈ E → VW p.boxes e.2 := fun e he => passed_vw W (h e he).1
theorem rd_judged {C : Addr} : ∀ ss μ R, pre_judged c.K C ss μ R → WS c (t_judged c.P c.w c.K (SPM c pre_greatest) (SPM c (pre_ibm c.K C)) (SPM c pre_allheld) (SPM c pre_paper) (SPM c pre_verdict)) (startD N_judged ss) μ { nx := fun _ μ' => R (.d .none) μ', rt := R } := by
  rintro ss μ R ⟨p, told, pr, hC, W, hro, hset, rfl, rfl, h⟩
  unfold t_judged
  have hml := marks_len W
  walk_at "w"
  refine we_callI [0] ?_
  walk_at "w"
  refine ⟨p, told, pr, W, hro, rfl, rfl, ?_⟩
  walk_at "w"
  refine we_call0 ?_
  walk_at "w"
  refine we_call0 ?_
  walk_at "w"
  refine ⟨p, told, W, rfl, rfl, fun Pp0 hPp0 => ?_⟩
  walk_at "w"
  refine ⟨p, Pp0, W, hPp0, rfl, rfl, fun Pp hPp => ?_⟩
  walk_at "w"
  refine we_call0 ?_
  walk_at "w"
  refine ⟨p, hC, W, rfl, rfl, fun pi kvs hin => ?_⟩
  walk_at "w"
  refine ⟨by simp, fun pt => ?_⟩
  refine ws_seq (ws_for (wi_enum ?_))
  walk_at "w"
  refine ⟨_, (marksF p).map (prD p told), rfl, .inr rfl, ?_⟩
  refine for_x (enN 0 (marksF p)) (fun x => .d (.tuple [.int x.1, prD p told x.2])) (by rw [enumD_en (prD p told)]; simp) (fun done Δ μ => ∃ (x6 x7 x8 x9 x10 : Option Sl) (J : List (Str × Say × Bool)) (g : M), Δ = [some (.d p.d), some (.x (.ref pr)), some (.l ((marksF p).map (prD p told))), some (.l (Pp.map ppD)), some (.x (.ref pi)), some (.x (.ref pt)), x6, x7, x8, x9, x10] ∧
      μ = (pi, .dk kvs) :: (pr, lstD nL told) :: (pt, lstD jD J) :: g ∧ J.length ≤ 2000 * done.length) ⟨_, _, _, _, _, [], [], rfl, rfl, by simp⟩ (fun _ _ _ _ => nokeep) ?_ ?_
  · rintro done ⟨k, m⟩ rest Δ μ e ⟨x6, x7, x8, x9, x10, J, g, rfl, rfl, hJ⟩
    have hdl : done.length ≤ 9 := by have := congrArg List.length e; simp [enN_len] at this; omega
    have hkm := (mem_enN (show (k, m) ∈ enN 0 (marksF p) by rw [e]; simp)).2
    have hm : m ∈ marksF p := List.mem_of_getElem? hkm
    refine ⟨_, is12, gt_tup (gts_cons (gt_name (by decide)) (gts_cons (gt_tup (gts_cons (gt_name (by decide)) (gts_cons (gt_name (by decide)) gts_nil)) rfl) gts_nil)) rfl, ?_⟩
    by_cases ha : anyP p told m
    · have eh : hD p told m = .list ((heldF p told m).map Say.d) := by unfold hD; rw [if_pos ha]
      rw [eh]
      walk_at "w"
      refine wo_isN rfl ?_
      walk_at "w"
      refine we_nnew (fun ps => ?_)
      refine ws_seq (ws_for (wi_list ?_))
      walk_at "w"
      have hkl : k < Pp.length := by
        have h1 := (List.getElem?_eq_some_iff.mp hkm).1
        have h2 := congrArg List.length hPp.ms
        simp at h1 h2
        omega
      refine wo_ixL k rfl lo_l (t := .d (ppD Pp[k])) (by simp [hkl]) ?_
      have hpk := hPp.ok Pp[k] (List.getElem_mem hkl)
      generalize Pp[k] = pk at hpk ⊢
      walk_at "w"
      refine ⟨_, _, lk_d, ?_⟩
      refine for_x pk.2 (fun y => .d y.d) (by simp) (fun dn Δ μ => ∃ x10 sk, Δ = [some (.d p.d), some (.x (.ref pr)), some (.l ((marksF p).map (prD p told))), some (.l (Pp.map ppD)), some (.x (.ref pi)), some (.x (.ref pt)), some (.d (.int k)), some (.d (.str m)), some (.d (.list ((heldF p told m).map Say.d))), some (.x (.ref ps)), x10] ∧
        μ = (pi, .dk kvs) :: (pr, lstD nL told) :: (pt, lstD jD J) :: (g ++ [(ps, .dn sk)]) ∧ sk.length ≤ dn.length) ⟨_, [], rfl, rfl, by simp⟩ (fun _ _ _ _ => nokeep) ?_ ?_
      · rintro dn y rest2 Δ μ e2 ⟨x10, sk, rfl, rfl, hsk⟩
        have hdn : dn.length ≤ 2000 := by have := congrArg List.length e2; simp at this; omega
        refine ⟨_, is12, gt_name (by decide), ?_⟩
        refine ws_nput ?_
        walk_at "w"
        refine ⟨g.length + 3, ps, sk, sayK y, _, rfl, by simp, isK_say y, rfl, by omega, ?_⟩
        refine ⟨_, putS sk (sayK y) (.bool true), rfl, ?_, by have := putS_len (kvs := sk) (k := sayK y) (v := PyData.bool true); simp; omega⟩
        simp [List.set_append]
      · rintro Δ μ ⟨x10, sk, rfl, rfl, hsk⟩
        refine ws_for (wi_list ?_)
        walk_at "w"
        refine ⟨_, _, lk_d, ?_⟩
        have hhl := held_len W (told := told) (m := m)
        refine for_x (heldF p told m) (fun y => .d y.d) (by simp) (fun dn Δ μ => ∃ x10 J', Δ = [some (.d p.d), some (.x (.ref pr)), some (.l ((marksF p).map (prD p told))), some (.l (Pp.map ppD)), some (.x (.ref pi)), some (.x (.ref pt)), some (.d (.int k)), some (.d (.str m)), some (.d (.list ((heldF p told m).map Say.d))), some (.x (.ref ps)), x10] ∧
          μ = (pi, .dk kvs) :: (pr, lstD nL told) :: (pt, lstD jD J') :: (g ++ [(ps, .dn sk)]) ∧ J'.length ≤ 2000 * done.length + dn.length) ⟨_, J, rfl, rfl, by simpa using hJ⟩ (fun _ _ _ _ => nokeep) ?_ ?_
        · rintro dn y rest2 Δ μ e2 ⟨x10, J', rfl, rfl, hJ'⟩
          have hdn : dn.length ≤ 2000 := by have := congrArg List.length e2; simp at this; omega
          have hy := mem_heldF.mp (show y ∈ heldF p told m by rw [e2]; simp)
          obtain ⟨E, hE1, hE2, hE3⟩ := hin.ok m hm
          refine ⟨_, is12, gt_name (by decide), ?_⟩
          refine ws_drop (we_bm (we_var rfl ⟨ListOf.ty (lo_m 2 rfl), ?_⟩))
          walk_at "w"
          refine we_callRd (fun ss μ R R' ⟨p, E, sy, sk, ps, k1, k2, k3, k4, k5, k6, k7⟩ hR => ⟨p, E, sy, sk, ps, k1, k2, k3, k4, k5, k6, fun b => hR _ _ (k7 b)⟩) (g.length + 3) ?_
          refine wa_cons (we_dget ?_)
          walk_at "w"
          refine ⟨kvs, m, _, dk_m 0 rfl, rfl, hE1, ?_⟩
          refine wa_cons (we_var rfl (wa_cons (we_var rfl (wa_nil ?_))))
          refine ⟨ps, .dn sk, by simp, p, E, y, sk, ps, W, hy.1, inp_vw W hE2, fun e he => hset.ok m y hy.1 ha hy.2 _ ⟨_, (hE2 e he).1⟩, rfl, rfl, fun b => ⟨rfl, ?_⟩⟩
          walk_at "w"
          refine wb_appendD 2 (J'.map jD) rfl rfl (by simp only [List.length_map]; omega) ?_
          exact ⟨_, J' ++ [(m, y, b)], rfl, by simp, by simp only [List.length_append, List.length_cons, List.length_nil]; omega⟩
        · rintro Δ μ ⟨x10, J', rfl, rfl, hJ'⟩
          exact ⟨_, _, _, _, _, J', _, rfl, rfl, by simp only [List.length_append, List.length_cons, List.length_nil]; omega⟩
    · have eh : hD p told m = .none := by unfold hD; rw [if_neg ha]
      rw [eh]
      walk_at "w"
      refine wo_isN rfl ?_
      walk_at "w"
      exact ⟨_, _, _, _, _, J, g, rfl, rfl, by simp only [List.length_append, List.length_cons, List.length_nil]; omega⟩
  · rintro Δ μ ⟨x6, x7, x8, x9, x10, J, g, rfl, rfl, hJ⟩
    refine ws_retL 0 ?_
    walk_at "w"
    exact ⟨2, pt, _, _, rfl, rfl, rfl, h J⟩
end Sw
/-! SwSet -/
set_option Elab.async false
set_option linter.all false
set_option maxRecDepth 100000
set_option maxHeartbeats 2000000
namespace Sw
open PySem L2 SwH
local macro_rules | `(tactic| walk_at "w1") => `(tactic| first
  | with_reducible refine ws_seq ?_
  | with_reducible refine ws_asgL ?_
  | with_reducible refine ws_asg ?_
  | with_reducible refine ws_setL ?_
  | with_reducible refine ws_asgT ?_
  | with_reducible refine ws_drop ?_
  | with_reducible refine ws_next ?_
  | with_reducible refine ws_cont ?_
  | with_reducible refine ws_if ?_
  | with_reducible refine ws_for ?_
  | (with_reducible refine we_var rfl ?_)
  | with_reducible refine we_int ?_
  | with_reducible refine we_str ?_
  | with_reducible refine we_bl ?_
  | with_reducible refine we_non ?_
  | with_reducible refine we_eqNil ?_
  | with_reducible refine we_neNil ?_
  | with_reducible refine we_op ?_
  | (with_reducible refine wo_ixT 0 rfl rfl ?_)
  | (with_reducible refine wo_ixT 1 rfl rfl ?_)
  | (with_reducible refine wo_ixT 2 rfl rfl ?_)
  | (with_reducible refine wo_ixT 3 rfl rfl ?_)
  | (with_reducible refine wo_ixT 4 rfl rfl ?_)
  | with_reducible refine wo_add ?_
  | with_reducible refine wo_sub ?_
  | with_reducible refine wo_lt ?_
  | with_reducible refine wo_le ?_
  | with_reducible refine wo_gt ?_
  | with_reducible refine wo_ge ?_
  | with_reducible refine wo_eqI ?_
  | with_reducible refine wo_neI ?_
  | with_reducible refine wo_eqS ?_
  | with_reducible refine wo_neS ?_
  | with_reducible refine wt_test ?_
  | with_reducible refine wt_B ?_
  | with_reducible refine wt_not ?_
  | with_reducible refine wt_and ?_
  | with_reducible refine wt_or ?_
  | with_reducible refine wt_yes ?_
  | with_reducible refine we_andV ?_
  | with_reducible refine we_orV ?_
  | with_reducible refine we_notV ?_
  | with_reducible refine wa_nil ?_
  | with_reducible refine wa_cons ?_
  | with_reducible refine we_bm ?_
  | with_reducible refine we_bm0 ?_
  | with_reducible refine we_tup ?_
  | with_reducible refine we_cb ?_
  | (with_reducible refine ⟨_, rfl, ?_⟩)
  | (refine ⟨by simp, _, rfl, ?_⟩)
  | (refine ⟨ListOf.ty (lo_m 0 rfl), ?_⟩)
  | (refine ⟨ListOf.ty (lo_m 1 rfl), ?_⟩)
  | (refine ⟨ListOf.ty (lo_m 2 rfl), ?_⟩)
  | (refine ⟨ListOf.ty (lo_m 3 rfl), ?_⟩)
  | (refine cs_t (by decide) ?_)
  | (refine cs_f (by decide) ?_))
local macro_rules | `(tactic| walk_at "w") => `(tactic| repeat walk_at "w1")


local macro_rules | `(tactic| walk_at "gs") => `(tactic| first
  | exact gts_nil
  | (refine gts_cons (gt_name (by decide)) ?_; walk_at "gs")
  | (refine gts_cons (gt_tup (by walk_at "gs") rfl) ?_; walk_at "gs"))
local macro_rules | `(tactic| walk_at "g") => `(tactic| first
  | exact gt_name (by decide)
  | exact gt_tup (by walk_at "gs") rfl
  | exact gt_pl (by walk_at "gs"))

variable {c : Ct}
structure PsOk (p : Prog) (kvs : List (Str × Sl)) (A : Str → Prop) : Prop where
  nd : (kvs.map (·.1)).Nodup
  ms : ∀ m, m ∈ kvs.map (·.1) → m ∈ marksF p
  iff : ∀ m, m ∈ kvs.map (·.1) ↔ A m
theorem PsOk.len {p : Prog} (W : WFp p) {kvs : List (Str × Sl)} {A : Str → Prop} (h : PsOk p kvs A) : kvs.length ≤ 9 := by
  have := nodup_len h.nd h.ms
  have := marks_len W
  simp at *
  omega
theorem PsOk.put {p : Prog} {kvs : List (Str × Sl)} {A : Str → Prop} {m : Str} {s : Sl} (h : PsOk p kvs A) (hm : m ∈ marksF p) : PsOk p (putS kvs m s) fun m' => A m' ∨ m' = m := by
  refine ⟨putS_nodup h.nd, fun m' hm' => ?_, fun m' => ?_⟩
  · rw [putS_keys] at hm'
    split at hm'
    · exact h.ms m' hm'
    · rcases List.mem_append.mp hm' with q | q
      · exact h.ms m' q
      · simp at q; subst q; exact hm
  · rw [putS_keys]
    split
    · rename_i z
      rw [h.iff]
      exact ⟨.inl, fun q => q.elim id fun e => by rw [e]; exact (h.iff m).mp z⟩
    · simp only [List.mem_append, List.mem_singleton, h.iff]
theorem PsOk.cong {p : Prog} {kvs : List (Str × Sl)} {A B : Str → Prop} (h : PsOk p kvs A) (k : ∀ m, A m ↔ B m) : PsOk p kvs B := ⟨h.nd, h.ms, fun m => (h.iff m).trans (k m)⟩
theorem anyP_snoc {p : Prog} {told : List (List Int)} {ns : List Int} {m : Str} : anyP p (told ++ [ns]) m ↔ anyP p told m ∨ ∃ v, Passed p ns (m, v) := by
  constructor
  · rintro ⟨v, n', a, b⟩
    rcases List.mem_append.mp a with a | a
    · exact .inl ⟨v, n', a, b⟩
    · simp at a; subst a; exact .inr ⟨v, b⟩
  · rintro (⟨v, n', a, b⟩ | ⟨v, b⟩)
    · exact ⟨v, n', by simp [a], b⟩
    · exact ⟨v, ns, by simp, b⟩
def AllM (p : Prog) (told : List (List Int)) : Prop := ∀ x : MV, Reach p x → anyP p told x.1
def pre_wam : List Sl → M → RE → Prop := fun ss μ R => ∃ (p : Prog) (runs : List (List Int)) (pi : Addr) (kvs : List (Str × Sl)), WFp p ∧ InpD p kvs ∧ (∀ ns, ns ∈ runs → ns.length ≤ 9000) ∧ runs.length ≤ 40000 ∧ ss = [.d (Prog.d p), .x (.ref pi), .l (runs.map nL)] ∧ μ = [(pi, .dk kvs)] ∧
  ∀ pt extra, AllM p (runs ++ extra) → (AllM p runs → extra = []) → extra.length ≤ 9 → (∀ ns, ns ∈ extra → ns.length ≤ 640) → R (.x (.ref pt)) [(pi, .dk kvs), (pt, lstD nL (runs ++ extra))]
theorem rd_with_all_marks : ∀ ss μ R, pre_wam ss μ R → WS c (t_with_all_marks c.P c.w c.K (SPM c pre_run) (SPM c pre_marks)) (startD N_with_all_marks ss) μ { nx := fun _ μ' => R (.d .none) μ', rt := R } := by
  rintro ss μ R ⟨p, runs, pi, kin, W, hin, hns, hrl, rfl, rfl, h⟩
  unfold t_with_all_marks
  have hml := marks_len W
  refine ws_seq (ws_asg (we_lc (wi_list ?_)))
  walk_at "w"
  refine ⟨_, _, lk_l, ?_⟩
  refine lc_map runs (fun ns => .d (nL ns)) (by simp) nL (by omega) nokeep ?_ ?_
  · intro ns hn
    refine ⟨_, gt_name (by decide), ?_⟩
    walk_at "w"
    exact wc_list (.inl lo_d) ⟨rfl, rfl⟩
  intro pt
  walk_at "w"
  refine we_dnew (fun pd => ?_)
  refine ws_seq (ws_for (wi_list ?_))
  walk_at "w"
  refine ⟨_, _, lk_m 1 rfl, ?_⟩
  refine for_x runs (fun ns => .d (nL ns)) (by simp) (fun done Δ μ => ∃ x5 x6 x7 kvs, Δ = [some (.d p.d), some (.x (.ref pi)), some (.l (runs.map nL)), some (.x (.ref pt)), some (.x (.ref pd)), x5, x6, x7, none] ∧ μ = [(pi, .dk kin), (pt, lstD nL runs), (pd, .dk kvs)] ∧ PsOk p kvs (anyP p done))
    ⟨_, _, _, [], rfl, rfl, ⟨by simp, by simp, fun m => by simp [anyP, PassR]⟩⟩ (fun done Δ μ ⟨x5, x6, x7, kvs, _, e, _⟩ => by subst e; intro e he; simp at he; subst he; simp) ?_ ?_
  · rintro done ns rest Δ μ e ⟨x5, x6, x7, kvs, rfl, rfl, hps⟩
    have hn := hns ns (by rw [e]; simp)
    refine ⟨_, is12, gt_name (by decide), ?_⟩
    refine ws_for (wi_list (we_op (we_call0 ?_)))
    walk_at "w"
    refine ⟨p, ns, _, W, hn, .inl rfl, rfl, rfl, fun L X hL => ?_⟩
    walk_at "w"
    refine ⟨_, _, lk_d, ?_⟩
    refine for_x L (fun x => .d (mvD x)) (by simp) (fun dn Δ μ => ∃ x6 x7 kvs, Δ = [some (.d p.d), some (.x (.ref pi)), some (.l (runs.map nL)), some (.x (.ref pt)), some (.x (.ref pd)), some (.d (nL ns)), x6, x7, none] ∧ μ = [(pi, .dk kin), (pt, lstD nL runs), (pd, .dk kvs)] ∧ PsOk p kvs (fun m => anyP p done m ∨ ∃ v, (m, v) ∈ dn))
      ⟨_, _, kvs, rfl, rfl, hps.cong fun m => by simp⟩ (fun _ _ _ _ => nokeep) ?_ ?_
    · rintro dn ⟨m, v⟩ rest2 Δ μ e2 ⟨x6, x7, kvs, rfl, rfl, hps⟩
      have hm := passed_mark ((hL (m, v)).mp (by rw [e2]; simp))
      have hkl := hps.len W
      refine ⟨_, is12, gt_tup (gts_cons (gt_name (by decide)) (gts_cons (gt_name (by decide)) gts_nil)) rfl, ?_⟩
      refine ws_dput ?_
      walk_at "w"
      refine ⟨2, pd, kvs, m, rfl, rfl, rfl, by omega, ?_⟩
      refine ⟨_, _, _, rfl, rfl, (hps.put hm).cong fun m' => ?_⟩
      constructor
      · rintro ((q | ⟨w, q⟩) | q)
        · exact .inl q
        · exact .inr ⟨w, by simp [q]⟩
        · exact .inr ⟨v, by simp [q]⟩
      · rintro (q | ⟨w, q⟩)
        · exact .inl (.inl q)
        · rcases List.mem_append.mp q with q | q
          · exact .inl (.inr ⟨w, q⟩)
          · simp at q; exact .inr q.1
    · rintro Δ μ ⟨x6, x7, kvs, rfl, rfl, hps⟩
      refine ⟨_, _, _, kvs, rfl, rfl, hps.cong fun m => ?_⟩
      rw [anyP_snoc]
      exact or_congr Iff.rfl ⟨fun ⟨v, q⟩ => ⟨v, (hL _).mp q⟩, fun ⟨v, q⟩ => ⟨v, (hL _).mpr q⟩⟩
  rintro Δ μ ⟨x5, x6, x7, kvs, rfl, rfl, hps⟩
  refine ws_seq (ws_for (wi_list (we_call0 ?_)))
  walk_at "w"
  refine ⟨p, W, rfl, rfl, ?_⟩
  refine ⟨_, _, lk_l, ?_⟩
  refine for_x (marksF p) (fun m => .d (.str m)) (by simp) (fun done Δ μ => ∃ x5 x6 x7 x8 kvs extra, Δ = [some (.d p.d), some (.x (.ref pi)), some (.l (runs.map nL)), some (.x (.ref pt)), some (.x (.ref pd)), x5, x6, x7, x8] ∧ μ = [(pi, .dk kin), (pt, lstD nL (runs ++ extra)), (pd, .dk kvs)] ∧ PsOk p kvs (anyP p (runs ++ extra)) ∧
      (∀ m, m ∈ done → ∀ v, Reach p (m, v) → anyP p (runs ++ extra) m) ∧ (AllM p runs → extra = []) ∧ extra.length ≤ done.length ∧ ∀ ns, ns ∈ extra → ns.length ≤ 640) ⟨_, _, _, _, kvs, [], rfl, by simp, by simpa using hps, by simp, fun _ => rfl, by simp, by simp⟩ (fun _ _ _ _ => nokeep) ?_ ?_
  · rintro done m rest Δ μ e ⟨x5, x6, x7, x8, kvs, extra, rfl, rfl, hps, hd, hex, hel, hen⟩
    have hdl : done.length ≤ 9 := by have := congrArg List.length e; simp at this; omega
    have hm : m ∈ marksF p := by rw [e]; simp
    obtain ⟨E, hE1, hE2, hE3⟩ := hin.ok m hm
    refine ⟨_, is12, gt_name (by decide), ?_⟩
    refine ws_if (wt_and (wt_B (we_dnotin ?_)))
    walk_at "w"
    refine ⟨kvs, m, dk_m 2 rfl, rfl, ?_⟩
    walk_at "w"
    refine ⟨fun z => ?_, fun z => cs_f rfl (ws_next ⟨_, _, _, _, kvs, extra, rfl, rfl, hps, fun m' hm' v hv => ?_, hex, by simp; omega, hen⟩)⟩
    · have hna : ¬ anyP p (runs ++ extra) m := by
        rw [← hps.iff m]
        rw [← getS_none_iff]
        cases hg : getS kvs m with
        | none => rfl
        | some s => rw [hg] at z; cases z
      walk_at "w"
      refine we_dget ?_
      walk_at "w"
      refine ⟨kin, m, _, dk_m 0 rfl, rfl, hE1, ?_⟩
      refine ⟨_, lo_l, ?_⟩
      refine ⟨_, rfl, ?_⟩
      cases E with
      | nil =>
        refine cs_f rfl (ws_next ⟨_, _, _, _, kvs, extra, rfl, rfl, hps, fun m' hm' v hv => ?_, hex, by simp; omega, hen⟩)
        rcases List.mem_append.mp hm' with q | q
        · exact hd m' q v hv
        · simp at q; subst q
          obtain ⟨ns, h0⟩ := hE3 v hv
          cases h0
      | cons en E =>
        obtain ⟨ns, v⟩ := en
        have hen1 := hE2 (ns, v) (by simp)
        refine cs_t rfl ?_
        walk_at "w"
        refine we_dget ?_
        walk_at "w"
        refine ⟨kin, m, _, dk_m 0 rfl, rfl, hE1, ?_⟩
        walk_at "w"
        refine wo_ixL 0 rfl lo_l (t := .d (enD (ns, v))) rfl ?_
        walk_at "w"
        refine wc_list so_t ?_
        walk_at "w"
        refine wb_appendD 1 ((runs ++ extra).map nL) rfl rfl (by simp only [List.length_map, List.length_append]; omega) ?_
        refine ws_for (wi_list (we_op (we_call0 ?_)))
        walk_at "w"
        refine ⟨p, ns, _, W, by have := hen1.2; simp only at this; omega, .inr rfl, rfl, rfl, fun L X hL => ?_⟩
        walk_at "w"
        refine ⟨_, _, lk_d, ?_⟩
        refine for_x L (fun x => .d (mvD x)) (by simp) (fun dn Δ μ => ∃ x6 x7 x8 kvs, Δ = [some (.d p.d), some (.x (.ref pi)), some (.l (runs.map nL)), some (.x (.ref pt)), some (.x (.ref pd)), some (.l (ns.map .int)), x6, x7, x8] ∧ μ = [(pi, .dk kin), (pt, lstD nL (runs ++ (extra ++ [ns]))), (pd, .dk kvs)] ∧ PsOk p kvs (fun m => anyP p (runs ++ extra) m ∨ ∃ v, (m, v) ∈ dn))
          ⟨_, _, _, kvs, rfl, by simp, hps.cong fun m => by simp⟩ (fun _ _ _ _ => nokeep) ?_ ?_
        · rintro dn ⟨m2, v2⟩ rest2 Δ μ e2 ⟨x6, x7, x8, kvs, rfl, rfl, hps⟩
          have hm2 := passed_mark ((hL (m2, v2)).mp (by rw [e2]; simp))
          have hkl := hps.len W
          refine ⟨_, is12, gt_tup (gts_cons (gt_name (by decide)) (gts_cons (gt_name (by decide)) gts_nil)) rfl, ?_⟩
          refine ws_dput ?_
          walk_at "w"
          refine ⟨2, pd, kvs, m2, rfl, rfl, rfl, by omega, ?_⟩
          refine ⟨_, _, _, _, rfl, rfl, (hps.put hm2).cong fun m' => ?_⟩
          constructor
          · rintro ((q | ⟨w, q⟩) | q)
            · exact .inl q
            · exact .inr ⟨w, by simp [q]⟩
            · exact .inr ⟨v2, by simp [q]⟩
          · rintro (q | ⟨w, q⟩)
            · exact .inl (.inl q)
            · rcases List.mem_append.mp q with q | q
              · exact .inl (.inr ⟨w, q⟩)
              · simp at q; exact .inr q.1
        · rintro Δ μ ⟨x6, x7, x8, kvs, rfl, rfl, hps⟩
          have hiff : ∀ m, anyP p (runs ++ (extra ++ [ns])) m ↔ anyP p (runs ++ extra) m ∨ ∃ v, Passed p ns (m, v) := fun m => by rw [← List.append_assoc, anyP_snoc]
          refine ⟨_, _, _, _, kvs, extra ++ [ns], rfl, rfl, hps.cong fun m => ?_, fun m' hm' w hw => ?_, fun hall => ?_, by simp; omega, fun n' hn' => ?_⟩
          · rw [hiff]
            exact or_congr Iff.rfl ⟨fun ⟨v, q⟩ => ⟨v, (hL _).mp q⟩, fun ⟨v, q⟩ => ⟨v, (hL _).mpr q⟩⟩
          · rw [hiff]
            rcases List.mem_append.mp hm' with q | q
            · exact .inl (hd m' q w hw)
            · simp at q; subst q; exact .inr ⟨v, hen1.1⟩
          · obtain ⟨w, n', a, b⟩ := hall (m, v) ⟨ns, hen1.1⟩
            exact absurd ⟨w, n', by simp [a], b⟩ hna
          · rcases List.mem_append.mp hn' with q | q
            · exact hen n' q
            · simp at q; subst q; exact hen1.2
    · rcases List.mem_append.mp hm' with q | q
      · exact hd m' q v hv
      · simp at q; subst q
        rw [← hps.iff]
        apply Decidable.byContradiction
        intro n
        rw [← getS_none_iff] at n
        rw [n] at z; cases z
  · rintro Δ μ ⟨x5, x6, x7, x8, kvs, extra, rfl, rfl, hps, hd, hex, hel, hen⟩
    refine ws_retK 2 ?_
    walk_at "w"
    refine h pt extra (fun x hx => ?_) hex (by omega) hen
    obtain ⟨ns, hp⟩ := hx
    exact hd x.1 (passed_mark hp) x.2 ⟨ns, hp⟩
end Sw
/-! SwSet2 -/
set_option Elab.async false
set_option linter.all false
set_option maxRecDepth 100000
set_option maxHeartbeats 2000000
namespace Sw
open PySem L2 SwH
local macro_rules | `(tactic| walk_at "w1") => `(tactic| first
  | with_reducible refine ws_seq ?_
  | with_reducible refine ws_asgL ?_
  | with_reducible refine ws_asg ?_
  | with_reducible refine ws_setL ?_
  | with_reducible refine ws_asgT ?_
  | with_reducible refine ws_drop ?_
  | with_reducible refine ws_next ?_
  | with_reducible refine ws_cont ?_
  | with_reducible refine ws_if ?_
  | with_reducible refine ws_for ?_
  | (with_reducible refine we_var rfl ?_)
  | with_reducible refine we_int ?_
  | with_reducible refine we_str ?_
  | with_reducible refine we_bl ?_
  | with_reducible refine we_non ?_
  | with_reducible refine we_eqNil ?_
  | with_reducible refine we_neNil ?_
  | with_reducible refine we_op ?_
  | (with_reducible refine wo_ixT 0 rfl rfl ?_)
  | (with_reducible refine wo_ixT 1 rfl rfl ?_)
  | (with_reducible refine wo_ixT 2 rfl rfl ?_)
  | (with_reducible refine wo_ixT 3 rfl rfl ?_)
  | (with_reducible refine wo_ixT 4 rfl rfl ?_)
  | with_reducible refine wo_add ?_
  | with_reducible refine wo_sub ?_
  | with_reducible refine wo_lt ?_
  | with_reducible refine wo_le ?_
  | with_reducible refine wo_gt ?_
  | with_reducible refine wo_ge ?_
  | with_reducible refine wo_eqI ?_
  | with_reducible refine wo_neI ?_
  | with_reducible refine wo_eqS ?_
  | with_reducible refine wo_neS ?_
  | with_reducible refine wt_test ?_
  | with_reducible refine wt_B ?_
  | with_reducible refine wt_not ?_
  | with_reducible refine wt_and ?_
  | with_reducible refine wt_or ?_
  | with_reducible refine wt_yes ?_
  | with_reducible refine we_andV ?_
  | with_reducible refine we_orV ?_
  | with_reducible refine we_notV ?_
  | with_reducible refine wa_nil ?_
  | with_reducible refine wa_cons ?_
  | with_reducible refine we_bm ?_
  | with_reducible refine we_bm0 ?_
  | with_reducible refine we_tup ?_
  | with_reducible refine we_cb ?_
  | (with_reducible refine ⟨_, rfl, ?_⟩)
  | (refine ⟨by simp, _, rfl, ?_⟩)
  | (refine ⟨ListOf.ty (lo_m 0 rfl), ?_⟩)
  | (refine ⟨ListOf.ty (lo_m 1 rfl), ?_⟩)
  | (refine ⟨ListOf.ty (lo_m 2 rfl), ?_⟩)
  | (refine ⟨ListOf.ty (lo_m 3 rfl), ?_⟩)
  | (refine cs_t (by decide) ?_)
  | (refine cs_f (by decide) ?_))
local macro_rules | `(tactic| walk_at "w") => `(tactic| repeat walk_at "w1")


local macro_rules | `(tactic| walk_at "gs") => `(tactic| first
  | exact gts_nil
  | (refine gts_cons (gt_name (by decide)) ?_; walk_at "gs")
  | (refine gts_cons (gt_tup (by walk_at "gs") rfl) ?_; walk_at "gs"))
local macro_rules | `(tactic| walk_at "g") => `(tactic| first
  | exact gt_name (by decide)
  | exact gt_tup (by walk_at "gs") rfl
  | exact gt_pl (by walk_at "gs"))

variable {c : Ct}
def Settled2 (p : Prog) (told : List (List Int)) : Prop := ∀ m s, s ∈ sayF p → anyP p told m → heldP p told m s → ∀ v, Reach p (m, v) → so s v = true
def msK (m : Str) (s : Say) : NK := .tup [.text m, sayK s]
theorem msK_data (m : Str) (s : Say) : (msK m s).data = .tuple [.str m, s.d] := by simp [msK, NestedKey.data, NestedKey.datas, sayK_data]
theorem isK_ms (m : Str) (s : Say) : IsK (.d (.tuple [.str m, s.d])) (msK m s) := ⟨by rw [msK_data], ⟨_, rfl⟩, by simp [msK, NestedKey.depth, NestedKey.depthAll, sayK_depth]⟩
structure SafeOk (p : Prog) (ks : List NK) : Prop where
  nd : ks.Nodup
  ok : ∀ k, k ∈ ks → ∃ m s, m ∈ marksF p ∧ s ∈ sayF p ∧ k = msK m s ∧ ∀ v, Reach p (m, v) → so s v = true
theorem SafeOk.nil {p : Prog} : SafeOk p [] := ⟨List.nodup_nil, fun _ h => by cases h⟩
theorem SafeOk.len {p : Prog} (W : WFp p) {ks : List NK} (h : SafeOk p ks) : ks.length ≤ 18000 := by
  have h1 := nodup_len (ys := (marksF p).flatMap fun m => (sayF p).map fun s => msK m s) h.nd fun k hk => by
    obtain ⟨m, s, hm, hs, rfl, _⟩ := h.ok k hk
    exact List.mem_flatMap.mpr ⟨m, hm, List.mem_map.mpr ⟨s, hs, rfl⟩⟩
  have h4 := flat_len (fun m => (sayF p).map fun s => msK m s) 2000 (marksF p) (by intro x _; rw [List.length_map]; exact say_len W)
  have := marks_len W
  omega
theorem sayK_inj {s t : Say} (h : sayK s = sayK t) : s.d = t.d := by rw [← sayK_data, ← sayK_data, h]
theorem say_d_inj {s t : Say} (h : s.d = t.d) : s = t := by
  cases s <;> cases t <;> simp only [Say.d, PyData.tuple.injEq, List.cons.injEq, PyData.str.injEq, PyData.int.injEq, and_true, true_and, List.cons_ne_nil, and_false, false_and] at h <;> first
    | (obtain ⟨h1, h2, h3⟩ := h; subst h1 h2 h3; rfl)
    | (obtain ⟨h1, h2⟩ := h; subst h1 h2; rfl)
    | (exact absurd h (by decide))
    | (exact absurd h.1 (by decide))
    | (obtain ⟨h0, _⟩ := h; exact absurd h0 (by decide))
def pre_fb : List Sl → M → RE → Prop := fun ss μ R => ∃ (p : Prog) (told : List (List Int)) (pi pr psf : Addr) (kin : List (Str × Sl)) (sk : List (NK × D)), WFp p ∧ RunsOk told ∧ InpD p kin ∧ SafeOk p (sk.map (·.1)) ∧ ss = [.d (Prog.d p), .x (.ref pi), .x (.ref pr), .x (.ref psf)] ∧
  μ = [(pi, .dk kin), (pr, lstD nL told), (psf, .dn sk)] ∧ ∀ sk', SafeOk p (sk'.map (·.1)) →
    (Settled2 p told → R (.d .none) [(pi, .dk kin), (pr, lstD nL told), (psf, .dn sk')]) ∧
    ∀ ns m s v, m ∈ marksF p → s ∈ heldF p told m → anyP p told m → Passed p ns (m, v) → so s v = false → ns.length ≤ 640 → R (.d (vD ns)) [(pi, .dk kin), (pr, lstD nL told), (psf, .dn sk')]
theorem rd_first_broken : ∀ ss μ R, pre_fb ss μ R → WS c (t_first_broken c.P c.w c.K (SPM c pre_breaking) (SPM c pre_allheld)) (startD N_first_broken ss) μ { nx := fun _ μ' => R (.d .none) μ', rt := R } := by
  rintro ss μ R ⟨p, told, pi, pr, psf, kin, sk, W, hro, hin, hsk, rfl, rfl, h⟩
  unfold t_first_broken
  refine ws_seq (ws_for (wi_list (we_callRd (fun ss μ R R' ⟨p, told, pr, k1, k2, k3, k4, k5⟩ hR => ⟨p, told, pr, k1, k2, k3, k4, hR _ _ k5⟩) 1 ?_)))
  walk_at "w"
  refine ⟨pr, _, rfl, p, told, pr, W, hro, rfl, rfl, rfl, ?_⟩
  refine ⟨_, _, lk_l, ?_⟩
  refine for_x (marksF p) (fun m => .d (prD p told m)) (by simp) (fun done Δ μ => ∃ (x4 x5 x6 x7 : Option Sl) (sk : List (NK × D)), Δ = [some (.d p.d), some (.x (.ref pi)), some (.x (.ref pr)), some (.x (.ref psf)), x4, x5, x6, x7] ∧ μ = [(pi, .dk kin), (pr, lstD nL told), (psf, .dn sk)] ∧ SafeOk p (sk.map (·.1)) ∧
      ∀ m, m ∈ done → ∀ s, s ∈ heldF p told m → anyP p told m → ∀ v, Reach p (m, v) → so s v = true) ⟨_, _, _, _, sk, rfl, rfl, hsk, by simp⟩ (fun _ _ _ _ => nokeep) ?_ ?_
  · rintro done m rest Δ μ e ⟨x4, x5, x6, x7, sk, rfl, rfl, hsk, hd⟩
    have hm : m ∈ marksF p := by rw [e]; simp
    refine ⟨_, is12, gt_tup (gts_cons (gt_name (by decide)) (gts_cons (gt_name (by decide)) gts_nil)) rfl, ?_⟩
    by_cases ha : anyP p told m
    · have eh : hD p told m = .list ((heldF p told m).map Say.d) := by unfold hD; rw [if_pos ha]
      rw [eh]
      walk_at "w"
      refine wo_isN rfl ?_
      walk_at "w"
      refine wi_list ?_
      walk_at "w"
      refine ⟨_, _, lk_d, ?_⟩
      refine for_x (heldF p told m) (fun y => .d y.d) (by simp) (fun dn Δ μ => ∃ (x6 x7 : Option Sl) (sk : List (NK × D)), Δ = [some (.d p.d), some (.x (.ref pi)), some (.x (.ref pr)), some (.x (.ref psf)), some (.d (.str m)), some (.d (.list ((heldF p told m).map Say.d))), x6, x7] ∧ μ = [(pi, .dk kin), (pr, lstD nL told), (psf, .dn sk)] ∧ SafeOk p (sk.map (·.1)) ∧
        ∀ s, s ∈ dn → ∀ v, Reach p (m, v) → so s v = true) ⟨_, _, sk, rfl, rfl, hsk, by simp⟩ (fun _ _ _ _ => nokeep) ?_ ?_
      · rintro dn y rest2 Δ μ e2 ⟨x6, x7, sk, rfl, rfl, hsk, hdn⟩
        have hyh : y ∈ heldF p told m := by rw [e2]; simp
        have hy := mem_heldF.mp hyh
        have hskl := hsk.len W
        rw [List.length_map] at hskl
        obtain ⟨E, hE1, hE2, hE3⟩ := hin.ok m hm
        refine ⟨_, is12, gt_name (by decide), ?_⟩
        refine ws_if (wt_B (we_nnotin ?_))
        walk_at "w"
        refine ⟨sk, msK m y, nd_m 2 rfl, isK_ms m y, ?_⟩
        walk_at "w"
        refine ⟨fun z => ?_, fun z => ws_next ⟨_, _, sk, rfl, rfl, hsk, fun s hs => ?_⟩⟩
        · have hnk := not_key z
          walk_at "w"
          refine we_call0 (wa_cons (we_dget ?_))
          walk_at "w"
          refine ⟨kin, m, _, dk_m 0 rfl, rfl, hE1, ?_⟩
          walk_at "w"
          refine ⟨p, E, y, _, W, hy.1, inp_vw W hE2, .inr rfl, rfl, rfl, fun hall => ?_, fun e he hf => ?_⟩
          · walk_at "w"
            refine wo_notN rfl ?_
            walk_at "w"
            refine ws_nput ?_
            walk_at "w"
            refine ⟨2, psf, sk, msK m y, _, rfl, rfl, isK_ms m y, rfl, by omega, ?_⟩
            rw [putS_new hnk]
            have hall' : ∀ v, Reach p (m, v) → so y v = true := fun v hv => by
              obtain ⟨ns, hns⟩ := hE3 v hv
              exact hall _ hns
            refine ⟨_, _, _, rfl, rfl, ⟨?_, fun k hk => ?_⟩, fun s hs => ?_⟩
            · rw [← putS_new hnk]; exact putS_nodup hsk.nd
            · simp only [List.map_append, List.map_cons, List.map_nil, List.mem_append, List.mem_singleton] at hk
              rcases hk with hk | rfl
              · exact hsk.ok k hk
              · exact ⟨m, y, hm, hy.1, rfl, hall'⟩
            · rcases List.mem_append.mp hs with q | q
              · exact hdn s q
              · simp at q; subst q; exact hall'
          · walk_at "w"
            refine wo_notN rfl ?_
            walk_at "w"
            refine ws_ret ?_
            walk_at "w"
            exact (h sk hsk).2 e.1 m y e.2 hm hyh ha (hE2 e he).1 hf (hE2 e he).2
        · rcases List.mem_append.mp hs with q | q
          · exact hdn s q
          · simp at q; subst q
            obtain ⟨m', s', h1, h2, h3, h4⟩ := hsk.ok _ (is_key z)
            simp only [msK, NestedKey.tup.injEq, List.cons.injEq, NestedKey.text.injEq, and_true] at h3
            have := say_d_inj (sayK_inj h3.2)
            rw [h3.1, this]
            exact h4
      · rintro Δ μ ⟨x6, x7, sk, rfl, rfl, hsk, hdn⟩
        refine ⟨_, _, _, _, sk, rfl, rfl, hsk, fun m' hm' s hs ha' => ?_⟩
        rcases List.mem_append.mp hm' with q | q
        · exact hd m' q s hs ha'
        · simp at q; subst q; exact hdn s hs
    · have eh : hD p told m = .none := by unfold hD; rw [if_neg ha]
      rw [eh]
      walk_at "w"
      refine wo_isN rfl ?_
      walk_at "w"
      refine ⟨_, _, _, _, sk, rfl, rfl, hsk, fun m' hm' s hs ha' => ?_⟩
      rcases List.mem_append.mp hm' with q | q
      · exact hd m' q s hs ha'
      · simp at q; subst q; exact absurd ha' ha
  · rintro Δ μ ⟨x4, x5, x6, x7, sk, rfl, rfl, hsk, hd⟩
    refine ws_ret (we_non ?_)
    refine (h sk hsk).1 fun m s hs ha hh v hv => ?_
    obtain ⟨ns, hp⟩ := hv
    exact hd m (passed_mark hp) s (mem_heldF.mpr ⟨hs, hh⟩) ha v ⟨ns, hp⟩
/-! ### it ends: the held fall -/
noncomputable def msr (p : Prog) (told : List (List Int)) : Nat := ((marksF p).map fun m => (heldF p told m).length).sum
theorem filter_le {α : Type} (P Q : α → Bool) : ∀ (xs : List α), (∀ x, Q x = true → P x = true) → (xs.filter Q).length ≤ (xs.filter P).length
  | [], _ => Nat.le_refl _
  | x :: xs, h => by
    have ih := filter_le P Q xs h
    cases hq : Q x with
    | true => simp [hq, h x hq]; exact ih
    | false => cases hp : P x <;> simp [hq, hp] <;> omega
theorem filter_lt {α : Type} (P Q : α → Bool) : ∀ (xs : List α) (y : α), (∀ x, Q x = true → P x = true) → y ∈ xs → P y = true → Q y = false → (xs.filter Q).length < (xs.filter P).length
  | x :: xs, y, h, hy, hp, hq => by
    have le := filter_le P Q xs h
    rcases List.mem_cons.mp hy with rfl | hy
    · simp [hp, hq]; omega
    · have ih := filter_lt P Q xs y h hy hp hq
      cases hq' : Q x with
      | true => simp [hq', h x hq']; exact ih
      | false => cases hp' : P x <;> simp [hq', hp'] <;> omega
theorem sum_le {α : Type} (f g : α → Nat) : ∀ (xs : List α), (∀ x, x ∈ xs → f x ≤ g x) → (xs.map f).sum ≤ (xs.map g).sum
  | [], _ => Nat.le_refl _
  | x :: xs, h => by
    have := h x (by simp)
    have := sum_le f g xs fun y hy => h y (by simp [hy])
    simp; omega
theorem sum_lt {α : Type} (f g : α → Nat) : ∀ (xs : List α) (y : α), (∀ x, x ∈ xs → f x ≤ g x) → y ∈ xs → f y < g y → (xs.map f).sum < (xs.map g).sum
  | x :: xs, y, h, hy, hl => by
    have h1 := h x (by simp)
    have h2 := sum_le f g xs fun y hy => h y (by simp [hy])
    rcases List.mem_cons.mp hy with rfl | hy
    · simp; omega
    · have := sum_lt f g xs y (fun y hy => h y (by simp [hy])) hy hl
      simp; omega
theorem msr_lt {p : Prog} {told : List (List Int)} {ns : List Int} {m : Str} {s : Say} {v : List Int} (hm : m ∈ marksF p) (hs : s ∈ heldF p told m) (hp : Passed p ns (m, v)) (hf : so s v = false) : msr p (told ++ [ns]) < msr p told := by
  have sub : ∀ m s, heldP p (told ++ [ns]) m s → heldP p told m s := fun m s h v ⟨n, a, b⟩ => h v ⟨n, by simp [a], b⟩
  have hh := mem_heldF.mp hs
  unfold msr heldF
  refine sum_lt _ _ _ m (fun m' _ => filter_le _ _ _ fun x hx => ?_) hm (filter_lt _ _ _ s (fun x hx => ?_) hh.1 ?_ ?_)
  · simp only [decide_eq_true_eq] at hx ⊢; exact sub _ _ hx
  · simp only [decide_eq_true_eq] at hx ⊢; exact sub _ _ hx
  · simp only [decide_eq_true_eq]; exact hh.2
  · simp only [decide_eq_false_iff_not]
    intro h
    rw [h v ⟨ns, by simp, hp⟩] at hf
    cases hf
theorem msr_le {p : Prog} (W : WFp p) {told : List (List Int)} : msr p told ≤ 18000 := by
  have := sum_le (fun m => (heldF p told m).length) (fun _ => 2000) (marksF p) (fun m _ => held_len W)
  have h2 := marks_len W
  have h3 : ∀ (xs : List Str), (xs.map fun _ => 2000).sum = 2000 * xs.length := by
    intro xs
    induction xs with
    | nil => rfl
    | cons a r ih => simp [ih]; omega
  rw [h3] at this
  unfold msr
  omega
def pre_settled (K : PySem.W.Frag) (C : Addr) : List Sl → M → RE → Prop := fun ss μ R => ∃ (p : Prog) (runs : List (List Int)), InC K C ∧ WFp p ∧ (∀ ns, ns ∈ runs → ns.length ≤ 9000) ∧ runs.length ≤ 40000 ∧ ss = [.d (Prog.d p), .l (runs.map nL)] ∧ μ = [] ∧
  ∀ extra, Settled p (runs ++ extra) → (Settled p runs → extra = []) → extra.length ≤ 18010 → (∀ ns, ns ∈ extra → ns.length ≤ 640) → R (.l ((runs ++ extra).map nL)) []
theorem rd_settled {C : Addr} : ∀ ss μ R, pre_settled c.K C ss μ R → WS c (t_settled c.P c.w c.K (SPM c (pre_ibm c.K C)) (SPM c pre_wam) (SPM c pre_fb)) (startD N_settled ss) μ { nx := fun _ μ' => R (.d .none) μ', rt := R } := by
  rintro ss μ R ⟨p, runs, hC, W, hns, hrl, rfl, rfl, h⟩
  unfold t_settled
  walk_at "w"
  refine we_call0 ?_
  walk_at "w"
  refine ⟨p, hC, W, rfl, rfl, fun pi kin hin => ?_⟩
  walk_at "w"
  refine we_callI [0] ?_
  walk_at "w"
  refine ⟨p, runs, pi, kin, W, hin, hns, hrl, rfl, rfl, fun pt ex0 hall hex0 hexl hexn => ?_⟩
  walk_at "w"
  refine we_nnew (fun psf => ?_)
  have hro : ∀ ex : List (List Int), ex.length ≤ 18010 → (∀ ns, ns ∈ ex → ns.length ≤ 640) → RunsOk (runs ++ ex) := fun ex h1 h2 => ⟨fun ns hn => by
    rcases List.mem_append.mp hn with q | q
    · exact hns ns q
    · have := h2 ns q; omega, by simp; omega⟩
  walk_at "w"
  refine we_callI [0, 0, 0] ?_
  walk_at "w"
  refine ⟨p, runs ++ ex0, pi, pt, psf, kin, [], W, hro ex0 (by omega) hexn, hin, SafeOk.nil, rfl, rfl, fun sk hsk => ?_⟩
  have goal2 : ∀ sk nd, SafeOk p (sk.map (·.1)) → ((nd = PyData.none ∧ Settled2 p (runs ++ ex0)) ∨ ∃ ns m s v, nd = vD ns ∧ m ∈ marksF p ∧ s ∈ heldF p (runs ++ ex0) m ∧ anyP p (runs ++ ex0) m ∧ Passed p ns (m, v) ∧ so s v = false ∧ ns.length ≤ 640) →
      WS c (tSeq (tWhile (tTest (tOp rNotN (tVar 5) (tC .non))) (tSeq (tDrop (tBM c.K "list" rAppend (tVar 3) (tCons (tCB (rList2 c.K) (tCons (tVar 5) tNil)) tNil)))
        (tAsg (tCall (SPM c pre_fb) [] E0 (tCons (tVar 0) (tCons (tVar 2) (tCons (tVar 3) (tCons (tVar 4) tNil))))) (gName 5)))) (tRet (tVar 3)))
        [some (.d p.d), some (.l (runs.map nL)), some (.x (.ref pi)), some (.x (.ref pt)), some (.x (.ref psf)), some (.d nd)] [(pi, .dk kin), (pt, lstD nL (runs ++ ex0)), (psf, .dn sk)] { nx := fun _ μ' => R (.d .none) μ', rt := R } := by
    intro sk nd hsk hnd
    refine ws_seq (ws_while (fun n Δ μ => ∃ (ex : List (List Int)) (sk : List (NK × D)) (nd : D), Δ = [some (.d p.d), some (.l (runs.map nL)), some (.x (.ref pi)), some (.x (.ref pt)), some (.x (.ref psf)), some (.d nd)] ∧ μ = [(pi, .dk kin), (pt, lstD nL (runs ++ ex)), (psf, .dn sk)] ∧ SafeOk p (sk.map (·.1)) ∧
      ((nd = PyData.none ∧ Settled2 p (runs ++ ex)) ∨ ∃ ns m s v, nd = vD ns ∧ m ∈ marksF p ∧ s ∈ heldF p (runs ++ ex) m ∧ anyP p (runs ++ ex) m ∧ Passed p ns (m, v) ∧ so s v = false ∧ ns.length ≤ 640) ∧
      AllM p (runs ++ ex) ∧ (Settled p runs → ex = []) ∧ (∀ ns, ns ∈ ex → ns.length ≤ 640) ∧ n = msr p (runs ++ ex) ∧ ex.length + n ≤ 18010) ⟨_, ex0, sk, nd, rfl, rfl, hsk, hnd, hall, fun hs => hex0 hs.all, hexn, rfl, by have := msr_le W (told := runs ++ ex0); omega⟩ ?_)
    rintro n Δ μ ⟨ex, sk, nd, rfl, rfl, hsk, hnd, hall, hex, hexn, hn, hl⟩
    walk_at "w"
    rcases hnd with ⟨rfl, hs2⟩ | ⟨ns, m, s, v, rfl, hm, hs, ha, hp, hf, hnl⟩
    · refine wo_notN rfl ?_
      refine ⟨_, rfl, cs_f rfl ?_⟩
      refine ws_retL 0 ?_
      walk_at "w"
      exact ⟨1, pt, _, _, rfl, rfl, rfl, h ex ⟨hall, hs2⟩ hex (by omega) hexn⟩
    · refine wo_notN rfl ?_
      refine ⟨_, rfl, cs_t rfl ?_⟩
      walk_at "w"
      refine wc_list so_t ?_
      walk_at "w"
      refine wb_appendD 1 ((runs ++ ex).map nL) rfl rfl (by simp only [List.length_map, List.length_append]; omega) ?_
      have hlt := msr_lt hm hs hp hf
      have e1 : ((runs ++ ex).map nL ++ [nL ns]).map Sl.d = ((runs ++ (ex ++ [ns])).map nL).map Sl.d := by simp
      rw [e1]
      have hexn' : ∀ n', n' ∈ ex ++ [ns] → n'.length ≤ 640 := fun n' hn' => by
        rcases List.mem_append.mp hn' with q | q
        · exact hexn n' q
        · simp at q; subst q; exact hnl
      have hex' : Settled p runs → ex ++ [ns] = [] := fun hst => by
        exfalso
        have e0 := hex hst
        subst e0
        rw [List.append_nil] at hs ha
        have hh := mem_heldF.mp hs
        rw [hst.ok m s hh.1 ha hh.2 v ⟨ns, hp⟩] at hf
        cases hf
      have hall' : AllM p (runs ++ (ex ++ [ns])) := fun x hx => by
        obtain ⟨w, n', a, b⟩ := hall x hx
        exact ⟨w, n', by rw [← List.append_assoc]; exact List.mem_append_left _ a, b⟩
      have hmsr : msr p (runs ++ (ex ++ [ns])) < n := by rw [← List.append_assoc, hn]; exact hlt
      walk_at "w"
      refine we_callI [0, 0, 0] ?_
      walk_at "w"
      refine ⟨p, runs ++ (ex ++ [ns]), pi, pt, psf, kin, sk, W, hro _ (by simp; omega) hexn', hin, hsk, rfl, rfl, fun sk' hsk' => ⟨fun hs2 => ?_, fun ns2 m2 s2 v2 k1 k2 k3 k4 k5 k6 => ?_⟩⟩
      · exact ⟨_, hmsr, ex ++ [ns], sk', .none, rfl, rfl, hsk', .inl ⟨rfl, hs2⟩, hall', hex', hexn', rfl, by simp; omega⟩
      · exact ⟨_, hmsr, ex ++ [ns], sk', vD ns2, rfl, rfl, hsk', .inr ⟨ns2, m2, s2, v2, rfl, k1, k2, k3, k4, k5, k6⟩, hall', hex', hexn', rfl, by simp; omega⟩
  exact ⟨fun hs2 => goal2 sk .none hsk (.inl ⟨rfl, hs2⟩), fun ns m s v k1 k2 k3 k4 k5 k6 => goal2 sk (vD ns) hsk (.inr ⟨ns, m, s, v, rfl, k1, k2, k3, k4, k5, k6⟩)⟩
end Sw
/-! SwLaw1 -/
set_option Elab.async false
set_option linter.all false
set_option maxRecDepth 100000
set_option maxHeartbeats 2000000
namespace Sw
open PySem L2 SwH
local macro_rules | `(tactic| walk_at "w1") => `(tactic| first
  | with_reducible refine ws_seq ?_
  | with_reducible refine ws_asgL ?_
  | with_reducible refine ws_asg ?_
  | with_reducible refine ws_setL ?_
  | with_reducible refine ws_asgT ?_
  | with_reducible refine ws_drop ?_
  | with_reducible refine ws_next ?_
  | with_reducible refine ws_cont ?_
  | with_reducible refine ws_if ?_
  | with_reducible refine ws_for ?_
  | (with_reducible refine we_var rfl ?_)
  | with_reducible refine we_int ?_
  | with_reducible refine we_str ?_
  | with_reducible refine we_bl ?_
  | with_reducible refine we_non ?_
  | with_reducible refine we_eqNil ?_
  | with_reducible refine we_neNil ?_
  | with_reducible refine we_op ?_
  | (with_reducible refine wo_ixT 0 rfl rfl ?_)
  | (with_reducible refine wo_ixT 1 rfl rfl ?_)
  | (with_reducible refine wo_ixT 2 rfl rfl ?_)
  | (with_reducible refine wo_ixT 3 rfl rfl ?_)
  | (with_reducible refine wo_ixT 4 rfl rfl ?_)
  | with_reducible refine wo_add ?_
  | with_reducible refine wo_sub ?_
  | with_reducible refine wo_lt ?_
  | with_reducible refine wo_le ?_
  | with_reducible refine wo_gt ?_
  | with_reducible refine wo_ge ?_
  | with_reducible refine wo_eqI ?_
  | with_reducible refine wo_neI ?_
  | with_reducible refine wo_eqS ?_
  | with_reducible refine wo_neS ?_
  | with_reducible refine wt_test ?_
  | with_reducible refine wt_B ?_
  | with_reducible refine wt_not ?_
  | with_reducible refine wt_and ?_
  | with_reducible refine wt_or ?_
  | with_reducible refine wt_yes ?_
  | with_reducible refine we_andV ?_
  | with_reducible refine we_orV ?_
  | with_reducible refine we_notV ?_
  | with_reducible refine wa_nil ?_
  | with_reducible refine wa_cons ?_
  | with_reducible refine we_bm ?_
  | with_reducible refine we_bm0 ?_
  | with_reducible refine we_tup ?_
  | with_reducible refine we_cb ?_
  | (with_reducible refine ⟨_, rfl, ?_⟩)
  | (refine ⟨by simp, _, rfl, ?_⟩)
  | (refine ⟨ListOf.ty (lo_m 0 rfl), ?_⟩)
  | (refine ⟨ListOf.ty (lo_m 1 rfl), ?_⟩)
  | (refine ⟨ListOf.ty (lo_m 2 rfl), ?_⟩)
  | (refine ⟨ListOf.ty (lo_m 3 rfl), ?_⟩)
  | (refine cs_t (by decide) ?_)
  | (refine cs_f (by decide) ?_))
local macro_rules | `(tactic| walk_at "w") => `(tactic| repeat walk_at "w1")


local macro_rules | `(tactic| walk_at "gs") => `(tactic| first
  | exact gts_nil
  | (refine gts_cons (gt_name (by decide)) ?_; walk_at "gs")
  | (refine gts_cons (gt_tup (by walk_at "gs") rfl) ?_; walk_at "gs"))
local macro_rules | `(tactic| walk_at "g") => `(tactic| first
  | exact gt_name (by decide)
  | exact gt_tup (by walk_at "gs") rfl
  | exact gt_pl (by walk_at "gs"))

variable {c : Ct}
def pre_lworth (k : Nat) : List Sl → M → RE → Prop := fun ss μ R => ∃ p v e, WFp p ∧ VW p.boxes v ∧ Ex.wf p.names e ∧ e.dep < k ∧ ss = [.d e.d, .d (.list (p.boxes.map Box.d)), .d (vD v)] ∧ μ = [] ∧ R (.d (.int (e.val p.boxes v))) []
theorem rd_law_worth (k : Nat) : ∀ ss μ R, pre_lworth (k + 1) ss μ R → WS c (t_law_worth c.P c.w c.K (SPM c (pre_lworth k))) (startD N_law_worth ss) μ { nx := fun _ μ' => R (.d .none) μ', rt := R } := by
  rintro ss μ R ⟨p, v, e, W, hv, he, hd, rfl, rfl, h⟩
  unfold t_law_worth
  have hb2 := W.b2
  cases e with
  | num n => dsimp only [Ex.d]; walk_at "w"; exact ws_ret (by walk_at "w"; exact h)
  | box x =>
    dsimp only [Ex.d]
    walk_at "w"
    refine ws_retK 0 ?_
    walk_at "w"
    refine we_lc (wi_list ?_)
    walk_at "w"
    refine ⟨_, _, lk_d, ?_⟩
    refine lc_map p.boxes (fun b => .d b.d) (by simp) (fun b => .str b.name) (by omega) nokeep ?_ ?_
    · intro b hb
      refine ⟨_, gt_name (by decide), ?_⟩
      walk_at "w"
      exact ⟨rfl, rfl⟩
    · intro q
      obtain ⟨b, y, h1, h2, h3, h4, _⟩ := box_ix hv he
      walk_at "w"
      refine wb_index (xs := p.boxes.map fun b => V.str b.name) (j := p.boxes.findIdx fun b => decide (b.name = x)) (lo_m 0 rfl) (by simp [fV]) rfl ⟨.str b.name, by simp [h1], by simp [eqV, h2], ?_⟩ ?_
      · intro m z' hm hz
        have hml : m < p.boxes.length := by
          have := (List.getElem?_eq_some_iff.mp h1).1
          omega
        simp only [List.getElem?_map, List.getElem?_eq_getElem hml, Option.map_some, Option.some.injEq] at hz
        subst hz
        have := List.not_of_lt_findIdx hm
        simp only [Bool.not_eq_true, decide_eq_false_iff_not] at this
        simp [eqV, this]
      · refine wo_ixT _ rfl (d := .int y) (by simp [h3]) ?_
        rw [h4] at h
        exact h
  | add a b =>
    simp only [Ex.dep] at hd
    dsimp only [Ex.d]
    walk_at "w"
    refine we_call0 ?_
    walk_at "w"
    refine ⟨p, v, a, W, hv, he.1, by omega, rfl, rfl, ?_⟩
    walk_at "w"
    refine we_call0 ?_
    walk_at "w"
    refine ⟨p, v, b, W, hv, he.2, by omega, rfl, rfl, ?_⟩
    walk_at "w"
    exact ws_ret (by walk_at "w"; exact h)
  | sub a b =>
    simp only [Ex.dep] at hd
    dsimp only [Ex.d]
    walk_at "w"
    refine we_call0 ?_
    walk_at "w"
    refine ⟨p, v, a, W, hv, he.1, by omega, rfl, rfl, ?_⟩
    walk_at "w"
    refine we_call0 ?_
    walk_at "w"
    refine ⟨p, v, b, W, hv, he.2, by omega, rfl, rfl, ?_⟩
    walk_at "w"
    exact ws_ret (by walk_at "w"; exact h)
  | mul a b =>
    simp only [Ex.dep] at hd
    obtain ⟨⟨x, rfl, hx⟩, y, rfl, hy⟩ := he
    dsimp only [Ex.d]
    walk_at "w"
    refine we_call0 ?_
    walk_at "w"
    refine ⟨p, v, .box x, W, hv, hx, by omega, rfl, rfl, ?_⟩
    walk_at "w"
    refine we_call0 ?_
    walk_at "w"
    refine ⟨p, v, .box y, W, hv, hy, by omega, rfl, rfl, ?_⟩
    walk_at "w"
    refine ws_ret ?_
    walk_at "w"
    refine wo_mul ?_ h
    left
    have := val_bd W hv hx
    omega
def pre_lnext : List Sl → M → RE → Prop := fun ss μ R => ∃ p s r n, WFp p ∧ SW p s ∧ p.rows[s.1]? = some r ∧ ss = [.d (Prog.d p), .d (.int s.1), .d (vD s.2), .d (.int n)] ∧ μ = [] ∧ R (.d (oD (nxt p s n))) []
theorem rd_law_next : ∀ ss μ R, pre_lnext ss μ R → WS c (t_law_next c.P c.w c.K (SPM c (pre_lworth 4))) (startD N_law_next ss) μ { nx := fun _ μ' => R (.d .none) μ', rt := R } := by
  rintro ss μ R ⟨p, s, r, n, W, hs, hr, rfl, rfl, h⟩
  unfold t_law_next
  have hrl := (List.getElem?_eq_some_iff.mp hr).1
  have wr := W.rw r (List.mem_of_getElem? hr)
  have hl := hs.2.len
  have hb2 := W.b2
  walk_at "w"
  refine wo_ixL s.1 rfl lo_d (t := .d r.d) (by simp [hr]) ?_
  cases r with
  | stop =>
    dsimp only [Row.d, Row.kind, Row.args]
    walk_at "w"
    refine ws_ret (we_non ?_)
    have : nxt p s n = none := by unfold nxt; rw [hr]
    rw [this] at h; exact h
  | mark m =>
    dsimp only [Row.d, Row.kind, Row.args]
    walk_at "w"
    refine ws_ret ?_
    walk_at "w"
    have : nxt p s n = some (s.1 + 1, s.2) := by unfold nxt; rw [hr]
    rw [this] at h; exact h
  | go t =>
    dsimp only [Row.d, Row.kind, Row.args]
    walk_at "w"
    refine ws_ret ?_
    walk_at "w"
    have : nxt p s n = some (t, s.2) := by unfold nxt; rw [hr]
    rw [this] at h; exact h
  | iff lt e f t =>
    dsimp only [Row.d, Row.kind, Row.args]
    walk_at "w"
    refine we_call0 ?_
    walk_at "w"
    refine ⟨p, s.2, e, W, hs.2, wr.1.1, by have := wr.1.2; omega, rfl, rfl, ?_⟩
    walk_at "w"
    refine we_call0 ?_
    walk_at "w"
    refine ⟨p, s.2, f, W, hs.2, wr.2.1.1, by have := wr.2.1.2; omega, rfl, rfl, ?_⟩
    have h1 : tells lt (e.val p.boxes s.2) (f.val p.boxes s.2) = true → nxt p s n = some (t, s.2) := fun z => by unfold nxt; rw [hr]; simp [z]
    have h2 : tells lt (e.val p.boxes s.2) (f.val p.boxes s.2) = false → nxt p s n = some (s.1 + 1, s.2) := fun z => by unfold nxt; rw [hr]; simp [z]
    cases lt with
    | true =>
      simp only [sgS, if_true]
      walk_at "w"
      refine ⟨fun z => ?_, fun z => ?_⟩
      · walk_at "w"
        refine ws_ret ?_
        walk_at "w"
        rw [h1 z] at h; exact h
      · walk_at "w"
        refine ws_ret ?_
        walk_at "w"
        rw [h2 z] at h; exact h
    | false =>
      simp only [sgS, Bool.false_eq_true, if_false]
      walk_at "w"
      refine ⟨fun z => ?_, fun z => ?_⟩
      · refine ws_ret ?_
        walk_at "w"
        rw [h1 z] at h; exact h
      · walk_at "w"
        refine ws_ret ?_
        walk_at "w"
        rw [h2 z] at h; exact h
  | ask a =>
    dsimp only [Row.d, Row.kind, Row.args]
    have ha : a < p.boxes.length := wr
    have hb : p.boxes[a]? = some p.boxes[a] := List.getElem?_eq_getElem ha
    walk_at "w"
    refine wo_ixL a rfl lo_d (t := .d (p.boxes[a].d)) (by simp [ha]) ?_
    generalize p.boxes[a] = b at hb ⊢
    have hx : nxt p s n = takeF p a n s := by unfold nxt; rw [hr]
    rw [hx] at h
    walk_at "w"
    refine ⟨fun z => ?_, fun z => ?_⟩
    · walk_at "w"
      refine ws_ret (we_non ?_)
      have : takeF p a n s = none := by unfold takeF; rw [hb]; simp at z; simp [z]
      rw [this] at h; exact h
    · walk_at "w"
      refine ⟨fun z2 => ?_, fun z2 => ?_⟩
      · refine ws_ret (we_non ?_)
        have : takeF p a n s = none := by unfold takeF; rw [hb]; simp at z2; simp [z2]
        rw [this] at h; exact h
      · refine ws_next ?_
        refine ws_ret ?_
        walk_at "w"
        refine we_slToT ?_
        walk_at "w"
        refine ⟨a, _, rfl, rfl, ?_⟩
        walk_at "w"
        refine wo_catA (by simp only [List.length_append, List.length_take, List.length_drop, List.length_map, List.length_cons, List.length_nil]; omega) ?_
        refine we_slFromT ?_
        walk_at "w"
        refine ⟨a + 1, _, by simp, rfl, by simp; omega, ?_⟩
        refine wo_catA (by simp only [List.length_append, List.length_take, List.length_drop, List.length_map, List.length_cons, List.length_nil]; omega) ?_
        walk_at "w"
        have e1 : takeF p a n s = some (s.1 + 1, s.2.set a n) := by
          unfold takeF; rw [hb]; simp at z z2; simp; omega
        have e2 : (s.2.map PyData.int).take a ++ [PyData.int n] ++ (s.2.map PyData.int).drop (a + 1) = (s.2.set a n).map PyData.int := by
          rw [List.set_eq_take_append_cons_drop, if_pos (by omega)]
          simp
        rw [e1] at h
        rw [e2]
        exact h
  | put a x =>
    dsimp only [Row.d, Row.kind, Row.args]
    have ha : a < p.boxes.length := wr.1
    have hb : p.boxes[a]? = some p.boxes[a] := List.getElem?_eq_getElem ha
    walk_at "w"
    refine we_call0 ?_
    walk_at "w"
    refine ⟨p, s.2, x, W, hs.2, wr.2.1, by have := wr.2.2; omega, rfl, rfl, ?_⟩
    have hx : nxt p s n = takeF p a (x.val p.boxes s.2) s := by unfold nxt; rw [hr]
    rw [hx] at h
    generalize x.val p.boxes s.2 = n at h ⊢
    walk_at "w"
    refine wo_ixL a rfl lo_d (t := .d (p.boxes[a].d)) (by simp [ha]) ?_
    generalize p.boxes[a] = b at hb ⊢
    walk_at "w"
    refine ⟨fun z => ?_, fun z => ?_⟩
    · walk_at "w"
      refine ws_ret (we_non ?_)
      have : takeF p a n s = none := by unfold takeF; rw [hb]; simp at z; simp [z]
      rw [this] at h; exact h
    · walk_at "w"
      refine ⟨fun z2 => ?_, fun z2 => ?_⟩
      · refine ws_ret (we_non ?_)
        have : takeF p a n s = none := by unfold takeF; rw [hb]; simp at z2; simp [z2]
        rw [this] at h; exact h
      · refine ws_next ?_
        refine ws_ret ?_
        walk_at "w"
        refine we_slToT ?_
        walk_at "w"
        refine ⟨a, _, rfl, rfl, ?_⟩
        walk_at "w"
        refine wo_catA (by simp only [List.length_append, List.length_take, List.length_drop, List.length_map, List.length_cons, List.length_nil]; omega) ?_
        refine we_slFromT ?_
        walk_at "w"
        refine ⟨a + 1, _, by simp, rfl, by simp; omega, ?_⟩
        refine wo_catA (by simp only [List.length_append, List.length_take, List.length_drop, List.length_map, List.length_cons, List.length_nil]; omega) ?_
        walk_at "w"
        have e1 : takeF p a n s = some (s.1 + 1, s.2.set a n) := by
          unfold takeF; rw [hb]; simp at z z2; simp; omega
        have e2 : (s.2.map PyData.int).take a ++ [PyData.int n] ++ (s.2.map PyData.int).drop (a + 1) = (s.2.set a n).map PyData.int := by
          rw [List.set_eq_take_append_cons_drop, if_pos (by omega)]
          simp
        rw [e1] at h
        rw [e2]
        exact h
theorem take_len : True := trivial
def pre_passed : List Sl → M → RE → Prop := fun ss μ R => ∃ p ns sn, WFp p ∧ ns.length ≤ 9000 ∧ (sn = .d (nL ns) ∨ sn = .l (ns.map .int)) ∧ ss = [.d (Prog.d p), sn] ∧ μ = [] ∧ ∀ L, PassL p ns L → R (.l (L.map mvD)) []
theorem oD_non (o : Option Stt) : nonS (.d (oD o)) = some o.isNone := by cases o <;> rfl
theorem rd_law_passed : ∀ ss μ R, pre_passed ss μ R → WS c (t_law_passed c.P c.w c.K (SPM c pre_lnext)) (startD N_law_passed ss) μ { nx := fun _ μ' => R (.d .none) μ', rt := R } := by
  rintro ss μ R ⟨p, ns, sn, W, hl, hsn, rfl, rfl, h⟩
  unfold t_law_passed
  have hN := allSt_len W
  have hb2 := W.b2
  walk_at "w"
  refine ⟨by simp, fun pt => ?_⟩
  walk_at "w"
  refine we_nnew (fun pm => ?_)
  walk_at "w"
  refine we_lc (wi_list ?_)
  walk_at "w"
  refine ⟨_, _, lk_d, ?_⟩
  refine lc_map p.boxes (fun b => .d b.d) (by simp) (fun b => .int b.first) (by omega) nokeep (fun b hb => ⟨_, gt_name (by decide), by walk_at "w"; exact ⟨rfl, rfl⟩⟩) (fun q => ?_)
  walk_at "w"
  refine wc_tupL (lo_m 2 rfl) ?_
  walk_at "w"
  have e : (p.boxes.map fun b => PyData.int b.first) = (p.boxes.map Box.first).map PyData.int := by simp
  rw [e]
  refine ws_co (co_drop 2) ?_
  refine ws_while (fun m Δ μ => ∃ at_ L kvs o x6 x7 pm, Δ = [some (.d p.d), some sn, some (.x (.ref pt)), some (.x (.ref pm)), some (.d (.int (at_ : Nat))), some (.d (oD o)), x6, x7, none] ∧
    μ = [(pt, .lst ((L.map mvD).map .d)), (pm, .dn kvs)] ∧ at_ ≤ ns.length ∧ (∀ s, o = some s → RunI p ns (ns.drop at_) L (kvs.map (·.1)) s) ∧ (o = none → PassL p ns L) ∧ m = (match o with | none => 0 | some _ => (ns.length - at_) * 1000 + (900 - kvs.length)) ∧ L.length + m ≤ ns.length * 1000 + 900)
    ⟨_, 0, [], [], some (first p), _, _, pm, rfl, rfl, Nat.zero_le _, (fun s e => by cases e; exact runI_start), (fun e => by cases e), rfl, by simp⟩ ?_
  rintro m Δ μ ⟨at_, L, kvs, o, x6, x7, pm, rfl, rfl, hat, hI, hP, hm, hLm⟩
  have fin : ∀ (Δ : Vt) (kvs : List (NK × D)) (L : List MV) (A : AE), A.rt = R → Δ[2]? = some (some (.x (.ref pt))) → PassL p ns L → WS c (tRet (tVar 2)) Δ [(pt, .lst ((L.map mvD).map .d)), (pm, .dn kvs)] A := by
    intro Δ kvs L A hA h3 hp
    refine ws_retL 0 (we_var h3 ⟨0, pt, _, _, rfl, rfl, rfl, ?_⟩)
    rw [hA]
    exact h L hp
  walk_at "w"
  refine wo_notN (oD_non o) ?_
  walk_at "w"
  cases o with
  | none => exact cs_f rfl (cs_f rfl (fin _ kvs L _ rfl rfl (hP rfl)))
  | some s =>
    have hI := hI s rfl
    have hsw := hI.rc.sw W
    have hkl : kvs.length ≤ 640 := by have := hI.ks.len; simp at this; omega
    refine cs_t rfl ?_
    walk_at "w"
    refine wo_ixT 0 rfl rfl ?_
    walk_at "w"
    refine wc_lenL lo_d ?_
    walk_at "w"
    refine ⟨fun zl => ?_, fun zl => ?_⟩
    rotate_left
    · refine cs_f rfl ?_
      have hlt : ¬ s.1 < p.rows.length := by simpa using zl
      have hr : p.rows[s.1]? = none := List.getElem?_eq_none (by omega)
      refine fin _ kvs L _ rfl rfl (hI.done ?_ ?_)
      · unfold cstep nxt; rw [hr]; rfl
      · rintro y ⟨h1, _⟩; rw [hr] at h1; cases h1
    · have hlt : s.1 < p.rows.length := by simpa using zl
      refine wt_B (we_nnotin ?_)
      walk_at "w"
      refine ⟨kvs, stK s, nd_m 1 rfl, isK_st s, ?_⟩
      walk_at "w"
      refine ⟨fun z => ?_, fun z => fin _ kvs L _ rfl rfl (hI.round (is_key z))⟩
      have hnk := not_key z
      walk_at "w"
      refine ws_nput ?_
      walk_at "w"
      refine ⟨1, pm, kvs, stK s, _, rfl, rfl, isK_st s, rfl, by omega, ?_⟩
      rw [putS_new hnk]
      walk_at "w"
      refine wo_ixT 0 rfl rfl ?_
      obtain ⟨r, hr⟩ : ∃ r, p.rows[s.1]? = some r := ⟨_, List.getElem?_eq_getElem hlt⟩
      refine wo_ixL s.1 rfl lo_d (t := .d r.d) (by simp [hr]) ?_
      cases r with
      | ask a =>
        dsimp only [Row.d, Row.kind, Row.args]
        walk_at "w"
        refine wc_lenL (lo_or hsn) ?_
        walk_at "w"
        refine ⟨fun ze => ?_, fun ze => ?_⟩
        · have hae : at_ = ns.length := by simp at ze; omega
          refine fin _ _ L _ rfl rfl (hI.done ?_ (noMark hr (by intro m z; cases z)))
          rw [hae, List.drop_length]
          exact cstep_ask0 hr
        · have hae : at_ < ns.length := by simp at ze; omega
          have hdr : ns.drop at_ = ns[at_] :: ns.drop (at_ + 1) := List.drop_eq_getElem_cons hae
          walk_at "w"
          refine wo_ixL at_ rfl (lo_or hsn) (t := .d (.int ns[at_])) (by simp [hae]) ?_
          walk_at "w"
          refine we_nnew (fun pm' => ?_)
          refine ws_co (co_drop 1) ?_
          walk_at "w"
          refine we_call0 ?_
          walk_at "w"
          refine wo_ixT 0 rfl rfl ?_
          walk_at "w"
          refine wo_ixT 1 rfl rfl ?_
          walk_at "w"
          refine ⟨p, s, .ask a, ns[at_], W, hsw, hr, rfl, rfl, ?_⟩
          refine ⟨_, ?_, at_ + 1, L, [], nxt p s ns[at_], _, _, pm', rfl, rfl, hae, ?_, ?_, rfl, ?_⟩
          · simp only [List.length_nil] at hm ⊢; split <;> omega
          · intro s' hs'
            exact hI.ask hdr (by rw [hdr, cstep_ask hr, hs']; rfl) (noMark hr (by intro m z; cases z))
          · intro hn
            exact hI.done (by rw [hdr, cstep_ask hr, hn]; rfl) (noMark hr (by intro m z; cases z))
          · simp only [List.length_nil] at hm hLm ⊢; split <;> omega
      | mark mk =>
        dsimp only [Row.d, Row.kind, Row.args]
        walk_at "w"
        refine wo_ixT 1 rfl rfl ?_
        walk_at "w"
        refine wb_appendD 0 (L.map mvD) rfl rfl (by simp only [List.length_map]; omega) ?_
        walk_at "w"
        refine we_call0 ?_
        walk_at "w"
        refine wo_ixT 0 rfl rfl ?_
        walk_at "w"
        refine wo_ixT 1 rfl rfl ?_
        walk_at "w"
        refine ⟨p, s, .mark mk, 0, W, hsw, hr, rfl, rfl, ?_⟩
        have hx : nxt p s 0 = some (s.1 + 1, s.2) := by unfold nxt; rw [hr]
        rw [hx]
        refine ⟨_, ?_, at_, L ++ [(mk, s.2)], kvs ++ [(stK s, .bool true)], some (s.1 + 1, s.2), _, _, pm, rfl, by simp, hat, ?_, (fun e => by cases e), rfl, ?_⟩
        · simp only [List.length_append, List.length_cons, List.length_nil] at hm ⊢; omega
        · intro s' hs'
          have := hI.go W hnk (s' := s') (L' := L ++ [(mk, s.2)]) (by rw [cstep_go hr (by intro a z; cases z), hx, hs']; rfl) (fun y => by
            rw [List.mem_append, List.mem_singleton]
            refine or_congr Iff.rfl ⟨fun e => by subst e; exact ⟨hr, rfl⟩, fun ⟨h1, h2⟩ => ?_⟩
            rw [hr] at h1
            simp only [Option.some.injEq, Row.mark.injEq] at h1
            exact Prod.ext h1.symm h2)
          simpa using this
        · simp only [List.length_append, List.length_cons, List.length_nil] at hm hLm ⊢; omega
      | _ =>
        dsimp only [Row.d, Row.kind, Row.args]
        walk_at "w"
        refine we_call0 ?_
        walk_at "w"
        refine wo_ixT 0 rfl rfl ?_
        walk_at "w"
        refine wo_ixT 1 rfl rfl ?_
        walk_at "w"
        refine ⟨p, s, _, 0, W, hsw, hr, rfl, rfl, ?_⟩
        refine ⟨_, ?_, at_, L, kvs ++ [(stK s, .bool true)], nxt p s 0, _, _, pm, rfl, rfl, hat, ?_, ?_, rfl, ?_⟩
        · simp only [List.length_append, List.length_cons, List.length_nil] at hm ⊢; split <;> omega
        · intro s' hs'
          have := hI.go W hnk (s' := s') (L' := L) (by rw [cstep_go hr (by intro a z; cases z), hs']; rfl) (fun y =>
            ⟨fun e => .inl e, fun e => e.elim id fun m => absurd m (noMark hr (by intro m z; cases z) y)⟩)
          simpa using this
        · intro hn
          exact hI.done (by rw [cstep_go hr (by intro a z; cases z), hn]; rfl) (noMark hr (by intro m z; cases z))
        · simp only [List.length_append, List.length_cons, List.length_nil] at hm hLm ⊢; split <;> omega
end Sw
/-! SwLaw2 -/
set_option Elab.async false
set_option linter.all false
set_option maxRecDepth 100000
set_option maxHeartbeats 2000000
namespace Sw
open PySem L2 SwH
local macro_rules | `(tactic| walk_at "w1") => `(tactic| first
  | with_reducible refine ws_seq ?_
  | with_reducible refine ws_asgL ?_
  | with_reducible refine ws_asg ?_
  | with_reducible refine ws_setL ?_
  | with_reducible refine ws_asgT ?_
  | with_reducible refine ws_drop ?_
  | with_reducible refine ws_next ?_
  | with_reducible refine ws_cont ?_
  | with_reducible refine ws_if ?_
  | with_reducible refine ws_for ?_
  | (with_reducible refine we_var rfl ?_)
  | with_reducible refine we_int ?_
  | with_reducible refine we_str ?_
  | with_reducible refine we_bl ?_
  | with_reducible refine we_non ?_
  | with_reducible refine we_eqNil ?_
  | with_reducible refine we_neNil ?_
  | with_reducible refine we_op ?_
  | (with_reducible refine wo_ixT 0 rfl rfl ?_)
  | (with_reducible refine wo_ixT 1 rfl rfl ?_)
  | (with_reducible refine wo_ixT 2 rfl rfl ?_)
  | (with_reducible refine wo_ixT 3 rfl rfl ?_)
  | (with_reducible refine wo_ixT 4 rfl rfl ?_)
  | with_reducible refine wo_add ?_
  | with_reducible refine wo_sub ?_
  | with_reducible refine wo_lt ?_
  | with_reducible refine wo_le ?_
  | with_reducible refine wo_gt ?_
  | with_reducible refine wo_ge ?_
  | with_reducible refine wo_eqI ?_
  | with_reducible refine wo_neI ?_
  | with_reducible refine wo_eqS ?_
  | with_reducible refine wo_neS ?_
  | with_reducible refine wt_test ?_
  | with_reducible refine wt_B ?_
  | with_reducible refine wt_not ?_
  | with_reducible refine wt_and ?_
  | with_reducible refine wt_or ?_
  | with_reducible refine wt_yes ?_
  | with_reducible refine we_andV ?_
  | with_reducible refine we_orV ?_
  | with_reducible refine we_notV ?_
  | with_reducible refine wa_nil ?_
  | with_reducible refine wa_cons ?_
  | with_reducible refine we_bm ?_
  | with_reducible refine we_bm0 ?_
  | with_reducible refine we_tup ?_
  | with_reducible refine we_cb ?_
  | (with_reducible refine ⟨_, rfl, ?_⟩)
  | (refine ⟨by simp, _, rfl, ?_⟩)
  | (refine ⟨ListOf.ty (lo_m 0 rfl), ?_⟩)
  | (refine ⟨ListOf.ty (lo_m 1 rfl), ?_⟩)
  | (refine ⟨ListOf.ty (lo_m 2 rfl), ?_⟩)
  | (refine ⟨ListOf.ty (lo_m 3 rfl), ?_⟩)
  | (refine cs_t (by decide) ?_)
  | (refine cs_f (by decide) ?_))
local macro_rules | `(tactic| walk_at "w") => `(tactic| repeat walk_at "w1")


local macro_rules | `(tactic| walk_at "gs") => `(tactic| first
  | exact gts_nil
  | (refine gts_cons (gt_name (by decide)) ?_; walk_at "gs")
  | (refine gts_cons (gt_tup (by walk_at "gs") rfl) ?_; walk_at "gs"))
local macro_rules | `(tactic| walk_at "g") => `(tactic| first
  | exact gt_name (by decide)
  | exact gt_tup (by walk_at "gs") rfl
  | exact gt_pl (by walk_at "gs"))

variable {c : Ct}
abbrev metE (s : Stt) : NK × D := (stK s, .bool true)
abbrev metO (Met : List Stt) : MO := .dn (Met.map metE)
abbrev akS (ns : List Int) (s : Stt) : Sl := .pl (stD s) (ns.map .int)
def Cov (p : Prog) (Met : List Stt) (s : Stt) : Prop := s ∈ Met ∨ p.rows.length ≤ s.1
structure TkOk (p : Prog) (ks : List NK) : Prop where
  nd : ks.Nodup
  ok : ∀ k, k ∈ ks → ∃ x, Reach p x ∧ k = mvK x
theorem reach_ok {p : Prog} (W : WFp p) {x : MV} (h : Reach p x) : MvOk p x := by
  obtain ⟨ns, hp⟩ := h
  exact ⟨passed_mark hp, passed_vw W hp⟩
theorem TkOk.len {p : Prog} (W : WFp p) {ks : List NK} (h : TkOk p ks) : ks.length ≤ 576 :=
  MvKeys.len W ⟨h.nd, fun k hk => by obtain ⟨x, hx, e⟩ := h.ok k hk; exact ⟨x, reach_ok W hx, e⟩⟩
theorem TkOk.put {p : Prog} {kvs : List (NK × D)} {x : MV} {d : D} (h : TkOk p (kvs.map (·.1))) (hx : Reach p x) : TkOk p ((putS kvs (mvK x) d).map (·.1)) := by
  refine ⟨putS_nodup h.nd, fun k hk => ?_⟩
  rw [putS_keys] at hk
  split at hk
  · exact h.ok k hk
  · rcases List.mem_append.mp hk with hk | hk
    · exact h.ok k hk
    · simp at hk; exact ⟨x, hx, hk⟩
theorem putS_has {κ σ : Type} [DecidableEq κ] {kvs : List (κ × σ)} {k : κ} {v : σ} : k ∈ (putS kvs k v).map (·.1) ∧ ∀ k', k' ∈ kvs.map (·.1) → k' ∈ (putS kvs k v).map (·.1) := by
  rw [putS_keys]
  split
  · rename_i h; exact ⟨h, fun _ q => q⟩
  · exact ⟨by simp, fun _ q => List.mem_append_left _ q⟩
structure MetOk (p : Prog) (Met : List Stt) : Prop where
  nd : Met.Nodup
  sr : ∀ s, s ∈ Met → SR p s
theorem SR.sw {p : Prog} (W : WFp p) {s : Stt} (h : SR p s) : SW p s := by obtain ⟨ns, h⟩ := h; exact h.sw W
theorem MetOk.len {p : Prog} (W : WFp p) {Met : List Stt} (h : MetOk p Met) : Met.length ≤ 640 := by
  have := nodup_len h.nd fun s hs => mem_allSt ((h.sr s hs).sw W)
  have := allSt_len W
  omega
theorem met_key {Met : List Stt} {s : Stt} : stK s ∈ (Met.map metE).map (·.1) ↔ s ∈ Met := by
  simp only [List.map_map, List.mem_map, Function.comp_def]
  exact ⟨fun ⟨x, hx, e⟩ => stK_inj e ▸ hx, fun h => ⟨s, h, rfl⟩⟩
structure GoPost (p : Prog) (Met : List Stt) (s : Stt) (kt : List (NK × D)) (N : List Stt) (kt' : List (NK × D)) (Ak : List Stt) : Prop where
  met : MetOk p (Met ++ N)
  tk : TkOk p (kt'.map (·.1))
  sup : ∀ k, k ∈ kt.map (·.1) → k ∈ kt'.map (·.1)
  s : Cov p (Met ++ N) s
  cl : ∀ x, x ∈ N → ∀ y, Succ p x y → Cov p (Met ++ N) y ∨ x ∈ Ak
  ak : ∀ x, x ∈ Ak → x ∈ N ∧ ∃ a, IsAsk p x a
  mks : ∀ x, x ∈ N → ∀ y, MarkAt p x y → mvK y ∈ kt'.map (·.1)
  len : Ak.length ≤ N.length
def pre_goon : List Sl → M → RE → Prop := fun ss μ R => ∃ (p : Prog) (s : Stt) (ns : List Int) (Met : List Stt) (kt : List (NK × D)) (pm pt : Addr), WFp p ∧ SR p s ∧ MetOk p Met ∧ TkOk p (kt.map (·.1)) ∧ ss = [.d (Prog.d p), .d (stD s), .l (ns.map .int), .x (.ref pm), .x (.ref pt)] ∧
  μ = [(pm, metO Met), (pt, .dn kt)] ∧ ∀ N kt' Ak pa, GoPost p Met s kt N kt' Ak → R (.x (.ref pa)) [(pm, metO (Met ++ N)), (pt, .dn kt'), (pa, .lst (Ak.map (akS ns)))]
theorem succ_go {p : Prog} {s y : Stt} {r : Row} (hr : p.rows[s.1]? = some r) (h : ∀ a, r ≠ .ask a) (e : Succ p s y) : nxt p s 0 = some y := by
  rcases e with ⟨_, e⟩ | ⟨a, n, ha, _⟩
  · exact e
  · unfold IsAsk at ha; rw [hr] at ha; cases ha; exact absurd rfl (h a)
theorem SR.next {p : Prog} {s s' : Stt} (h : SR p s) (e : Succ p s s') : SR p s' := by
  obtain ⟨ns, h⟩ := h
  rcases e with ⟨h1, h2⟩ | ⟨a, n, h1, h2⟩
  · exact ⟨ns, h.go h1 h2⟩
  · exact ⟨ns ++ [n], h.ask h1 h2⟩
theorem rd_law_go_on : ∀ ss μ R, pre_goon ss μ R → WS c (t_law_go_on c.P c.w c.K (SPM c pre_lnext)) (startD N_law_go_on ss) μ { nx := fun _ μ' => R (.d .none) μ', rt := R } := by
  rintro ss μ R ⟨p, s0, ns, Met, kt0, pm, pt, W, hs0, hmet0, htk0, rfl, rfl, h⟩
  unfold t_law_go_on
  walk_at "w"
  refine ⟨by simp, fun pa => ?_⟩
  refine ws_seq (ws_while (fun n Δ μ => ∃ (o : Option Stt) (N Ak : List Stt) (kt : List (NK × D)) (x6 : Option Sl), Δ = [some (.d p.d), some (.d (oD o)), some (.l (ns.map .int)), some (.x (.ref pm)), some (.x (.ref pt)), some (.x (.ref pa)), x6] ∧ μ = [(pm, metO (Met ++ N)), (pt, .dn kt), (pa, .lst (Ak.map (akS ns)))] ∧
    MetOk p (Met ++ N) ∧ TkOk p (kt.map (·.1)) ∧ (∀ k, k ∈ kt0.map (·.1) → k ∈ kt.map (·.1)) ∧ (Cov p (Met ++ N) s0 ∨ o = some s0) ∧ (∀ x, x ∈ N → ∀ y, Succ p x y → Cov p (Met ++ N) y ∨ x ∈ Ak ∨ o = some y) ∧ (∀ x, x ∈ Ak → x ∈ N ∧ ∃ a, IsAsk p x a) ∧
    (∀ x, x ∈ N → ∀ y, MarkAt p x y → mvK y ∈ kt.map (·.1)) ∧ Ak.length ≤ N.length ∧ (∀ x, o = some x → SR p x) ∧ n = 700 - (Met ++ N).length)
    ⟨_, some s0, [], [], kt0, _, rfl, by simp, by simpa using hmet0, htk0, fun _ q => q, .inr rfl, by simp, by simp, by simp, by simp, (fun x e => by cases e; exact hs0), rfl⟩ ?_)
  rintro n Δ μ ⟨o, N, Ak, kt, x6, rfl, rfl, hmet, htk, hsup, hs, hcl, hak, hmk, hlen, ho, hn⟩
  have hml := hmet.len W
  have out : (∀ x, o = some x → Cov p (Met ++ N) x) → WS c (tRet (tVar 5)) [some (.d p.d), some (.d (oD o)), some (.l (ns.map .int)), some (.x (.ref pm)), some (.x (.ref pt)), some (.x (.ref pa)), x6] [(pm, metO (Met ++ N)), (pt, .dn kt), (pa, .lst (Ak.map (akS ns)))] { nx := fun _ μ' => R (.d .none) μ', rt := R } := by
    intro ko
    refine ws_ret ?_
    walk_at "w"
    exact h N kt Ak pa ⟨hmet, htk, hsup, hs.elim id (ko s0), fun x hx y hy => (hcl x hx y hy).elim .inl fun q => q.elim .inr fun q => .inl (ko y q), hak, hmk, hlen⟩
  walk_at "w"
  refine wo_notN (oD_nonI o) ?_
  walk_at "w"
  cases o with
  | none => exact cs_f rfl (cs_f rfl (out fun x z => by cases z))
  | some s =>
    have hsr := ho s rfl
    have hsw := hsr.sw W
    refine cs_t rfl ?_
    walk_at "w"
    refine wo_ixT 0 rfl rfl ?_
    walk_at "w"
    refine wc_lenL lo_d ?_
    walk_at "w"
    refine ⟨fun zl => ?_, fun zl => ?_⟩
    rotate_left
    · refine cs_f rfl (out fun x z => ?_)
      cases z
      right
      simp at zl; omega
    have hlt : s.1 < p.rows.length := by simpa using zl
    refine wt_B (we_nnotin ?_)
    walk_at "w"
    refine ⟨_, stK s, nd_m 0 rfl, isK_st s, ?_⟩
    walk_at "w"
    refine ⟨fun z => ?_, fun z => out fun x hx => by cases hx; exact .inl (met_key.mp (is_key z))⟩
    have hnk := not_key z
    have hnm : s ∉ Met ++ N := fun q => hnk (met_key.mpr q)
    have hmet' : MetOk p (Met ++ (N ++ [s])) := by
      rw [← List.append_assoc]
      exact ⟨List.nodup_append.mpr ⟨hmet.nd, by simp, fun a ha b hb => by simp at hb; subst hb; intro e; subst e; exact hnm ha⟩, fun x hx => by
        rcases List.mem_append.mp hx with q | q
        · exact hmet.sr x q
        · simp at q; subst q; exact hsr⟩
    have hcov : ∀ x, Cov p (Met ++ N) x → Cov p (Met ++ (N ++ [s])) x := fun x q => q.elim (fun q => .inl (by rw [← List.append_assoc]; exact List.mem_append_left _ q)) .inr
    have hcovs : Cov p (Met ++ (N ++ [s])) s := .inl (by simp)
    have hlm : n - 1 = 700 - (Met ++ (N ++ [s])).length := by simp at *; omega
    have hpos : n - 1 < n := by simp at *; omega
    have eput : MO.dn (putS ((Met ++ N).map metE) (stK s) (.bool true)) = metO (Met ++ (N ++ [s])) := by
      rw [putS_new hnk]; simp
    walk_at "w"
    refine ws_nput ?_
    walk_at "w"
    refine ⟨0, pm, _, stK s, _, rfl, rfl, isK_st s, rfl, by simp at *; omega, ?_⟩
    rw [eput]
    walk_at "w"
    refine wo_ixT 0 rfl rfl ?_
    obtain ⟨r, hr⟩ : ∃ r, p.rows[s.1]? = some r := ⟨_, List.getElem?_eq_getElem hlt⟩
    refine wo_ixL s.1 rfl lo_d (t := .d r.d) (by simp [hr]) ?_
    have hs' : Cov p (Met ++ (N ++ [s])) s0 := hs.elim (hcov s0) fun q => by cases q; exact hcovs
    cases r with
    | ask a =>
      dsimp only [Row.d, Row.kind, Row.args]
      iterate 25 (walk_at "w1")
      refine ws_drop (we_bm ?_)
      refine we_var rfl ?_
      refine ⟨ListOf.ty (lo_m 2 rfl), ?_⟩
      refine wa_cons (we_tupPL ?_)
      refine we_var rfl ?_
      refine we_var rfl ?_
      refine ⟨stD s, _, rfl, rfl, wa_nil ?_⟩
      refine wb_append 2 rfl (by simp at *; omega) ?_
      walk_at "w"
      refine ⟨n - 1, hpos, none, N ++ [s], Ak ++ [s], kt, _, rfl, by simp, hmet', htk, hsup, .inl hs', ?_, ?_, ?_, by simp; omega, (fun x e => by cases e), hlm⟩
      · intro x hx y hy
        rcases List.mem_append.mp hx with q | q
        · rcases hcl x q y hy with q | q | q
          · exact .inl (hcov y q)
          · exact .inr (.inl (by simp [q]))
          · cases q; exact .inl hcovs
        · simp at q; subst q; exact .inr (.inl (by simp))
      · intro x hx
        rcases List.mem_append.mp hx with q | q
        · exact ⟨by simp [(hak x q).1], (hak x q).2⟩
        · simp at q; subst q; exact ⟨by simp, a, hr⟩
      · intro x hx y hy
        rcases List.mem_append.mp hx with q | q
        · exact hmk x q y hy
        · simp at q; subst q; exact absurd hy (noMark hr (by intro m z; cases z) y)
    | mark mk =>
      have hrx : Reach p (mk, s.2) := reach_iff.mpr ⟨s, hsr, hr, rfl⟩
      have hx : nxt p s 0 = some (s.1 + 1, s.2) := by unfold nxt; rw [hr]
      have htl := htk.len W
      rw [List.length_map] at htl
      dsimp only [Row.d, Row.kind, Row.args]
      walk_at "w"
      refine ws_nput ?_
      walk_at "w"
      refine wo_ixT 1 rfl rfl ?_
      walk_at "w"
      refine ⟨1, pt, kt, mvK (mk, s.2), _, rfl, rfl, isK_mv (mk, s.2), rfl, by omega, ?_⟩
      walk_at "w"
      refine we_call0 ?_
      walk_at "w"
      refine wo_ixT 0 rfl rfl ?_
      walk_at "w"
      refine wo_ixT 1 rfl rfl ?_
      walk_at "w"
      refine ⟨p, s, .mark mk, 0, W, hsw, hr, rfl, rfl, ?_⟩
      rw [hx]
      refine ⟨n - 1, hpos, some (s.1 + 1, s.2), N ++ [s], Ak, _, _, rfl, rfl, hmet', htk.put hrx, fun k hk => putS_has.2 k (hsup k hk), .inl hs', ?_, ?_, ?_, by simp; omega, ?_, hlm⟩
      · intro x hx' y hy
        rcases List.mem_append.mp hx' with q | q
        · rcases hcl x q y hy with q | q | q
          · exact .inl (hcov y q)
          · exact .inr (.inl q)
          · cases q; exact .inl hcovs
        · simp at q; subst q
          have := succ_go hr (by intro a z; cases z) hy
          rw [hx] at this
          exact .inr (.inr this)
      · intro x hx'
        exact ⟨by simp [(hak x hx').1], (hak x hx').2⟩
      · intro x hx' y hy
        rcases List.mem_append.mp hx' with q | q
        · exact putS_has.2 _ (hmk x q y hy)
        · simp at q; subst q
          obtain ⟨m1, m2⟩ := hy
          rw [hr] at m1
          simp only [Option.some.injEq, Row.mark.injEq] at m1
          have : y = (mk, x.2) := Prod.ext m1.symm m2
          subst this
          exact putS_has.1
      · intro x e
        cases e
        exact hsr.next (.inl ⟨(fun a ha => by unfold IsAsk at ha; rw [hr] at ha; cases ha), hx⟩)
    | _ =>
      dsimp only [Row.d, Row.kind, Row.args]
      walk_at "w"
      refine we_call0 ?_
      walk_at "w"
      refine wo_ixT 0 rfl rfl ?_
      walk_at "w"
      refine wo_ixT 1 rfl rfl ?_
      walk_at "w"
      refine ⟨p, s, _, 0, W, hsw, hr, rfl, rfl, ?_⟩
      refine ⟨n - 1, hpos, nxt p s 0, N ++ [s], Ak, kt, _, rfl, rfl, hmet', htk, hsup, .inl hs', ?_, ?_, ?_, by simp; omega, ?_, hlm⟩
      · intro x hx' y hy
        rcases List.mem_append.mp hx' with q | q
        · rcases hcl x q y hy with q | q | q
          · exact .inl (hcov y q)
          · exact .inr (.inl q)
          · cases q; exact .inl hcovs
        · simp at q; subst q
          exact .inr (.inr (succ_go hr (by intro a z; cases z) hy))
      · intro x hx'
        exact ⟨by simp [(hak x hx').1], (hak x hx').2⟩
      · intro x hx' y hy
        rcases List.mem_append.mp hx' with q | q
        · exact hmk x q y hy
        · simp at q; subst q; exact absurd hy (noMark hr (by intro m z; cases z) y)
      · intro x e
        exact hsr.next (.inl ⟨(fun a ha => by unfold IsAsk at ha; rw [hr] at ha; cases ha), e⟩)
end Sw
/-! SwLaw3 -/
set_option Elab.async false
set_option linter.all false
set_option maxRecDepth 100000
set_option maxHeartbeats 2000000
namespace Sw
open PySem L2 SwH
local macro_rules | `(tactic| walk_at "w1") => `(tactic| first
  | with_reducible refine ws_seq ?_
  | with_reducible refine ws_asgL ?_
  | with_reducible refine ws_asg ?_
  | with_reducible refine ws_setL ?_
  | with_reducible refine ws_asgT ?_
  | with_reducible refine ws_drop ?_
  | with_reducible refine ws_next ?_
  | with_reducible refine ws_cont ?_
  | with_reducible refine ws_if ?_
  | with_reducible refine ws_for ?_
  | (with_reducible refine we_var rfl ?_)
  | with_reducible refine we_int ?_
  | with_reducible refine we_str ?_
  | with_reducible refine we_bl ?_
  | with_reducible refine we_non ?_
  | with_reducible refine we_eqNil ?_
  | with_reducible refine we_neNil ?_
  | with_reducible refine we_op ?_
  | (with_reducible refine wo_ixT 0 rfl rfl ?_)
  | (with_reducible refine wo_ixT 1 rfl rfl ?_)
  | (with_reducible refine wo_ixT 2 rfl rfl ?_)
  | (with_reducible refine wo_ixT 3 rfl rfl ?_)
  | (with_reducible refine wo_ixT 4 rfl rfl ?_)
  | with_reducible refine wo_add ?_
  | with_reducible refine wo_sub ?_
  | with_reducible refine wo_lt ?_
  | with_reducible refine wo_le ?_
  | with_reducible refine wo_gt ?_
  | with_reducible refine wo_ge ?_
  | with_reducible refine wo_eqI ?_
  | with_reducible refine wo_neI ?_
  | with_reducible refine wo_eqS ?_
  | with_reducible refine wo_neS ?_
  | with_reducible refine wt_test ?_
  | with_reducible refine wt_B ?_
  | with_reducible refine wt_not ?_
  | with_reducible refine wt_and ?_
  | with_reducible refine wt_or ?_
  | with_reducible refine wt_yes ?_
  | with_reducible refine we_andV ?_
  | with_reducible refine we_orV ?_
  | with_reducible refine we_notV ?_
  | with_reducible refine wa_nil ?_
  | with_reducible refine wa_cons ?_
  | with_reducible refine we_bm ?_
  | with_reducible refine we_bm0 ?_
  | with_reducible refine we_tup ?_
  | with_reducible refine we_cb ?_
  | (with_reducible refine ⟨_, rfl, ?_⟩)
  | (refine ⟨by simp, _, rfl, ?_⟩)
  | (refine ⟨ListOf.ty (lo_m 0 rfl), ?_⟩)
  | (refine ⟨ListOf.ty (lo_m 1 rfl), ?_⟩)
  | (refine ⟨ListOf.ty (lo_m 2 rfl), ?_⟩)
  | (refine ⟨ListOf.ty (lo_m 3 rfl), ?_⟩)
  | (refine cs_t (by decide) ?_)
  | (refine cs_f (by decide) ?_))
local macro_rules | `(tactic| walk_at "w") => `(tactic| repeat walk_at "w1")


local macro_rules | `(tactic| walk_at "gs") => `(tactic| first
  | exact gts_nil
  | (refine gts_cons (gt_name (by decide)) ?_; walk_at "gs")
  | (refine gts_cons (gt_tup (by walk_at "gs") rfl) ?_; walk_at "gs"))
local macro_rules | `(tactic| walk_at "g") => `(tactic| first
  | exact gt_name (by decide)
  | exact gt_tup (by walk_at "gs") rfl
  | exact gt_pl (by walk_at "gs"))

variable {c : Ct}
abbrev frS (x : Lv) : Sl := akS x.2 x.1
theorem Cov.mono {p : Prog} {A B : List Stt} {s : Stt} (h : Cov p A s) (k : ∀ x, x ∈ A → x ∈ B) : Cov p B s := h.imp (k s) id
theorem succ_lt {p : Prog} {s y : Stt} (h : Succ p s y) : s.1 < p.rows.length := by
  rcases h with ⟨_, h⟩ | ⟨a, n, ha, _⟩
  · unfold nxt at h
    cases hr : p.rows[s.1]? with
    | none => rw [hr] at h; cases h
    | some r => exact (List.getElem?_eq_some_iff.mp hr).1
  · exact (List.getElem?_eq_some_iff.mp ha).1
structure FrOk (p : Prog) (Met : List Stt) (kt : List (NK × D)) (Fr : List Lv) : Prop where
  met : MetOk p Met
  tk : TkOk p (kt.map (·.1))
  snd : ∀ x, x ∈ Fr → SR p x.1 ∧ x.2.length ≤ Met.length
  cl : ∀ x, x ∈ Met → ∀ y, Succ p x y → Cov p Met y ∨ y ∈ keysOf Fr
  fst : Cov p Met (first p) ∨ first p ∈ keysOf Fr
  mks : ∀ x, x ∈ Met → ∀ y, MarkAt p x y → mvK y ∈ kt.map (·.1)
def pre_linputs : List Sl → M → RE → Prop := fun ss μ R => ∃ p : Prog, WFp p ∧ ss = [.d (Prog.d p)] ∧ μ = [] ∧ ∀ kt : List (NK × D), TkOk p (kt.map (·.1)) → (∀ x, Reach p x → mvK x ∈ kt.map (·.1)) → R (.nd kt) []
theorem rd_law_inputs : ∀ ss μ R, pre_linputs ss μ R → WS c (t_law_inputs c.P c.w c.K (SPM c pre_lnext) (SPM c pre_goon)) (startD N_law_inputs ss) μ { nx := fun _ μ' => R (.d .none) μ', rt := R } := by
  rintro ss μ R ⟨p, W, rfl, rfl, h⟩
  unfold t_law_inputs
  have hb2 := W.b2
  refine ws_seq (ws_asg (we_nnew (fun pt => ?_)))
  refine ws_seq (ws_asg (we_nnew (fun pm => ?_)))
  refine ws_seq (ws_asg (we_lst (wa_cons (we_tupPL ?_))))
  refine we_tup ?_
  walk_at "w"
  refine we_lc (wi_list ?_)
  walk_at "w"
  refine ⟨_, _, lk_d, ?_⟩
  refine lc_map p.boxes (fun b => .d b.d) (by simp) (fun b => .int b.first) (by omega) nokeep (fun b hb => ⟨_, gt_name (by decide), by walk_at "w"; exact ⟨rfl, rfl⟩⟩) (fun q => ?_)
  walk_at "w"
  refine wc_tupL (lo_m 2 rfl) ?_
  walk_at "w"
  have e : (p.boxes.map fun b => PyData.int b.first) = (p.boxes.map Box.first).map PyData.int := by simp
  rw [e]
  refine we_lstL (wa_nil ⟨by simp, [], rfl, ?_⟩)
  refine ⟨stD (first p), _, rfl, rfl, ?_⟩
  refine wa_nil ⟨by simp, fun pf => ?_⟩
  refine ws_co (co_perm (μ' := [(pm, metO []), (pt, .dn []), (pf, .lst ([(first p, ([] : List Int))].map frS))]) (ν := [(q, .lst (((p.boxes.map Box.first).map PyData.int).map .d))]) ?_) ?_
  · show [(pt, MO.dn []), (pm, MO.dn []), (q, MO.lst (((p.boxes.map Box.first).map PyData.int).map Sl.d)), (pf, .lst ([(first p, ([] : List Int))].map frS))].Perm _
    exact (List.Perm.swap _ _ _).trans (((List.Perm.swap _ _ _).cons _).cons _)
  have fr0 : FrOk p [] [] [(first p, [])] := ⟨⟨List.nodup_nil, fun s h => by cases h⟩, ⟨List.nodup_nil, fun s h => by cases h⟩, (fun x hx => by simp at hx; subst hx; exact ⟨⟨[], .start⟩, by simp⟩), (fun x h => by cases h), .inr (by simp [keysOf]), (fun x h => by cases h)⟩
  refine ws_seq (ws_while (fun n Δ μ => ∃ (Met : List Stt) (kt : List (NK × D)) (Fr : List Lv) (pf : Addr) (g : M) (x4 x5 x6 x8 : Option Sl) (x7 : Option Sl), Δ = [some (.d p.d), some (.x (.ref pt)), some (.x (.ref pm)), some (.x (.ref pf)), x4, x5, x6, x7, x8] ∧ μ = (pm, metO Met) :: (pt, .dn kt) :: g ∧ (pf, MO.lst (Fr.map frS)) ∈ g ∧ FrOk p Met kt Fr ∧ n = 2 * (700 - Met.length) + (if Fr = [] then 0 else 1))
    ⟨_, [], [], [(first p, [])], pf, _, _, _, _, _, _, rfl, rfl, List.mem_singleton.mpr rfl, fr0, rfl⟩ ?_)
  rintro n Δ μ ⟨Met, kt, Fr, pf, g, x4, x5, x6, x8, x7, rfl, rfl, hpf, hok, hn⟩
  have hml := hok.met.len W
  walk_at "w"
  refine ⟨_, .inr (.inr ⟨pf, rfl, List.mem_cons_of_mem _ (List.mem_cons_of_mem _ hpf)⟩), ?_⟩
  refine ⟨_, rfl, ?_⟩
  cases hFr : Fr with
  | nil =>
    subst hFr
    refine cs_f rfl ?_
    refine ws_ret (we_keep 0 (we_frzN ?_))
    walk_at "w"
    refine ⟨1, pt, kt, rfl, rfl, ?_⟩
    have hcov : ∀ s, SR p s → Cov p Met s := SR.all (hok.fst.resolve_right (by simp [keysOf])) fun s s' hs hsucc => by
      rcases hs with hs | hs
      · exact (hok.cl s hs s' hsucc).resolve_right (by simp [keysOf])
      · have := succ_lt hsucc; omega
    exact h kt hok.tk fun x hx => by
      obtain ⟨s, hs, hm⟩ := reach_iff.mp hx
      rcases hcov s hs with hc | hc
      · exact hok.mks s hc x hm
      · have := (List.getElem?_eq_some_iff.mp hm.1).1; omega
  | cons f0 Fr0 =>
    refine cs_t (by simp) ?_
    have hFrn : Fr ≠ [] := by rw [hFr]; simp
    rw [if_neg hFrn] at hn
    clear hFr
    walk_at "w"
    refine ⟨by simp, fun pa => ?_⟩
    refine ws_seq (ws_for (wi_list ?_))
    walk_at "w"
    refine ⟨Fr.map frS, _, .inr ⟨pf, rfl, by simp [hpf], rfl⟩, ?_⟩
    refine for_x Fr frS rfl (fun done Δ μ => ∃ (N : List Stt) (kt : List (NK × D)) (Ak : List Lv) (rest : List Lv) (pa : Addr) (g : M) (x5 x6 : Option Sl), Δ = [some (.d p.d), some (.x (.ref pt)), some (.x (.ref pm)), some (.x (.ref pf)), some (.x (.ref pa)), x5, x6, x7, x8] ∧ μ = (pm, metO (Met ++ N)) :: (pt, .dn kt) :: g ∧
      (pf, MO.lst (Fr.map frS)) ∈ g ∧ (pa, MO.lst (Ak.map frS)) ∈ g ∧ Fr = done ++ rest ∧ MetOk p (Met ++ N) ∧ TkOk p (kt.map (·.1)) ∧ (∀ x, x ∈ Met ++ N → ∀ y, Succ p x y → Cov p (Met ++ N) y ∨ y ∈ keysOf rest ∨ x ∈ keysOf Ak) ∧
      (Cov p (Met ++ N) (first p) ∨ first p ∈ keysOf rest) ∧ (∀ x, x ∈ Met ++ N → ∀ y, MarkAt p x y → mvK y ∈ kt.map (·.1)) ∧ (∀ x, x ∈ Ak → SR p x.1 ∧ (∃ a, IsAsk p x.1 a) ∧ x.2.length ≤ Met.length) ∧ Ak.length ≤ N.length)
      ⟨[], kt, [], Fr, pa, g ++ [(pa, .lst [])], _, _, rfl, by simp, by simp [hpf], by simp, rfl, by simpa using hok.met, hok.tk, (fun x hx y hy => (hok.cl x (by simpa using hx) y hy).imp (fun q => by simpa using q) .inl), hok.fst.imp (fun q => by simpa using q) id, (fun x hx => hok.mks x (by simpa using hx)), by simp, by simp⟩
      (fun done Δ μ ⟨N, kt, Ak, rest, pa, g, x5, x6, _, e, hg, _⟩ => by subst e; intro e' he; simp only [List.mem_singleton] at he; subst he; simp [hg]) ?_ ?_
    · rintro done ⟨s, ns⟩ rest0 Δ μ e ⟨N, kt, Ak, rest, pa, g, x5, x6, rfl, rfl, hpf, hpa, e2, hmet, htk, hcl, hfst, hmks, hak, hakl⟩
      have e3 : rest = (s, ns) :: rest0 := List.append_cancel_left (e2.symm.trans e)
      subst e3
      have hs := hok.snd (s, ns) (by rw [e]; simp)
      have hml' := hmet.len W
      refine ⟨_, is12, gt_pl (gts_cons (gt_name (by decide)) (gts_cons (gt_name (by decide)) gts_nil)), ?_⟩
      refine ws_asg (we_op (we_var rfl ?_))
      refine we_callI [0, 0] ?_
      walk_at "w"
      refine ⟨p, s, ns, Met ++ N, kt, pm, pt, W, hs.1, hmet, htk, rfl, rfl, fun N2 kt2 Ak2 pa2 hp => ?_⟩
      have hml2 := hp.met.len W
      refine wo_cat (ss := Ak.map frS) (ts := Ak2.map (akS ns)) (.inr ⟨pa, rfl, List.mem_append_right _ hpa⟩) (.inr ⟨pa2, rfl, by simp⟩) (by have := hp.len; simp at hml2 ⊢; omega) (fun pn => ?_)
      refine ⟨N ++ N2, kt2, Ak ++ Ak2.map (fun x => (x, ns)), rest0, pn, (pa2, .lst (Ak2.map (akS ns))) :: (g ++ [(pn, .lst (Ak.map frS ++ Ak2.map (akS ns)))]), _, _, rfl, ?_, ?_, ?_, by simpa using e, by simpa using hp.met, hp.tk, ?_, ?_, ?_, ?_, ?_⟩
      · simp
      · simp [hpf]
      · simp [Function.comp_def]
      · intro x hx y hy
        rw [← List.append_assoc] at hx
        have key : ∀ z, z ∈ Met ++ N → z ∈ Met ++ (N ++ N2) := fun z hz => by rw [← List.append_assoc]; exact List.mem_append_left _ hz
        rcases List.mem_append.mp hx with hx | hx
        · rcases hcl x hx y hy with q | q | q
          · exact .inl (q.mono key)
          · simp only [keysOf, List.map_cons, List.mem_cons] at q
            rcases q with q | q
            · subst q; exact .inl (by rw [← List.append_assoc]; exact hp.s)
            · exact .inr (.inl q)
          · exact .inr (.inr (by simp only [keysOf, List.map_append, List.mem_append]; exact .inl q))
        · rcases hp.cl x hx y hy with q | q
          · exact .inl (by rw [← List.append_assoc]; exact q)
          · exact .inr (.inr (by simp only [keysOf, List.map_append, List.mem_append, List.map_map]; exact .inr (List.mem_map.mpr ⟨x, q, rfl⟩)))
      · rcases hfst with q | q
        · exact .inl (by rw [← List.append_assoc]; exact q.mono fun z hz => List.mem_append_left _ hz)
        · simp only [keysOf, List.map_cons, List.mem_cons] at q
          rcases q with q | q
          · rw [q]; exact .inl (by rw [← List.append_assoc]; exact hp.s)
          · exact .inr q
      · intro x hx y hy
        rw [← List.append_assoc] at hx
        rcases List.mem_append.mp hx with hx | hx
        · exact hp.sup _ (hmks x hx y hy)
        · exact hp.mks x hx y hy
      · intro x hx
        rcases List.mem_append.mp hx with hx | hx
        · exact hak x hx
        · obtain ⟨z, hz, rfl⟩ := List.mem_map.mp hx
          have := hp.ak z hz
          exact ⟨hp.met.sr z (List.mem_append_right _ this.1), this.2, hs.2⟩
      · have := hp.len; simp; omega
    rintro Δ μ ⟨N, kt, Ak, rest, pa, g, x5, x6, rfl, rfl, hpf, hpa, e2, hmet, htk, hcl, hfst, hmks, hak, hakl⟩
    have e3 : rest = [] := by simpa using e2
    subst e3
    have hml' := hmet.len W
    obtain ⟨l1, l2, rfl⟩ := List.append_of_mem hpa
    refine ws_co (co_perm (μ' := [(pm, metO (Met ++ N)), (pt, .dn kt), (pa, .lst (Ak.map frS))]) (ν := l1 ++ l2) ((List.perm_middle.cons _).cons _)) ?_
    walk_at "w"
    refine ⟨by simp, fun pf2 => ?_⟩
    refine ws_for (wi_list ?_)
    walk_at "w"
    refine ⟨_, _, lk_m 2 rfl, ?_⟩
    refine for_x Ak frS rfl (fun done Δ μ => ∃ (F : List Lv) (x5 x6 x7 x8 : Option Sl), Δ = [some (.d p.d), some (.x (.ref pt)), some (.x (.ref pm)), some (.x (.ref pf2)), some (.x (.ref pa)), x5, x6, x7, x8] ∧ μ = [(pm, metO (Met ++ N)), (pt, .dn kt), (pa, .lst (Ak.map frS)), (pf2, .lst (F.map frS))] ∧
      (∀ x, x ∈ F → SR p x.1 ∧ x.2.length ≤ Met.length + 1) ∧ (∀ x, x ∈ keysOf done → ∀ y, Succ p x y → y ∈ keysOf F) ∧ F.length ≤ 8 * done.length) ⟨[], _, _, _, _, rfl, rfl, by simp, by simp [keysOf], by simp⟩
      (fun done Δ μ ⟨F, x5, x6, x7, x8, _, e, _⟩ => by subst e; intro e' he; simp only [List.mem_singleton] at he; subst he; simp) ?_ ?_
    · rintro done ⟨s, ns⟩ rest0 Δ μ e ⟨F, x5, x6, x7, x8, rfl, rfl, hF, hFc, hFl⟩
      have hx := hak (s, ns) (by rw [e]; simp)
      obtain ⟨hsr, ⟨a, ha⟩, hnl⟩ := hx
      simp only at hsr ha hnl
      have hsw := hsr.sw W
      have hdl : done.length ≤ 640 := by have := congrArg List.length e; simp at this hml'; omega
      have hab : a < p.boxes.length := W.rw _ (List.mem_of_getElem? ha)
      have hb : p.boxes[a]? = some p.boxes[a] := List.getElem?_eq_getElem hab
      generalize p.boxes[a] = b at hb
      have wb := W.bx b (List.mem_of_getElem? hb)
      have := wb.lo
      have := wb.hi
      have := wb.wd
      have := wb.f1
      have := wb.f2
      refine ⟨_, is12, gt_pl (gts_cons (gt_name (by decide)) (gts_cons (gt_name (by decide)) gts_nil)), ?_⟩
      walk_at "w"
      refine wo_ixL s.1 rfl lo_d (t := .d (Row.ask a).d) (by have : p.rows[s.1]? = some (.ask a) := ha; simp [this]) ?_
      dsimp only [Row.d, Row.kind, Row.args]
      walk_at "w"
      refine wo_ixL a rfl lo_d (t := .d b.d) (by simp [hb]) ?_
      refine ws_for (wi_rng2 ?_)
      walk_at "w"
      refine ⟨_, _, rfl, by omega, ?_⟩
      refine for_x (rg b.low (b.high + 1)) _ (rgS_rg _ _) (fun dn Δ μ => ∃ (x8 : Option Sl), Δ = [some (.d p.d), some (.x (.ref pt)), some (.x (.ref pm)), some (.x (.ref pf2)), some (.x (.ref pa)), some (.d (stD s)), some (.l (ns.map .int)), some (.d b.d), x8] ∧
        μ = [(pm, metO (Met ++ N)), (pt, .dn kt), (pa, .lst (Ak.map frS)), (pf2, .lst ((F ++ dn.map fun n => ((s.1 + 1, s.2.set a n), ns ++ [n])).map frS))]) ⟨_, rfl, by simp⟩ (fun _ _ _ _ => nokeep) ?_ ?_
      · rintro dn n rest2 Δ μ e3 ⟨x8, rfl, rfl⟩
        have hn' := mem_rg.mp (show n ∈ rg b.low (b.high + 1) by rw [e3]; simp)
        have hdn : dn.length ≤ 8 := by have := congrArg List.length e3; simp [rg_len] at this; omega
        refine ⟨_, is12, gt_name (by decide), ?_⟩
        refine ws_drop (we_bm ?_)
        refine we_var rfl ?_
        refine ⟨ListOf.ty (lo_m 3 rfl), ?_⟩
        refine wa_cons (we_tupPL ?_)
        refine we_call0 ?_
        walk_at "w"
        refine ⟨p, s, .ask a, n, W, hsw, ha, rfl, rfl, ?_⟩
        have e1 : nxt p s n = some (s.1 + 1, s.2.set a n) := by unfold nxt; rw [show p.rows[s.1]? = some (.ask a) from ha]; exact ask_take hb hn'.1 hn'.2
        rw [e1]
        refine we_op (we_var rfl ?_)
        refine we_lstL ?_
        walk_at "w"
        refine wo_catL li_l (li_l (ds := [.int n])) (by simp; omega) ?_
        refine ⟨_, _, rfl, rfl, ?_⟩
        walk_at "w"
        refine wb_append 3 rfl (by simp; omega) ?_
        exact ⟨_, rfl, by simp [oD]⟩
      · rintro Δ μ ⟨x8, rfl, rfl⟩
        refine ⟨F ++ (rg b.low (b.high + 1)).map fun n => ((s.1 + 1, s.2.set a n), ns ++ [n]), _, _, _, _, rfl, rfl, ?_, ?_, ?_⟩
        · intro x hx
          rcases List.mem_append.mp hx with hx | hx
          · exact hF x hx
          · obtain ⟨n, hn', rfl⟩ := List.mem_map.mp hx
            have hn2 := mem_rg.mp hn'
            exact ⟨hsr.next (.inr ⟨a, n, ha, ask_take hb hn2.1 hn2.2⟩), by simp; omega⟩
        · intro x hx y hy
          simp only [keysOf, List.map_append, List.mem_append, List.map_cons, List.map_nil, List.mem_singleton] at hx ⊢
          rcases hx with hx | hx
          · exact .inl (hFc x hx y hy)
          · subst hx
            right
            rcases hy with ⟨h1, _⟩ | ⟨a', n, h1, h2⟩
            · exact absurd ha (h1 a)
            · have : a' = a := by unfold IsAsk at h1 ha; rw [ha] at h1; cases h1; rfl
              subst this
              unfold takeF at h2
              rw [hb] at h2
              simp only at h2
              split at h2
              · cases h2
              · cases h2
                exact List.mem_map.mpr ⟨((x.1 + 1, x.2.set a' n), ns ++ [n]), List.mem_map.mpr ⟨n, mem_rg.mpr (by omega), rfl⟩, rfl⟩
        · simp [rg_len]; omega
    · rintro Δ μ ⟨F, x5, x6, x7, x8, rfl, rfl, hF, hFc, hFl⟩
      have hgrow : F ≠ [] → Met.length < (Met ++ N).length := fun q => by
        have : 0 < F.length := List.length_pos_iff.mpr q
        simp; omega
      refine ⟨_, ?_, Met ++ N, kt, F, pf2, _, _, _, _, _, _, rfl, rfl, by simp, ⟨hmet, htk, ?_, ?_, ?_, hmks⟩, rfl⟩
      · by_cases z : F = []
        · rw [if_pos z]; simp at *; omega
        · have := hgrow z; rw [if_neg z]; omega
      · intro x hx
        have h1 := hF x hx
        have h2 := hgrow (by intro z; subst z; cases hx)
        exact ⟨h1.1, by omega⟩
      · intro x hx y hy
        rcases hcl x hx y hy with q | q | q
        · exact .inl q
        · cases q
        · exact .inr (hFc x q y hy)
      · exact .inl (hfst.resolve_right (by simp [keysOf]))
end Sw
/-! SwLaw4 -/
set_option Elab.async false
set_option linter.all false
set_option maxRecDepth 100000
set_option maxHeartbeats 2000000
namespace Sw
open PySem L2 SwH
local macro_rules | `(tactic| walk_at "w1") => `(tactic| first
  | with_reducible refine ws_seq ?_
  | with_reducible refine ws_asgL ?_
  | with_reducible refine ws_asg ?_
  | with_reducible refine ws_setL ?_
  | with_reducible refine ws_asgT ?_
  | with_reducible refine ws_drop ?_
  | with_reducible refine ws_next ?_
  | with_reducible refine ws_cont ?_
  | with_reducible refine ws_if ?_
  | with_reducible refine ws_for ?_
  | (with_reducible refine we_var rfl ?_)
  | with_reducible refine we_int ?_
  | with_reducible refine we_str ?_
  | with_reducible refine we_bl ?_
  | with_reducible refine we_non ?_
  | with_reducible refine we_eqNil ?_
  | with_reducible refine we_neNil ?_
  | with_reducible refine we_op ?_
  | (with_reducible refine wo_ixT 0 rfl rfl ?_)
  | (with_reducible refine wo_ixT 1 rfl rfl ?_)
  | (with_reducible refine wo_ixT 2 rfl rfl ?_)
  | (with_reducible refine wo_ixT 3 rfl rfl ?_)
  | (with_reducible refine wo_ixT 4 rfl rfl ?_)
  | with_reducible refine wo_add ?_
  | with_reducible refine wo_sub ?_
  | with_reducible refine wo_lt ?_
  | with_reducible refine wo_le ?_
  | with_reducible refine wo_gt ?_
  | with_reducible refine wo_ge ?_
  | with_reducible refine wo_eqI ?_
  | with_reducible refine wo_neI ?_
  | with_reducible refine wo_eqS ?_
  | with_reducible refine wo_neS ?_
  | with_reducible refine wt_test ?_
  | with_reducible refine wt_B ?_
  | with_reducible refine wt_not ?_
  | with_reducible refine wt_and ?_
  | with_reducible refine wt_or ?_
  | with_reducible refine wt_yes ?_
  | with_reducible refine we_andV ?_
  | with_reducible refine we_orV ?_
  | with_reducible refine we_notV ?_
  | with_reducible refine wa_nil ?_
  | with_reducible refine wa_cons ?_
  | with_reducible refine we_bm ?_
  | with_reducible refine we_bm0 ?_
  | with_reducible refine we_tup ?_
  | with_reducible refine we_cb ?_
  | (with_reducible refine ⟨_, rfl, ?_⟩)
  | (refine ⟨by simp, _, rfl, ?_⟩)
  | (refine ⟨ListOf.ty (lo_m 0 rfl), ?_⟩)
  | (refine ⟨ListOf.ty (lo_m 1 rfl), ?_⟩)
  | (refine ⟨ListOf.ty (lo_m 2 rfl), ?_⟩)
  | (refine ⟨ListOf.ty (lo_m 3 rfl), ?_⟩)
  | (refine cs_t (by decide) ?_)
  | (refine cs_f (by decide) ?_))
local macro_rules | `(tactic| walk_at "w") => `(tactic| repeat walk_at "w1")


local macro_rules | `(tactic| walk_at "gs") => `(tactic| first
  | exact gts_nil
  | (refine gts_cons (gt_name (by decide)) ?_; walk_at "gs")
  | (refine gts_cons (gt_tup (by walk_at "gs") rfl) ?_; walk_at "gs"))
local macro_rules | `(tactic| walk_at "g") => `(tactic| first
  | exact gt_name (by decide)
  | exact gt_tup (by walk_at "gs") rfl
  | exact gt_pl (by walk_at "gs"))

variable {c : Ct}
theorem we_isi {te : TE} {n : String} {Δ : Vt} {μ : M} {R : RE} (h : WE c te Δ μ fun s μ1 => ∃ r, isTyS s = true ∧ kitB (tyS s) n = some r ∧ R (.d (.bool r)) μ1) : WE c (tCB (rIsi c.K) (tCons te (tCons (tC (.ty n)) tNil))) Δ μ R :=
  we_cb (wa_cons (h.mono fun s μ1 ⟨r, h1, h2, h3⟩ => wa_cons (we_cv (wa_nil (wc_isi h1 h2 h3)))))
theorem wt_isi {te : TE} {n : String} {Δ : Vt} {μ : M} {R : Bool → M → Prop} (h : WE c te Δ μ fun s μ1 => ∃ r, isTyS s = true ∧ kitB (tyS s) n = some r ∧ R r μ1) : WT c (tB (tCB (rIsi c.K) (tCons te (tCons (tC (.ty n)) tNil)))) Δ μ R :=
  wt_B (we_isi (h.mono fun s μ1 ⟨r, h1, h2, h3⟩ => ⟨r, h1, h2, r, rfl, h3⟩))
theorem k_ss : kitB "str" "str" = some true := by decide +kernel
theorem k_is : kitB "int" "str" = some false := by decide +kernel
theorem k_ls : kitB "list" "str" = some false := by decide +kernel
theorem k_ii : kitB "int" "int" = some true := by decide +kernel
theorem k_ib : kitB "int" "bool" = some false := by decide +kernel
theorem k_li : kitB "list" "int" = some false := by decide +kernel
theorem k_ll : kitB "list" "list" = some true := by decide +kernel
theorem k_lt : kitB "list" "tuple" = some false := by decide +kernel
def LikeOk : Nat → D → Prop
  | 0, _ => False
  | _ + 1, .int _ => True
  | k + 1, .list ds => ∀ d, d ∈ ds → LikeOk k d
  | _, _ => False
def pre_like (k : Nat) : List Sl → M → RE → Prop := fun ss μ R => μ = [] ∧ ((∃ x y, 0 < k ∧ ss = [.d (.str x), .d (.str y)] ∧ R (.d (.bool (decide (x = y)))) []) ∨ ∃ d s t, LikeOk k d ∧ dataS s = some d ∧ dataS t = some d ∧ ss = [s, t] ∧ R (.d (.bool true)) [])
theorem zipD_self (ds : List D) : zipD ds ds = ds.map fun d => .tuple [d, d] := by
  induction ds with
  | nil => rfl
  | cons d ds ih => simp [zipD, ih]
theorem rd_law_like (k : Nat) : ∀ ss μ R, pre_like (k + 1) ss μ R → WS c (t_law_like c.P c.w c.K (SPM c (pre_like k))) (startD N_law_like ss) μ { nx := fun _ μ' => R (.d .none) μ', rt := R } := by
  rintro ss μ R ⟨rfl, ⟨x, y, _, rfl, h⟩ | ⟨d, s, t, hd, hs, ht, rfl, h⟩⟩
  · unfold t_law_like
    walk_at "w"
    refine wo_isN rfl ?_
    walk_at "w"
    refine we_cv (wa_nil (wc_isi rfl k_ss ?_))
    walk_at "w"
    refine ws_ret (we_andV (we_isi ?_))
    walk_at "w"
    refine ⟨true, rfl, k_ss, ?_⟩
    walk_at "w"
    exact h
  · unfold t_law_like
    refine ws_co (co_slot 0 rfl (sl_d hs)) (ws_co (co_slot 1 rfl (sl_d ht)) ?_)
    cases d with
    | int i =>
      walk_at "w"
      refine wo_isN rfl ?_
      walk_at "w"
      refine we_cv (wa_nil (wc_isi rfl k_is ?_))
      walk_at "w"
      refine we_cv (wa_nil (wc_isi rfl k_ii ?_))
      walk_at "w"
      refine ws_ret (we_andV (we_isi ?_))
      walk_at "w"
      refine ⟨true, rfl, k_ii, ?_⟩
      walk_at "w"
      refine we_cv (wa_nil (wc_isi rfl k_ib ?_))
      walk_at "w"
      simpa using h
    | list ds =>
      have hd' : ∀ d, d ∈ ds → LikeOk k d := hd
      walk_at "w"
      refine wo_isN rfl ?_
      walk_at "w"
      refine we_cv (wa_nil (wc_isi rfl k_ls ?_))
      walk_at "w"
      refine we_cv (wa_nil (wc_isi rfl k_li ?_))
      walk_at "w"
      refine we_cv (wa_nil (wc_isi rfl k_ll ?_))
      walk_at "w"
      refine we_cv (wa_nil (wc_isi rfl k_ll ?_))
      walk_at "w"
      refine we_cv (wa_nil (wc_isi rfl k_lt ?_))
      walk_at "w"
      refine wc_lenL lo_d ?_
      walk_at "w"
      refine wc_lenL lo_d ?_
      walk_at "w"
      refine cs_f (by simp) (ws_next ?_)
      refine ws_seq (ws_for (wi_zip ?_))
      walk_at "w"
      refine ⟨_, _, ds, ds, rfl, .inl rfl, .inl rfl, rfl, ?_⟩
      refine for_x ds (fun d => .d (.tuple [d, d])) (by rw [zipD_self]; simp) (fun done Δ μ => ∃ x2 x3, Δ = [some (.d (.list ds)), some (.d (.list ds)), x2, x3] ∧ μ = []) ⟨_, _, rfl, rfl⟩ (fun _ _ _ _ => nokeep) ?_ ?_
      · rintro done d rest Δ μ e ⟨x2, x3, rfl, rfl⟩
        refine ⟨_, is12, gt_tup (gts_cons (gt_name (by decide)) (gts_cons (gt_name (by decide)) gts_nil)) rfl, ?_⟩
        refine ws_if (wt_not (wt_B (we_call0 ?_)))
        walk_at "w"
        refine ⟨rfl, .inr ⟨d, _, _, hd' d (by rw [e]; simp), rfl, rfl, rfl, ?_⟩⟩
        walk_at "w"
        exact ⟨_, _, rfl, rfl⟩
      · rintro Δ μ ⟨x2, x3, rfl, rfl⟩
        exact ws_ret (we_bl h)
    | none => cases hd
    | bool b => cases hd
    | str b => cases hd
    | tuple b => cases hd
    | dict b => cases hd
def pre_whole : List Sl → M → RE → Prop := fun ss μ R => ∃ told : List (List Int), ss = [.l (told.map nL)] ∧ μ = [] ∧ R (.d (.bool true)) []
theorem rd_law_whole_lists : ∀ ss μ R, pre_whole ss μ R → WS c (t_law_whole_lists c.P c.w c.K) (startD N_law_whole_lists ss) μ { nx := fun _ μ' => R (.d .none) μ', rt := R } := by
  rintro ss μ R ⟨told, rfl, rfl, h⟩
  unfold t_law_whole_lists
  walk_at "w"
  refine we_cv (wa_nil (wc_isi rfl k_ll ?_))
  walk_at "w"
  refine wi_list ?_
  walk_at "w"
  refine ⟨_, _, lk_l, ?_⟩
  refine for_x told (fun ns => .d (nL ns)) (by simp) (fun done Δ μ => ∃ x1 x2, Δ = [some (.l (told.map nL)), x1, x2] ∧ μ = []) ⟨_, _, rfl, rfl⟩ (fun _ _ _ _ => nokeep) ?_ ?_
  · rintro done ns rest Δ μ e ⟨x1, x2, rfl, rfl⟩
    refine ⟨_, is12, gt_name (by decide), ?_⟩
    walk_at "w"
    refine we_cv (wa_nil (wc_isi rfl k_ll ?_))
    walk_at "w"
    refine wi_list ?_
    walk_at "w"
    refine ⟨_, _, lk_d, ?_⟩
    refine for_x ns (fun n => .d (.int n)) (by simp) (fun dn Δ μ => ∃ x2, Δ = [some (.l (told.map nL)), some (.d (nL ns)), x2] ∧ μ = []) ⟨_, rfl, rfl⟩ (fun _ _ _ _ => nokeep) ?_ ?_
    · rintro dn n rest Δ μ e ⟨x2, rfl, rfl⟩
      refine ⟨_, is12, gt_name (by decide), ?_⟩
      refine ws_if (wt_or (wt_not (wt_isi ?_)))
      walk_at "w"
      refine ⟨true, rfl, k_ii, ?_⟩
      refine cs_f rfl (wt_isi ?_)
      walk_at "w"
      refine ⟨false, rfl, k_ib, ?_⟩
      exact cs_f rfl (ws_next ⟨_, rfl, rfl⟩)
    · rintro Δ μ ⟨x2, rfl, rfl⟩
      exact ⟨_, _, rfl, rfl⟩
  · rintro Δ μ ⟨x1, x2, rfl, rfl⟩
    exact ws_ret (we_bl h)
/-! ### what falls -/
open Classical in
noncomputable def heldQ (p : Prog) (Q : MV → Prop) (m : Str) : List Say := (sayF p).filter fun s => decide (∀ v, Q (m, v) → so s v = true)
theorem heldQ_pass (p : Prog) (told : List (List Int)) (m : Str) : heldQ p (PassR p told) m = heldF p told m := rfl
theorem heldQ_none {p : Prog} {Q : MV → Prop} {m : Str} (h : ∀ v, ¬ Q (m, v)) : heldQ p Q m = sayF p := by
  unfold heldQ
  rw [List.filter_eq_self]
  intro s _
  simp only [decide_eq_true_eq]
  exact fun v hv => absurd hv (h v)
theorem heldQ_add {p : Prog} {Q Q' : MV → Prop} {m : Str} {v : List Int} (h : ∀ w, Q' (m, w) ↔ Q (m, w) ∨ w = v) : (heldQ p Q m).filter (fun s => so s v) = heldQ p Q' m := by
  unfold heldQ
  rw [List.filter_filter]
  apply List.filter_congr
  intro s _
  rw [Bool.eq_iff_iff]
  simp only [Bool.and_eq_true, decide_eq_true_eq, h]
  constructor
  · rintro ⟨h1, h2⟩ w (hw | hw)
    · exact h2 w hw
    · subst hw; exact h1
  · intro h1
    exact ⟨h1 v (.inr rfl), fun w hw => h1 w (.inl hw)⟩
theorem heldQ_other {p : Prog} {Q Q' : MV → Prop} {m : Str} (h : ∀ w, Q' (m, w) ↔ Q (m, w)) : heldQ p Q' m = heldQ p Q m := by
  unfold heldQ
  apply List.filter_congr
  intro s _
  rw [Bool.eq_iff_iff]
  simp only [decide_eq_true_eq, h]
structure FallOk (p : Prog) (kvs : List (Str × Sl)) (Q : MV → Prop) : Prop where
  nd : (kvs.map (·.1)).Nodup
  ms : ∀ m, m ∈ kvs.map (·.1) → m ∈ marksF p
  yes : ∀ m, (∃ v, Q (m, v)) → getS kvs m = some (.l ((heldQ p Q m).map Say.d))
  no : ∀ m, (¬ ∃ v, Q (m, v)) → getS kvs m = none
theorem FallOk.len {p : Prog} (W : WFp p) {kvs : List (Str × Sl)} {Q : MV → Prop} (h : FallOk p kvs Q) : kvs.length ≤ 9 := by
  have := nodup_len h.nd h.ms
  have := marks_len W
  simp at *
  omega
theorem FallOk.cong {p : Prog} {kvs : List (Str × Sl)} {Q Q' : MV → Prop} (h : FallOk p kvs Q) (k : ∀ x, Q x ↔ Q' x) : FallOk p kvs Q' := by
  have : Q = Q' := funext fun x => propext (k x)
  exact this ▸ h
def pre_fall : List Sl → M → RE → Prop := fun ss μ R => ∃ (p : Prog) (told : List (List Int)) (ns : List Int) (pd : Addr) (kvs : List (Str × Sl)), WFp p ∧ ns.length ≤ 9000 ∧ FallOk p kvs (PassR p told) ∧ ss = [.d (Prog.d p), .l ((sayF p).map Say.d), .x (.ref pd), .d (nL ns)] ∧ μ = [(pd, .dk kvs)] ∧
  ∀ kvs', FallOk p kvs' (PassR p (told ++ [ns])) → R (.d .none) [(pd, .dk kvs')]
theorem rd_law_fall : ∀ ss μ R, pre_fall ss μ R → WS c (t_law_fall c.P c.w c.K (SPM c pre_passed) (SPM c pre_so)) (startD N_law_fall ss) μ { nx := fun _ μ' => R (.d .none) μ', rt := R } := by
  rintro ss μ R ⟨p, told, ns, pd, kvs, W, hns, hf, rfl, rfl, h⟩
  unfold t_law_fall
  have hsl := say_len W
  refine ws_for (wi_list (we_call0 ?_))
  walk_at "w"
  refine ⟨p, ns, _, W, hns, .inl rfl, rfl, rfl, fun L hL => ?_⟩
  refine ⟨_, _, lk_l, ?_⟩
  refine for_x L (fun x => .d (mvD x)) (by simp) (fun dn Δ μ => ∃ (x4 x5 x6 : Option Sl) (kvs : List (Str × Sl)), Δ = [some (.d p.d), some (.l ((sayF p).map Say.d)), some (.x (.ref pd)), some (.d (nL ns)), x4, x5, x6, none] ∧ μ = [(pd, .dk kvs)] ∧ FallOk p kvs (fun x => PassR p told x ∨ x ∈ dn)) ⟨_, _, _, kvs, rfl, rfl, hf.cong fun x => by simp⟩ (fun _ _ _ _ => nokeep) ?_ ?_
  · rintro dn ⟨m, v⟩ rest Δ μ e ⟨x4, x5, x6, kvs, rfl, rfl, hf⟩
    have hp : Passed p ns (m, v) := (hL (m, v)).mp (by rw [e]; simp)
    have hm := passed_mark hp
    have hv : VW p.boxes v := passed_vw W hp
    have hkl := hf.len W
    have fin : ∀ base : Sl, base = .l ((heldQ p (fun x => PassR p told x ∨ x ∈ dn) m).map Say.d) → WS c (sDPut (tVar 2) (tVar 4) (tLc (iList c.K (tVar 6)) (gName 7) (tB (tCall (SPM c pre_so) [] E0 (tCons (tVar 7) (tCons (tVar 5) tNil)))) (tVar 7) [7]))
        [some (.d p.d), some (.l ((sayF p).map Say.d)), some (.x (.ref pd)), some (.d (nL ns)), some (.d (.str m)), some (.d (vD v)), some base, none] [(pd, .dk kvs)]
        { nx := fun Δ μ => ∃ (x4 x5 x6 : Option Sl) (kvs : List (Str × Sl)), Δ = [some (.d p.d), some (.l ((sayF p).map Say.d)), some (.x (.ref pd)), some (.d (nL ns)), x4, x5, x6, none] ∧ μ = [(pd, .dk kvs)] ∧ FallOk p kvs (fun x => PassR p told x ∨ x ∈ dn ++ [(m, v)]), rt := R } := by
      rintro base rfl
      refine ws_dput (we_frz (we_lc (wi_list ?_)))
      walk_at "w"
      refine ⟨_, _, lk_l, ?_⟩
      refine lc_x (heldQ p (fun x => PassR p told x ∨ x ∈ dn) m) (fun y => .d y.d) (by simp) (fun y => if so y v = true then some y.d else none) (Nat.le_trans (List.length_filter_le _ _) (by omega)) nokeep ?_ ?_
      · intro y hy
        have hw := vw_so W (List.mem_filter.mp hy).1 hv
        refine ⟨_, gt_name (by decide), wt_B (we_call0 ?_)⟩
        walk_at "w"
        refine ⟨y, v, hw.1, hw.2, rfl, rfl, ?_⟩
        refine ⟨_, rfl, rfl, fun z => ?_, fun z => ?_⟩
        · walk_at "w"
          exact ⟨⟨_, rfl, by simp only [z, if_true]⟩, rfl⟩
        · simp only [z, Bool.false_eq_true, if_false]
      · intro q
        rw [filterMap_if]
        refine ⟨1, q, _, _, rfl, rfl, rfl, ?_⟩
        walk_at "w"
        refine ⟨0, pd, kvs, m, rfl, rfl, rfl, by omega, ?_⟩
        have hadd : (heldQ p (fun x => PassR p told x ∨ x ∈ dn) m).filter (fun y => so y v) = heldQ p (fun x => PassR p told x ∨ x ∈ dn ++ [(m, v)]) m := heldQ_add fun w => by
          simp [or_assoc]
        refine ⟨_, _, _, _, rfl, rfl, ⟨putS_nodup hf.nd, fun m' hm' => ?_, fun m' hm' => ?_, fun m' hm' => ?_⟩⟩
        · rw [putS_keys] at hm'
          split at hm'
          · exact hf.ms m' hm'
          · rcases List.mem_append.mp hm' with q | q
            · exact hf.ms m' q
            · simp at q; subst q; exact hm
        · rw [getS_put]
          by_cases z : m = m'
          · subst z
            rw [if_pos rfl, hadd]
          · rw [if_neg z]
            have ho : ∀ w, (PassR p told (m', w) ∨ (m', w) ∈ dn ++ [(m, v)]) ↔ (PassR p told (m', w) ∨ (m', w) ∈ dn) := fun w => by simp [Ne.symm z]
            rw [heldQ_other (Q := fun x => PassR p told x ∨ x ∈ dn) ho]
            obtain ⟨w, hw⟩ := hm'
            exact hf.yes m' ⟨w, (ho w).mp hw⟩
        · have z : m ≠ m' := fun z => hm' ⟨v, by subst z; simp⟩
          rw [getS_put, if_neg z]
          exact hf.no m' fun ⟨w, hw⟩ => hm' ⟨w, hw.imp id fun q => List.mem_append_left _ q⟩
    refine ⟨_, is12, gt_tup (gts_cons (gt_name (by decide)) (gts_cons (gt_name (by decide)) gts_nil)) rfl, ?_⟩
    refine ws_seq (ws_asg ?_)
    walk_at "w"
    refine we_din ?_
    walk_at "w"
    refine ⟨kvs, m, dk_m 0 rfl, rfl, ?_⟩
    walk_at "w"
    by_cases ha : ∃ w, PassR p told (m, w) ∨ (m, w) ∈ dn
    · have hg := hf.yes m ha
      rw [hg]
      refine cs_t rfl ?_
      walk_at "w"
      refine we_dget ?_
      walk_at "w"
      refine ⟨kvs, m, _, dk_m 0 rfl, rfl, hg, ?_⟩
      exact (fin _ rfl).mono (fun _ _ q => q) (fun _ _ q => q) (fun _ _ q => q.elim) (fun _ _ q => q.elim)
    · have hg := hf.no m ha
      rw [hg]
      refine cs_f rfl (ws_next ?_)
      refine (fin _ ?_).mono (fun _ _ q => q) (fun _ _ q => q) (fun _ _ q => q.elim) (fun _ _ q => q.elim)
      rw [heldQ_none fun w hw => ha ⟨w, hw⟩]
  · rintro Δ μ ⟨x4, x5, x6, kvs, rfl, rfl, hf⟩
    refine h kvs (hf.cong fun x => ?_)
    unfold PassR
    rw [hL x]
    constructor
    · rintro (⟨n', a, b⟩ | b)
      · exact ⟨n', by simp [a], b⟩
      · exact ⟨ns, by simp, b⟩
    · rintro ⟨n', a, b⟩
      rcases List.mem_append.mp a with a | a
      · exact .inl ⟨n', a, b⟩
      · simp at a; subst a; exact .inr b
end Sw
/-! SwLaw5 -/
set_option Elab.async false
set_option linter.all false
set_option maxRecDepth 100000
set_option maxHeartbeats 2000000
namespace Sw
open PySem L2 SwH
local macro_rules | `(tactic| walk_at "w1") => `(tactic| first
  | with_reducible refine ws_seq ?_
  | with_reducible refine ws_asgL ?_
  | with_reducible refine ws_asg ?_
  | with_reducible refine ws_setL ?_
  | with_reducible refine ws_asgT ?_
  | with_reducible refine ws_drop ?_
  | with_reducible refine ws_next ?_
  | with_reducible refine ws_cont ?_
  | with_reducible refine ws_if ?_
  | with_reducible refine ws_for ?_
  | (with_reducible refine we_var rfl ?_)
  | with_reducible refine we_int ?_
  | with_reducible refine we_str ?_
  | with_reducible refine we_bl ?_
  | with_reducible refine we_non ?_
  | with_reducible refine we_eqNil ?_
  | with_reducible refine we_neNil ?_
  | with_reducible refine we_op ?_
  | (with_reducible refine wo_ixT 0 rfl rfl ?_)
  | (with_reducible refine wo_ixT 1 rfl rfl ?_)
  | (with_reducible refine wo_ixT 2 rfl rfl ?_)
  | (with_reducible refine wo_ixT 3 rfl rfl ?_)
  | (with_reducible refine wo_ixT 4 rfl rfl ?_)
  | with_reducible refine wo_add ?_
  | with_reducible refine wo_sub ?_
  | with_reducible refine wo_lt ?_
  | with_reducible refine wo_le ?_
  | with_reducible refine wo_gt ?_
  | with_reducible refine wo_ge ?_
  | with_reducible refine wo_eqI ?_
  | with_reducible refine wo_neI ?_
  | with_reducible refine wo_eqS ?_
  | with_reducible refine wo_neS ?_
  | with_reducible refine wt_test ?_
  | with_reducible refine wt_B ?_
  | with_reducible refine wt_not ?_
  | with_reducible refine wt_and ?_
  | with_reducible refine wt_or ?_
  | with_reducible refine wt_yes ?_
  | with_reducible refine we_andV ?_
  | with_reducible refine we_orV ?_
  | with_reducible refine we_notV ?_
  | with_reducible refine wa_nil ?_
  | with_reducible refine wa_cons ?_
  | with_reducible refine we_bm ?_
  | with_reducible refine we_bm0 ?_
  | with_reducible refine we_tup ?_
  | with_reducible refine we_cb ?_
  | (with_reducible refine ⟨_, rfl, ?_⟩)
  | (refine ⟨by simp, _, rfl, ?_⟩)
  | (refine ⟨ListOf.ty (lo_m 0 rfl), ?_⟩)
  | (refine ⟨ListOf.ty (lo_m 1 rfl), ?_⟩)
  | (refine ⟨ListOf.ty (lo_m 2 rfl), ?_⟩)
  | (refine ⟨ListOf.ty (lo_m 3 rfl), ?_⟩)
  | (refine cs_t (by decide) ?_)
  | (refine cs_f (by decide) ?_))
local macro_rules | `(tactic| walk_at "w") => `(tactic| repeat walk_at "w1")


local macro_rules | `(tactic| walk_at "gs") => `(tactic| first
  | exact gts_nil
  | (refine gts_cons (gt_name (by decide)) ?_; walk_at "gs")
  | (refine gts_cons (gt_tup (by walk_at "gs") rfl) ?_; walk_at "gs"))
local macro_rules | `(tactic| walk_at "g") => `(tactic| first
  | exact gt_name (by decide)
  | exact gt_tup (by walk_at "gs") rfl
  | exact gt_pl (by walk_at "gs"))

variable {c : Ct}
theorem prog_copy {p : Prog} {Δ : Vt} {μ : M} {R : RE} (h0 : Δ[0]? = some (some (.d p.d))) (r : R (.d p.d) μ) :
    WE c (tTup (tCons (tCB (rList2 c.K) (tCons (tOp (rIxT c.K) (tVar 0) (tC (.int 0))) tNil)) (tCons (tCB (rList2 c.K) (tCons (tOp (rIxT c.K) (tVar 0) (tC (.int 1))) tNil)) tNil))) Δ μ R := by
  refine we_tup (wa_cons (we_cb (wa_cons (we_op (we_var h0 (we_int (wo_ixT 0 rfl rfl (wa_nil (wc_list (.inl lo_d) ?_)))))))))
  refine wa_cons (we_cb (wa_cons (we_op (we_var h0 (we_int (wo_ixT 1 rfl rfl (wa_nil (wc_list (.inl lo_d) ?_))))))))
  exact wa_nil ⟨by simp, _, rfl, r⟩
theorem runs_copyM {Δ : Vt} {μ : M} {R : RE} (i : Nat) (runs : List (List Int)) (hl : runs.length ≤ 10000000) (hi : Δ[i]? = some (some (.l (runs.map nL)))) (h6 : 6 < Δ.length) (r : ∀ q, R (.x (.ref q)) (μ ++ [(q, lstD nL runs)])) :
    WE c (tLc (iList c.K (tVar i)) (gName 6) tYes (tCB (rList2 c.K) (tCons (tVar 6) tNil)) [6]) Δ μ R := by
  refine we_lc (wi_list (we_var hi ⟨_, _, lk_l, ?_⟩))
  refine lc_map runs (fun ns => .d (nL ns)) (by simp) nL hl nokeep (fun ns hn => ⟨_, gt_name (by decide), ?_⟩) r
  exact we_cb (wa_cons (we_var (s := .d (nL ns)) (by simp [wipeD, h6]) (wa_nil (wc_list (.inl lo_d) ⟨rfl, rfl⟩))))
theorem runs_copy {Δ : Vt} {μ : M} {R : RE} (i : Nat) (runs : List (List Int)) (hl : runs.length ≤ 10000000) (hi : Δ[i]? = some (some (.l (runs.map nL)))) (h6 : 6 < Δ.length) (r : R (.l (runs.map nL)) μ) :
    WE c (tLc (iList c.K (tVar i)) (gName 6) tYes (tCB (rList2 c.K) (tCons (tVar 6) tNil)) [6]) Δ μ R := by
  refine we_frz (runs_copyM i runs hl hi h6 fun q => ⟨μ.length, q, _, runs.map nL, rfl, by simp, rfl, ?_⟩)
  rw [List.eraseIdx_append_of_length_le (Nat.le_refl _)]
  simpa using r
theorem like_runs (runs : List (List Int)) : LikeOk 3 (.list (runs.map nL)) := by
  intro d hd
  obtain ⟨ns, _, rfl⟩ := List.mem_map.mp hd
  intro d hd
  obtain ⟨n, _, rfl⟩ := List.mem_map.mp hd
  exact True.intro
theorem getS_of_mem {κ σ : Type} [DecidableEq κ] {kvs : List (κ × σ)} {k : κ} {v : σ} (nd : (kvs.map (·.1)).Nodup) (h : (k, v) ∈ kvs) : getS kvs k = some v := by
  induction kvs with
  | nil => cases h
  | cons a r ih =>
    obtain ⟨a1, a2⟩ := a
    simp only [List.map_cons, List.nodup_cons] at nd
    rcases List.mem_cons.mp h with h | h
    · cases h; simp [getS]
    · have : a1 ≠ k := fun e => nd.1 (List.mem_map.mpr ⟨(k, v), h, e.symm⟩)
      have := ih nd.2 h
      simpa [getS, ‹a1 ≠ k›] using this
theorem FallOk.key {p : Prog} {kvs : List (Str × Sl)} {Q : MV → Prop} (h : FallOk p kvs Q) {m : Str} : m ∈ kvs.map (·.1) ↔ ∃ v, Q (m, v) := by
  constructor
  · intro hm
    apply Classical.byContradiction
    intro n
    exact getS_none_iff.mp (h.no m n) hm
  · intro hq
    apply Classical.byContradiction
    intro n
    have h1 := h.yes m hq
    rw [getS_none_iff.mpr n] at h1
    cases h1
theorem FallOk.len_eq {p : Prog} {ks ls : List (Str × Sl)} {Q Q' : MV → Prop} (h : FallOk p ks Q) (h' : FallOk p ls Q') (k : ∀ m, (∃ v, Q (m, v)) ↔ ∃ v, Q' (m, v)) : ks.length = ls.length := by
  have h1 := nodup_len h.nd fun m hm => h'.key.mpr ((k m).mp (h.key.mp hm))
  have h2 := nodup_len h'.nd fun m hm => h.key.mpr ((k m).mpr (h'.key.mp hm))
  simp only [List.length_map] at h1 h2
  omega
theorem lay_say (s : Say) : s.d.canLay0 = true ∧ s.d.depth ≤ 10 := by
  have k1 : PyData.strOk (Str.ofString "is") = true := by decide +kernel
  have k2 : PyData.strOk (Str.ofString "from") = true := by decide +kernel
  have k3 : PyData.strOk (Str.ofString "to") = true := by decide +kernel
  have k4 : PyData.strOk (Str.ofString "rest") = true := by decide +kernel
  have k5 : PyData.strOk (Str.ofString "either") = true := by decide +kernel
  have k6 : PyData.strOk (Str.ofString "never") = true := by decide +kernel
  have k7 : PyData.strOk (Str.ofString "same") = true := by decide +kernel
  have k8 : PyData.strOk (Str.ofString "below") = true := by decide +kernel
  have k9 : PyData.strOk (Str.ofString "most") = true := by decide +kernel
  have k10 : PyData.strOk (Str.ofString "gap") = true := by decide +kernel
  have k11 : PyData.strOk (Str.ofString "sum") = true := by decide +kernel
  have k12 : PyData.strOk (Str.ofString "adds") = true := by decide +kernel
  have k13 : PyData.strOk (Str.ofString "times") = true := by decide +kernel
  cases s <;> simp [Say.d, PyData.canLay0, PyData.canLayAll0, PyData.depth, PyData.depthAll, *]
theorem shaped_says (xs : List Say) : SeqAt.shaped (.list (xs.map Say.d)) = true := shaped_list Say.d 10 (by decide) xs fun s _ => lay_say s
theorem eqv_says (xs : List Say) : PyData.eqv (.list (xs.map Say.d)) (.list (xs.map Say.d)) = true := SeqAt.eqv_refl _ (by
  have := lay_all Say.d 10 xs fun s _ => lay_say s
  simp [PyData.canLay0, this.1])
theorem passR_reach {p : Prog} {told : List (List Int)} {x : MV} (h : PassR p told x) : Reach p x := by
  obtain ⟨ns, _, h⟩ := h
  exact ⟨ns, h⟩
theorem heldQ_settled {p : Prog} {told : List (List Int)} (h : Settled p told) {m : Str} (ha : anyP p told m) : heldQ p (PassR p told) m = heldQ p (Reach p) m := by
  unfold heldQ
  apply List.filter_congr
  intro s hs
  rw [Bool.eq_iff_iff]
  simp only [decide_eq_true_eq]
  exact ⟨fun h1 v hv => h.ok m s hs ha h1 v hv, fun h1 v hv => h1 v (passR_reach hv)⟩
def pre_settles (K : PySem.W.Frag) (C : Addr) : List Sl → M → RE → Prop := fun ss μ R => ∃ (p : Prog) (runs : List (List Int)) (pd : Addr) (due : List (Str × Sl)), InC K C ∧ WFp p ∧ runs.length ≤ 4 ∧ (∀ ns, ns ∈ runs → ns.length ≤ 60) ∧ FallOk p due (Reach p) ∧
  ss = [.d (Prog.d p), .l (runs.map nL), .l ((sayF p).map Say.d), .x (.ref pd)] ∧ μ = [(pd, .dk due)] ∧ R (.d (.bool true)) [(pd, .dk due)]
theorem rd_law_settles {C : Addr} : ∀ ss μ R, pre_settles c.K C ss μ R → WS c (t_law_settles c.P c.w c.K (SPM c (pre_judged c.K C)) (SPM c (pre_settled c.K C)) (SPM c (pre_like 3)) (SPM c pre_fall) (SPM c pre_whole)) (startD N_law_settles ss) μ { nx := fun _ μ' => R (.d .none) μ', rt := R } := by
  rintro ss μ R ⟨p, runs, pd, due, hC, W, hrl, hns, hdue, rfl, rfl, h⟩
  unfold t_law_settles
  refine ws_seq (ws_asg (we_call0 (wa_cons (prog_copy (p := p) rfl (wa_cons (runs_copy 1 runs (by omega) rfl (by simp [startD, N_law_settles]) (wa_nil ?_)))))))
  refine ⟨p, runs, hC, W, fun ns hn => by have := hns ns hn; omega, by omega, rfl, rfl, fun extra hset _ hexl hexn => ?_⟩
  have htake : ((runs ++ extra).map nL).take ((runs.map nL).map Sl.d).length = runs.map nL := by simp
  have htl : (runs ++ extra).length ≤ 18014 := by simp; omega
  have htn : ∀ ns, ns ∈ runs ++ extra → ns.length ≤ 9000 := fun ns hn => by
    rcases List.mem_append.mp hn with q | q
    · have := hns ns q; omega
    · have := hexn ns q; omega
  generalize runs ++ extra = told at hset htake htl htn ⊢
  refine ws_seq (ws_if (wt_or (wt_not (wt_B (we_call0 (wa_cons (we_var rfl (wa_nil ?_))))))))
  refine ⟨told, rfl, rfl, _, rfl, cs_f rfl ?_⟩
  refine wt_not (wt_B (we_call0 (wa_cons (we_slTo (we_var rfl (we_cb (wa_cons (we_var rfl (wa_nil (wc_lenL lo_l ?_))))))))))
  refine ⟨_, rfl, told.map nL, lo_l, ?_⟩
  rw [htake]
  refine wa_cons (we_var rfl (wa_nil ⟨rfl, .inr ⟨.list (runs.map nL), _, _, like_runs runs, rfl, rfl, rfl, ?_⟩⟩))
  refine ⟨_, rfl, cs_f rfl (ws_next ?_)⟩
  refine ws_seq (ws_asg (we_dnew fun pl => ?_))
  refine ws_co (co_perm (μ' := [(pl, .dk []), (pd, .dk due)]) (ν := []) (List.Perm.swap _ _ _)) ?_
  refine ws_seq (ws_for (wi_list (we_var rfl ⟨_, _, lk_l, ?_⟩)))
  refine for_x told (fun ns => .d (nL ns)) (by simp) (fun done Δ μ => ∃ (x6 x7 : Option Sl) (kvs : List (Str × Sl)), Δ = [some (.d p.d), some (.l (runs.map nL)), some (.l ((sayF p).map Say.d)), some (.x (.ref pd)), some (.l (told.map nL)), some (.x (.ref pl)), x6, x7] ∧ μ = [(pl, .dk kvs), (pd, .dk due)] ∧ FallOk p kvs (PassR p done))
    ⟨_, _, [], rfl, rfl, ⟨by simp, by simp, (fun m ⟨v, ns, a, _⟩ => by cases a), fun m _ => rfl⟩⟩ (fun _ _ _ _ => nokeep) ?_ ?_
  · rintro done ns rest Δ μ e ⟨x6, x7, kvs, rfl, rfl, hf⟩
    have hn := htn ns (by rw [e]; simp)
    refine ⟨_, is12, gt_name (by decide), ?_⟩
    refine ws_drop (we_callI [0] (wa_cons (we_var rfl (wa_cons (we_var rfl (wa_cons (we_var rfl (wa_cons (we_var rfl (wa_nil ?_))))))))))
    exact ⟨_, rfl, p, done, ns, pl, kvs, W, hn, hf, rfl, rfl, fun kvs' hf' => ⟨_, _, kvs', rfl, rfl, hf'⟩⟩
  rintro Δ μ ⟨x6, x7, left, rfl, rfl, hf⟩
  have hkeys : ∀ m, (∃ v, PassR p told (m, v)) ↔ ∃ v, Reach p (m, v) := fun m => ⟨fun ⟨v, hv⟩ => ⟨v, passR_reach hv⟩, fun ⟨v, hv⟩ => hset.all (m, v) hv⟩
  refine ws_seq (ws_if (wt_test (we_op (we_var rfl (we_var rfl (wo_neDD 0 1 rfl rfl (hf.len_eq hdue hkeys) ?_ ⟨_, rfl, cs_f rfl (ws_next ?_)⟩))))))
  · intro m s hm
    have ha := hf.key.mp (List.mem_map.mpr ⟨(m, s), hm, rfl⟩)
    have h1 := (getS_of_mem hf.nd hm).symm.trans (hf.yes m ha)
    cases h1
    refine ⟨_, _, hdue.yes m ((hkeys m).mp ha), rfl, ?_, shaped_says _, eqv_says _⟩
    rw [heldQ_settled hset ha]
    rfl
  refine ws_seq (ws_for (wi_list (we_callI [2] (wa_cons (prog_copy (p := p) rfl (wa_cons (runs_copyM 4 told (by omega) rfl (by simp) fun q => wa_nil ?_)))))))
  refine ⟨_, rfl, p, told, q, hC, W, ⟨htn, by omega⟩, hset, rfl, rfl, fun J => ?_⟩
  refine ⟨_, _, lk_l, ?_⟩
  refine for_x J (fun x => .d (jD x)) (by simp) (fun done Δ μ => ∃ (x6 x7 : Option Sl), Δ = [some (.d p.d), some (.l (runs.map nL)), some (.l ((sayF p).map Say.d)), some (.x (.ref pd)), some (.l (told.map nL)), some (.x (.ref pl)), x6, x7] ∧ μ = [(pl, .dk left), (pd, .dk due)])
    ⟨_, _, rfl, rfl⟩ (fun _ _ _ _ => nokeep) ?_ ?_
  · rintro done x rest Δ μ e ⟨x6, x7, rfl, rfl⟩
    refine ⟨_, is12, gt_name (by decide), ?_⟩
    refine ws_if (wt_and (wt_not (wt_B (we_call0 (wa_cons (we_op (we_var rfl (we_int (wo_ixT 2 rfl rfl (wa_cons (we_str (wa_nil ?_)))))))))))) 
    refine ⟨rfl, .inl ⟨_, _, by decide, rfl, _, rfl, ?_⟩⟩
    cases hx : x.2.2 with
    | true => exact cs_f (by decide +kernel) (cs_f rfl (ws_next ⟨_, _, rfl, rfl⟩))
    | false =>
      refine cs_t (by decide +kernel) (wt_not (wt_B (we_call0 (wa_cons (we_op (we_var rfl (we_int (wo_ixT 2 rfl rfl (wa_cons (we_str (wa_nil ?_))))))))))) 
      refine ⟨rfl, .inl ⟨_, _, by decide, rfl, _, rfl, ?_⟩⟩
      rw [hx]
      exact cs_f (by decide +kernel) (ws_next ⟨_, _, rfl, rfl⟩)
  rintro Δ μ ⟨x6, x7, rfl, rfl⟩
  refine ws_co (co_drop 0) ?_
  refine ws_ret (we_call0 (wa_cons (we_call0 (wa_cons (prog_copy (p := p) rfl (wa_cons (runs_copy 4 told (by omega) rfl (by simp) (wa_nil ?_))))))))
  refine ⟨p, told, hC, W, htn, by omega, rfl, rfl, fun ex _ hex _ _ => ?_⟩
  have e0 := hex hset
  subst e0
  rw [List.append_nil]
  exact wa_cons (we_var rfl (wa_nil ⟨rfl, .inr ⟨.list (told.map nL), _, _, like_runs told, rfl, rfl, rfl, h⟩⟩))
end Sw
/-! SwGen -/
set_option Elab.async false
set_option linter.all false
set_option maxRecDepth 100000
set_option maxHeartbeats 2000000
namespace Sw
open PySem L2 SwH
local macro_rules | `(tactic| walk_at "w1") => `(tactic| first
  | with_reducible refine ws_seq ?_
  | with_reducible refine ws_asgL ?_
  | with_reducible refine ws_asg ?_
  | with_reducible refine ws_setL ?_
  | with_reducible refine ws_asgT ?_
  | with_reducible refine ws_drop ?_
  | with_reducible refine ws_next ?_
  | with_reducible refine ws_cont ?_
  | with_reducible refine ws_if ?_
  | with_reducible refine ws_for ?_
  | (with_reducible refine we_var rfl ?_)
  | with_reducible refine we_int ?_
  | with_reducible refine we_str ?_
  | with_reducible refine we_bl ?_
  | with_reducible refine we_non ?_
  | with_reducible refine we_eqNil ?_
  | with_reducible refine we_neNil ?_
  | with_reducible refine we_op ?_
  | (with_reducible refine wo_ixT 0 rfl rfl ?_)
  | (with_reducible refine wo_ixT 1 rfl rfl ?_)
  | (with_reducible refine wo_ixT 2 rfl rfl ?_)
  | (with_reducible refine wo_ixT 3 rfl rfl ?_)
  | (with_reducible refine wo_ixT 4 rfl rfl ?_)
  | with_reducible refine wo_add ?_
  | with_reducible refine wo_sub ?_
  | with_reducible refine wo_lt ?_
  | with_reducible refine wo_le ?_
  | with_reducible refine wo_gt ?_
  | with_reducible refine wo_ge ?_
  | with_reducible refine wo_eqI ?_
  | with_reducible refine wo_neI ?_
  | with_reducible refine wo_eqS ?_
  | with_reducible refine wo_neS ?_
  | with_reducible refine wt_test ?_
  | with_reducible refine wt_B ?_
  | with_reducible refine wt_not ?_
  | with_reducible refine wt_and ?_
  | with_reducible refine wt_or ?_
  | with_reducible refine wt_yes ?_
  | with_reducible refine we_andV ?_
  | with_reducible refine we_orV ?_
  | with_reducible refine we_notV ?_
  | with_reducible refine wa_nil ?_
  | with_reducible refine wa_cons ?_
  | with_reducible refine we_bm ?_
  | with_reducible refine we_bm0 ?_
  | with_reducible refine we_tup ?_
  | with_reducible refine we_cb ?_
  | (with_reducible refine ⟨_, rfl, ?_⟩)
  | (refine ⟨by simp, _, rfl, ?_⟩)
  | (refine ⟨ListOf.ty (lo_m 0 rfl), ?_⟩)
  | (refine ⟨ListOf.ty (lo_m 1 rfl), ?_⟩)
  | (refine ⟨ListOf.ty (lo_m 2 rfl), ?_⟩)
  | (refine ⟨ListOf.ty (lo_m 3 rfl), ?_⟩)
  | (refine cs_t (by decide) ?_)
  | (refine cs_f (by decide) ?_))
local macro_rules | `(tactic| walk_at "w") => `(tactic| repeat walk_at "w1")


local macro_rules | `(tactic| walk_at "gs") => `(tactic| first
  | exact gts_nil
  | (refine gts_cons (gt_name (by decide)) ?_; walk_at "gs")
  | (refine gts_cons (gt_tup (by walk_at "gs") rfl) ?_; walk_at "gs"))
local macro_rules | `(tactic| walk_at "g") => `(tactic| first
  | exact gt_name (by decide)
  | exact gt_tup (by walk_at "gs") rfl
  | exact gt_pl (by walk_at "gs"))

variable {c : Ct}
/-! ### what is drawn -/
abbrev stoL (a b e : Int) : MO := lstD PyData.int [a, b, e]
def pre_cell : List Sl → M → RE → Prop := fun ss μ R => ∃ (ns : List Int) (k : Nat), k ≤ 1000 ∧ ss = [.d (nL ns), .d (.int k)] ∧ μ = [] ∧ ∀ i : Int, R (.d (.int i)) []
theorem rd_law_cell : ∀ ss μ R, pre_cell ss μ R → WS c (t_law_cell c.P c.w c.K) (startD N_law_cell ss) μ { nx := fun _ μ' => R (.d .none) μ', rt := R } := by
  rintro ss μ R ⟨ns, k, hk, rfl, rfl, h⟩
  unfold t_law_cell
  walk_at "w"
  refine wc_lenL lo_d ?_
  walk_at "w"
  refine ⟨fun z => ?_, fun z => ?_⟩
  · have hl : k < ns.length := by simpa using z
    refine ws_ret ?_
    walk_at "w"
    exact wo_ixL k rfl lo_d (t := .d (.int ns[k])) (by simp [hl]) (h _)
  · walk_at "w"
    refine ws_ret ?_
    walk_at "w"
    refine wo_mul (.inl (by omega)) ?_
    walk_at "w"
    refine wo_mul (.inr (by omega)) ?_
    walk_at "w"
    refine wo_mul (.inl (by omega)) ?_
    walk_at "w"
    exact h _
def pre_store : List Sl → M → RE → Prop := fun ss μ R => ∃ i : Int, ss = [.d (.int i)] ∧ μ = [] ∧ ∀ ps a b e, R (.x (.ref ps)) [(ps, stoL a b e)]
theorem rd_law_store : ∀ ss μ R, pre_store ss μ R → WS c (t_law_store c.P c.w c.K) (startD N_law_store ss) μ { nx := fun _ μ' => R (.d .none) μ', rt := R } := by
  rintro ss μ R ⟨i, rfl, rfl, h⟩
  unfold t_law_store
  walk_at "w"
  refine wo_pw ⟨by decide, by decide, by decide⟩ ?_
  walk_at "w"
  refine ⟨fun z => ?_, fun z => ?_⟩
  · walk_at "w"
    refine ws_ret (we_lst ?_)
    walk_at "w"
    refine wo_md (by decide) ?_
    walk_at "w"
    exact ⟨by simp, fun p => h p _ _ _⟩
  · walk_at "w"
    refine ws_ret (we_lst ?_)
    walk_at "w"
    refine wo_md (by decide) ?_
    walk_at "w"
    exact ⟨by simp, fun p => h p _ _ _⟩
def pre_take : List Sl → M → RE → Prop := fun ss μ R => ∃ (ps : Addr) (a b e n : Int), 0 < n ∧ n < 1000000 ∧ ss = [.x (.ref ps), .d (.int n)] ∧ μ = [(ps, stoL a b e)] ∧ ∀ r a' b' e', 0 ≤ r → r < n → R (.d (.int r)) [(ps, stoL a' b' e')]
theorem rd_law_take : ∀ ss μ R, pre_take ss μ R → WS c (t_law_take c.P c.w c.K) (startD N_law_take ss) μ { nx := fun _ μ' => R (.d .none) μ', rt := R } := by
  rintro ss μ R ⟨ps, a, b, e, n, hn0, hn1, rfl, rfl, h⟩
  unfold t_law_take
  walk_at "w"
  refine wo_ixL 0 rfl (lo_m 0 rfl) rfl ?_
  walk_at "w"
  refine ⟨fun z => ?_, fun z => ?_⟩
  · walk_at "w"
    refine wo_ixL 0 rfl (lo_m 0 rfl) rfl ?_
    walk_at "w"
    refine wo_md hn0 ?_
    walk_at "w"
    refine wo_ixL 0 rfl (lo_m 0 rfl) rfl ?_
    walk_at "w"
    refine wo_fd ⟨hn0, by omega⟩ ?_
    walk_at "w"
    refine ⟨0, ps, _, 0, rfl, rfl, rfl, by simp, ?_⟩
    refine ws_ret ?_
    walk_at "w"
    exact h _ (a / n) b e (Int.emod_nonneg _ (by omega)) (Int.emod_lt_of_pos _ hn0)
  · walk_at "w"
    refine wo_ixL 2 rfl (lo_m 0 rfl) rfl ?_
    walk_at "w"
    refine ⟨0, ps, _, 2, rfl, rfl, rfl, by simp, ?_⟩
    refine ws_seq (ws_asg ?_)
    walk_at "w"
    refine wo_ixL 1 rfl (lo_m 0 rfl) rfl ?_
    walk_at "w"
    refine wo_ixL 2 rfl (lo_m 0 rfl) rfl ?_
    refine wo_mul (.inl (by decide)) ?_
    walk_at "w"
    refine wo_mul (.inr (by decide)) ?_
    walk_at "w"
    refine wo_md (by decide) ?_
    generalize ho : (b + 7919 * (e + 1)) * 48271 % 2147483647 = o
    have o1 : 0 ≤ o := by rw [← ho]; exact Int.emod_nonneg _ (by decide)
    have o2 : o < 2147483647 := by rw [← ho]; exact Int.emod_lt_of_pos _ (by decide)
    clear ho
    refine ws_seq (ws_asg ?_)
    walk_at "w"
    refine wo_mul (.inl (by omega)) ?_
    walk_at "w"
    refine wo_md (by decide) ?_
    generalize o * o % 2147483629 = o'
    refine ws_seq (ws_asg ?_)
    walk_at "w"
    refine wo_ixL 2 rfl (lo_m 0 rfl) rfl ?_
    refine wo_mul (.inl (by decide)) ?_
    walk_at "w"
    refine wo_mul (.inr (by decide)) ?_
    walk_at "w"
    refine wo_md (by decide) ?_
    generalize (o' + 40692 * (e + 1)) * 69621 % 2147483587 = o''
    refine ws_ret ?_
    walk_at "w"
    refine wo_fd ⟨by decide, by decide⟩ ?_
    walk_at "w"
    refine wo_md hn0 ?_
    exact h _ a b (e + 1) (Int.emod_nonneg _ (by omega)) (Int.emod_lt_of_pos _ hn0)
end Sw
/-! SwGen2 -/
set_option Elab.async false
set_option linter.all false
set_option maxRecDepth 100000
set_option maxHeartbeats 2000000
namespace Sw
open PySem L2 SwH
local macro_rules | `(tactic| walk_at "w1") => `(tactic| first
  | with_reducible refine ws_seq ?_
  | with_reducible refine ws_asgL ?_
  | with_reducible refine ws_asg ?_
  | with_reducible refine ws_setL ?_
  | with_reducible refine ws_asgT ?_
  | with_reducible refine ws_drop ?_
  | with_reducible refine ws_next ?_
  | with_reducible refine ws_cont ?_
  | with_reducible refine ws_if ?_
  | with_reducible refine ws_for ?_
  | (with_reducible refine we_var rfl ?_)
  | with_reducible refine we_int ?_
  | with_reducible refine we_str ?_
  | with_reducible refine we_bl ?_
  | with_reducible refine we_non ?_
  | with_reducible refine we_eqNil ?_
  | with_reducible refine we_neNil ?_
  | with_reducible refine we_op ?_
  | (with_reducible refine wo_ixT 0 rfl rfl ?_)
  | (with_reducible refine wo_ixT 1 rfl rfl ?_)
  | (with_reducible refine wo_ixT 2 rfl rfl ?_)
  | (with_reducible refine wo_ixT 3 rfl rfl ?_)
  | (with_reducible refine wo_ixT 4 rfl rfl ?_)
  | with_reducible refine wo_add ?_
  | with_reducible refine wo_sub ?_
  | with_reducible refine wo_lt ?_
  | with_reducible refine wo_le ?_
  | with_reducible refine wo_gt ?_
  | with_reducible refine wo_ge ?_
  | with_reducible refine wo_eqI ?_
  | with_reducible refine wo_neI ?_
  | with_reducible refine wo_eqS ?_
  | with_reducible refine wo_neS ?_
  | with_reducible refine wt_test ?_
  | with_reducible refine wt_B ?_
  | with_reducible refine wt_not ?_
  | with_reducible refine wt_and ?_
  | with_reducible refine wt_or ?_
  | with_reducible refine wt_yes ?_
  | with_reducible refine we_andV ?_
  | with_reducible refine we_orV ?_
  | with_reducible refine we_notV ?_
  | with_reducible refine wa_nil ?_
  | with_reducible refine wa_cons ?_
  | with_reducible refine we_bm ?_
  | with_reducible refine we_bm0 ?_
  | with_reducible refine we_tup ?_
  | with_reducible refine we_cb ?_
  | (with_reducible refine ⟨_, rfl, ?_⟩)
  | (refine ⟨by simp, _, rfl, ?_⟩)
  | (refine ⟨ListOf.ty (lo_m 0 rfl), ?_⟩)
  | (refine ⟨ListOf.ty (lo_m 1 rfl), ?_⟩)
  | (refine ⟨ListOf.ty (lo_m 2 rfl), ?_⟩)
  | (refine ⟨ListOf.ty (lo_m 3 rfl), ?_⟩)
  | (refine cs_t (by decide) ?_)
  | (refine cs_f (by decide) ?_))
local macro_rules | `(tactic| walk_at "w") => `(tactic| repeat walk_at "w1")


local macro_rules | `(tactic| walk_at "gs") => `(tactic| first
  | exact gts_nil
  | (refine gts_cons (gt_name (by decide)) ?_; walk_at "gs")
  | (refine gts_cons (gt_tup (by walk_at "gs") rfl) ?_; walk_at "gs"))
local macro_rules | `(tactic| walk_at "g") => `(tactic| first
  | exact gt_name (by decide)
  | exact gt_tup (by walk_at "gs") rfl
  | exact gt_pl (by walk_at "gs"))

variable {c : Ct}
def wordsS : List Str := ["", "a", "go", "box", "stop", "zz", "mark", "ab"]
def ltS (k : Nat) : Str := ⟨#[if k = 0 then 99 else 100]⟩
def cand (k : Nat) : List Str := wordsS.flatMap fun w => [w ++ ltS k, ltS k ++ w]
theorem cand_ok0 : ∀ x, x ∈ cand 0 → PyData.strOk x = true := by decide +kernel
theorem cand_ok1 : ∀ x, x ∈ cand 1 → PyData.strOk x = true := by decide +kernel
theorem cand_ne : ∀ x, x ∈ cand 0 → ∀ y, y ∈ cand 1 → x ≠ y := by decide +kernel
theorem words_len : ∀ w, w ∈ wordsS → w.length ≤ 10 := by decide +kernel
theorem let_at {k : Nat} (h : k < 2) : (Str.ofString "cdehjlqr").cps.toList[k]? = some (if k = 0 then 99 else 100) := by
  have : k = 0 ∨ k = 1 := by omega
  rcases this with rfl | rfl <;> decide +kernel
def NmOk (L : List Str) : Prop := ∀ (k : Nat) (x : Str), L[k]? = some x → x ∈ cand k
def pre_names : List Sl → M → RE → Prop := fun ss μ R => ∃ (ps : Addr) (a b e : Int) (n : Nat), n ≤ 2 ∧ ss = [.x (.ref ps), .d (.int n)] ∧ μ = [(ps, stoL a b e)] ∧ ∀ (L : List Str) a' b' e', L.length = n → NmOk L → R (.l (L.map .str)) [(ps, stoL a' b' e')]
theorem rg_at {n : Int} {done rest : List Int} {k : Int} (h : rg 0 n = done ++ k :: rest) : k = done.length := by
  have h1 : (rg 0 n)[done.length]? = some k := by rw [h]; simp
  unfold rg at h1
  rw [List.getElem?_map] at h1
  simp only [Option.map_eq_some_iff] at h1
  obtain ⟨i, h2, h3⟩ := h1
  have := (List.getElem?_eq_some_iff.mp h2)
  obtain ⟨_, h4⟩ := this
  simp at h4
  omega
theorem int_nat {r : Int} (h : 0 ≤ r) : r = (r.toNat : Int) := by omega
theorem rd_law_names : ∀ ss μ R, pre_names ss μ R → WS c (t_law_names c.P c.w c.K (SPM c pre_take)) (startD N_law_names ss) μ { nx := fun _ μ' => R (.d .none) μ', rt := R } := by
  rintro ss μ R ⟨ps, a, b, e, n, hn, rfl, rfl, h⟩
  unfold t_law_names
  walk_at "w"
  refine ⟨by simp, fun pw => ?_⟩
  have word : ∀ (Δ : Vt) (g : M) (a b e : Int) (R : RE), Δ[0]? = some (some (.x (.ref ps))) → Δ[2]? = some (some (.x (.ref pw))) → (∀ w a b e, w ∈ wordsS → R (.d (.str w)) ((ps, stoL a b e) :: (pw, lstD PyData.str wordsS) :: g)) →
      WE c (tOp (rIxL c.K) (tVar 2) (tCall (SPM c pre_take) [] E0 (tCons (tVar 0) (tCons (tC (.int 8)) tNil)))) Δ ((ps, stoL a b e) :: (pw, lstD PyData.str wordsS) :: g) R := by
    intro Δ g a b e R h0 h2 r
    refine we_op (we_var h2 (we_callI [0] (wa_cons (we_var h0 (wa_cons (we_int (wa_nil ?_)))))))
    refine ⟨_, rfl, ps, a, b, e, 8, by omega, by omega, rfl, rfl, fun q a' b' e' hq0 hq1 => ?_⟩
    have hl : q.toNat < wordsS.length := by have : wordsS.length = 8 := rfl; omega
    exact wo_ixL q.toNat (int_nat hq0) (lo_m 1 rfl) (t := .d (.str wordsS[q.toNat])) (by simp [hl]) (r _ a' b' e' (List.getElem_mem hl))
  have coin : ∀ (Δ : Vt) (g : M) (a b e : Int) (R : RE), Δ[0]? = some (some (.x (.ref ps))) → (∀ q a b e, R (.d (.bool (decide ((q : Int) = 1)))) ((ps, stoL a b e) :: g)) →
      WE c (tOp rEq (tCall (SPM c pre_take) [] E0 (tCons (tVar 0) (tCons (tC (.int 2)) tNil))) (tC (.int 1))) Δ ((ps, stoL a b e) :: g) R := by
    intro Δ g a b e R h0 r
    refine we_op (we_callI [0] (wa_cons (we_var h0 (wa_cons (we_int (wa_nil ?_))))))
    refine ⟨_, rfl, ps, a, b, e, 2, by omega, by omega, rfl, rfl, fun q a' b' e' hq0 hq1 => ?_⟩
    exact we_int (wo_eqI (r q a' b' e'))
  refine ws_seq (ws_asg (word _ [] a b e _ rfl rfl fun w0 a b e hw0 => ?_))
  walk_at "w"
  refine ⟨by simp, fun pn => ?_⟩
  refine ws_seq (ws_for (wi_rng1 ?_))
  walk_at "w"
  refine ⟨by omega, ?_⟩
  refine for_x (rg 0 n) _ (rgS_rg _ _) (fun done Δ μ => ∃ (x5 x6 : Option Sl) (L : List Str) (a b e : Int), Δ = [some (.x (.ref ps)), some (.d (.int n)), some (.x (.ref pw)), some (.d (.str w0)), some (.x (.ref pn)), x5, x6] ∧ μ = [(ps, stoL a b e), (pw, lstD PyData.str wordsS), (pn, lstD PyData.str L)] ∧ L.length = done.length ∧ NmOk L)
    ⟨_, _, [], a, b, e, rfl, rfl, rfl, fun k x hx => by simp at hx⟩ (fun _ _ _ _ => nokeep) ?_ ?_
  · rintro done k rest Δ μ e2 ⟨x5, x6, L, a, b, e, rfl, rfl, hL, hN⟩
    have hk := rg_at e2
    have hk2 : L.length < 2 := by have := congrArg List.length e2; simp [rg_len] at this; omega
    have hkL : k = (L.length : Int) := by omega
    subst hkL
    have hadd : ∀ x, x ∈ cand L.length → NmOk (L ++ [x]) := by
      intro x hx i y hy
      rw [List.getElem?_append] at hy
      split at hy
      · exact hN i y hy
      · have : i = L.length := by
          have := (List.getElem?_eq_some_iff.mp hy).1
          simp at this; omega
        subst this
        simp at hy; subst hy; exact hx
    refine ⟨_, is12, gt_name (by decide), ?_⟩
    refine ws_seq (ws_asg (we_var rfl ?_))
    have tail : ∀ w a b e (A : AE), w ∈ wordsS → (∀ x a b e, x ∈ cand L.length → A.nx [some (.x (.ref ps)), some (.d (.int n)), some (.x (.ref pw)), some (.d (.str w0)), some (.x (.ref pn)), some (.d (.int L.length)), some (.d (.str w))] [(ps, stoL a b e), (pw, lstD PyData.str wordsS), (pn, lstD PyData.str (L ++ [x]))]) →
        WS c (tIfS (tTest (tOp rEq (tCall (SPM c pre_take) [] E0 (tCons (tVar 0) (tCons (tC (.int 2)) tNil))) (tC (.int 1)))) (tDrop (tBM c.K "list" rAppend (tVar 4) (tCons (tOp rAddS (tVar 6) (tOp rIxS (tC (.str "cdehjlqr")) (tVar 5))) tNil))) (tDrop (tBM c.K "list" rAppend (tVar 4) (tCons (tOp rAddS (tOp rIxS (tC (.str "cdehjlqr")) (tVar 5)) (tVar 6)) tNil))))
        [some (.x (.ref ps)), some (.d (.int n)), some (.x (.ref pw)), some (.d (.str w0)), some (.x (.ref pn)), some (.d (.int L.length)), some (.d (.str w))] [(ps, stoL a b e), (pw, lstD PyData.str wordsS), (pn, lstD PyData.str L)] A := by
      intro w a b e A hw r
      have hwl := words_len w hw
      have h8 : (Str.ofString "cdehjlqr").length ≤ 1000 := by decide +kernel
      have h1 : (ltS L.length).length = 1 := rfl
      refine ws_if (wt_test (coin _ _ a b e _ rfl fun q a b e => ⟨_, rfl, fun z => ?_, fun z => ?_⟩))
      · walk_at "w"
        refine wo_ixS L.length rfl h8 (let_at hk2) ?_
        refine wo_addS (n := ltS L.length) (by omega) ?_
        walk_at "w"
        refine wb_appendD 2 (L.map PyData.str) rfl rfl (by simp; omega) ?_
        have := r (w ++ ltS L.length) a b e (List.mem_flatMap.mpr ⟨w, hw, by simp⟩)
        simpa [lstD] using this
      · walk_at "w"
        refine wo_ixS L.length rfl h8 (let_at hk2) ?_
        walk_at "w"
        refine wo_addS (m := ltS L.length) (by omega) ?_
        walk_at "w"
        refine wb_appendD 2 (L.map PyData.str) rfl rfl (by simp; omega) ?_
        have := r (ltS L.length ++ w) a b e (List.mem_flatMap.mpr ⟨w, hw, by simp⟩)
        simpa [lstD] using this
    refine ws_seq (ws_if (wt_test ?_))
    refine coin _ _ a b e _ rfl fun q a b e => ⟨_, rfl, fun z => ?_, fun z => ?_⟩
    · refine ws_asg (word _ _ a b e _ rfl rfl fun w a b e hw => ?_)
      exact tail w a b e _ hw fun x a b e hx => ⟨_, _, L ++ [x], a, b, e, rfl, rfl, by simp; omega, hadd x hx⟩
    · refine ws_next ?_
      exact tail w0 a b e _ hw0 fun x a b e hx => ⟨_, _, L ++ [x], a, b, e, rfl, rfl, by simp; omega, hadd x hx⟩
  · rintro Δ μ ⟨x5, x6, L, a, b, e, rfl, rfl, hL, hN⟩
    refine ws_retL 1 ?_
    walk_at "w"
    exact ⟨2, pn, _, _, rfl, rfl, rfl, h L a b e (by rw [hL, rg_len]; omega) hN⟩
end Sw
/-! SwGen3 -/
set_option Elab.async false
set_option linter.all false
set_option maxRecDepth 100000
set_option maxHeartbeats 2000000
namespace Sw
open PySem L2 SwH
local macro_rules | `(tactic| walk_at "w1") => `(tactic| first
  | with_reducible refine ws_seq ?_
  | with_reducible refine ws_asgL ?_
  | with_reducible refine ws_asg ?_
  | with_reducible refine ws_setL ?_
  | with_reducible refine ws_asgT ?_
  | with_reducible refine ws_drop ?_
  | with_reducible refine ws_next ?_
  | with_reducible refine ws_cont ?_
  | with_reducible refine ws_if ?_
  | with_reducible refine ws_for ?_
  | (with_reducible refine we_var rfl ?_)
  | with_reducible refine we_int ?_
  | with_reducible refine we_str ?_
  | with_reducible refine we_bl ?_
  | with_reducible refine we_non ?_
  | with_reducible refine we_eqNil ?_
  | with_reducible refine we_neNil ?_
  | with_reducible refine we_op ?_
  | (with_reducible refine wo_ixT 0 rfl rfl ?_)
  | (with_reducible refine wo_ixT 1 rfl rfl ?_)
  | (with_reducible refine wo_ixT 2 rfl rfl ?_)
  | (with_reducible refine wo_ixT 3 rfl rfl ?_)
  | (with_reducible refine wo_ixT 4 rfl rfl ?_)
  | with_reducible refine wo_add ?_
  | with_reducible refine wo_sub ?_
  | with_reducible refine wo_lt ?_
  | with_reducible refine wo_le ?_
  | with_reducible refine wo_gt ?_
  | with_reducible refine wo_ge ?_
  | with_reducible refine wo_eqI ?_
  | with_reducible refine wo_neI ?_
  | with_reducible refine wo_eqS ?_
  | with_reducible refine wo_neS ?_
  | with_reducible refine wt_test ?_
  | with_reducible refine wt_B ?_
  | with_reducible refine wt_not ?_
  | with_reducible refine wt_and ?_
  | with_reducible refine wt_or ?_
  | with_reducible refine wt_yes ?_
  | with_reducible refine we_andV ?_
  | with_reducible refine we_orV ?_
  | with_reducible refine we_notV ?_
  | with_reducible refine wa_nil ?_
  | with_reducible refine wa_cons ?_
  | with_reducible refine we_bm ?_
  | with_reducible refine we_bm0 ?_
  | with_reducible refine we_tup ?_
  | with_reducible refine we_cb ?_
  | (with_reducible refine ⟨_, rfl, ?_⟩)
  | (refine ⟨by simp, _, rfl, ?_⟩)
  | (refine ⟨ListOf.ty (lo_m 0 rfl), ?_⟩)
  | (refine ⟨ListOf.ty (lo_m 1 rfl), ?_⟩)
  | (refine ⟨ListOf.ty (lo_m 2 rfl), ?_⟩)
  | (refine ⟨ListOf.ty (lo_m 3 rfl), ?_⟩)
  | (refine cs_t (by decide) ?_)
  | (refine cs_f (by decide) ?_))
local macro_rules | `(tactic| walk_at "w") => `(tactic| repeat walk_at "w1")


local macro_rules | `(tactic| walk_at "gs") => `(tactic| first
  | exact gts_nil
  | (refine gts_cons (gt_name (by decide)) ?_; walk_at "gs")
  | (refine gts_cons (gt_tup (by walk_at "gs") rfl) ?_; walk_at "gs"))
local macro_rules | `(tactic| walk_at "g") => `(tactic| first
  | exact gt_name (by decide)
  | exact gt_tup (by walk_at "gs") rfl
  | exact gt_pl (by walk_at "gs"))

variable {c : Ct}
structure BsOk (bs : List Box) : Prop where
  b1 : 1 ≤ bs.length
  b2 : bs.length ≤ 2
  nd : (bs.map Box.name).Nodup
  st : ∀ x, x ∈ bs.map Box.name → PyData.strOk x = true
  bx : ∀ b, b ∈ bs → b.wf
/-- a number in [0, n) is drawn -/
theorem we_take {ps : Addr} {Δ : Vt} {g : M} {a b e : Int} {R : RE} {te : TE} (n : Int) (hn0 : 0 < n) (hn1 : n < 1000000) (h0 : Δ[0]? = some (some (.x (.ref ps))))
    (ht : ∀ R' : RE, R' (.d (.int n)) ((ps, stoL a b e) :: g) → WE c te Δ ((ps, stoL a b e) :: g) R')
    (r : ∀ (q : Nat) a b e, (q : Int) < n → R (.d (.int q)) ((ps, stoL a b e) :: g)) : WE c (tCall (SPM c pre_take) [] E0 (tCons (tVar 0) (tCons te tNil))) Δ ((ps, stoL a b e) :: g) R := by
  refine we_callI [0] (wa_cons (we_var h0 (wa_cons (ht _ (wa_nil ?_)))))
  refine ⟨_, rfl, ps, a, b, e, n, hn0, hn1, rfl, rfl, fun q a' b' e' hq0 hq1 => ?_⟩
  have := r q.toNat a' b' e' (by omega)
  rw [← int_nat hq0] at this
  exact this
def pre_boxes : List Sl → M → RE → Prop := fun ss μ R => ∃ (ps : Addr) (a b e : Int) (cs : List Int), 1 ≤ cs.length ∧ cs.length ≤ 2 ∧ (∀ x, x ∈ cs → 2 ≤ x ∧ x ≤ 8) ∧ ss = [.x (.ref ps), .l (cs.map .int)] ∧ μ = [(ps, stoL a b e)] ∧
  ∀ (bs : List Box) a' b' e', BsOk bs → R (.l (bs.map Box.d)) [(ps, stoL a' b' e')]
theorem rd_law_boxes : ∀ ss μ R, pre_boxes ss μ R → WS c (t_law_boxes c.P c.w c.K (SPM c pre_take) (SPM c pre_names)) (startD N_law_boxes ss) μ { nx := fun _ μ' => R (.d .none) μ', rt := R } := by
  rintro ss μ R ⟨ps, a, b, e, cs, hc1, hc2, hcs, rfl, rfl, h⟩
  unfold t_law_boxes
  walk_at "w"
  refine we_callI [0] ?_
  walk_at "w"
  refine wc_lenL lo_l ?_
  walk_at "w"
  refine ⟨ps, a, b, e, cs.length, hc2, by simp, rfl, fun L a b e hL hN => ?_⟩
  walk_at "w"
  refine ⟨by simp, fun pb => ?_⟩
  refine ws_seq (ws_for (wi_enum ?_))
  walk_at "w"
  refine ⟨_, cs.map .int, rfl, .inr rfl, ?_⟩
  refine for_x (enN 0 cs) (fun x => .d (.tuple [.int x.1, .int x.2])) (by rw [enumD_en PyData.int]; simp) (fun done Δ μ => ∃ (x4 x5 x6 : Option Sl) (bs : List Box) (a b e : Int), Δ = [some (.x (.ref ps)), some (.l (cs.map .int)), some (.l (L.map .str)), some (.x (.ref pb)), x4, x5, x6] ∧ μ = [(ps, stoL a b e), (pb, lstD Box.d bs)] ∧ bs.map Box.name = L.take done.length ∧ bs.length = done.length ∧ ∀ b, b ∈ bs → b.wf)
    ⟨_, _, _, [], a, b, e, rfl, rfl, by simp, rfl, by simp⟩ (fun _ _ _ _ => nokeep) ?_ ?_
  · rintro done ⟨k, n⟩ rest Δ μ e2 ⟨x4, x5, x6, bs, a, b, e, rfl, rfl, hbn, hbl, hbw⟩
    have hkm := mem_enN (show (k, n) ∈ enN 0 cs by rw [e2]; simp)
    have hkl : k < cs.length := by have := (List.getElem?_eq_some_iff.mp hkm.2).1; simpa using this
    have hn := hcs n (List.mem_of_getElem? hkm.2)
    have hk : k = done.length := by
      have h1 : (enN 0 cs)[done.length]? = some (k, n) := by rw [e2]; simp
      have h2 : ∀ (xs : List Int) (j i : Nat) (y : Nat × Int), (enN j xs)[i]? = some y → y.1 = j + i := by
        intro xs
        induction xs with
        | nil => intro j i y h; simp [enN] at h
        | cons x r ih =>
          intro j i y h
          cases i with
          | zero => simp [enN] at h; rw [← h]; simp
          | succ i => have := ih (j + 1) i y (by simpa [enN] using h); omega
      have := h2 cs 0 _ _ h1
      simpa using this
    refine ⟨_, is12, gt_tup (gts_cons (gt_name (by decide)) (gts_cons (gt_name (by decide)) gts_nil)) rfl, ?_⟩
    have tail : ∀ (low a b e : Int) (A : AE), -99 ≤ low → low ≤ 99 → (∀ (bx : Box) a b e, bx.wf → bx.name = L[k]'(by omega) → A.nx [some (.x (.ref ps)), some (.l (cs.map .int)), some (.l (L.map .str)), some (.x (.ref pb)), some (.d (.int k)), some (.d (.int n)), some (.d (.int low))] [(ps, stoL a b e), (pb, lstD Box.d (bs ++ [bx]))]) →
        WS c (tDrop (tBM c.K "list" rAppend (tVar 3) (tCons (tTup (tCons (tOp (rIxL c.K) (tVar 2) (tVar 4)) (tCons (tVar 6) (tCons (tOp rSub2 (tOp rAdd2 (tVar 6) (tVar 5)) (tC (.int 1))) (tCons (tOp rAdd2 (tVar 6) (tCall (SPM c pre_take) [] E0 (tCons (tVar 0) (tCons (tVar 5) tNil)))) tNil))))) tNil)))
          [some (.x (.ref ps)), some (.l (cs.map .int)), some (.l (L.map .str)), some (.x (.ref pb)), some (.d (.int k)), some (.d (.int n)), some (.d (.int low))] [(ps, stoL a b e), (pb, lstD Box.d bs)] A := by
      intro low a b e A l1 l2 r
      refine ws_drop (we_bm (we_var rfl ⟨ListOf.ty (lo_m 1 rfl), ?_⟩))
      walk_at "w"
      refine wo_ixL k rfl lo_l (t := .d (.str (L[k]'(by omega)))) (by simp [hL, hkl]) ?_
      walk_at "w"
      refine we_take n (by omega) (by omega) rfl (fun R' r => we_var rfl r) fun q a b e hq => ?_
      walk_at "w"
      refine wb_appendD 1 (bs.map Box.d) rfl rfl (by simp; omega) ?_
      have := r ⟨L[k]'(by omega), low, low + n - 1, low + q⟩ a b e ⟨by simp only; omega, by simp only; omega, by simp only; omega, by simp only; omega, by simp only; omega⟩ rfl
      simpa [lstD] using this
    have fin : ∀ (low a b e : Int) (bx : Box), bx.wf → bx.name = L[k]'(by omega) → ∃ (x4 x5 x6 : Option Sl) (bs' : List Box) (a' b' e' : Int), ([some (.x (.ref ps)), some (.l (cs.map .int)), some (.l (L.map .str)), some (.x (.ref pb)), some (.d (.int k)), some (.d (.int n)), some (.d (.int low))] : Vt) = [some (.x (.ref ps)), some (.l (cs.map .int)), some (.l (L.map .str)), some (.x (.ref pb)), x4, x5, x6] ∧
        ([(ps, stoL a b e), (pb, lstD Box.d (bs ++ [bx]))] : M) = [(ps, stoL a' b' e'), (pb, lstD Box.d bs')] ∧ bs'.map Box.name = L.take (done ++ [(k, n)]).length ∧ bs'.length = (done ++ [(k, n)]).length ∧ ∀ b, b ∈ bs' → b.wf := by
      intro low a b e bx hw hnm
      refine ⟨_, _, _, bs ++ [bx], a, b, e, rfl, rfl, ?_, by simp; omega, fun b hb => ?_⟩
      · rw [List.map_append, hbn]
        simp only [List.length_append, List.length_cons, List.length_nil, List.map_cons, List.map_nil, hnm]
        rw [List.take_succ]
        have : L[done.length]? = some (L[k]'(by omega)) := by subst hk; exact List.getElem?_eq_getElem (by omega)
        rw [this]
        rfl
      · rcases List.mem_append.mp hb with q | q
        · exact hbw b q
        · simp at q; subst q; exact hw
    refine ws_seq (ws_asg (we_op ?_))
    refine we_take 3 (by omega) (by omega) rfl (fun R' r => we_int r) fun q1 a b e hq1 => ?_
    walk_at "w"
    refine we_take 4 (by omega) (by omega) rfl (fun R' r => we_int r) fun q2 a b e hq2 => ?_
    walk_at "w"
    refine ⟨fun z => ?_, fun z => ?_⟩
    · refine ws_asg (we_op ?_)
      refine we_take (200 - n) (by omega) (by omega) rfl (fun R' r => by walk_at "w"; exact r) fun q3 a b e hq3 => ?_
      refine we_int (wo_sub ?_)
      refine tail ((q3 : Int) - 99) a b e _ (by omega) (by omega) ?_
      intro bx a b e hw hnm
      exact fin _ a b e bx hw hnm
    · refine ws_next ?_
      refine tail ((q1 : Int) - 1) a b e _ (by omega) (by omega) ?_
      intro bx a b e hw hnm
      exact fin _ a b e bx hw hnm
  · rintro Δ μ ⟨x4, x5, x6, bs, a, b, e, rfl, rfl, hbn, hbl, hbw⟩
    rw [enN_len] at hbn hbl
    rw [List.take_of_length_le (by omega)] at hbn
    refine ws_retL 1 ?_
    walk_at "w"
    refine ⟨1, pb, _, _, rfl, rfl, rfl, h bs a b e ⟨by omega, by omega, ?_, ?_, hbw⟩⟩
    · rw [hbn]
      match L, hL, hN with
      | [], _, _ => exact List.nodup_nil
      | [x], _, _ => simp
      | [x, y], _, hN =>
        simp only [List.nodup_cons, List.mem_singleton, List.not_mem_nil, not_false_eq_true, List.nodup_nil, and_true]
        exact cand_ne x (hN 0 x rfl) y (hN 1 y rfl)
      | x :: y :: z :: r, hL, _ => simp at hL; omega
    · rw [hbn]
      intro x hx
      obtain ⟨i, hi⟩ := List.mem_iff_getElem?.mp hx
      have hil := (List.getElem?_eq_some_iff.mp hi).1
      have hc := hN i x hi
      have : i = 0 ∨ i = 1 := by omega
      rcases this with rfl | rfl
      · exact cand_ok0 x hc
      · exact cand_ok1 x hc
end Sw
/-! SwGen4 -/
set_option Elab.async false
set_option linter.all false
set_option maxRecDepth 100000
set_option maxHeartbeats 2000000
namespace Sw
open PySem L2 SwH
local macro_rules | `(tactic| walk_at "w1") => `(tactic| first
  | with_reducible refine ws_seq ?_
  | with_reducible refine ws_asgL ?_
  | with_reducible refine ws_asg ?_
  | with_reducible refine ws_setL ?_
  | with_reducible refine ws_asgT ?_
  | with_reducible refine ws_drop ?_
  | with_reducible refine ws_next ?_
  | with_reducible refine ws_cont ?_
  | with_reducible refine ws_if ?_
  | with_reducible refine ws_for ?_
  | (with_reducible refine we_var rfl ?_)
  | with_reducible refine we_int ?_
  | with_reducible refine we_str ?_
  | with_reducible refine we_bl ?_
  | with_reducible refine we_non ?_
  | with_reducible refine we_eqNil ?_
  | with_reducible refine we_neNil ?_
  | with_reducible refine we_op ?_
  | (with_reducible refine wo_ixT 0 rfl rfl ?_)
  | (with_reducible refine wo_ixT 1 rfl rfl ?_)
  | (with_reducible refine wo_ixT 2 rfl rfl ?_)
  | (with_reducible refine wo_ixT 3 rfl rfl ?_)
  | (with_reducible refine wo_ixT 4 rfl rfl ?_)
  | with_reducible refine wo_add ?_
  | with_reducible refine wo_sub ?_
  | with_reducible refine wo_lt ?_
  | with_reducible refine wo_le ?_
  | with_reducible refine wo_gt ?_
  | with_reducible refine wo_ge ?_
  | with_reducible refine wo_eqI ?_
  | with_reducible refine wo_neI ?_
  | with_reducible refine wo_eqS ?_
  | with_reducible refine wo_neS ?_
  | with_reducible refine wt_test ?_
  | with_reducible refine wt_B ?_
  | with_reducible refine wt_not ?_
  | with_reducible refine wt_and ?_
  | with_reducible refine wt_or ?_
  | with_reducible refine wt_yes ?_
  | with_reducible refine we_andV ?_
  | with_reducible refine we_orV ?_
  | with_reducible refine we_notV ?_
  | with_reducible refine wa_nil ?_
  | with_reducible refine wa_cons ?_
  | with_reducible refine we_bm ?_
  | with_reducible refine we_bm0 ?_
  | with_reducible refine we_tup ?_
  | with_reducible refine we_cb ?_
  | (with_reducible refine ⟨_, rfl, ?_⟩)
  | (refine ⟨by simp, _, rfl, ?_⟩)
  | (refine ⟨ListOf.ty (lo_m 0 rfl), ?_⟩)
  | (refine ⟨ListOf.ty (lo_m 1 rfl), ?_⟩)
  | (refine ⟨ListOf.ty (lo_m 2 rfl), ?_⟩)
  | (refine ⟨ListOf.ty (lo_m 3 rfl), ?_⟩)
  | (refine cs_t (by decide) ?_)
  | (refine cs_f (by decide) ?_))
local macro_rules | `(tactic| walk_at "w") => `(tactic| repeat walk_at "w1")


local macro_rules | `(tactic| walk_at "gs") => `(tactic| first
  | exact gts_nil
  | (refine gts_cons (gt_name (by decide)) ?_; walk_at "gs")
  | (refine gts_cons (gt_tup (by walk_at "gs") rfl) ?_; walk_at "gs"))
local macro_rules | `(tactic| walk_at "g") => `(tactic| first
  | exact gt_name (by decide)
  | exact gt_tup (by walk_at "gs") rfl
  | exact gt_pl (by walk_at "gs"))

variable {c : Ct}
def numE (n : Int) : Ex := if n < 0 then .sub (.num 0) (.num (0 - n)) else .num n
theorem numE_ok (n : Int) (ns : List Str) : (numE n).wf ns ∧ (numE n).dep ≤ 1 := by
  unfold numE
  split
  · exact ⟨⟨True.intro, True.intro⟩, by simp [Ex.dep]⟩
  · exact ⟨True.intro, by simp [Ex.dep]⟩
def pre_number : List Sl → M → RE → Prop := fun ss μ R => ∃ n : Int, ss = [.d (.int n)] ∧ μ = [] ∧ R (.d (numE n).d) []
theorem rd_law_number : ∀ ss μ R, pre_number ss μ R → WS c (t_law_number c.P c.w c.K) (startD N_law_number ss) μ { nx := fun _ μ' => R (.d .none) μ', rt := R } := by
  rintro ss μ R ⟨n, rfl, rfl, h⟩
  unfold t_law_number
  walk_at "w"
  refine ⟨fun z => ?_, fun z => ?_⟩
  · have z' : n < 0 := by simpa using z
    refine ws_ret ?_
    walk_at "w"
    have e : (numE n).d = .tuple [.str "-", .tuple [.str "number", .int 0], .tuple [.str "number", .int (0 - n)]] := by unfold numE; rw [if_pos z']; rfl
    rw [e] at h
    exact h
  · have z' : ¬ n < 0 := by simpa using z
    walk_at "w"
    refine ws_ret ?_
    walk_at "w"
    have e : (numE n).d = .tuple [.str "number", .int n] := by unfold numE; rw [if_neg z']; rfl
    rw [e] at h
    exact h
def pre_drawn : List Sl → M → RE → Prop := fun ss μ R => ∃ (ps : Addr) (a b e : Int) (bs : List Box) (at_ : Nat), BsOk bs ∧ at_ < bs.length ∧ ss = [.x (.ref ps), .l (bs.map Box.d), .d (.int at_)] ∧ μ = [(ps, stoL a b e)] ∧
  ∀ (x : Ex) a' b' e', x.wf (bs.map Box.name) → x.dep ≤ 3 → R (.d x.d) [(ps, stoL a' b' e')]
theorem box_at {bs : List Box} {i : Nat} (h : i < bs.length) : (List.map Sl.d (bs.map Box.d))[i]? = some (.d (bs[i]'h).d) := by simp [h]
theorem rd_law_drawn : ∀ ss μ R, pre_drawn ss μ R → WS c (t_law_drawn c.P c.w c.K (SPM c pre_take) (SPM c pre_number)) (startD N_law_drawn ss) μ { nx := fun _ μ' => R (.d .none) μ', rt := R } := by
  rintro ss μ R ⟨ps, a, b, e, bs, at_, hb, hat, rfl, rfl, h⟩
  unfold t_law_drawn
  have hb1 := hb.b1
  have hb2 := hb.b2
  refine ws_seq (ws_asg (we_op ?_))
  walk_at "w"
  refine wo_ixL at_ rfl lo_l (box_at hat) ?_
  have hbm : bs[at_] ∈ bs := List.getElem_mem hat
  generalize bs[at_] = bx at hbm ⊢
  refine ws_seq (ws_asg (we_op (we_var rfl ?_)))
  refine we_take bs.length (by omega) (by omega) rfl (fun R' r => by walk_at "w"; exact wc_lenL lo_l (by simpa using r)) fun q1 a b e hq1 => ?_
  have hq1' : q1 < bs.length := by omega
  refine wo_ixL q1 rfl lo_l (box_at hq1') ?_
  have hom : bs[q1] ∈ bs := List.getElem_mem hq1'
  generalize bs[q1] = ox at hom ⊢
  have nb : bx.name ∈ bs.map Box.name := List.mem_map.mpr ⟨bx, hbm, rfl⟩
  have no : ox.name ∈ bs.map Box.name := List.mem_map.mpr ⟨ox, hom, rfl⟩
  have wb := hb.bx bx hbm
  have w1 := wb.lo
  have w2 := wb.hi
  have w3 := wb.wd
  have w4 := wb.f1
  have w5 := wb.f2
  refine ws_seq (ws_asg ?_)
  refine we_take 8 (by omega) (by omega) rfl (fun R' r => we_int r) fun k a b e hk => ?_
  refine ws_seq (ws_if ?_)
  walk_at "w"
  refine ⟨fun z => ?_, fun z => ?_⟩
  · refine ws_ret (we_callI [] ?_)
    refine wa_cons (we_op ?_)
    walk_at "w"
    refine we_take (bx.high - bx.low + 1) (by omega) (by omega) rfl (fun R' r => by walk_at "w"; exact r) fun q a b e hq => ?_
    walk_at "w"
    have := numE_ok (bx.low + q) (bs.map Box.name)
    exact ⟨_, rfl, rfl, h _ a b e this.1 (by omega)⟩
  refine ws_next ?_
  refine ws_seq (ws_if ?_)
  walk_at "w"
  refine ⟨fun z => ?_, fun z => ?_⟩
  · refine ws_ret ?_
    walk_at "w"
    refine we_callI [] ?_
    walk_at "w"
    refine ⟨_, rfl, rfl, ?_⟩
    walk_at "w"
    have := numE_ok (bx.low + bx.high) (bs.map Box.name)
    exact h (.sub (numE (bx.low + bx.high)) (.box bx.name)) a b e ⟨this.1, nb⟩ (by simp [Ex.dep]; omega)
  have hk3 : 3 ≤ k := by simp at z; omega
  refine ws_next ?_
  refine ws_seq (ws_if ?_)
  walk_at "w"
  refine ⟨fun z2 => ?_, fun z2 => ?_⟩
  · have : k = 3 ∨ k = 4 := by simp at z2; omega
    refine ws_ret (we_tup (wa_cons (we_op ?_)))
    walk_at "w"
    have hl : (Str.ofString "+-").length ≤ 1000 := by decide +kernel
    rcases this with rfl | rfl
    · refine wo_ixS 0 (by omega) hl (show (Str.ofString "+-").cps.toList[0]? = some 43 by decide +kernel) ?_
      walk_at "w"
      have e1 : (⟨#[43]⟩ : Str) = "+" := by decide +kernel
      rw [e1]
      exact h (.add (.box bx.name) (.num 1)) a b e ⟨nb, True.intro⟩ (by simp [Ex.dep])
    · refine wo_ixS 1 (by omega) hl (show (Str.ofString "+-").cps.toList[1]? = some 45 by decide +kernel) ?_
      walk_at "w"
      have e1 : (⟨#[45]⟩ : Str) = "-" := by decide +kernel
      rw [e1]
      exact h (.sub (.box bx.name) (.num 1)) a b e ⟨nb, True.intro⟩ (by simp [Ex.dep])
  refine ws_next ?_
  refine ws_seq (ws_if ?_)
  walk_at "w"
  refine ⟨fun z3 => ?_, fun z3 => ?_⟩
  · refine ws_ret ?_
    walk_at "w"
    exact h (.box ox.name) a b e no (by simp [Ex.dep])
  refine ws_next ?_
  refine ws_seq (ws_if ?_)
  walk_at "w"
  refine ⟨fun z4 => ?_, fun z4 => ?_⟩
  · refine ws_ret ?_
    walk_at "w"
    refine we_callI [] ?_
    walk_at "w"
    refine ⟨_, rfl, rfl, ?_⟩
    walk_at "w"
    have := numE_ok ox.low (bs.map Box.name)
    exact h (.sub (.add (.box bx.name) (.box ox.name)) (numE ox.low)) a b e ⟨⟨nb, no⟩, this.1⟩ (by simp [Ex.dep]; omega)
  refine ws_next (ws_ret ?_)
  walk_at "w"
  exact h (.mul (.box bx.name) (.box ox.name)) a b e ⟨⟨_, rfl, nb⟩, _, rfl, no⟩ (by simp [Ex.dep])
end Sw
/-! SwGen5 -/
set_option Elab.async false
set_option linter.all false
set_option maxRecDepth 100000
set_option maxHeartbeats 2000000
namespace Sw
open PySem L2 SwH
local macro_rules | `(tactic| walk_at "w1") => `(tactic| first
  | with_reducible refine ws_seq ?_
  | with_reducible refine ws_asgL ?_
  | with_reducible refine ws_asg ?_
  | with_reducible refine ws_setL ?_
  | with_reducible refine ws_asgT ?_
  | with_reducible refine ws_drop ?_
  | with_reducible refine ws_next ?_
  | with_reducible refine ws_cont ?_
  | with_reducible refine ws_if ?_
  | with_reducible refine ws_for ?_
  | (with_reducible refine we_var rfl ?_)
  | with_reducible refine we_int ?_
  | with_reducible refine we_str ?_
  | with_reducible refine we_bl ?_
  | with_reducible refine we_non ?_
  | with_reducible refine we_eqNil ?_
  | with_reducible refine we_neNil ?_
  | with_reducible refine we_op ?_
  | (with_reducible refine wo_ixT 0 rfl rfl ?_)
  | (with_reducible refine wo_ixT 1 rfl rfl ?_)
  | (with_reducible refine wo_ixT 2 rfl rfl ?_)
  | (with_reducible refine wo_ixT 3 rfl rfl ?_)
  | (with_reducible refine wo_ixT 4 rfl rfl ?_)
  | with_reducible refine wo_add ?_
  | with_reducible refine wo_sub ?_
  | with_reducible refine wo_lt ?_
  | with_reducible refine wo_le ?_
  | with_reducible refine wo_gt ?_
  | with_reducible refine wo_ge ?_
  | with_reducible refine wo_eqI ?_
  | with_reducible refine wo_neI ?_
  | with_reducible refine wo_eqS ?_
  | with_reducible refine wo_neS ?_
  | with_reducible refine wt_test ?_
  | with_reducible refine wt_B ?_
  | with_reducible refine wt_not ?_
  | with_reducible refine wt_and ?_
  | with_reducible refine wt_or ?_
  | with_reducible refine wt_yes ?_
  | with_reducible refine we_andV ?_
  | with_reducible refine we_orV ?_
  | with_reducible refine we_notV ?_
  | with_reducible refine wa_nil ?_
  | with_reducible refine wa_cons ?_
  | with_reducible refine we_bm ?_
  | with_reducible refine we_bm0 ?_
  | with_reducible refine we_tup ?_
  | with_reducible refine we_cb ?_
  | (with_reducible refine ⟨_, rfl, ?_⟩)
  | (refine ⟨by simp, _, rfl, ?_⟩)
  | (refine ⟨ListOf.ty (lo_m 0 rfl), ?_⟩)
  | (refine ⟨ListOf.ty (lo_m 1 rfl), ?_⟩)
  | (refine ⟨ListOf.ty (lo_m 2 rfl), ?_⟩)
  | (refine ⟨ListOf.ty (lo_m 3 rfl), ?_⟩)
  | (refine cs_t (by decide) ?_)
  | (refine cs_f (by decide) ?_))
local macro_rules | `(tactic| walk_at "w") => `(tactic| repeat walk_at "w1")


local macro_rules | `(tactic| walk_at "gs") => `(tactic| first
  | exact gts_nil
  | (refine gts_cons (gt_name (by decide)) ?_; walk_at "gs")
  | (refine gts_cons (gt_tup (by walk_at "gs") rfl) ?_; walk_at "gs"))
local macro_rules | `(tactic| walk_at "g") => `(tactic| first
  | exact gt_name (by decide)
  | exact gt_tup (by walk_at "gs") rfl
  | exact gt_pl (by walk_at "gs"))

variable {c : Ct}
/-- a row of a program of n rows over these boxes -/
def RowOk (bs : List Box) (n : Nat) (r : Row) : Prop := r.wf ⟨bs, List.replicate n .stop⟩
theorem RowOk.to {bs : List Box} {n : Nat} {r : Row} (h : RowOk bs n r) {p : Prog} (h1 : p.boxes = bs) (h2 : p.rows.length = n) : r.wf p := by
  subst h1 h2
  cases r <;> simpa [RowOk, Row.wf, Prog.names] using h
def pre_row : List Sl → M → RE → Prop := fun ss μ R => ∃ (ps : Addr) (a b e : Int) (bs : List Box) (pl : List Nat) (n : Nat), BsOk bs ∧ pl.length ≤ 100 ∧ (∀ k, k ∈ pl → k < n) ∧ ss = [.x (.ref ps), .l (bs.map Box.d), .l (pl.map fun (k : Nat) => .int k)] ∧ μ = [(ps, stoL a b e)] ∧
  ∀ (r : Row) a' b' e', RowOk bs n r → R (.d r.d) [(ps, stoL a' b' e')]
theorem rd_law_row : ∀ ss μ R, pre_row ss μ R → WS c (t_law_row c.P c.w c.K (SPM c pre_take) (SPM c pre_number) (SPM c pre_drawn)) (startD N_law_row ss) μ { nx := fun _ μ' => R (.d .none) μ', rt := R } := by
  rintro ss μ R ⟨ps, a, b, e, bs, pl, n, hb, hpl, hpn, rfl, rfl, h⟩
  unfold t_law_row
  have hb1 := hb.b1
  have hb2 := hb.b2
  have lenb : ∀ (Δ : Vt) (μ : M) (R' : RE), Δ[1]? = some (some (.l (bs.map Box.d))) → R' (.d (.int bs.length)) μ → WE c (tCB (rLen2 c.K) (tCons (tVar 1) tNil)) Δ μ R' := fun Δ μ R' h1 r =>
    we_cb (wa_cons (we_var h1 (wa_nil (wc_lenL lo_l (by simpa using r)))))
  refine ws_seq (ws_asg ?_)
  refine we_take 10 (by omega) (by omega) rfl (fun R' r => we_int r) fun k a b e hk => ?_
  refine ws_seq (ws_asg ?_)
  refine we_take bs.length (by omega) (by omega) rfl (fun R' r => lenb _ _ _ rfl r) fun at_ a b e hat => ?_
  have hat' : at_ < bs.length := by omega
  refine ws_seq (ws_if ?_)
  walk_at "w"
  refine ⟨fun z => ?_, fun z => ?_⟩
  · refine ws_ret ?_
    walk_at "w"
    exact h (.ask at_) a b e hat'
  refine ws_next ?_
  have put : ∀ (Δ : Vt) (a b e : Int) (A : AE), A.rt = R → Δ[0]? = some (some (.x (.ref ps))) → Δ[1]? = some (some (.l (bs.map Box.d))) → Δ[4]? = some (some (.d (.int at_))) →
      WS c (tRet (tTup (tCons (tC (.str "put")) (tCons (tVar 4) (tCons (tCall (SPM c pre_drawn) [] E0 (tCons (tVar 0) (tCons (tVar 1) (tCons (tVar 4) tNil)))) tNil))))) Δ [(ps, stoL a b e)] A := by
    intro Δ a b e A hA h0 h1 h4
    refine ws_ret (we_tup (wa_cons (we_str (wa_cons (we_var h4 (wa_cons (we_callI [0] (wa_cons (we_var h0 (wa_cons (we_var h1 (wa_cons (we_var h4 (wa_nil ?_))))))))))))))
    refine ⟨_, rfl, ps, a, b, e, bs, at_, hb, hat', rfl, rfl, fun x a b e hx hd => ?_⟩
    refine wa_nil ⟨by simp, _, rfl, ?_⟩
    rw [hA]
    exact h (.put at_ x) a b e ⟨hat', hx, hd⟩
  refine ws_seq (ws_if ?_)
  walk_at "w"
  refine ⟨fun z2 => cs_t rfl (put _ a b e _ rfl rfl rfl rfl), fun z2 => ?_⟩
  walk_at "w"
  refine ⟨_, lo_l, ?_⟩
  refine ⟨_, rfl, ?_⟩
  cases hpe : pl with
  | nil => exact cs_t rfl (put _ a b e _ rfl rfl rfl rfl)
  | cons p0 pr =>
    refine cs_f rfl (ws_next ?_)
    rw [← hpe]
    have hpl1 : 1 ≤ pl.length := by rw [hpe]; simp
    clear hpe
    refine ws_seq (ws_asg (we_op (we_var rfl ?_)))
    refine we_take pl.length (by omega) (by omega) rfl (fun R' r => we_cb (wa_cons (we_var rfl (wa_nil (wc_lenL lo_l (by simpa using r)))))) fun q a b e hq => ?_
    have hq' : q < pl.length := by omega
    refine wo_ixL q rfl lo_l (t := .d (.int (pl[q] : Nat))) (by simp [hq']) ?_
    have hto : pl[q] < n := hpn _ (List.getElem_mem hq')
    generalize pl[q] = to at hto ⊢
    refine ws_seq (ws_if ?_)
    walk_at "w"
    refine ⟨fun z3 => ?_, fun z3 => ?_⟩
    · refine ws_ret ?_
      walk_at "w"
      exact h (.go to) a b e (by simpa [RowOk, Row.wf] using hto)
    refine ws_next ?_
    refine ws_seq (ws_if ?_)
    walk_at "w"
    refine ⟨fun z4 => ?_, fun z4 => ?_⟩
    · refine ws_ret ?_
      walk_at "w"
      exact h .stop a b e True.intro
    refine ws_next ?_
    refine ws_seq (ws_asg (we_op ?_))
    walk_at "w"
    refine wo_ixL at_ rfl lo_l (box_at hat') ?_
    have hbm : bs[at_] ∈ bs := List.getElem_mem hat'
    generalize bs[at_] = bx at hbm ⊢
    have nb : bx.name ∈ bs.map Box.name := List.mem_map.mpr ⟨bx, hbm, rfl⟩
    have wb := hb.bx bx hbm
    have w1 := wb.lo
    have w2 := wb.hi
    have w3 := wb.wd
    have w4 := wb.f1
    have w5 := wb.f2
    refine ws_seq (ws_asg (we_tup (wa_cons (we_str (wa_cons (we_op (we_op (we_var rfl ?_))))))))
    refine we_take bs.length (by omega) (by omega) rfl (fun R' r => lenb _ _ _ rfl r) fun q1 a b e hq1 => ?_
    have hq1' : q1 < bs.length := by omega
    refine wo_ixL q1 rfl lo_l (box_at hq1') ?_
    have hom : bs[q1] ∈ bs := List.getElem_mem hq1'
    generalize bs[q1] = ox at hom ⊢
    have no : ox.name ∈ bs.map Box.name := List.mem_map.mpr ⟨ox, hom, rfl⟩
    refine we_int (wo_ixT 0 rfl rfl (wa_nil ⟨by simp, _, rfl, ?_⟩))
    have last : ∀ (f : Ex) (Δ : Vt) (a b e : Int) (A : AE), A.rt = R → f.wf (bs.map Box.name) → f.dep ≤ 3 → Δ[0]? = some (some (.x (.ref ps))) → Δ[5]? = some (some (.d (.int to))) → Δ[6]? = some (some (.d bx.d)) → Δ[7]? = some (some (.d f.d)) →
        WS c (tRet (tTup (tCons (tC (.str "if")) (tCons (tOp rIxS (tC (.str "<=")) (tCall (SPM c pre_take) [] E0 (tCons (tVar 0) (tCons (tC (.int 2)) tNil)))) (tCons (tTup (tCons (tC (.str "box")) (tCons (tOp (rIxT c.K) (tVar 6) (tC (.int 0))) tNil))) (tCons (tVar 7) (tCons (tVar 5) tNil))))))) Δ [(ps, stoL a b e)] A := by
      intro f Δ a b e A hA hf hfd h0 h5 h6 h7
      refine ws_ret (we_tup (wa_cons (we_str (wa_cons (we_op (we_str ?_))))))
      refine we_take 2 (by omega) (by omega) h0 (fun R' r => we_int r) fun q a b e hq => ?_
      have hl : (Str.ofString "<=").length ≤ 1000 := by decide +kernel
      have rest : ∀ lt : Bool, WA c (tCons (tTup (tCons (tC (.str "box")) (tCons (tOp (rIxT c.K) (tVar 6) (tC (.int 0))) tNil))) (tCons (tVar 7) (tCons (tVar 5) tNil))) Δ [(ps, stoL a b e)] fun ss μ2 => (Sl.d (.str "if") :: Sl.d (.str (sgS lt)) :: ss).length ≤ 10000000 ∧ ∃ ds, allD (Sl.d (.str "if") :: Sl.d (.str (sgS lt)) :: ss) = some ds ∧ A.rt (.d (.tuple ds)) μ2 := by
        intro lt
        refine wa_cons (we_tup (wa_cons (we_str (wa_cons (we_op (we_var h6 (we_int (wo_ixT 0 rfl rfl (wa_nil ⟨by simp, _, rfl, ?_⟩)))))))))
        refine wa_cons (we_var h7 (wa_cons (we_var h5 (wa_nil ⟨by simp, _, rfl, ?_⟩))))
        rw [hA]
        exact h (.iff lt (.box bx.name) f to) a b e ⟨⟨nb, by simp [Ex.dep]⟩, ⟨hf, hfd⟩, by simpa using hto⟩
      have : q = 0 ∨ q = 1 := by omega
      rcases this with rfl | rfl
      · refine wo_ixS 0 (by omega) hl (show (Str.ofString "<=").cps.toList[0]? = some 60 by decide +kernel) ?_
        have e1 : (⟨#[60]⟩ : Str) = sgS true := by decide +kernel
        rw [e1]
        exact rest true
      · refine wo_ixS 1 (by omega) hl (show (Str.ofString "<=").cps.toList[1]? = some 61 by decide +kernel) ?_
        have e1 : (⟨#[61]⟩ : Str) = sgS false := by decide +kernel
        rw [e1]
        exact rest false
    refine ws_seq (ws_if (wt_test (we_op ?_)))
    refine we_take 2 (by omega) (by omega) rfl (fun R' r => we_int r) fun q2 a b e hq2 => ?_
    walk_at "w"
    refine ⟨fun z5 => ?_, fun z5 => ?_⟩
    · refine ws_asg (we_callI [] (wa_cons (we_op ?_)))
      walk_at "w"
      refine we_take (bx.high - bx.low + 1) (by omega) (by omega) rfl (fun R' r => by walk_at "w"; exact r) fun q a b e hq => ?_
      walk_at "w"
      have := numE_ok (bx.low + q) (bs.map Box.name)
      exact ⟨_, rfl, rfl, last (numE (bx.low + q)) _ a b e _ rfl this.1 (by omega) rfl rfl rfl rfl⟩
    · exact ws_next (last (.box ox.name) _ a b e _ rfl no (by simp [Ex.dep]) rfl rfl rfl rfl)
end Sw
/-! SwGen6 -/
set_option Elab.async false
set_option linter.all false
set_option maxRecDepth 100000
set_option maxHeartbeats 2000000
namespace Sw
open PySem L2 SwH
local macro_rules | `(tactic| walk_at "w1") => `(tactic| first
  | with_reducible refine ws_seq ?_
  | with_reducible refine ws_asgL ?_
  | with_reducible refine ws_asg ?_
  | with_reducible refine ws_setL ?_
  | with_reducible refine ws_asgT ?_
  | with_reducible refine ws_drop ?_
  | with_reducible refine ws_next ?_
  | with_reducible refine ws_cont ?_
  | with_reducible refine ws_if ?_
  | with_reducible refine ws_for ?_
  | (with_reducible refine we_var rfl ?_)
  | with_reducible refine we_int ?_
  | with_reducible refine we_str ?_
  | with_reducible refine we_bl ?_
  | with_reducible refine we_non ?_
  | with_reducible refine we_eqNil ?_
  | with_reducible refine we_neNil ?_
  | with_reducible refine we_op ?_
  | (with_reducible refine wo_ixT 0 rfl rfl ?_)
  | (with_reducible refine wo_ixT 1 rfl rfl ?_)
  | (with_reducible refine wo_ixT 2 rfl rfl ?_)
  | (with_reducible refine wo_ixT 3 rfl rfl ?_)
  | (with_reducible refine wo_ixT 4 rfl rfl ?_)
  | with_reducible refine wo_add ?_
  | with_reducible refine wo_sub ?_
  | with_reducible refine wo_lt ?_
  | with_reducible refine wo_le ?_
  | with_reducible refine wo_gt ?_
  | with_reducible refine wo_ge ?_
  | with_reducible refine wo_eqI ?_
  | with_reducible refine wo_neI ?_
  | with_reducible refine wo_eqS ?_
  | with_reducible refine wo_neS ?_
  | with_reducible refine wt_test ?_
  | with_reducible refine wt_B ?_
  | with_reducible refine wt_not ?_
  | with_reducible refine wt_and ?_
  | with_reducible refine wt_or ?_
  | with_reducible refine wt_yes ?_
  | with_reducible refine we_andV ?_
  | with_reducible refine we_orV ?_
  | with_reducible refine we_notV ?_
  | with_reducible refine wa_nil ?_
  | with_reducible refine wa_cons ?_
  | with_reducible refine we_bm ?_
  | with_reducible refine we_bm0 ?_
  | with_reducible refine we_tup ?_
  | with_reducible refine we_cb ?_
  | (with_reducible refine ⟨_, rfl, ?_⟩)
  | (refine ⟨by simp, _, rfl, ?_⟩)
  | (refine ⟨ListOf.ty (lo_m 0 rfl), ?_⟩)
  | (refine ⟨ListOf.ty (lo_m 1 rfl), ?_⟩)
  | (refine ⟨ListOf.ty (lo_m 2 rfl), ?_⟩)
  | (refine ⟨ListOf.ty (lo_m 3 rfl), ?_⟩)
  | (refine cs_t (by decide) ?_)
  | (refine cs_f (by decide) ?_))
local macro_rules | `(tactic| walk_at "w") => `(tactic| repeat walk_at "w1")


local macro_rules | `(tactic| walk_at "gs") => `(tactic| first
  | exact gts_nil
  | (refine gts_cons (gt_name (by decide)) ?_; walk_at "gs")
  | (refine gts_cons (gt_tup (by walk_at "gs") rfl) ?_; walk_at "gs"))
local macro_rules | `(tactic| walk_at "g") => `(tactic| first
  | exact gt_name (by decide)
  | exact gt_tup (by walk_at "gs") rfl
  | exact gt_pl (by walk_at "gs"))

variable {c : Ct}
/-- a number in [0, n) is drawn, the store in the slot i -/
theorem we_takeI {ps : Addr} {Δ : Vt} {g : M} {a b e : Int} {R : RE} {te : TE} (i : Nat) (n : Int) (hn0 : 0 < n) (hn1 : n < 1000000) (h0 : Δ[i]? = some (some (.x (.ref ps))))
    (ht : ∀ R' : RE, R' (.d (.int n)) ((ps, stoL a b e) :: g) → WE c te Δ ((ps, stoL a b e) :: g) R')
    (r : ∀ (q : Nat) a b e, (q : Int) < n → R (.d (.int q)) ((ps, stoL a b e) :: g)) : WE c (tCall (SPM c pre_take) [] E0 (tCons (tVar i) (tCons te tNil))) Δ ((ps, stoL a b e) :: g) R := by
  refine we_callI [0] (wa_cons (we_var h0 (wa_cons (ht _ (wa_nil ?_)))))
  refine ⟨_, rfl, ps, a, b, e, n, hn0, hn1, rfl, rfl, fun q a' b' e' hq0 hq1 => ?_⟩
  have := r q.toNat a' b' e' (by omega)
  rw [← int_nat hq0] at this
  exact this
abbrev natD (k : Nat) : D := .int k
def pre_rows : List Sl → M → RE → Prop := fun ss μ R => ∃ (ps : Addr) (a b e : Int) (bs : List Box) (many marks : Nat), BsOk bs ∧ many ≤ 9 ∧ marks ≤ 2 ∧ ss = [.x (.ref ps), .l (bs.map Box.d), .d (.int many), .d (.int marks)] ∧ μ = [(ps, stoL a b e)] ∧
  ∀ (rs : List Row) a' b' e', rs.length = many → (∀ r, r ∈ rs → RowOk bs many r) → R (.l (rs.map Row.d)) [(ps, stoL a' b' e')]
theorem inV_nat {k : Nat} {pl : List Nat} : inV (.int k) (pl.map fun (j : Nat) => V.int j) = decide (k ∈ pl) := by
  rw [Bool.eq_iff_iff]
  simp only [inV, List.any_map, List.any_eq_true, Function.comp_def, eqV, decide_eq_true_eq]
  constructor
  · rintro ⟨j, h1, h2⟩
    have : (j : Int) = (k : Int) := by simpa using h2
    have : j = k := by omega
    exact this ▸ h1
  · intro h
    exact ⟨k, h, by simp⟩
theorem rd_law_rows : ∀ ss μ R, pre_rows ss μ R → WS c (t_law_rows c.P c.w c.K (SPM c pre_take) (SPM c pre_names) (SPM c pre_row)) (startD N_law_rows ss) μ { nx := fun _ μ' => R (.d .none) μ', rt := R } := by
  rintro ss μ R ⟨ps, a, b, e, bs, many, marks, hb, hmy, hmk, rfl, rfl, h⟩
  unfold t_law_rows
  refine ws_seq (ws_asg (we_callI [0] ?_))
  walk_at "w"
  refine ⟨ps, a, b, e, marks, hmk, rfl, rfl, fun L a b e hL hN => ?_⟩
  refine ws_seq (ws_asg (we_lst (wa_nil ⟨by simp, fun pp => ?_⟩)))
  refine ws_seq (ws_for (wi_rng1 ?_))
  walk_at "w"
  refine ⟨by omega, ?_⟩
  refine for_x (rg 0 many) _ (rgS_rg _ _) (fun done Δ μ => ∃ (x6 : Option Sl) (pl : List Nat) (a b e : Int), Δ = [some (.x (.ref ps)), some (.l (bs.map Box.d)), some (.d (.int many)), some (.d (.int marks)), some (.l (L.map .str)), some (.x (.ref pp)), x6, none] ∧ μ = [(ps, stoL a b e), (pp, lstD natD pl)] ∧ pl.length ≤ marks ∧ (∀ k, k ∈ pl → k < many))
    ⟨_, [], a, b, e, rfl, rfl, by simp, by simp⟩ (fun _ _ _ _ => nokeep) ?_ ?_
  · rintro done k rest Δ μ e2 ⟨x6, pl, a, b, e, rfl, rfl, hpl, hpm⟩
    have hk := rg_at e2
    have hkm : done.length < many := by have := congrArg List.length e2; simp [rg_len] at this; omega
    subst hk
    refine ⟨_, is12, gt_name (by decide), ?_⟩
    refine ws_if (wt_and (wt_test (we_op ?_)))
    refine we_take 3 (by omega) (by omega) rfl (fun R' r => we_int r) fun q a b e hq => ?_
    walk_at "w"
    refine ⟨fun z => ?_, fun z => cs_f rfl (ws_next ⟨_, pl, a, b, e, rfl, rfl, hpl, hpm⟩)⟩
    walk_at "w"
    refine wc_lenL (lo_m 1 rfl) ?_
    walk_at "w"
    refine ⟨fun z2 => ?_, fun z2 => ws_next ⟨_, pl, a, b, e, rfl, rfl, hpl, hpm⟩⟩
    have hlt : pl.length < marks := by simpa using z2
    walk_at "w"
    refine wb_appendD 1 (pl.map natD) rfl rfl (by simp; omega) ?_
    refine ⟨_, pl ++ [done.length], a, b, e, rfl, by simp, by simp; omega, fun k hk => ?_⟩
    rcases List.mem_append.mp hk with hk | hk
    · exact hpm k hk
    · simp at hk; omega
  rintro Δ μ ⟨x6, pl, a, b, e, rfl, rfl, hpl, hpm⟩
  refine ws_co (co_list 5 1 rfl rfl rfl) ?_
  refine ws_seq (ws_asg (we_lst (wa_nil ⟨by simp, fun pr => ?_⟩)))
  refine ws_seq (ws_for (wi_rng1 ?_))
  walk_at "w"
  refine ⟨by omega, ?_⟩
  refine for_x (rg 0 many) _ (rgS_rg _ _) (fun done Δ μ => ∃ (x6 : Option Sl) (rs : List Row) (a b e : Int), Δ = [some (.x (.ref ps)), some (.l (bs.map Box.d)), some (.d (.int many)), some (.d (.int marks)), some (.l (L.map .str)), some (.l (pl.map natD)), x6, some (.x (.ref pr))] ∧ μ = [(ps, stoL a b e), (pr, lstD Row.d rs)] ∧ rs.length = done.length ∧ (∀ r, r ∈ rs → RowOk bs many r))
    ⟨_, [], a, b, e, rfl, rfl, rfl, by simp⟩ (fun _ _ _ _ => nokeep) ?_ ?_
  · rintro done k rest Δ μ e2 ⟨x6, rs, a, b, e, rfl, rfl, hrs, hok⟩
    have hk := rg_at e2
    have hkm : done.length < many := by have := congrArg List.length e2; simp [rg_len] at this; omega
    subst hk
    refine ⟨_, is12, gt_name (by decide), ?_⟩
    refine ws_if (wt_test (we_op (we_var rfl (we_var rfl ?_))))
    refine wo_inL (d := .int (done.length : Nat)) (xs := pl.map fun (j : Nat) => V.int j) rfl lo_l (by simp [fV]) ?_
    rw [inV_nat]
    refine ⟨_, rfl, fun z => ?_, fun z => ?_⟩
    · have hin : done.length ∈ pl := by simpa using z
      obtain ⟨j, hj1, hj2⟩ : ∃ j, pl[j]? = some done.length ∧ ∀ m, m < j → pl[m]? ≠ some done.length := by
        have hl : pl.findIdx (fun x => decide (x = done.length)) < pl.length := List.findIdx_lt_length_of_exists ⟨_, hin, by simp⟩
        refine ⟨pl.findIdx (fun x => decide (x = done.length)), ?_, fun m hm hz => ?_⟩
        · have := List.findIdx_getElem (w := hl)
          rw [List.getElem?_eq_getElem hl]
          simpa using this
        · have := List.not_of_lt_findIdx hm
          obtain ⟨hl', he⟩ := List.getElem?_eq_some_iff.mp hz
          simp [he] at this
      have hjl : j < pl.length := (List.getElem?_eq_some_iff.mp hj1).1
      have hjL : j < L.length := by omega
      refine ws_drop (we_bm (we_var rfl ⟨ListOf.ty (lo_m 1 rfl), wa_cons (we_tup (wa_cons (we_str (wa_cons (we_op (we_var rfl (we_bm (we_var rfl ⟨ListOf.ty lo_l, wa_cons (we_var rfl (wa_nil ?_))⟩))))))))⟩))
      refine wb_index (xs := pl.map fun (j : Nat) => V.int j) (j := j) lo_l (by simp [fV]) rfl ⟨.int done.length, by simp [hj1], by simp [eqV], ?_⟩ ?_
      · intro m z' hm hz
        simp only [List.getElem?_map, Option.map_eq_some_iff] at hz
        obtain ⟨y, hy, rfl⟩ := hz
        have := hj2 m hm
        simp [eqV]
        intro e
        apply this
        rw [hy]
        exact congrArg some (by omega)
      refine wo_ixL j rfl lo_l (t := .d (.str L[j])) (by simp [hjL]) ?_
      have hc := hN j L[j] (List.getElem?_eq_getElem hjL)
      have hst : PyData.strOk L[j] = true := by
        have : j = 0 ∨ j = 1 := by omega
        rcases this with rfl | rfl
        · exact cand_ok0 _ hc
        · exact cand_ok1 _ hc
      generalize L[j] = nm at hst ⊢
      refine wa_nil ⟨by simp, _, rfl, ?_⟩
      refine wa_nil ?_
      refine wb_appendD 1 (rs.map Row.d) rfl rfl (by simp; omega) ?_
      refine ⟨_, rs ++ [.mark nm], a, b, e, rfl, by simp, by simp; omega, fun r hr => ?_⟩
      rcases List.mem_append.mp hr with hr | hr
      · exact hok r hr
      · simp at hr; subst hr; exact hst
    · refine ws_drop (we_bm (we_var rfl ⟨ListOf.ty (lo_m 1 rfl), wa_cons (we_callI [0] (wa_cons (we_var rfl (wa_cons (we_var rfl (wa_cons (we_var rfl (wa_nil ?_))))))))⟩))
      refine ⟨_, rfl, ps, a, b, e, bs, pl, many, hb, by omega, hpm, rfl, rfl, fun r a b e hr => ?_⟩
      refine wa_nil ?_
      refine wb_appendD 1 (rs.map Row.d) rfl rfl (by simp; omega) ?_
      refine ⟨_, rs ++ [r], a, b, e, rfl, by simp, by simp; omega, fun r' hr' => ?_⟩
      rcases List.mem_append.mp hr' with hr' | hr'
      · exact hok r' hr'
      · simp at hr'; subst hr'; exact hr
  · rintro Δ μ ⟨x6, rs, a, b, e, rfl, rfl, hrs, hok⟩
    refine ws_retL 1 ?_
    walk_at "w"
    exact ⟨1, pr, _, _, rfl, rfl, rfl, h rs a b e (by rw [hrs, rg_len]; omega) hok⟩
def pre_program : List Sl → M → RE → Prop := fun ss μ R => ∃ sc : List Int, ss = [.d (nL sc)] ∧ μ = [] ∧ ∀ p : Prog, WFp p → BsOk p.boxes → R (.d p.d) []
def sizes : List (List Int) := [[2], [3], [4], [2, 2], [3, 2], [2, 3], [8], [3, 3]]
theorem sizes_ok : ∀ cs, cs ∈ sizes → 1 ≤ cs.length ∧ cs.length ≤ 2 ∧ ∀ x, x ∈ cs → 2 ≤ x ∧ x ≤ 8 := by decide +kernel
theorem rd_law_program : ∀ ss μ R, pre_program ss μ R → WS c (t_law_program c.P c.w c.K (SPM c pre_cell) (SPM c pre_store) (SPM c pre_take) (SPM c pre_boxes) (SPM c pre_rows)) (startD N_law_program ss) μ { nx := fun _ μ' => R (.d .none) μ', rt := R } := by
  rintro ss μ R ⟨sc, rfl, rfl, h⟩
  unfold t_law_program
  refine ws_seq (ws_asg (we_call0 (wa_cons (we_call0 (wa_cons (we_var rfl (wa_cons (we_int (wa_nil ?_)))))))))
  refine ⟨sc, 0, by omega, rfl, rfl, fun i => wa_nil ⟨i, rfl, rfl, fun ps a b e => ?_⟩⟩
  refine ws_seq (ws_asg (we_lst ?_))
  repeat (first | walk_at "w1" | with_reducible refine we_lstL ?_)
  refine ⟨by simp, fun pq => ?_⟩
  refine ws_seq (ws_asg (we_callI [0] (wa_cons (we_var rfl (wa_cons (we_op (we_var rfl ?_)))))))
  refine we_takeI 1 8 (by omega) (by omega) rfl (fun R' r => we_int r) fun q a b e hq => ?_
  have hql : q < sizes.length := by have : sizes.length = 8 := rfl; omega
  refine wo_ixL (ss := sizes.map fun cs => .l (cs.map .int)) q rfl (lo_m 1 rfl) (t := .l (sizes[q].map .int)) (by simp [hql]) ?_
  have hcs := sizes_ok _ (List.getElem_mem hql)
  generalize sizes[q] = cs at hcs ⊢
  refine wa_nil ⟨_, rfl, ps, a, b, e, cs, hcs.1, hcs.2.1, hcs.2.2, rfl, rfl, fun bs a b e hb => ?_⟩
  refine ws_seq (ws_asg (we_call0 (wa_cons (we_call0 (wa_cons (we_var rfl (wa_cons (we_int (wa_nil ?_)))))))))
  refine ⟨sc, 1, by omega, rfl, rfl, fun i => wa_nil ⟨i, rfl, rfl, fun ps2 a2 b2 e2 => ?_⟩⟩
  refine ws_seq (ws_asg (we_op (we_int ?_)))
  refine we_takeI 1 8 (by omega) (by omega) rfl (fun R' r => we_int r) fun k a2 b2 e2 hk => ?_
  refine wo_add ?_
  refine ws_retK 0 (we_tup (wa_cons (we_var rfl (wa_cons (we_callI [0] (wa_cons (we_var rfl (wa_cons (we_var rfl (wa_cons (we_var rfl (wa_cons (we_op (we_int ?_))))))))))))))
  refine we_takeI 1 2 (by omega) (by omega) rfl (fun R' r => we_int r) fun j a2 b2 e2 hj => ?_
  refine wo_add ?_
  have e3 : (2 : Int) + (k : Int) = ((2 + k : Nat) : Int) := by omega
  have e4 : (1 : Int) + (j : Int) = ((1 + j : Nat) : Int) := by omega
  rw [e3, e4]
  refine wa_nil ⟨_, rfl, ps2, a2, b2, e2, bs, 2 + k, 1 + j, hb, by omega, by omega, rfl, rfl, fun rs a2 b2 e2 hrl hrs => ?_⟩
  refine wa_nil ⟨by simp, _, rfl, ?_⟩
  exact h ⟨bs, rs⟩ ⟨hb.b1, hb.b2, hb.nd, hb.st, hb.bx, by show rs.length ≤ 9; omega, fun r hr => (hrs r hr).to rfl hrl⟩ hb
end Sw
/-! SwGen7 -/
set_option Elab.async false
set_option linter.all false
set_option maxRecDepth 100000
set_option maxHeartbeats 2000000
namespace Sw
open PySem L2 SwH
local macro_rules | `(tactic| walk_at "w1") => `(tactic| first
  | with_reducible refine ws_seq ?_
  | with_reducible refine ws_asgL ?_
  | with_reducible refine ws_asg ?_
  | with_reducible refine ws_setL ?_
  | with_reducible refine ws_asgT ?_
  | with_reducible refine ws_drop ?_
  | with_reducible refine ws_next ?_
  | with_reducible refine ws_cont ?_
  | with_reducible refine ws_if ?_
  | with_reducible refine ws_for ?_
  | (with_reducible refine we_var rfl ?_)
  | with_reducible refine we_int ?_
  | with_reducible refine we_str ?_
  | with_reducible refine we_bl ?_
  | with_reducible refine we_non ?_
  | with_reducible refine we_eqNil ?_
  | with_reducible refine we_neNil ?_
  | with_reducible refine we_op ?_
  | (with_reducible refine wo_ixT 0 rfl rfl ?_)
  | (with_reducible refine wo_ixT 1 rfl rfl ?_)
  | (with_reducible refine wo_ixT 2 rfl rfl ?_)
  | (with_reducible refine wo_ixT 3 rfl rfl ?_)
  | (with_reducible refine wo_ixT 4 rfl rfl ?_)
  | with_reducible refine wo_add ?_
  | with_reducible refine wo_sub ?_
  | with_reducible refine wo_lt ?_
  | with_reducible refine wo_le ?_
  | with_reducible refine wo_gt ?_
  | with_reducible refine wo_ge ?_
  | with_reducible refine wo_eqI ?_
  | with_reducible refine wo_neI ?_
  | with_reducible refine wo_eqS ?_
  | with_reducible refine wo_neS ?_
  | with_reducible refine wt_test ?_
  | with_reducible refine wt_B ?_
  | with_reducible refine wt_not ?_
  | with_reducible refine wt_and ?_
  | with_reducible refine wt_or ?_
  | with_reducible refine wt_yes ?_
  | with_reducible refine we_andV ?_
  | with_reducible refine we_orV ?_
  | with_reducible refine we_notV ?_
  | with_reducible refine wa_nil ?_
  | with_reducible refine wa_cons ?_
  | with_reducible refine we_bm ?_
  | with_reducible refine we_bm0 ?_
  | with_reducible refine we_tup ?_
  | with_reducible refine we_cb ?_
  | (with_reducible refine ⟨_, rfl, ?_⟩)
  | (refine ⟨by simp, _, rfl, ?_⟩)
  | (refine ⟨ListOf.ty (lo_m 0 rfl), ?_⟩)
  | (refine ⟨ListOf.ty (lo_m 1 rfl), ?_⟩)
  | (refine ⟨ListOf.ty (lo_m 2 rfl), ?_⟩)
  | (refine ⟨ListOf.ty (lo_m 3 rfl), ?_⟩)
  | (refine cs_t (by decide) ?_)
  | (refine cs_f (by decide) ?_))
local macro_rules | `(tactic| walk_at "w") => `(tactic| repeat walk_at "w1")


local macro_rules | `(tactic| walk_at "gs") => `(tactic| first
  | exact gts_nil
  | (refine gts_cons (gt_name (by decide)) ?_; walk_at "gs")
  | (refine gts_cons (gt_tup (by walk_at "gs") rfl) ?_; walk_at "gs"))
local macro_rules | `(tactic| walk_at "g") => `(tactic| first
  | exact gt_name (by decide)
  | exact gt_tup (by walk_at "gs") rfl
  | exact gt_pl (by walk_at "gs"))

/-! ### what is within a thing stands still first -/
section
variable {c : Ct} {Δ : Vt} {μ : M} {B H : Hp} {p q : Addr} {o o1 : MO} {s s' : Sl} {ss : List Sl} {vs : List V} {ds : List D}
theorem upd_self {u : HO} (h : H p = some u) : upd H p u = H := by
  funext a
  by_cases e : a = p
  · subst e; rw [upd_same, h]
  · rw [upd_ne e]
theorem Mu.redesc {i : Nat} (h : Mu c B H μ) (bh : Same B H) (hi : μ[i]? = some (p, o1)) (hr : Real c B H p o) : GM μ B H (μ.set i (p, o)) B H ∧ Mu c B H (μ.set i (p, o)) := by
  obtain ⟨u, hu⟩ := Option.ne_none_iff_exists'.mp hr.nn
  have e := upd_self hu
  have := GM.chg (u := u) (o := o) bh h hi (by rw [e]; exact hr)
  rw [e] at this
  exact this
theorem Slots.reset {k : Nat} (h : Slots c B vs ss) (hk : ss[k]? = some s) (f : ∀ v, Slot c B v s → Slot c B v s') : Slots c B vs (ss.set k s') := by
  induction h generalizing k with
  | nil => simp at hk
  | cons h1 h2 ih =>
    cases k with
    | zero => simp at hk; subst hk; exact .cons (f _ h1) h2
    | succ k => exact .cons h1 (ih (by simpa using hk))
theorem KVs.reset {κ : Type} {ws : List (κ × V)} {kvs : List (κ × Sl)} {k : Nat} {m : κ} (h : KVs c B ws kvs) (hk : kvs[k]? = some (m, s)) (f : ∀ v, Slot c B v s → Slot c B v s') : KVs c B ws (kvs.set k (m, s')) := by
  induction h generalizing k with
  | nil => simp at hk
  | cons h1 h2 ih =>
    cases k with
    | zero => simp at hk; obtain ⟨rfl, rfl⟩ := hk; exact .cons (f _ h1) h2
    | succ k => exact .cons h1 (ih (by simpa using hk))
theorem co_inL (i j k : Nat) (hj : μ[j]? = some (p, .lst (ds.map .d))) (hi : (μ.eraseIdx j)[i]? = some (q, .lst ss)) (hk : ss[k]? = some (.x (.ref p))) : Co c Δ μ Δ ((μ.eraseIdx j).set i (q, .lst (ss.set k (.d (.list ds))))) := fun B σ H bh e m => by
  obtain ⟨vs, h1, h2⟩ := m.re p _ (List.mem_of_getElem? hj)
  have f := GM.freeze (μ' := μ.eraseIdx j) bh m (perm_erase hj) h1
  obtain ⟨ws, k1, k2⟩ := f.2.re q _ (List.mem_of_getElem? hi)
  have hl : ∀ v, Slot c (upd B p (.lst vs)) v (.x (.ref p)) → Slot c (upd B p (.lst vs)) v (.d (.list ds)) := fun v hv => LiveL.dp ⟨p, vs, hv, upd_same, (Slots.all h2).up f.1.bb⟩
  have r := f.2.redesc f.1.bh hi (o := .lst (ss.set k (.d (.list ds)))) ⟨ws, k1, k2.reset hk hl⟩
  exact ⟨_, f.1.trans r.1, e.up f.1.bb, r.2⟩
theorem co_inK {kvs : List (Str × Sl)} {m : Str} (i j k : Nat) (hj : μ[j]? = some (p, .lst (ds.map .d))) (hi : (μ.eraseIdx j)[i]? = some (q, .dk kvs)) (hk : kvs[k]? = some (m, .x (.ref p))) : Co c Δ μ Δ ((μ.eraseIdx j).set i (q, .dk (kvs.set k (m, .d (.list ds))))) := fun B σ H bh e mm => by
  obtain ⟨vs, h1, h2⟩ := mm.re p _ (List.mem_of_getElem? hj)
  have f := GM.freeze (μ' := μ.eraseIdx j) bh mm (perm_erase hj) h1
  obtain ⟨ws, k1, k2⟩ := f.2.re q _ (List.mem_of_getElem? hi)
  have hl : ∀ v, Slot c (upd B p (.lst vs)) v (.x (.ref p)) → Slot c (upd B p (.lst vs)) v (.d (.list ds)) := fun v hv => LiveL.dp ⟨p, vs, hv, upd_same, (Slots.all h2).up f.1.bb⟩
  have r := f.2.redesc f.1.bh hi (o := .dk (kvs.set k (m, .d (.list ds)))) ⟨ws, k1, k2.reset hk hl⟩
  exact ⟨_, f.1.trans r.1, e.up f.1.bb, r.2⟩
abbrev inO (x : Addr × List Int) : Addr × MO := (x.1, lstD PyData.int x.2)
abbrev inR (x : Addr × List Int) : Sl := .x (.ref x.1)
theorem co_inner {pr : Addr} : ∀ (xs : List (Addr × List Int)) (ds : List D), Co c Δ (xs.map inO ++ [(pr, .lst (ds.map .d ++ xs.map inR))]) Δ [(pr, .lst ((ds ++ xs.map fun x => nL x.2).map .d))]
  | [], ds => by simpa using co_perm (c := c) (Δ := Δ) (μ := [(pr, MO.lst (ds.map .d))]) (μ' := [(pr, MO.lst (ds.map .d))]) (ν := []) (by simp)
  | x :: xs, ds => co_trans (co_inL (q := pr) (ss := ds.map .d ++ (x :: xs).map inR) (p := x.1) (ds := x.2.map PyData.int) xs.length 0 ds.length rfl (by simp) (by simp)) (by
      have := co_inner (pr := pr) xs (ds ++ [nL x.2])
      simpa [List.set_append] using this)
end
variable {c : Ct}
def pre_runs : List Sl → M → RE → Prop := fun ss μ R => ∃ (sc : List Int) (bs : List Box), sc.length ≤ 63 ∧ BsOk bs ∧ ss = [.d (nL sc), .d (.list (bs.map Box.d))] ∧ μ = [] ∧ ∀ runs : List (List Int), runs.length ≤ 4 → (∀ ns, ns ∈ runs → ns.length ≤ 60) → R (.l (runs.map nL)) []
theorem rd_law_runs : ∀ ss μ R, pre_runs ss μ R → WS c (t_law_runs c.P c.w c.K (SPM c pre_cell) (SPM c pre_store) (SPM c pre_take)) (startD N_law_runs ss) μ { nx := fun _ μ' => R (.d .none) μ', rt := R } := by
  rintro ss μ R ⟨sc, bs, hsc, hb, rfl, rfl, h⟩
  unfold t_law_runs
  have hb1 := hb.b1
  have hb2 := hb.b2
  refine ws_seq (ws_asg (we_call0 (wa_cons (we_call0 (wa_cons (we_var rfl (wa_cons (we_int (wa_nil ?_)))))))))
  refine ⟨sc, 2, by omega, rfl, rfl, fun i => wa_nil ⟨i, rfl, rfl, fun ps a b e => ?_⟩⟩
  refine ws_seq (ws_asg (we_lc (wi_rng1 (wa_cons ?_))))
  refine we_takeI 2 5 (by omega) (by omega) rfl (fun R' r => we_int r) fun q a b e hq => ?_
  refine wa_nil ⟨_, rfl, by omega, ?_⟩
  refine ⟨fun rest acc μ => ∃ xs : List (Addr × List Int), acc = xs.map inR ∧ μ = (ps, stoL a b e) :: xs.map inO ∧ xs.length + rest.length ≤ 4 ∧ ∀ x, x ∈ xs → x.2 = [], ⟨[], rfl, rfl, by simp [rgS_rg, rg_len]; omega, by simp⟩, fun _ _ _ _ => nokeep, ?_, ?_⟩
  · rintro s rest acc μ ⟨xs, rfl, rfl, hl, hx⟩
    simp only [List.length_cons] at hl
    refine ⟨_, gt_name (by decide), wt_yes (cs_t rfl (we_lst (wa_nil ⟨by simp, fun p => ⟨by simp; omega, xs ++ [(p, [])], by simp, by simp, by simp; omega, fun x hx' => ?_⟩⟩)))⟩
    rcases List.mem_append.mp hx' with hx' | hx'
    · exact hx x hx'
    · simp at hx'; subst hx'; rfl
  rintro acc μ pr ⟨xs, rfl, rfl, hxl, hx⟩
  refine ws_seq (ws_asg ?_)
  walk_at "w"
  refine wc_lenL lo_d ?_
  walk_at "w"
  refine we_takeI 2 12 (by omega) (by omega) rfl (fun R' r => we_int r) fun k a b e hk => ?_
  refine wa_nil (wc_max ?_)
  walk_at "w"
  refine wc_min ?_
  simp only [List.length_map]
  obtain ⟨many, hm0, hm1, hme⟩ : ∃ many : Int, 0 ≤ many ∧ many ≤ 60 ∧ (if (60 : Int) < (if (k : Int) > (sc.length : Int) - 3 then (k : Int) else (sc.length : Int) - 3) then (60 : Int) else (if (k : Int) > (sc.length : Int) - 3 then (k : Int) else (sc.length : Int) - 3)) = many := ⟨_, by split <;> split <;> omega, by split <;> split <;> omega, rfl⟩
  rw [hme]
  clear hme
  refine ws_co (co_perm (μ' := (pr, .lst (xs.map inR)) :: xs.map inO) (ν := [(ps, stoL a b e)]) ?_) ?_
  · have e1 : (ps, stoL a b e) :: xs.map inO ++ [(pr, MO.lst (xs.map inR))] = [(ps, stoL a b e)] ++ (xs.map inO ++ [(pr, MO.lst (xs.map inR))]) := rfl
    refine (List.perm_append_comm (l₁ := [(ps, stoL a b e)]) (l₂ := xs.map inO ++ [(pr, MO.lst (xs.map inR))])).trans ?_
    exact (List.perm_append_comm (l₁ := xs.map inO) (l₂ := [(pr, MO.lst (xs.map inR))])).append_right _
  refine ws_seq (ws_for (wi_rng1 ?_))
  walk_at "w"
  refine ⟨by omega, ?_⟩
  refine for_x (rg 0 many) _ (rgS_rg _ _) (fun done Δ μ => ∃ (x5 x6 x7 x8 : Option Sl) (xs : List (Addr × List Int)), Δ = [some (.d (nL sc)), some (.d (.list (bs.map Box.d))), some (.x (.ref ps)), some (.x (.ref pr)), some (.d (.int many)), x5, x6, x7, x8] ∧ μ = (pr, .lst (xs.map inR)) :: xs.map inO ∧ xs.length ≤ 4 ∧ ∀ x, x ∈ xs → x.2.length ≤ done.length)
    ⟨_, _, _, _, xs, rfl, rfl, by simpa using hxl, fun x hx' => by rw [hx x hx']; simp⟩ (fun _ _ _ _ => nokeep) ?_ ?_
  · clear hx hxl xs
    rintro done k rest Δ μ e2 ⟨x5, x6, x7, x8, xs, rfl, rfl, hxl, hx⟩
    have hk := rg_at e2
    have hkm : done.length < 60 := by have := congrArg List.length e2; simp [rg_len] at this; omega
    subst hk
    refine ⟨_, is12, gt_name (by decide), ?_⟩
    refine ws_seq (ws_asg (we_call0 (wa_cons (we_call0 (wa_cons (we_var rfl (wa_cons (we_op (we_int (we_var rfl (wo_add (wa_nil ?_))))))))))))
    have e3 : (3 : Int) + ((done.length : Nat) : Int) = ((3 + done.length : Nat) : Int) := by omega
    rw [e3]
    refine ⟨sc, 3 + done.length, by omega, rfl, rfl, fun i => wa_nil ⟨i, rfl, rfl, fun po a b e => ?_⟩⟩
    refine ws_seq (ws_asg (we_op (we_var rfl ?_)))
    refine we_takeI 6 bs.length (by omega) (by omega) rfl (fun R' r => we_cb (wa_cons (we_var rfl (wa_nil (wc_lenL lo_d (by simpa using r)))))) fun q a b e hq => ?_
    have hq' : q < bs.length := by omega
    refine wo_ixL q rfl lo_d (box_at hq') ?_
    have hbm : bs[q] ∈ bs := List.getElem_mem hq'
    generalize bs[q] = bx at hbm ⊢
    have wb := hb.bx bx hbm
    have w1 := wb.lo
    have w2 := wb.hi
    have w3 := wb.wd
    have w4 := wb.f1
    have w5 := wb.f2
    refine ws_seq (ws_asg (we_op ?_))
    walk_at "w"
    refine we_takeI 6 (bx.high - bx.low + 1) (by omega) (by omega) rfl (fun R' r => by walk_at "w"; exact r) fun q2 a b e hq2 => ?_
    refine wo_add ?_
    have tail : ∀ (z : Int) (a b e : Int) (A : AE), (∀ xs : List (Addr × List Int), xs.length ≤ 4 → (∀ x, x ∈ xs → x.2.length ≤ done.length + 1) → A.nx [some (.d (nL sc)), some (.d (.list (bs.map Box.d))), some (.x (.ref ps)), some (.x (.ref pr)), some (.d (.int many)), some (.d (.int done.length)), some (.x (.ref po)), some (.d bx.d), some (.d (.int z))] ((pr, .lst (xs.map inR)) :: xs.map inO)) →
        WS c (tIfS (tTest (tOp (rNeNil c.K) (tVar 3) (tLst tNil))) (tDrop (tBM c.K "list" rAppend (tOp (rIxL c.K) (tVar 3) (tOp rMd2 (tVar 5) (tCB (rLen2 c.K) (tCons (tVar 3) tNil)))) (tCons (tVar 8) tNil))) tNext)
          [some (.d (nL sc)), some (.d (.list (bs.map Box.d))), some (.x (.ref ps)), some (.x (.ref pr)), some (.d (.int many)), some (.d (.int done.length)), some (.x (.ref po)), some (.d bx.d), some (.d (.int z))] ((po, stoL a b e) :: (pr, .lst (xs.map inR)) :: xs.map inO) A := by
      intro z a b e A r
      refine ws_co (co_drop 0) ?_
      refine ws_if (wt_test (we_neNil (we_var rfl ⟨_, lo_m 0 rfl, ?_⟩)))
      refine ⟨_, rfl, fun z1 => ?_, fun z1 => ws_next (r xs hxl fun x hx' => by have := hx x hx'; omega)⟩
      have hpos : 0 < xs.length := by
        cases xs with
        | nil => simp at z1
        | cons x r => simp
      refine ws_drop (we_bm (we_op (we_var rfl (we_op (we_var rfl (we_cb (wa_cons (we_var rfl (wa_nil (wc_lenL (lo_m 0 rfl) ?_))))))))))
      simp only [List.length_map]
      refine wo_md (by omega) ?_
      have e4 : ((done.length : Nat) : Int) % (xs.length : Int) = ((done.length % xs.length : Nat) : Int) := by omega
      rw [e4]
      have hj : done.length % xs.length < xs.length := Nat.mod_lt _ hpos
      generalize done.length % xs.length = j at hj
      have hxj : xs[j]? = some xs[j] := List.getElem?_eq_getElem hj
      generalize xs[j] = y at hxj
      have hy := hx y (List.mem_of_getElem? hxj)
      refine wo_ixL j rfl (lo_m 0 rfl) (t := inR y) (by simp [hxj]) ?_
      have hmj : ((pr, MO.lst (xs.map inR)) :: xs.map inO)[j + 1]? = some (y.1, lstD PyData.int y.2) := by simp [hxj]
      refine ⟨ListOf.ty (lo_m (j + 1) hmj), wa_cons (we_var rfl (wa_nil ?_))⟩
      refine wb_appendD (j + 1) (y.2.map PyData.int) hmj rfl (by simp; omega) ?_
      have r2 := r (xs.set j (y.1, y.2 ++ [z])) (by simpa using hxl) (fun x hx' => by
        rcases List.mem_or_eq_of_mem_set hx' with hx' | hx'
        · have := hx x hx'; omega
        · subst hx'; simp; omega)
      have e5 : (xs.set j (y.1, y.2 ++ [z])).map inR = xs.map inR := by
        rw [List.map_set]
        exact set_self (by simp [hxj])
      rw [e5] at r2
      have e6 : (xs.set j (y.1, y.2 ++ [z])).map inO = (xs.map inO).set j (y.1, lstD PyData.int (y.2 ++ [z])) := by rw [List.map_set]
      rw [e6] at r2
      have e7 : y.2.map PyData.int ++ [PyData.int z] = (y.2 ++ [z]).map PyData.int := by simp
      rw [e7]
      exact r2
    have fin : ∀ (z : Int) (xs : List (Addr × List Int)), xs.length ≤ 4 → (∀ x, x ∈ xs → x.2.length ≤ done.length + 1) → ∃ (x5 x6 x7 x8 : Option Sl) (xs' : List (Addr × List Int)), [some (.d (nL sc)), some (.d (.list (bs.map Box.d))), some (.x (.ref ps)), some (.x (.ref pr)), some (.d (.int many)), some (.d (.int done.length)), some (.x (.ref po)), some (.d bx.d), some (.d (.int z))] = [some (.d (nL sc)), some (.d (.list (bs.map Box.d))), some (.x (.ref ps)), some (.x (.ref pr)), some (.d (.int many)), x5, x6, x7, x8] ∧
        ((pr, MO.lst (xs.map inR)) :: xs.map inO) = (pr, .lst (xs'.map inR)) :: xs'.map inO ∧ xs'.length ≤ 4 ∧ ∀ x, x ∈ xs' → x.2.length ≤ (done ++ [((done.length : Nat) : Int)]).length := fun z xs h1 h2 => ⟨_, _, _, _, xs, rfl, rfl, h1, by simpa using h2⟩
    refine ws_seq (ws_if (wt_test (we_op ?_)))
    refine we_takeI 6 9 (by omega) (by omega) rfl (fun R' r => we_int r) fun q3 a b e hq3 => ?_
    walk_at "w"
    refine ⟨fun z => ?_, fun z => ws_next (tail _ a b e _ (fin _))⟩
    refine ws_asg (we_op (we_lstL ?_))
    walk_at "w"
    refine wo_pw ⟨by decide, by decide, by decide⟩ ?_
    walk_at "w"
    refine wo_pw ⟨by decide, by decide, by decide⟩ ?_
    walk_at "w"
    refine we_takeI 6 4 (by omega) (by omega) rfl (fun R' r => we_int r) fun q4 a b e hq4 => ?_
    have : q4 = 0 ∨ q4 = 1 ∨ q4 = 2 ∨ q4 = 3 := by omega
    rcases this with rfl | rfl | rfl | rfl
    · exact wo_ixL 0 rfl lo_l (t := .d (.int _)) rfl (tail _ a b e _ (fin _))
    · exact wo_ixL 1 rfl lo_l (t := .d (.int _)) rfl (tail _ a b e _ (fin _))
    · exact wo_ixL 2 rfl lo_l (t := .d (.int _)) rfl (tail _ a b e _ (fin _))
    · exact wo_ixL 3 rfl lo_l (t := .d (.int _)) rfl (tail _ a b e _ (fin _))
  · clear hx hxl xs
    rintro Δ μ ⟨x5, x6, x7, x8, xs, rfl, rfl, hxl, hx⟩
    refine ws_co (co_perm (μ' := xs.map inO ++ [(pr, .lst (([] : List D).map .d ++ xs.map inR))]) (ν := []) ?_) ?_
    · simpa using (List.perm_append_comm (l₁ := [(pr, MO.lst (xs.map inR))]) (l₂ := xs.map inO))
    refine ws_co (co_inner xs []) ?_
    refine ws_retL 0 (we_var rfl ⟨0, pr, _, _, rfl, rfl, rfl, ?_⟩)
    have := h (xs.map (·.2)) (by simpa using hxl) (fun ns hn => by
      obtain ⟨x, hx', rfl⟩ := List.mem_map.mp hn
      have := hx x hx'
      rw [rg_len] at this
      omega)
    simpa [Function.comp_def] using this
end Sw
/-! SwLaw6 -/
set_option Elab.async false
set_option linter.all false
set_option maxRecDepth 100000
set_option maxHeartbeats 2000000
namespace Sw
open PySem L2 SwH
local macro_rules | `(tactic| walk_at "w1") => `(tactic| first
  | with_reducible refine ws_seq ?_
  | with_reducible refine ws_asgL ?_
  | with_reducible refine ws_asg ?_
  | with_reducible refine ws_setL ?_
  | with_reducible refine ws_asgT ?_
  | with_reducible refine ws_drop ?_
  | with_reducible refine ws_next ?_
  | with_reducible refine ws_cont ?_
  | with_reducible refine ws_if ?_
  | with_reducible refine ws_for ?_
  | (with_reducible refine we_var rfl ?_)
  | with_reducible refine we_int ?_
  | with_reducible refine we_str ?_
  | with_reducible refine we_bl ?_
  | with_reducible refine we_non ?_
  | with_reducible refine we_eqNil ?_
  | with_reducible refine we_neNil ?_
  | with_reducible refine we_op ?_
  | (with_reducible refine wo_ixT 0 rfl rfl ?_)
  | (with_reducible refine wo_ixT 1 rfl rfl ?_)
  | (with_reducible refine wo_ixT 2 rfl rfl ?_)
  | (with_reducible refine wo_ixT 3 rfl rfl ?_)
  | (with_reducible refine wo_ixT 4 rfl rfl ?_)
  | with_reducible refine wo_add ?_
  | with_reducible refine wo_sub ?_
  | with_reducible refine wo_lt ?_
  | with_reducible refine wo_le ?_
  | with_reducible refine wo_gt ?_
  | with_reducible refine wo_ge ?_
  | with_reducible refine wo_eqI ?_
  | with_reducible refine wo_neI ?_
  | with_reducible refine wo_eqS ?_
  | with_reducible refine wo_neS ?_
  | with_reducible refine wt_test ?_
  | with_reducible refine wt_B ?_
  | with_reducible refine wt_not ?_
  | with_reducible refine wt_and ?_
  | with_reducible refine wt_or ?_
  | with_reducible refine wt_yes ?_
  | with_reducible refine we_andV ?_
  | with_reducible refine we_orV ?_
  | with_reducible refine we_notV ?_
  | with_reducible refine wa_nil ?_
  | with_reducible refine wa_cons ?_
  | with_reducible refine we_bm ?_
  | with_reducible refine we_bm0 ?_
  | with_reducible refine we_tup ?_
  | with_reducible refine we_cb ?_
  | (with_reducible refine ⟨_, rfl, ?_⟩)
  | (refine ⟨by simp, _, rfl, ?_⟩)
  | (refine ⟨ListOf.ty (lo_m 0 rfl), ?_⟩)
  | (refine ⟨ListOf.ty (lo_m 1 rfl), ?_⟩)
  | (refine ⟨ListOf.ty (lo_m 2 rfl), ?_⟩)
  | (refine ⟨ListOf.ty (lo_m 3 rfl), ?_⟩)
  | (refine cs_t (by decide) ?_)
  | (refine cs_f (by decide) ?_))
local macro_rules | `(tactic| walk_at "w") => `(tactic| repeat walk_at "w1")


local macro_rules | `(tactic| walk_at "gs") => `(tactic| first
  | exact gts_nil
  | (refine gts_cons (gt_name (by decide)) ?_; walk_at "gs")
  | (refine gts_cons (gt_tup (by walk_at "gs") rfl) ?_; walk_at "gs"))
local macro_rules | `(tactic| walk_at "g") => `(tactic| first
  | exact gt_name (by decide)
  | exact gt_tup (by walk_at "gs") rfl
  | exact gt_pl (by walk_at "gs"))

variable {c : Ct}
/-- a mark, its list's address, the values -/
abbrev Rx := Str × Addr × List (List Int)
abbrev rxO (x : Rx) : Addr × MO := (x.2.1, lstD vD x.2.2)
abbrev rxK (x : Rx) : Str × Sl := (x.1, .x (.ref x.2.1))
abbrev rxD (x : Rx) : Str × Sl := (x.1, .d (.list (x.2.2.map vD)))
theorem co_innerK {Δ : Vt} {pr : Addr} : ∀ (xs : List Rx) (ks : List (Str × Sl)), Co c Δ (xs.map rxO ++ [(pr, .dk (ks ++ xs.map rxK))]) Δ [(pr, .dk (ks ++ xs.map rxD))]
  | [], ks => by simpa using co_perm (c := c) (Δ := Δ) (μ := [(pr, MO.dk ks)]) (μ' := [(pr, MO.dk ks)]) (ν := []) (by simp)
  | x :: xs, ks => co_trans (co_inK (q := pr) (kvs := ks ++ (x :: xs).map rxK) (m := x.1) (p := x.2.1) (ds := x.2.2.map vD) xs.length 0 ks.length rfl (by simp) (by simp)) (by
      have := co_innerK (Δ := Δ) (pr := pr) xs (ks ++ [rxD x])
      simpa [List.set_append] using this)
theorem reach_list {p : Prog} : ∀ (kt : List (NK × D)), (∀ k, k ∈ kt.map (·.1) → ∃ x, Reach p x ∧ k = mvK x) → ∃ L : List MV, kt.map (·.1) = L.map mvK ∧ ∀ x, x ∈ L → Reach p x
  | [], _ => ⟨[], rfl, by simp⟩
  | a :: kt, h => by
    obtain ⟨L, h1, h2⟩ := reach_list kt fun k hk => h k (by simp only [List.map_cons, List.mem_cons]; exact .inr hk)
    obtain ⟨x, h3, h4⟩ := h a.1 (by simp)
    refine ⟨x :: L, by simp [h1, h4], fun y hy => ?_⟩
    rcases List.mem_cons.mp hy with rfl | hy
    · exact h3
    · exact h2 y hy
def pre_law (K : PySem.W.Frag) (C : Addr) : List Sl → M → RE → Prop := fun ss μ R => ∃ sc : List Int, InC K C ∧ sc.length ≤ 63 ∧ ss = [.d (nL sc)] ∧ μ = [] ∧ R (.d (.bool true)) []
structure RxOk (p : Prog) (done : List MV) (xs : List Rx) : Prop where
  nd : (xs.map (·.1)).Nodup
  ms : ∀ x, x ∈ xs → x.1 ∈ marksF p
  iff : ∀ m v, (m, v) ∈ done ↔ ∃ q vs, (m, q, vs) ∈ xs ∧ v ∈ vs
  len : ∀ x, x ∈ xs → x.2.2.length ≤ done.length
  ne : ∀ x, x ∈ xs → x.2.2 ≠ []
theorem RxOk.xl {p : Prog} (W : WFp p) {done : List MV} {xs : List Rx} (h : RxOk p done xs) : xs.length ≤ 9 := by
  have h1 := nodup_len h.nd fun m hm => by
    obtain ⟨x, hx, rfl⟩ := List.mem_map.mp hm
    exact h.ms x hx
  have := marks_len W
  simp only [List.length_map] at h1
  omega
theorem rxK_get {xs : List Rx} (nd : (xs.map (·.1)).Nodup) {x : Rx} (h : x ∈ xs) : getS (xs.map rxK) x.1 = some (.x (.ref x.2.1)) := getS_of_mem (by simpa [Function.comp_def] using nd) (List.mem_map.mpr ⟨x, h, rfl⟩)
theorem rxD_get {xs : List Rx} (nd : (xs.map (·.1)).Nodup) {x : Rx} (h : x ∈ xs) : getS (xs.map rxD) x.1 = some (.d (.list (x.2.2.map vD))) := getS_of_mem (by simpa [Function.comp_def] using nd) (List.mem_map.mpr ⟨x, h, rfl⟩)
theorem nodup_same {α β : Type} {f : α → β} : ∀ {xs : List α}, (xs.map f).Nodup → ∀ {x y : α}, x ∈ xs → y ∈ xs → f x = f y → x = y
  | a :: r, nd, x, y, hx, hy, e => by
    simp only [List.map_cons, List.nodup_cons] at nd
    rcases List.mem_cons.mp hx with h1 | h1
    · rcases List.mem_cons.mp hy with h2 | h2
      · rw [h1, h2]
      · rw [h1] at e; exact absurd (List.mem_map.mpr ⟨y, h2, e.symm⟩) nd.1
    · rcases List.mem_cons.mp hy with h2 | h2
      · rw [h2] at e; exact absurd (List.mem_map.mpr ⟨x, h1, e⟩) nd.1
      · exact nodup_same nd.2 h1 h2 e
theorem rd_law {C : Addr} : ∀ ss μ R, pre_law c.K C ss μ R → WS c (t_law c.P c.w c.K (SPM c pre_sayings) (SPM c pre_runs) (SPM c pre_linputs) (SPM c pre_all) (SPM c pre_program) (SPM c (pre_settles c.K C))) (startD N_law ss) μ { nx := fun _ μ' => R (.d .none) μ', rt := R } := by
  rintro ss μ R ⟨sc, hC, hsc, rfl, rfl, h⟩
  unfold t_law
  refine ws_seq (ws_asg (we_call0 (wa_cons (we_var rfl (wa_nil ⟨sc, rfl, rfl, fun p W hb => ?_⟩)))))
  have hsl := say_len W
  refine ws_seq (ws_asg (we_call0 (wa_cons (we_var rfl (wa_cons (we_op (we_var rfl (we_int (wo_ixT 0 rfl rfl (wa_nil ?_))))))))))
  refine ⟨sc, p.boxes, hsc, hb, rfl, rfl, fun runs hrl hns => ?_⟩
  refine ws_seq (ws_asg (we_call0 (wa_cons (we_var rfl (wa_nil ⟨p, W, rfl, rfl, ?_⟩)))))
  refine ws_seq (ws_asg (we_dnew fun pr => ?_))
  refine ws_seq (ws_for (wi_keysN (we_call0 (wa_cons (we_var rfl (wa_nil ⟨p, W, rfl, rfl, fun kt htk hfull => ?_⟩))))))
  refine ⟨kt, rfl, fun _ => ?_⟩
  obtain ⟨L, hL1, hL2⟩ := reach_list kt htk.ok
  have hLl : L.length ≤ 576 := by
    have h1 := htk.len W
    rw [hL1] at h1
    simpa using h1
  have hss : (kt.map fun kv => Sl.d kv.1.data) = L.map fun x => .d (mvD x) := by
    have h1 : (kt.map fun kv => Sl.d kv.1.data) = (kt.map (·.1)).map fun k => .d k.data := by simp [Function.comp_def]
    rw [h1, hL1]
    simp [Function.comp_def, mvK_data]
  have hLf : ∀ x, Reach p x ↔ x ∈ L := fun x => by
    refine ⟨fun hx => ?_, hL2 x⟩
    have h1 := hfull x hx
    rw [hL1] at h1
    obtain ⟨y, hy, e⟩ := List.mem_map.mp h1
    exact mvK_inj e ▸ hy
  refine for_x L (fun x => .d (mvD x)) hss (fun done Δ μ => ∃ (x5 x6 : Option Sl) (xs : List Rx), Δ = [some (.d (nL sc)), some (.d p.d), some (.l (runs.map nL)), some (.l ((sayF p).map Say.d)), some (.x (.ref pr)), x5, x6, none, none] ∧ μ = (pr, .dk (xs.map rxK)) :: xs.map rxO ∧ RxOk p done xs)
    ⟨_, _, [], rfl, rfl, ⟨by simp, by simp, by simp, by simp, by simp⟩⟩ (fun _ _ _ _ => nokeep) ?_ ?_
  · rintro done ⟨m, v⟩ rest Δ μ e ⟨x5, x6, xs, rfl, rfl, hok⟩
    have hdl : done.length ≤ 576 := by have := congrArg List.length e; simp at this; omega
    have hm : m ∈ marksF p := (reach_ok W (hL2 (m, v) (by rw [e]; simp))).1
    have hxl := hok.xl W
    refine ⟨_, is12, gt_tup (gts_cons (gt_name (by decide)) (gts_cons (gt_name (by decide)) gts_nil)) rfl, ?_⟩
    have tail : ∀ (xs : List Rx) (j : Nat) (q : Addr) (vs : List (List Int)) (A : AE), (xs.map (·.1)).Nodup → xs[j]? = some (m, q, vs) → vs.length ≤ 576 → A.nx [some (.d (nL sc)), some (.d p.d), some (.l (runs.map nL)), some (.l ((sayF p).map Say.d)), some (.x (.ref pr)), some (.d (.str m)), some (.d (vD v)), none, none] ((pr, .dk ((xs.set j (m, q, vs ++ [v])).map rxK)) :: (xs.set j (m, q, vs ++ [v])).map rxO) →
        WS c (tDrop (tBM c.K "list" rAppend (tDGet (tVar 4) (tVar 5)) (tCons (tVar 6) tNil))) [some (.d (nL sc)), some (.d p.d), some (.l (runs.map nL)), some (.l ((sayF p).map Say.d)), some (.x (.ref pr)), some (.d (.str m)), some (.d (vD v)), none, none] ((pr, .dk (xs.map rxK)) :: xs.map rxO) A := by
      intro xs j q vs A nd hj hvl r
      have hmj : ((pr, MO.dk (xs.map rxK)) :: xs.map rxO)[j + 1]? = some (q, lstD vD vs) := by simp [hj]
      refine ws_drop (we_bm (we_dget (we_var rfl (we_var rfl ⟨_, m, _, dk_m 0 rfl, rfl, rxK_get nd (List.mem_of_getElem? hj), ListOf.ty (lo_m (j + 1) hmj), wa_cons (we_var rfl (wa_nil ?_))⟩))))
      refine wb_appendD (j + 1) (vs.map vD) hmj rfl (by simp; omega) ?_
      have e5 : (xs.set j (m, q, vs ++ [v])).map rxK = xs.map rxK := by
        rw [List.map_set]
        exact set_self (by simp [hj])
      have e6 : (xs.set j (m, q, vs ++ [v])).map rxO = (xs.map rxO).set j (q, lstD vD (vs ++ [v])) := by rw [List.map_set]
      rw [e5, e6] at r
      have e7 : vs.map vD ++ [vD v] = (vs ++ [v]).map vD := by simp
      rw [e7]
      exact r
    refine ws_seq (ws_if (wt_B (we_dnotin (we_var rfl (we_var rfl ⟨_, m, dk_m 0 rfl, rfl, _, rfl, ?_⟩)))))
    by_cases hin : m ∈ xs.map (·.1)
    · obtain ⟨⟨m', q, vs⟩, hx, e'⟩ := List.mem_map.mp hin
      simp only at e'
      subst e'
      rw [rxK_get hok.nd hx]
      refine cs_f rfl (ws_next ?_)
      obtain ⟨j, hj⟩ := List.mem_iff_getElem?.mp hx
      have hvl := hok.len _ hx
      simp only at hvl
      refine tail xs j q vs _ hok.nd hj (by omega) ⟨_, _, _, rfl, rfl, ⟨?_, ?_, ?_, ?_, ?_⟩⟩
      · rw [List.map_set]
        rw [show (xs.map (·.1)).set j m' = xs.map (·.1) from set_self (by simp [hj])]
        exact hok.nd
      · intro x hx'
        rcases List.mem_or_eq_of_mem_set hx' with hx' | hx'
        · exact hok.ms x hx'
        · subst hx'; exact hm
      · intro m2 v2
        rw [List.mem_append, hok.iff]
        have hjl := (List.getElem?_eq_some_iff.mp hj).1
        constructor
        · rintro (⟨q2, vs2, h1, h2⟩ | h1)
          · by_cases z : m2 = m'
            · subst z
              have := nodup_same hok.nd h1 hx rfl
              cases this
              exact ⟨q, vs ++ [v], List.mem_iff_getElem?.mpr ⟨j, by simp [hjl]⟩, by simp [h2]⟩
            · obtain ⟨i, hi⟩ := List.mem_iff_getElem?.mp h1
              refine ⟨q2, vs2, List.mem_iff_getElem?.mpr ⟨i, ?_⟩, h2⟩
              rw [List.getElem?_set, if_neg]
              · exact hi
              · intro z2; subst z2; rw [hj] at hi; cases hi; exact z rfl
          · simp at h1
            obtain ⟨rfl, rfl⟩ := h1
            exact ⟨q, vs ++ [v2], List.mem_iff_getElem?.mpr ⟨j, by simp [hjl]⟩, by simp⟩
        · rintro ⟨q2, vs2, h1, h2⟩
          rcases List.mem_or_eq_of_mem_set h1 with h1 | h1
          · exact .inl ⟨q2, vs2, h1, h2⟩
          · cases h1
            rcases List.mem_append.mp h2 with h2 | h2
            · exact .inl ⟨_, _, hx, h2⟩
            · simp at h2; subst h2; exact .inr (by simp)
      · intro x hx'
        rw [List.length_append]
        rcases List.mem_or_eq_of_mem_set hx' with hx' | hx'
        · have := hok.len x hx'; omega
        · subst hx'; simp; omega
      · intro x hx'
        rcases List.mem_or_eq_of_mem_set hx' with hx' | hx'
        · exact hok.ne x hx'
        · subst hx'; simp
    · have hg : getS (xs.map rxK) m = none := getS_none_iff.mpr (by simpa [Function.comp_def] using hin)
      rw [hg]
      refine cs_t rfl (ws_dput (we_lst (wa_nil ⟨by simp, fun q => we_var rfl (we_var rfl ⟨0, pr, _, m, rfl, rfl, rfl, by simp; omega, ?_⟩)⟩)))
      rw [putS_new (getS_none_iff.mp hg)]
      have e7 : ((pr, MO.dk (xs.map rxK)) :: xs.map rxO ++ [(q, MO.lst [])]).set 0 (pr, .dk (xs.map rxK ++ [(m, .x (.ref q))])) = (pr, .dk ((xs ++ [(m, q, [])]).map rxK)) :: (xs ++ [(m, q, [])]).map rxO := by simp
      refine (?_ : WS c _ _ _ _)
      show WS c _ _ (((pr, MO.dk (xs.map rxK)) :: xs.map rxO ++ [(q, MO.lst [])]).set 0 (pr, .dk (xs.map rxK ++ [(m, .x (.ref q))]))) _
      rw [e7]
      have hne : ∀ q2 vs2, (m, q2, vs2) ∉ xs := fun q2 vs2 z => hin (List.mem_map.mpr ⟨_, z, rfl⟩)
      refine tail (xs ++ [(m, q, [])]) xs.length q [] _ ?_ (by simp) (by simp) ⟨_, _, xs ++ [(m, q, [v])], rfl, by simp, ⟨?_, ?_, ?_, ?_, ?_⟩⟩
      · simp only [List.map_append, List.map_cons, List.map_nil]
        exact List.nodup_append.mpr ⟨hok.nd, by simp, fun a ha b hb => by simp at hb; subst hb; intro e; subst e; exact hin ha⟩
      · simp only [List.map_append, List.map_cons, List.map_nil]
        exact List.nodup_append.mpr ⟨hok.nd, by simp, fun a ha b hb => by simp at hb; subst hb; intro e; subst e; exact hin ha⟩
      · intro x hx'
        rcases List.mem_append.mp hx' with hx' | hx'
        · exact hok.ms x hx'
        · simp at hx'; subst hx'; exact hm
      · intro m2 v2
        rw [List.mem_append, hok.iff]
        constructor
        · rintro (⟨q2, vs2, h1, h2⟩ | h1)
          · exact ⟨q2, vs2, by simp [h1], h2⟩
          · simp at h1
            obtain ⟨rfl, rfl⟩ := h1
            exact ⟨q, [v2], by simp, by simp⟩
        · rintro ⟨q2, vs2, h1, h2⟩
          rcases List.mem_append.mp h1 with h1 | h1
          · exact .inl ⟨q2, vs2, h1, h2⟩
          · simp at h1
            obtain ⟨rfl, rfl, rfl⟩ := h1
            simp at h2
            subst h2
            exact .inr (by simp)
      · intro x hx'
        rw [List.length_append]
        rcases List.mem_append.mp hx' with hx' | hx'
        · have := hok.len x hx'; omega
        · simp at hx'; subst hx'; simp
      · intro x hx'
        rcases List.mem_append.mp hx' with hx' | hx'
        · exact hok.ne x hx'
        · simp at hx'; subst hx'; simp
  rintro Δ μ ⟨x5, x6, xs, rfl, rfl, hok⟩
  have hxl := hok.xl W
  have hall : ∀ x, x ∈ xs → ∀ v, v ∈ x.2.2 ↔ Reach p (x.1, v) := by
    rintro ⟨m, q, vs⟩ hx v
    rw [hLf, hok.iff]
    constructor
    · exact fun hv => ⟨q, vs, hx, hv⟩
    · rintro ⟨q2, vs2, h1, h2⟩
      have := nodup_same hok.nd h1 hx rfl
      cases this
      exact h2
  refine ws_co (co_perm (μ' := xs.map rxO ++ [(pr, .dk ([] ++ xs.map rxK))]) (ν := []) ?_) ?_
  · simpa using (List.perm_append_comm (l₁ := [(pr, MO.dk (xs.map rxK))]) (l₂ := xs.map rxO))
  refine ws_co (co_innerK xs []) ?_
  rw [List.nil_append]
  refine ws_seq (ws_asg (we_dnew fun pu => ?_))
  refine ws_seq (ws_lock 0 rfl (fun o ws => ?_))
  refine ws_for (wi_keys (we_var rfl ⟨pr, 0, o, ws, _, rfl, rfl, ?_⟩))
  refine for_x xs (fun x => .d (.str x.1)) (by simp) (fun done Δ μ => ∃ (x5 : Option Sl), Δ = [some (.d (nL sc)), some (.d p.d), some (.l (runs.map nL)), some (.l ((sayF p).map Say.d)), some (.x (.ref pr)), x5, x6, some (.x (.ref pu)), none] ∧
      μ = [(pr, .dkF o ws (xs.map rxD)), (pu, .dk (done.map fun x => (x.1, .l ((heldQ p (Reach p) x.1).map Say.d))))])
    ⟨_, rfl, rfl⟩ (fun done Δ μ ⟨x5, _, e⟩ => by subst e; intro e' he; simp at he; subst he; simp) ?_ ?_
  · rintro done x rest Δ μ e ⟨x5, rfl, rfl⟩
    have hx : x ∈ xs := by rw [e]; simp
    have hnd := hok.nd
    have hdl : done.length ≤ 9 := by have := congrArg List.length e; simp at this; omega
    refine ⟨_, is12, gt_name (by decide), ?_⟩
    refine ws_dput (we_frz (we_lc (wi_list (we_var rfl ⟨_, _, lk_l, ?_⟩))))
    refine lc_x (sayF p) (fun y => .d y.d) (by simp) (fun y => if x.2.2.all (so y) = true then some y.d else none) (by omega) nokeep ?_ ?_
    · intro y hy
      refine ⟨_, gt_name (by decide), wt_B (we_call0 (wa_cons (we_var rfl (wa_cons (we_dget (we_var rfl (we_var rfl ⟨_, x.1, _, dk_f 0 rfl, rfl, rxD_get hnd hx, wa_nil ?_⟩)))))))⟩
      refine ⟨y, x.2.2, _, fun v hv => vw_so W hy (reach_ok W ((hall x hx v).mp hv)).2, rfl, .inl rfl, rfl, ?_⟩
      refine ⟨_, rfl, rfl, fun z => we_var rfl ⟨⟨_, rfl, by simp only [z, if_true]⟩, rfl⟩, fun z => by simp only [z, Bool.false_eq_true, if_false]⟩
    · intro q
      rw [filterMap_if]
      have hnk : x.1 ∉ (done.map fun x => (x.1, Sl.l ((heldQ p (Reach p) x.1).map Say.d))).map (·.1) := by
        rw [e] at hnd
        simp only [List.map_append, List.map_cons] at hnd
        intro z
        simp only [List.map_map, Function.comp_def] at z
        exact (List.nodup_append.mp hnd).2.2 x.1 z x.1 (by simp) rfl
      have hfl : (sayF p).filter (fun y => x.2.2.all (so y)) = heldQ p (Reach p) x.1 := by
        unfold heldQ
        apply List.filter_congr
        intro y _
        rw [Bool.eq_iff_iff]
        simp only [List.all_eq_true, decide_eq_true_eq]
        exact ⟨fun a v hv => a v ((hall x hx v).mpr hv), fun a v hv => a v ((hall x hx v).mp hv)⟩
      rw [hfl]
      refine ⟨2, q, _, _, rfl, rfl, rfl, we_var rfl (we_var rfl ⟨1, pu, _, x.1, rfl, rfl, rfl, by simp; omega, ?_⟩)⟩
      rw [putS_new hnk]
      exact ⟨_, rfl, by simp⟩
  rintro Δ μ ⟨x5, rfl, rfl⟩
  refine ⟨0, rfl, ?_⟩
  refine ws_co (co_drop 0) ?_
  have hdue : FallOk p (xs.map fun x => (x.1, Sl.l ((heldQ p (Reach p) x.1).map Say.d))) (Reach p) := by
    have hk : (xs.map fun x => (x.1, Sl.l ((heldQ p (Reach p) x.1).map Say.d))).map (·.1) = xs.map (·.1) := by simp [Function.comp_def]
    refine ⟨by rw [hk]; exact hok.nd, fun m hm => ?_, fun m ⟨v, hv⟩ => ?_, fun m hm => ?_⟩
    · rw [hk] at hm
      obtain ⟨x, hx, rfl⟩ := List.mem_map.mp hm
      exact hok.ms x hx
    · obtain ⟨q, vs, h1, h2⟩ := (hok.iff m v).mp ((hLf _).mp hv)
      exact getS_of_mem (by rw [hk]; exact hok.nd) (List.mem_map.mpr ⟨_, h1, rfl⟩)
    · rw [getS_none_iff, hk]
      intro z
      obtain ⟨⟨m', q, vs⟩, hx, e⟩ := List.mem_map.mp z
      simp only at e
      subst e
      cases vs with
      | nil => exact hok.ne _ hx rfl
      | cons v r => exact hm ⟨v, (hall _ hx v).mp (by simp)⟩
  generalize (xs.map fun x => (x.1, Sl.l ((heldQ p (Reach p) x.1).map Say.d))) = due at hdue ⊢
  refine ws_seq (ws_if (wt_not (wt_B (we_callI [0] (wa_cons (we_var rfl (wa_cons (we_var rfl (wa_cons (we_var rfl (wa_cons (we_var rfl (wa_nil ?_)))))))))))))
  refine ⟨_, rfl, p, runs, pu, due, hC, W, hrl, hns, hdue, rfl, rfl, _, rfl, cs_f rfl (ws_next ?_)⟩
  refine ws_retK 0 (we_callI [0] (wa_cons (we_var rfl (wa_cons (we_revL (we_var rfl ⟨_, lo_l, wa_cons (we_var rfl (wa_cons (we_var rfl (wa_nil ?_))))⟩))))))
  rw [← List.map_reverse]
  exact ⟨_, rfl, p, runs.reverse, pu, due, hC, W, by simpa using hrl, fun ns hn => hns ns (by simpa using hn), hdue, rfl, rfl, h⟩
end Sw
/-! SwAsm -/
set_option Elab.async false
set_option linter.all false
set_option maxRecDepth 100000
set_option maxHeartbeats 4000000
namespace Sw
open PySem L2 SwH
/-! ### from the head: each def keeps its word -/
structure Hd (K : PySem.W.Frag) (mg : Str → Option Value) : Prop where
  sd : He.SaysD SwH.fa SwH.fn K
  ex : SwH.ex K = true
  gl : ∀ x, (He.Fa.glo x).ok K = true → mg x = some (.ref (He.ga K x))
  fr : ∀ x, (He.Fa.free x).ok K = true → mg x = none
  it : ∀ x i, (He.Fa.int x i).ok K = true → ∃ t, mg x = some (.int i t)
abbrev cIn (K : PySem.W.Frag) : Addr := He.ga K "Inputs"
abbrev aOn (K : PySem.W.Frag) : Addr := He.ga K "OF_ONE"
section
variable {P : Program} {w : World} {K : PySem.W.Frag} {mg : Str → Option Value} {base : Heap}
theorem txt (Z : Hd K mg) : Txt K mg (aOn K) := ⟨Z.fr _ (Z.sd.fact 68 (f := .free "range") rfl),
  Z.fr _ (Z.sd.fact 69 (f := .free "len") rfl),
  Z.fr _ (Z.sd.fact 70 (f := .free "enumerate") rfl),
  Z.fr _ (Z.sd.fact 71 (f := .free "list") rfl),
  Z.fr _ (Z.sd.fact 72 (f := .free "tuple") rfl),
  Z.fr _ (Z.sd.fact 73 (f := .free "sorted") rfl),
  Z.fr _ (Z.sd.fact 74 (f := .free "zip") rfl),
  Z.fr _ (Z.sd.fact 75 (f := .free "min") rfl),
  Z.fr _ (Z.sd.fact 76 (f := .free "max") rfl),
  Z.fr _ (Z.sd.fact 77 (f := .free "isinstance") rfl),
  Z.fr _ (Z.sd.fact 78 (f := .free "int") rfl),
  Z.fr _ (Z.sd.fact 79 (f := .free "str") rfl),
  Z.fr _ (Z.sd.fact 80 (f := .free "bool") rfl),
  Z.it _ _ (Z.sd.fact 81 (f := .int "LEAST_DIVISOR" 2) rfl),
  Z.it _ _ (Z.sd.fact 82 (f := .int "GREATEST_DIVISOR" 6) rfl),
  Z.it _ _ (Z.sd.fact 83 (f := .int "WIDEST_GAP" 20) rfl),
  Z.it _ _ (Z.sd.fact 84 (f := .int "WIDEST_SUM" 40) rfl),
  Z.gl _ (Z.sd.fact 93 (f := .glo "OF_ONE") rfl), fun H => He.tupB_ok Z.ex H⟩
theorem inC (Z : Hd K mg) : InC K (cIn K) := ⟨He.cls_ok (Z.sd.fact 86 (f := .cls "Inputs") rfl), He.noat_ok (Z.sd.fact 89 (f := .noat "Inputs" "program") rfl), He.noat_ok (Z.sd.fact 90 (f := .noat "Inputs" "shortest") rfl)⟩
theorem g_box_bounds (Z : Hd K mg) : GF P w K mg base "box_bounds" 1 P_box_bounds (SPM ⟨P, w, K⟩ pre_bounds) := by
  obtain ⟨fd, F⟩ := Z.sd.def_ 4 (d := d_box_bounds) rfl
  exact ⟨_, fd, Z.gl _ (Z.sd.fact 1 (f := .glo "box_bounds") rfl), F.kp, (F.bindsN (fun _ _ _ _ _ _ us hl => match us, hl with | [_], _ => rfl)), ok_box_bounds (txt Z) F  _ (fn_len (by intro ss μ R h; repeat' (first | (obtain ⟨rfl, _⟩ := h; rfl) | (obtain ⟨_, h⟩ := h)))) (fn_rd (rd_box_bounds (c := ⟨P, w, K⟩)))⟩
theorem g_plain_ones (Z : Hd K mg) : GF P w K mg base "plain_ones" 1 P_plain_ones (SPM ⟨P, w, K⟩ pre_plain) := by
  obtain ⟨fd, F⟩ := Z.sd.def_ 5 (d := d_plain_ones) rfl
  exact ⟨_, fd, Z.gl _ (Z.sd.fact 2 (f := .glo "plain_ones") rfl), F.kp, (F.bindsN (fun _ _ _ _ _ _ us hl => match us, hl with | [_], _ => rfl)), ok_plain_ones (txt Z) F  _ (fn_len (by intro ss μ R h; repeat' (first | (obtain ⟨rfl, _⟩ := h; rfl) | (obtain ⟨_, h⟩ := h)))) (fn_rd (rd_plain_ones (c := ⟨P, w, K⟩)))⟩
theorem g_looser_ones (Z : Hd K mg) : GF P w K mg base "looser_ones" 1 P_looser_ones (SPM ⟨P, w, K⟩ pre_looser) := by
  obtain ⟨fd, F⟩ := Z.sd.def_ 6 (d := d_looser_ones) rfl
  exact ⟨_, fd, Z.gl _ (Z.sd.fact 3 (f := .glo "looser_ones") rfl), F.kp, (F.bindsN (fun _ _ _ _ _ _ us hl => match us, hl with | [_], _ => rfl)), ok_looser_ones (txt Z) F  _ (fn_len (by intro ss μ R h; repeat' (first | (obtain ⟨rfl, _⟩ := h; rfl) | (obtain ⟨_, h⟩ := h)))) (fn_rd (rd_looser_ones (c := ⟨P, w, K⟩)))⟩
theorem g_pairs_going_up (Z : Hd K mg) : GF P w K mg base "pairs_going_up" 1 P_pairs_going_up (SPM ⟨P, w, K⟩ pre_up) := by
  obtain ⟨fd, F⟩ := Z.sd.def_ 7 (d := d_pairs_going_up) rfl
  exact ⟨_, fd, Z.gl _ (Z.sd.fact 4 (f := .glo "pairs_going_up") rfl), F.kp, (F.bindsN (fun _ _ _ _ _ _ us hl => match us, hl with | [_], _ => rfl)), ok_pairs_going_up (txt Z) F  _ (fn_len (by intro ss μ R h; repeat' (first | (obtain ⟨rfl, _⟩ := h; rfl) | (obtain ⟨_, h⟩ := h)))) (fn_rd (rd_pairs_going_up (c := ⟨P, w, K⟩)))⟩
theorem g_pairs_unlike (Z : Hd K mg) : GF P w K mg base "pairs_unlike" 1 P_pairs_unlike (SPM ⟨P, w, K⟩ pre_un) := by
  obtain ⟨fd, F⟩ := Z.sd.def_ 8 (d := d_pairs_unlike) rfl
  exact ⟨_, fd, Z.gl _ (Z.sd.fact 5 (f := .glo "pairs_unlike") rfl), F.kp, (F.bindsN (fun _ _ _ _ _ _ us hl => match us, hl with | [_], _ => rfl)), ok_pairs_unlike (txt Z) F  _ (fn_len (by intro ss μ R h; repeat' (first | (obtain ⟨rfl, _⟩ := h; rfl) | (obtain ⟨_, h⟩ := h)))) (fn_rd (rd_pairs_unlike (c := ⟨P, w, K⟩)))⟩
theorem g_joined_ones (Z : Hd K mg) : GF P w K mg base "joined_ones" 2 P_joined_ones (SPM ⟨P, w, K⟩ pre_joined) := by
  obtain ⟨fd, F⟩ := Z.sd.def_ 9 (d := d_joined_ones) rfl
  exact ⟨_, fd, Z.gl _ (Z.sd.fact 6 (f := .glo "joined_ones") rfl), F.kp, (F.bindsN (fun _ _ _ _ _ _ us hl => match us, hl with | [_], _ => rfl)), ok_joined_ones (txt Z) F (g_pairs_going_up Z) (g_pairs_unlike Z) _ (fn_len (by intro ss μ R h; repeat' (first | (obtain ⟨rfl, _⟩ := h; rfl) | (obtain ⟨_, h⟩ := h)))) (fn_rd (rd_joined_ones (c := ⟨P, w, K⟩)))⟩
theorem g_sayings (Z : Hd K mg) : GF P w K mg base "sayings" 3 P_sayings (SPM ⟨P, w, K⟩ pre_sayings) := by
  obtain ⟨fd, F⟩ := Z.sd.def_ 10 (d := d_sayings) rfl
  exact ⟨_, fd, Z.gl _ (Z.sd.fact 7 (f := .glo "sayings") rfl), F.kp, (F.bindsN (fun _ _ _ _ _ _ us hl => match us, hl with | [_], _ => rfl)), ok_sayings (txt Z) F (g_box_bounds Z) (g_plain_ones Z) (g_looser_ones Z) (g_joined_ones Z) _ (fn_len (by intro ss μ R h; repeat' (first | (obtain ⟨rfl, _⟩ := h; rfl) | (obtain ⟨_, h⟩ := h)))) (fn_rd (rd_sayings (c := ⟨P, w, K⟩)))⟩
theorem g_law_cell (Z : Hd K mg) : GF P w K mg base "_law_cell" 1 P_law_cell (SPM ⟨P, w, K⟩ pre_cell) := by
  obtain ⟨fd, F⟩ := Z.sd.def_ 48 (d := d_law_cell) rfl
  exact ⟨_, fd, Z.gl _ (Z.sd.fact 45 (f := .glo "_law_cell") rfl), F.kp, (F.bindsN (fun _ _ _ _ _ _ us hl => match us, hl with | [_, _], _ => rfl)), ok_law_cell (txt Z) F  _ (fn_len (by intro ss μ R h; repeat' (first | (obtain ⟨rfl, _⟩ := h; rfl) | (obtain ⟨_, h⟩ := h)))) (fn_rd (rd_law_cell (c := ⟨P, w, K⟩)))⟩
theorem g_law_store (Z : Hd K mg) : GF P w K mg base "_law_store" 1 P_law_store (SPM ⟨P, w, K⟩ pre_store) := by
  obtain ⟨fd, F⟩ := Z.sd.def_ 49 (d := d_law_store) rfl
  exact ⟨_, fd, Z.gl _ (Z.sd.fact 46 (f := .glo "_law_store") rfl), F.kp, (F.bindsN (fun _ _ _ _ _ _ us hl => match us, hl with | [_], _ => rfl)), ok_law_store (txt Z) F  _ (fn_len (by intro ss μ R h; repeat' (first | (obtain ⟨rfl, _⟩ := h; rfl) | (obtain ⟨_, h⟩ := h)))) (fn_rd (rd_law_store (c := ⟨P, w, K⟩)))⟩
theorem g_law_take (Z : Hd K mg) : GF P w K mg base "_law_take" 1 P_law_take (SPM ⟨P, w, K⟩ pre_take) := by
  obtain ⟨fd, F⟩ := Z.sd.def_ 50 (d := d_law_take) rfl
  exact ⟨_, fd, Z.gl _ (Z.sd.fact 47 (f := .glo "_law_take") rfl), F.kp, (F.bindsN (fun _ _ _ _ _ _ us hl => match us, hl with | [_, _], _ => rfl)), ok_law_take (txt Z) F  _ (fn_len (by intro ss μ R h; repeat' (first | (obtain ⟨rfl, _⟩ := h; rfl) | (obtain ⟨_, h⟩ := h)))) (fn_rd (rd_law_take (c := ⟨P, w, K⟩)))⟩
theorem g_law_runs (Z : Hd K mg) : GF P w K mg base "_law_runs" 2 P_law_runs (SPM ⟨P, w, K⟩ pre_runs) := by
  obtain ⟨fd, F⟩ := Z.sd.def_ 57 (d := d_law_runs) rfl
  exact ⟨_, fd, Z.gl _ (Z.sd.fact 54 (f := .glo "_law_runs") rfl), F.kp, (F.bindsN (fun _ _ _ _ _ _ us hl => match us, hl with | [_, _], _ => rfl)), ok_law_runs (txt Z) F (g_law_cell Z) (g_law_store Z) (g_law_take Z) _ (fn_len (by intro ss μ R h; repeat' (first | (obtain ⟨rfl, _⟩ := h; rfl) | (obtain ⟨_, h⟩ := h)))) (fn_rd (rd_law_runs (c := ⟨P, w, K⟩)))⟩
theorem g_law_worth_k (Z : Hd K mg) : ∀ k, GF P w K mg base "_law_worth" k P_law_worth (SPM ⟨P, w, K⟩ (pre_lworth k))
  | 0 => by
    obtain ⟨fd, F⟩ := Z.sd.def_ 58 (d := d_law_worth) rfl
    refine ⟨_, fd, Z.gl _ (Z.sd.fact 55 (f := .glo "_law_worth") rfl), F.kp, (F.bindsN (fun _ _ _ _ _ _ us hl => match us, hl with | [_, _, _], _ => rfl)), ⟨?_, ?_⟩⟩
    · rintro vs H Q E ⟨B, ss, μ, R, _, _, _, hp, _⟩
      rcases hp with ⟨_, _, _, _, _, _, z, _⟩ <;> exact absurd z (by omega)
    · rintro A outer s H args us vs Q E _ _ _ _ ⟨B, ss, μ, R, _, _, _, hp, _⟩
      rcases hp with ⟨_, _, _, _, _, _, z, _⟩ <;> exact absurd z (by omega)
  | k + 1 => by
    obtain ⟨fd, F⟩ := Z.sd.def_ 58 (d := d_law_worth) rfl
    exact ⟨_, fd, Z.gl _ (Z.sd.fact 55 (f := .glo "_law_worth") rfl), F.kp, (F.bindsN (fun _ _ _ _ _ _ us hl => match us, hl with | [_, _, _], _ => rfl)), ok_law_worth (txt Z) F (g_law_worth_k Z k) _ (fn_len (by intro ss μ R h; repeat' (first | (obtain ⟨rfl, _⟩ := h; rfl) | (obtain ⟨_, h⟩ := h)))) (fn_rd (c := ⟨P, w, K⟩) (rd_law_worth k))⟩
theorem g_law_worth (Z : Hd K mg) : GF P w K mg base "_law_worth" 5 P_law_worth (SPM ⟨P, w, K⟩ (pre_lworth 4)) := by
  obtain ⟨f, fd, h1, h2, h3, h4⟩ := g_law_worth_k (P := P) (w := w) (base := base) Z 4
  exact ⟨f, fd, h1, h2, h3, h4.mono (by decide)⟩
theorem g_law_next (Z : Hd K mg) : GF P w K mg base "_law_next" 6 P_law_next (SPM ⟨P, w, K⟩ pre_lnext) := by
  obtain ⟨fd, F⟩ := Z.sd.def_ 59 (d := d_law_next) rfl
  exact ⟨_, fd, Z.gl _ (Z.sd.fact 56 (f := .glo "_law_next") rfl), F.kp, (F.bindsN (fun _ _ _ _ _ _ us hl => match us, hl with | [_, _, _, _], _ => rfl)), ok_law_next (txt Z) F (g_law_worth Z) _ (fn_len (by intro ss μ R h; repeat' (first | (obtain ⟨rfl, _⟩ := h; rfl) | (obtain ⟨_, h⟩ := h)))) (fn_rd (rd_law_next (c := ⟨P, w, K⟩)))⟩
theorem g_law_go_on (Z : Hd K mg) : GF P w K mg base "_law_go_on" 7 P_law_go_on (SPM ⟨P, w, K⟩ pre_goon) := by
  obtain ⟨fd, F⟩ := Z.sd.def_ 61 (d := d_law_go_on) rfl
  exact ⟨_, fd, Z.gl _ (Z.sd.fact 58 (f := .glo "_law_go_on") rfl), F.kp, (F.bindsN (fun _ _ _ _ _ _ us hl => match us, hl with | [_, _, _, _, _], _ => rfl)), ok_law_go_on (txt Z) F (g_law_next Z) _ (fn_len (by intro ss μ R h; repeat' (first | (obtain ⟨rfl, _⟩ := h; rfl) | (obtain ⟨_, h⟩ := h)))) (fn_rd (rd_law_go_on (c := ⟨P, w, K⟩)))⟩
theorem g_law_inputs (Z : Hd K mg) : GF P w K mg base "_law_inputs" 8 P_law_inputs (SPM ⟨P, w, K⟩ pre_linputs) := by
  obtain ⟨fd, F⟩ := Z.sd.def_ 62 (d := d_law_inputs) rfl
  exact ⟨_, fd, Z.gl _ (Z.sd.fact 59 (f := .glo "_law_inputs") rfl), F.kp, (F.bindsN (fun _ _ _ _ _ _ us hl => match us, hl with | [_], _ => rfl)), ok_law_inputs (txt Z) F (g_law_next Z) (g_law_go_on Z) _ (fn_len (by intro ss μ R h; repeat' (first | (obtain ⟨rfl, _⟩ := h; rfl) | (obtain ⟨_, h⟩ := h)))) (fn_rd (rd_law_inputs (c := ⟨P, w, K⟩)))⟩
theorem g_law_so (Z : Hd K mg) : GF P w K mg base "_law_so" 1 P_law_so (SPM ⟨P, w, K⟩ pre_so) := by
  obtain ⟨fd, F⟩ := Z.sd.def_ 63 (d := d_law_so) rfl
  exact ⟨_, fd, Z.gl _ (Z.sd.fact 60 (f := .glo "_law_so") rfl), F.kp, (F.bindsN (fun _ _ _ _ _ _ us hl => match us, hl with | [_, _], _ => rfl)), ok_law_so (txt Z) F  _ (fn_len (by intro ss μ R h; repeat' (first | (obtain ⟨rfl, _⟩ := h; rfl) | (obtain ⟨_, h⟩ := h)))) (fn_rd (rd_law_so (c := ⟨P, w, K⟩)))⟩
theorem g_law_all (Z : Hd K mg) : GF P w K mg base "_law_all" 2 P_law_all (SPM ⟨P, w, K⟩ pre_all) := by
  obtain ⟨fd, F⟩ := Z.sd.def_ 64 (d := d_law_all) rfl
  exact ⟨_, fd, Z.gl _ (Z.sd.fact 61 (f := .glo "_law_all") rfl), F.kp, (F.bindsN (fun _ _ _ _ _ _ us hl => match us, hl with | [_, _], _ => rfl)), ok_law_all (txt Z) F (g_law_so Z) _ (fn_len (by intro ss μ R h; repeat' (first | (obtain ⟨rfl, _⟩ := h; rfl) | (obtain ⟨_, h⟩ := h)))) (fn_rd (rd_law_all (c := ⟨P, w, K⟩)))⟩
theorem g_law_names (Z : Hd K mg) : GF P w K mg base "_law_names" 2 P_law_names (SPM ⟨P, w, K⟩ pre_names) := by
  obtain ⟨fd, F⟩ := Z.sd.def_ 51 (d := d_law_names) rfl
  exact ⟨_, fd, Z.gl _ (Z.sd.fact 48 (f := .glo "_law_names") rfl), F.kp, (F.bindsN (fun _ _ _ _ _ _ us hl => match us, hl with | [_, _], _ => rfl)), ok_law_names (txt Z) F (g_law_take Z) _ (fn_len (by intro ss μ R h; repeat' (first | (obtain ⟨rfl, _⟩ := h; rfl) | (obtain ⟨_, h⟩ := h)))) (fn_rd (rd_law_names (c := ⟨P, w, K⟩)))⟩
theorem g_law_boxes (Z : Hd K mg) : GF P w K mg base "_law_boxes" 3 P_law_boxes (SPM ⟨P, w, K⟩ pre_boxes) := by
  obtain ⟨fd, F⟩ := Z.sd.def_ 52 (d := d_law_boxes) rfl
  exact ⟨_, fd, Z.gl _ (Z.sd.fact 49 (f := .glo "_law_boxes") rfl), F.kp, (F.bindsN (fun _ _ _ _ _ _ us hl => match us, hl with | [_, _], _ => rfl)), ok_law_boxes (txt Z) F (g_law_take Z) (g_law_names Z) _ (fn_len (by intro ss μ R h; repeat' (first | (obtain ⟨rfl, _⟩ := h; rfl) | (obtain ⟨_, h⟩ := h)))) (fn_rd (rd_law_boxes (c := ⟨P, w, K⟩)))⟩
theorem g_law_number (Z : Hd K mg) : GF P w K mg base "_law_number" 1 P_law_number (SPM ⟨P, w, K⟩ pre_number) := by
  obtain ⟨fd, F⟩ := Z.sd.def_ 53 (d := d_law_number) rfl
  exact ⟨_, fd, Z.gl _ (Z.sd.fact 50 (f := .glo "_law_number") rfl), F.kp, (F.bindsN (fun _ _ _ _ _ _ us hl => match us, hl with | [_], _ => rfl)), ok_law_number (txt Z) F  _ (fn_len (by intro ss μ R h; repeat' (first | (obtain ⟨rfl, _⟩ := h; rfl) | (obtain ⟨_, h⟩ := h)))) (fn_rd (rd_law_number (c := ⟨P, w, K⟩)))⟩
theorem g_law_drawn (Z : Hd K mg) : GF P w K mg base "_law_drawn" 2 P_law_drawn (SPM ⟨P, w, K⟩ pre_drawn) := by
  obtain ⟨fd, F⟩ := Z.sd.def_ 54 (d := d_law_drawn) rfl
  exact ⟨_, fd, Z.gl _ (Z.sd.fact 51 (f := .glo "_law_drawn") rfl), F.kp, (F.bindsN (fun _ _ _ _ _ _ us hl => match us, hl with | [_, _, _], _ => rfl)), ok_law_drawn (txt Z) F (g_law_take Z) (g_law_number Z) _ (fn_len (by intro ss μ R h; repeat' (first | (obtain ⟨rfl, _⟩ := h; rfl) | (obtain ⟨_, h⟩ := h)))) (fn_rd (rd_law_drawn (c := ⟨P, w, K⟩)))⟩
theorem g_law_row (Z : Hd K mg) : GF P w K mg base "_law_row" 3 P_law_row (SPM ⟨P, w, K⟩ pre_row) := by
  obtain ⟨fd, F⟩ := Z.sd.def_ 55 (d := d_law_row) rfl
  exact ⟨_, fd, Z.gl _ (Z.sd.fact 52 (f := .glo "_law_row") rfl), F.kp, (F.bindsN (fun _ _ _ _ _ _ us hl => match us, hl with | [_, _, _], _ => rfl)), ok_law_row (txt Z) F (g_law_take Z) (g_law_number Z) (g_law_drawn Z) _ (fn_len (by intro ss μ R h; repeat' (first | (obtain ⟨rfl, _⟩ := h; rfl) | (obtain ⟨_, h⟩ := h)))) (fn_rd (rd_law_row (c := ⟨P, w, K⟩)))⟩
theorem g_law_rows (Z : Hd K mg) : GF P w K mg base "_law_rows" 4 P_law_rows (SPM ⟨P, w, K⟩ pre_rows) := by
  obtain ⟨fd, F⟩ := Z.sd.def_ 56 (d := d_law_rows) rfl
  exact ⟨_, fd, Z.gl _ (Z.sd.fact 53 (f := .glo "_law_rows") rfl), F.kp, (F.bindsN (fun _ _ _ _ _ _ us hl => match us, hl with | [_, _, _, _], _ => rfl)), ok_law_rows (txt Z) F (g_law_take Z) (g_law_names Z) (g_law_row Z) _ (fn_len (by intro ss μ R h; repeat' (first | (obtain ⟨rfl, _⟩ := h; rfl) | (obtain ⟨_, h⟩ := h)))) (fn_rd (rd_law_rows (c := ⟨P, w, K⟩)))⟩
theorem g_law_program (Z : Hd K mg) : GF P w K mg base "_law_program" 5 P_law_program (SPM ⟨P, w, K⟩ pre_program) := by
  obtain ⟨fd, F⟩ := Z.sd.def_ 67 (d := d_law_program) rfl
  exact ⟨_, fd, Z.gl _ (Z.sd.fact 64 (f := .glo "_law_program") rfl), F.kp, (F.bindsN (fun _ _ _ _ _ _ us hl => match us, hl with | [_], _ => rfl)), ok_law_program (txt Z) F (g_law_cell Z) (g_law_store Z) (g_law_take Z) (g_law_boxes Z) (g_law_rows Z) _ (fn_len (by intro ss μ R h; repeat' (first | (obtain ⟨rfl, _⟩ := h; rfl) | (obtain ⟨_, h⟩ := h)))) (fn_rd (rd_law_program (c := ⟨P, w, K⟩)))⟩
theorem g_value_tuples (Z : Hd K mg) : GF P w K mg base "value_tuples" 1 P_value_tuples (SPM ⟨P, w, K⟩ pre_values) := by
  obtain ⟨fd, F⟩ := Z.sd.def_ 23 (d := d_value_tuples) rfl
  exact ⟨_, fd, Z.gl _ (Z.sd.fact 20 (f := .glo "value_tuples") rfl), F.kp, (F.bindsN (fun _ _ _ _ _ _ us hl => match us, hl with | [_], _ => rfl)), ok_value_tuples (txt Z) F  _ (fn_len (by intro ss μ R h; repeat' (first | (obtain ⟨rfl, _⟩ := h; rfl) | (obtain ⟨_, h⟩ := h)))) (fn_rd (rd_value_tuples (c := ⟨P, w, K⟩)))⟩
theorem g_kind_at (Z : Hd K mg) : GF P w K mg base "kind_at" 1 P_kind_at (SPM ⟨P, w, K⟩ pre_kind) := by
  obtain ⟨fd, F⟩ := Z.sd.def_ 26 (d := d_kind_at) rfl
  exact ⟨_, fd, Z.gl _ (Z.sd.fact 23 (f := .glo "kind_at") rfl), F.kp, (F.bindsN (fun _ _ _ _ _ _ us hl => match us, hl with | [_, _], _ => rfl)), ok_kind_at (txt Z) F  _ (fn_len (by intro ss μ R h; repeat' (first | (obtain ⟨rfl, _⟩ := h; rfl) | (obtain ⟨_, h⟩ := h)))) (fn_rd (rd_kind_at (c := ⟨P, w, K⟩)))⟩
theorem g_worth_k (Z : Hd K mg) : ∀ k, GF P w K mg base "worth" k P_worth (SPM ⟨P, w, K⟩ (pre_worth k))
  | 0 => by
    obtain ⟨fd, F⟩ := Z.sd.def_ 3 (d := d_worth) rfl
    refine ⟨_, fd, Z.gl _ (Z.sd.fact 0 (f := .glo "worth") rfl), F.kp, (F.bindsN (fun _ _ _ _ _ _ us hl => match us, hl with | [_, _], _ => rfl)), ⟨?_, ?_⟩⟩
    · rintro vs H Q E ⟨B, ss, μ, R, _, _, _, hp, _⟩
      rcases hp with ⟨_, _, _, _, _, _, _, _, _, z, _⟩ <;> exact absurd z (by omega)
    · rintro A outer s H args us vs Q E _ _ _ _ ⟨B, ss, μ, R, _, _, _, hp, _⟩
      rcases hp with ⟨_, _, _, _, _, _, _, _, _, z, _⟩ <;> exact absurd z (by omega)
  | k + 1 => by
    obtain ⟨fd, F⟩ := Z.sd.def_ 3 (d := d_worth) rfl
    exact ⟨_, fd, Z.gl _ (Z.sd.fact 0 (f := .glo "worth") rfl), F.kp, (F.bindsN (fun _ _ _ _ _ _ us hl => match us, hl with | [_, _], _ => rfl)), ok_worth (txt Z) F (g_worth_k Z k) _ (fn_len (by intro ss μ R h; repeat' (first | (obtain ⟨rfl, _⟩ := h; rfl) | (obtain ⟨_, h⟩ := h)))) (fn_rd (c := ⟨P, w, K⟩) (rd_worth k))⟩
theorem g_worth (Z : Hd K mg) : GF P w K mg base "worth" 5 P_worth (SPM ⟨P, w, K⟩ (pre_worth 4)) := by
  obtain ⟨f, fd, h1, h2, h3, h4⟩ := g_worth_k (P := P) (w := w) (base := base) Z 4
  exact ⟨f, fd, h1, h2, h3, h4.mono (by decide)⟩
theorem g_by_names (Z : Hd K mg) : GF P w K mg base "by_names" 1 P_by_names (SPM ⟨P, w, K⟩ pre_bynames) := by
  obtain ⟨fd, F⟩ := Z.sd.def_ 16 (d := d_by_names) rfl
  exact ⟨_, fd, Z.gl _ (Z.sd.fact 13 (f := .glo "by_names") rfl), F.kp, (F.bindsN (fun _ _ _ _ _ _ us hl => match us, hl with | [_, _], _ => rfl)), ok_by_names (txt Z) F  _ (fn_len (by intro ss μ R h; repeat' (first | (obtain ⟨rfl, _⟩ := h; rfl) | (obtain ⟨_, h⟩ := h)))) (fn_rd (rd_by_names (c := ⟨P, w, K⟩)))⟩
theorem g_with_number (Z : Hd K mg) : GF P w K mg base "with_number" 1 P_with_number (SPM ⟨P, w, K⟩ pre_withn) := by
  obtain ⟨fd, F⟩ := Z.sd.def_ 17 (d := d_with_number) rfl
  exact ⟨_, fd, Z.gl _ (Z.sd.fact 14 (f := .glo "with_number") rfl), F.kp, (F.bindsN (fun _ _ _ _ _ _ us hl => match us, hl with | [_, _, _], _ => rfl)), ok_with_number (txt Z) F  _ (fn_len (by intro ss μ R h; repeat' (first | (obtain ⟨rfl, _⟩ := h; rfl) | (obtain ⟨_, h⟩ := h)))) (fn_rd (rd_with_number (c := ⟨P, w, K⟩)))⟩
theorem g_taken_in (Z : Hd K mg) : GF P w K mg base "taken_in" 2 P_taken_in (SPM ⟨P, w, K⟩ pre_taken) := by
  obtain ⟨fd, F⟩ := Z.sd.def_ 18 (d := d_taken_in) rfl
  exact ⟨_, fd, Z.gl _ (Z.sd.fact 15 (f := .glo "taken_in") rfl), F.kp, (F.bindsN (fun _ _ _ _ _ _ us hl => match us, hl with | [_, _, _, _], _ => rfl)), ok_taken_in (txt Z) F (g_with_number Z) _ (fn_len (by intro ss μ R h; repeat' (first | (obtain ⟨rfl, _⟩ := h; rfl) | (obtain ⟨_, h⟩ := h)))) (fn_rd (rd_taken_in (c := ⟨P, w, K⟩)))⟩
theorem g_holds (Z : Hd K mg) : GF P w K mg base "holds" 1 P_holds (SPM ⟨P, w, K⟩ pre_holds) := by
  obtain ⟨fd, F⟩ := Z.sd.def_ 19 (d := d_holds) rfl
  exact ⟨_, fd, Z.gl _ (Z.sd.fact 16 (f := .glo "holds") rfl), F.kp, (F.bindsN (fun _ _ _ _ _ _ us hl => match us, hl with | [_, _, _], _ => rfl)), ok_holds (txt Z) F  _ (fn_len (by intro ss μ R h; repeat' (first | (obtain ⟨rfl, _⟩ := h; rfl) | (obtain ⟨_, h⟩ := h)))) (fn_rd (rd_holds (c := ⟨P, w, K⟩)))⟩
theorem g_step (Z : Hd K mg) : GF P w K mg base "step" 6 P_step (SPM ⟨P, w, K⟩ pre_step) := by
  obtain ⟨fd, F⟩ := Z.sd.def_ 20 (d := d_step) rfl
  exact ⟨_, fd, Z.gl _ (Z.sd.fact 17 (f := .glo "step") rfl), F.kp, (F.bindsN (fun _ _ _ _ _ _ us hl => match us, hl with | [_, _, _], _ => rfl)), ok_step (txt Z) F (g_worth Z) (g_by_names Z) (g_taken_in Z) (g_holds Z) _ (fn_len (by intro ss μ R h; repeat' (first | (obtain ⟨rfl, _⟩ := h; rfl) | (obtain ⟨_, h⟩ := h)))) (fn_rd (rd_step (c := ⟨P, w, K⟩)))⟩
theorem g_numbers_for (Z : Hd K mg) : GF P w K mg base "numbers_for" 1 P_numbers_for (SPM ⟨P, w, K⟩ pre_numbers) := by
  obtain ⟨fd, F⟩ := Z.sd.def_ 27 (d := d_numbers_for) rfl
  exact ⟨_, fd, Z.gl _ (Z.sd.fact 24 (f := .glo "numbers_for") rfl), F.kp, (F.bindsN (fun _ _ _ _ _ _ us hl => match us, hl with | [_, _], _ => rfl)), ok_numbers_for (txt Z) F  _ (fn_len (by intro ss μ R h; repeat' (first | (obtain ⟨rfl, _⟩ := h; rfl) | (obtain ⟨_, h⟩ := h)))) (fn_rd (rd_numbers_for (c := ⟨P, w, K⟩)))⟩
theorem g_behind (Z : Hd K mg) : GF P w K mg base "behind" 7 P_behind (SPM ⟨P, w, K⟩ pre_behind) := by
  obtain ⟨fd, F⟩ := Z.sd.def_ 28 (d := d_behind) rfl
  exact ⟨_, fd, Z.gl _ (Z.sd.fact 25 (f := .glo "behind") rfl), F.kp, (F.bindsN (fun _ _ _ _ _ _ us hl => match us, hl with | [_, _], _ => rfl)), ok_behind (txt Z) F (g_step Z) (g_kind_at Z) (g_numbers_for Z) _ (fn_len (by intro ss μ R h; repeat' (first | (obtain ⟨rfl, _⟩ := h; rfl) | (obtain ⟨_, h⟩ := h)))) (fn_rd (rd_behind (c := ⟨P, w, K⟩)))⟩
theorem g_next_marks (Z : Hd K mg) : GF P w K mg base "next_marks" 8 P_next_marks (SPM ⟨P, w, K⟩ pre_nm) := by
  obtain ⟨fd, F⟩ := Z.sd.def_ 29 (d := d_next_marks) rfl
  exact ⟨_, fd, Z.gl _ (Z.sd.fact 26 (f := .glo "next_marks") rfl), F.kp, (F.bindsN (fun _ _ _ _ _ _ us hl => match us, hl with | [_, _], _ => rfl)), ok_next_marks (txt Z) F (g_kind_at Z) (g_behind Z) _ (fn_len (by intro ss μ R h; repeat' (first | (obtain ⟨rfl, _⟩ := h; rfl) | (obtain ⟨_, h⟩ := h)))) (fn_rd (rd_next_marks (c := ⟨P, w, K⟩)))⟩
theorem g_next_of (Z : Hd K mg) : GF P w K mg base "next_of" 9 P_next_of (SPM ⟨P, w, K⟩ pre_nextof) := by
  obtain ⟨fd, F⟩ := Z.sd.def_ 30 (d := d_next_of) rfl
  exact ⟨_, fd, Z.gl _ (Z.sd.fact 27 (f := .glo "next_of") rfl), F.kp, (F.bindsN (fun _ _ _ _ _ _ us hl => match us, hl with | [_, _, _], _ => rfl)), ok_next_of (txt Z) F (g_next_marks Z) _ (fn_len (by intro ss μ R h; repeat' (first | (obtain ⟨rfl, _⟩ := h; rfl) | (obtain ⟨_, h⟩ := h)))) (fn_rd (rd_next_of (c := ⟨P, w, K⟩)))⟩
theorem g_first_standing_ways (Z : Hd K mg) : GF P w K mg base "first_standing_ways" 1 P_first_standing_ways (SPM ⟨P, w, K⟩ pre_first) := by
  obtain ⟨fd, F⟩ := Z.sd.def_ 25 (d := d_first_standing_ways) rfl
  exact ⟨_, fd, Z.gl _ (Z.sd.fact 22 (f := .glo "first_standing_ways") rfl), F.kp, (F.bindsN (fun _ _ _ _ _ _ us hl => match us, hl with | [_], _ => rfl)), ok_first_standing_ways (txt Z) F  _ (fn_len (by intro ss μ R h; repeat' (first | (obtain ⟨rfl, _⟩ := h; rfl) | (obtain ⟨_, h⟩ := h)))) (fn_rd (rd_first_standing_ways (c := ⟨P, w, K⟩)))⟩
theorem g_first_of (Z : Hd K mg) : GF P w K mg base "first_of" 9 P_first_of (SPM ⟨P, w, K⟩ pre_firstof) := by
  obtain ⟨fd, F⟩ := Z.sd.def_ 31 (d := d_first_of) rfl
  exact ⟨_, fd, Z.gl _ (Z.sd.fact 28 (f := .glo "first_of") rfl), F.kp, (F.bindsN (fun _ _ _ _ _ _ us hl => match us, hl with | [_], _ => rfl)), ok_first_of (txt Z) F (g_first_standing_ways Z) (g_next_marks Z) _ (fn_len (by intro ss μ R h; repeat' (first | (obtain ⟨rfl, _⟩ := h; rfl) | (obtain ⟨_, h⟩ := h)))) (fn_rd (rd_first_of (c := ⟨P, w, K⟩)))⟩
theorem g_so_of_one (Z : Hd K mg) : GF P w K mg base "so_of_one" 1 P_so_of_one (SPM ⟨P, w, K⟩ pre_so1) := by
  obtain ⟨fd, F⟩ := Z.sd.def_ 11 (d := d_so_of_one) rfl
  exact ⟨_, fd, Z.gl _ (Z.sd.fact 8 (f := .glo "so_of_one") rfl), F.kp, (F.bindsN (fun _ _ _ _ _ _ us hl => match us, hl with | [_, _], _ => rfl)), ok_so_of_one (txt Z) F  _ (fn_len (by intro ss μ R h; repeat' (first | (obtain ⟨rfl, _⟩ := h; rfl) | (obtain ⟨_, h⟩ := h)))) (fn_rd (rd_so_of_one (c := ⟨P, w, K⟩)))⟩
theorem g_so_of_more (Z : Hd K mg) : GF P w K mg base "so_of_more" 1 P_so_of_more (SPM ⟨P, w, K⟩ pre_so2) := by
  obtain ⟨fd, F⟩ := Z.sd.def_ 12 (d := d_so_of_more) rfl
  exact ⟨_, fd, Z.gl _ (Z.sd.fact 9 (f := .glo "so_of_more") rfl), F.kp, (F.bindsN (fun _ _ _ _ _ _ us hl => match us, hl with | [_, _, _], _ => rfl)), ok_so_of_more (txt Z) F  _ (fn_len (by intro ss μ R h; repeat' (first | (obtain ⟨rfl, _⟩ := h; rfl) | (obtain ⟨_, h⟩ := h)))) (fn_rd (rd_so_of_more (c := ⟨P, w, K⟩)))⟩
theorem g_is_so (Z : Hd K mg) : GF P w K mg base "is_so" 2 P_is_so (SPM ⟨P, w, K⟩ pre_so) := by
  obtain ⟨fd, F⟩ := Z.sd.def_ 13 (d := d_is_so) rfl
  exact ⟨_, fd, Z.gl _ (Z.sd.fact 10 (f := .glo "is_so") rfl), F.kp, (F.bindsN (fun _ _ _ _ _ _ us hl => match us, hl with | [_, _], _ => rfl)), ok_is_so (txt Z) F (g_so_of_one Z) (g_so_of_more Z) _ (fn_len (by intro ss μ R h; repeat' (first | (obtain ⟨rfl, _⟩ := h; rfl) | (obtain ⟨_, h⟩ := h)))) (fn_rd (rd_is_so (c := ⟨P, w, K⟩) (txt Z).ofOne.2))⟩
theorem g_all_so (Z : Hd K mg) : GF P w K mg base "all_so" 3 P_all_so (SPM ⟨P, w, K⟩ pre_allso) := by
  obtain ⟨fd, F⟩ := Z.sd.def_ 33 (d := d_all_so) rfl
  exact ⟨_, fd, Z.gl _ (Z.sd.fact 30 (f := .glo "all_so") rfl), F.kp, (F.bindsN (fun _ _ _ _ _ _ us hl => match us, hl with | [_, _], _ => rfl)), ok_all_so (txt Z) F (g_is_so Z) _ (fn_len (by intro ss μ R h; repeat' (first | (obtain ⟨rfl, _⟩ := h; rfl) | (obtain ⟨_, h⟩ := h)))) (fn_rd (rd_all_so (c := ⟨P, w, K⟩)))⟩
theorem g_keep_so (Z : Hd K mg) : GF P w K mg base "keep_so" 3 P_keep_so (SPM ⟨P, w, K⟩ pre_keep) := by
  obtain ⟨fd, F⟩ := Z.sd.def_ 34 (d := d_keep_so) rfl
  exact ⟨_, fd, Z.gl _ (Z.sd.fact 31 (f := .glo "keep_so") rfl), F.kp, (F.bindsN (fun _ _ _ _ _ _ us hl => match us, hl with | [_, _, _], _ => rfl)), ok_keep_so (txt Z) F (g_is_so Z) _ (fn_len (by intro ss μ R h; repeat' (first | (obtain ⟨rfl, _⟩ := h; rfl) | (obtain ⟨_, h⟩ := h)))) (fn_rd (rd_keep_so (c := ⟨P, w, K⟩)))⟩
theorem g_greatest (Z : Hd K mg) : GF P w K mg base "greatest" 10 P_greatest (SPM ⟨P, w, K⟩ pre_greatest) := by
  obtain ⟨fd, F⟩ := Z.sd.def_ 35 (d := d_greatest) rfl
  exact ⟨_, fd, Z.gl _ (Z.sd.fact 32 (f := .glo "greatest") rfl), F.kp, (F.bindsN (fun _ _ _ _ _ _ us hl => match us, hl with | [_, _], _ => rfl)), ok_greatest (txt Z) F (g_value_tuples Z) (g_next_of Z) (g_first_of Z) (g_all_so Z) (g_keep_so Z) _ (fn_len (by intro ss μ R h; repeat' (first | (obtain ⟨rfl, _⟩ := h; rfl) | (obtain ⟨_, h⟩ := h)))) (fn_rd (rd_greatest (c := ⟨P, w, K⟩)))⟩
theorem g_marks_of (Z : Hd K mg) : GF P w K mg base "marks_of" 1 P_marks_of (SPM ⟨P, w, K⟩ pre_marks) := by
  obtain ⟨fd, F⟩ := Z.sd.def_ 24 (d := d_marks_of) rfl
  exact ⟨_, fd, Z.gl _ (Z.sd.fact 21 (f := .glo "marks_of") rfl), F.kp, (F.bindsN (fun _ _ _ _ _ _ us hl => match us, hl with | [_], _ => rfl)), ok_marks_of (txt Z) F  _ (fn_len (by intro ss μ R h; repeat' (first | (obtain ⟨rfl, _⟩ := h; rfl) | (obtain ⟨_, h⟩ := h)))) (fn_rd (rd_marks_of (c := ⟨P, w, K⟩)))⟩
theorem mi_gone_on (Z : Hd K mg) : MI P w K mg base (cIn K) "gone_on" 7 P_Inputs_gone_on (SPM ⟨P, w, K⟩ (pre_gone K)) := by
  obtain ⟨fd, F⟩ := Z.sd.def_ 2 (d := d_Inputs_gone_on) rfl
  exact ⟨(inC Z).cl, _, fd, He.meth_ok (Z.sd.fact 92 (f := .meth "Inputs" "gone_on") rfl), (F.bindsN (fun _ _ _ _ _ _ us hl => match us, hl with | [_, _, _, _], _ => rfl)), ok_Inputs_gone_on (txt Z) F (g_step Z) (g_kind_at Z) (g_numbers_for Z) _ (fn_len (by intro ss μ R h; repeat' (first | (obtain ⟨rfl, _⟩ := h; rfl) | (obtain ⟨_, h⟩ := h)))) (fn_rd (rd_gone_on (c := ⟨P, w, K⟩)))⟩
theorem mi_next_level (Z : Hd K mg) : MI P w K mg base (cIn K) "next_level" 8 P_Inputs_next_level (SPM ⟨P, w, K⟩ (pre_level K (cIn K))) := by
  obtain ⟨fd, F⟩ := Z.sd.def_ 1 (d := d_Inputs_next_level) rfl
  exact ⟨(inC Z).cl, _, fd, He.meth_ok (Z.sd.fact 91 (f := .meth "Inputs" "next_level") rfl), (F.bindsN (fun _ _ _ _ _ _ us hl => match us, hl with | [_, _], _ => rfl)), ok_Inputs_next_level (txt Z) F (mi_gone_on Z) _ (fn_len (by intro ss μ R h; repeat' (first | (obtain ⟨rfl, _⟩ := h; rfl) | (obtain ⟨_, h⟩ := h)))) (fn_rd (rd_next_level (c := ⟨P, w, K⟩) (C := cIn K)))⟩
theorem ki (Z : Hd K mg) : KI P w K mg base (cIn K) 9 P_Inputs_init (SPM ⟨P, w, K⟩ (pre_init K (cIn K))) := by
  obtain ⟨fd, F⟩ := Z.sd.def_ 0 (d := d_Inputs_init) rfl
  exact ⟨Z.gl _ (Z.sd.fact 85 (f := .glo "Inputs") rfl), _, fd, He.mkr_ok (Z.sd.fact 87 (f := .mkr "Inputs") rfl), (F.bindsN (fun _ _ _ _ _ _ us hl => match us, hl with | [_, _], _ => rfl)), ok_Inputs_init (txt Z) F (mi_next_level Z) (g_first_standing_ways Z) _ (fn_len (by intro ss μ R h; repeat' (first | (obtain ⟨rfl, _⟩ := h; rfl) | (obtain ⟨_, h⟩ := h)))) (fn_rd (rd_Inputs_init (c := ⟨P, w, K⟩) (C := cIn K)))⟩
theorem g_inputs_of (Z : Hd K mg) : GF P w K mg base "inputs_of" 11 P_inputs_of (SPM ⟨P, w, K⟩ (pre_inpof K (cIn K))) := by
  obtain ⟨fd, F⟩ := Z.sd.def_ 32 (d := d_inputs_of) rfl
  exact ⟨_, fd, Z.gl _ (Z.sd.fact 29 (f := .glo "inputs_of") rfl), F.kp, (F.bindsN (fun _ _ _ _ _ _ us hl => match us, hl with | [_], _ => rfl)), ok_inputs_of (txt Z) F (ki Z) (g_kind_at Z) _ (fn_len (by intro ss μ R h; repeat' (first | (obtain ⟨rfl, _⟩ := h; rfl) | (obtain ⟨_, h⟩ := h)))) (fn_rd (rd_inputs_of (c := ⟨P, w, K⟩) (C := cIn K)))⟩
theorem g_inputs_by_marks (Z : Hd K mg) : GF P w K mg base "inputs_by_marks" 12 P_inputs_by_marks (SPM ⟨P, w, K⟩ (pre_ibm K (cIn K))) := by
  obtain ⟨fd, F⟩ := Z.sd.def_ 39 (d := d_inputs_by_marks) rfl
  exact ⟨_, fd, Z.gl _ (Z.sd.fact 36 (f := .glo "inputs_by_marks") rfl), F.kp, (F.bindsN (fun _ _ _ _ _ _ us hl => match us, hl with | [_], _ => rfl)), ok_inputs_by_marks (txt Z) F (g_marks_of Z) (g_inputs_of Z) _ (fn_len (by intro ss μ R h; repeat' (first | (obtain ⟨rfl, _⟩ := h; rfl) | (obtain ⟨_, h⟩ := h)))) (fn_rd (rd_inputs_by_marks (c := ⟨P, w, K⟩) (C := cIn K)))⟩
theorem g_first_standing_machine (Z : Hd K mg) : GF P w K mg base "first_standing_machine" 1 P_first_standing_machine (SPM ⟨P, w, K⟩ pre_first) := by
  obtain ⟨fd, F⟩ := Z.sd.def_ 15 (d := d_first_standing_machine) rfl
  exact ⟨_, fd, Z.gl _ (Z.sd.fact 12 (f := .glo "first_standing_machine") rfl), F.kp, (F.bindsN (fun _ _ _ _ _ _ us hl => match us, hl with | [_], _ => rfl)), ok_first_standing_machine (txt Z) F  _ (fn_len (by intro ss μ R h; repeat' (first | (obtain ⟨rfl, _⟩ := h; rfl) | (obtain ⟨_, h⟩ := h)))) (fn_rd (rd_first_standing_machine (c := ⟨P, w, K⟩)))⟩
theorem g_word_at (Z : Hd K mg) : GF P w K mg base "word_at" 1 P_word_at (SPM ⟨P, w, K⟩ pre_word) := by
  obtain ⟨fd, F⟩ := Z.sd.def_ 21 (d := d_word_at) rfl
  exact ⟨_, fd, Z.gl _ (Z.sd.fact 18 (f := .glo "word_at") rfl), F.kp, (F.bindsN (fun _ _ _ _ _ _ us hl => match us, hl with | [_, _], _ => rfl)), ok_word_at (txt Z) F  _ (fn_len (by intro ss μ R h; repeat' (first | (obtain ⟨rfl, _⟩ := h; rfl) | (obtain ⟨_, h⟩ := h)))) (fn_rd (rd_word_at (c := ⟨P, w, K⟩)))⟩
theorem g_run (Z : Hd K mg) : GF P w K mg base "run" 7 P_run (SPM ⟨P, w, K⟩ pre_run) := by
  obtain ⟨fd, F⟩ := Z.sd.def_ 22 (d := d_run) rfl
  exact ⟨_, fd, Z.gl _ (Z.sd.fact 19 (f := .glo "run") rfl), F.kp, (F.bindsN (fun _ _ _ _ _ _ us hl => match us, hl with | [_, _], _ => rfl)), ok_run (txt Z) F (g_first_standing_machine Z) (g_step Z) (g_word_at Z) _ (fn_len (by intro ss μ R h; repeat' (first | (obtain ⟨rfl, _⟩ := h; rfl) | (obtain ⟨_, h⟩ := h)))) (fn_rd (rd_run (c := ⟨P, w, K⟩)))⟩
theorem g_seen (Z : Hd K mg) : GF P w K mg base "seen" 8 P_seen (SPM ⟨P, w, K⟩ pre_seen) := by
  obtain ⟨fd, F⟩ := Z.sd.def_ 36 (d := d_seen) rfl
  exact ⟨_, fd, Z.gl _ (Z.sd.fact 33 (f := .glo "seen") rfl), F.kp, (F.bindsN (fun _ _ _ _ _ _ us hl => match us, hl with | [_, _], _ => rfl)), ok_seen (txt Z) F (g_run Z) (g_marks_of Z) _ (fn_len (by intro ss μ R h; repeat' (first | (obtain ⟨rfl, _⟩ := h; rfl) | (obtain ⟨_, h⟩ := h)))) (fn_rd (rd_seen (c := ⟨P, w, K⟩)))⟩
theorem g_so_of_all (Z : Hd K mg) : GF P w K mg base "so_of_all" 3 P_so_of_all (SPM ⟨P, w, K⟩ pre_all) := by
  obtain ⟨fd, F⟩ := Z.sd.def_ 37 (d := d_so_of_all) rfl
  exact ⟨_, fd, Z.gl _ (Z.sd.fact 34 (f := .glo "so_of_all") rfl), F.kp, (F.bindsN (fun _ _ _ _ _ _ us hl => match us, hl with | [_, _], _ => rfl)), ok_so_of_all (txt Z) F (g_is_so Z) _ (fn_len (by intro ss μ R h; repeat' (first | (obtain ⟨rfl, _⟩ := h; rfl) | (obtain ⟨_, h⟩ := h)))) (fn_rd (rd_so_of_all (c := ⟨P, w, K⟩)))⟩
theorem g_held (Z : Hd K mg) : GF P w K mg base "held" 9 P_held (SPM ⟨P, w, K⟩ pre_held) := by
  obtain ⟨fd, F⟩ := Z.sd.def_ 38 (d := d_held) rfl
  exact ⟨_, fd, Z.gl _ (Z.sd.fact 35 (f := .glo "held") rfl), F.kp, (F.bindsN (fun _ _ _ _ _ _ us hl => match us, hl with | [_, _, _], _ => rfl)), ok_held (txt Z) F (g_sayings Z) (g_seen Z) (g_so_of_all Z) _ (fn_len (by intro ss μ R h; repeat' (first | (obtain ⟨rfl, _⟩ := h; rfl) | (obtain ⟨_, h⟩ := h)))) (fn_rd (rd_held (c := ⟨P, w, K⟩)))⟩
theorem g_all_held (Z : Hd K mg) : GF P w K mg base "all_held" 10 P_all_held (SPM ⟨P, w, K⟩ pre_allheld) := by
  obtain ⟨fd, F⟩ := Z.sd.def_ 41 (d := d_all_held) rfl
  exact ⟨_, fd, Z.gl _ (Z.sd.fact 38 (f := .glo "all_held") rfl), F.kp, (F.bindsN (fun _ _ _ _ _ _ us hl => match us, hl with | [_, _], _ => rfl)), ok_all_held (txt Z) F (g_marks_of Z) (g_held Z) _ (fn_len (by intro ss μ R h; repeat' (first | (obtain ⟨rfl, _⟩ := h; rfl) | (obtain ⟨_, h⟩ := h)))) (fn_rd (rd_all_held (c := ⟨P, w, K⟩)))⟩
theorem g_paper_of (Z : Hd K mg) : GF P w K mg base "paper_of" 4 P_paper_of (SPM ⟨P, w, K⟩ pre_paper) := by
  obtain ⟨fd, F⟩ := Z.sd.def_ 42 (d := d_paper_of) rfl
  exact ⟨_, fd, Z.gl _ (Z.sd.fact 39 (f := .glo "paper_of") rfl), F.kp, (F.bindsN (fun _ _ _ _ _ _ us hl => match us, hl with | [_, _], _ => rfl)), ok_paper_of (txt Z) F (g_sayings Z) _ (fn_len (by intro ss μ R h; repeat' (first | (obtain ⟨rfl, _⟩ := h; rfl) | (obtain ⟨_, h⟩ := h)))) (fn_rd (rd_paper_of (c := ⟨P, w, K⟩)))⟩
theorem g_breaking (Z : Hd K mg) : GF P w K mg base "breaking" 3 P_breaking (SPM ⟨P, w, K⟩ pre_breaking) := by
  obtain ⟨fd, F⟩ := Z.sd.def_ 40 (d := d_breaking) rfl
  exact ⟨_, fd, Z.gl _ (Z.sd.fact 37 (f := .glo "breaking") rfl), F.kp, (F.bindsN (fun _ _ _ _ _ _ us hl => match us, hl with | [_, _], _ => rfl)), ok_breaking (txt Z) F (g_is_so Z) _ (fn_len (by intro ss μ R h; repeat' (first | (obtain ⟨rfl, _⟩ := h; rfl) | (obtain ⟨_, h⟩ := h)))) (fn_rd (rd_breaking (c := ⟨P, w, K⟩)))⟩
theorem g_verdict_of (Z : Hd K mg) : GF P w K mg base "verdict_of" 4 P_verdict_of (SPM ⟨P, w, K⟩ pre_verdict) := by
  obtain ⟨fd, F⟩ := Z.sd.def_ 43 (d := d_verdict_of) rfl
  exact ⟨_, fd, Z.gl _ (Z.sd.fact 40 (f := .glo "verdict_of") rfl), F.kp, (F.bindsN (fun _ _ _ _ _ _ us hl => match us, hl with | [_, _, _], _ => rfl)), ok_verdict_of (txt Z) F (g_breaking Z) _ (fn_len (by intro ss μ R h; repeat' (first | (obtain ⟨rfl, _⟩ := h; rfl) | (obtain ⟨_, h⟩ := h)))) (fn_rd (rd_verdict_of (c := ⟨P, w, K⟩)))⟩
theorem g_judged (Z : Hd K mg) : GF P w K mg base "judged" 13 P_judged (SPM ⟨P, w, K⟩ (pre_judged K (cIn K))) := by
  obtain ⟨fd, F⟩ := Z.sd.def_ 44 (d := d_judged) rfl
  exact ⟨_, fd, Z.gl _ (Z.sd.fact 41 (f := .glo "judged") rfl), F.kp, (F.bindsN (fun _ _ _ _ _ _ us hl => match us, hl with | [_, _], _ => rfl)), ok_judged (txt Z) F (g_greatest Z) (g_inputs_by_marks Z) (g_all_held Z) (g_paper_of Z) (g_verdict_of Z) _ (fn_len (by intro ss μ R h; repeat' (first | (obtain ⟨rfl, _⟩ := h; rfl) | (obtain ⟨_, h⟩ := h)))) (fn_rd (rd_judged (c := ⟨P, w, K⟩) (C := cIn K)))⟩
theorem g_with_all_marks (Z : Hd K mg) : GF P w K mg base "with_all_marks" 8 P_with_all_marks (SPM ⟨P, w, K⟩ pre_wam) := by
  obtain ⟨fd, F⟩ := Z.sd.def_ 45 (d := d_with_all_marks) rfl
  exact ⟨_, fd, Z.gl _ (Z.sd.fact 42 (f := .glo "with_all_marks") rfl), F.kp, (F.bindsN (fun _ _ _ _ _ _ us hl => match us, hl with | [_, _, _], _ => rfl)), ok_with_all_marks (txt Z) F (g_run Z) (g_marks_of Z) _ (fn_len (by intro ss μ R h; repeat' (first | (obtain ⟨rfl, _⟩ := h; rfl) | (obtain ⟨_, h⟩ := h)))) (fn_rd (rd_with_all_marks (c := ⟨P, w, K⟩)))⟩
theorem g_first_broken (Z : Hd K mg) : GF P w K mg base "first_broken" 11 P_first_broken (SPM ⟨P, w, K⟩ pre_fb) := by
  obtain ⟨fd, F⟩ := Z.sd.def_ 46 (d := d_first_broken) rfl
  exact ⟨_, fd, Z.gl _ (Z.sd.fact 43 (f := .glo "first_broken") rfl), F.kp, (F.bindsN (fun _ _ _ _ _ _ us hl => match us, hl with | [_, _, _, _], _ => rfl)), ok_first_broken (txt Z) F (g_breaking Z) (g_all_held Z) _ (fn_len (by intro ss μ R h; repeat' (first | (obtain ⟨rfl, _⟩ := h; rfl) | (obtain ⟨_, h⟩ := h)))) (fn_rd (rd_first_broken (c := ⟨P, w, K⟩)))⟩
theorem g_settled (Z : Hd K mg) : GF P w K mg base "settled" 13 P_settled (SPM ⟨P, w, K⟩ (pre_settled K (cIn K))) := by
  obtain ⟨fd, F⟩ := Z.sd.def_ 47 (d := d_settled) rfl
  exact ⟨_, fd, Z.gl _ (Z.sd.fact 44 (f := .glo "settled") rfl), F.kp, (F.bindsN (fun _ _ _ _ _ _ us hl => match us, hl with | [_, _], _ => rfl)), ok_settled (txt Z) F (g_inputs_by_marks Z) (g_with_all_marks Z) (g_first_broken Z) _ (fn_len (by intro ss μ R h; repeat' (first | (obtain ⟨rfl, _⟩ := h; rfl) | (obtain ⟨_, h⟩ := h)))) (fn_rd (rd_settled (c := ⟨P, w, K⟩) (C := cIn K)))⟩
theorem g_law_like_k (Z : Hd K mg) : ∀ k, GF P w K mg base "_law_like" k P_law_like (SPM ⟨P, w, K⟩ (pre_like k))
  | 0 => by
    obtain ⟨fd, F⟩ := Z.sd.def_ 65 (d := d_law_like) rfl
    refine ⟨_, fd, Z.gl _ (Z.sd.fact 62 (f := .glo "_law_like") rfl), F.kp, (F.bindsN (fun _ _ _ _ _ _ us hl => match us, hl with | [_, _], _ => rfl)), ⟨?_, ?_⟩⟩
    · rintro vs H Q E ⟨B, ss, μ, R, _, _, _, hp, _⟩
      rcases hp with ⟨_, ⟨_, _, z, _⟩ | ⟨_, _, _, z, _⟩⟩ <;> first | exact absurd z (by omega) | exact z.elim
    · rintro A outer s H args us vs Q E _ _ _ _ ⟨B, ss, μ, R, _, _, _, hp, _⟩
      rcases hp with ⟨_, ⟨_, _, z, _⟩ | ⟨_, _, _, z, _⟩⟩ <;> first | exact absurd z (by omega) | exact z.elim
  | k + 1 => by
    obtain ⟨fd, F⟩ := Z.sd.def_ 65 (d := d_law_like) rfl
    exact ⟨_, fd, Z.gl _ (Z.sd.fact 62 (f := .glo "_law_like") rfl), F.kp, (F.bindsN (fun _ _ _ _ _ _ us hl => match us, hl with | [_, _], _ => rfl)), ok_law_like (txt Z) F (g_law_like_k Z k) _ (fn_len (by rintro ss μ R ⟨_, ⟨_, _, _, rfl, _⟩ | ⟨_, _, _, _, _, _, rfl, _⟩⟩ <;> rfl)) (fn_rd (c := ⟨P, w, K⟩) (rd_law_like k))⟩
theorem g_law_like (Z : Hd K mg) : GF P w K mg base "_law_like" 4 P_law_like (SPM ⟨P, w, K⟩ (pre_like 3)) := by
  obtain ⟨f, fd, h1, h2, h3, h4⟩ := g_law_like_k (P := P) (w := w) (base := base) Z 3
  exact ⟨f, fd, h1, h2, h3, h4.mono (by decide)⟩
theorem g_law_passed (Z : Hd K mg) : GF P w K mg base "_law_passed" 7 P_law_passed (SPM ⟨P, w, K⟩ pre_passed) := by
  obtain ⟨fd, F⟩ := Z.sd.def_ 60 (d := d_law_passed) rfl
  exact ⟨_, fd, Z.gl _ (Z.sd.fact 57 (f := .glo "_law_passed") rfl), F.kp, (F.bindsN (fun _ _ _ _ _ _ us hl => match us, hl with | [_, _], _ => rfl)), ok_law_passed (txt Z) F (g_law_next Z) _ (fn_len (by intro ss μ R h; repeat' (first | (obtain ⟨rfl, _⟩ := h; rfl) | (obtain ⟨_, h⟩ := h)))) (fn_rd (rd_law_passed (c := ⟨P, w, K⟩)))⟩
theorem g_law_fall (Z : Hd K mg) : GF P w K mg base "_law_fall" 8 P_law_fall (SPM ⟨P, w, K⟩ pre_fall) := by
  obtain ⟨fd, F⟩ := Z.sd.def_ 66 (d := d_law_fall) rfl
  exact ⟨_, fd, Z.gl _ (Z.sd.fact 63 (f := .glo "_law_fall") rfl), F.kp, (F.bindsN (fun _ _ _ _ _ _ us hl => match us, hl with | [_, _, _, _], _ => rfl)), ok_law_fall (txt Z) F (g_law_passed Z) (g_law_so Z) _ (fn_len (by intro ss μ R h; repeat' (first | (obtain ⟨rfl, _⟩ := h; rfl) | (obtain ⟨_, h⟩ := h)))) (fn_rd (rd_law_fall (c := ⟨P, w, K⟩)))⟩
theorem g_law_whole_lists (Z : Hd K mg) : GF P w K mg base "_law_whole_lists" 1 P_law_whole_lists (SPM ⟨P, w, K⟩ pre_whole) := by
  obtain ⟨fd, F⟩ := Z.sd.def_ 68 (d := d_law_whole_lists) rfl
  exact ⟨_, fd, Z.gl _ (Z.sd.fact 65 (f := .glo "_law_whole_lists") rfl), F.kp, (F.bindsN (fun _ _ _ _ _ _ us hl => match us, hl with | [_], _ => rfl)), ok_law_whole_lists (txt Z) F  _ (fn_len (by intro ss μ R h; repeat' (first | (obtain ⟨rfl, _⟩ := h; rfl) | (obtain ⟨_, h⟩ := h)))) (fn_rd (rd_law_whole_lists (c := ⟨P, w, K⟩)))⟩
theorem g_law_settles (Z : Hd K mg) : GF P w K mg base "_law_settles" 14 P_law_settles (SPM ⟨P, w, K⟩ (pre_settles K (cIn K))) := by
  obtain ⟨fd, F⟩ := Z.sd.def_ 69 (d := d_law_settles) rfl
  exact ⟨_, fd, Z.gl _ (Z.sd.fact 66 (f := .glo "_law_settles") rfl), F.kp, (F.bindsN (fun _ _ _ _ _ _ us hl => match us, hl with | [_, _, _, _], _ => rfl)), ok_law_settles (txt Z) F (g_judged Z) (g_settled Z) (g_law_like Z) (g_law_fall Z) (g_law_whole_lists Z) _ (fn_len (by intro ss μ R h; repeat' (first | (obtain ⟨rfl, _⟩ := h; rfl) | (obtain ⟨_, h⟩ := h)))) (fn_rd (rd_law_settles (c := ⟨P, w, K⟩) (C := cIn K)))⟩
theorem g_law (Z : Hd K mg) {fd : FuncData} (F : FnP K "law" "law" SwH.s_law (He.ga K "law") fd) : FnOk P w K mg base CX0 15 (He.ga K "law") fd P_law (SPM ⟨P, w, K⟩ (pre_law K (cIn K))) := ok_law (txt Z) F (g_sayings Z) (g_law_runs Z) (g_law_inputs Z) (g_law_all Z) (g_law_program Z) (g_law_settles Z) _ (fn_len (by intro ss μ R h; repeat' (first | (obtain ⟨rfl, _⟩ := h; rfl) | (obtain ⟨_, h⟩ := h)))) (fn_rd (rd_law (c := ⟨P, w, K⟩) (C := cIn K)))
end
end Sw
/-! SwEnd -/
set_option Elab.async false
set_option linter.all false
set_option maxRecDepth 100000
set_option maxHeartbeats 2000000
namespace Sw
open PySem PySem.Spec PyProof.Rows L2 SwH
theorem facts {P : Program} {w : World} {K : PySem.W.Frag} {h : Heap} {mg : Str → Option Value} {f : Addr} (X : K.In h) (G : h.Ns mainGlobals mg) (hfa : mg ("law" : Str) = some (.ref f)) (c : He.SaysX SwH.fa SwH.fn [] [] SwH.ex w h K) :
    Hd K mg ∧ ∃ fd : FuncData, (∀ (s : Shared) (v : Value), BindsTo s fd ⟨[v], []⟩ [("script", v)]) ∧ ∀ base : Heap, K.In base → base.Ns mainGlobals mg → FnOk P w K mg base CX0 15 f fd ["script"] (SPM ⟨P, w, K⟩ (pre_law K (cIn K))) := by
  have Z : Hd K mg := ⟨c.t.d, c.more, fun x h => He.glo_ok X G h, fun x h => He.free_ok X G h, fun x i h => He.int_ok X G h⟩
  obtain ⟨fd, F⟩ := Z.sd.def_ 70 (d := d_law) rfl
  have e := hfa.symm.trans (Z.gl _ (Z.sd.fact 67 (f := .glo "law") rfl))
  cases e
  have b := FunD.bindsA (ps := ["script"]) F fun _ _ _ _ _ _ us hl => match us, hl with | [_], _ => rfl
  exact ⟨Z, fd, fun s v => b s [v] rfl, fun base _ _ => g_law Z F⟩
end Sw
theorem PySem.Challenge.cw_sayswho_k63_whole_held_is_what_is_so_holds : PySem.Challenge.rw_sayswho_k63_whole_held_is_what_is_so.Holds := by
  refine SwH.holds_of fun w mg fa h Y G hmg => ?_
  obtain ⟨K, KX, c⟩ := Y
  obtain ⟨Z, fd, hb, hF⟩ := Sw.facts (P := PySem.Challenge.rw_sayswho_k63_whole_held_is_what_is_so.prog) (w := w) KX G hmg c
  refine ⟨K, fd, _, KX, hb, fun H a ns hl _ hS => ?_, hF⟩
  refine ⟨H, [.d (Sw.nL ns)], [], fun s _ => s = .d (.bool true), L2.Same.refl _, .cons (.lst hS (L2.DpAll.ints ns)) .nil, Sw.Mu.nil, ⟨ns, Sw.inC Z, hl, rfl, rfl, rfl⟩, fun v B' H' s μ' hs _ _ hv => ?_⟩
  subst hs
  exact L2.Dp.bl_inv hv
